import PyProof.Rows.All
import HandS.ForMost
import HandS.Exc
import HandS.WordsExc
import HandS.TryOnly
import HandS.TryMany
import HandS.ExcSuper
import HandS.ExcValue
import HandS.IsInst
import HandS.Wide
import HandS.Deep
import HandS.Flow
import HandS.Zip
import HandS.Defaults
import HandS.CallSlots
import HandS.DictComp
import HandS.TupAny
import KE.KExcIs
import HandS.ExcField
import HandS.ExcIs
import KE.KTryMore
import HandS.ExcOwn
import HandS.Small
import KE.KExcSuper
import KE.KExcInit
import KE.KSuper
import HandS.ExcInit
import HandS.Style
import HandS.Head0
import HandS.Head1
import HandS.Head2
import HandS.HeadEnd
import HandS.EndBits
import HandS.HeadHook1
import HandS.HeadHook2
import PySem.Challenge.RW_handeddown_k54_folders_moved
section
set_option Elab.async false
set_option linter.all false
set_option maxRecDepth 100000
/-! G1: a small evaluator over plain values: the values, the heap of changeable things, the terms, what they do -/
namespace G
open PySem

/-- a value: data without places; ref n: the n-th changeable thing; exc: a caught error -/
inductive W where
  | non | bl (b : Bool) | int (i : Int) | str (s : Str)
  | tup (xs : List W) | lst (xs : List W) | dic (kvs : List (W × W))
  | ref (n : Nat) | exc (c : Nat) (fs : List (Str × W))
instance : Inhabited W := ⟨.non⟩
/-- a changeable thing (frz: a list that is read only) -/
inductive O where
  | lst (xs : List W) | frz (xs : List W) | dic (kvs : List (W × W)) | ins (c : Nat) (fs : List (Str × W))
abbrev Hw := List O
abbrev Env := List (Option W)
inductive Out (α : Type) where
  | ok (a : α) (h : Hw) | exc (c : Nat) (fs : List (Str × W)) (h : Hw) | stuck
def Out.bind {α β : Type} : Out α → (α → Hw → Out β) → Out β
  | .ok a h, f => f a h
  | .exc c fs h, _ => .exc c fs h
  | .stuck, _ => .stuck
@[simp] theorem Out.bind_ok {α β : Type} (a : α) (h : Hw) (f : α → Hw → Out β) : (Out.ok a h).bind f = f a h := rfl
@[simp] theorem Out.bind_exc {α β : Type} (c : Nat) (fs : List (Str × W)) (h : Hw) (f : α → Hw → Out β) : (Out.exc c fs h : Out α).bind f = .exc c fs h := rfl
@[simp] theorem Out.bind_stuck {α β : Type} (f : α → Hw → Out β) : (Out.stuck : Out α).bind f = .stuck := rfl
/-- an option as an end -/
def Out.of {α : Type} (o : Option α) (h : Hw) : Out α := match o with
  | some a => .ok a h
  | none => .stuck
@[simp] theorem Out.of_some {α : Type} (a : α) (h : Hw) : Out.of (some a) h = .ok a h := rfl
@[simp] theorem Out.of_none {α : Type} (h : Hw) : Out.of (none : Option α) h = .stuck := rfl

/-! ### the terms -/
inductive Bop where | add | sub | mul | fdiv | mod | pow
inductive Cop where | eq | ne | lt | le | gt | ge | isN | isnN | inn | nin
/-- a class that isinstance asks for -/
inductive Cl where | blt (n : String) | own (c : Nat)
/-- what is built in, by the kinds that are served; m: the list (dict) that is made is changed later -/
inductive P where
  | len | abs | int | tuple | list (m : Bool) | sorted (m : Bool) | sum | all | any
  | str | repr
  | append | popAt | pop | extend | remove | index | split (m : Bool) | join
  | dict (m : Bool) | get1 | get2 | items | vals
/-- what is walked -/
inductive SK where | val | rng | rng2 | enum | zip | items | vals
inductive T where
  | nm (i : Nat) | tp (ts : List T)
inductive E where
  | var (i : Nat) | cst (w : W)
  | tup (es : List E) | lst (m : Bool) (es : List E) | dic (m : Bool)
  | bin (m : Bool) (op : Bop) (a b : E) | cmp (op : Cop) (a b : E) | cmp2 (o1 o2 : Cop) (a b c : E)
  | and (a b : E) | or (a b : E) | orV (a b : E) | not (a : E) | ite (t a b : E)
  | call (f : Nat) (es : List E) (perm : List Nat)
  | prim (p : P) (es : List E) | bm (p : P) (o : E) (es : List E) | isi (cs : List Cl) (a : E)
  | idx (a i : E) | slc (m : Bool) (a : E) (lo hi : List E) | rev (m : Bool) (a : E)
  | comp (m : Bool) (elt : E) (tg : T) (k : SK) (srcs : List E) (ifs : List E) (wp : List Nat)
  | dcomp (m : Bool) (key val : E) (tg : T) (k : SK) (srcs : List E) (ifs : List E) (wp : List Nat)
  | fld (a : E) (f : Str) | fldX (a : E) (f : Str)
  | meth (a : E) (m : Str) (es : List E)
  | make (c : Nat) (es : List E)
/-- what an except suite stores -/
inductive HV where | cst (w : W) | exc (j : Nat)
inductive S where
  | set (i : Nat) (e : E) | par (is : List Nat) (es : List E) | unp (t : T) (e : E)
  | sfld (o : E) (f : Str) (e : E) | ssub (o i e : E)
  | expr (e : E)
  | ite (t : E) (a b : List S) | for (tg : T) (k : SK) (srcs : List E) (body : List S) | while (t : E) (body : List S)
  | ret (e : E) | retN | raise (c : Nat) (es : List E)
  | try (body : List S) (hs : List (List Nat × Nat × HV))
  | pass | brk | cont | stk
structure Fn where
  np : Nat
  ns : Nat
  body : List S
end G
end
section
set_option Elab.async false
set_option linter.all false
set_option maxRecDepth 100000
/-! G2: what the terms do -/
namespace G
open PySem L2

/-! ### reading -/
def getL (h : Hw) : W → Option (List W)
  | .lst xs => some xs
  | .ref n => match h[n]? with
    | some (.lst xs) => some xs
    | some (.frz xs) => some xs
    | _ => none
  | _ => none
/-- the same, not of a frozen one -/
def getX (h : Hw) : W → Option (List W)
  | .lst xs => some xs
  | .ref n => match h[n]? with
    | some (.lst xs) => some xs
    | _ => none
  | _ => none
def getS (h : Hw) : W → Option (List W)
  | .tup xs => some xs
  | w => getL h w
def getD (h : Hw) : W → Option (List (W × W))
  | .dic kvs => some kvs
  | .ref n => match h[n]? with
    | some (.dic kvs) => some kvs
    | _ => none
  | _ => none
def sz (n : Nat) : Bool := decide (n ≤ 16777216)
def mkL (m : Bool) (xs : List W) (h : Hw) : Out W :=
  if sz xs.length then (if m then .ok (.ref h.length) (h ++ [.lst xs]) else .ok (.lst xs) h) else .stuck
def mkD (m : Bool) (xs : List (W × W)) (h : Hw) : Out W :=
  if sz xs.length then (if m then .ok (.ref h.length) (h ++ [.dic xs]) else .ok (.dic xs) h) else .stuck
def mkT (xs : List W) (h : Hw) : Out W := if sz xs.length then .ok (.tup xs) h else .stuck

/-! ### equality, order -/
def flatW : W → Bool
  | .non => true | .bl _ => true | .int _ => true | .str _ => true
  | _ => false
/-- == of flat things; none: a bool beside an int, or a thing that isn't flat -/
def eqF : W → W → Option Bool
  | .non, .non => some true
  | .bl a, .bl b => some (decide (a = b))
  | .int a, .int b => some (decide (a = b))
  | .str a, .str b => some (decide (a = b))
  | .non, .bl _ => some false | .non, .int _ => some false | .non, .str _ => some false
  | .bl _, .non => some false | .bl _, .str _ => some false
  | .int _, .non => some false | .int _, .str _ => some false
  | .str _, .non => some false | .str _, .bl _ => some false | .str _, .int _ => some false
  | _, _ => none
mutual
def toD : W → Option PyData
  | .non => some .none | .bl b => some (.bool b) | .int i => some (.int i) | .str s => some (.str s)
  | .tup xs => (toDs xs).map .tuple
  | .lst xs => (toDs xs).map .list
  | _ => none
def toDs : List W → Option (List PyData)
  | [] => some []
  | x :: xs => match toD x with
    | none => none
    | some d => match toDs xs with
      | none => none
      | some ds => some (d :: ds)
end
def topD (h : Hw) : W → Option PyData
  | .ref n => match h[n]? with
    | some (.lst xs) => (toDs xs).map .list
    | _ => none
  | w => toD w
/-- == of two things at any depth -/
def eqW (h : Hw) (a b : W) : Option Bool := match eqF a b with
  | some r => some r
  | none => match topD h a with
    | none => none
    | some d => match topD h b with
      | none => none
      | some e => if SeqAt.shaped d && SeqAt.shaped e then some (PyData.eqv d e) else none
/-- x in a list or tuple of flat things (no bool beside an int); deep: by data -/
def inF (x : W) : List W → Option Bool
  | [] => some false
  | y :: ys => match eqF y x with
    | none => none
    | some r => match inF x ys with
      | none => none
      | some q => some (r || q)
def inW (h : Hw) (x y : W) : Option Bool := match y with
  | .str z => match x with
    | .str c => if c.length == 1 then some (decide (c ∈ z.cps.toList.map fun n => (⟨#[n]⟩ : Str))) else none
    | _ => none
  | y => match getS h y with
    | none => none
    | some ys => if flatW x then inF x ys else match toD x with
      | none => none
      | some d => match topD h y with
        | some (.list ds) => if SeqAt.shaped d && SeqAt.shaped (.list ds) then some (ds.any fun z => PyData.eqv z d) else none
        | _ => none
def keyB : W → W → Bool
  | .str a, .str b => decide (a = b)
  | _, _ => false

/-! ### operators -/
def small64 (i : Int) : Bool := decide (-(2 ^ 64) < i ∧ i < 2 ^ 64)
def binW (m : Bool) (op : Bop) (a b : W) (h : Hw) : Out W := match op, a, b with
  | .add, .int i, .int j => .ok (.int (i + j)) h
  | .sub, .int i, .int j => .ok (.int (i - j)) h
  | .mul, .int i, .int j => if small64 i || small64 j then .ok (.int (i * j)) h else .stuck
  | .fdiv, .int i, .int j => if decide (0 < j ∧ j < 2 ^ 30) then .ok (.int (i / j)) h else .stuck
  | .mod, .int i, .int j => if decide (0 < j) then .ok (.int (i % j)) h else .stuck
  | .pow, .int i, .int j => if decide (0 ≤ j ∧ j ≤ 63 ∧ -(2 ^ 64) < i ∧ i < 2 ^ 64) then .ok (.int (i ^ j.toNat)) h else .stuck
  | .add, .str x, .str y => if sz (x.length + y.length) then .ok (.str (x ++ y)) h else .stuck
  | .add, a, b => match getX h a with
    | some xs => match getX h b with
      | some ys => mkL m (xs ++ ys) h
      | none => .stuck
    | none => .stuck
  | _, _, _ => .stuck
def isNonW : W → Bool
  | .non => true
  | _ => false
def cmpW (op : Cop) (a b : W) (h : Hw) : Option Bool := match op with
  | .eq => eqW h a b
  | .ne => (eqW h a b).map (!·)
  | .isN => some (isNonW a)
  | .isnN => some (!isNonW a)
  | .inn => inW h a b
  | .nin => (inW h a b).map (!·)
  | .lt => match a, b with
    | .int i, .int j => some (decide (i < j))
    | .str x, .str y => some (decide (x.cps.toList < y.cps.toList))
    | _, _ => none
  | .le => match a, b with
    | .int i, .int j => some (decide (i ≤ j))
    | _, _ => none
  | .gt => match a, b with
    | .int i, .int j => some (decide (j < i))
    | _, _ => none
  | .ge => match a, b with
    | .int i, .int j => some (decide (j ≤ i))
    | _, _ => none

/-! ### places -/
def ixAt (xs : List W) (i : Int) : Option W := if 0 ≤ i then xs[i.toNat]? else if 0 ≤ i + xs.length then xs[(i + xs.length).toNat]? else none
def lookK (k : W) : List (W × W) → Option W
  | [] => none
  | (j, v) :: r => if keyB k j then some v else lookK k r
def idxW (a i : W) (h : Hw) : Option W := match getS h a with
  | some xs => match i with
    | .int j => if decide (-(2 ^ 62) < j ∧ j < 2 ^ 62) then ixAt xs j else none
    | _ => none
  | none => none

/-- a part of a list -/
def cutW {α : Type} (xs : List α) (lo hi : Option Int) : List α := (xs.drop (HT.sIx xs.length 0 lo)).take (HT.sIx xs.length xs.length hi - HT.sIx xs.length 0 lo)
def intO : List W → Option (Option Int)
  | [] => some none
  | [.int i] => some (some i)
  | _ => none
def slcW (m : Bool) (x : W) (lo hi : Option Int) (h : Hw) : Out W := match x with
  | .str z => if sz z.length then .ok (.str (cutS z lo hi)) h else .stuck
  | .tup xs => .ok (.tup (cutW xs lo hi)) h
  | x => match getL h x with
    | some xs => mkL m (cutW xs lo hi) h
    | none => .stuck
/-! ### targets -/
mutual
def asg (h : Hw) : T → W → Env → Option Env
  | .nm i, w, env => if i < env.length then some (env.set i (some w)) else none
  | .tp ts, .tup xs, env => asgs h ts xs env
  | _, _, _ => none
def asgs (h : Hw) : List T → List W → Env → Option Env
  | [], [], env => some env
  | t :: ts, x :: xs, env => match asg h t x env with
    | none => none
    | some e => asgs h ts xs e
  | _, _, _ => none
end
def wipeW : Env → List Nat → Env
  | env, [] => env
  | env, v :: vs => (wipeW env vs).set v none

/-! ### built in -/
/-- is a thing of a built-in kind -/
def isBlt (h : Hw) (w : W) (n : String) : Option Bool := match w with
  | .non => some (n == "NoneType")
  | .bl _ => some (n == "bool" || n == "int")
  | .int _ => some (n == "int")
  | .str _ => some (n == "str")
  | .tup _ => some (n == "tuple")
  | .lst _ => some (n == "list")
  | .dic _ => some (n == "dict")
  | .ref k => match h[k]? with
    | some (.lst _) => some (n == "list")
    | some (.frz _) => some (n == "list")
    | some (.dic _) => some (n == "dict")
    | _ => none
  | _ => none
/-- the classes that isinstance is asked for -/
def vN : List String := ["list", "tuple", "str", "bool", "int", "dict"]
def xN : List String := ["RuntimeError", "LookupError", "ValueError", "IndexError", "KeyError", "TypeError", "ArithmeticError", "Exception", "BaseException"]
/-- isinstance; ex: the built-in classes of the errors, by number -/
def isiW (ex : Nat → Option (List String)) (h : Hw) (w : W) : List Cl → Option Bool
  | [] => some false
  | .blt n :: r => (match w with
    | .exc c _ => (match ex c with
      | some l => if xN.contains n then (if l.contains n then some true else isiW ex h w r) else none
      | none => none)
    | w => if vN.contains n then (match isBlt h w n with
      | none => none
      | some true => some true
      | some false => isiW ex h w r) else none)
  | .own c :: r => (match w with
    | .exc d _ => (match ex d, ex c with
      | some _, some _ => if d == c then some true else isiW ex h w r
      | _, _ => none)
    | .non => (match ex c with
      | some _ => isiW ex h w r
      | none => none)
    | _ => none)
def bls : List W → Option (List Bool)
  | [] => some []
  | .bl b :: r => (bls r).map (b :: ·)
  | _ => none
def intsW : List W → Option (List Int)
  | [] => some []
  | .int b :: r => (intsW r).map (b :: ·)
  | _ => none
def strsW : List W → Option (List Str)
  | [] => some []
  | .str b :: r => (strsW r).map (b :: ·)
  | _ => none
def setL (n : Nat) (xs : List W) (h : Hw) : Hw := h.set n (.lst xs)
/-- the receiver is of the method's kind -/
def tyOk (p : P) (x : W) (h : Hw) : Bool := match p with
  | .append => (getX h x).isSome
  | .popAt => (getX h x).isSome
  | .pop => (getX h x).isSome
  | .extend => (getX h x).isSome
  | .remove => (getX h x).isSome
  | .index => (getX h x).isSome
  | .split _ => (match x with | .str _ => true | _ => false)
  | .join => (match x with | .str _ => true | _ => false)
  | .get1 => (match x with | .dic _ => true | _ => false)
  | .get2 => (match x with | .dic _ => true | _ => false)
  | _ => false
def pLen (ws : List W) (h : Hw) : Out W := match ws with
  | [.str s] => if sz s.length then .ok (.int s.length) h else .stuck
  | [a] => (match getS h a with
    | some xs => .ok (.int xs.length) h
    | none => .stuck)
  | _ => .stuck
def pAbs (ws : List W) (h : Hw) : Out W := match ws with
  | [.int i] => .ok (.int (if i < 0 then -i else i)) h
  | _ => .stuck
def pInt (ws : List W) (h : Hw) : Out W := match ws with
  | [.int i] => .ok (.int i) h
  | [.bl b] => .ok (.int (if b then 1 else 0)) h
  | _ => .stuck
def pTuple (ws : List W) (h : Hw) : Out W := match ws with
  | [a] => (match getS h a with
    | some xs => mkT xs h
    | none => .stuck)
  | _ => .stuck
def pList (m : Bool) (ws : List W) (h : Hw) : Out W := match ws with
  | [a] => (match getS h a with
    | some xs => mkL m xs h
    | none => .stuck)
  | _ => .stuck
def pAll (ws : List W) (h : Hw) : Out W := match ws with
  | [a] => (match getL h a with
    | some xs => (match bls xs with
      | some bs => .ok (.bl (bs.all id)) h
      | none => .stuck)
    | none => .stuck)
  | _ => .stuck
def pAny (ws : List W) (h : Hw) : Out W := match ws with
  | [a] => (match getL h a with
    | some xs => (match bls xs with
      | some bs => .ok (.bl (bs.any id)) h
      | none => .stuck)
    | none => .stuck)
  | _ => .stuck
def mAppend (x : W) (ws : List W) (h : Hw) : Out W := match x, ws with
  | .ref n, [y] => (match h[n]? with
    | some (.lst xs) => if decide (xs.length < 16777216) then .ok .non (setL n (xs ++ [y]) h) else .stuck
    | _ => .stuck)
  | _, _ => .stuck
def mPopAt (x : W) (ws : List W) (h : Hw) : Out W := match x, ws with
  | .ref n, [.int i] => (match h[n]? with
    | some (.lst xs) => if decide (0 ≤ i ∧ i < 2 ^ 62) then (match xs[i.toNat]? with
      | some x => .ok x (setL n (xs.eraseIdx i.toNat) h)
      | none => .stuck) else .stuck
    | _ => .stuck)
  | _, _ => .stuck
def primW (p : P) (ws : List W) (h : Hw) : Out W := match p with
  | .len => pLen ws h
  | .abs => pAbs ws h
  | .int => pInt ws h
  | .tuple => pTuple ws h
  | .list m => pList m ws h
  | .all => pAll ws h
  | .any => pAny ws h
  | _ => .stuck
def mthW (p : P) (x : W) (ws : List W) (h : Hw) : Out W := match p with
  | .append => mAppend x ws h
  | .popAt => mPopAt x ws h
  | _ => .stuck

/-- what a for or a comprehension walks: the i-th thing as it stands then; some none: there is no more -/
def itemW (k : SK) (ws : List W) (h : Hw) (i : Nat) : Option (Option W) := match k, ws with
  | .val, [a] => (getS h a).map fun xs => xs[i]?
  | .rng, [.int j] => if decide (-(2 ^ 62) ≤ j ∧ j < 2 ^ 62) then some (if i < j.toNat then some (.int (i : Nat)) else none) else none
  | .enum, [a] => (getL h a).map fun xs => xs[i]?.map fun x => .tup [.int (i : Nat), x]
  | .zip, [a, b] => match a, b with
    | .tup xs, .tup ys => some (match xs[i]?, ys[i]? with
      | some x, some y => some (.tup [x, y])
      | _, _ => none)
    | a, b => match getL h a, getL h b with
      | some xs, some ys => some (match xs[i]?, ys[i]? with
        | some x, some y => some (.tup [x, y])
        | _, _ => none)
      | _, _ => none
  | _, _ => none
/-- how many turns at most -/
def turnsW (k : SK) (ws : List W) (h : Hw) : Nat := match k, ws with
  | .rng, [.int j] => j.toNat + 1
  | _, a :: _ => match getS h a with
    | some xs => xs.length + 1
    | none => 0
  | _, _ => 0

/-! ### the terms -/
abbrev Cal := Nat → List W → Hw → Out W
structure Cs where
  ex : Nat → Option (List String)
  cal : Cal
  /-- a method of a class: its def; the def of its making -/
  mth : Nat → Str → Option Nat
  ini : Nat → Option Nat

def permW (perm : List Nat) (ws : List W) : Option (List W) := match perm with
  | [] => some ws
  | ps => if ws.length = ps.length then ps.mapM fun i => ws[i]? else none
/-- no error may leave -/
def Out.ne {α : Type} : Out α → Out α
  | .ok a h => .ok a h
  | _ => .stuck
@[simp] theorem Out.ne_ok {α : Type} (a : α) (h : Hw) : (Out.ok a h).ne = .ok a h := rfl
/-- the turns of a comprehension -/
def compI (it : Hw → Nat → Option (Option W)) (f : W → Hw → Out (Option W)) : Nat → Nat → Hw → Out (List W)
  | 0, _, _ => .stuck
  | m + 1, i, h => match it h i with
    | none => .stuck
    | some none => .ok [] h
    | some (some x) => (f x h).bind fun o h1 => (compI it f m (i + 1) h1).bind fun ys h2 => .ok (match o with
      | some y => y :: ys
      | none => ys) h2
def asBl : W → Option Bool
  | .bl b => some b
  | _ => none
mutual
def evE (c : Cs) : E → Env → Hw → Out W
  | .var i, env, h => match env[i]? with
    | some (some w) => .ok w h
    | _ => .stuck
  | .cst w, _, h => .ok w h
  | .tup es, env, h => (evL c es env h).bind mkT
  | .lst m es, env, h => (evL c es env h).bind (mkL m)
  | .dic m, _, h => mkD m [] h
  | .bin m op a b, env, h => (evE c a env h).bind fun x h1 => (evE c b env h1).bind fun y h2 => binW m op x y h2
  | .cmp op a b, env, h => (evE c a env h).bind fun x h1 => (evE c b env h1).bind fun y h2 => Out.of ((cmpW op x y h2).map .bl) h2
  | .cmp2 o1 o2 a b d, env, h => (evE c a env h).bind fun x h1 => (evE c b env h1).bind fun y h2 => match cmpW o1 x y h2 with
    | some true => (evE c d env h2).bind fun z h3 => Out.of ((cmpW o2 y z h3).map .bl) h3
    | some false => .ok (.bl false) h2
    | none => .stuck
  | .and a b, env, h => (evE c a env h).bind fun x h1 => match x with
    | .bl true => evE c b env h1
    | .bl false => .ok (.bl false) h1
    | _ => .stuck
  | .or a b, env, h => (evE c a env h).bind fun x h1 => match x with
    | .bl true => .ok (.bl true) h1
    | .bl false => evE c b env h1
    | _ => .stuck
  | .orV a b, env, h => (evE c a env h).bind fun x h1 => match getL h1 x with
    | some [] => evE c b env h1
    | some (_ :: _) => .ok x h1
    | none => .stuck
  | .not a, env, h => (evE c a env h).bind fun x h1 => match x with
    | .bl b => .ok (.bl (!b)) h1
    | _ => .stuck
  | .ite t a b, env, h => (evE c t env h).bind fun x h1 => match x with
    | .bl true => evE c a env h1
    | .bl false => evE c b env h1
    | _ => .stuck
  | .call f es perm, env, h => (evL c es env h).bind fun ws h1 => match permW perm ws with
    | some vs => c.cal f vs h1
    | none => .stuck
  | .prim p es, env, h => (evL c es env h).bind (primW p)
  | .bm p o es, env, h => (evE c o env h).bind fun x h1 => if tyOk p x h1 then (evL c es env h1).bind fun ws h2 => mthW p x ws h2 else .stuck
  | .isi cs a, env, h => (evE c a env h).bind fun x h1 => Out.of ((isiW c.ex h1 x cs).map .bl) h1
  | .idx a i, env, h => (evE c a env h).bind fun x h1 => (evE c i env h1).bind fun y h2 => Out.of (idxW x y h2) h2
  | .slc m a lo hi, env, h => (evE c a env h).bind fun x h1 => ((evL c lo env h1).bind fun ls h2 => Out.of (intO ls) h2).bind fun l h2 => ((evL c hi env h2).bind fun us h3 => Out.of (intO us) h3).bind fun u h3 => slcW m x l u h3
  | .comp m elt tg k srcs ifs wp, env, h => (evL c srcs env h).bind fun vs h1 => (compI (itemW k vs) (fun x h2 => match asg h2 tg x (wipeW env wp) with
      | none => .stuck
      | some env1 => (evT c ifs env1 h2).ne.bind fun b h3 => if b then (evE c elt env1 h3).ne.bind fun y h4 => .ok (some y) h4 else .ok none h3) (turnsW k vs h1) 0 h1).bind (mkL m)
  | .fldX a f, env, h => (evE c a env h).bind fun x h1 => match x with
    | .exc d fs => (match c.ex d with
      | some _ => Out.of (fs.lookup f) h1
      | none => .stuck)
    | _ => .stuck
  | _, _, _ => .stuck
def evL (c : Cs) : List E → Env → Hw → Out (List W)
  | [], _, h => .ok [] h
  | e :: r, env, h => (evE c e env h).bind fun x h1 => (evL c r env h1).bind fun xs h2 => .ok (x :: xs) h2
def evT (c : Cs) : List E → Env → Hw → Out Bool
  | [], _, h => .ok true h
  | e :: r, env, h => (evE c e env h).bind fun x h1 => match x with
    | .bl true => evT c r env h1
    | .bl false => .ok false h1
    | _ => .stuck
end

/-! ### statements -/
inductive Fl where | nx | ret (w : W) | brk | cont
inductive SOut where | ok (f : Fl) (env : Env) (h : Hw) | exc (c : Nat) (fs : List (Str × W)) (env : Env) (h : Hw) | stuck
def Out.st {α : Type} : Out α → Env → (α → Hw → SOut) → SOut
  | .ok a h, _, f => f a h
  | .exc c fs h, env, _ => .exc c fs env h
  | .stuck, _, _ => .stuck
@[simp] theorem Out.st_ok {α : Type} (a : α) (h : Hw) (env : Env) (f : α → Hw → SOut) : (Out.ok a h).st env f = f a h := rfl
@[simp] theorem Out.st_exc {α : Type} (c : Nat) (fs : List (Str × W)) (h : Hw) (env : Env) (f : α → Hw → SOut) : (Out.exc c fs h : Out α).st env f = .exc c fs env h := rfl
@[simp] theorem Out.st_stuck {α : Type} (env : Env) (f : α → Hw → SOut) : (Out.stuck : Out α).st env f = .stuck := rfl
def SOut.next : SOut → (Env → Hw → SOut) → SOut
  | .ok .nx env h, k => k env h
  | o, _ => o
/-- the turns of a for -/
def forI (it : Hw → Nat → Option (Option W)) (f : W → Env → Hw → SOut) : Nat → Nat → Env → Hw → SOut
  | 0, _, _, _ => .stuck
  | m + 1, i, env, h => match it h i with
    | none => .stuck
    | some none => .ok .nx env h
    | some (some x) => match f x env h with
      | .ok .nx e h1 => forI it f m (i + 1) e h1
      | .ok .cont e h1 => forI it f m (i + 1) e h1
      | .ok .brk e h1 => .ok .nx e h1
      | o => o
def catch? (c : Nat) (fs : List (Str × W)) (env : Env) : List (List Nat × Nat × HV) → Option Env
  | [] => none
  | (cs, i, v) :: r => if cs.contains c then some (match v with
    | .cst w => env.set i (some w)
    | .exc j => ((env.set j (some (.exc c fs))).set i (some (.exc c fs))).set j none) else catch? c fs env r
def setSub (o i x : W) (h : Hw) : Option Hw := match o with
  | .ref n => match h[n]? with
    | some (.lst xs) => match i with
      | .int j => if decide (0 ≤ j ∧ j < xs.length) then some (h.set n (.lst (xs.set j.toNat x))) else none
      | _ => none
    | _ => none
  | _ => none
def exFs (ex : Nat → List Str) (c : Nat) (ws : List W) : Option (List (Str × W)) := if (ex c).length = ws.length then some ((ex c).zip ws) else none
mutual
def exS (c : Cs) (nm : Nat → List Str) (n : Nat) : S → Env → Hw → SOut
  | .set i e, env, h => (evE c e env h).st env fun x h1 => if i < env.length then .ok .nx (env.set i (some x)) h1 else .stuck
  | .unp t e, env, h => (evE c e env h).st env fun x h1 => match asg h1 t x env with
    | some e1 => .ok .nx e1 h1
    | none => .stuck
  | .par is es, env, h => (evL c es env h).st env fun xs h1 => match asgs h1 (is.map .nm) xs env with
    | some e1 => .ok .nx e1 h1
    | none => .stuck
  | .ssub o i e, env, h => (evE c e env h).st env fun x h1 => (evE c o env h1).st env fun y h2 => (evE c i env h2).st env fun z h3 => match setSub y z x h3 with
    | some h4 => .ok .nx env h4
    | none => .stuck
  | .expr e, env, h => (evE c e env h).st env fun _ h1 => .ok .nx env h1
  | .ite t a b, env, h => (evE c t env h).st env fun x h1 => match x with
    | .bl true => exB c nm n a env h1
    | .bl false => exB c nm n b env h1
    | _ => .stuck
  | .for tg k srcs body, env, h => (evL c srcs env h).st env fun vs h1 => forI (itemW k vs) (fun x e h2 => match asg h2 tg x e with
      | none => .stuck
      | some e1 => exB c nm n body e1 h2) (turnsW k vs h1) 0 env h1
  | .ret e, env, h => (evE c e env h).st env fun x h1 => .ok (.ret x) env h1
  | .retN, env, h => .ok (.ret .non) env h
  | .raise k es, env, h => (evL c es env h).st env fun ws h1 => match exFs nm k ws with
    | some fs => .exc k fs env h1
    | none => .stuck
  | .try body hs, env, h => match exB c nm n body env h with
    | .exc k fs e h1 => (match c.ex k with
      | some _ => (match catch? k fs e hs with
        | some e1 => .ok .nx e1 h1
        | none => .exc k fs e h1)
      | none => .stuck)
    | o => o
  | .pass, env, h => .ok .nx env h
  | .brk, env, h => .ok .brk env h
  | .cont, env, h => .ok .cont env h
  | _, _, _ => .stuck
def exB (c : Cs) (nm : Nat → List Str) (n : Nat) : List S → Env → Hw → SOut
  | [], env, h => .ok .nx env h
  | s :: r, env, h => (exS c nm n s env h).next fun e h1 => exB c nm n r e h1
end
/-- a program's table: the defs, the errors' built-in classes and fields -/
structure Pg where
  fns : List Fn
  ex : Nat → Option (List String)
  nm : Nat → List Str
  mth : Nat → Str → Option Nat
  ini : Nat → Option Nat
def callW (G : Pg) : Nat → Cal
  | 0, _, _, _ => .stuck
  | n + 1, f, ws, h => match G.fns[f]? with
    | none => .stuck
    | some d => if ws.length = d.np then (match exB ⟨G.ex, callW G n, G.mth, G.ini⟩ G.nm n d.body (ws.map some ++ List.replicate (d.ns - d.np) none) h with
      | .ok .nx _ h1 => .ok .non h1
      | .ok (.ret w) _ h1 => .ok w h1
      | .ok _ _ _ => .stuck
      | .exc c fs _ h1 => .exc c fs h1
      | .stuck => .stuck) else .stuck
end G
end
section
set_option Elab.async false
set_option linter.all false
set_option maxRecDepth 100000
/-! G3: how the evaluator's values and heap stand for those of the layer -/
namespace G
open PySem L2
open PySem.W (Frag)

/-- what is fixed: the written part, the classes of the errors and of the instances -/
structure Bx where
  K : Frag
  xc : Nat → Addr
  ic : Nat → Addr
/-- where the changeable things stand; what may never change -/
structure Wd where
  φ : List Addr
  Z : Addr → Prop
/-- a caught error's object -/
def XO (a : Addr) (C : Addr) (d : Option Addr) : HO := .ext fun h => ∃ (oe : Obj) (vs : Array Value), h.get? a = some oe ∧ Zc (.ref C) d oe ∧ oe.data = .fields vs

/-- a tuple that is tracked, or stands in the written part -/
def TupAt (K : Frag) (H : Hp) (a : Addr) (vs : List V) : Prop := H a = some (.tup vs) ∨ ∃ (o : Obj) (its : Array Value) (n : Nat), K.lookup a = some o ∧ o.cls = .type "tuple" ∧ o.data = .seq its n ∧ its.size ≤ sizeLine ∧ Vals vs its.toList
theorem TupAt.sq {K : Frag} {H : Hp} {a : Addr} {vs : List V} (h : TupAt K H a vs) : SqT K H a vs := by
  rcases h with h | h
  · exact .inl (.inl h)
  · exact .inr h
mutual
def RV (B : Bx) (H : Hp) (w : Wd) : W → V → Prop
  | .non, v => v = .non
  | .bl b, v => v = .bl b
  | .int i, v => v = .int i
  | .str s, v => v = .str s
  | .tup xs, v => ∃ a vs, v = .ref a ∧ TupAt B.K H a vs ∧ RVs B H w xs vs
  | .lst xs, v => ∃ a vs, v = .ref a ∧ w.Z a ∧ H a = some (.lst vs) ∧ RVs B H w xs vs
  | .dic kvs, v => ∃ a kv, v = .ref a ∧ w.Z a ∧ H a = some (.dK kv) ∧ RKs B H w kvs kv
  | .ref n, v => ∃ a, v = .ref a ∧ w.φ[n]? = some a
  | .exc c fs, v => ∃ a d, v = .ref a ∧ H a = some (XO a (B.xc c) d) ∧ ((fs = [] ∧ d = none) ∨ ∃ dd fv, d = some dd ∧ H dd = some (.xd fv) ∧ RFs B H w fs fv)
def RVs (B : Bx) (H : Hp) (w : Wd) : List W → List V → Prop
  | [], vs => vs = []
  | x :: xs, vs => ∃ v r, vs = v :: r ∧ RV B H w x v ∧ RVs B H w xs r
def RKs (B : Bx) (H : Hp) (w : Wd) : List (W × W) → List (Key × V) → Prop
  | [], kv => kv = []
  | (k, x) :: r, kv => ∃ s v r', kv = (Sum.inr s, v) :: r' ∧ k = .str s ∧ RV B H w x v ∧ RKs B H w r r'
def RFs (B : Bx) (H : Hp) (w : Wd) : List (Str × W) → List (Str × V) → Prop
  | [], kv => kv = []
  | (k, x) :: r, kv => ∃ v r', kv = (k, v) :: r' ∧ RV B H w x v ∧ RFs B H w r r'
end
def RO (B : Bx) (H : Hp) (w : Wd) : O → Addr → Prop
  | .lst xs, a => ∃ vs, H a = some (.lst vs) ∧ RVs B H w xs vs
  | .frz xs, a => ∃ o vs, H a = some (.frz o (.lst vs)) ∧ RVs B H w xs vs
  | .dic kvs, a => ∃ kv, H a = some (.dK kv) ∧ RKs B H w kvs kv
  | .ins c fs, a => ∃ dx fv, H a = some (.ins (B.ic c) dx fv) ∧ RFs B H w fs fv
/-- what a changeable thing may be -/
def chg : HO → Bool
  | .lst _ => true | .dK _ => true | .ins _ _ _ => true | .frz _ _ => true
  | _ => false
structure RH (B : Bx) (H : Hp) (w : Wd) (h : Hw) : Prop where
  len : w.φ.length = h.length
  nd : w.φ.Nodup
  zs : ∀ a, w.Z a → a ∉ w.φ ∧ H a ≠ none
  ro : ∀ (n : Nat) (o : O) (a : Addr), h[n]? = some o → w.φ[n]? = some a → RO B H w o a
/-- what may have come since -/
structure Kp (w : Wd) (H : Hp) (w' : Wd) (H' : Hp) : Prop where
  φ : ∃ g, w'.φ = w.φ ++ g ∧ ∀ a ∈ g, H a = none
  z : ∀ a, w.Z a → w'.Z a
  zn : ∀ a, w'.Z a → w.Z a ∨ H a = none
  h : ∀ a o, H a = some o → a ∉ w.φ → H' a = some o
  m : ∀ a, H' a = none → H a = none
theorem Kp.refl (w : Wd) (H : Hp) : Kp w H w H := ⟨⟨[], by simp, by simp⟩, fun _ z => z, fun _ z => .inl z, fun _ _ e _ => e, fun _ e => e⟩
theorem Kp.trans {w w1 w2 : Wd} {H H1 H2 : Hp} (a : Kp w H w1 H1) (b : Kp w1 H1 w2 H2) : Kp w H w2 H2 := by
  obtain ⟨g, e, hg⟩ := a.φ
  obtain ⟨g', e', hg'⟩ := b.φ
  refine ⟨⟨g ++ g', by rw [e', e, List.append_assoc], fun x hx => ?_⟩, fun x z => b.z x (a.z x z), fun x z => ?_, fun x o q n => ?_, fun x q => a.m x (b.m x q)⟩
  · rcases List.mem_append.mp hx with z | z
    · exact hg x z
    · exact a.m x (hg' x z)
  · rcases b.zn x z with q | q
    · exact a.zn x q
    · exact .inr (a.m x q)
  · refine b.h x o (a.h x o q n) fun z => ?_
    rw [e] at z
    rcases List.mem_append.mp z with z | z
    · exact n z
    · rw [hg x z] at q; cases q
theorem RH.mut {B : Bx} {H : Hp} {w : Wd} {h : Hw} (r : RH B H w h) {a : Addr} (ha : a ∈ w.φ) : ∃ o, H a = some o ∧ chg o = true := by
  obtain ⟨n, hn⟩ := List.getElem?_of_mem ha
  have hl : n < h.length := by rw [← r.len]; exact (List.getElem?_eq_some_iff.mp hn).1
  have q := r.ro n h[n] a (by simp [hl]) hn
  revert q
  cases h[n] with
  | lst xs => rintro ⟨vs, e, _⟩; exact ⟨_, e, rfl⟩
  | frz xs => rintro ⟨o, vs, e, _⟩; exact ⟨_, e, rfl⟩
  | dic xs => rintro ⟨vs, e, _⟩; exact ⟨_, e, rfl⟩
  | ins c fs => rintro ⟨dx, vs, e, _⟩; exact ⟨_, e, rfl⟩
section
variable {B : Bx} {H H' : Hp} {w w' : Wd} {h : Hw}
/-- what a relation leans on -/
structure Le (w : Wd) (H : Hp) (w' : Wd) (H' : Hp) : Prop where
  φ : ∃ g, w'.φ = w.φ ++ g
  z : ∀ a, w.Z a → w'.Z a
  h : ∀ a o, H a = some o → a ∉ w.φ → (chg o = false ∨ w.Z a) → H' a = some o
theorem Kp.le (k : Kp w H w' H') : Le w H w' H' := ⟨let ⟨g, e, _⟩ := k.φ; ⟨g, e⟩, k.z, fun a o e n _ => k.h a o e n⟩
instance : Coe (Kp w H w' H') (Le w H w' H') := ⟨Kp.le⟩
theorem Le.at (k : Le w H w' H') (r : RH B H w h) {a : Addr} {o : HO} (e : H a = some o) (hc : chg o = false) : H' a = some o := by
  refine k.h a o e (fun z => ?_) (.inl hc)
  obtain ⟨o', e', c⟩ := r.mut z
  rw [e] at e'; cases e'
  rw [hc] at c; cases c
theorem Le.atZ (k : Le w H w' H') (r : RH B H w h) {a : Addr} {u : HO} (hz : w.Z a) (e : H a = some u) : H' a = some u := k.h a _ e (r.zs a hz).1 (.inr hz)
theorem Le.tupAt (k : Le w H w' H') (r : RH B H w h) {a : Addr} {vs : List V} (e : TupAt B.K H a vs) : TupAt B.K H' a vs := by
  rcases e with e | e
  · exact .inl (k.at r e rfl)
  · exact .inr e
theorem Le.ref (k : Le w H w' H') {n : Nat} {a : Addr} (e : w.φ[n]? = some a) : w'.φ[n]? = some a := by
  obtain ⟨g, q⟩ := k.φ
  rw [q, List.getElem?_append_left (List.getElem?_eq_some_iff.mp e).1]
  exact e
mutual
theorem RV.mono (k : Le w H w' H') (r : RH B H w h) : ∀ (x : W) (v : V), RV B H w x v → RV B H' w' x v
  | .non, v, q => q
  | .bl b, v, q => q
  | .int i, v, q => q
  | .str s, v, q => q
  | .tup xs, v, ⟨a, vs, e, t, q⟩ => ⟨a, vs, e, k.tupAt r t, RVs.mono k r xs vs q⟩
  | .lst xs, v, ⟨a, vs, e, z, t, q⟩ => ⟨a, vs, e, k.z a z, k.atZ r z t, RVs.mono k r xs vs q⟩
  | .dic xs, v, ⟨a, vs, e, z, t, q⟩ => ⟨a, vs, e, k.z a z, k.atZ r z t, RKs.mono k r xs vs q⟩
  | .ref n, v, ⟨a, e, q⟩ => ⟨a, e, k.ref q⟩
  | .exc c fs, v, ⟨a, d, e, t, q⟩ => ⟨a, d, e, k.at r t rfl, by
      rcases q with q | ⟨dd, fv, e1, e2, q⟩
      · exact .inl q
      · exact .inr ⟨dd, fv, e1, k.at r e2 rfl, RFs.mono k r fs fv q⟩⟩
theorem RVs.mono (k : Le w H w' H') (r : RH B H w h) : ∀ (xs : List W) (vs : List V), RVs B H w xs vs → RVs B H' w' xs vs
  | [], vs, q => q
  | x :: xs, vs, ⟨v, t, e, q1, q2⟩ => ⟨v, t, e, RV.mono k r x v q1, RVs.mono k r xs t q2⟩
theorem RKs.mono (k : Le w H w' H') (r : RH B H w h) : ∀ (xs : List (W × W)) (vs : List (Key × V)), RKs B H w xs vs → RKs B H' w' xs vs
  | [], vs, q => q
  | (y, x) :: xs, vs, ⟨s, v, t, e, e1, q1, q2⟩ => ⟨s, v, t, e, e1, RV.mono k r x v q1, RKs.mono k r xs t q2⟩
theorem RFs.mono (k : Le w H w' H') (r : RH B H w h) : ∀ (xs : List (Str × W)) (vs : List (Str × V)), RFs B H w xs vs → RFs B H' w' xs vs
  | [], vs, q => q
  | (y, x) :: xs, vs, ⟨v, t, e, q1, q2⟩ => ⟨v, t, e, RV.mono k r x v q1, RFs.mono k r xs t q2⟩
end
theorem RVs.length : ∀ {xs : List W} {vs : List V}, RVs B H w xs vs → xs.length = vs.length
  | [], vs, q => by cases (show vs = [] from q); rfl
  | x :: xs, vs, ⟨v, t, e, q1, q2⟩ => by rw [e]; exact congrArg Nat.succ (RVs.length q2)
theorem RVs.get : ∀ {xs : List W} {vs : List V} {i : Nat} {x : W}, RVs B H w xs vs → xs[i]? = some x → ∃ v, vs[i]? = some v ∧ RV B H w x v
  | [], vs, i, x, q, e => by simp at e
  | y :: xs, vs, 0, x, ⟨v, t, e, q1, q2⟩, e' => by
    simp at e'; subst e'
    exact ⟨v, by rw [e]; rfl, q1⟩
  | y :: xs, vs, i + 1, x, ⟨v, t, e, q1, q2⟩, e' => by
    obtain ⟨u, h1, h2⟩ := RVs.get (i := i) (x := x) q2 (by simpa using e')
    exact ⟨u, by rw [e]; simpa using h1, h2⟩
theorem RVs.getV : ∀ {xs : List W} {vs : List V} {i : Nat} {v : V}, RVs B H w xs vs → vs[i]? = some v → ∃ x, xs[i]? = some x ∧ RV B H w x v
  | [], vs, i, x, q, e => by cases (show vs = [] from q); simp at e
  | y :: xs, vs, 0, x, ⟨v, t, e, q1, q2⟩, e' => by
    rw [e] at e'; simp at e'; subst e'
    exact ⟨y, rfl, q1⟩
  | y :: xs, vs, i + 1, x, ⟨v, t, e, q1, q2⟩, e' => by
    rw [e] at e'
    obtain ⟨u, h1, h2⟩ := RVs.getV (i := i) (v := x) q2 (by simpa using e')
    exact ⟨u, by simpa using h1, h2⟩
theorem RVs.append : ∀ {xs ys : List W} {vs us : List V}, RVs B H w xs vs → RVs B H w ys us → RVs B H w (xs ++ ys) (vs ++ us)
  | [], ys, vs, us, q, q' => by cases (show vs = [] from q); exact q'
  | x :: xs, ys, vs, us, ⟨v, t, e, q1, q2⟩, q' => ⟨v, t ++ us, by rw [e]; rfl, q1, RVs.append q2 q'⟩
theorem RVs.set : ∀ {xs : List W} {vs : List V} {x : W} {v : V} (i : Nat), RVs B H w xs vs → RV B H w x v → RVs B H w (xs.set i x) (vs.set i v)
  | [], vs, x, v, i, q, _ => by cases (show vs = [] from q); cases i <;> exact rfl
  | y :: xs, vs, x, v, 0, ⟨u, t, e, q1, q2⟩, r => ⟨v, t, by rw [e]; rfl, r, q2⟩
  | y :: xs, vs, x, v, i + 1, ⟨u, t, e, q1, q2⟩, r => ⟨u, t.set i v, by rw [e]; rfl, q1, RVs.set i q2 r⟩
theorem RVs.eraseIdx : ∀ {xs : List W} {vs : List V} (i : Nat), RVs B H w xs vs → RVs B H w (xs.eraseIdx i) (vs.eraseIdx i)
  | [], vs, i, q => by cases (show vs = [] from q); cases i <;> exact rfl
  | y :: xs, vs, 0, ⟨u, t, e, q1, q2⟩ => by rw [e]; exact q2
  | y :: xs, vs, i + 1, ⟨u, t, e, q1, q2⟩ => ⟨u, t.eraseIdx i, by rw [e]; rfl, q1, RVs.eraseIdx i q2⟩
theorem RFs.lookup : ∀ {fs : List (Str × W)} {fv : List (Str × V)} {f : Str} {x : W}, RFs B H w fs fv → fs.lookup f = some x → ∃ v, fv.lookup f = some v ∧ RV B H w x v
  | [], fv, f, x, q, e => by simp at e
  | (y, z) :: fs, fv, f, x, ⟨v, t, e, q1, q2⟩, e' => by
    subst e
    rw [List.lookup_cons] at e' ⊢
    by_cases c : (f == y) = true
    · rw [c] at e' ⊢
      cases e'
      exact ⟨v, rfl, q1⟩
    · rw [Bool.not_eq_true] at c
      rw [c] at e' ⊢
      exact RFs.lookup q2 e'
/-- a new thing that never changes -/
def Wd.fz (w : Wd) (p : Addr) : Wd := ⟨w.φ, fun a => w.Z a ∨ a = p⟩
/-- a new thing that may change -/
def Wd.nw (w : Wd) (p : Addr) : Wd := ⟨w.φ ++ [p], w.Z⟩
theorem Kp.upd0 {p : Addr} {o : HO} (hp : H p = none) : Kp w H w (upd H p o) :=
  ⟨⟨[], by simp, by simp⟩, fun _ z => z, fun _ z => .inl z, fun a u e _ => by rw [upd_ne (ne_of_none e hp)]; exact e, fun a e => by
    by_cases c : a = p
    · rw [c, upd_same] at e; cases e
    · rw [upd_ne c] at e; exact e⟩
theorem Kp.fz {p : Addr} {o : HO} (hp : H p = none) : Kp w H (w.fz p) (upd H p o) :=
  ⟨⟨[], by simp [Wd.fz], by simp⟩, fun _ z => .inl z, fun a z => by
    rcases z with z | z
    · exact .inl z
    · exact .inr (by rw [z]; exact hp), fun a u e _ => by rw [upd_ne (ne_of_none e hp)]; exact e, fun a e => by
    by_cases c : a = p
    · rw [c, upd_same] at e; cases e
    · rw [upd_ne c] at e; exact e⟩
theorem Kp.nw {p : Addr} {o : HO} (hp : H p = none) : Kp w H (w.nw p) (upd H p o) :=
  ⟨⟨[p], rfl, by simpa using hp⟩, fun _ z => z, fun a z => .inl z, fun a u e _ => by rw [upd_ne (ne_of_none e hp)]; exact e, fun a e => by
    by_cases c : a = p
    · rw [c, upd_same] at e; cases e
    · rw [upd_ne c] at e; exact e⟩
theorem RO.mono (k : Le w H w' H') (r : RH B H w h) {o : O} {a : Addr} (ha : H' a = H a) (q : RO B H w o a) : RO B H' w' o a := by
  cases o with
  | lst xs => obtain ⟨vs, e, q⟩ := q; exact ⟨vs, by rw [ha]; exact e, q.mono k r xs vs⟩
  | frz xs => obtain ⟨o, vs, e, q⟩ := q; exact ⟨o, vs, by rw [ha]; exact e, q.mono k r xs vs⟩
  | dic xs => obtain ⟨vs, e, q⟩ := q; exact ⟨vs, by rw [ha]; exact e, q.mono k r xs vs⟩
  | ins c xs => obtain ⟨dx, vs, e, q⟩ := q; exact ⟨dx, vs, by rw [ha]; exact e, q.mono k r xs vs⟩
/-- the heap behind a step that changed none of its things -/
theorem RH.same (k : Kp w H w' H') (r : RH B H w h) (hφ : w'.φ = w.φ) (hs : ∀ a ∈ w.φ, H' a = H a) (hz : ∀ a, w'.Z a → a ∉ w.φ ∧ H' a ≠ none) : RH B H' w' h :=
  ⟨by rw [hφ]; exact r.len, by rw [hφ]; exact r.nd, fun a z => by rw [hφ]; exact hz a z, fun n o a e1 e2 => by
    rw [hφ] at e2
    exact (r.ro n o a e1 e2).mono k r (hs a (List.mem_of_getElem? e2))⟩
theorem RH.upd0 (r : RH B H w h) {p : Addr} {o : HO} (hp : H p = none) : RH B (upd H p o) w h := by
  refine RH.same (Kp.upd0 hp) r rfl (fun a ha => ?_) fun a z => ⟨(r.zs a z).1, fun e => ?_⟩
  · obtain ⟨u, e, _⟩ := r.mut ha
    exact upd_ne (ne_of_none e hp)
  · exact (r.zs a z).2 ((Kp.upd0 (w := w) (o := o) hp).m a e)
theorem RH.fz (r : RH B H w h) {p : Addr} {o : HO} (hp : H p = none) : RH B (upd H p o) (w.fz p) h := by
  refine RH.same (Kp.fz hp) r rfl (fun a ha => ?_) fun a z => ?_
  · obtain ⟨u, e, _⟩ := r.mut ha
    exact upd_ne (ne_of_none e hp)
  · rcases z with z | z
    · exact ⟨(r.zs a z).1, fun e => (r.zs a z).2 ((Kp.upd0 (w := w) (o := o) hp).m a e)⟩
    · subst z
      refine ⟨fun q => ?_, by rw [upd_same]; simp⟩
      obtain ⟨u, e, _⟩ := r.mut q
      rw [hp] at e; cases e
theorem RH.nw (r : RH B H w h) {p : Addr} {u : HO} {o : O} (hp : H p = none) (q : RO B (upd H p u) (w.nw p) o p) : RH B (upd H p u) (w.nw p) (h ++ [o]) := by
  have np : p ∉ w.φ := fun z => by
    obtain ⟨v, e, _⟩ := r.mut z
    rw [hp] at e; cases e
  have k : Kp w H (w.nw p) (upd H p u) := Kp.nw hp
  refine ⟨by simp [Wd.nw, r.len], by simp only [Wd.nw]; rw [List.nodup_append]; exact ⟨r.nd, by simp, by simpa using fun a ha (e : a = p) => np (e ▸ ha)⟩, fun a z => ⟨fun hm => ?_, fun e => (r.zs a z).2 (k.m a e)⟩, fun n o' a e1 e2 => ?_⟩
  · rcases List.mem_append.mp hm with hm | hm
    · exact (r.zs a z).1 hm
    · rw [List.mem_singleton.mp hm] at z
      exact (r.zs p z).2 hp
  · have e2' : (w.φ ++ [p])[n]? = some a := e2
    by_cases c : n < h.length
    · rw [List.getElem?_append_left c] at e1
      rw [List.getElem?_append_left (by rw [r.len]; exact c)] at e2'
      refine (r.ro n o' a e1 e2').mono k r (upd_ne fun z => np ?_)
      rw [← z]; exact List.mem_of_getElem? e2'
    · rw [List.getElem?_append_right (by omega)] at e1
      rw [List.getElem?_append_right (by rw [r.len]; omega)] at e2'
      have h0 : n - h.length = 0 := by
        have := (List.getElem?_eq_some_iff.mp e1).1
        simp at this; omega
      rw [h0] at e1
      rw [r.len, h0] at e2'
      cases e1; cases e2'
      exact q
/-- a thing that stands already is taken as one that may change, or never changes -/
theorem Le.nw {p : Addr} : Le w H (w.nw p) H := ⟨⟨[p], rfl⟩, fun _ z => z, fun _ _ e _ _ => e⟩
theorem Le.fz {p : Addr} : Le w H (w.fz p) H := ⟨⟨[], by simp [Wd.fz]⟩, fun _ z => .inl z, fun _ _ e _ _ => e⟩
/-- a list that nobody holds is changed -/
theorem Le.loose {p : Addr} {vs us : List V} (hp : H p = some (.lst vs)) (nz : ¬ w.Z p) : Le w H w (upd H p (.lst us)) := ⟨⟨[], by simp⟩, fun _ z => z, fun a o e _ hc => by
  rw [upd_ne fun z => ?_]
  · exact e
  · rw [z, hp] at e
    cases e
    rcases hc with q | q
    · cases q
    · exact nz (z ▸ q)⟩
theorem RH.loose (r : RH B H w h) {p : Addr} {vs us : List V} (hp : H p = some (.lst vs)) (np : p ∉ w.φ) (nz : ¬ w.Z p) : RH B (upd H p (.lst us)) w h :=
  ⟨r.len, r.nd, fun a z => ⟨(r.zs a z).1, by
    rw [upd_ne (fun (e : a = p) => nz (by rw [← e]; exact z))]
    exact (r.zs a z).2⟩, fun n o a e1 e2 =>
    (r.ro n o a e1 e2).mono (Le.loose hp nz) r (upd_ne (fun (e : a = p) => np (by rw [← e]; exact List.mem_of_getElem? e2)))⟩
theorem Kp.loose {w0 : Wd} {H0 : Hp} (k : Kp w0 H0 w H) {p : Addr} {o : HO} (h0 : H0 p = none) : Kp w0 H0 w (upd H p o) :=
  ⟨k.φ, k.z, k.zn, fun a u e n => by rw [upd_ne (ne_of_none e h0)]; exact k.h a u e n, fun a e => by
    by_cases c : a = p
    · rw [c, upd_same] at e; cases e
    · rw [upd_ne c] at e; exact k.m a e⟩
theorem RH.fzAt (r : RH B H w h) {p : Addr} {u : HO} (hp : H p = some u) (np : p ∉ w.φ) : RH B H (w.fz p) h :=
  ⟨r.len, r.nd, fun a z => by
    rcases z with z | z
    · exact r.zs a z
    · rw [z]; exact ⟨np, by rw [hp]; simp⟩, fun n o a e1 e2 => (r.ro n o a e1 e2).mono Le.fz r rfl⟩
theorem RH.nwAt (r : RH B H w h) {p : Addr} {u : HO} {o : O} (hp : H p = some u) (np : p ∉ w.φ) (nz : ¬ w.Z p) (q : RO B H (w.nw p) o p) : RH B H (w.nw p) (h ++ [o]) := by
  refine ⟨by simp [Wd.nw, r.len], by simp only [Wd.nw]; rw [List.nodup_append]; exact ⟨r.nd, by simp, by simpa using fun a ha (e : a = p) => np (e ▸ ha)⟩, fun a z => ⟨fun hm => ?_, (r.zs a z).2⟩, fun n o' a e1 e2 => ?_⟩
  · rcases List.mem_append.mp hm with hm | hm
    · exact (r.zs a z).1 hm
    · rw [List.mem_singleton.mp hm] at z
      exact nz z
  · have e2' : (w.φ ++ [p])[n]? = some a := e2
    by_cases c : n < h.length
    · rw [List.getElem?_append_left c] at e1
      rw [List.getElem?_append_left (by rw [r.len]; exact c)] at e2'
      exact (r.ro n o' a e1 e2').mono Le.nw r rfl
    · rw [List.getElem?_append_right (by omega)] at e1
      rw [List.getElem?_append_right (by rw [r.len]; omega)] at e2'
      have h0 : n - h.length = 0 := by
        have := (List.getElem?_eq_some_iff.mp e1).1
        simp at this; omega
      rw [h0] at e1
      rw [r.len, h0] at e2'
      cases e1; cases e2'
      exact q
/-- a changeable thing is changed -/
theorem Kp.wr {n : Nat} {a : Addr} {u : HO} (ha : w.φ[n]? = some a) : Kp w H w (upd H a u) :=
  ⟨⟨[], by simp, by simp⟩, fun _ z => z, fun _ z => .inl z, fun b o e nb => by
    rw [upd_ne (fun z => nb (by rw [z]; exact List.mem_of_getElem? ha))]; exact e, fun b e => by
    by_cases c : b = a
    · rw [c, upd_same] at e; cases e
    · rw [upd_ne c] at e; exact e⟩
theorem RH.wr (r : RH B H w h) {n : Nat} {a : Addr} {u : HO} {o : O} (ha : w.φ[n]? = some a) (q : RO B (upd H a u) w o a) : RH B (upd H a u) w (h.set n o) := by
  have k : Kp w H w (upd H a u) := Kp.wr ha
  refine ⟨by simp [r.len], r.nd, fun b z => ⟨(r.zs b z).1, fun e => (r.zs b z).2 (k.m b e)⟩, fun m o' b e1 e2 => ?_⟩
  by_cases c : m = n
  · subst c
    rw [ha] at e2; cases e2
    have hl := (List.getElem?_eq_some_iff.mp e1).1
    rw [List.getElem?_set_self (by simpa using hl)] at e1
    cases e1
    exact q
  · rw [List.getElem?_set_ne (Ne.symm c)] at e1
    refine (r.ro m o' b e1 e2).mono k r (upd_ne fun z => c ?_)
    subst z
    obtain ⟨h1, e1'⟩ := List.getElem?_eq_some_iff.mp e2
    obtain ⟨h2, e2'⟩ := List.getElem?_eq_some_iff.mp ha
    exact (List.getElem_inj r.nd).mp (e1'.trans e2'.symm)

/-! ### what a run leaves -/
/-- what an error carries, at d -/
def XF (B : Bx) (H : Hp) (w : Wd) (fs : List (Str × W)) (d : Option Addr) : Prop := (fs = [] ∧ d = none) ∨ ∃ dd fv, d = some dd ∧ H dd = some (.xd fv) ∧ RFs B H w fs fv
def Lands (B : Bx) (w : Wd) (H : Hp) {α β : Type} (o : Out α) (R : Hp → Wd → α → β → Prop) (Q : β → Hp → Prop) (X : XK) : Prop := match o with
  | .ok a h' => ∀ w' H' b, Kp w H w' H' → RH B H' w' h' → R H' w' a b → Q b H'
  | .exc c fs h' => ∀ w' H' d, Kp w H w' H' → RH B H' w' h' → XF B H' w' fs d → X (.ref (B.xc c)) d H'
  | .stuck => False
theorem Lands.from {α β : Type} {w1 : Wd} {H1 : Hp} {o : Out α} {R : Hp → Wd → α → β → Prop} {Q : β → Hp → Prop} {X : XK} (l : Lands B w H o R Q X) (k : Kp w H w1 H1) : Lands B w1 H1 o R Q X := by
  cases o with
  | ok a h' => exact fun w' H' b k' r q => l w' H' b (k.trans k') r q
  | exc c fs h' => exact fun w' H' d k' r q => l w' H' d (k.trans k') r q
  | stuck => exact l
theorem Lands.imp {α β : Type} {o : Out α} {R : Hp → Wd → α → β → Prop} {Q Q' : β → Hp → Prop} {X : XK} (l : Lands B w H o R Q X) (f : ∀ b H, Q b H → Q' b H) : Lands B w H o R Q' X := by
  cases o with
  | ok a h' => exact fun w' H' b k' r q => f _ _ (l w' H' b k' r q)
  | exc c fs h' => exact l
  | stuck => exact l
/-- a run in two steps -/
theorem Lands.bind {α β γ δ : Type} {o : Out α} {f : α → Hw → Out β} {R : Hp → Wd → β → δ → Prop} {R1 : Hp → Wd → α → γ → Prop} {Q : δ → Hp → Prop} {X : XK} (l : Lands B w H (o.bind f) R Q X) :
    Lands B w H o R1 (fun v H1 => ∃ w1 h1 x, Kp w H w1 H1 ∧ RH B H1 w1 h1 ∧ R1 H1 w1 x v ∧ Lands B w1 H1 (f x h1) R Q X) X := by
  cases o with
  | ok a h1 => exact fun w1 H1 b k r q => ⟨w1, h1, a, k, r, q, Lands.from l k⟩
  | exc c fs h' => exact l
  | stuck => exact l
theorem Lands.ok {α β : Type} {a : α} {h' : Hw} {R : Hp → Wd → α → β → Prop} {Q : β → Hp → Prop} {X : XK} {b : β} {w' : Wd} {H' : Hp} (l : Lands B w H (.ok a h') R Q X) (k : Kp w H w' H') (r : RH B H' w' h') (q : R H' w' a b) : Q b H' := l w' H' b k r q
end
end G
end
section
set_option Elab.async false
set_option linter.all false
set_option maxRecDepth 100000
/-! G4: readings by the evaluator; operators, comparisons -/
namespace G
open PySem L2
section
variable {X : Cx} {B : Bx} {H : Hp} {w : Wd} {h : Hw}

/-! ### the widest readings -/
theorem PE.imp {e : Expr} {t t' : TE} (p : PE X e t) (f : ∀ σ H Q, t' σ H Q → t σ H Q) : PE X e t' := ⟨fun pins s σ H Q I q => p.run pins s σ H Q I (f σ H Q q)⟩
theorem PT.imp {e : Expr} {t t' : TT} (p : PT X e t) (f : ∀ σ H Q, t' σ H Q → t σ H Q) : PT X e t' := ⟨fun pins s σ H Q I q => p.run pins s σ H Q I (f σ H Q q)⟩
theorem PA.imp {e : List Expr} {t t' : TA} (p : PA X e t) (f : ∀ σ H Q, t' σ H Q → t σ H Q) : PA X e t' := ⟨fun pos pins s σ H Q I q => p.run pos pins s σ H Q I (f σ H Q q)⟩
theorem PS.imp {e : Stmt} {t t' : TS} (p : PS X e t) (f : ∀ D σ H, t' D σ H → t D σ H) : PS X e t' := ⟨fun pins s σ H D I q => p.run pins s σ H D I (f D σ H q)⟩
theorem PSs.imp {e : List Stmt} {t t' : TS} (p : PSs X e t) (f : ∀ D σ H, t' D σ H → t D σ H) : PSs X e t' := ⟨fun pins s σ H D I q => p.run pins s σ H D I (f D σ H q)⟩
def sO (X : Cx) (f : Value → Value → Sem Value) : R2 := fun x y H Q => ∀ (pins : List (Addr × Obj)) (s : Shared) (σ : St) (v u : Value), Inv X pins σ H s → RelV x v → RelV y u → wpAny (model X.prog X.w) X.A (f v u) (EP X pins σ Q) X.xe s
theorem sO_ok {f : Value → Value → Sem Value} : OpR X f (sO X f) := fun pins s σ H x y v u Q I rx ry q => q pins s σ v u I rx ry
theorem OpR.s {f : Value → Value → Sem Value} {r : R2} (p : OpR X f r) {x y : V} {Q : VK} (q : r x y H Q) : sO X f x y H Q := fun pins s σ v u I rx ry => p pins s σ H x y v u Q I rx ry q
def sC (X : Cx) (f : Value) : List V → Hp → VK → Prop := fun xs H Q => ∀ (pins : List (Addr × Obj)) (s : Shared) (σ : St) (us : List Value), Inv X pins σ H s → Vals xs us → wpAny (model X.prog X.w) X.A (call f us) (EP X pins σ Q) X.xe s
theorem sC_ok {f : Value} : CallR X f (sC X f) := fun pins s σ H xs us Q I r q => q pins s σ us I r
theorem CallR.s {f : Value} {r : List V → Hp → VK → Prop} (p : CallR X f r) {xs : List V} {Q : VK} (q : r xs H Q) : sC X f xs H Q := fun pins s σ us I rx => p pins s σ H xs us Q I rx q
def sM (X : Cx) (id : String) : V → List V → Hp → VK → Prop := fun x xs H Q => ∀ (pins : List (Addr × Obj)) (s : Shared) (σ : St) (v : Value) (us : List Value), Inv X pins σ H s → RelV x v → Vals xs us → wpAny (model X.prog X.w) X.A (call (.builtin id) (v :: us)) (EP X pins σ Q) X.xe s
theorem sM_ok {id : String} : MtR X id (sM X id) := fun pins s σ H x xs v us Q I rx r q => q pins s σ v us I rx r
theorem MtR.s {id : String} {r : V → List V → Hp → VK → Prop} (p : MtR X id r) {x : V} {xs : List V} {Q : VK} (q : r x xs H Q) : sM X id x xs H Q := fun pins s σ v us I rx rr => p pins s σ H x xs v us Q I rx rr q
def sI (X : Cx) : R2 := fun x y H Q => ∀ (value slice : Expr) (pins : List (Addr × Obj)) (s : Shared) (σ : St) (v u : Value), Inv X pins σ H s → RelV x v → RelV y u → subscripted slice false v u = operate [v, u] (getItem v u) → wpAny (model X.prog X.w) X.A (PyProof.Rows.subscriptTail value slice v u) (EP X pins σ Q) X.xe s
theorem sI_ok : IxR X (sI X) := fun a b pins s σ H x y v u Q I rx ry q e => q a b pins s σ v u I rx ry e
theorem IxR.s {r : R2} (p : IxR X r) {x y : V} {Q : VK} (q : r x y H Q) : sI X x y H Q := fun a b pins s σ v u I rx ry e => p a b pins s σ H x y v u Q I rx ry q e

/-! ### readings by the evaluator -/
structure RS (B : Bx) (H : Hp) (w : Wd) (env : Env) (σ : St) : Prop where
  len : env.length = σ.length
  at_ : ∀ (i : Nat) (x : W), env[i]? = some (some x) → ∃ v, σ[i]? = some (some v) ∧ RV B H w x v
theorem RS.mono {H' : Hp} {w' : Wd} {env : Env} {σ : St} (k : Kp w H w' H') (r : RH B H w h) (s : RS B H w env σ) : RS B H' w' env σ :=
  ⟨s.len, fun i x e => let ⟨v, e1, q⟩ := s.at_ i x e; ⟨v, e1, q.mono k r x v⟩⟩
theorem RS.set {env : Env} {σ : St} (s : RS B H w env σ) (i : Nat) {x : W} {v : V} (q : RV B H w x v) : RS B H w (env.set i (some x)) (σ.set i (some v)) := by
  refine ⟨by simp [s.len], fun j y e => ?_⟩
  by_cases c : i = j
  · subst c
    have hl : i < env.length := by
      have := (List.getElem?_eq_some_iff.mp e).1
      simpa using this
    rw [List.getElem?_set_self hl] at e
    cases e
    exact ⟨v, List.getElem?_set_self (by rw [← s.len]; exact hl), q⟩
  · rw [List.getElem?_set_ne c] at e ⊢
    exact s.at_ j y e
theorem RS.drop {env : Env} {σ : St} (s : RS B H w env σ) (i : Nat) : RS B H w (env.set i none) (σ.set i none) := by
  refine ⟨by simp [s.len], fun j y e => ?_⟩
  by_cases c : i = j
  · subst c
    have hl : i < env.length := by
      have := (List.getElem?_eq_some_iff.mp e).1
      simpa using this
    rw [List.getElem?_set_self hl] at e
    cases e
  · rw [List.getElem?_set_ne c] at e ⊢
    exact s.at_ j y e
theorem RS.wipe {env : Env} {σ : St} (s : RS B H w env σ) : ∀ (vs : List Nat), RS B H w (wipeW env vs) (wipe σ vs)
  | [] => s
  | v :: vs => (RS.wipe s vs).drop v
abbrev RVr (B : Bx) : Hp → Wd → W → V → Prop := fun H w a b => RV B H w a b
abbrev RVsr (B : Bx) : Hp → Wd → List W → List V → Prop := fun H w a b => RVs B H w a b
abbrev REq {α : Type} : Hp → Wd → α → α → Prop := fun _ _ a b => a = b
def rG {α β : Type} (B : Bx) (f : Env → Hw → Out α) (R : Hp → Wd → α → β → Prop) (Wx : WX) : St → Hp → (β → Hp → Prop) → Prop := fun σ H Q => ∃ w h env, RH B H w h ∧ RS B H w env σ ∧ Lands B w H (f env h) R Q fun cls d H' => Wx cls d σ H'
abbrev rE (B : Bx) (c : Cs) (e : E) (Wx : WX) : TE := rG B (evE c e) (RVr B) Wx
abbrev rL (B : Bx) (c : Cs) (es : List E) (Wx : WX) : TA := rG B (evL c es) (RVsr B) Wx
def asB (x : W) (h : Hw) : Out Bool := match x with
  | .bl b => .ok b h
  | _ => .stuck
abbrev rT (B : Bx) (c : Cs) (e : E) (Wx : WX) : TT := rG B (fun env h => (evE c e env h).bind asB) REq Wx

/-- the step of a reading of two parts: behind the first, with what is known then -/
theorem rG_bind {α β γ δ : Type} {f : Env → Hw → Out α} {g : Env → α → Hw → Out β} {R : Hp → Wd → β → δ → Prop} {R1 : Hp → Wd → α → γ → Prop} {Wx : WX} {σ : St} {Q : δ → Hp → Prop}
    (q : rG B (fun env h => (f env h).bind (g env)) R Wx σ H Q) :
    rG B f R1 Wx σ H fun v H1 => ∃ w1 h1 env x, RH B H1 w1 h1 ∧ RS B H1 w1 env σ ∧ R1 H1 w1 x v ∧ Lands B w1 H1 (g env x h1) R Q fun cls d H' => Wx cls d σ H' := by
  obtain ⟨w, h, env, r, s, l⟩ := q
  refine ⟨w, h, env, r, s, (Lands.bind (R1 := R1) l).imp fun v H1 ⟨w1, h1, x, k, r1, q1, l1⟩ => ⟨w1, h1, env, x, r1, s.mono k r, q1, l1⟩⟩
theorem Lands.asB {α β : Type} {o : Out W} {f g : Hw → Out α} {R : Hp → Wd → α → β → Prop} {Q : β → Hp → Prop} {Xk : XK}
    (l : Lands B w H (o.bind fun x h1 => match x with
      | .bl true => f h1
      | .bl false => g h1
      | _ => .stuck) R Q Xk) : Lands B w H ((o.bind asB).bind fun b h1 => if b then f h1 else g h1) R Q Xk := by
  cases o with
  | exc c fs h1 => exact l
  | stuck => exact l
  | ok x h1 =>
    cases x with
    | bl b => cases b <;> exact l
    | _ => exact False.elim l

/-! ### places -/
theorem getL_ok {x : W} {v : V} {xs : List W} (r : RH B H w h) (q : RV B H w x v) (e : getL h x = some xs) : ∃ a vs, v = .ref a ∧ SqL B.K H a vs ∧ RVs B H w xs vs := by
  cases x with
  | lst ys =>
    obtain ⟨a, vs, e1, z, e2, q⟩ := q
    cases e
    exact ⟨a, vs, e1, SqL.of e2, q⟩
  | ref n =>
    obtain ⟨a, e1, e2⟩ := q
    have e' : (match h[n]? with
      | some (.lst xs) => some xs
      | some (.frz xs) => some xs
      | _ => none) = some xs := e
    cases hn : h[n]? with
    | none => rw [hn] at e'; cases e'
    | some o =>
      have ro := r.ro n o a hn e2
      rw [hn] at e'
      cases o with
      | lst ys =>
        cases e'
        obtain ⟨vs, e3, q⟩ := ro
        exact ⟨a, vs, e1, SqL.of e3, q⟩
      | frz ys =>
        cases e'
        obtain ⟨u, vs, e3, q⟩ := ro
        exact ⟨a, vs, e1, .inl (.inr ⟨u, e3⟩), q⟩
      | dic _ => cases e'
      | ins _ _ => cases e'
  | _ => cases e
theorem getS_ok {x : W} {v : V} {xs : List W} (r : RH B H w h) (q : RV B H w x v) (e : getS h x = some xs) : ∃ a vs, v = .ref a ∧ (SqL B.K H a vs ∨ SqT B.K H a vs) ∧ RVs B H w xs vs := by
  cases x with
  | tup ys =>
    obtain ⟨a, vs, e1, e2, q⟩ := q
    cases e
    exact ⟨a, vs, e1, .inr e2.sq, q⟩
  | _ =>
    obtain ⟨a, vs, e1, e2, q⟩ := getL_ok r q (show getL h _ = some xs from e)
    exact ⟨a, vs, e1, .inl e2, q⟩
theorem sz_of {n : Nat} (e : sz n = true) : n ≤ sizeLine := by
  rw [sizeLine_eq]
  exact of_decide_eq_true e
theorem mkL_ok {m : Bool} {xs : List W} {vs : List V} {Q : VK} {Xk : XK} (l : Lands B w H (mkL m xs h) (RVr B) Q Xk) (r : RH B H w h) (q : RVs B H w xs vs) : vs.length ≤ sizeLine ∧ ∀ p, H p = none → Q (.ref p) (upd H p (.lst vs)) := by
  unfold mkL at l
  cases c : sz xs.length with
  | false => rw [c] at l; exact False.elim l
  | true =>
    rw [c, if_pos rfl] at l
    refine ⟨by rw [← q.length]; exact sz_of c, fun p hp => ?_⟩
    cases m with
    | true =>
      rw [if_pos rfl] at l
      refine l.ok (w' := w.nw p) (Kp.nw hp) (r.nw hp ⟨vs, upd_same, q.mono (Kp.nw hp).le r⟩) ⟨p, rfl, ?_⟩
      rw [← r.len]
      exact List.getElem?_concat_length
    | false =>
      exact l.ok (w' := w.fz p) (Kp.fz hp) (r.fz hp) ⟨p, vs, rfl, .inr rfl, upd_same, q.mono (Kp.fz hp).le r⟩
theorem mkT_ok {xs : List W} {vs : List V} {Q : VK} {Xk : XK} (l : Lands B w H (mkT xs h) (RVr B) Q Xk) (r : RH B H w h) (q : RVs B H w xs vs) : vs.length ≤ sizeLine ∧ ∀ p, H p = none → Q (.ref p) (upd H p (.tup vs)) := by
  unfold mkT at l
  cases c : sz xs.length with
  | false => rw [c] at l; exact False.elim l
  | true =>
    rw [c, if_pos rfl] at l
    refine ⟨by rw [← q.length]; exact sz_of c, fun p hp => ?_⟩
    exact l.ok (w' := w) (Kp.upd0 hp) (r.upd0 hp) ⟨p, vs, rfl, .inl upd_same, q.mono (Kp.upd0 hp).le r⟩
/-- an end that makes nothing -/
theorem Lands.here {x : W} {v : V} {Q : VK} {Xk : XK} (l : Lands B w H (.ok x h) (RVr B) Q Xk) (r : RH B H w h) (q : RV B H w x v) : Q v H := l.ok (Kp.refl w H) r q

/-! ### data -/
mutual
theorem toD_ok : ∀ {x : W} {v : V} {d : PyData}, RV B H w x v → toD x = some d → Dp B.K H v d
  | .non, v, d, q, e => by cases e; cases (show v = .non from q); exact .non
  | .bl b, v, d, q, e => by cases e; cases (show v = .bl b from q); exact .bl b
  | .int i, v, d, q, e => by cases e; cases (show v = .int i from q); exact .int i
  | .str s, v, d, q, e => by cases e; cases (show v = .str s from q); exact .str s
  | .tup xs, v, d, ⟨a, vs, e1, e2, q⟩, e => by
    have e : (toDs xs).map PyData.tuple = some d := e
    cases c : toDs xs with
    | none => rw [c] at e; cases e
    | some ds => rw [c] at e; cases e; subst e1; exact .tup e2.sq (toDs_ok q c)
  | .lst xs, v, d, ⟨a, vs, e1, z, e2, q⟩, e => by
    have e : (toDs xs).map PyData.list = some d := e
    cases c : toDs xs with
    | none => rw [c] at e; cases e
    | some ds => rw [c] at e; cases e; subst e1; exact .lst (SqL.of e2) (toDs_ok q c)
  | .dic _, _, _, _, e => by cases e
  | .ref _, _, _, _, e => by cases e
  | .exc _ _, _, _, _, e => by cases e
theorem toDs_ok : ∀ {xs : List W} {vs : List V} {ds : List PyData}, RVs B H w xs vs → toDs xs = some ds → DpAll B.K H vs ds
  | [], vs, ds, q, e => by cases e; cases (show vs = [] from q); exact .nil
  | x :: xs, vs, ds, ⟨v, t, e1, q1, q2⟩, e => by
    subst e1
    have e : (match toD x with
      | none => none
      | some d => match toDs xs with
        | none => none
        | some ds => some (d :: ds)) = some ds := e
    cases c1 : toD x with
    | none => rw [c1] at e; cases e
    | some d =>
      rw [c1] at e
      cases c2 : toDs xs with
      | none => rw [c2] at e; cases e
      | some es =>
        rw [c2] at e
        cases e
        exact .cons (toD_ok q1 c1) (toDs_ok q2 c2)
end
theorem topD_ok {x : W} {v : V} {d : PyData} (r : RH B H w h) (q : RV B H w x v) (e : topD h x = some d) : Dp B.K H v d := by
  cases x with
  | ref n =>
    obtain ⟨a, e1, e2⟩ := q
    have e' : (match h[n]? with
      | some (.lst xs) => (toDs xs).map PyData.list
      | _ => none) = some d := e
    cases hn : h[n]? with
    | none => rw [hn] at e'; cases e'
    | some o =>
      have ro := r.ro n o a hn e2
      rw [hn] at e'
      cases o with
      | lst ys =>
        obtain ⟨vs, e3, q⟩ := ro
        have e' : (toDs ys).map PyData.list = some d := e'
        cases c : toDs ys with
        | none => rw [c] at e'; cases e'
        | some ds => rw [c] at e'; cases e'; subst e1; exact .lst (SqL.of e3) (toDs_ok q c)
      | _ => cases e'
  | _ => exact toD_ok q e
theorem eqF_ok {a b : W} {x y : V} {k : Bool} (qa : RV B H w a x) (qb : RV B H w b y) (e : eqF a b = some k) : scal x y = true ∧ k = decide (x = y) := by
  cases a <;> cases b <;> first
    | (cases e; done)
    | (cases qa; cases qb; cases e; exact ⟨rfl, by simp⟩)
    | (cases qa; cases qb; cases e; refine ⟨rfl, ?_⟩; rw [Bool.eq_iff_iff]; simp)
theorem flatW_ok {a : W} {x : V} (qa : RV B H w a x) (e : flatW a = true) : flatV x = true := by
  cases a <;> first
    | (cases qa; rfl)
    | exact absurd (show false = true from e) Bool.false_ne_true
theorem eqF_V {a b : W} {x y : V} {k : Bool} (qa : RV B H w a x) (qb : RV B H w b y) (e : eqF a b = some k) : flatV x = true ∧ flatV y = true ∧ eqV x y = k := by
  cases a <;> cases b <;> first
    | (cases e; done)
    | (cases qa; cases qb; cases e; exact ⟨rfl, rfl, rfl⟩)
    | (cases qa; cases qb; cases e; refine ⟨rfl, rfl, ?_⟩; show (_ == _) = decide _; rw [Bool.eq_iff_iff]; simp)
theorem inF_ok {a : W} {x : V} (qa : RV B H w a x) : ∀ {xs : List W} {vs : List V} {k : Bool}, RVs B H w xs vs → inF a xs = some k → vs.all flatV = true ∧ inV x vs = k
  | [], vs, k, q, e => by cases e; cases (show vs = [] from q); exact ⟨rfl, rfl⟩
  | y :: ys, vs, k, ⟨v, t, e1, q1, q2⟩, e => by
    subst e1
    have e : (match eqF y a with
      | none => none
      | some r => match inF a ys with
        | none => none
        | some q => some (r || q)) = some k := e
    cases c1 : eqF y a with
    | none => rw [c1] at e; cases e
    | some r =>
      rw [c1] at e
      cases c2 : inF a ys with
      | none => rw [c2] at e; cases e
      | some q =>
        rw [c2] at e
        cases e
        obtain ⟨f1, _, e3⟩ := eqF_V q1 qa c1
        obtain ⟨f2, e4⟩ := inF_ok qa q2 c2
        refine ⟨by simp [f1, f2], ?_⟩
        show (eqV v x || inV x t) = _
        rw [e3, e4]

/-! ### the operators -/
def bopOf : Bop → Operator
  | .add => .Add | .sub => .Sub | .mul => .Mult | .fdiv => .FloorDiv | .mod => .Mod | .pow => .Pow
def copOf : Cop → CmpOp
  | .eq => .Eq | .ne => .NotEq | .lt => .Lt | .le => .LtE | .gt => .Gt | .ge => .GtE | .isN => .Is | .isnN => .IsNot | .inn => .In | .nin => .NotIn
theorem small_of {i : Int} (e : small64 i = true) : -(2 ^ 64) < i ∧ i < 2 ^ 64 := of_decide_eq_true e
/-- a list that isn't frozen -/
theorem getX_ok {x : W} {v : V} {xs : List W} (r : RH B H w h) (q : RV B H w x v) (e : getX h x = some xs) : ∃ a vs, v = .ref a ∧ H a = some (.lst vs) ∧ RVs B H w xs vs := by
  cases x with
  | lst ys =>
    obtain ⟨a, vs, e1, z, e2, q⟩ := q
    cases e
    exact ⟨a, vs, e1, e2, q⟩
  | ref n =>
    obtain ⟨a, e1, e2⟩ := q
    have e' : (match h[n]? with
      | some (.lst xs) => some xs
      | _ => none) = some xs := e
    cases hn : h[n]? with
    | none => rw [hn] at e'; cases e'
    | some o =>
      have ro := r.ro n o a hn e2
      rw [hn] at e'
      cases o with
      | lst ys =>
        cases e'
        obtain ⟨vs, e3, q⟩ := ro
        exact ⟨a, vs, e1, e3, q⟩
      | _ => cases e'
  | _ => cases e
end
end G
end
section
set_option Elab.async false
set_option linter.all false
set_option maxRecDepth 100000
/-! G5: the operators' words over the layer -/
namespace G
open PySem L2
section
variable {X : Cx} {B : Bx} {H : Hp} {w : Wd} {h : Hw}
theorem bin_ok {m : Bool} {op : Bop} {a b : W} {x y : V} {Q : VK} {Xk : XK} (hK : B.K = X.K) (l : Lands B w H (binW m op a b h) (RVr B) Q Xk) (r : RH B H w h) (qa : RV B H w a x) (qb : RV B H w b y) : sO X (binaryOp (bopOf op)) x y H Q := by
  unfold binW at l
  split at l
  · cases qa; cases qb
    exact OpR.s op_add ⟨_, _, rfl, rfl, l.here r rfl⟩
  · cases qa; cases qb
    exact OpR.s op_sub ⟨_, _, rfl, rfl, l.here r rfl⟩
  · cases qa; cases qb
    split at l
    · rename_i i j c
      refine OpR.s op_mul ⟨_, _, rfl, rfl, ?_, l.here r rfl⟩
      rcases (Bool.or_eq_true _ _).mp c with c | c
      · exact .inl (small_of c)
      · exact .inr (small_of c)
    · exact l.elim
  · cases qa; cases qb
    split at l
    · rename_i i j c
      have c := of_decide_eq_true c
      exact OpR.s op_fdiv ⟨_, _, rfl, rfl, ⟨c.1, by have := c.2; omega⟩, l.here r rfl⟩
    · exact l.elim
  · cases qa; cases qb
    split at l
    · rename_i i j c
      exact OpR.s op_mod ⟨_, _, rfl, rfl, of_decide_eq_true c, l.here r rfl⟩
    · exact l.elim
  · cases qa; cases qb
    split at l
    · rename_i i j c
      have c := of_decide_eq_true c
      exact OpR.s op_pow ⟨_, _, rfl, rfl, ⟨c.1, by omega, by omega⟩, l.here r rfl⟩
    · exact l.elim
  · cases qa; cases qb
    split at l
    · rename_i i j c
      exact OpR.s op_add_str ⟨_, _, rfl, rfl, sz_of c, l.here r rfl⟩
    · exact l.elim
  · split at l
    · rename_i xs ex
      split at l
      · rename_i ys ey
        obtain ⟨p, vs, rfl, hp, qx⟩ := getX_ok r qa ex
        obtain ⟨p', us, rfl, hp', qy⟩ := getX_ok r qb ey
        obtain ⟨hz, q⟩ := mkL_ok l r (qx.append qy)
        rw [List.length_append] at hz
        exact OpR.s op_cat ⟨_, _, _, _, rfl, rfl, hp, hp', hz, q⟩
      · exact l.elim
    · exact l.elim
  · exact l.elim
theorem map_some {α β : Type} {f : α → β} {o : Option α} {b : β} (e : o.map f = some b) : ∃ a, o = some a ∧ f a = b := by
  cases o with
  | none => cases e
  | some a => exact ⟨a, rfl, Option.some.inj e⟩
theorem eqW_ok {a b : W} {x y : V} {k : Bool} {Q : VK} (hK : B.K = X.K) (hu : X.A.units + 64 < cLine) (r : RH B H w h) (qa : RV B H w a x) (qb : RV B H w b y) (e : eqW h a b = some k) (q : Q (.bl k) H) : sO X (compareOp .Eq) x y H Q := by
  unfold eqW at e
  split at e
  · rename_i k' e'
    cases e
    obtain ⟨h1, h2⟩ := eqF_ok qa qb e'
    subst h2
    exact OpR.s op_eq ⟨h1, q⟩
  · split at e
    · cases e
    · rename_i d ed
      split at e
      · cases e
      · rename_i d' ed'
        split at e
        · rename_i c
          cases e
          have c := (Bool.and_eq_true _ _).mp c
          exact OpR.s (op_eqD hu) ⟨d, d', hK ▸ topD_ok r qa ed, hK ▸ topD_ok r qb ed', c.1, c.2, q⟩
        · cases e
theorem neW_ok {a b : W} {x y : V} {k : Bool} {Q : VK} (hK : B.K = X.K) (hu : X.A.units + 64 < cLine) (r : RH B H w h) (qa : RV B H w a x) (qb : RV B H w b y) (e : eqW h a b = some k) (q : Q (.bl (!k)) H) : sO X (compareOp .NotEq) x y H Q := by
  unfold eqW at e
  split at e
  · rename_i k' e'
    cases e
    obtain ⟨h1, h2⟩ := eqF_ok qa qb e'
    subst h2
    exact OpR.s op_ne ⟨h1, q⟩
  · split at e
    · cases e
    · rename_i d ed
      split at e
      · cases e
      · rename_i d' ed'
        split at e
        · rename_i c
          cases e
          have c := (Bool.and_eq_true _ _).mp c
          exact OpR.s (op_neD hu) ⟨d, d', hK ▸ topD_ok r qa ed, hK ▸ topD_ok r qb ed', c.1, c.2, q⟩
        · cases e
theorem mem_map1 {c : Nat} {l : List Nat} : decide ((⟨#[c]⟩ : Str) ∈ l.map fun n => (⟨#[n]⟩ : Str)) = decide (c ∈ l) := by
  rw [Bool.eq_iff_iff]
  simp
theorem one_sign {c : Str} (e : (c.length == 1) = true) : ∃ n, c = ⟨#[n]⟩ := by
  obtain ⟨⟨l⟩⟩ := c
  have e : l.length = 1 := by simpa [Str.length] using e
  match l, e with
  | [n], _ => exact ⟨n, rfl⟩
theorem inn_ok {a b : W} {x y : V} {k : Bool} {Q : VK} (hK : B.K = X.K) (hu : X.A.units + 65 < cLine) (r : RH B H w h) (qa : RV B H w a x) (qb : RV B H w b y) (e : inW h a b = some k) (q : Q (.bl k) H) : sO X (compareOp .In) x y H Q := by
  unfold inW at e
  split at e
  · split at e
    · rename_i z c
      split at e
      · rename_i c1
        cases e
        cases qa; cases qb
        obtain ⟨n, rfl⟩ := one_sign c1
        rw [mem_map1] at q
        exact OpR.s op_in_sign ⟨n, _, rfl, rfl, q⟩
      · cases e
    · cases e
  · split at e
    · cases e
    · rename_i ys ey
      split at e
      · rename_i hf
        obtain ⟨p, vs, rfl, hp, qv⟩ := getS_ok r qb ey
        obtain ⟨f1, f2⟩ := inF_ok qa qv e
        rw [hK] at hp
        refine OpR.s op_in_seq ⟨p, vs, rfl, hp, flatW_ok qa hf, f1, ?_⟩
        rw [f2, if_neg (by decide)]
        exact q
      · split at e
        · cases e
        · rename_i d ed
          split at e
          · rename_i ds eds
            split at e
            · rename_i c
              cases e
              have c := (Bool.and_eq_true _ _).mp c
              exact OpR.s (op_inD hu) ⟨d, ds, hK ▸ toD_ok qa ed, hK ▸ topD_ok r qb eds, c.1, c.2, q⟩
            · cases e
          · cases e
theorem nin_ok {a b : W} {x y : V} {k : Bool} {Q : VK} (hK : B.K = X.K) (hu : X.A.units + 65 < cLine) (r : RH B H w h) (qa : RV B H w a x) (qb : RV B H w b y) (e : inW h a b = some k) (q : Q (.bl (!k)) H) : sO X (compareOp .NotIn) x y H Q := by
  unfold inW at e
  split at e
  · split at e
    · rename_i z c
      split at e
      · rename_i c1
        cases e
        cases qa; cases qb
        obtain ⟨n, rfl⟩ := one_sign c1
        rw [mem_map1] at q
        exact OpR.s op_notIn_sign ⟨n, _, rfl, rfl, q⟩
      · cases e
    · cases e
  · split at e
    · cases e
    · rename_i ys ey
      split at e
      · rename_i hf
        obtain ⟨p, vs, rfl, hp, qv⟩ := getS_ok r qb ey
        obtain ⟨f1, f2⟩ := inF_ok qa qv e
        rw [hK] at hp
        refine OpR.s op_notIn_seq ⟨p, vs, rfl, hp, flatW_ok qa hf, f1, ?_⟩
        rw [f2, if_pos rfl]
        exact q
      · split at e
        · cases e
        · rename_i d ed
          split at e
          · rename_i ds eds
            split at e
            · rename_i c
              cases e
              have c := (Bool.and_eq_true _ _).mp c
              exact OpR.s (op_notInD hu) ⟨d, ds, hK ▸ toD_ok qa ed, hK ▸ topD_ok r qb eds, c.1, c.2, q⟩
            · cases e
          · cases e
theorem Lands.of_some {α β : Type} {o : Option α} {R : Hp → Wd → α → β → Prop} {Q : β → Hp → Prop} {Xk : XK} (l : Lands B w H (Out.of o h) R Q Xk) : ∃ a, o = some a ∧ Lands B w H (.ok a h) R Q Xk := by
  cases o with
  | none => exact l.elim
  | some a => exact ⟨a, rfl, l⟩
theorem isN_ok {a : W} {x : V} (qa : RV B H w a x) : isNonW a = decide (x = V.non) := by
  cases a <;> first
    | (cases qa; simp [isNonW]; done)
    | (obtain ⟨_, _, rfl, _⟩ := qa; simp [isNonW])
    | (obtain ⟨_, rfl, _⟩ := qa; simp [isNonW])
/-- a comparison (y None by the word, where the test is is or is not) -/
theorem cmp_ok {op : Cop} {a b : W} {x y : V} {k : Bool} {Q : VK} (hK : B.K = X.K) (hu : X.A.units + 65 < cLine) (hn : op = .isN ∨ op = .isnN → b = .non) (r : RH B H w h) (qa : RV B H w a x) (qb : RV B H w b y) (e : cmpW op a b h = some k) (q : Q (.bl k) H) : sO X (compareOp (copOf op)) x y H Q := by
  cases op with
  | eq => exact eqW_ok hK (by omega) r qa qb e q
  | ne =>
    obtain ⟨k', e1, e2⟩ := map_some e
    subst e2
    exact neW_ok hK (by omega) r qa qb e1 q
  | inn => exact inn_ok hK hu r qa qb e q
  | nin =>
    obtain ⟨k', e1, e2⟩ := map_some e
    subst e2
    exact nin_ok hK hu r qa qb e1 q
  | isN =>
    have := hn (.inl rfl)
    subst this
    cases qb
    have e : some (isNonW a) = some k := e
    rw [isN_ok qa] at e
    cases e
    exact OpR.s op_isN ⟨rfl, q⟩
  | isnN =>
    have := hn (.inr rfl)
    subst this
    cases qb
    have e : some (!isNonW a) = some k := e
    rw [isN_ok qa] at e
    cases e
    exact OpR.s op_notN ⟨rfl, q⟩
  | lt =>
    cases a <;> cases b <;> first
      | (cases e; done)
      | (cases qa; cases qb; cases e; exact OpR.s op_lt ⟨_, _, rfl, rfl, q⟩)
      | (cases qa; cases qb; cases e; exact OpR.s op_lt_str ⟨_, _, rfl, rfl, q⟩)
  | le =>
    cases a <;> cases b <;> first
      | (cases e; done)
      | (cases qa; cases qb; cases e; exact OpR.s op_le ⟨_, _, rfl, rfl, q⟩)
  | gt =>
    cases a <;> cases b <;> first
      | (cases e; done)
      | (cases qa; cases qb; cases e; exact OpR.s op_gt ⟨_, _, rfl, rfl, q⟩)
  | ge =>
    cases a <;> cases b <;> first
      | (cases e; done)
      | (cases qa; cases qb; cases e; exact OpR.s op_ge ⟨_, _, rfl, rfl, q⟩)
theorem atI_ok {xs : List W} {vs : List V} {i : Int} {x : W} (q : RVs B H w xs vs) (e : ixAt xs i = some x) : ∃ v, atI vs i = some v ∧ RV B H w x v := by
  unfold ixAt at e
  have hl := q.length
  split at e
  · rename_i h0
    obtain ⟨v, e1, e2⟩ := q.get e
    refine ⟨v, ?_, e2⟩
    have hlt := (List.getElem?_eq_some_iff.mp e1).1
    unfold atI ixN
    rw [if_pos h0, if_pos (by omega)]
    exact e1
  · rename_i h0
    split at e
    · rename_i h1
      obtain ⟨v, e1, e2⟩ := q.get e
      refine ⟨v, ?_, e2⟩
      have hlt := (List.getElem?_eq_some_iff.mp e1).1
      unfold atI ixN
      rw [hl] at e1 h1
      rw [if_neg h0]
      first
        | (rw [if_pos (by omega)]; exact e1)
        | (simp only [h1, if_true]; exact e1)
    · cases e
end
end G
end
section
set_option Elab.async false
set_option linter.all false
set_option maxRecDepth 100000
/-! G6: expressions -/
namespace G
open PySem L2
section
variable {X : Cx} {B : Bx} {c : Cs} {Wx : WX} {pos : Pos}
theorem rG.imp {α β : Type} {f : Env → Hw → Out α} {R : Hp → Wd → α → β → Prop} {σ : St} {H : Hp} {Q Q' : β → Hp → Prop} (q : rG B f R Wx σ H Q) (m : ∀ b H, Q b H → Q' b H) : rG B f R Wx σ H Q' := by
  obtain ⟨w, h, env, r, s, l⟩ := q
  exact ⟨w, h, env, r, s, l.imp m⟩
/-- behind two parts -/
theorem rE_two {α β : Type} {f : W → W → Hw → Out α} {R : Hp → Wd → α → β → Prop} {a b : E} {σ : St} {H : Hp} {Q : β → Hp → Prop}
    (q : rG B (fun env h => (evE c a env h).bind fun x h1 => (evE c b env h1).bind fun y h2 => f x y h2) R Wx σ H Q) :
    rE B c a Wx σ H fun v H1 => rE B c b Wx σ H1 fun u H2 => ∃ w2 h2 env x y, RH B H2 w2 h2 ∧ RS B H2 w2 env σ ∧ RV B H2 w2 x v ∧ RV B H2 w2 y u ∧ Lands B w2 H2 (f x y h2) R Q (fun cls d H' => Wx cls d σ H') := by
  refine (rG_bind (f := fun env h => evE c a env h) (g := fun env x h1 => (evE c b env h1).bind fun y h2 => f x y h2) (R1 := RVr B) q).imp fun v H1 ⟨w1, h1, env, x, r1, s1, qx, l1⟩ => ?_
  refine ⟨w1, h1, env, r1, s1, (Lands.bind (R1 := RVr B) l1).imp fun u H2 ⟨w2, h2, y, k, r2, qy, l2⟩ => ?_⟩
  exact ⟨w2, h2, env, x, y, r2, s1.mono k r1, qx.mono k r1 x v, qy, l2⟩
theorem rE_one {α β : Type} {f : Env → W → Hw → Out α} {R : Hp → Wd → α → β → Prop} {a : E} {σ : St} {H : Hp} {Q : β → Hp → Prop}
    (q : rG B (fun env h => (evE c a env h).bind fun x h1 => f env x h1) R Wx σ H Q) :
    rE B c a Wx σ H fun v H1 => ∃ w1 h1 env x, RH B H1 w1 h1 ∧ RS B H1 w1 env σ ∧ RV B H1 w1 x v ∧ Lands B w1 H1 (f env x h1) R Q (fun cls d H' => Wx cls d σ H') :=
  rG_bind (f := fun env h => evE c a env h) (g := f) (R1 := RVr B) q
theorem rL_one {α β : Type} {f : List W → Hw → Out α} {R : Hp → Wd → α → β → Prop} {es : List E} {σ : St} {H : Hp} {Q : β → Hp → Prop}
    (q : rG B (fun env h => (evL c es env h).bind fun x h1 => f x h1) R Wx σ H Q) :
    rL B c es Wx σ H fun v H1 => ∃ w1 h1 env x, RH B H1 w1 h1 ∧ RS B H1 w1 env σ ∧ RVs B H1 w1 x v ∧ Lands B w1 H1 (f x h1) R Q (fun cls d H' => Wx cls d σ H') :=
  rG_bind (f := fun env h => evL c es env h) (g := fun _ => f) (R1 := RVsr B) q

/-! ### names, constants -/
theorem e_var {i : Nat} {x : Str} (hN : X.N[i]? = some x) (hv : Vis X.env.scope x) (hd : (x == ("__debug__" : Str)) = false) (hcd : (x == ("__classdict__" : Str)) = false) : PE X (.Name x pos) (rE B c (.var i) Wx) := by
  refine PE.imp (pe_var hN hv hd hcd) fun σ H Q ⟨w, h, env, r, s, l⟩ => ?_
  have l : Lands B w H (match env[i]? with
    | some (some w) => .ok w h
    | _ => .stuck) (RVr B) Q _ := l
  cases e : env[i]? with
  | none => rw [e] at l; exact False.elim l
  | some o =>
    cases o with
    | none => rw [e] at l; exact False.elim l
    | some x =>
      rw [e] at l
      obtain ⟨v, e1, q⟩ := s.at_ i x e
      exact ⟨v, e1, l.here r q⟩
theorem e_int {i : Int} {j} : PE X (.Constant (.int i) j pos) (rE B c (.cst (.int i)) Wx) := PE.imp pe_int fun σ H Q ⟨w, h, env, r, s, l⟩ => Lands.here l r rfl
theorem e_bl {i : Bool} {j} : PE X (.Constant (.bool i) j pos) (rE B c (.cst (.bl i)) Wx) := PE.imp pe_bl fun σ H Q ⟨w, h, env, r, s, l⟩ => Lands.here l r rfl
theorem e_non {j} : PE X (.Constant .none j pos) (rE B c (.cst .non) Wx) := PE.imp pe_non fun σ H Q ⟨w, h, env, r, s, l⟩ => Lands.here l r rfl
theorem e_str {x : Str} {j} : PE X (.Constant (.str x) j pos) (rE B c (.cst (.str x)) Wx) := PE.imp pe_str fun σ H Q ⟨w, h, env, r, s, l⟩ => Lands.here l r rfl
/-- a global name that holds an int or a text -/
theorem e_glo {x : Str} {z : W} {u : Value} (hz : (∃ i, z = .int i ∧ RelV (.int i) u) ∨ (∃ i, z = .str i ∧ RelV (.str i) u)) (hg : Gl X x) (hm : X.mg x = some u) (hd : (x == ("__debug__" : Str)) = false) : PE X (.Name x pos) (rE B c (.cst z) Wx) := by
  rcases hz with ⟨i, rfl, ru⟩ | ⟨i, rfl, ru⟩
  · exact PE.imp (pe_glob (v := .int i) hg hm ru hd) fun σ H Q ⟨w, h, env, r, s, l⟩ => Lands.here l r rfl
  · exact PE.imp (pe_glob (v := .str i) hg hm ru hd) fun σ H Q ⟨w, h, env, r, s, l⟩ => Lands.here l r rfl

/-! ### argument lists -/
def star : Expr → Bool
  | .Starred _ _ => true
  | _ => false
theorem star_ok {e : Expr} {es : List Expr} {env : PySem.Env} (h : star e = false) : starEach (e :: es) env = (false, eval e env) :: starEach es env := by
  cases e <;> first
    | rfl
    | cases h
theorem l_nil : PA X [] (rL B c [] Wx) := PA.imp pa_nil fun σ H Q ⟨w, h, env, r, s, l⟩ => l.ok (Kp.refl _ _) r rfl
theorem l_cons {e : Expr} {es : List Expr} {a : E} {as : List E} (ha : PE X e (rE B c a Wx)) (hr : PA X es (rL B c as Wx)) (hs : star e = false) : PA X (e :: es) (rL B c (a :: as) Wx) := by
  refine PA.imp (pa_cons ha hr (star_ok hs)) fun σ H Q q => ?_
  refine (rE_one (f := fun env x h1 => (evL c as env h1).bind fun xs h2 => .ok (x :: xs) h2) q).imp fun v H1 ⟨w1, h1, env, x, r1, s1, qx, l1⟩ => ?_
  refine ⟨w1, h1, env, r1, s1, (Lands.bind (R1 := RVsr B) l1).imp fun u H2 ⟨w2, h2, y, k, r2, qy, l2⟩ => ?_⟩
  exact l2.ok (Kp.refl _ _) r2 ⟨v, u, rfl, qx.mono k r1 x v, qy⟩
def noStar (es : List Expr) : Bool := es.all fun e => !star e
theorem plain_ok {pos : Pos} {env : PySem.Env} : ∀ {es : List Expr}, noStar es = true → (backTo pos (starEach es env)).any (·.1) = false
  | [], _ => rfl
  | e :: es, h => by
    have h' : (!star e && noStar es) = true := h
    obtain ⟨h1, h2⟩ := (Bool.and_eq_true _ _).mp h'
    rw [star_ok (by simpa using h1)]
    show (false || (backTo pos (starEach es env)).any (·.1)) = false
    rw [plain_ok h2]; rfl

/-! ### displays, operators -/
theorem e_tup {es : List Expr} {as : List E} {k} (ha : PA X es (rL B c as Wx)) : PE X (.Tuple es k pos) (rE B c (.tup as) Wx) := by
  refine PE.imp (pe_tup ha) fun σ H Q q => ?_
  exact (rL_one (f := mkT) q).imp fun vs H1 ⟨w1, h1, env, xs, r1, s1, qx, l1⟩ => mkT_ok l1 r1 qx
theorem e_lst {es : List Expr} {as : List E} {m : Bool} (ha : PA X es (rL B c as Wx)) : PE X (.List es pos) (rE B c (.lst m as) Wx) := by
  refine PE.imp (pe_lst ha) fun σ H Q q => ?_
  exact (rL_one (f := mkL m) q).imp fun vs H1 ⟨w1, h1, env, xs, r1, s1, qx, l1⟩ => mkL_ok l1 r1 qx
theorem e_bin {m : Bool} {op : Bop} {a b : Expr} {ia ib : E} (hK : B.K = X.K) (ha : PE X a (rE B c ia Wx)) (hb : PE X b (rE B c ib Wx)) : PE X (.BinOp a (bopOf op) b pos) (rE B c (.bin m op ia ib) Wx) := by
  refine PE.imp (pe_op (sO_ok) ha hb) fun σ H Q q => ?_
  refine (rE_two (f := fun x y h2 => binW m op x y h2) q).imp fun v H1 q1 => q1.imp fun u H2 ⟨w2, h2, env, x, y, r2, s2, qx, qy, l2⟩ => ?_
  exact bin_ok hK l2 r2 qx qy
def isNone : Expr → Bool
  | .Constant .none _ _ => true
  | _ => false
def marks (op : CmpOp) (b : Expr) : Bool := behindInMarks op b
/-- what is and is not ask -/
def noneOk (op : Cop) (i : E) : Bool := match op, i with
  | .isN, .cst .non => true
  | .isnN, .cst .non => true
  | .isN, _ => false
  | .isnN, _ => false
  | _, _ => true
theorem noneOk_ev {op : Cop} {i : E} {env : Env} {h h1 : Hw} {y : W} (hn : noneOk op i = true) (e : evE c i env h = .ok y h1) : op = .isN ∨ op = .isnN → y = .non := by
  intro ho
  have hi : i = .cst .non := by
    rcases ho with rfl | rfl <;> (cases i <;> try (cases hn)) <;> rename_i z <;> cases z <;> first | rfl | cases hn
  subst hi
  have e : Out.ok W.non h = Out.ok y h1 := e
  cases e
  rfl
theorem cmp_core {op : Cop} {ia ib : E} {σ : St} {H : Hp} {Q : VK} (hK : B.K = X.K) (hu : X.A.units + 65 < cLine) (hn : noneOk op ib = true) (q : rE B c (.cmp op ia ib) Wx σ H Q) :
    rE B c ia Wx σ H fun v H1 => rE B c ib Wx σ H1 fun u H2 => sO X (compareOp (copOf op)) v u H2 Q := by
  refine (rE_one (f := fun env x h1 => (evE c ib env h1).bind fun y h2 => Out.of ((cmpW op x y h2).map W.bl) h2) q).imp fun v H1 ⟨w1, h1, env, x, r1, s1, qx, l1⟩ => ?_
  refine ⟨w1, h1, env, r1, s1, ?_⟩
  show Lands B w1 H1 (evE c ib env h1) _ _ _
  cases e : evE c ib env h1 with
  | stuck => rw [e] at l1; exact False.elim l1
  | exc k fs h2 => rw [e] at l1; exact l1
  | ok y h2 =>
    rw [e] at l1
    intro w2 H2 u k r2 qy
    obtain ⟨z, e1, l2⟩ := Lands.of_some l1
    obtain ⟨kb, e2, e3⟩ := map_some e1
    subst e3
    exact cmp_ok hK hu (noneOk_ev hn e) r2 (qx.mono k r1 x v) qy e2 (l2.ok k r2 rfl)
theorem e_cmp {op : Cop} {a b : Expr} {ia ib : E} (hK : B.K = X.K) (hu : X.A.units + 65 < cLine) (hn : noneOk op ib = true) (hm : behindInMarks (copOf op) b = false) (ha : PE X a (rE B c ia Wx)) (hb : PE X b (rE B c ib Wx)) :
    PE X (.Compare a [copOf op] [b] pos) (rE B c (.cmp op ia ib) Wx) := PE.imp (pe_cmpR sO_ok ha hb hm) fun σ H Q q => cmp_core hK hu hn q
/-- a reading as a test, from one as a value -/
theorem test_of {e : E} {σ : St} {H : Hp} {Q : Bool → Hp → Prop} (q : rT B c e Wx σ H Q) : rE B c e Wx σ H fun x H' => ∃ k, x = .bl k ∧ Q k H' := by
  refine (rE_one (f := fun env x h1 => asB x h1) q).imp fun v H1 ⟨w1, h1, env, x, r1, s1, qx, l1⟩ => ?_
  cases x with
  | bl b => exact ⟨b, qx, l1.ok (Kp.refl _ _) r1 rfl⟩
  | _ => exact l1.elim
theorem t_cmp {op : Cop} {a b : Expr} {ia ib : E} (hK : B.K = X.K) (hu : X.A.units + 65 < cLine) (hn : noneOk op ib = true) (hm : behindInMarks (copOf op) b = false) (ha : PE X a (rE B c ia Wx)) (hb : PE X b (rE B c ib Wx)) :
    PT X (.Compare a [copOf op] [b] pos) (rT B c (.cmp op ia ib) Wx) := PT.imp (pt_cmpR sO_ok ha hb hm) fun σ H Q q => cmp_core hK hu hn (test_of q)
/-- every other expression as a test -/
def plainT : Expr → Bool
  | .UnaryOp _ _ _ => false | .BoolOp _ _ _ => false | .IfExp _ _ _ _ => false | .Compare _ _ _ _ => false
  | _ => true
theorem t_val {e : Expr} {i : E} (hp : plainT e = true) (he : PE X e (rE B c i Wx)) : PT X e (rT B c i Wx) := by
  refine PT.imp (pt_val he fun whole => ?_) fun σ H Q q => (test_of q).imp fun x H1 ⟨k, e, q⟩ => ⟨k, e, q⟩
  cases e <;> first
    | rfl
    | cases hp
theorem e_chain {o1 o2 : Cop} {a b d : Expr} {ia ib id : E} (hK : B.K = X.K) (hu : X.A.units + 65 < cLine) (hn1 : noneOk o1 (.var 0) = true) (hn2 : noneOk o2 (.var 0) = true) (hm : lastMarks [copOf o1, copOf o2] [b, d] = false) (ha : PE X a (rE B c ia Wx)) (hb : PE X b (rE B c ib Wx)) (hd : PE X d (rE B c id Wx)) :
    PE X (.Compare a [copOf o1, copOf o2] [b, d] pos) (rE B c (.cmp2 o1 o2 ia ib id) Wx) := by
  have no : ∀ {o : Cop} {y : W}, noneOk o (.var 0) = true → (o = .isN ∨ o = .isnN → y = .non) := fun h0 z => by
    rcases z with rfl | rfl <;> cases h0
  refine PE.imp (pe_chain sO_ok sO_ok ha hb hd hm) fun σ H Q q => ?_
  refine (rE_one (f := fun env x h1 => (evE c ib env h1).bind fun y h2 => match cmpW o1 x y h2 with
    | some true => (evE c id env h2).bind fun z h3 => Out.of ((cmpW o2 y z h3).map W.bl) h3
    | some false => .ok (W.bl false) h2
    | none => .stuck) q).imp fun v H1 ⟨w1, h1, env, x, r1, s1, qx, l1⟩ => ?_
  refine ⟨w1, h1, env, r1, s1, (Lands.bind (R1 := RVr B) l1).imp fun u H2 ⟨w2, h2, y, k, r2, qy, l2⟩ => ?_⟩
  have qx2 := qx.mono k.le r1 x v
  cases e : cmpW o1 x y h2 with
  | none => rw [e] at l2; exact False.elim l2
  | some kb =>
    rw [e] at l2
    refine cmp_ok hK hu (no hn1) r2 qx2 qy e ⟨kb, rfl, ?_⟩
    cases kb with
    | false => exact l2.here r2 rfl
    | true =>
      refine ⟨w2, h2, env, r2, s1.mono k r1, (Lands.bind (R1 := RVr B) l2).imp fun t H3 ⟨w3, h3, z, k3, r3, qz, l3⟩ => ?_⟩
      obtain ⟨zz, e1, l4⟩ := Lands.of_some l3
      obtain ⟨kb, e2, e3⟩ := map_some e1
      subst e3
      exact cmp_ok hK hu (no hn2) r3 (qy.mono k3 r2 y u) qz e2 (l4.here r3 rfl)
theorem t_chain {o1 o2 : Cop} {a b d : Expr} {ia ib id : E} (hK : B.K = X.K) (hu : X.A.units + 65 < cLine) (hn1 : noneOk o1 (.var 0) = true) (hn2 : noneOk o2 (.var 0) = true) (hm : lastMarks [copOf o1, copOf o2] [b, d] = false) (ha : PE X a (rE B c ia Wx)) (hb : PE X b (rE B c ib Wx)) (hd : PE X d (rE B c id Wx)) :
    PT X (.Compare a [copOf o1, copOf o2] [b, d] pos) (rT B c (.cmp2 o1 o2 ia ib id) Wx) := by
  have no : ∀ {o : Cop} {y : W}, noneOk o (.var 0) = true → (o = .isN ∨ o = .isnN → y = .non) := fun h0 z => by
    rcases z with rfl | rfl <;> cases h0
  refine PT.imp (pt_chain sO_ok sO_ok ha hb hd hm) fun σ H Q q => ?_
  refine (rE_one (f := fun env x h1 => (evE c ib env h1).bind fun y h2 => match cmpW o1 x y h2 with
    | some true => (evE c id env h2).bind fun z h3 => Out.of ((cmpW o2 y z h3).map W.bl) h3
    | some false => .ok (W.bl false) h2
    | none => .stuck) (test_of q)).imp fun v H1 ⟨w1, h1, env, x, r1, s1, qx, l1⟩ => ?_
  refine ⟨w1, h1, env, r1, s1, (Lands.bind (R1 := RVr B) l1).imp fun u H2 ⟨w2, h2, y, k, r2, qy, l2⟩ => ?_⟩
  have qx2 := qx.mono k.le r1 x v
  cases e : cmpW o1 x y h2 with
  | none => rw [e] at l2; exact False.elim l2
  | some kb =>
    rw [e] at l2
    refine cmp_ok hK hu (no hn1) r2 qx2 qy e ⟨kb, rfl, ?_⟩
    cases kb with
    | false => exact l2.here r2 rfl
    | true =>
      refine ⟨w2, h2, env, r2, s1.mono k r1, (Lands.bind (R1 := RVr B) l2).imp fun t H3 ⟨w3, h3, z, k3, r3, qz, l3⟩ => ?_⟩
      obtain ⟨zz, e1, l4⟩ := Lands.of_some l3
      obtain ⟨kb, e2, e3⟩ := map_some e1
      subst e3
      exact cmp_ok hK hu (no hn2) r3 (qy.mono k3 r2 y u) qz e2 (l4.here r3 rfl)

/-! ### and, or, not, if -/
theorem and_core {ia ib : E} {σ : St} {H : Hp} {Q : VK} (q : rE B c (.and ia ib) Wx σ H Q) : rE B c ia Wx σ H fun x H1 => ∃ k, x = .bl k ∧ if k = true then rE B c ib Wx σ H1 Q else Q (.bl false) H1 := by
  refine (rE_one (f := fun env x h1 => match x with
    | .bl true => evE c ib env h1
    | .bl false => .ok (W.bl false) h1
    | _ => .stuck) q).imp fun v H1 ⟨w1, h1, env, x, r1, s1, qx, l1⟩ => ?_
  cases x with
  | bl b =>
    refine ⟨b, qx, ?_⟩
    cases b with
    | true => exact ⟨w1, h1, env, r1, s1, l1⟩
    | false => exact l1.here r1 rfl
  | _ => exact l1.elim
theorem or_core {ia ib : E} {σ : St} {H : Hp} {Q : VK} (q : rE B c (.or ia ib) Wx σ H Q) : rE B c ia Wx σ H fun x H1 => ∃ k, x = .bl k ∧ if k = true then Q (.bl true) H1 else rE B c ib Wx σ H1 Q := by
  refine (rE_one (f := fun env x h1 => match x with
    | .bl true => .ok (W.bl true) h1
    | .bl false => evE c ib env h1
    | _ => .stuck) q).imp fun v H1 ⟨w1, h1, env, x, r1, s1, qx, l1⟩ => ?_
  cases x with
  | bl b =>
    refine ⟨b, qx, ?_⟩
    cases b with
    | false => exact ⟨w1, h1, env, r1, s1, l1⟩
    | true => exact l1.here r1 rfl
  | _ => exact l1.elim
/-- a test in two parts -/
theorem rT_two {ia : E} {f g : Env → Hw → Out W} {σ : St} {H : Hp} {Q : Bool → Hp → Prop} (q : rG B (fun env h => ((evE c ia env h).bind fun x h1 => match x with
    | .bl true => f env h1
    | .bl false => g env h1
    | _ => .stuck).bind asB) REq Wx σ H Q) : rT B c ia Wx σ H fun k H1 => if k = true then rG B (fun env h => (f env h).bind asB) REq Wx σ H1 Q else rG B (fun env h => (g env h).bind asB) REq Wx σ H1 Q := by
  obtain ⟨w, h, env, r, s, l⟩ := q
  refine ⟨w, h, env, r, s, ?_⟩
  have l : Lands B w H (((evE c ia env h).bind fun x h1 => match x with
    | .bl true => f env h1
    | .bl false => g env h1
    | _ => .stuck).bind asB) REq Q _ := l
  show Lands B w H ((evE c ia env h).bind asB) _ _ _
  cases e : evE c ia env h with
  | stuck => rw [e] at l; exact False.elim l
  | exc k fs h2 => rw [e] at l; exact l
  | ok x h1 =>
    rw [e] at l
    cases x with
    | bl b =>
      intro w1 H1 k k1 r1 eq
      have eq : b = k := eq
      subst eq
      cases b with
      | true => exact ⟨w1, h1, env, r1, s.mono k1 r, Lands.from l k1⟩
      | false => exact ⟨w1, h1, env, r1, s.mono k1 r, Lands.from l k1⟩
    | _ => exact l.elim
theorem and_coreT {ia ib : E} {σ : St} {H : Hp} {Q : Bool → Hp → Prop} (q : rT B c (.and ia ib) Wx σ H Q) : rT B c ia Wx σ H fun k H1 => if k = true then rT B c ib Wx σ H1 Q else Q false H1 := by
  refine (rT_two (f := fun env h => evE c ib env h) (g := fun env h => .ok (W.bl false) h) q).imp fun k H1 z => ?_
  cases k with
  | true => exact z
  | false =>
    obtain ⟨w, h, env, r, s, l⟩ := z
    exact l.ok (Kp.refl _ _) r rfl
theorem or_coreT {ia ib : E} {σ : St} {H : Hp} {Q : Bool → Hp → Prop} (q : rT B c (.or ia ib) Wx σ H Q) : rT B c ia Wx σ H fun k H1 => if k = true then Q true H1 else rT B c ib Wx σ H1 Q := by
  refine (rT_two (f := fun env h => .ok (W.bl true) h) (g := fun env h => evE c ib env h) q).imp fun k H1 z => ?_
  cases k with
  | false => exact z
  | true =>
    obtain ⟨w, h, env, r, s, l⟩ := z
    exact l.ok (Kp.refl _ _) r rfl
def andL : List E → E
  | [] => .cst (.bl true)
  | [a] => a
  | a :: r => .and a (andL r)
def orL : List E → E
  | [] => .cst (.bl false)
  | [a] => a
  | a :: r => .or a (orL r)
/-- what is known of an expression and its term -/
structure Both (X : Cx) (B : Bx) (c : Cs) (Wx : WX) (e : Expr) (i : E) : Prop where
  pe : PE X e (rE B c i Wx)
  pt : PT X e (rT B c i Wx)
theorem both_and : ∀ (es : List Expr) (is : List E), Paired (Both X B c Wx) es is → es ≠ [] → PE X (.BoolOp .And es pos) (rE B c (andL is) Wx) ∧ PW X (.BoolOp .And es pos) (rT B c (andL is) Wx)
  | [], _, _, h => absurd rfl h
  | [e], _, .cons p .nil, _ => ⟨pe_one p.pe, pw_and1 p.pt⟩
  | e :: e2 :: r, _, .cons p (.cons p2 q), _ => by
    obtain ⟨h1, h2⟩ := both_and (e2 :: r) _ (.cons p2 q) (by simp)
    exact ⟨PE.imp (pe_and p.pe h1) fun σ H Q q => and_core q, ⟨fun wh pins s σ H Q I q => (pw_and p.pt h2).run wh pins s σ H Q I (and_coreT q)⟩⟩
theorem both_or : ∀ (es : List Expr) (is : List E), Paired (Both X B c Wx) es is → es ≠ [] → PE X (.BoolOp .Or es pos) (rE B c (orL is) Wx) ∧ PW X (.BoolOp .Or es pos) (rT B c (orL is) Wx)
  | [], _, _, h => absurd rfl h
  | [e], _, .cons p .nil, _ => ⟨pe_one p.pe, pw_or1 p.pt⟩
  | e :: e2 :: r, _, .cons p (.cons p2 q), _ => by
    obtain ⟨h1, h2⟩ := both_or (e2 :: r) _ (.cons p2 q) (by simp)
    exact ⟨PE.imp (pe_or p.pe h1) fun σ H Q q => or_core q, ⟨fun wh pins s σ H Q I q => (pw_or p.pt h2).run wh pins s σ H Q I (or_coreT q)⟩⟩
theorem b_not {a : Expr} {i : E} (p : Both X B c Wx a i) : Both X B c Wx (.UnaryOp .Not a pos) (.not i) := by
  refine ⟨PE.imp (pe_not p.pe) fun σ H Q q => ?_, PT.imp (pt_not p.pt) fun σ H Q q => ?_⟩
  · refine (rE_one (f := fun env x h1 => match x with
      | .bl b => .ok (W.bl (!b)) h1
      | _ => .stuck) q).imp fun v H1 ⟨w1, h1, env, x, r1, s1, qx, l1⟩ => ?_
    cases x with
    | bl b => exact ⟨b, qx, l1.here r1 rfl⟩
    | _ => exact l1.elim
  · refine (rT_two (Q := Q) (ia := i) (f := fun env h => .ok (W.bl false) h) (g := fun env h => .ok (W.bl true) h) ?_).imp fun k H1 z => ?_
    · obtain ⟨w, h, env, r, s, l⟩ := q
      refine ⟨w, h, env, r, s, ?_⟩
      have l : Lands B w H (((evE c i env h).bind fun x h1 => match x with
        | .bl b => .ok (.bl (!b)) h1
        | _ => .stuck).bind asB) REq Q _ := l
      show Lands B w H (((evE c i env h).bind fun x h1 => match x with
        | .bl true => .ok (W.bl false) h1
        | .bl false => .ok (W.bl true) h1
        | _ => .stuck).bind asB) _ _ _
      cases e : evE c i env h with
      | stuck => rw [e] at l; exact False.elim l
      | exc k fs h2 => rw [e] at l; exact l
      | ok x h1 =>
        rw [e] at l
        cases x with
        | bl b => cases b <;> exact l
        | _ => exact l.elim
    · cases k with
      | true =>
        obtain ⟨w, h, env, r, s, l⟩ := z
        exact l.ok (Kp.refl _ _) r rfl
      | false =>
        obtain ⟨w, h, env, r, s, l⟩ := z
        exact l.ok (Kp.refl _ _) r rfl
theorem e_ite {t a b : Expr} {it ia ib : E} (ht : PT X t (rT B c it Wx)) (ha : PE X a (rE B c ia Wx)) (hb : PE X b (rE B c ib Wx)) : PE X (.IfExp t a b pos) (rE B c (.ite it ia ib) Wx) := by
  refine PE.imp (pe_ifExp ht ha hb) fun σ H Q ⟨w, h, env, r, s, l⟩ => ?_
  have l := Lands.asB (f := fun h1 => evE c ia env h1) (g := fun h1 => evE c ib env h1) (o := evE c it env h) l
  refine ⟨w, h, env, r, s, (Lands.bind (R1 := REq) l).imp fun k H1 ⟨w1, h1, x, k1, r1, e, l1⟩ => ?_⟩
  have e : x = k := e
  subst e
  cases x with
  | true => exact ⟨w1, h1, env, r1, s.mono k1 r, l1⟩
  | false => exact ⟨w1, h1, env, r1, s.mono k1 r, l1⟩
/-- .. or .., by the truth of a list -/
theorem e_orV {a b : Expr} {ia ib : E} (hK : B.K = X.K) (ha : PE X a (rE B c ia Wx)) (hb : PE X b (rE B c ib Wx)) : PE X (.BoolOp .Or [a, b] pos) (rE B c (.orV ia ib) Wx) := by
  refine PE.imp (pe_orT ha (pe_one hb)) fun σ H Q q => ?_
  refine (rE_one (f := fun env x h1 => match getL h1 x with
    | some [] => evE c ib env h1
    | some (_ :: _) => .ok x h1
    | none => .stuck) q).imp fun v H1 ⟨w1, h1, env, x, r1, s1, qx, l1⟩ => ?_
  cases e : getL h1 x with
  | none => rw [e] at l1; exact False.elim l1
  | some xs =>
    rw [e] at l1
    obtain ⟨p, vs, rfl, hp, qv⟩ := getL_ok r1 qx e
    rw [hK] at hp
    cases xs with
    | nil =>
      cases (show vs = [] from qv)
      exact ⟨false, .inl ⟨[], hp, rfl⟩, ⟨w1, h1, env, r1, s1, l1⟩⟩
    | cons y ys =>
      obtain ⟨z, zs, e2, _⟩ := qv
      subst e2
      refine ⟨true, .inl ⟨_, hp, rfl⟩, ?_⟩
      exact l1.here r1 qx
/-- a[i] -/
theorem e_idx {a b : Expr} {ia ib : E} (hK : B.K = X.K) (hs : PlainIx b) (ha : PE X a (rE B c ia Wx)) (hb : PE X b (rE B c ib Wx)) : PE X (.Subscript a b pos) (rE B c (.idx ia ib) Wx) := by
  refine PE.imp (pe_ix sI_ok ha hb hs) fun σ H Q q => ?_
  refine (rE_two (f := fun x y h2 => Out.of (idxW x y h2) h2) q).imp fun v H1 q1 => q1.imp fun u H2 ⟨w2, h2, env, x, y, r2, s2, qx, qy, l2⟩ => ?_
  obtain ⟨z, e, l3⟩ := Lands.of_some l2
  unfold idxW at e
  split at e
  · rename_i xs ex
    split at e
    · split at e
      · rename_i j hj
        obtain ⟨p, vs, rfl, hp, qv⟩ := getS_ok r2 qx ex
        obtain ⟨t, e1, qt⟩ := atI_ok qv e
        cases qy
        rw [hK] at hp
        rcases hp with hp | hp
        · exact IxR.s ix_list ⟨p, vs, _, t, rfl, rfl, hp, e1, l3.here r2 qt⟩
        · exact IxR.s ix_tup ⟨p, vs, _, t, rfl, rfl, hp, e1, l3.here r2 qt⟩
      · cases e
    · cases e
  · cases e
end
end G
end
section
set_option Elab.async false
set_option linter.all false
set_option maxRecDepth 100000
/-! G7: what is built in -/
namespace G
open PySem L2
section
variable {X : Cx} {B : Bx} {c : Cs} {Wx : WX} {pos : Pos} {H : Hp} {w : Wd} {h : Hw}
/-- the built-in's name and value -/
def pval : P → Option (Str × Value)
  | .len => some ("len", .builtin "len")
  | .abs => some ("abs", .builtin "abs")
  | .int => some ("int", .type "int")
  | .tuple => some ("tuple", .type "tuple")
  | .list _ => some ("list", .type "list")
  | .all => some ("all", .builtin "all")
  | .any => some ("any", .builtin "any")
  | _ => none
theorem bls_ok : ∀ {xs : List W} {vs : List V} {bs : List Bool}, RVs B H w xs vs → bls xs = some bs → vs = bs.map V.bl
  | [], vs, bs, q, e => by cases e; exact q
  | x :: xs, vs, bs, ⟨v, t, e1, q1, q2⟩, e => by
    cases x with
    | bl b =>
      obtain ⟨bs', e2, e3⟩ := map_some (show (bls xs).map (b :: ·) = some bs from e)
      subst e3
      rw [e1, bls_ok q2 e2, show v = V.bl b from q1]
      rfl
    | _ => cases e
theorem RVs.one {x : W} {vs : List V} (q : RVs B H w [x] vs) : ∃ v, vs = [v] ∧ RV B H w x v := by
  obtain ⟨v, t, e, q1, q2⟩ := q
  cases (show t = [] from q2)
  exact ⟨v, e, q1⟩
theorem RVs.two {x y : W} {vs : List V} (q : RVs B H w [x, y] vs) : ∃ v u, vs = [v, u] ∧ RV B H w x v ∧ RV B H w y u := by
  obtain ⟨v, t, e, q1, q2⟩ := q
  obtain ⟨u, rfl, q3⟩ := q2.one
  exact ⟨v, u, e, q1, q3⟩
theorem len_ok {ws : List W} {vs : List V} {Q : VK} {Xk : XK} (hK : B.K = X.K) (l : Lands B w H (pLen ws h) (RVr B) Q Xk) (r : RH B H w h) (q : RVs B H w ws vs) : sC X (.builtin "len") vs H Q := by
  unfold pLen at l
  split at l
  · split at l
    · rename_i c
      obtain ⟨v, rfl, q1⟩ := q.one
      cases q1
      exact CallR.s call_len ⟨_, _, rfl, ⟨sz_of c, rfl⟩, l.here r rfl⟩
    · exact False.elim l
  · obtain ⟨v, rfl, q1⟩ := q.one
    split at l
    · rename_i xs ex
      obtain ⟨a, us, rfl, hs, q2⟩ := getS_ok r q1 ex
      rw [hK] at hs
      refine CallR.s call_len ⟨_, us.length, rfl, ?_, ?_⟩
      · rcases hs with hs | hs
        · exact .inl ⟨us, hs, rfl⟩
        · exact .inr ⟨us, hs, rfl⟩
      · rw [← q2.length]
        exact l.here r rfl
    · exact False.elim l
  · exact False.elim l
theorem abs_ok {ws : List W} {vs : List V} {Q : VK} {Xk : XK} (l : Lands B w H (pAbs ws h) (RVr B) Q Xk) (r : RH B H w h) (q : RVs B H w ws vs) : sC X (.builtin "abs") vs H Q := by
  unfold pAbs at l
  split at l
  · obtain ⟨v, rfl, q1⟩ := q.one
    cases q1
    exact CallR.s call_abs ⟨_, rfl, l.here r rfl⟩
  · exact False.elim l
theorem int_ok {ws : List W} {vs : List V} {Q : VK} {Xk : XK} (l : Lands B w H (pInt ws h) (RVr B) Q Xk) (r : RH B H w h) (q : RVs B H w ws vs) : sC X (.type "int") vs H Q := by
  unfold pInt at l
  split at l
  · obtain ⟨v, rfl, q1⟩ := q.one
    cases q1
    exact CallR.s call_int1 (.inl ⟨_, rfl, l.here r rfl⟩)
  · obtain ⟨v, rfl, q1⟩ := q.one
    cases q1
    exact CallR.s call_int1 (.inr ⟨_, rfl, l.here r rfl⟩)
  · exact False.elim l
theorem tuple_ok {ws : List W} {vs : List V} {Q : VK} {Xk : XK} (hK : B.K = X.K) (l : Lands B w H (pTuple ws h) (RVr B) Q Xk) (r : RH B H w h) (q : RVs B H w ws vs) : sC X (.type "tuple") vs H Q := by
  unfold pTuple at l
  split at l
  · rename_i a
    obtain ⟨v, rfl, q1⟩ := q.one
    split at l
    · rename_i xs ex
      by_cases ht : ∃ ys, a = W.tup ys
      · obtain ⟨ys, rfl⟩ := ht
        cases ex
        obtain ⟨p, us, rfl, hp, q2⟩ := id q1
        unfold mkT at l
        split at l
        · exact CallR.s call_tuple_of ⟨p, us, rfl, .inr ⟨hK ▸ hp.sq, l.here r q1⟩⟩
        · exact False.elim l
      · have ex' : getL h a = some xs := by
          cases a with
          | tup ys => exact absurd ⟨ys, rfl⟩ ht
          | _ => exact ex
        obtain ⟨p, us, rfl, hp, q2⟩ := getL_ok r q1 ex'
        obtain ⟨_, qn⟩ := mkT_ok l r q2
        exact CallR.s call_tuple_of ⟨p, us, rfl, .inl ⟨hK ▸ hp, qn⟩⟩
    · exact False.elim l
  · exact False.elim l
theorem list_ok {m : Bool} {ws : List W} {vs : List V} {Q : VK} {Xk : XK} (hK : B.K = X.K) (l : Lands B w H (pList m ws h) (RVr B) Q Xk) (r : RH B H w h) (q : RVs B H w ws vs) : sC X (.type "list") vs H Q := by
  unfold pList at l
  split at l
  · obtain ⟨v, rfl, q1⟩ := q.one
    split at l
    · rename_i xs ex
      obtain ⟨p, us, rfl, hp, q2⟩ := getS_ok r q1 ex
      obtain ⟨_, qn⟩ := mkL_ok l r q2
      exact CallR.s call_list_of ⟨p, us, rfl, hK ▸ hp, qn⟩
    · exact False.elim l
  · exact False.elim l
theorem all_ok {ws : List W} {vs : List V} {Q : VK} {Xk : XK} (hK : B.K = X.K) (hc : X.calm = true) (l : Lands B w H (pAll ws h) (RVr B) Q Xk) (r : RH B H w h) (q : RVs B H w ws vs) : sC X (.builtin "all") vs H Q := by
  unfold pAll at l
  split at l
  · obtain ⟨v, rfl, q1⟩ := q.one
    split at l
    · rename_i xs ex
      split at l
      · rename_i bs eb
        obtain ⟨p, us, rfl, hp, q2⟩ := getL_ok r q1 ex
        have e3 := bls_ok q2 eb
        subst e3
        exact CallR.s (cr_all hc) ⟨p, bs, rfl, hK ▸ hp, l.here r rfl⟩
      · exact False.elim l
    · exact False.elim l
  · exact False.elim l
theorem any_ok {ws : List W} {vs : List V} {Q : VK} {Xk : XK} (hK : B.K = X.K) (hc : X.calm = true) (l : Lands B w H (pAny ws h) (RVr B) Q Xk) (r : RH B H w h) (q : RVs B H w ws vs) : sC X (.builtin "any") vs H Q := by
  unfold pAny at l
  split at l
  · obtain ⟨v, rfl, q1⟩ := q.one
    split at l
    · rename_i xs ex
      split at l
      · rename_i bs eb
        obtain ⟨p, us, rfl, hp, q2⟩ := getL_ok r q1 ex
        have e3 := bls_ok q2 eb
        subst e3
        exact CallR.s (cr_any hc) ⟨p, bs, rfl, hK ▸ hp, l.here r rfl⟩
      · exact False.elim l
    · exact False.elim l
  · exact False.elim l
theorem prim_ok {p : P} {n : Str} {f : Value} {ws : List W} {vs : List V} {Q : VK} {Xk : XK} (hK : B.K = X.K) (hc : X.calm = true) (hp : pval p = some (n, f)) (l : Lands B w H (primW p ws h) (RVr B) Q Xk) (r : RH B H w h) (q : RVs B H w ws vs) : sC X f vs H Q := by
  cases p with
  | len => cases hp; exact len_ok hK l r q
  | abs => cases hp; exact abs_ok l r q
  | int => cases hp; exact int_ok l r q
  | tuple => cases hp; exact tuple_ok hK l r q
  | list m => cases hp; exact list_ok hK l r q
  | all => cases hp; exact all_ok hK hc l r q
  | any => cases hp; exact any_ok hK hc l r q
  | _ => cases hp
/-- f(e, ..) of a built-in -/
theorem e_prim {p : P} {n : Str} {f : Value} {e : Expr} {es : List Expr} {as : List E} {ps : Pos} (hK : B.K = X.K) (hc : X.calm = true) (hp : pval p = some (n, f)) (hg : Gl X n) (hm : X.mg n = none) (hs : noStar (e :: es) = true) (ha : PA X (e :: es) (rL B c as Wx)) :
    PE X (.Call (.Name n ps) (e :: es) [] pos) (rE B c (.prim p as) Wx) := by
  have go : ∀ {σ : St} {H : Hp} {Q : VK}, rE B c (.prim p as) Wx σ H Q → tCB (sC X f) (rL B c as Wx) σ H Q := fun q =>
    (rL_one (f := primW p) q).imp fun vs H1 ⟨w1, h1, env, xs, r1, s1, qx, l1⟩ => prim_ok hK hc hp l1 r1 qx
  have h' : (!star e && noStar es) = true := hs
  obtain ⟨h1, h2⟩ := (Bool.and_eq_true _ _).mp h'
  have hst : star e = false := by simpa using h1
  cases p with
  | len => cases hp; exact PE.imp (pe_callB sC_ok hg hm PySem.boot_len ha (by decide +kernel) (by decide +kernel) (star_ok hst) (plain_ok h2)) fun σ H Q q => go q
  | abs => cases hp; exact PE.imp (pe_callB sC_ok hg hm PyProof.Rows.boot_abs ha (by decide +kernel) (by decide +kernel) (star_ok hst) (plain_ok h2)) fun σ H Q q => go q
  | int => cases hp; exact PE.imp (pe_callTy sC_ok hg hm PyProof.Rows.boot_int ha (by decide +kernel) (by decide +kernel) (star_ok hst) (plain_ok h2)) fun σ H Q q => go q
  | tuple => cases hp; exact PE.imp (pe_callTy sC_ok hg hm PyProof.Rows.boot_tuple ha (by decide +kernel) (by decide +kernel) (star_ok hst) (plain_ok h2)) fun σ H Q q => go q
  | list m => cases hp; exact PE.imp (pe_callTy sC_ok hg hm PyProof.Rows.boot_list ha (by decide +kernel) (by decide +kernel) (star_ok hst) (plain_ok h2)) fun σ H Q q => go q
  | all => cases hp; exact PE.imp (pe_callB sC_ok hg hm (by decide +kernel) ha (by decide +kernel) (by decide +kernel) (star_ok hst) (plain_ok h2)) fun σ H Q q => go q
  | any => cases hp; exact PE.imp (pe_callB sC_ok hg hm (by decide +kernel) ha (by decide +kernel) (by decide +kernel) (star_ok hst) (plain_ok h2)) fun σ H Q q => go q
  | _ => cases hp

/-! ### methods of built-in kinds -/
def bareCall : Expr → Bool
  | .Call (.Name _ _) [] [] _ => true
  | _ => false
theorem base_ok {o : Expr} {m : Str} {env : PySem.Env} {t : Sem Value} (hb : bareCall o = false) : attributeBase o m env t = t := by
  unfold attributeBase
  split
  · cases hb
  · rfl
theorem few_ok {pos : Pos} {env : PySem.Env} {es : List Expr} (hs : noStar es = true) (hl : es.length < 29) :
    ((backTo pos (starEach es env)).all (fun x => !x.1) && (backToKw pos (keywordEach [] env)).all (fun x => x.1.isSome) && decide (es.length + ([] : List Keyword).length + (if ([] : List Keyword).isEmpty then 0 else 1) < 30)) = true := by
  have h1 : (backTo pos (starEach es env)).all (fun x => !x.1) = true := by
    have := plain_ok (pos := pos) (env := env) hs
    rw [Bool.eq_iff_iff]
    simp only [List.any_eq_false, List.all_eq_true] at this ⊢
    simpa using this
  rw [h1]
  show (true && true && decide (es.length + 0 + 0 < 30)) = true
  simpa using (by omega : es.length < 30)
theorem tyV_list {x : W} {v : V} (hK : B.K = X.K) (r : RH B H w h) (q : RV B H w x v) (e : (getX h x).isSome = true) : tyV X.K "list" v H := by
  obtain ⟨xs, e⟩ := Option.isSome_iff_exists.mp e
  obtain ⟨a, vs, rfl, hs, _⟩ := getX_ok r q e
  exact .inl ⟨rfl, vs, SqL.of hs⟩
theorem reff {n : Nat} {v : V} (q : RV B H w (.ref n) v) : ∃ a, v = .ref a ∧ w.φ[n]? = some a := q
/-- the behind of a change of a list -/
theorem Lands.setL {n : Nat} {a : Addr} {xs : List W} {vs : List V} {x : W} {v : V} {Q : VK} {Xk : XK} (l : Lands B w H (.ok x (setL n xs h)) (RVr B) Q Xk) (r : RH B H w h) (ha : w.φ[n]? = some a) (q : RVs B H w xs vs) (qx : RV B H w x v) : Q v (upd H a (.lst vs)) := by
  have k : Kp w H w (upd H a (.lst vs)) := Kp.wr ha
  exact l.ok k (r.wr ha ⟨vs, upd_same, q.mono k r xs vs⟩) (qx.mono k r x v)
theorem mth_append {x : W} {xs : List W} {v : V} {vs : List V} {Q : VK} {Xk : XK} (l : Lands B w H (mAppend x xs h) (RVr B) Q Xk) (r : RH B H w h) (qx : RV B H w x v) (q : RVs B H w xs vs) : sM X "list.append" v vs H Q := by
  unfold mAppend at l
  split at l
  · rename_i n y
    obtain ⟨u, rfl, q1⟩ := q.one
    obtain ⟨a, rfl, ha⟩ := qx
    split at l
    · rename_i ys ey
      split at l
      · rename_i c
        obtain ⟨us, hs, q2⟩ := r.ro n _ a ey ha
        have hz : us.length < sizeLine := by
          rw [sizeLine_eq, ← q2.length]
          exact of_decide_eq_true c
        refine MtR.s (show MtR X "list.append" rAppend from mt_append) ⟨a, us, u, rfl, rfl, hs, hz, ?_⟩
        exact l.setL r ha (q2.append ⟨u, [], rfl, q1, rfl⟩) (show RV B H w .non .non from rfl)
      · exact False.elim l
    · exact False.elim l
  · exact False.elim l
theorem mth_popAt {x : W} {xs : List W} {v : V} {vs : List V} {Q : VK} {Xk : XK} (l : Lands B w H (mPopAt x xs h) (RVr B) Q Xk) (r : RH B H w h) (qx : RV B H w x v) (q : RVs B H w xs vs) : sM X "list.pop" v vs H Q := by
  unfold mPopAt at l
  split at l
  · rename_i n i
    obtain ⟨u, rfl, q1⟩ := q.one
    cases q1
    obtain ⟨a, rfl, ha⟩ := qx
    split at l
    · rename_i ys ey
      split at l
      · rename_i c
        have c := of_decide_eq_true c
        split at l
        · rename_i z ez
          obtain ⟨us, hs, q2⟩ := r.ro n _ a ey ha
          obtain ⟨t, et, qt⟩ := q2.get ez
          have hlt := (List.getElem?_eq_some_iff.mp et).1
          refine MtR.s (show MtR X "list.pop" rPopAt from mt_popAt) ⟨a, us, i, i.toNat, t, rfl, rfl, hs, by omega, by omega, ?_, et, ?_⟩
          · exact (ixN_seq (n := us.length) (i := i) (j := i.toNat) (by unfold ixN; rw [if_pos c.1, if_pos (by omega)])).1
          · exact l.setL r ha (q2.eraseIdx i.toNat) qt
        · exact False.elim l
      · exact False.elim l
    · exact False.elim l
  · exact False.elim l
/-- the method's kind, name and id -/
def bmval : P → Option (String × Str × String)
  | .append => some ("list", "append", "list.append")
  | .popAt => some ("list", "pop", "list.pop")
  | _ => none
theorem e_bm {p : P} {T id : String} {m : Str} {o e : Expr} {es : List Expr} {io : E} {as : List E} {apos : Pos} (hK : B.K = X.K) (hp : bmval p = some (T, m, id)) (hb : bareCall o = false) (hs : noStar (e :: es) = true) (hl : (e :: es).length < 29) (hline : (apos.endLine == pos.line) = true)
    (ho : PE X o (rE B c io Wx)) (ha : PA X (e :: es) (rL B c as Wx)) : PE X (.Call (.Attribute o m apos) (e :: es) [] pos) (rE B c (.bm p io as) Wx) := by
  have h' : (!star e && noStar es) = true := hs
  obtain ⟨h1, h2⟩ := (Bool.and_eq_true _ _).mp h'
  have hst : star e = false := by simpa using h1
  have go : ∀ {σ : St} {H : Hp} {Q : VK}, (∀ {w : Wd} {h : Hw} {H : Hp} {x : W} {v : V}, RH B H w h → RV B H w x v → tyOk p x h = true → tyV X.K T v H) →
      (∀ {w : Wd} {h : Hw} {H : Hp} {x : W} {xs : List W} {v : V} {vs : List V} {Q : VK} {Xk : XK}, Lands B w H (mthW p x xs h) (RVr B) Q Xk → RH B H w h → RV B H w x v → RVs B H w xs vs → sM X id v vs H Q) →
      rE B c (.bm p io as) Wx σ H Q → tBM X.K T (sM X id) (rE B c io Wx) (rL B c as Wx) σ H Q := fun {σ H Q} ty mo q => by
    refine (rE_one (f := fun env x h1 => if tyOk p x h1 then (evL c as env h1).bind fun ws h2 => mthW p x ws h2 else .stuck) q).imp fun v H1 ⟨w1, h1, env, x, r1, s1, qx, l1⟩ => ?_
    split at l1
    · rename_i ct
      refine ⟨ty r1 qx ct, ⟨w1, h1, env, r1, s1, (Lands.bind (R1 := RVsr B) l1).imp fun vs H2 ⟨w2, h2, xs, k, r2, qs, l2⟩ => ?_⟩⟩
      exact mo l2 r2 (qx.mono k r1 x v) qs
    · exact False.elim l1
  cases p with
  | append =>
    cases hp
    exact PE.imp (pe_bm PySem.F.plainAttrs_list PySem.F.slot_list_append PySem.F.type_list_append sM_ok ho ha (base_ok hb) (few_ok hs hl) hline (star_ok hst) (plain_ok h2)) fun σ H Q q => go (fun r q e => tyV_list hK r q e) mth_append q
  | popAt =>
    cases hp
    exact PE.imp (pe_bm PySem.F.plainAttrs_list PySem.F.slot_list_pop PySem.F.type_list_pop sM_ok ho ha (base_ok hb) (few_ok hs hl) hline (star_ok hst) (plain_ok h2)) fun σ H Q q => go (fun r q e => tyV_list hK r q e) mth_popAt q
  | _ => cases hp
end
end G
end
section
set_option Elab.async false
set_option linter.all false
set_option maxRecDepth 100000
/-! G8: targets, what is walked, list comprehensions -/
namespace G
open PySem L2
section
variable {X : Cx} {B : Bx} {c : Cs} {Wx : WX} {pos : Pos} {H : Hp} {w : Wd} {h : Hw}

/-! ### targets -/
mutual
def gT (K : PySem.W.Frag) : T → TG
  | .nm i => gName i
  | .tp ts => gTup K ts.length (gTs K ts)
def gTs (K : PySem.W.Frag) : List T → TGs
  | [] => gNil
  | t :: ts => gCons (gT K t) (gTs K ts)
end
mutual
def slots : T → List Nat
  | .nm i => [i]
  | .tp ts => slotss ts
def slotss : List T → List Nat
  | [] => []
  | t :: ts => slots t ++ slotss ts
end
theorem wipe_set {σ : St} {i : Nat} {v : Option V} : ∀ {vs : List Nat}, i ∈ vs → wipe (σ.set i v) vs = wipe σ vs
  | [], h => by simp at h
  | u :: us, h => by
    unfold wipe
    by_cases e : i ∈ us
    · rw [wipe_set e]
    · have eu : i = u := by
        rcases List.mem_cons.mp h with z | z
        · exact z
        · exact absurd z e
      subst eu
      have : ∀ (vs : List Nat), i ∉ vs → wipe (σ.set i v) vs = (wipe σ vs).set i v := by
        intro vs
        induction vs with
        | nil => intro _; rfl
        | cons a r ih =>
          intro hn
          have h1 : i ≠ a := fun z => hn (by rw [z]; exact List.mem_cons_self)
          have h2 : i ∉ r := fun z => hn (List.mem_cons_of_mem _ z)
          unfold wipe
          rw [ih h2, List.set_comm _ _ h1]
      rw [this us e]
      simp
theorem wipe_wipe {σ : St} : ∀ {vs us : List Nat}, (∀ i ∈ vs, i ∈ us) → wipe (wipe σ vs) us = wipe σ us
  | [], us, _ => rfl
  | v :: vs, us, h => by
    show wipe ((wipe σ vs).set v none) us = _
    rw [wipe_set (h v List.mem_cons_self), wipe_wipe fun i hi => h i (List.mem_cons_of_mem _ hi)]
mutual
theorem asg_ok (hK : B.K = X.K) : ∀ (t : T) {x : W} {v : V} {env env1 : Env} {σ : St}, asg h t x env = some env1 → RV B H w x v → RS B H w env σ → ∀ {Q : St → Hp → Prop}, (∀ σ2, RS B H w env1 σ2 → (∀ vs, (∀ i ∈ slots t, i ∈ vs) → wipe σ2 vs = wipe σ vs) → Q σ2 H) → gT X.K t v σ H Q
  | .nm i, x, v, env, env1, σ, e, q, s, Q, k => by
    have e : (if i < env.length then some (env.set i (some x)) else none) = some env1 := by
      unfold asg at e
      exact e
    split at e
    · cases e
      exact k _ (s.set i q) fun vs hv => wipe_set (hv i (by simp [slots]))
    · cases e
  | .tp ts, x, v, env, env1, σ, e, q, s, Q, k => by
    cases x with
    | tup xs =>
      have e : asgs h ts xs env = some env1 := by
        unfold asg at e
        exact e
      obtain ⟨a, vs, rfl, ha, q⟩ := q
      have hl : ts.length = xs.length := asgs_len ts e
      exact ⟨a, vs, rfl, hK ▸ ha.sq, by rw [← q.length, hl], asgs_ok hK ts e q s fun σ2 s2 hw => k σ2 s2 fun us hu => hw us (by simpa [slots] using hu)⟩
    | _ => unfold asg at e; cases e
theorem asgs_ok (hK : B.K = X.K) : ∀ (ts : List T) {xs : List W} {vs : List V} {env env1 : Env} {σ : St}, asgs h ts xs env = some env1 → RVs B H w xs vs → RS B H w env σ → ∀ {Q : St → Hp → Prop}, (∀ σ2, RS B H w env1 σ2 → (∀ vs, (∀ i ∈ slotss ts, i ∈ vs) → wipe σ2 vs = wipe σ vs) → Q σ2 H) → gTs X.K ts vs σ H Q
  | [], xs, vs, env, env1, σ, e, q, s, Q, k => by
    cases xs with
    | nil =>
      unfold asgs at e
      cases e
      cases (show vs = [] from q)
      exact ⟨rfl, k σ s fun _ _ => rfl⟩
    | cons _ _ => unfold asgs at e; cases e
  | t :: ts, xs, vs, env, env1, σ, e, q, s, Q, k => by
    cases xs with
    | nil => unfold asgs at e; cases e
    | cons x xs =>
      unfold asgs at e
      obtain ⟨v, r, rfl, q1, q2⟩ := q
      cases e1 : asg h t x env with
      | none => rw [e1] at e; cases e
      | some env2 =>
        rw [e1] at e
        refine ⟨v, r, rfl, asg_ok hK t e1 q1 s fun σ2 s2 hw2 => asgs_ok hK ts e q2 s2 fun σ3 s3 hw3 => k σ3 s3 fun us hu => ?_⟩
        rw [hw3 us fun i hi => hu i (by simp [slotss, hi]), hw2 us fun i hi => hu i (by simp [slotss, hi])]
theorem asgs_len : ∀ (ts : List T) {xs : List W} {env env1 : Env}, asgs h ts xs env = some env1 → ts.length = xs.length
  | [], [], _, _, _ => rfl
  | [], _ :: _, _, _, e => by unfold asgs at e; cases e
  | _ :: _, [], _, _, e => by unfold asgs at e; cases e
  | t :: ts, x :: xs, env, env1, e => by
    unfold asgs at e
    cases e1 : asg h t x env with
    | none => rw [e1] at e; cases e
    | some env2 => rw [e1] at e; exact congrArg Nat.succ (asgs_len ts e)
end

/-! ### what is walked -/
def sPI (X : Cx) (tg iter : Expr) : TI := fun σ H R => ∀ (pins : List (Addr × Obj)) (s : Shared), Inv X pins σ H s → wpAny (model X.prog X.w) X.A (eval iter X.env) (fun v s1 => wpAny (model X.prog X.w) X.A (pyIter v) (PIE X pins σ tg R) X.xe s1) X.xe s
theorem PI.imp {tg iter : Expr} {t t' : TI} (p : PI X tg iter t) (f : ∀ σ H R, t' σ H R → t σ H R) : PI X tg iter t' := ⟨fun pins s σ H R I q => p.run pins s σ H R I (f σ H R q)⟩
/-- the iterator gives what the evaluator's words say -/
def ItOk (B : Bx) (J : It) (k : SK) (ws : List W) (vs : List V) : Prop := ∀ (i : Nat) (H : Hp) (w : Wd) (h : Hw), RH B H w h → RVs B H w ws vs → match itemW k ws h i with
  | some (some x) => J.go i H ∧ ∀ v H', J.yld i H v H' → ∃ w', Kp w H w' H' ∧ RH B H' w' h ∧ RV B H' w' x v
  | some none => J.stop i H
  | none => True
def rI (B : Bx) (c : Cs) (k : SK) (srcs : List E) (Wx : WX) : TI := fun σ H R => rL B c srcs Wx σ H fun vs H1 => ∃ w1 h1 env ws, RH B H1 w1 h1 ∧ RS B H1 w1 env σ ∧ RVs B H1 w1 ws vs ∧ itemW k ws h1 0 ≠ none ∧ ∀ J, ItOk B J k ws vs → R J H1
/-- a list or a tuple -/
def iSeq (K : PySem.W.Frag) (tl : TE) : TI := fun σ H R => tl σ H fun x H1 => ∃ a, x = .ref a ∧ (((∃ xs, SqL K H1 a xs) ∧ R (Itl K a) H1) ∨ ((∃ xs, SqT K H1 a xs) ∧ R (Itt K a) H1))
theorem pi_seq {tg l : Expr} {tl : TE} (hl : PE X l tl) : PI X tg l (iSeq X.K tl) := by
  refine ⟨fun pins s σ H R I q => ?_⟩
  refine thn (hl.run pins s σ H _ I q) fun v s1 ⟨x, H1, I1, r1, q1⟩ => ?_
  obtain ⟨a, e, q⟩ := q1
  subst e
  cases r1
  rcases q with ⟨⟨xs, hq⟩, q⟩ | ⟨⟨xs, hq⟩, q⟩
  · obtain ⟨its, rv, p, hz⟩ := I1.list hq
    refine wpAny_pyIter_list p.isList ?_
    refine ⟨s1.heap.objs.size, [s1.heap.objs.size], _, _, H1, rfl, I1.kept (t' := s1.toks) fun b o e => Heap.get?_push_of_some _ e, turn_list a _, ⟨_, Heap.get?_push_size _ rfl, rfl, rfl⟩, fun b hb => ?_, q⟩
    have e : b = s1.heap.objs.size := by simpa using hb
    subst e
    exact I1.fpOk (Nat.le_refl _) (I1.hok.fresh (Nat.le_refl _))
  · obtain ⟨its, rv, p, hz⟩ := I1.tuple hq
    refine wpAny_pyIter_tuple (show s1.heap.IsTuple a its.toArray from p) ?_
    refine ⟨s1.heap.objs.size, [s1.heap.objs.size], _, _, H1, rfl, I1.kept (t' := s1.toks) fun b o e => Heap.get?_push_of_some _ e, turn_tuple a _, ⟨_, Heap.get?_push_size _ rfl, rfl, rfl⟩, fun b hb => ?_, q⟩
    have e : b = s1.heap.objs.size := by simpa using hb
    subst e
    exact I1.fpOk (Nat.le_refl _) (I1.hok.fresh (Nat.le_refl _))
/-- the list at a fixed address is what the evaluator reads -/
theorem getL_at {x : W} {v : V} {xs : List W} {a : Addr} (r : RH B H w h) (q : RV B H w x v) (e : getL h x = some xs) (ea : v = .ref a) : ∃ vs, SqL B.K H a vs ∧ RVs B H w xs vs := by
  obtain ⟨b, vs, e1, h1, h2⟩ := getL_ok r q e
  rw [e1] at ea; cases ea
  exact ⟨vs, h1, h2⟩
theorem getS_kind {x : W} {v : V} {xs : List W} (r : RH B H w h) (q : RV B H w x v) (e : getS h x = some xs) : ((∀ ys, x ≠ .tup ys) ∧ getL h x = some xs) ∨ x = .tup xs := by
  cases x with
  | tup ys => cases e; exact .inr rfl
  | _ => exact .inl ⟨fun _ z => (by cases z), e⟩
theorem it_list {a : Addr} {x : W} {k : SK} (hk : k = .val) (nt : ∀ ys, x ≠ .tup ys) (hK : B.K = X.K) : ItOk B (Itl X.K a) k [x] [.ref a] := by
  subst hk
  intro i H w h r q
  obtain ⟨v, ev, q⟩ := q.one
  cases ev
  show match (getS h x).map fun xs => xs[i]? with
    | some (some x) => _
    | some none => _
    | none => True
  have e0 : getS h x = getL h x := by
    cases x with
    | tup ys => exact absurd rfl (nt ys)
    | _ => rfl
  rw [e0]
  cases e : getL h x with
  | none => trivial
  | some xs =>
    obtain ⟨vs, hs, qs⟩ := getL_at r q e rfl
    rw [hK] at hs
    show match some (xs[i]?) with
      | some (some x) => _
      | some none => _
      | none => True
    cases ei : xs[i]? with
    | none => exact ⟨vs, hs, by rw [← qs.length]; exact List.getElem?_eq_none_iff.mp ei⟩
    | some y =>
      obtain ⟨u, eu, qu⟩ := qs.get ei
      refine ⟨⟨vs, u, hs, eu⟩, fun z H' ⟨e1, e2⟩ => ?_⟩
      subst e1
      have := e2 vs hs
      rw [eu] at this; cases this
      exact ⟨w, Kp.refl _ _, r, qu⟩
theorem it_tup {a : Addr} {xs : List W} (hK : B.K = X.K) : ItOk B (Itt X.K a) .val [.tup xs] [.ref a] := by
  intro i H w h r q
  obtain ⟨v, ev, q⟩ := q.one
  cases ev
  obtain ⟨b, vs, e1, hs, qs⟩ := q
  cases e1
  have hs := hK ▸ hs.sq
  show match some (xs[i]?) with
    | some (some x) => _
    | some none => _
    | none => True
  cases ei : xs[i]? with
  | none => exact ⟨vs, hs, by rw [← qs.length]; exact List.getElem?_eq_none_iff.mp ei⟩
  | some y =>
    obtain ⟨u, eu, qu⟩ := qs.get ei
    refine ⟨⟨vs, u, hs, eu⟩, fun z H' ⟨e1, e2⟩ => ?_⟩
    subst e1
    have := e2 vs hs
    rw [eu] at this; cases this
    exact ⟨w, Kp.refl _ _, r, qu⟩
theorem it_rng {j : Int} : ItOk B (Itr 0 j.toNat) .rng [.int j] [.int j] := by
  intro i H w h r q
  show match (if decide (-(2 ^ 62) ≤ j ∧ j < 2 ^ 62) then some (if i < j.toNat then some (W.int (i : Nat)) else none) else none) with
    | some (some x) => _
    | some none => _
    | none => True
  split <;> rename_i e <;> try trivial
  · split at e
    · have e := Option.some.inj e
      split at e
      · rename_i hi
        cases e
        refine ⟨hi, fun v H' ⟨e1, e2⟩ => ?_⟩
        subst e1 e2
        exact ⟨w, Kp.refl _ _, r, by show V.int (0 + (i : Int)) = V.int (i : Nat); simp⟩
      · cases e
    · cases e
  · split at e
    · have e := Option.some.inj e
      split at e
      · cases e
      · rename_i hi
        exact Nat.le_of_not_lt hi
    · cases e
/-- a new pair -/
theorem pair_new {T : Addr} {x y : W} {u v : V} (r : RH B H w h) (hT : H T = none) (q1 : RV B H w x u) (q2 : RV B H w y v) : ∃ w', Kp w H w' (upd H T (.tup [u, v])) ∧ RH B (upd H T (.tup [u, v])) w' h ∧ RV B (upd H T (.tup [u, v])) w' (.tup [x, y]) (.ref T) :=
  ⟨w, Kp.upd0 hT, r.upd0 hT, T, [u, v], rfl, .inl upd_same, u, [v], rfl, q1.mono (Kp.upd0 hT).le r x u, v, [], rfl, q2.mono (Kp.upd0 hT).le r y v, rfl⟩
theorem it_enum {a : Addr} {x : W} (hK : B.K = X.K) : ItOk B (Ite X.K a) .enum [x] [.ref a] := by
  intro i H w h r q
  obtain ⟨v, ev, q⟩ := q.one
  cases ev
  show match (getL h x).map fun xs => xs[i]?.map fun x => W.tup [.int (i : Nat), x] with
    | some (some x) => _
    | some none => _
    | none => True
  cases e : getL h x with
  | none => trivial
  | some xs =>
    obtain ⟨vs, hs, qs⟩ := getL_at r q e rfl
    rw [hK] at hs
    show match some (xs[i]?.map fun x => W.tup [.int (i : Nat), x]) with
      | some (some x) => _
      | some none => _
      | none => True
    cases ei : xs[i]? with
    | none => exact ⟨vs, hs, by rw [← qs.length]; exact List.getElem?_eq_none_iff.mp ei⟩
    | some y =>
      obtain ⟨u, eu, qu⟩ := qs.get ei
      refine ⟨⟨vs, u, hs, eu⟩, fun z H' ⟨T, t, e1, hT, e2, e3⟩ => ?_⟩
      subst e1 e2
      have := e3 vs hs
      rw [eu] at this; cases this
      exact pair_new r hT (show RV B H w (.int (i : Nat)) (.int (i : Nat)) from rfl) qu
theorem it_zipL {a b : Addr} {x y : W} (hK : B.K = X.K) (nt : (∀ ys, x ≠ .tup ys) ∨ ∀ ys, y ≠ .tup ys) : ItOk B (Itz X.K a b) .zip [x, y] [.ref a, .ref b] := by
  intro i H w h r q
  obtain ⟨v, u, ev, q1, q2⟩ := q.two
  cases ev
  have e0 : itemW .zip [x, y] h i = (match getL h x, getL h y with
      | some xs, some ys => some (match xs[i]?, ys[i]? with
        | some x, some y => some (.tup [x, y])
        | _, _ => none)
      | _, _ => none) := by
    cases x with
    | tup xs =>
      cases y with
      | tup ys => rcases nt with z | z <;> exact absurd rfl (z _)
      | _ => rfl
    | _ => rfl
  rw [e0]
  cases e1 : getL h x with
  | none => trivial
  | some xs =>
    cases e2 : getL h y with
    | none => trivial
    | some ys =>
      obtain ⟨vs, hs, qs⟩ := getL_at r q1 e1 rfl
      obtain ⟨us, hu, qu⟩ := getL_at r q2 e2 rfl
      rw [hK] at hs hu
      show match some (match xs[i]?, ys[i]? with
        | some x, some y => some (W.tup [x, y])
        | _, _ => none) with
        | some (some x) => _
        | some none => _
        | none => True
      cases ei : xs[i]? with
      | none => exact ⟨vs, us, hs, hu, .inl (by rw [← qs.length]; exact List.getElem?_eq_none_iff.mp ei)⟩
      | some p =>
        cases ej : ys[i]? with
        | none => exact ⟨vs, us, hs, hu, .inr (by rw [← qu.length]; exact List.getElem?_eq_none_iff.mp ej)⟩
        | some q =>
          obtain ⟨p', ep, qp⟩ := qs.get ei
          obtain ⟨q', eq, qq⟩ := qu.get ej
          refine ⟨⟨vs, us, p', q', hs, hu, ep, eq⟩, fun z H' ⟨T, t, t', e1, hT, e2, e3, e4⟩ => ?_⟩
          subst e1 e2
          have h1 := e3 vs hs
          rw [ep] at h1; cases h1
          have h2 := e4 us hu
          rw [eq] at h2; cases h2
          exact pair_new r hT qp qq
theorem it_zipT {a b : Addr} {xs ys : List W} (hK : B.K = X.K) : ItOk B (RZ.ItzT X.K a b) .zip [.tup xs, .tup ys] [.ref a, .ref b] := by
  intro i H w h r q
  obtain ⟨v, u, ev, q1, q2⟩ := q.two
  cases ev
  obtain ⟨_, vs, e1, hs, qs⟩ := q1
  cases e1
  obtain ⟨_, us, e1, hu, qu⟩ := q2
  cases e1
  have hs := hK ▸ hs.sq
  have hu := hK ▸ hu.sq
  show match some (match xs[i]?, ys[i]? with
    | some x, some y => some (W.tup [x, y])
    | _, _ => none) with
    | some (some x) => _
    | some none => _
    | none => True
  cases ei : xs[i]? with
  | none => exact ⟨vs, us, hs, hu, .inl (by rw [← qs.length]; exact List.getElem?_eq_none_iff.mp ei)⟩
  | some p =>
    cases ej : ys[i]? with
    | none => exact ⟨vs, us, hs, hu, .inr (by rw [← qu.length]; exact List.getElem?_eq_none_iff.mp ej)⟩
    | some q =>
      obtain ⟨p', ep, qp⟩ := qs.get ei
      obtain ⟨q', eq, qq⟩ := qu.get ej
      refine ⟨⟨vs, us, p', q', hs, hu, ep, eq⟩, fun z H' ⟨T, t, t', e1, hT, e2, e3, e4⟩ => ?_⟩
      subst e1 e2
      have h1 := e3 vs hs
      rw [ep] at h1; cases h1
      have h2 := e4 us hu
      rw [eq] at h2; cases h2
      exact pair_new r hT qp qq
theorem L_one {ie : E} {σ : St} {H : Hp} {Q : List V → Hp → Prop} (q : rL B c [ie] Wx σ H Q) : rE B c ie Wx σ H fun v H1 => Q [v] H1 := by
  refine (rE_one (f := fun env x h1 => (evL c [] env h1).bind fun xs h2 => .ok (x :: xs) h2) q).imp fun v H1 ⟨w1, h1, env, x, r1, s1, qx, l1⟩ => ?_
  exact l1.ok (Kp.refl _ _) r1 ⟨v, [], rfl, qx, rfl⟩
theorem i_val {tg e : Expr} {ie : E} (hK : B.K = X.K) (he : PE X e (rE B c ie Wx)) : PI X tg e (rI B c .val [ie] Wx) := by
  refine PI.imp (pi_seq he) fun σ H R q => (L_one q).imp fun v H1 ⟨w1, h1, env, ws, r1, s1, qs, hn, hJ⟩ => ?_
  match ws, qs with
  | [], q => cases q
  | x :: y :: _, ⟨v1, t, e1, q1, v2, t2, e2, _⟩ => rw [e2] at e1; cases e1
  | [x], qs =>
    obtain ⟨v1, e1, qx⟩ := qs.one
    cases e1
    have hn : (getS h1 x).map (fun xs => xs[0]?) ≠ none := hn
    cases e : getS h1 x with
    | none => rw [e] at hn; exact absurd rfl hn
    | some xs =>
      rcases getS_kind r1 qx e with ⟨nt, e'⟩ | e'
      · obtain ⟨a, vs, rfl, hs, _⟩ := getL_ok r1 qx e'
        exact ⟨a, rfl, .inl ⟨⟨vs, hK ▸ hs⟩, hJ _ (it_list rfl nt hK)⟩⟩
      · subst e'
        obtain ⟨a, vs, rfl, hs, _⟩ := id qx
        exact ⟨a, rfl, .inr ⟨⟨vs, hK ▸ hs.sq⟩, hJ _ (it_tup hK)⟩⟩
theorem star1 {e : Expr} {env : PySem.Env} (h : star e = false) : starEach [e] env = [(false, eval e env)] := star_ok h
theorem i_rng {tg e : Expr} {ie : E} {p : Pos} (hg : Gl X "range") (hm : X.mg "range" = none) (hs : star e = false) (he : PE X e (rE B c ie Wx)) : PI X tg (.Call (.Name "range" p) [e] [] pos) (rI B c .rng [ie] Wx) := by
  refine PI.imp (pi_range1 hg hm (l_cons (B := B) (c := c) (Wx := Wx) he l_nil hs) (star1 hs)) fun σ H R q => q.imp fun vs H1 ⟨w1, h1, env, ws, r1, s1, qs, hn, hJ⟩ => ?_
  have hw : ∃ j, ws = [.int j] := by
    cases ws with
    | nil => exact absurd rfl hn
    | cons x r =>
      cases r with
      | nil =>
        cases x with
        | int j => exact ⟨j, rfl⟩
        | _ => exact absurd rfl hn
      | cons y r => exact absurd (by cases x <;> rfl) hn
  obtain ⟨j, rfl⟩ := hw
  obtain ⟨v1, rfl, qx⟩ := qs.one
  cases qx
  have hn : (if decide (-(2 ^ 62) ≤ j ∧ j < 2 ^ 62) then some (if 0 < j.toNat then some (W.int ((0 : Nat) : Int)) else none) else none) ≠ none := hn
  split at hn
  · rename_i hj
    have hj := of_decide_eq_true hj
    exact ⟨j, rfl, hj.1, hj.2, hJ _ it_rng⟩
  · exact absurd rfl hn
theorem i_enum {e : Expr} {ie : E} {p tpos : Pos} {elts : List Expr} {kk : Nat} (hK : B.K = X.K) (hg : Gl X "enumerate") (hm : X.mg "enumerate" = none) (hs : star e = false) (he : PE X e (rE B c ie Wx)) : PI X (.Tuple elts kk tpos) (.Call (.Name "enumerate" p) [e] [] pos) (rI B c .enum [ie] Wx) := by
  refine PI.imp (pi_enum hg hm (l_cons (B := B) (c := c) (Wx := Wx) he l_nil hs) (star1 hs)) fun σ H R q => q.imp fun vs H1 ⟨w1, h1, env, ws, r1, s1, qs, hn, hJ⟩ => ?_
  have hw : ∃ x, ws = [x] := by
    cases ws with
    | nil => exact absurd rfl hn
    | cons x r =>
      cases r with
      | nil => exact ⟨x, rfl⟩
      | cons y r => exact absurd rfl hn
  obtain ⟨x, rfl⟩ := hw
  · obtain ⟨v1, rfl, qx⟩ := qs.one
    have hn : (getL h1 x).map (fun xs => xs[0]?.map fun x => W.tup [.int ((0 : Nat) : Int), x]) ≠ none := hn
    cases e : getL h1 x with
    | none => rw [e] at hn; exact absurd rfl hn
    | some xs =>
      obtain ⟨a, vs, rfl, hs, _⟩ := getL_ok r1 qx e
      exact ⟨a, vs, rfl, hK ▸ hs, hJ _ (it_enum hK)⟩
theorem i_zip {e e2 : Expr} {ie ie2 : E} {p tpos : Pos} {elts : List Expr} {kk : Nat} (hK : B.K = X.K) (hg : Gl X "zip") (hm : X.mg "zip" = none) (hs : star e = false) (hs2 : star e2 = false) (he : PE X e (rE B c ie Wx)) (he2 : PE X e2 (rE B c ie2 Wx)) :
    PI X (.Tuple elts kk tpos) (.Call (.Name "zip" p) [e, e2] [] pos) (rI B c .zip [ie, ie2] Wx) := by
  refine PI.imp (RZ.pi_zipA hg hm (l_cons (B := B) (c := c) (Wx := Wx) he (l_cons he2 l_nil hs2) hs) (star_ok hs) (plain_ok (by simp [noStar, hs2]))) fun σ H R q => q.imp fun vs H1 ⟨w1, h1, env, ws, r1, s1, qs, hn, hJ⟩ => ?_
  have hw : ∃ x y, ws = [x, y] := by
    cases ws with
    | nil => exact absurd rfl hn
    | cons x r =>
      cases r with
      | nil => exact absurd rfl hn
      | cons y r =>
        cases r with
        | nil => exact ⟨x, y, rfl⟩
        | cons z r => exact absurd rfl hn
  obtain ⟨x, y, rfl⟩ := hw
  · obtain ⟨v1, v2, rfl, qx, qy⟩ := qs.two
    by_cases ht : (∀ ys, x ≠ .tup ys) ∨ ∀ ys, y ≠ .tup ys
    · have e0 : itemW .zip [x, y] h1 0 = (match getL h1 x, getL h1 y with
          | some xs, some ys => some (match xs[0]?, ys[0]? with
            | some x, some y => some (.tup [x, y])
            | _, _ => none)
          | _, _ => none) := by
        cases x with
        | tup xs =>
          cases y with
          | tup ys => rcases ht with z | z <;> exact absurd rfl (z _)
          | _ => rfl
        | _ => rfl
      rw [e0] at hn
      cases e1 : getL h1 x with
      | none => rw [e1] at hn; exact absurd rfl hn
      | some xs =>
        cases e2 : getL h1 y with
        | none => rw [e1, e2] at hn; exact absurd rfl hn
        | some ys =>
          obtain ⟨a, vs, rfl, hs, _⟩ := getL_ok r1 qx e1
          obtain ⟨b, us, rfl, hu, _⟩ := getL_ok r1 qy e2
          exact ⟨a, b, vs, us, rfl, .inl ⟨hK ▸ hs, hK ▸ hu, hJ _ (it_zipL hK ht)⟩⟩
    · have h1 : ∃ xs, x = .tup xs := Classical.byContradiction fun z => ht (.inl fun ys e => z ⟨ys, e⟩)
      have h2 : ∃ xs, y = .tup xs := Classical.byContradiction fun z => ht (.inr fun ys e => z ⟨ys, e⟩)
      obtain ⟨xs, rfl⟩ := h1
      obtain ⟨ys, rfl⟩ := h2
      obtain ⟨a, vs, rfl, hs, _⟩ := id qx
      obtain ⟨b, us, rfl, hu, _⟩ := id qy
      exact ⟨a, b, vs, us, rfl, .inr ⟨hK ▸ hs.sq, hK ▸ hu.sq, hJ _ (it_zipT hK)⟩⟩
end
end G
end
section
set_option Elab.async false
set_option linter.all false
set_option maxRecDepth 100000
/-! G9: list comprehensions, for -/
namespace G
open PySem L2
section
variable {X : Cx} {B : Bx} {c : Cs} {Wx : WX} {pos : Pos} {H : Hp} {w : Wd} {h : Hw}
abbrev Wf : WX := fun _ _ _ _ => False
abbrev rTs (B : Bx) (c : Cs) (es : List E) (Wx : WX) : TT := rG B (evT c es) REq Wx
theorem ts_nil : PTs X [] (rTs B c [] Wx) := ⟨fun pins s σ H Q I ⟨w, h, env, r, s', l⟩ => pts_nil.run pins s σ H Q I (l.ok (Kp.refl _ _) r rfl)⟩
theorem ts_one {e : Expr} {i : E} (p : PT X e (rT B c i Wx)) : PTs X [e] (rTs B c [i] Wx) := by
  refine ⟨fun pins s σ H Q I ⟨w, h, env, r, s', l⟩ => (pts_one p).run pins s σ H Q I ⟨w, h, env, r, s', ?_⟩⟩
  have l : Lands B w H ((evE c i env h).bind fun x h1 => match x with
    | .bl true => .ok true h1
    | .bl false => .ok false h1
    | _ => .stuck) REq Q _ := l
  show Lands B w H ((evE c i env h).bind asB) REq Q _
  cases e : evE c i env h with
  | stuck => rw [e] at l; exact False.elim l
  | exc k fs h2 => rw [e] at l; exact l
  | ok x h1 =>
    rw [e] at l
    cases x with
    | bl b => cases b <;> exact l
    | _ => exact False.elim l
/-- behind a part from which no error leaves -/
theorem Lands.ne {α β γ δ : Type} {o : Out α} {f : α → Hw → Out β} {R : Hp → Wd → β → δ → Prop} {R1 : Hp → Wd → α → γ → Prop} {Q : δ → Hp → Prop} {Xk Xk' : XK} (l : Lands B w H (o.ne.bind f) R Q Xk) :
    Lands B w H o R1 (fun v H1 => ∃ w1 h1 x, Kp w H w1 H1 ∧ RH B H1 w1 h1 ∧ R1 H1 w1 x v ∧ Lands B w1 H1 (f x h1) R Q Xk) Xk' := by
  cases o with
  | ok a h1 => exact fun w1 H1 b k r q => ⟨w1, h1, a, k, r, q, Lands.from l k⟩
  | exc c fs h' => exact False.elim l
  | stuck => exact False.elim l
/-- the same, the world of the start kept -/
theorem Lands.ne0 {α β γ δ : Type} {w0 : Wd} {H0 : Hp} {o : Out α} {f : α → Hw → Out β} {R : Hp → Wd → β → δ → Prop} {R1 : Hp → Wd → α → γ → Prop} {Q : δ → Hp → Prop} {Xk Xk' : XK} (l : Lands B w0 H0 (o.ne.bind f) R Q Xk) :
    Lands B w H o R1 (fun v H1 => ∃ w1 h1 x, Kp w H w1 H1 ∧ RH B H1 w1 h1 ∧ R1 H1 w1 x v ∧ Lands B w0 H0 (f x h1) R Q Xk) Xk' := by
  cases o with
  | ok a h1 => exact fun w1 H1 b k r q => ⟨w1, h1, a, k, r, q, l⟩
  | exc c fs h' => exact False.elim l
  | stuck => exact False.elim l
theorem Out.bind_assoc {α β γ : Type} (o : Out α) (f : α → Hw → Out β) (g : β → Hw → Out γ) : (o.bind f).bind g = o.bind fun a h => (f a h).bind g := by cases o <;> rfl
theorem mkL_at {m : Bool} {xs : List W} {vs : List V} {Q : VK} {Xk : XK} {w0 : Wd} {H0 : Hp} {D : Addr} (l : Lands B w0 H0 (mkL m xs h) (RVr B) Q Xk) (k : Kp w0 H0 w H) (r : RH B H w h) (hD0 : H0 D = none) (hD : H D = some (.lst vs)) (nD : D ∉ w.φ) (nZ : ¬ w.Z D) (q : RVs B H w xs vs) : Q (.ref D) H := by
  unfold mkL at l
  split at l
  · cases m with
    | true =>
      rw [if_pos rfl] at l
      refine l.ok (w' := w.nw D) (H' := H) ⟨?_, k.z, k.zn, k.h, k.m⟩ (r.nwAt hD nD nZ ⟨vs, hD, q.mono Le.nw r xs vs⟩) ⟨D, rfl, by rw [← r.len]; exact List.getElem?_concat_length⟩
      obtain ⟨g, e, hg⟩ := k.φ
      refine ⟨g ++ [D], by simp [Wd.nw, e], fun a ha => ?_⟩
      rcases List.mem_append.mp ha with z | z
      · exact hg a z
      · rw [List.mem_singleton.mp z]; exact hD0
    | false =>
      rw [if_neg Bool.false_ne_true] at l
      refine l.ok (w' := w.fz D) (H' := H) ⟨k.φ, fun a z => .inl (k.z a z), fun a z => ?_, k.h, k.m⟩ (r.fzAt hD nD) ⟨D, vs, rfl, .inr rfl, hD, q.mono Le.fz r xs vs⟩
      rcases z with z | z
      · exact k.zn a z
      · rw [z]; exact .inr hD0
  · exact False.elim l
theorem compI_ne {it : Hw → Nat → Option (Option W)} {f : W → Hw → Out (Option W)} (hf : ∀ x h c fs h', f x h ≠ .exc c fs h') : ∀ (n i : Nat) (h : Hw) (c : Nat) (fs : List (Str × W)) (h' : Hw), compI it f n i h ≠ .exc c fs h'
  | 0, i, h, c, fs, h' => by unfold compI; exact fun z => by cases z
  | n + 1, i, h, c, fs, h' => by
    unfold compI
    cases it h i with
    | none => exact fun z => by cases z
    | some o =>
      cases o with
      | none => exact fun z => by cases z
      | some x =>
        show (f x h).bind _ ≠ _
        cases e : f x h with
        | stuck => exact fun z => by cases z
        | exc c' fs' h'' => exact absurd e (hf x h c' fs' h'')
        | ok a h1 =>
          show (compI it f n (i + 1) h1).bind _ ≠ _
          cases e2 : compI it f n (i + 1) h1 with
          | stuck => exact fun z => by cases z
          | exc c' fs' h'' => exact absurd e2 (compI_ne hf n (i + 1) h1 c' fs' h'')
          | ok ys h2 => exact fun z => by cases z
theorem comp_core {m : Bool} {elt : E} {tg : T} {k : SK} {srcs ifs : List E} {wp : List Nat} {σ : St} {H : Hp} {Q : VK} (hK : B.K = X.K) (hT : ∀ i ∈ slots tg, i ∈ wp) (q : rE B c (.comp m elt tg k srcs ifs wp) Wx σ H Q) :
    tLc (rI B c k srcs Wx) (gT X.K tg) (rTs B c ifs Wf) (rE B c elt Wf) wp σ H Q := by
  refine (rG_bind (f := fun env h => evL c srcs env h) (g := fun env vs h1 => (compI (itemW k vs) (fun x h2 => match asg h2 tg x (wipeW env wp) with
      | none => .stuck
      | some env1 => (evT c ifs env1 h2).ne.bind fun b h3 => if b then (evE c elt env1 h3).ne.bind fun y h4 => .ok (some y) h4 else .ok none h3) (turnsW k vs h1) 0 h1).bind (mkL m)) (R1 := RVsr B) q).imp fun vs H1 ⟨w1, h1, env, ws, r1, s1, qs, l1⟩ => ?_
  refine ⟨w1, h1, env, ws, r1, s1, qs, fun e => ?_, fun J hJ D hD => ?_⟩
  · cases t : turnsW k ws h1 with
    | zero => rw [t] at l1; exact False.elim l1
    | succ n =>
      rw [t] at l1
      unfold compI at l1
      rw [e] at l1
      exact False.elim l1
  · have nD1 : D ∉ w1.φ := fun z => by
      obtain ⟨o, e, _⟩ := r1.mut z
      rw [hD] at e; cases e
    refine ⟨fun i n H => ∃ w h acc accV, Kp w1 H1 w H ∧ RH B H w h ∧ H D = some (.lst accV) ∧ RVs B H w acc accV ∧ D ∉ w.φ ∧ ¬ w.Z D ∧ Lands B w1 H1 ((compI (itemW k ws) (fun x h2 => match asg h2 tg x (wipeW env wp) with
      | none => .stuck
      | some env1 => (evT c ifs env1 h2).ne.bind fun b h3 => if b then (evE c elt env1 h3).ne.bind fun y h4 => .ok (some y) h4 else .ok none h3) n i h).bind fun ys h => mkL m (acc ++ ys) h) (RVr B) Q (fun cls d H' => Wx cls d σ H'),
      ⟨turnsW k ws h1, w1, h1, [], [], Kp.upd0 hD, r1.upd0 hD, upd_same, rfl, nD1, fun z => (r1.zs D z).2 hD, l1⟩, ?_⟩
    rintro i n H ⟨w, h, acc, accV, kp, r, eD, qa, nD, nZ, l⟩
    cases n with
    | zero => exact False.elim l
    | succ n =>
      have hj := hJ i H w h r (qs.mono kp.le r1 ws vs)
      unfold compI at l
      cases hi : itemW k ws h i with
      | none => rw [hi] at l; exact False.elim l
      | some o =>
        rw [hi] at l hj
        cases o with
        | none =>
          refine .inl ⟨hj, ?_⟩
          have l : Lands B w1 H1 (mkL m (acc ++ []) h) (RVr B) Q _ := l
          rw [List.append_nil] at l
          exact mkL_at l kp r hD eD nD nZ qa
        | some x =>
          refine .inr ⟨hj.1, fun H' => ∃ w h acc accV, Kp w1 H1 w H' ∧ RH B H' w h ∧ H' D = some (.lst accV) ∧ RVs B H' w acc accV ∧ D ∉ w.φ ∧ ¬ w.Z D ∧ Lands B w1 H1 ((compI (itemW k ws) (fun x h2 => match asg h2 tg x (wipeW env wp) with
            | none => .stuck
            | some env1 => (evT c ifs env1 h2).ne.bind fun b h3 => if b then (evE c elt env1 h3).ne.bind fun y h4 => .ok (some y) h4 else .ok none h3) n (i + 1) h).bind fun ys h => mkL m (acc ++ ys) h) (RVr B) Q (fun cls d H' => Wx cls d σ H'),
            fun H' z => ⟨n, Nat.lt_succ_self n, z⟩, fun v H' hy => ?_⟩
          obtain ⟨w2, k2, r2, qv⟩ := hj.2 v H' hy
          have stay : ∀ {w3 : Wd} {H3 : Hp}, Kp w H w3 H3 → H3 D = some (.lst accV) ∧ D ∉ w3.φ ∧ ¬ w3.Z D := fun {w3 H3} k3 => by
            refine ⟨k3.h D _ eD nD, fun z => ?_, fun z => ?_⟩
            · obtain ⟨g, e, hg⟩ := k3.φ
              rw [e] at z
              rcases List.mem_append.mp z with z | z
              · exact nD z
              · rw [hg D z] at eD; cases eD
            · rcases k3.zn D z with z | z
              · exact nZ z
              · rw [z] at eD; cases eD
          have sw : RS B H' w2 (wipeW env wp) (wipe σ wp) := ((s1.mono kp r1).mono k2 r).wipe wp
          dsimp only at l
          cases ea : asg h tg x (wipeW env wp) with
          | none => rw [ea] at l; exact False.elim l
          | some env1 =>
            rw [ea] at l
            refine asg_ok hK tg ea qv sw fun σ2 s2 hw => ⟨by rw [hw wp hT, wipe_wipe fun _ z => z], ?_⟩
            dsimp only at l
            rw [Out.bind_assoc, Out.bind_assoc] at l
            refine ⟨w2, h, env1, r2, s2, (Lands.ne0 (R1 := REq) (Xk' := fun cls d H' => False) l).imp fun b H3 ⟨w3, h3, b', k3, r3, eb, l3⟩ => ?_⟩
            have eb : b' = b := eb
            subst eb
            cases b' with
            | false =>
              rw [if_neg Bool.false_ne_true] at l3 ⊢
              have k13 : Kp w H w3 H3 := k2.trans k3
              obtain ⟨e1, e2, e3⟩ := stay k13
              have l3 : Lands B w1 H1 (((compI (itemW k ws) _ n (i + 1) h3).bind fun ys h2 => .ok ys h2).bind fun ys h => mkL m (acc ++ ys) h) (RVr B) Q _ := l3
              rw [Out.bind_assoc] at l3
              exact ⟨w3, h3, acc, accV, kp.trans k13, r3, e1, qa.mono k13.le r acc accV, e2, e3, l3⟩
            | true =>
              rw [if_pos rfl] at l3 ⊢
              rw [Out.bind_assoc] at l3
              refine ⟨w3, h3, env1, r3, s2.mono k3 r2, (Lands.ne0 (R1 := RVr B) (Xk' := fun cls d H' => False) l3).imp fun y H4 ⟨w4, h4, yw, k4, r4, qy, l4⟩ => ?_⟩
              have k14 : Kp w H w4 H4 := (k2.trans k3).trans k4
              obtain ⟨e1, e2, e3⟩ := stay k14
              have l4 : Lands B w1 H1 (((compI (itemW k ws) _ n (i + 1) h4).bind fun ys h2 => .ok (yw :: ys) h2).bind fun ys h => mkL m (acc ++ ys) h) (RVr B) Q _ := l4
              rw [Out.bind_assoc] at l4
              refine ⟨accV, e1, ?_, ?_⟩
              · cases e4 : compI (itemW k ws) (fun x h2 => match asg h2 tg x (wipeW env wp) with
                  | none => .stuck
                  | some env1 => (evT c ifs env1 h2).ne.bind fun b h3 => if b then (evE c elt env1 h3).ne.bind fun y h4 => .ok (some y) h4 else .ok none h3) n (i + 1) h4 with
                | stuck => rw [e4] at l4; exact False.elim l4
                | exc c' fs' h' =>
                  refine absurd e4 (compI_ne (fun x h c fs h' => ?_) n (i + 1) h4 c' fs' h')
                  split
                  · exact fun z => by cases z
                  · rename_i env1 _
                    cases evT _ ifs env1 h with
                    | ok b h3 =>
                      cases b with
                      | false => exact fun z => by cases z
                      | true =>
                        show (evE _ elt env1 h3).ne.bind _ ≠ _
                        cases evE _ elt env1 h3 with
                        | ok _ _ => exact fun z => by cases z
                        | exc _ _ _ => exact fun z => by cases z
                        | stuck => exact fun z => by cases z
                    | exc _ _ _ => exact fun z => by cases z
                    | stuck => exact fun z => by cases z
                | ok ys h5 =>
                  rw [e4] at l4
                  have l4 : Lands B w1 H1 (mkL m (acc ++ yw :: ys) h5) (RVr B) Q _ := l4
                  unfold mkL at l4
                  split at l4
                  · rename_i hz
                    have := sz_of hz
                    rw [← qa.length]
                    simp only [List.length_append, List.length_cons] at this
                    omega
                  · exact False.elim l4
              · have qa4 := qa.mono k14.le r acc accV
                have L := Le.loose (w := w4) (us := accV ++ [y]) e1 e3
                refine ⟨w4, h4, acc ++ [yw], accV ++ [y], (kp.trans k14).loose hD, r4.loose e1 e2 e3, upd_same, (qa4.mono L r4).append ⟨y, [], rfl, qy.mono L r4 yw y, rfl⟩, e2, e3, ?_⟩
                have e5 : ∀ ys : List W, acc ++ [yw] ++ ys = acc ++ yw :: ys := fun ys => by simp
                simp only [e5]
                exact l4
end
end G
end
section
set_option Elab.async false
set_option linter.all false
set_option maxRecDepth 100000
/-! G10: statements -/
namespace G
open PySem L2
section
variable {X : Cx} {B : Bx} {c : Cs} {nm : Nat → List Str} {n : Nat} {Wx : WX} {pos : Pos} {H : Hp} {w : Wd} {h : Hw}
theorem e_comp {m : Bool} {elt tg iter : Expr} {ifs : List Expr} {scope : Scope} {own : List (Str × Nat)} {ie : E} {it : T} {k : SK} {srcs iifs : List E} (hK : B.K = X.K) (hc : X.calm = true) (hN : X.N.Nodup) (hi : PI X tg iter (rI B c k srcs Wx)) (ok : BlkOk X.N X.env.scope scope own)
    (hT : ∀ i ∈ slots it, i ∈ own.map (·.2))
    (hg : ∀ (s : Shared) (H : Hp) (C : Addr) (cl : List (Str × Addr)) (fp : List Addr), PG (X.blk s H scope (compEnvC scope cl C X.env) fp) tg (gT X.K it))
    (ht : ∀ (s : Shared) (H : Hp) (C : Addr) (cl : List (Str × Addr)) (fp : List Addr), PTs (X.blk s H scope (compEnvC scope cl C X.env) fp) ifs (rTs B c iifs Wf))
    (he : ∀ (s : Shared) (H : Hp) (C : Addr) (cl : List (Str × Addr)) (fp : List Addr), PE (X.blk s H scope (compEnvC scope cl C X.env) fp) elt (rE B c ie Wf)) (hs : ∀ x, foldedSetIterable iter X.env x = pure x) :
    PE X (.ListComp elt [⟨tg, iter, ifs, 0⟩] scope pos) (rE B c (.comp m ie it k srcs iifs (own.map (·.2))) Wx) :=
  PE.imp (pe_lc hc hN hi ok hg ht he hs) fun σ H Q q => comp_core hK hT q

/-! ### what a statement leaves -/
def LandsS (B : Bx) (w : Wd) (H : Hp) (o : SOut) (D : Ends) (Wx : WX) : Prop := match o with
  | .ok fl env' h' => ∀ w' H' σ', Kp w H w' H' → RH B H' w' h' → RS B H' w' env' σ' → (match fl with
    | .nx => D.nx σ' H'
    | .ret x => ∀ v, RV B H' w' x v → D.rt v H'
    | .brk => D.bk σ' H'
    | .cont => D.ct σ' H')
  | .exc c fs env' h' => ∀ w' H' σ' d, Kp w H w' H' → RH B H' w' h' → RS B H' w' env' σ' → XF B H' w' fs d → Wx (.ref (B.xc c)) d σ' H'
  | .stuck => False
theorem LandsS.from {w1 : Wd} {H1 : Hp} {o : SOut} {D : Ends} (l : LandsS B w H o D Wx) (k : Kp w H w1 H1) : LandsS B w1 H1 o D Wx := by
  cases o with
  | ok fl e h' => exact fun w' H' σ' k' r s => l w' H' σ' (k.trans k') r s
  | exc c fs e h' => exact fun w' H' σ' d k' r s => l w' H' σ' d (k.trans k') r s
  | stuck => exact l
def rS (B : Bx) (f : Env → Hw → SOut) (Wx : WX) : TS := fun D σ H => ∃ w h env, RH B H w h ∧ RS B H w env σ ∧ LandsS B w H (f env h) D Wx
abbrev rSt (B : Bx) (c : Cs) (nm : Nat → List Str) (n : Nat) (s : S) (Wx : WX) : TS := rS B (exS c nm n s) Wx
abbrev rSs (B : Bx) (c : Cs) (nm : Nat → List Str) (n : Nat) (s : List S) (Wx : WX) : TS := rS B (exB c nm n s) Wx
/-- an expression, then what a statement does with it -/
theorem rS_st {α γ : Type} {f : Env → Hw → Out α} {g : Env → α → Hw → SOut} {R1 : Hp → Wd → α → γ → Prop} {D : Ends} {σ : St} (q : rS B (fun env h => (f env h).st env (g env)) Wx D σ H) :
    rG B f R1 Wx σ H fun v H1 => ∃ w1 h1 env x, RH B H1 w1 h1 ∧ RS B H1 w1 env σ ∧ R1 H1 w1 x v ∧ LandsS B w1 H1 (g env x h1) D Wx := by
  obtain ⟨w, h, env, r, s, l⟩ := q
  refine ⟨w, h, env, r, s, ?_⟩
  have l : LandsS B w H ((f env h).st env (g env)) D Wx := l
  cases e : f env h with
  | stuck => rw [e] at l; exact False.elim l
  | exc c fs h' =>
    rw [e] at l
    exact fun w' H' d k r' xf => l w' H' σ d k r' (s.mono k r) xf
  | ok x h1 =>
    rw [e] at l
    exact fun w1 H1 v k r1 qv => ⟨w1, h1, env, x, r1, s.mono k r, qv, LandsS.from l k⟩
theorem rS_one {a : E} {g : Env → W → Hw → SOut} {D : Ends} {σ : St} (q : rS B (fun env h => (evE c a env h).st env (g env)) Wx D σ H) :
    rE B c a Wx σ H fun v H1 => ∃ w1 h1 env x, RH B H1 w1 h1 ∧ RS B H1 w1 env σ ∧ RV B H1 w1 x v ∧ LandsS B w1 H1 (g env x h1) D Wx := rS_st (f := fun env h => evE c a env h) (g := g) (R1 := RVr B) q
theorem LandsS.nx {env : Env} {σ : St} {D : Ends} (l : LandsS B w H (.ok .nx env h) D Wx) (r : RH B H w h) (s : RS B H w env σ) : D.nx σ H := l w H σ (Kp.refl _ _) r s

theorem LandsS.st {α γ : Type} {o : Out α} {g : α → Hw → SOut} {R1 : Hp → Wd → α → γ → Prop} {D : Ends} {env : Env} {σ : St} (l : LandsS B w H (o.st env g) D Wx) (r : RH B H w h) (s : RS B H w env σ) :
    Lands B w H o R1 (fun v H1 => ∃ w1 h1 x, Kp w H w1 H1 ∧ RH B H1 w1 h1 ∧ R1 H1 w1 x v ∧ LandsS B w1 H1 (g x h1) D Wx) (fun cls d H' => Wx cls d σ H') := by
  cases o with
  | stuck => exact False.elim l
  | exc c fs h' => exact fun w' H' d k r' xf => l w' H' σ d k r' (s.mono k r) xf
  | ok x h1 => exact fun w1 H1 v k r1 qv => ⟨w1, h1, x, k, r1, qv, LandsS.from l k⟩

/-! ### assignments -/
def isComp : Expr → Bool
  | .ListComp _ _ _ _ => true | .SetComp _ _ _ _ => true | .DictComp _ _ _ _ _ => true
  | _ => false
theorem swaps_no {e : Expr} {t : Option Expr} {l : Nat} {env : PySem.Env} (h : isComp e = false) : swapsWith e t l env = pure false := by
  cases e <;> first
    | rfl
    | cases h
theorem set_core {i : Nat} {a : E} {D : Ends} {σ : St} (q : rSt B c nm n (.set i a) Wx D σ H) : tAsg (rE B c a Wx) (gName i) D σ H := by
  refine (rS_one (g := fun env x h1 => if i < env.length then .ok .nx (env.set i (some x)) h1 else .stuck) q).imp fun v H1 ⟨w1, h1, env, x, r1, s1, qx, l1⟩ => ?_
  split at l1
  · exact l1.nx r1 (s1.set i qx)
  · exact False.elim l1
theorem s_set {i : Nat} {x : Str} {e : Expr} {a : E} {p : Pos} (hN : X.N.Nodup) (hi : X.N[i]? = some x) (hx : Loc X.env.scope x) (he : PE X e (rE B c a Wx)) (hs : swapsWith e (some (.Name x p)) pos.line X.env = pure false) (hf : X.fn x = true ∨ X.env.scope.names.lookup x = some .local) :
    PS X (.Assign [.Name x p] e pos) (rSt B c nm n (.set i a) Wx) := PS.imp (ps_set hN hi hx he hs hf) fun D σ H q => set_core q
/-- name = [..] on one line -/
theorem s_setLc {m : Bool} {i : Nat} {y : Str} {py : Pos} {elt tg iter : Expr} {ifs : List Expr} {scope : Scope} {own : List (Str × Nat)} {ie : E} {it : T} {k : SK} {srcs iifs : List E} {cpos : Pos} (hK : B.K = X.K) (hc : X.calm = true) (hN : X.N.Nodup) (hy : X.N[i]? = some y) (hyl : X.env.scope.names.lookup y = some .local)
    (hsw : swapsWith (.ListComp elt [⟨tg, iter, ifs, 0⟩] scope cpos) (some (.Name y py)) pos.line X.env = pure true)
    (hi : PI X tg iter (rI B c k srcs Wx)) (ok : BlkOk X.N X.env.scope scope own) (hT : ∀ i ∈ slots it, i ∈ own.map (·.2))
    (hg : ∀ (s : Shared) (H : Hp) (C : Addr) (cl : List (Str × Addr)) (fp : List Addr), PG (X.blk s H scope (compEnvC scope cl C X.env) fp) tg (gT X.K it))
    (ht : ∀ (s : Shared) (H : Hp) (C : Addr) (cl : List (Str × Addr)) (fp : List Addr), PTs (X.blk s H scope (compEnvC scope cl C X.env) fp) ifs (rTs B c iifs Wf))
    (he : ∀ (s : Shared) (H : Hp) (C : Addr) (cl : List (Str × Addr)) (fp : List Addr), PE (X.blk s H scope (compEnvC scope cl C X.env) fp) elt (rE B c ie Wf)) (hs : ∀ x, foldedSetIterable iter X.env x = pure x) :
    PS X (.Assign [.Name y py] (.ListComp elt [⟨tg, iter, ifs, 0⟩] scope cpos) pos) (rSt B c nm n (.set i (.comp m ie it k srcs iifs (own.map (·.2)))) Wx) :=
  PS.imp (ps_setLc hc hN hy hyl hsw hi ok hg ht he hs) fun D σ H q => comp_core hK hT (set_core q)
theorem s_unp {tg e : Expr} {it : T} {a : E} (hK : B.K = X.K) (he : PE X e (rE B c a Wx)) (hg : PG X tg (gT X.K it)) (hs : swapsWithSole [tg] e pos.line X.env = pure false) (hw : swappedStores [tg] e X.env = pure none)
    (h1 : (assignEach [tg] X.env).map (·.2) = [assign tg X.env]) : PS X (.Assign [tg] e pos) (rSt B c nm n (.unp it a) Wx) := by
  refine PS.imp (ps_asg he hg hs hw h1) fun D σ H q => ?_
  refine (rS_one (g := fun env x h1 => match asg h1 it x env with
    | some e1 => .ok .nx e1 h1
    | none => .stuck) q).imp fun v H1 ⟨w1, h1, env, x, r1, s1, qx, l1⟩ => ?_
  cases e : asg h1 it x env with
  | none => rw [e] at l1; exact False.elim l1
  | some env1 =>
    rw [e] at l1
    exact asg_ok hK it e qx s1 fun σ2 s2 _ => l1.nx r1 s2
theorem s_expr {e : Expr} {a : E} (he : PE X e (rE B c a Wx)) (hs : isComp e = false) : PS X (.Expr e pos) (rSt B c nm n (.expr a) Wx) := by
  refine PS.imp (ps_expr he (swaps_no hs)) fun D σ H q => ?_
  exact (rS_one (g := fun env x h1 => .ok .nx env h1) q).imp fun v H1 ⟨w1, h1, env, x, r1, s1, qx, l1⟩ => l1.nx r1 s1
theorem s_doc {x : Str} {j} {pos' : Pos} : PS X (.Expr (.Constant (.str x) j pos) pos') (rSt B c nm n .pass Wx) := PS.imp ps_doc fun D σ H ⟨w, h, env, r, s, l⟩ => LandsS.nx l r s
theorem s_ret {e : Expr} {a : E} (he : PE X e (rE B c a Wx)) : PS X (.Return (some e) pos) (rSt B c nm n (.ret a) Wx) := by
  refine PS.imp (ps_ret he) fun D σ H q => ?_
  exact (rS_one (g := fun env x h1 => .ok (.ret x) env h1) q).imp fun v H1 ⟨w1, h1, env, x, r1, s1, qx, l1⟩ => l1 w1 H1 σ (Kp.refl _ _) r1 s1 v qx
theorem s_retN : PS X (.Return none pos) (rSt B c nm n .retN Wx) := PS.imp ps_retN fun D σ H ⟨w, h, env, r, s, l⟩ => l w H σ (Kp.refl _ _) r s .non rfl
theorem s_pass : PS X (.Pass pos) (rSt B c nm n .pass Wx) := PS.imp ps_pass fun D σ H ⟨w, h, env, r, s, l⟩ => LandsS.nx l r s
theorem s_brk : PS X (.Break pos) (rSt B c nm n .brk Wx) := PS.imp ps_break fun D σ H ⟨w, h, env, r, s, l⟩ => l w H σ (Kp.refl _ _) r s
theorem s_cont : PS X (.Continue pos) (rSt B c nm n .cont Wx) := PS.imp ps_continue fun D σ H ⟨w, h, env, r, s, l⟩ => l w H σ (Kp.refl _ _) r s

/-! ### blocks -/
theorem ss_nil : PSs X [] (rSs B c nm n [] Wx) := PSs.imp pss_nil fun D σ H ⟨w, h, env, r, s, l⟩ => LandsS.nx l r s
theorem ss_cons {st : Stmt} {sts : List Stmt} {i : S} {is : List S} (h1 : PS X st (rSt B c nm n i Wx)) (h2 : PSs X sts (rSs B c nm n is Wx)) : PSs X (st :: sts) (rSs B c nm n (i :: is) Wx) := by
  refine PSs.imp (pss_cons h1 h2) fun D σ H ⟨w, h, env, r, s, l⟩ => ⟨w, h, env, r, s, ?_⟩
  have l : LandsS B w H ((exS c nm n i env h).next fun e h1 => exB c nm n is e h1) D Wx := l
  show LandsS B w H (exS c nm n i env h) _ Wx
  cases e : exS c nm n i env h with
  | stuck => rw [e] at l; exact False.elim l
  | exc k fs e' h' => rw [e] at l; exact l
  | ok fl e' h' =>
    rw [e] at l
    cases fl with
    | nx => exact fun w' H' σ' k r' s' => ⟨w', h', e', r', s', LandsS.from l k⟩
    | ret x => exact l
    | brk => exact l
    | cont => exact l
theorem s_if {t : Expr} {a b : List Stmt} {it : E} {ia ib : List S} (ht : PT X t (rT B c it Wx)) (ha : PSs X a (rSs B c nm n ia Wx)) (hb : PSs X b (rSs B c nm n ib Wx)) : PS X (.If t a b pos) (rSt B c nm n (.ite it ia ib) Wx) := by
  refine PS.imp (ps_if ht ha hb) fun D σ H ⟨w, h, env, r, s, l⟩ => ⟨w, h, env, r, s, ?_⟩
  have l : LandsS B w H ((evE c it env h).st env fun x h1 => match x with
    | .bl true => exB c nm n ia env h1
    | .bl false => exB c nm n ib env h1
    | _ => .stuck) D Wx := l
  show Lands B w H ((evE c it env h).bind asB) _ _ _
  cases e : evE c it env h with
  | stuck => rw [e] at l; exact False.elim l
  | exc k fs h' =>
    rw [e] at l
    exact fun w' H' d k r' xf => l w' H' σ d k r' (s.mono k r) xf
  | ok x h1 =>
    rw [e] at l
    cases x with
    | bl b =>
      intro w1 H1 b' k r1 eb
      have eb : b = b' := eb
      subst eb
      cases b with
      | true => exact ⟨w1, h1, env, r1, s.mono k r, LandsS.from l k⟩
      | false => exact ⟨w1, h1, env, r1, s.mono k r, LandsS.from l k⟩
    | _ => exact False.elim l

/-! ### for -/
theorem for_core {tg : T} {k : SK} {srcs : List E} {body : List S} {D : Ends} {σ : St} (hK : B.K = X.K) (q : rSt B c nm n (.for tg k srcs body) Wx D σ H) : tFor (rI B c k srcs Wx) (gT X.K tg) (rSs B c nm n body Wx) D σ H := by
  refine (rS_st (f := fun env h => evL c srcs env h) (g := fun env vs h1 => forI (itemW k vs) (fun x e h2 => match asg h2 tg x e with
      | none => .stuck
      | some e1 => exB c nm n body e1 h2) (turnsW k vs h1) 0 env h1) (R1 := RVsr B) q).imp fun vs H1 ⟨w1, h1, env, ws, r1, s1, qs, l1⟩ => ?_
  refine ⟨w1, h1, env, ws, r1, s1, qs, fun e => ?_, fun J hJ => ?_⟩
  · cases t : turnsW k ws h1 with
    | zero => rw [t] at l1; exact False.elim l1
    | succ m =>
      rw [t] at l1
      unfold forI at l1
      rw [e] at l1
      exact False.elim l1
  · refine ⟨fun i m σ H => ∃ w h env, Kp w1 H1 w H ∧ RH B H w h ∧ RS B H w env σ ∧ LandsS B w H (forI (itemW k ws) (fun x e h2 => match asg h2 tg x e with
      | none => .stuck
      | some e1 => exB c nm n body e1 h2) m i env h) D Wx, ⟨_, w1, h1, env, Kp.refl _ _, r1, s1, l1⟩, ?_⟩
    rintro i m σ H ⟨w, h, env, kp, r, s, l⟩
    cases m with
    | zero => exact False.elim l
    | succ m =>
      have hj := hJ i H w h r (qs.mono kp.le r1 ws vs)
      unfold forI at l
      cases hi : itemW k ws h i with
      | none => rw [hi] at l; exact False.elim l
      | some o =>
        rw [hi] at l hj
        cases o with
        | none => exact .inl ⟨hj, l.nx r s⟩
        | some x =>
          refine .inr ⟨hj.1, fun σ H' => ∃ w h env, Kp w1 H1 w H' ∧ RH B H' w h ∧ RS B H' w env σ ∧ LandsS B w H' (forI (itemW k ws) (fun x e h2 => match asg h2 tg x e with
            | none => .stuck
            | some e1 => exB c nm n body e1 h2) m (i + 1) env h) D Wx, fun σ' H' z => ⟨m, Nat.lt_succ_self m, z⟩, fun v H' hy => ?_⟩
          obtain ⟨w2, k2, r2, qv⟩ := hj.2 v H' hy
          dsimp only at l
          cases ea : asg h tg x env with
          | none => rw [ea] at l; exact False.elim l
          | some env1 =>
            rw [ea] at l
            dsimp only at l
            refine asg_ok hK tg ea qv (s.mono k2 r) fun σ2 s2 _ => ⟨w2, h, env1, r2, s2, ?_⟩
            cases eb : exB c nm n body env1 h with
            | stuck => rw [eb] at l; exact False.elim l
            | exc k fs e' h' => rw [eb] at l; exact LandsS.from l k2
            | ok fl e' h' =>
              rw [eb] at l
              cases fl with
              | nx => exact fun w3 H3 σ3 k3 r3 s3 => ⟨w3, h', e', kp.trans (k2.trans k3), r3, s3, LandsS.from l (k2.trans k3)⟩
              | cont => exact fun w3 H3 σ3 k3 r3 s3 => ⟨w3, h', e', kp.trans (k2.trans k3), r3, s3, LandsS.from l (k2.trans k3)⟩
              | brk => exact fun w3 H3 σ3 k3 r3 s3 => (LandsS.from l (k2.trans k3)).nx r3 s3
              | ret x => exact LandsS.from l k2
def isSet : Expr → Bool
  | .Set _ _ _ => true
  | _ => false
theorem folded_no {e : Expr} {env : PySem.Env} (h : isSet e = false) (x : Value) : foldedSetIterable e env x = pure x := by
  cases e <;> first
    | rfl
    | cases h
theorem s_for {tg iter : Expr} {body : List Stmt} {it : T} {k : SK} {srcs : List E} {ib : List S} (hK : B.K = X.K) (hp : PassesOwn (model X.prog X.w) X.A X.env X.xe) (hc : X.calm = true) (hi : PI X tg iter (rI B c k srcs Wx)) (hg : PG X tg (gT X.K it)) (hb : PSs X body (rSs B c nm n ib Wx)) (hs : isSet iter = false) :
    PS X (.For tg iter body [] pos) (rSt B c nm n (.for it k srcs ib) Wx) := PS.imp (ps_for hp hc hi hg hb (folded_no hs)) fun D σ H q => for_core hK q
/-- o[i] = e -/
def sPS (X : Cx) : TSet := fun o i v H Q => ∀ (pins : List (Addr × Obj)) (s : Shared) (σ : St) (ov iv u : Value), Inv X pins σ H s → RelV o ov → RelV i iv → RelV v u → wpAny (model X.prog X.w) X.A (setItem ov iv u) (fun _ s' => ∃ H', Inv X pins σ H' s' ∧ Q H') X.xe s
theorem sPS_ok : PSet X (sPS X) := fun pins s σ H o i v ov iv u Q I r1 r2 r3 q => q pins s σ ov iv u I r1 r2 r3
theorem PSet.s {t : TSet} (p : PSet X t) {o i v : V} {Q : Hp → Prop} (q : t o i v H Q) : sPS X o i v H Q := fun pins s σ ov iv u I r1 r2 r3 => p pins s σ H o i v ov iv u Q I r1 r2 r3 q
theorem setSub_ok {o i x : W} {ov iv v : V} {h' : Hw} {Q : Hp → Prop} (r : RH B H w h) (qo : RV B H w o ov) (qi : RV B H w i iv) (qx : RV B H w x v) (e : setSub o i x h = some h') (q : ∀ H', Kp w H w H' → RH B H' w h' → Q H') : sPS X ov iv v H Q := by
  unfold setSub at e
  split at e
  · rename_i m
    obtain ⟨a, rfl, ha⟩ := qo
    split at e
    · rename_i xs ex
      split at e
      · rename_i j
        split at e
        · rename_i hj
          have hj := of_decide_eq_true hj
          cases e
          cases qi
          obtain ⟨vs, hs, qs⟩ := r.ro m _ a ex ha
          have hl := qs.length
          have k : Kp w H w (upd H a (.lst (vs.set j.toNat v))) := Kp.wr ha
          refine PSet.s set_list ⟨a, vs, j, j.toNat, rfl, rfl, hs, ?_, q _ k (r.wr ha ⟨_, upd_same, ?_⟩)⟩
          · unfold ixN
            rw [if_pos hj.1, if_pos (by omega)]
          · exact (qs.set j.toNat qx).mono k.le r _ _
        · cases e
      · cases e
    · cases e
  · cases e
theorem s_ssub {o i e : Expr} {io ii ie : E} {tpos : Pos} (ho : PE X o (rE B c io Wx)) (hi : PE X i (rE B c ii Wx)) (he : PE X e (rE B c ie Wx)) (hs : swapsWithSole [.Subscript o i tpos] e pos.line X.env = pure false) (hw : swappedStores [.Subscript o i tpos] e X.env = pure none)
    (ha : ∀ v, assign (.Subscript o i tpos) X.env v = (do
      let ov ← holding [v] (eval o X.env)
      let iv ← holding [v, ov] (eval i X.env)
      standAt tpos
      holding [v, ov, iv] (setItem ov iv v)
      release [v, ov, iv] [])) : PS X (.Assign [.Subscript o i tpos] e pos) (rSt B c nm n (.ssub io ii ie) Wx) := by
  refine PS.imp (ps_asg he (pg_sub ho hi sPS_ok ha) hs hw (by rfl)) fun D σ H q => ?_
  refine (rS_one (g := fun env x h1 => (evE c io env h1).st env fun y h2 => (evE c ii env h2).st env fun z h3 => match setSub y z x h3 with
    | some h4 => .ok .nx env h4
    | none => .stuck) q).imp fun v H1 ⟨w1, h1, env, x, r1, s1, qx, l1⟩ => ?_
  refine ⟨w1, h1, env, r1, s1, (LandsS.st (R1 := RVr B) l1 r1 s1).imp fun o' H2 ⟨w2, h2, y, k2, r2, qy, l2⟩ => ?_⟩
  have s2 := s1.mono k2 r1
  refine ⟨w2, h2, env, r2, s2, (LandsS.st (R1 := RVr B) l2 r2 s2).imp fun i' H3 ⟨w3, h3, z, k3, r3, qz, l3⟩ => ?_⟩
  have s3 := s2.mono k3 r2
  cases e : setSub y z x h3 with
  | none => rw [e] at l3; exact False.elim l3
  | some h4 =>
    rw [e] at l3
    exact setSub_ok r3 (qy.mono k3.le r2 y o') qz ((qx.mono k2.le r1 x v).mono k3.le r2 x v) e fun H' k r' => l3 w3 H' σ k r' (s3.mono k r3)
end
end G
end
section
set_option Elab.async false
set_option linter.all false
set_option maxRecDepth 100000
/-! G11: calls; from the program's text to terms -/
namespace G
open PySem L2

/-! ### a def's promise: what the evaluator says -/
def spW (B : Bx) (G : Pg) (n f : Nat) : Sp := fun vs H Q E => ∃ w h ws d, RH B H w h ∧ RVs B H w ws vs ∧ G.fns[f]? = some d ∧ ws.length = d.np ∧ Lands B w H (callW G n f ws h) (RVr B) Q E
abbrev Pg.cs (G : Pg) (n : Nat) : Cs := ⟨G.ex, callW G n, G.mth, G.ini⟩
section
variable {X : Cx} {B : Bx} {G : Pg} {n : Nat} {Wx : WX} {pos : Pos} {H : Hp} {w : Wd} {h : Hw}
theorem callW_some {f : Nat} {ws : List W} {E : XK} {Q : VK} (l : Lands B w H (callW G n f ws h) (RVr B) Q E) : ∃ d, G.fns[f]? = some d ∧ ws.length = d.np := by
  cases n with
  | zero => exact False.elim l
  | succ n =>
    unfold callW at l
    cases e : G.fns[f]? with
    | none => rw [e] at l; exact False.elim l
    | some d =>
      rw [e] at l
      refine ⟨d, rfl, ?_⟩
      by_cases c : ws.length = d.np
      · exact c
      · simp only [c, if_false] at l
        exact False.elim l
theorem call_core {f : Nat} {as : List E} {σ : St} {Q : VK} (q : rE B (G.cs n) (.call f as []) Wx σ H Q) : rL B (G.cs n) as Wx σ H fun vs H1 => spW B G n f vs H1 Q (fun cls d H' => Wx cls d σ H') := by
  refine (rL_one (f := fun ws h1 => match permW [] ws with
    | some vs => callW G n f vs h1
    | none => .stuck) q).imp fun vs H1 ⟨w1, h1, env, ws, r1, s1, qs, l1⟩ => ?_
  have l1 : Lands B w1 H1 (callW G n f ws h1) (RVr B) Q _ := l1
  obtain ⟨d, e1, e2⟩ := callW_some l1
  exact ⟨w1, h1, ws, d, r1, qs, e1, e2, l1⟩
theorem e_call {f k : Nat} {x : Str} {a : Addr} {fd : FuncData} {ps : List Str} {p : Pos} {e : Expr} {es : List Expr} {as : List E} (F : FnOk X.prog X.w X.K X.mg X.base (L2.CX X.prog X.w) k a fd ps (spW B G n f)) (hr : Room k X.A) (hg : Gl X x) (hm : X.mg x = some (.ref a)) (hk : PySem.W.keepIn X.K (.ref a) = true) (hb : Binds X.K fd ps [])
    (tk : Takes X Wx) (hs : noStar (e :: es) = true) (hd : (x == ("__debug__" : Str)) = false) (ha : PA X (e :: es) (rL B (G.cs n) as Wx)) : PE X (.Call (.Name x p) (e :: es) [] pos) (rE B (G.cs n) (.call f as []) Wx) := by
  have h' : (!star e && noStar es) = true := hs
  obtain ⟨h1, h2⟩ := (Bool.and_eq_true _ _).mp h'
  refine PE.imp (pe_callS F hr hg hm hk hb (E := fun σ => WE Wx σ) (fun σ => passAt tk σ) ha hd (star_ok (by simpa using h1)) (plain_ok h2)) fun σ H Q q => call_core q
theorem e_call0 {f k : Nat} {x : Str} {a : Addr} {fd : FuncData} {ps : List Str} {p : Pos} (F : FnOk X.prog X.w X.K X.mg X.base (L2.CX X.prog X.w) k a fd ps (spW B G n f)) (hr : Room k X.A) (hg : Gl X x) (hm : X.mg x = some (.ref a)) (hk : PySem.W.keepIn X.K (.ref a) = true) (hb : Binds X.K fd ps [])
    (tk : Takes X Wx) (hd : (x == ("__debug__" : Str)) = false) : PE X (.Call (.Name x p) [] [] pos) (rE B (G.cs n) (.call f [] []) Wx) := by
  refine ⟨fun pins s σ H Q I q => ?_⟩
  refine PySem.wpAny_Call_Name_kw (ld_glob I hg hm ?_ hd)
  have q1 := call_core q
  obtain ⟨w, h, env, r, s', l⟩ := q1
  have sp : spW B G n f [] H Q (fun cls d H' => Wx cls d σ H') := l.ok (Kp.refl _ _) r rfl
  exact PySem.W.callWith_K0 I.kIn hk (run_fnS (us := []) (E := fun σ => WE Wx σ) F hr hb (passAt tk σ) I .nil sp)
end

/-! ### the program's tables -/
inductive Gk where
  | fn (f : Nat) | int (i : Int) | str (s : Str) | cls (c n : Nat)
/-- a def of the text: where it stands, its text; its names; which names hold changeable lists (mv), whose items are such (mi); what it returns is such (mr) -/
structure Df where
  name : Str
  qual : Str
  pa : Arguments
  body : List Stmt
  sc : Scope
  ps : List Str
  N : List Str
  mv : List Str
  mi : List Str
  mr : Bool
/-- what is written: the defs, the module's names -/
structure Tx where
  defs : List Df
  gl : List (Str × Gk)
  /-- calls by keywords alone: the def, the names as written, where each parameter's value stands -/
  kw : List (Nat × List Str × List Nat)
  /-- built-in names that the module doesn't bind -/
  bl : List Str

/-! ### from text to terms -/
def dbg (x : Str) : Bool := x == ("__debug__" : Str) || x == ("__classdict__" : Str)
def ixOf (N : List Str) (x : Str) : Option Nat := match N with
  | [] => none
  | y :: r => if y = x then some 0 else (ixOf r x).map (· + 1)
theorem ixOf_ok : ∀ {N : List Str} {x : Str} {i : Nat}, ixOf N x = some i → N[i]? = some x
  | [], x, i, e => by cases e
  | y :: r, x, i, e => by
    unfold ixOf at e
    split at e
    · rename_i c
      cases e
      rw [c]; rfl
    · obtain ⟨j, e1, e2⟩ := map_some e
      subst e2
      simpa using ixOf_ok e1
def bopIn : Operator → Option Bop
  | .Add => some .add | .Sub => some .sub | .Mult => some .mul | .FloorDiv => some .fdiv | .Mod => some .mod | .Pow => some .pow
  | _ => none
theorem bopIn_ok {o : Operator} {b : Bop} (e : bopIn o = some b) : o = bopOf b := by
  cases o <;> first
    | (cases e; rfl)
    | cases e
def copIn : CmpOp → Cop
  | .Eq => .eq | .NotEq => .ne | .Lt => .lt | .LtE => .le | .Gt => .gt | .GtE => .ge | .Is => .isN | .IsNot => .isnN | .In => .inn | .NotIn => .nin
theorem copIn_ok (o : CmpOp) : copOf (copIn o) = o := by cases o <;> rfl
/-- the context of the text -/
structure Cc where
  N : List Str
  sc : Scope
  ow : Str → Bool
def visible (c : Cc) (x : Str) : Bool := match c.sc.names.lookup x with
  | some .local => true
  | some .cell => true
  | some .free => true
  | _ => false
def isGlob (c : Cc) (x : Str) : Bool := match c.sc.names.lookup x with
  | some .globalImplicit => true
  | _ => false
/-- a list of expressions -/
def cL (f : Expr → Option E) : List Expr → Option (List E)
  | [] => some []
  | e :: es => if star e then none else match f e with
    | none => none
    | some i => match cL f es with
      | none => none
      | some is => some (i :: is)
mutual
def cT (c : Cc) : Nat → Expr → Option T
  | 0, _ => none
  | k + 1, .Name x _ => match c.sc.names.lookup x with
    | some .local => (ixOf c.N x).map .nm
    | some .cell => if c.ow x then (ixOf c.N x).map .nm else none
    | _ => none
  | k + 1, .Tuple es _ _ => (cTs c k es).map .tp
  | _, _ => none
def cTs (c : Cc) : Nat → List Expr → Option (List T)
  | 0, _ => none
  | k + 1, [] => some []
  | k + 1, e :: es => if star e then none else match cT c k e with
    | none => none
    | some t => match cTs c k es with
      | none => none
      | some ts => some (t :: ts)
end
def ownOf (N : List Str) : List (Str × NameKind) → List (Str × Nat)
  | [] => []
  | (x, k) :: r => match k with
    | .local => (match ixOf N x with
      | some i => (x, i) :: ownOf N r
      | none => ownOf N r)
    | .cell => (match ixOf N x with
      | some i => (x, i) :: ownOf N r
      | none => ownOf N r)
    | _ => ownOf N r
def Cc.blk (c : Cc) (scope : Scope) : Cc := ⟨c.N, relS scope c.sc, fun x => scope.names.lookup x == some .cell⟩
/-- a built-in function by its name -/
def primOf (m : Bool) (x : Str) : Option P :=
  if x = "len" then some .len else if x = "abs" then some .abs else if x = "int" then some .int else if x = "tuple" then some .tuple else if x = "list" then some (.list m)
  else if x = "all" then some .all else if x = "any" then some .any else none
def bmOf (x : Str) (n : Nat) : Option P :=
  if x = "append" then (if n = 1 then some .append else none) else if x = "pop" then (if n = 1 then some .popAt else none) else none
theorem primOf_ok {m : Bool} {x : Str} {p : P} (e : primOf m x = some p) : ∃ f, pval p = some (x, f) := by
  unfold primOf at e
  repeat' split at e
  all_goals first
    | (cases e; done)
    | (rename_i c; cases e; subst c; exact ⟨_, rfl⟩)
    | (rename_i _ c; cases e; subst c; exact ⟨_, rfl⟩)
    | skip
theorem bmOf_ok {x : Str} {n : Nat} {p : P} (e : bmOf x n = some p) : ∃ T id, bmval p = some (T, x, id) ∧ 1 ≤ n := by
  unfold bmOf at e
  repeat' split at e
  all_goals first
    | (cases e; done)
    | (rename_i c d; cases e; subst c; subst d; exact ⟨_, _, rfl, Nat.le_refl 1⟩)
    | skip
  all_goals (rename_i c d; cases e; subst c; exact ⟨_, _, rfl, by omega⟩)
def plainIx : Expr → Bool
  | .Slice _ _ _ _ => false
  | _ => true
theorem plainIx_ok {b : Expr} (h : plainIx b = true) : PlainIx b := by
  cases b <;> first
    | (intro _ _; rfl)
    | cases h
end G
end
section
set_option Elab.async false
set_option linter.all false
set_option maxRecDepth 100000
/-! GA: isinstance; an error's field; slices; calls by keywords -/
namespace G
open PySem L2
open PySem.W (Frag)

/-! ### what the written part says of the errors' classes -/
/-- the errors' fields -/
def fN : List Str := ["folder", "parent", "number"]
structure ExC (K : Frag) (C : Addr) : Prop where
  cl : (PySem.W.clsIn K C).isSome = true
  ga : PySem.W.findIn K (.ref C) "__getattribute__" = some (some (.builtin "BaseException.__getattribute__"))
  gg : PySem.W.findIn K (.ref C) "__getattr__" = some none
  be : PySem.W.subIn K (.ref C) (.type "BaseException") = some true
  hd : PySem.W.hasDictIn K C = true
  ca : PySem.W.findIn K (.ref C) "__class__" = some (some (.builtin "object.__class__"))
  gs : PySem.W.specialIn K (.builtin "object.__class__") "__get__" = some (some (.builtin "getset_descriptor.__get__"))
  tk : PySem.W.takesIn K (.builtin "object.__class__") = some true
  ob : PySem.W.mroIn K C (.type "object") = some true
/-- of all of them; ex: their built-in classes, nm: their fields, by number -/
structure ExF (K : Frag) (xc : Nat → Addr) (ex : Nat → Option (List String)) : Prop where
  ec : ∀ c l, ex c = some l → ExC K (xc c)
  kb : ∀ c l n, ex c = some l → xN.contains n = true → PySem.W.kitOne K (.ref (xc c)) (.type n) = some (l.contains n)
  ko : ∀ c l d m, ex c = some l → ex d = some m → PySem.W.kitOne K (.ref (xc c)) (.ref (xc d)) = some (c == d)
  kn : ∀ d m, ex d = some m → PySem.W.kitOne K (.type "NoneType") (.ref (xc d)) = some false
  em : ∀ c l d m, ex c = some l → ex d = some m → PySem.W.exmOne K (.ref (xc c)) (.ref (xc d)) = some (c == d)
  nf : ∀ c l f, ex c = some l → fN.contains f = true → PySem.W.findIn K (.ref (xc c)) f = some none

section
variable {X : Cx} {B : Bx} {c : Cs} {Wx : WX} {pos : Pos} {H : Hp} {w : Wd} {h : Hw}
/-! ### isinstance -/
/-- v is asked as a thing of type t -/
def IsKit (X : Cx) (H : Hp) (v : V) (t : Value) : Prop := ∀ (pins : List (Addr × Obj)) (σ : St) (s : Shared) (u : Value), Inv X pins σ H s → RelV v u → ∃ P : Heap → Prop, PySem.W.KitX X.K u t P ∧ P s.heap ∧ u ≠ .builtin "__main__.__loader__#opaque"
theorem isKit_of {v : V} {t : Value} (ty : TyX X.K H v t) : IsKit X H v t := fun pins σ s u I r => kit_of I r ty
theorem xo_at {a C : Addr} {d : Option Addr} {pins : List (Addr × Obj)} {σ : St} {s : Shared} (I : Inv X pins σ H s) (e : H a = some (XO a C d)) : ∃ (oe : Obj) (vs : Array Value), s.heap.get? a = some oe ∧ Zc (.ref C) d oe ∧ oe.data = .fields vs := by
  have x : ObjOk X.prog X.w H s.heap a (.ext fun h => ∃ (oe : Obj) (vs : Array Value), h.get? a = some oe ∧ Zc (.ref C) d oe ∧ oe.data = .fields vs) := I.hok a _ e
  exact x.1
/-- the object as the library's rules want it -/
theorem xo_inst {a C : Addr} {d : Option Addr} {fs : List (Str × W)} {pins : List (Addr × Obj)} {σ : St} {s : Shared} (I : Inv X pins σ H s) (e : H a = some (XO a C d)) (f : (fs = [] ∧ d = none) ∨ ∃ dd fv, d = some dd ∧ H dd = some (.xd fv) ∧ RFs B H w fs fv) :
    ∃ (oe : Obj) (od : Option Obj), PySem.W.InstAt s.heap a oe C od := by
  obtain ⟨oe, vs, h1, h2, h3⟩ := xo_at I e
  obtain ⟨oc, od, dt, sl⟩ := oe
  obtain ⟨z1, z2⟩ := h2
  dsimp only at z1 z2 h3
  subst z1 h3
  rcases f with ⟨_, rfl⟩ | ⟨dd, fv, rfl, f2, _⟩
  · subst z2
    exact ⟨_, none, h1, rfl, rfl, trivial⟩
  · subst z2
    have hx : ObjOk X.prog X.w H s.heap dd (.xd fv) := I.hok dd _ f2
    obtain ⟨mA, hns, hr⟩ := hx
    obtain ⟨o, _, _, ho, _⟩ := hns
    exact ⟨_, some o, h1, rfl, rfl, ho⟩
theorem isKit_exc {a C : Addr} {d : Option Addr} {fs : List (Str × W)} (T : ExC X.K C) (e : H a = some (XO a C d)) (f : (fs = [] ∧ d = none) ∨ ∃ dd fv, d = some dd ∧ H dd = some (.xd fv) ∧ RFs B H w fs fv) : IsKit X H (.ref a) (.ref C) := fun pins σ s u I r => by
  obtain ⟨oe, od, J⟩ := xo_inst I e f
  cases (show u = Value.ref a from r)
  exact ⟨_, PySem.W.kitx_exc T.cl T.ga T.gg T.be T.ca T.gs T.tk T.ob, J, fun z => nomatch z⟩
def kindW (h : Hw) (w : W) : Option String := match w with
  | .non => some "NoneType" | .bl _ => some "bool" | .int _ => some "int" | .str _ => some "str" | .tup _ => some "tuple" | .lst _ => some "list" | .dic _ => some "dict"
  | .ref k => match h[k]? with
    | some (.lst _) => some "list"
    | some (.frz _) => some "list"
    | some (.dic _) => some "dict"
    | _ => none
  | _ => none
theorem kind_tab : ∀ k ∈ ["NoneType", "bool", "int", "str", "tuple", "list", "dict"], ∀ n ∈ vN, kitB k n = some (k == n || (k == "bool" && n == "int")) := by decide +kernel
theorem kind_in {h : Hw} {x : W} {k : String} (e : kindW h x = some k) : k ∈ ["NoneType", "bool", "int", "str", "tuple", "list", "dict"] := by
  unfold kindW at e
  repeat' split at e
  all_goals first
    | (cases e; done)
    | (cases e; decide)
theorem kind_blt {h : Hw} {x : W} {n : String} {b : Bool} (hn : n ∈ vN) (e : isBlt h x n = some b) : ∃ k, kindW h x = some k ∧ b = (k == n || (k == "bool" && n == "int")) := by
  have fin : ∀ k ∈ ["NoneType", "bool", "int", "str", "tuple", "list", "dict"], ∀ n ∈ vN, (n == k) = (k == n) ∧ (k = "bool" → (n == "bool" || n == "int") = (k == n || (k == "bool" && n == "int"))) ∧ (k ≠ "bool" → (n == k) = (k == n || (k == "bool" && n == "int"))) := by decide +kernel
  cases x with
  | non => cases e; exact ⟨_, rfl, (fin "NoneType" (by decide) n hn).2.2 (by decide)⟩
  | bl _ => cases e; exact ⟨_, rfl, (fin "bool" (by decide) n hn).2.1 rfl⟩
  | int _ => cases e; exact ⟨_, rfl, (fin "int" (by decide) n hn).2.2 (by decide)⟩
  | str _ => cases e; exact ⟨_, rfl, (fin "str" (by decide) n hn).2.2 (by decide)⟩
  | tup _ => cases e; exact ⟨_, rfl, (fin "tuple" (by decide) n hn).2.2 (by decide)⟩
  | lst _ => cases e; exact ⟨_, rfl, (fin "list" (by decide) n hn).2.2 (by decide)⟩
  | dic _ => cases e; exact ⟨_, rfl, (fin "dict" (by decide) n hn).2.2 (by decide)⟩
  | exc _ _ => cases e
  | ref k =>
    have e' : (match h[k]? with
      | some (.lst _) => some (n == "list")
      | some (.frz _) => some (n == "list")
      | some (.dic _) => some (n == "dict")
      | _ => none) = some b := e
    unfold kindW
    cases hk : h[k]? with
    | none => rw [hk] at e'; cases e'
    | some o =>
      rw [hk] at e'
      cases o with
      | lst _ => cases e'; exact ⟨_, by simp only [hk], (fin "list" (by decide) n hn).2.2 (by decide)⟩
      | frz _ => cases e'; exact ⟨_, by simp only [hk], (fin "list" (by decide) n hn).2.2 (by decide)⟩
      | dic _ => cases e'; exact ⟨_, by simp only [hk], (fin "dict" (by decide) n hn).2.2 (by decide)⟩
      | ins _ _ => cases e'
theorem kind_ok (hK : B.K = X.K) {x : W} {v : V} {k : String} (r : RH B H w h) (q : RV B H w x v) (e : kindW h x = some k) : IsKit X H v (.type k) := by
  cases x with
  | non => cases e; cases q; exact isKit_of (.base .non)
  | bl b => cases e; cases q; exact isKit_of (.base (.bl b))
  | int b => cases e; cases q; exact isKit_of (.base (.int b))
  | str b => cases e; cases q; exact isKit_of (.base (.str b))
  | tup xs =>
    cases e
    obtain ⟨a, vs, rfl, e2, _⟩ := q
    rcases e2 with e2 | ⟨o, its, n, e2, e3, _⟩
    · exact isKit_of (.base (.tup e2))
    · rw [hK] at e2
      exact isKit_of (.kTuple e2 e3)
  | lst xs =>
    cases e
    obtain ⟨a, vs, rfl, _, e2, _⟩ := q
    exact isKit_of (.base (.lst e2))
  | dic xs =>
    cases e
    obtain ⟨a, vs, rfl, _, e2, _⟩ := q
    exact isKit_of (.base (.dK e2))
  | exc _ _ => cases e
  | ref n =>
    obtain ⟨a, rfl, ha⟩ := q
    have e' : (match h[n]? with
      | some (.lst _) => some "list"
      | some (.frz _) => some "list"
      | some (.dic _) => some "dict"
      | _ => none) = some k := e
    cases hn : h[n]? with
    | none => rw [hn] at e'; cases e'
    | some o =>
      have ro := r.ro n o a hn ha
      rw [hn] at e'
      cases o with
      | lst ys => cases e'; obtain ⟨vs, e3, _⟩ := ro; exact isKit_of (.base (.lst e3))
      | frz ys => cases e'; obtain ⟨u, vs, e3, _⟩ := ro; exact isKit_of (.base (.frz e3))
      | dic ys => cases e'; obtain ⟨kv, e3, _⟩ := ro; exact isKit_of (.base (.dK e3))
      | ins _ _ => cases e'
/-- a class as a value -/
def clV (B : Bx) : Cl → V
  | .blt n => .ty n
  | .own c => .ref (B.xc c)
def clU (B : Bx) : Cl → Value
  | .blt n => .type n
  | .own c => .ref (B.xc c)
theorem cls_pair (B : Bx) : ∀ cs : List Cl, Paired ClsV (cs.map (clV B)) (cs.map (clU B))
  | [] => .nil
  | .blt n :: r => .cons (.ty n) (cls_pair B r)
  | .own n :: r => .cons (.own _) (cls_pair B r)
theorem kitAny_step {K : Frag} {t c : Value} {cs : List Value} {b r : Bool} (h : PySem.W.kitOne K t c = some b) (e : (if b then some true else PySem.W.kitAny K t cs) = some r) : PySem.W.kitAny K t (c :: cs) = some r := by
  unfold PySem.W.kitAny
  rw [h]
  cases b <;> exact e
theorem isi_blt {K : Frag} {ex : Nat → Option (List String)} {h : Hw} {x : W} {k : String} (hB : B.K = K) (F : ExF K B.xc ex) (hk : kindW h x = some k) : ∀ {cs : List Cl} {b : Bool}, isiW ex h x cs = some b → PySem.W.kitAny K (.type k) (cs.map (clU B)) = some b
  | [], b, e => by cases e; rfl
  | .blt n :: r, b, e => by
    have e2 : (if vN.contains n then (match isBlt h x n with
        | none => none
        | some true => some true
        | some false => isiW ex h x r) else none) = some b := by
      unfold isiW at e
      cases x with
      | exc _ _ => cases hk
      | _ => exact e
    split at e2
    · rename_i hn
      have hn : n ∈ vN := List.contains_iff_mem.mp hn
      cases hb : isBlt h x n with
      | none => rw [hb] at e2; cases e2
      | some y =>
        rw [hb] at e2
        obtain ⟨k', ek, ey⟩ := kind_blt hn hb
        rw [hk] at ek
        cases ek
        refine kitAny_step (b := y) (kit_ty (by rw [kind_tab k (kind_in hk) n hn, ey])) ?_
        cases y with
        | true => exact e2
        | false => exact isi_blt hB F hk e2
    · cases e2
  | .own c :: r, b, e => by
    cases x with
    | non =>
      cases hk
      have e : (match ex c with
        | some _ => isiW ex h .non r
        | none => none) = some b := e
      cases hc : ex c with
      | none => rw [hc] at e; cases e
      | some m =>
        rw [hc] at e
        exact kitAny_step (b := false) (F.kn c m hc) (isi_blt hB F rfl e)
    | exc _ _ => cases hk
    | _ => cases e
theorem isi_exc {K : Frag} {ex : Nat → Option (List String)} {h : Hw} {d : Nat} {fs : List (Str × W)} {l : List String} (F : ExF K B.xc ex) (hd : ex d = some l) : ∀ {cs : List Cl} {b : Bool}, isiW ex h (.exc d fs) cs = some b → PySem.W.kitAny K (.ref (B.xc d)) (cs.map (clU B)) = some b
  | [], b, e => by cases e; rfl
  | .blt n :: r, b, e => by
    have e : (match ex d with
        | some l => if xN.contains n then (if l.contains n then some true else isiW ex h (.exc d fs) r) else none
        | none => none) = some b := e
    rw [hd] at e
    dsimp only at e
    split at e
    · rename_i hn
      refine kitAny_step (F.kb d l n hd hn) ?_
      split at e
      · rename_i hl; rw [hl]; exact e
      · rename_i hl
        rw [Bool.not_eq_true] at hl
        rw [hl]
        exact isi_exc F hd e
    · cases e
  | .own c :: r, b, e => by
    have e : (match ex d, ex c with
      | some _, some _ => if d == c then some true else isiW ex h (.exc d fs) r
      | _, _ => none) = some b := e
    rw [hd] at e
    cases hc : ex c with
    | none => rw [hc] at e; cases e
    | some m =>
      rw [hc] at e
      dsimp only at e
      refine kitAny_step (F.ko d l c m hd hc) ?_
      split at e
      · rename_i hl; rw [hl]; exact e
      · rename_i hl
        rw [Bool.not_eq_true] at hl
        rw [hl]
        exact isi_exc F hd e
/-- what isinstance is asked, and its answer -/
theorem isi_ok {ex : Nat → Option (List String)} (hK : B.K = X.K) (F : ExF X.K B.xc ex) {x : W} {v : V} {cs : List Cl} {b : Bool} (hne : cs ≠ []) (r : RH B H w h) (q : RV B H w x v) (e : isiW ex h x cs = some b) :
    ∃ t, IsKit X H v t ∧ PySem.W.kitAny X.K t (cs.map (clU B)) = some b := by
  cases hk : kindW h x with
  | some k => exact ⟨_, kind_ok hK r q hk, isi_blt hK F hk e⟩
  | none =>
    cases x with
    | exc d fs =>
      have hd : ∃ l, ex d = some l := by
        cases cs with
        | nil => exact absurd rfl hne
        | cons c r =>
          cases hd : ex d with
          | some l => exact ⟨l, rfl⟩
          | none =>
            cases c with
            | blt n =>
              have e : (match ex d with
                | some l => if xN.contains n then (if l.contains n then some true else isiW ex h (.exc d fs) r) else none
                | none => none) = some b := e
              rw [hd] at e; cases e
            | own n =>
              have e : (match ex d, ex n with
                | some _, some _ => if d == n then some true else isiW ex h (.exc d fs) r
                | _, _ => none) = some b := e
              rw [hd] at e
              cases ex n <;> cases e
      obtain ⟨l, hd⟩ := hd
      obtain ⟨a, dd, rfl, e1, e2⟩ := q
      exact ⟨_, isKit_exc (F.ec d l hd) e1 e2, isi_exc F hd e⟩
    | ref n =>
      exfalso
      cases cs with
      | nil => exact hne rfl
      | cons c r' =>
        cases c with
        | own m => cases e
        | blt m =>
          have e : (if vN.contains m then (match isBlt h (.ref n) m with
            | none => none
            | some true => some true
            | some false => isiW ex h (.ref n) r') else none) = some b := e
          split at e
          · rename_i hm
            cases hb : isBlt h (.ref n) m with
            | none => rw [hb] at e; cases e
            | some y =>
              obtain ⟨k, ek, _⟩ := kind_blt (List.contains_iff_mem.mp hm) hb
              rw [hk] at ek; cases ek
          · cases e
    | _ => cases hk
/-- is asked for one class -/
theorem sC_isi1 {v : V} {t : Value} {cl : Cl} {b : Bool} {Q : VK} (k : IsKit X H v t) (e : PySem.W.kitAny X.K t [clU B cl] = some b) (q : Q (.bl b) H) : sC X (.builtin "isinstance") [v, clV B cl] H Q := fun pins s σ us I r => by
  obtain ⟨u1, u2, rfl, r1, r2⟩ := vals2 r
  obtain ⟨P, Z, p, hx⟩ := k pins σ s u1 I r1
  have e2 : u2 = clU B cl := by
    cases cl with
    | blt n => exact r2
    | own n => exact r2
  subst e2
  have e3 : PySem.W.kitOne X.K t (clU B cl) = some b := by
    unfold PySem.W.kitAny at e
    cases z : PySem.W.kitOne X.K t (clU B cl) with
    | none => rw [z] at e; cases e
    | some y =>
      rw [z] at e
      cases y with
      | true => exact e
      | false => exact e
  exact PySem.W.kia_one Z I.kIn p e3 hx fun tk => ⟨.bl b, H, I.tok tk, rfl, q⟩
/-- for several, a tuple of them at tp -/
theorem sC_isiT {v : V} {t : Value} {cs : List Cl} {b : Bool} {Q : VK} {tp : Addr} (k : IsKit X H v t) (hT : H tp = some (.tup (cs.map (clV B)))) (e : PySem.W.kitAny X.K t (cs.map (clU B)) = some b) (q : Q (.bl b) H) : sC X (.builtin "isinstance") [v, .ref tp] H Q := fun pins s σ us I r => by
  obtain ⟨u1, u2, rfl, r1, r2⟩ := vals2 r
  cases (show u2 = Value.ref tp from r2)
  obtain ⟨P, Z, p, hx⟩ := k pins σ s u1 I r1
  obtain ⟨_, its, rv, o, h1, h2, n, h3⟩ := (show ObjOk X.prog X.w H s.heap tp (.tup (cs.map (clV B))) from I.hok tp _ hT)
  have e3 := ClsV.all (cls_pair B cs) rv
  subst e3
  obtain ⟨oc, od, dt, sl⟩ := o
  simp only at h2 h3
  subst h2 h3
  exact PySem.W.kia_tup Z I.kIn p h1 e hx fun tk => ⟨.bl b, H, I.tok tk, rfl, q⟩
theorem Lands.of_map {β : Type} {o : Option Bool} {R : Hp → Wd → W → β → Prop} {Q : β → Hp → Prop} {Xk : XK} (l : Lands B w H (Out.of (o.map W.bl) h) R Q Xk) : ∃ b, o = some b ∧ Lands B w H (.ok (W.bl b) h) R Q Xk := by
  cases o with
  | none => exact False.elim l
  | some b => exact ⟨b, rfl, l⟩
theorem e_isi1 {cl : Cl} {a : Expr} {ia : E} {p : Pos} {ce : Expr} (hK : B.K = X.K) (F : ExF X.K B.xc c.ex) (hg : Gl X "isinstance") (hm : X.mg "isinstance" = none) (ha : PE X a (rE B c ia Wx)) (hs : star a = false) (hc : PE X ce (tC (clV B cl))) (hs2 : star ce = false) :
    PE X (.Call (.Name "isinstance" p) [a, ce] [] pos) (rE B c (.isi [cl] ia) Wx) := by
  refine PE.imp (pe_callB sC_ok hg hm PyProof.Rows.boot_isinstance (pa_cons ha (pa_cons hc pa_nil (star_ok hs2)) (star_ok hs)) (by decide +kernel) (by decide +kernel) (star_ok hs) (plain_ok (by simp [noStar, hs2]))) fun σ H Q q => ?_
  refine (rE_one (f := fun env x h1 => Out.of ((isiW c.ex h1 x [cl]).map W.bl) h1) (R := RVr B) q).imp fun v H1 ⟨w1, h1, env, x, r1, s1, qx, l1⟩ => ?_
  obtain ⟨b, e, l2⟩ := Lands.of_map l1
  obtain ⟨t, k, e2⟩ := isi_ok hK F (by simp) r1 qx e
  exact sC_isi1 k e2 (l2.here r1 rfl)
/-- the classes' names -/
inductive ClE (X : Cx) (B : Bx) : List Expr → List Cl → Prop where
  | nil : ClE X B [] []
  | cons {e : Expr} {es : List Expr} {c : Cl} {cs : List Cl} (h : PE X e (tC (clV B c))) (hs : star e = false) (r : ClE X B es cs) : ClE X B (e :: es) (c :: cs)
theorem ClE.pa : ∀ {es : List Expr} {cs : List Cl}, ClE X B es cs → PA X es (fun _ H Q => Q (cs.map (clV B)) H) ∧ noStar es = true
  | [], [], .nil => ⟨pa_nil, rfl⟩
  | _ :: _, _ :: _, .cons h hs r => ⟨PA.imp (pa_cons h r.pa.1 (star_ok hs)) fun σ H Q q => q, by show (!star _ && noStar _) = true; rw [hs, r.pa.2]; rfl⟩
theorem e_isiT {cs : List Cl} {a : Expr} {ia : E} {p tpos : Pos} {k : Nat} {ces : List Expr} (hK : B.K = X.K) (F : ExF X.K B.xc c.ex) (hg : Gl X "isinstance") (hm : X.mg "isinstance" = none) (ha : PE X a (rE B c ia Wx)) (hs : star a = false) (hc : ClE X B ces cs) (hne : cs ≠ []) (hl : cs.length ≤ 1000) :
    PE X (.Call (.Name "isinstance" p) [a, .Tuple ces k tpos] [] pos) (rE B c (.isi cs ia) Wx) := by
  refine PE.imp (pe_callB sC_ok hg hm PyProof.Rows.boot_isinstance (pa_cons ha (pa_cons (pe_tup hc.pa.1) pa_nil (star_ok rfl)) (star_ok hs)) (by decide +kernel) (by decide +kernel) (star_ok hs) (plain_ok rfl)) fun σ H Q q => ?_
  refine (rE_one (f := fun env x h1 => Out.of ((isiW c.ex h1 x cs).map W.bl) h1) (R := RVr B) q).imp fun v H1 ⟨w1, h1, env, x, r1, s1, qx, l1⟩ => ?_
  refine ⟨by rw [List.length_map, sizeLine_eq]; omega, fun tp htp => ?_⟩
  obtain ⟨b, e, l2⟩ := Lands.of_map l1
  have k1 := Kp.upd0 (w := w1) (o := .tup (cs.map (clV B))) htp
  have r2 := r1.upd0 (o := .tup (cs.map (clV B))) htp
  obtain ⟨t, kk, e2⟩ := isi_ok hK F hne r2 (qx.mono k1.le r1 x v) e
  exact sC_isiT kk upd_same e2 (l2.ok k1 r2 rfl)

/-! ### an error's field -/
theorem e_fld {e : Expr} {ie : E} {f : Str} (hK : B.K = X.K) (F : ExF X.K B.xc c.ex) (he : PE X e (rE B c ie Wx)) (hb : bareCall e = false) (hf : fN.contains f = true) :
    PE X (.Attribute e f pos) (rE B c (.fldX ie f) Wx) := by
  refine ⟨fun pins s σ H Q I q => ?_⟩
  refine attr_of (base_ok hb) (thn (he.run pins s σ H _ I (rE_one (f := fun env x h1 => match x with
    | .exc d fs => (match c.ex d with
      | some _ => Out.of (fs.lookup f) h1
      | none => .stuck)
    | _ => .stuck) q)) fun u s1 ⟨v, H1, I1, rx, w1, h1, env, x, r1, s1', qx, l1⟩ => ?_)
  cases x with
  | exc d fs =>
    cases hd : c.ex d with
    | none => simp only [hd] at l1; exact False.elim l1
    | some l =>
      simp only [hd] at l1
      obtain ⟨y, ey, l2⟩ := Lands.of_some l1
      obtain ⟨a, dd, rfl, e1, e2⟩ := qx
      cases (show u = Value.ref a from rx)
      have T := F.ec d l hd
      rcases e2 with ⟨rfl, _⟩ | ⟨da, fv, rfl, ea, qf⟩
      · cases ey
      · obtain ⟨z, ez, qz⟩ := qf.lookup ey
        obtain ⟨oe, vs, ha, hz, hdt⟩ := xo_at I1 e1
        have hx : ObjOk X.prog X.w H1 s1.heap da (.xd fv) := I1.hok da _ ea
        obtain ⟨mA, hns, hr⟩ := hx
        obtain ⟨od, ho, hl⟩ := lookIn_ns hns
        obtain ⟨u, hu, ru⟩ := RelO.some_of (v := z) (o := mA f) (by rw [← ez]; exact hr f)
        have J : PySem.W.InstAt s1.heap a oe (B.xc d) (some od) := ⟨ha, hz.1, by unfold PySem.W.notCls; rw [hdt] <;> rfl, by rw [hz.2]; exact ho⟩
        exact HandSPX.exc_get I1.kIn J T.ga T.gg T.be (PySem.W.findObj_own T.hd (F.nf d l f hd hf) rfl (by rw [hl, hu])) (handed_of ru) ⟨z, H1, I1.tok _, ru, l2.here r1 qz⟩
  | _ => exact False.elim l1

/-! ### slices -/
theorem RVs.take : ∀ (n : Nat) {xs : List W} {vs : List V}, RVs B H w xs vs → RVs B H w (xs.take n) (vs.take n)
  | 0, _, _, _ => by rw [List.take_zero, List.take_zero]; exact rfl
  | _ + 1, [], vs, q => by cases (show vs = [] from q); exact rfl
  | n + 1, x :: xs, vs, ⟨v, t, e, q1, q2⟩ => by rw [e]; exact ⟨v, _, rfl, q1, RVs.take n q2⟩
theorem RVs.drop : ∀ (n : Nat) {xs : List W} {vs : List V}, RVs B H w xs vs → RVs B H w (xs.drop n) (vs.drop n)
  | 0, _, _, q => q
  | _ + 1, [], vs, q => by cases (show vs = [] from q); exact rfl
  | n + 1, x :: xs, vs, ⟨v, t, e, q1, q2⟩ => by rw [e]; exact RVs.drop n q2
def sS (X : Cx) : V → Option Int → Option Int → Hp → VK → Prop := fun x lo hi H Q => ∀ (pins : List (Addr × Obj)) (s : Shared) (σ : St) (v vl vu : Value) (sl : Addr), Inv X pins σ H s → RelV x v → s.heap.IsSliceOf sl vl vu .none → IsPart vl lo → IsPart vu hi →
  ∃ T id, typeLookup (.type T) "__getitem__" = pure (some (.builtin id)) ∧ s.TypeIs v T ∧ wpAny (model X.prog X.w) X.A (getItem v (.ref sl)) (EP X pins σ Q) X.xe s
theorem sS_ok : SlR X (sS X) := fun pins s σ H x v vl vu lo hi sl Q I rx hs pl pu q => q pins s σ v vl vu sl I rx hs pl pu
theorem SlR.s {r : V → Option Int → Option Int → Hp → VK → Prop} (p : SlR X r) {x : V} {lo hi : Option Int} {Q : VK} (q : r x lo hi H Q) : sS X x lo hi H Q := fun pins s σ v vl vu sl I rx hs pl pu => p pins s σ H x v vl vu lo hi sl Q I rx hs pl pu q
abbrev rO (B : Bx) (c : Cs) (es : List E) (Wx : WX) : TO := rG B (fun env h => (evL c es env h).bind fun ls h2 => Out.of (intO ls) h2) REq Wx
theorem PO.imp {e : Option Expr} {t t' : TO} (p : PO X e t) (f : ∀ σ H Q, t' σ H Q → t σ H Q) : PO X e t' := ⟨fun pins s σ H Q I q => p.run pins s σ H Q I (f σ H Q q)⟩
theorem o_none : PO X none (rO B c [] Wx) := PO.imp po_none fun σ H Q ⟨w, h, env, r, s, l⟩ => by
  have l : Lands B w H (.ok none h) REq Q _ := l
  exact l.ok (Kp.refl _ _) r rfl
theorem o_some {e : Expr} {ie : E} (he : PE X e (rE B c ie Wx)) : PO X (some e) (rO B c [ie] Wx) := by
  refine PO.imp (po_some he) fun σ H Q q => ?_
  obtain ⟨w, h, env, r, s, l⟩ := q
  refine ⟨w, h, env, r, s, ?_⟩
  unfold evL at l
  dsimp only at l
  cases e : evE c ie env h with
  | stuck => rw [e] at l; exact False.elim l
  | exc k fs h' => rw [e] at l; exact l
  | ok x h1 =>
    rw [e] at l
    have l : Lands B w H (Out.of (intO [x]) h1) REq Q _ := l
    intro w1 H1 v k1 r1 qv
    cases x with
    | int i =>
      cases qv
      exact ⟨i, rfl, l.ok k1 r1 rfl⟩
    | _ => exact False.elim l
theorem e_slc {m : Bool} {e : Expr} {lo hi : Option Expr} {ie : E} {il ih : List E} {p2 : Pos} (hK : B.K = X.K) (he : PE X e (rE B c ie Wx)) (hl : PO X lo (rO B c il Wx)) (hh : PO X hi (rO B c ih Wx)) : PE X (.Subscript e (.Slice lo hi none p2) pos) (rE B c (.slc m ie il ih) Wx) := by
  refine PE.imp (pe_slice sS_ok he hl hh) fun σ H Q q => ?_
  refine (rE_one (f := fun env x h1 => ((evL c il env h1).bind fun ls h2 => Out.of (intO ls) h2).bind fun l h2 => ((evL c ih env h2).bind fun us h3 => Out.of (intO us) h3).bind fun u h3 => slcW m x l u h3) (R := RVr B) q).imp fun v H1 ⟨w1, h1, env, x, r1, s1, qx, l1⟩ => ?_
  refine ⟨w1, h1, env, r1, s1, (Lands.bind (R1 := REq) l1).imp fun l H2 ⟨w2, h2, l', k2, r2, ql, l2⟩ => ?_⟩
  cases (show l' = l from ql)
  have s2 := s1.mono k2 r1
  refine ⟨w2, h2, env, r2, s2, (Lands.bind (R1 := REq) l2).imp fun u H3 ⟨w3, h3, u', k3, r3, qu, l3⟩ => ?_⟩
  cases (show u' = u from qu)
  have qx := (qx.mono k2.le r1 x v).mono k3.le r2 x v
  have cut : ∀ {xs : List W} {vs : List V}, RVs B H3 w3 xs vs → RVs B H3 w3 (cutW xs l u) (cutV vs l u) := fun {xs vs} q => by
    unfold cutW cutV
    rw [q.length]
    exact RVs.take _ (RVs.drop _ q)
  have lst : ∀ {xs : List W}, getL h3 x = some xs → Lands B w3 H3 (mkL m (cutW xs l u) h3) (RVr B) Q (fun cls d H' => Wx cls d σ H') → sS X v l u H3 Q := fun {xs} ex l4 => by
    obtain ⟨a, vs, rfl, hp, qv⟩ := getL_ok r3 qx ex
    exact SlR.s sl_list ⟨a, vs, rfl, hK ▸ hp, (mkL_ok l4 r3 (cut qv)).2⟩
  unfold slcW at l3
  cases x with
  | str z =>
    cases qx
    dsimp only at l3
    split at l3
    · rename_i hz
      exact SlR.s sl_str ⟨z, rfl, sz_of hz, l3.here r3 rfl⟩
    · exact False.elim l3
  | tup xs =>
    obtain ⟨a, vs, rfl, hp, qv⟩ := id qx
    refine SlR.s sl_tupA ⟨a, vs, rfl, hK ▸ hp.sq, fun ⟨e1, e2⟩ => ?_, fun _ p hp => ?_⟩
    · refine l3.here r3 ?_
      have e3 : cutW xs l u = xs := by
        unfold cutW
        rw [qv.length, e1, e2]
        simp [← qv.length]
      rw [e3]; exact qx
    · refine l3.ok (Kp.upd0 hp) (r3.upd0 hp) ⟨p, _, rfl, .inl upd_same, (cut qv).mono (Kp.upd0 hp).le r3 _ _⟩
  | non => cases z : getL h3 W.non with
    | none => simp only [z] at l3; exact False.elim l3
    | some xs => simp only [z] at l3; exact lst z l3
  | bl b => cases z : getL h3 (W.bl b) with
    | none => simp only [z] at l3; exact False.elim l3
    | some xs => simp only [z] at l3; exact lst z l3
  | int b => cases z : getL h3 (W.int b) with
    | none => simp only [z] at l3; exact False.elim l3
    | some xs => simp only [z] at l3; exact lst z l3
  | lst b => cases z : getL h3 (W.lst b) with
    | none => simp only [z] at l3; exact False.elim l3
    | some xs => simp only [z] at l3; exact lst z l3
  | dic b => cases z : getL h3 (W.dic b) with
    | none => simp only [z] at l3; exact False.elim l3
    | some xs => simp only [z] at l3; exact lst z l3
  | ref b => cases z : getL h3 (W.ref b) with
    | none => simp only [z] at l3; exact False.elim l3
    | some xs => simp only [z] at l3; exact lst z l3
  | exc b b2 => cases z : getL h3 (W.exc b b2) with
    | none => simp only [z] at l3; exact False.elim l3
    | some xs => simp only [z] at l3; exact lst z l3

/-! ### calls by keywords -/
def pickL {α : Type} (perm : List Nat) (l : List α) : Option (List α) := perm.mapM fun i => l[i]?
/-- what a call by keywords alone binds: ks the names as they are written, perm where each parameter's value stands among them -/
structure KbOk (K : Frag) (fd : FuncData) (ps ks : List Str) (perm : List Nat) : Prop where
  to : ∀ (s : Shared) (ws : List Value), K.In s.heap → ws.length = ks.length → ∃ xs, pickL perm ws = some xs ∧ BindsTo s fd ⟨[], ks.zip ws⟩ (ps.zip xs)
theorem pick_vals {α β : Type} {R : α → β → Prop} {vs : List α} {us : List β} (hl : vs.length = us.length) (h : ∀ (i : Nat) v u, vs[i]? = some v → us[i]? = some u → R v u) : ∀ {perm : List Nat} {xs : List α}, pickL perm vs = some xs → ∃ ys, pickL perm us = some ys ∧ Paired R xs ys
  | [], xs, e => by
    unfold pickL at e ⊢
    rw [List.mapM_nil] at e
    cases e
    exact ⟨[], by rw [List.mapM_nil]; rfl, .nil⟩
  | i :: r, xs, e => by
    unfold pickL at e ⊢
    rw [List.mapM_cons] at e ⊢
    cases e1 : vs[i]? with
    | none => rw [e1] at e; cases e
    | some v =>
      rw [e1] at e
      cases e2 : r.mapM (fun i => vs[i]?) with
      | none => rw [e2] at e; cases e
      | some ts =>
        rw [e2] at e
        cases e
        obtain ⟨ys, e3, p⟩ := pick_vals hl h (perm := r) (xs := ts) e2
        have hi : i < us.length := by rw [← hl]; exact (List.getElem?_eq_some_iff.mp e1).1
        have e4 : us[i]? = some us[i] := by simp [hi]
        unfold pickL at e3
        exact ⟨us[i] :: ys, by rw [e4, e3]; rfl, .cons (h i v _ e1 e4) p⟩
def kwNames : List Keyword → Option (List Str)
  | [] => some []
  | ⟨some x, _, _⟩ :: r => (kwNames r).map (x :: ·)
  | _ => none
def kwVals (kws : List Keyword) : List Expr := kws.map (·.value)
theorem kw_facts {env : PySem.Env} {ps : Pos} : ∀ {kws : List Keyword} {ks : List Str}, kwNames kws = some ks → (backToKw ps (keywordEach kws env)).all (·.1.isSome) = true ∧ (backToKw ps (keywordEach kws env)).filterMap (·.1) = ks ∧ (backToKw ps (keywordEach kws env)).any (·.1.isNone) = false ∧ ks.length = kws.length
  | [], ks, e => by cases e; exact ⟨rfl, rfl, rfl, rfl⟩
  | ⟨none, _, _⟩ :: r, ks, e => by cases e
  | ⟨some x, v, q⟩ :: r, ks, e => by
    obtain ⟨ks', e1, e2⟩ := map_some (show (kwNames r).map (x :: ·) = some ks from e)
    subst e2
    obtain ⟨h1, h2, h3, h4⟩ := kw_facts (env := env) (ps := ps) e1
    refine ⟨?_, ?_, ?_, congrArg Nat.succ h4⟩
    · exact h1
    · show x :: _ = _
      exact congrArg (x :: ·) h2
    · exact h3
inductive KwE (X : Cx) (B : Bx) (c : Cs) (Wx : WX) : List Keyword → List E → Prop where
  | nil : KwE X B c Wx [] []
  | cons {n : Option Str} {e : Expr} {q : Pos} {kws : List Keyword} {i : E} {is : List E} (h : PE X e (rE B c i Wx)) (r : KwE X B c Wx kws is) : KwE X B c Wx (⟨n, e, q⟩ :: kws) (i :: is)
theorem KwE.pk : ∀ {kws : List Keyword} {is : List E}, KwE X B c Wx kws is → PK X kws (rL B c is Wx)
  | [], [], .nil => ⟨fun pos pins s σ H Q I ⟨w, h, env, r, s', l⟩ => pk_nil.run pos pins s σ H Q I (l.ok (Kp.refl _ _) r rfl)⟩
  | _ :: _, _ :: _, .cons (i := a) (is := as) ha hr => by
    refine ⟨fun pos pins s σ H Q I q => (pk_cons ha hr.pk).run pos pins s σ H Q I ?_⟩
    refine (rE_one (f := fun env x h1 => (evL c as env h1).bind fun xs h2 => .ok (x :: xs) h2) q).imp fun v H1 ⟨w1, h1, env, x, r1, s1, qx, l1⟩ => ?_
    refine ⟨w1, h1, env, r1, s1, (Lands.bind (R1 := RVsr B) l1).imp fun u H2 ⟨w2, h2, y, k, r2, qy, l2⟩ => ?_⟩
    exact l2.ok (Kp.refl _ _) r2 ⟨v, u, rfl, qx.mono k r1 x v, qy⟩
theorem RVs.pickL {perm : List Nat} {ws xs : List W} {vs : List V} (q : RVs B H w ws vs) (e : pickL perm ws = some xs) : ∃ ys, pickL perm vs = some ys ∧ RVs B H w xs ys := by
  obtain ⟨ys, e1, p⟩ := pick_vals (R := fun a b => RV B H w a b) q.length (fun i a b ea eb => by
    obtain ⟨z, ez, qz⟩ := q.get ea
    rw [eb] at ez; cases ez
    exact qz) e
  refine ⟨ys, e1, ?_⟩
  clear e e1
  induction p with
  | nil => exact rfl
  | cons h _ ih => exact ⟨_, _, rfl, h, ih⟩
theorem pickV {perm : List Nat} {zs xs : List V} {ws : List Value} (r : Vals zs ws) (e : pickL perm zs = some xs) : ∃ ys, pickL perm ws = some ys ∧ Vals xs ys :=
  pick_vals (R := RelV) r.length (fun i a b ea eb => by
    obtain ⟨u, e1, r1⟩ := r.get ea
    rw [eb] at e1; cases e1
    exact r1) e
theorem e_callK {G : Pg} {n f k : Nat} {x : Str} {a : Addr} {fd : FuncData} {ps ks : List Str} {perm : List Nat} {p : Pos} {kws : List Keyword} {as : List E} (F : FnOk X.prog X.w X.K X.mg X.base (L2.CX X.prog X.w) k a fd ps (spW B G n f)) (hr : Room k X.A) (hg : Gl X x) (hm : X.mg x = some (.ref a)) (hk : PySem.W.keepIn X.K (.ref a) = true)
    (hb : KbOk X.K fd ps ks perm) (hp : perm ≠ []) (hpk : perm.length = ks.length) (hks : kwNames kws = some ks) (tk : Takes X Wx) (hd : (x == ("__debug__" : Str)) = false) (ha : KwE X B (G.cs n) Wx kws as) : PE X (.Call (.Name x p) [] kws pos) (rE B (G.cs n) (.call f as perm) Wx) := by
  refine ⟨fun pins s σ H Q I q => ?_⟩
  obtain ⟨f1, f2, f3, f4⟩ := kw_facts (env := X.env) (ps := pos) hks
  refine PySem.wpAny_Call_Name_kw (ld_glob I hg hm ?_ hd)
  refine PySem.W.callWith_KW0 (h₀ := X.base) I.ok.mod.kin hk f1 (thn (ha.pk.run pos pins s σ H _ I (rL_one (f := fun ws h1 => match permW perm ws with
    | some vs => callW G n f vs h1
    | none => .stuck) q)) fun us s2 ⟨vs, H2, I2, rz, w1, h1, env, ws, r1, s1, qs, l1⟩ => ⟨I2.kIn, ?_⟩) (by rw [f3]; rfl)
  rw [f2]
  have e0 : permW perm ws = if ws.length = perm.length then pickL perm ws else none := by
    cases perm with
    | nil => exact absurd rfl hp
    | cons _ _ => rfl
  rw [e0] at l1
  by_cases hwl : ws.length = perm.length
  case neg => rw [if_neg hwl] at l1; exact False.elim l1
  rw [if_pos hwl] at l1
  cases ep : pickL perm ws with
  | none => rw [ep] at l1; exact False.elim l1
  | some xs =>
    rw [ep] at l1
    obtain ⟨ys, ey, qy⟩ := qs.pickL ep
    obtain ⟨zs, ez, rzs⟩ := pickV rz ey
    have l1 : Lands B w1 H2 (callW G n f xs h1) (RVr B) Q _ := l1
    obtain ⟨d, e1, e2⟩ := callW_some l1
    have hlen : us.length = ks.length := by
      rw [← rz.length, ← qs.length, hwl, hpk]
    obtain ⟨zs', ez', bt⟩ := hb.to s2 us I2.kIn hlen
    rw [ez] at ez'
    cases ez'
    have sp : spW B G n f ys H2 Q (WE Wx σ) := ⟨w1, h1, xs, d, r1, qy, e1, e2, l1⟩
    refine wpAny_call (codeAny_mono (F.run X.A X.stack s2 H2 ⟨[], ks.zip us⟩ zs ys Q (WE Wx σ) hr I2.env0 bt rzs sp) fun r s' hq => ?_)
    cases r with
    | error e => exact passAt tk σ pins H2 s2 e s' I2 hq
    | ok fl =>
      cases fl with
      | ret u => exact I2.after hq
      | next => exact False.elim hq
      | brk => exact False.elim hq
      | cont => exact False.elim hq
end
end G
end
section
set_option Elab.async false
set_option linter.all false
set_option maxRecDepth 100000
/-! G12: expressions of the text as terms -/
namespace G
open PySem L2
def isTup : Expr → Bool
  | .Tuple _ _ _ => true
  | _ => false
def isLst : Expr → Bool
  | .List [.Constant _ _ _] _ => true
  | _ => false
/-- a built-in's name, free in the module -/
def bltn (t : Tx) (c : Cc) (x : Str) : Bool := isGlob c x && !dbg x && t.bl.contains x && (t.gl.lookup x).isNone
/-- what is walked, and its parts -/
def srcOf (t : Tx) (c : Cc) (tg iter : Expr) : Option (SK × List Expr) := match iter with
  | .Call (.Name x _) [a] [] _ => if bltn t c x then (if x = "range" then some (.rng, [a]) else if x = "enumerate" then (if isTup tg then some (.enum, [a]) else none) else some (.val, [iter])) else some (.val, [iter])
  | .Call (.Name x _) [a, b] [] _ => if bltn t c x then (if x = "zip" then (if isTup tg then some (.zip, [a, b]) else none) else if x = "range" then none else some (.val, [iter])) else some (.val, [iter])
  | iter => if isSet iter then none else some (.val, [iter])
/-- a class by its name -/
def clsOf (t : Tx) (c : Cc) (e : Expr) : Option Cl := match e with
  | .Name y _ => if isGlob c y && !dbg y then (match t.gl.lookup y with
    | some (.cls k _) => some (.own k)
    | some _ => none
    | none => if t.bl.contains y then ((vN ++ xN).find? fun n => decide (Str.ofString n = y)).map .blt else none) else none
  | _ => none
def clsL (t : Tx) (c : Cc) : List Expr → Option (List Cl)
  | [] => some []
  | e :: es => match clsOf t c e with
    | none => none
    | some k => match clsL t c es with
      | none => none
      | some ks => some (k :: ks)
def cIsi (t : Tx) (c : Cc) (f : Expr → Option E) (as : List Expr) : Option E := match as with
  | [a, .Tuple ces _ _] => if star a then none else (match f a, clsL t c ces with
    | some ia, some cs => if cs.isEmpty || decide (1000 < cs.length) then none else some (.isi cs ia)
    | _, _ => none)
  | [a, ce] => if star a then none else (match f a, clsOf t c ce with
    | some ia, some k => some (.isi [k] ia)
    | _, _ => none)
  | _ => none
def cO (f : Expr → Option E) : Option Expr → Option (List E)
  | none => some []
  | some e => (f e).map fun i => [i]
def cKw (f : Expr → Option E) : List Keyword → Option (List E)
  | [] => some []
  | ⟨_, e, _⟩ :: es => match f e with
    | none => none
    | some i => match cKw f es with
      | none => none
      | some is => some (i :: is)
def cE (t : Tx) : Nat → Cc → Bool → Expr → Option E
  | 0, _, _, _ => none
  | k + 1, c, m, e => match e with
    | .Name x _ => if dbg x then none else if visible c x then (ixOf c.N x).map .var else if isGlob c x then (match t.gl.lookup x with
      | some (.int i) => some (.cst (.int i))
      | some (.str s) => some (.cst (.str s))
      | _ => none) else none
    | .Constant .none _ _ => some (.cst .non)
    | .Constant (.bool b) _ _ => some (.cst (.bl b))
    | .Constant (.int i) _ _ => some (.cst (.int i))
    | .Constant (.str s) _ _ => some (.cst (.str s))
    | .Tuple es _ _ => (cL (cE t k c false) es).map .tup
    | .List es _ => (cL (cE t k c false) es).map (.lst m)
    | .BinOp a op b _ => (match bopIn op, cE t k c false a, cE t k c false b with
      | some o, some ia, some ib => some (.bin m o ia ib)
      | _, _, _ => none)
    | .Compare a [op] [b] _ => (match cE t k c false a, cE t k c false b with
      | some ia, some ib => if noneOk (copIn op) ib && !behindInMarks op b then some (.cmp (copIn op) ia ib) else none
      | _, _ => none)
    | .Compare a [o1, o2] [b, d] _ => (match cE t k c false a, cE t k c false b, cE t k c false d with
      | some ia, some ib, some id => if noneOk (copIn o1) (.var 0) && noneOk (copIn o2) (.var 0) && !lastMarks [o1, o2] [b, d] then some (.cmp2 (copIn o1) (copIn o2) ia ib id) else none
      | _, _, _ => none)
    | .BoolOp .And es _ => if es.isEmpty then none else (cL (cE t k c m) es).map andL
    | .BoolOp .Or es _ => (match es with
      | [a, b] => if isLst b then (if plainT a then (match cE t k c m a, cE t k c m b with
        | some ia, some ib => some (.orV ia ib)
        | _, _ => none) else none) else (cL (cE t k c m) es).map orL
      | es => if es.isEmpty then none else (cL (cE t k c m) es).map orL)
    | .UnaryOp .Not a _ => (cE t k c false a).map .not
    | .UnaryOp .USub (.Constant (.int i) _ _) _ => some (.cst (.int (-i)))
    | .IfExp p a b _ => (match cE t k c false p, cE t k c m a, cE t k c m b with
      | some ip, some ia, some ib => some (.ite ip ia ib)
      | _, _, _ => none)
    | .Subscript a b _ => if plainIx b then (match cE t k c false a, cE t k c false b with
      | some ia, some ib => some (.idx ia ib)
      | _, _ => none) else (match b with
      | .Slice lo hi none _ => (match cE t k c false a, cO (cE t k c false) lo, cO (cE t k c false) hi with
        | some ia, some il, some ih => some (.slc m ia il ih)
        | _, _, _ => none)
      | _ => none)
    | .Attribute a f _ => if !bareCall a && fN.contains f then (cE t k c false a).map fun ia => .fldX ia f else none
    | .Call (.Name x _) as [] _ => if isGlob c x && !dbg x then (match t.gl.lookup x with
      | some (.fn f) => (cL (cE t k c false) as).map fun is => .call f is []
      | some _ => none
      | none => if t.bl.contains x then (if x = "isinstance" then cIsi t c (cE t k c false) as else (match primOf m x with
        | some p => if as.isEmpty then none else (cL (cE t k c false) as).map (.prim p)
        | none => none)) else none) else none
    | .Call (.Name x _) [] kws _ => if isGlob c x && !dbg x then (match t.gl.lookup x with
      | some (.fn f) => (match kwNames kws with
        | some ks => (match t.kw.find? fun q => decide (q.1 = f ∧ q.2.1 = ks ∧ q.2.2 ≠ [] ∧ q.2.2.length = ks.length) with
          | some q => (cKw (cE t k c false) kws).map fun is => .call f is q.2.2
          | none => none)
        | none => none)
      | _ => none) else none
    | .Call (.Attribute o x apos) as [] pos => if !bareCall o && (apos.endLine == pos.line) && decide (as.length < 29) then (match bmOf x as.length, cE t k c false o, cL (cE t k c false) as with
      | some p, some io, some is => some (.bm p io is)
      | _, _, _ => none) else none
    | .ListComp elt [⟨tg, iter, ifs, 0⟩] scope _ => if blkC c.N c.sc scope (ownOf c.N scope.names) && decide (ifs.length ≤ 1) then (match srcOf t c tg iter with
      | some (sk, es) => (match cL (cE t k c false) es, cT (c.blk scope) k tg, cE t k (c.blk scope) false elt, cL (cE t k (c.blk scope) false) ifs with
        | some srcs, some it, some ie, some iifs => if (slots it).all (fun i => (ownOf c.N scope.names).any fun p => p.2 == i) then some (.comp m ie it sk srcs iifs ((ownOf c.N scope.names).map (·.2))) else none
        | _, _, _, _ => none)
      | none => none) else none
    | _ => none
/-- where terms stand for the text -/
structure Cok (t : Tx) (B : Bx) (G : Pg) (n : Nat) (X : Cx) (Wx : WX) (c : Cc) : Prop where
  hK : B.K = X.K
  calm : X.calm = true
  hN : X.N = c.N
  nd : X.N.Nodup
  sc : X.env.scope = c.sc
  fn : ∀ x, c.ow x = true → c.sc.names.lookup x = some .cell → X.fn x = true
  room : Room (3 * n + 3) X.A
  tk : Takes X Wx
  gf : ∀ x f, t.gl.lookup x = some (.fn f) → ∃ a fd ps, FnOk X.prog X.w X.K X.mg X.base (L2.CX X.prog X.w) (3 * n + 3) a fd ps (spW B G n f) ∧ X.mg x = some (.ref a) ∧ PySem.W.keepIn X.K (.ref a) = true ∧ Binds X.K fd ps [] ∧ ∀ q ∈ t.kw, q.1 = f → KbOk X.K fd ps q.2.1 q.2.2
  gc : ∀ x c m, t.gl.lookup x = some (.cls c m) → X.mg x = some (.ref (B.xc c))
  xf : ExF X.K B.xc G.ex
  gi : ∀ x i, t.gl.lookup x = some (.int i) → ∃ u, X.mg x = some u ∧ RelV (.int i) u
  gs : ∀ x i, t.gl.lookup x = some (.str i) → ∃ u, X.mg x = some u ∧ RelV (.str i) u
  gb : ∀ x, t.bl.contains x = true → X.mg x = none
section
variable {t : Tx} {X : Cx} {B : Bx} {G : Pg} {n : Nat} {Wx : WX} {c : Cc}
theorem Cok.units (k : Cok t B G n X Wx c) : X.A.units + 65 < cLine := by
  have := k.room.un
  omega
theorem Cok.blk (k : Cok t B G n X Wx c) (scope : Scope) (s : Shared) (H : Hp) (C : Addr) (cl : List (Str × Addr)) (fp : List Addr) : Cok t B G n (X.blk s H scope (compEnvC scope cl C X.env) fp) Wf (c.blk scope) where
  hK := k.hK
  calm := k.calm
  hN := k.hN
  nd := k.nd
  sc := by
    show relS scope X.env.scope = relS scope c.sc
    rw [k.sc]
  fn := fun x h _ => h
  room := k.room
  tk := takes0
  gf := k.gf
  gc := k.gc
  xf := k.xf
  gi := k.gi
  gs := k.gs
  gb := k.gb
theorem glob_ok (k : Cok t B G n X Wx c) {x : Str} (e : isGlob c x = true) : Gl X x := by
  unfold isGlob at e
  show X.env.scope.names.lookup x = some .globalImplicit
  rw [k.sc]
  split at e
  · assumption
  · cases e
theorem vis_ok (k : Cok t B G n X Wx c) {x : Str} (e : visible c x = true) : Vis X.env.scope x := by
  unfold visible at e
  unfold Vis
  rw [k.sc]
  split at e
  · exact .inl (by assumption)
  · exact .inr (.inl (by assumption))
  · exact .inr (.inr (by assumption))
  · cases e
theorem dbg_ok {x : Str} (e : ¬ dbg x = true) : (x == ("__debug__" : Str)) = false ∧ (x == ("__classdict__" : Str)) = false := by
  unfold dbg at e
  simpa using e
theorem cL_ok {f : Expr → Option E} {P : Expr → E → Prop} (hf : ∀ e i, f e = some i → P e i) : ∀ {es : List Expr} {is : List E}, cL f es = some is → Paired P es is ∧ noStar es = true
  | [], is, e => by cases e; exact ⟨.nil, rfl⟩
  | x :: xs, is, e => by
    unfold cL at e
    cases hs : star x with
    | true => rw [hs] at e; cases e
    | false =>
      rw [hs, if_neg Bool.false_ne_true] at e
      cases e1 : f x with
      | none => rw [e1] at e; cases e
      | some i =>
        rw [e1] at e
        cases e2 : cL f xs with
        | none => rw [e2] at e; cases e
        | some js =>
          rw [e2] at e
          cases e
          obtain ⟨h1, h2⟩ := cL_ok hf e2
          exact ⟨.cons (hf _ _ e1) h1, by show (!star x && noStar xs) = true; rw [hs, h2]; rfl⟩
theorem pa_of {c' : Cs} : ∀ {es : List Expr} {is : List E}, Paired (Both X B c' Wx) es is → noStar es = true → PA X es (rL B c' is Wx)
  | [], [], .nil, _ => l_nil
  | e :: es, i :: is, .cons p q, h => by
    have h' : (!star e && noStar es) = true := h
    obtain ⟨h1, h2⟩ := (Bool.and_eq_true _ _).mp h'
    exact l_cons p.pe (pa_of q h2) (by simpa using h1)
theorem both_val {e : Expr} {i : E} {c' : Cs} (h : plainT e = true) (p : PE X e (rE B c' i Wx)) : Both X B c' Wx e i := ⟨p, t_val h p⟩
mutual
theorem cT_ok (k : Cok t B G n X Wx c) : ∀ (m : Nat) {e : Expr} {i : T}, cT c m e = some i → PG X e (gT X.K i)
  | 0, e, i, h => by unfold cT at h; cases h
  | m + 1, .Name x _, i, h => by
    unfold cT at h
    split at h
    · rename_i hl
      obtain ⟨j, e1, e2⟩ := map_some h
      subst e2
      rw [← k.sc] at hl
      exact pg_name k.nd (by rw [k.hN]; exact ixOf_ok e1) (.inl hl) (.inr hl)
    · rename_i hl
      split at h
      · rename_i how
        obtain ⟨j, e1, e2⟩ := map_some h
        subst e2
        have hl' := hl
        rw [← k.sc] at hl'
        exact pg_name k.nd (by rw [k.hN]; exact ixOf_ok e1) (.inr hl') (.inl (k.fn x how hl))
      · cases h
    · cases h
  | m + 1, .Tuple es _ _, i, h => by
    unfold cT at h
    obtain ⟨ts, e1, e2⟩ := map_some h
    subst e2
    obtain ⟨h1, h2, h3, h4⟩ := cTs_ok k m e1
    unfold gT
    exact pg_tup k.calm h1 h2 h3
  | m + 1, .BoolOp _ _ _, _, h | m + 1, .NamedExpr _ _ _, _, h | m + 1, .BinOp _ _ _ _, _, h | m + 1, .UnaryOp _ _ _, _, h | m + 1, .Lambda _ _ _ _, _, h | m + 1, .IfExp _ _ _ _, _, h | m + 1, .Dict _ _ _, _, h | m + 1, .Set _ _ _, _, h
  | m + 1, .ListComp _ _ _ _, _, h | m + 1, .SetComp _ _ _ _, _, h | m + 1, .DictComp _ _ _ _ _, _, h | m + 1, .GeneratorExp _ _ _ _, _, h | m + 1, .Await _ _, _, h | m + 1, .Yield _ _, _, h | m + 1, .YieldFrom _ _, _, h | m + 1, .Compare _ _ _ _, _, h
  | m + 1, .Call _ _ _ _, _, h | m + 1, .FormattedValue _ _ _ _, _, h | m + 1, .JoinedStr _ _, _, h | m + 1, .Constant _ _ _, _, h | m + 1, .Attribute _ _ _, _, h | m + 1, .Subscript _ _ _, _, h | m + 1, .Starred _ _, _, h | m + 1, .List _ _, _, h | m + 1, .Slice _ _ _ _, _, h => by
    unfold cT at h; cases h
theorem cTs_ok (k : Cok t B G n X Wx c) : ∀ (m : Nat) {es : List Expr} {is : List T}, cTs c m es = some is → PGs X es (gTs X.K is) ∧ (assignEach es X.env).length = is.length ∧ (assignEach es X.env).findIdx? (·.1) = none ∧ (assignEach es X.env).map (·.2) = es.map fun e => assign e X.env
  | 0, _, _, h => by unfold cTs at h; cases h
  | m + 1, [], is, h => by
    unfold cTs at h
    cases h
    exact ⟨pgs_nil, rfl, rfl, rfl⟩
  | m + 1, e :: es, is, h => by
    unfold cTs at h
    cases hs : star e with
    | true => rw [hs] at h; cases h
    | false =>
      rw [hs, if_neg Bool.false_ne_true] at h
      cases e1 : cT c m e with
      | none => rw [e1] at h; cases h
      | some a =>
        rw [e1] at h
        cases e2 : cTs c m es with
        | none => rw [e2] at h; cases h
        | some as =>
          rw [e2] at h
          cases h
          obtain ⟨h1, h2, h3, h4⟩ := cTs_ok k m e2
          have ha : assignEach (e :: es) X.env = (false, assign e X.env) :: assignEach es X.env := by
            cases e <;> first
              | rfl
              | cases hs
          refine ⟨pgs_cons (cT_ok k m e1) h1 (by rw [ha]; rfl), by rw [ha]; exact congrArg Nat.succ h2, ?_, by rw [ha]; exact congrArg _ h4⟩
          rw [ha, List.findIdx?_cons, h3]
          rfl
end
end
end G
end
section
set_option Elab.async false
set_option linter.all false
set_option maxRecDepth 100000
/-! G13: expressions of the text as terms: that they stand for it -/
namespace G
open PySem L2
section
variable {t : Tx} {B : Bx} {G : Pg} {n : Nat}
theorem bltn_ok {X : Cx} {Wx : WX} {c : Cc} (k : Cok t B G n X Wx c) {x : Str} (e : bltn t c x = true) : Gl X x ∧ X.mg x = none := by
  unfold bltn at e
  simp only [Bool.and_eq_true] at e
  exact ⟨glob_ok k e.1.1.1, k.gb x e.1.2⟩
theorem paired1 {α β : Type} {P : α → β → Prop} {a : α} {l : List β} (h : Paired P [a] l) : ∃ b, l = [b] ∧ P a b := by
  cases h with
  | cons p q => cases q; exact ⟨_, rfl, p⟩
theorem paired2 {α β : Type} {P : α → β → Prop} {a a' : α} {l : List β} (h : Paired P [a, a'] l) : ∃ b b', l = [b, b'] ∧ P a b ∧ P a' b' := by
  cases h with
  | cons p q => obtain ⟨b, rfl, r⟩ := paired1 q; exact ⟨_, _, rfl, p, r⟩
theorem noStar1 {e : Expr} (h : noStar [e] = true) : star e = false := by simpa [noStar] using h
theorem noStar2 {e e2 : Expr} (h : noStar [e, e2] = true) : star e = false ∧ star e2 = false := by simpa [noStar] using h
theorem tup_of {tg : Expr} (h : isTup tg = true) : ∃ es k p, tg = .Tuple es k p := by
  cases tg <;> first
    | exact ⟨_, _, _, rfl⟩
    | cases h
theorem src_ok {X : Cx} {Wx : WX} {c : Cc} (k : Cok t B G n X Wx c) {tg iter : Expr} {sk : SK} {es : List Expr} {srcs : List E} (h : srcOf t c tg iter = some (sk, es)) (hp : Paired (Both X B (G.cs n) Wx) es srcs) (hs : noStar es = true) : PI X tg iter (rI B (G.cs n) sk srcs Wx) ∧ isSet iter = false := by
  have val : ∀ {e : Expr}, (some (SK.val, [e]) : Option (SK × List Expr)) = some (sk, es) → PI X tg e (rI B (G.cs n) sk srcs Wx) := fun h => by
    cases h
    obtain ⟨i, rfl, p⟩ := paired1 hp
    exact i_val k.hK p.pe
  unfold srcOf at h
  split at h
  · split at h
    · rename_i hb
      obtain ⟨g1, g2⟩ := bltn_ok k hb
      split at h
      · rename_i hx
        subst hx
        cases h
        obtain ⟨i, rfl, p⟩ := paired1 hp
        exact ⟨i_rng g1 g2 (noStar1 hs) p.pe, rfl⟩
      · split at h
        · rename_i hx
          subst hx
          split at h
          · rename_i ht
            obtain ⟨_, _, _, rfl⟩ := tup_of ht
            cases h
            obtain ⟨i, rfl, p⟩ := paired1 hp
            exact ⟨i_enum k.hK g1 g2 (noStar1 hs) p.pe, rfl⟩
          · cases h
        · exact ⟨val h, rfl⟩
    · exact ⟨val h, rfl⟩
  · split at h
    · rename_i hb
      obtain ⟨g1, g2⟩ := bltn_ok k hb
      split at h
      · rename_i hx
        subst hx
        split at h
        · rename_i ht
          obtain ⟨_, _, _, rfl⟩ := tup_of ht
          cases h
          obtain ⟨i, j, rfl, p, q⟩ := paired2 hp
          exact ⟨i_zip k.hK g1 g2 (noStar2 hs).1 (noStar2 hs).2 p.pe q.pe, rfl⟩
        · cases h
      · split at h
        · cases h
        · exact ⟨val h, rfl⟩
    · exact ⟨val h, rfl⟩
  · split at h
    · cases h
    · rename_i hn
      exact ⟨val h, by simpa using hn⟩
theorem own_ok {N : List Str} : ∀ {l : List (Str × NameKind)}, ∀ p ∈ ownOf N l, N[p.2]? = some p.1
  | [], p, h => by cases h
  | (x, k) :: r, p, h => by
    unfold ownOf at h
    split at h
    all_goals first
      | exact own_ok p h
      | skip
    all_goals
      split at h
      · rename_i i e
        rcases List.mem_cons.mp h with z | z
        · subst z; exact ixOf_ok e
        · exact own_ok p z
      · exact own_ok p h
theorem e_neg {X : Cx} {Wx : WX} {c : Cs} {i : Int} {j} {p pos : Pos} : PE X (.UnaryOp .USub (.Constant (.int i) j p) pos) (rE B c (.cst (.int (-i))) Wx) :=
  PE.imp (pe_un un_neg pe_int) fun σ H Q ⟨w, h, env, r, s, l⟩ => ⟨i, rfl, Lands.here l r rfl⟩
theorem pt_ifExp {X : Cx} {p a b : Expr} {pos : Pos} {tp ta tb : TT} (hp : PT X p tp) (ha : PT X a ta) (hb : PT X b tb) : PT X (.IfExp p a b pos) (fun σ H Q => tp σ H fun c H1 => if c = true then ta σ H1 Q else tb σ H1 Q) := by
  refine ⟨fun pins s σ H Q I h => ?_⟩
  have e : isTrue (.IfExp p a b pos) X.env (eval (.IfExp p a b pos) X.env) = (do if ← isTrue p X.env (eval p X.env) then isTrue a X.env (eval a X.env) else isTrue b X.env (eval b X.env)) := rfl
  rw [e]
  refine wpAny_bind (thn (hp.run pins s σ H _ I h) fun d s1 ⟨H1, I1, q1⟩ => ?_)
  cases d with
  | true => exact ha.run pins s1 σ H1 Q I1 q1
  | false => exact hb.run pins s1 σ H1 Q I1 q1
theorem t_ite {X : Cx} {Wx : WX} {c : Cs} {p a b : Expr} {pos : Pos} {ip ia ib : E} (hp : PT X p (rT B c ip Wx)) (ha : PT X a (rT B c ia Wx)) (hb : PT X b (rT B c ib Wx)) : PT X (.IfExp p a b pos) (rT B c (.ite ip ia ib) Wx) :=
  PT.imp (pt_ifExp hp ha hb) fun σ H Q q => rT_two (f := fun env h => evE c ia env h) (g := fun env h => evE c ib env h) q
/-- a test that no run comes to -/
theorem t_no {X : Cx} {Wx : WX} {c : Cs} {e : Expr} {i : E} (h : ∀ (env : Env) (h : Hw), ∀ x h1, evE c i env h = .ok x h1 → ∀ b, x ≠ .bl b) (hx : ∀ (env : Env) (h : Hw) c' fs h', evE c i env h ≠ .exc c' fs h') : PT X e (rT B c i Wx) := by
  refine ⟨fun pins s σ H Q I ⟨w, hh, env, r, s', l⟩ => ?_⟩
  exfalso
  have l : Lands B w H ((evE c i env hh).bind asB) REq Q _ := l
  cases e : evE c i env hh with
  | stuck => rw [e] at l; exact l
  | exc c' fs h' => exact hx env hh c' fs h' e
  | ok x h1 =>
    rw [e] at l
    have := h env hh x h1 e
    cases x with
    | bl b => exact this b rfl
    | _ => exact l
theorem lst_of {m : Nat} {c : Cc} {b : Bool} {e : Expr} {i : E} (hl : isLst e = true) (h : cE t m c b e = some i) : ∃ k z, i = .lst k [.cst z] := by
  unfold isLst at hl
  split at hl
  · cases m with
    | zero => cases h
    | succ m =>
      obtain ⟨is, e1, e2⟩ := map_some (show (cL (cE t m c false) [_]).map (.lst b) = some i from h)
      subst e2
      cases m with
      | zero => cases e1
      | succ m =>
        rename_i z _ _ _
        cases z <;> first
          | (cases e1; exact ⟨_, _, rfl⟩)
          | cases e1
  · cases hl
theorem orV_no {X : Cx} {Wx : WX} {c : Cs} {a b : Expr} {pos : Pos} {ia : E} {k : Bool} {z : W} (hp : plainT a = true) (ha : PE X a (rE B c ia Wx)) : PT X (.BoolOp .Or [a, b] pos) (rT B c (.orV ia (.lst k [.cst z])) Wx) := by
  have hb : PT X b (fun _ _ _ => False) := ⟨fun _ _ _ _ _ _ h => h.elim⟩
  have pa := pt_val ha fun whole => by
    cases a <;> first
      | rfl
      | cases hp
  refine PT.imp (pw_or pa (pw_or1 (pos := pos) hb)).pt fun σ H Q q => ?_
  obtain ⟨w, h, env, r, s, l⟩ := q
  refine ⟨w, h, env, r, s, ?_⟩
  have l : Lands B w H (((evE c ia env h).bind fun x h1 => match getL h1 x with
    | some [] => evE c (.lst k [.cst z]) env h1
    | some (_ :: _) => .ok x h1
    | none => .stuck).bind asB) REq Q _ := l
  show Lands B w H (evE c ia env h) _ _ _
  have mk : ∀ {xs : List W} {h1 : Hw}, ¬ Lands B w H ((mkL k xs h1).bind asB) REq Q (fun cls d H' => Wx cls d σ H') := fun {xs h1} l => by
    unfold mkL at l
    split at l
    · split at l <;> exact l
    · exact l
  cases e : evE c ia env h with
  | stuck => rw [e] at l; exact False.elim l
  | exc k' fs h2 => rw [e] at l; exact l
  | ok x h1 =>
    rw [e] at l
    have l : Lands B w H ((match getL h1 x with
      | some [] => evE c (.lst k [.cst z]) env h1
      | some (_ :: _) => .ok x h1
      | none => .stuck).bind asB) REq Q _ := l
    exfalso
    cases eg : getL h1 x with
    | none => rw [eg] at l; exact l
    | some xs =>
      rw [eg] at l
      cases xs with
      | nil => exact mk (xs := [z]) (h1 := h1) l
      | cons y ys =>
        cases x with
        | bl b => cases eg
        | _ => exact l
theorem boot_cls : ∀ n ∈ vN ++ xN, bootBuiltins (Str.ofString n) = some (.type n) ∧ Str.ofString n ≠ ("__name__" : Str) := by decide +kernel
theorem pe_bty {X : Cx} {y : Str} {n : String} {p : Pos} (hg : Gl X y) (hm : X.mg y = none) (hv : bootBuiltins y = some (.type n)) (hn : y ≠ "__name__") (hd : (y == ("__debug__" : Str)) = false) : PE X (.Name y p) (tC (.ty n)) :=
  ⟨fun pins s σ H Q I h => ld_blt I hg hm hv ⟨.ty n, H, I, rfl, h⟩ hn hd⟩
theorem clsOf_ok {X : Cx} {Wx : WX} {c : Cc} (k : Cok t B G n X Wx c) {e : Expr} {cl : Cl} (h : clsOf t c e = some cl) : PE X e (tC (clV B cl)) ∧ star e = false := by
  unfold clsOf at h
  split at h
  · rename_i y p
    split at h
    · rename_i hg
      obtain ⟨g1, g2⟩ := (Bool.and_eq_true _ _).mp hg
      have g1 := glob_ok k g1
      obtain ⟨d1, d2⟩ := dbg_ok (by simpa using g2)
      split at h
      · rename_i j jm ej
        cases h
        exact ⟨pe_glob g1 (k.gc y j jm ej) rfl d1, rfl⟩
      · cases h
      · split at h
        · rename_i hb
          obtain ⟨nn, e1, e2⟩ := map_some h
          subst e2
          have e3 := List.mem_of_find?_eq_some e1
          have e4 : decide (Str.ofString nn = y) = true := List.find?_some (p := fun n => decide (Str.ofString n = y)) e1
          have e4 := of_decide_eq_true e4
          subst e4
          obtain ⟨b1, b2⟩ := boot_cls nn e3
          exact ⟨pe_bty g1 (k.gb _ hb) b1 b2 d1, rfl⟩
        · cases h
    · cases h
  · cases h
theorem clsL_ok {X : Cx} {Wx : WX} {c : Cc} (k : Cok t B G n X Wx c) : ∀ {es : List Expr} {cs : List Cl}, clsL t c es = some cs → ClE X B es cs
  | [], cs, h => by cases h; exact .nil
  | e :: es, cs, h => by
    unfold clsL at h
    split at h
    · cases h
    · rename_i j e1
      split at h
      · cases h
      · rename_i js e2
        cases h
        obtain ⟨h1, h2⟩ := clsOf_ok k e1
        exact .cons h1 h2 (clsL_ok k e2)
theorem cIsi_ok {X : Cx} {Wx : WX} {c : Cc} (k : Cok t B G n X Wx c) {f : Expr → Option E} (hf : ∀ {e i}, f e = some i → PE X e (rE B (G.cs n) i Wx)) (hg : Gl X "isinstance") (hm : X.mg "isinstance" = none) {as : List Expr} {i : E} {p pos : Pos} (h : cIsi t c f as = some i) : PE X (.Call (.Name "isinstance" p) as [] pos) (rE B (G.cs n) i Wx) := by
  unfold cIsi at h
  split at h
  · split at h
    · cases h
    · rename_i hs
      split at h
      · rename_i ia cs e1 e2
        split at h
        · cases h
        · rename_i hc
          cases h
          simp only [Bool.or_eq_true, decide_eq_true_eq, not_or, Nat.not_lt] at hc
          refine e_isiT k.hK k.xf hg hm (hf e1) (by simpa using hs) (clsL_ok k e2) (fun z => hc.1 (by rw [z]; rfl)) hc.2
      · cases h
  · split at h
    · cases h
    · rename_i hs
      split at h
      · rename_i ia kk e1 e2
        cases h
        obtain ⟨h1, h2⟩ := clsOf_ok k e2
        exact e_isi1 k.hK k.xf hg hm (hf e1) (by simpa using hs) h1 h2
      · cases h
  · cases h
theorem cO_ok {X : Cx} {Wx : WX} {f : Expr → Option E} (hf : ∀ {e i}, f e = some i → PE X e (rE B (G.cs n) i Wx)) {o : Option Expr} {is : List E} (h : cO f o = some is) : PO X o (rO B (G.cs n) is Wx) := by
  cases o with
  | none => cases h; exact o_none
  | some e =>
    obtain ⟨i, e1, e2⟩ := map_some (show (f e).map (fun i => [i]) = some is from h)
    subst e2
    exact o_some (hf e1)
theorem cKw_ok {X : Cx} {Wx : WX} {f : Expr → Option E} (hf : ∀ {e i}, f e = some i → PE X e (rE B (G.cs n) i Wx)) : ∀ {kws : List Keyword} {is : List E}, cKw f kws = some is → KwE X B (G.cs n) Wx kws is
  | [], is, h => by cases h; exact .nil
  | ⟨nm, e, q⟩ :: r, is, h => by
    unfold cKw at h
    split at h
    · cases h
    · rename_i i e1
      split at h
      · cases h
      · rename_i js e2
        cases h
        exact .cons (hf e1) (cKw_ok hf e2)
theorem cE_ok : ∀ (m : Nat) {c : Cc} {b : Bool} {e : Expr} {i : E}, cE t m c b e = some i → ∀ {X : Cx} {Wx : WX}, Cok t B G n X Wx c → Both X B (G.cs n) Wx e i
  | 0, c, b, e, i, h, X, Wx, k => by cases h
  | m + 1, c, b, e, i, h, X, Wx, k => by
    have ih : ∀ {b : Bool} {e : Expr} {i : E}, cE t m c b e = some i → Both X B (G.cs n) Wx e i := fun h => cE_ok m h k
    unfold cE at h
    split at h
    · -- a name
      rename_i x p
      split at h
      · cases h
      · rename_i hd
        obtain ⟨d1, d2⟩ := dbg_ok hd
        split at h
        · rename_i hv
          obtain ⟨j, e1, e2⟩ := map_some h
          subst e2
          exact both_val rfl (e_var (by rw [k.hN]; exact ixOf_ok e1) (vis_ok k hv) d1 d2)
        · split at h
          · rename_i hg
            split at h
            · rename_i j ej
              cases h
              obtain ⟨u, e1, e2⟩ := k.gi x j ej
              exact both_val rfl (e_glo (.inl ⟨j, rfl, e2⟩) (glob_ok k hg) e1 d1)
            · rename_i j ej
              cases h
              obtain ⟨u, e1, e2⟩ := k.gs x j ej
              exact both_val rfl (e_glo (.inr ⟨j, rfl, e2⟩) (glob_ok k hg) e1 d1)
            · cases h
          · cases h
    · cases h; exact both_val rfl e_non
    · cases h; exact both_val rfl e_bl
    · cases h; exact both_val rfl e_int
    · cases h; exact both_val rfl e_str
    · -- a tuple
      obtain ⟨is, e1, e2⟩ := map_some h
      subst e2
      obtain ⟨p1, p2⟩ := cL_ok (P := Both X B (G.cs n) Wx) (fun _ _ h => ih h) e1
      exact both_val rfl (e_tup (pa_of p1 p2))
    · obtain ⟨is, e1, e2⟩ := map_some h
      subst e2
      obtain ⟨p1, p2⟩ := cL_ok (P := Both X B (G.cs n) Wx) (fun _ _ h => ih h) e1
      exact both_val rfl (e_lst (pa_of p1 p2))
    · -- an operator
      split at h
      · rename_i o ia ib eo e1 e2
        cases h
        have := bopIn_ok eo
        subst this
        exact both_val rfl (e_bin k.hK (ih e1).pe (ih e2).pe)
      · cases h
    · -- a comparison
      rename_i a0 op b0 ps
      split at h
      · rename_i ia ib e1 e2
        split at h
        · rename_i hc
          cases h
          obtain ⟨c1, c2⟩ := (Bool.and_eq_true _ _).mp hc
          have A := e_cmp (op := copIn op) (pos := ps) k.hK k.units c1 (by rw [copIn_ok]; simpa using c2) (ih e1).pe (ih e2).pe
          have A' := t_cmp (op := copIn op) (pos := ps) k.hK k.units c1 (by rw [copIn_ok]; simpa using c2) (ih e1).pe (ih e2).pe
          rw [copIn_ok] at A A'
          exact ⟨A, A'⟩
        · cases h
      · cases h
    · rename_i a0 o1 o2 b0 d0 ps
      split at h
      · rename_i ia ib id e1 e2 e3
        split at h
        · rename_i hc
          cases h
          obtain ⟨c12, c3⟩ := (Bool.and_eq_true _ _).mp hc
          obtain ⟨c1, c2⟩ := (Bool.and_eq_true _ _).mp c12
          have A := e_chain (o1 := copIn o1) (o2 := copIn o2) (pos := ps) k.hK k.units c1 c2 (by rw [copIn_ok, copIn_ok]; simpa using c3) (ih e1).pe (ih e2).pe (ih e3).pe
          have A' := t_chain (o1 := copIn o1) (o2 := copIn o2) (pos := ps) k.hK k.units c1 c2 (by rw [copIn_ok, copIn_ok]; simpa using c3) (ih e1).pe (ih e2).pe (ih e3).pe
          rw [copIn_ok, copIn_ok] at A A'
          exact ⟨A, A'⟩
        · cases h
      · cases h
    · -- and
      split at h
      · cases h
      · rename_i hn
        obtain ⟨is, e1, e2⟩ := map_some h
        subst e2
        obtain ⟨p1, p2⟩ := cL_ok (P := Both X B (G.cs n) Wx) (fun _ _ h => ih h) e1
        obtain ⟨q1, q2⟩ := both_and (pos := _) _ _ p1 (fun z => hn (by rw [z]; rfl))
        exact ⟨q1, q2.pt⟩
    · -- or
      split at h
      · split at h
        · rename_i hlst
          split at h
          · rename_i hpl
            split at h
            · rename_i ia ib e1 e2
              cases h
              obtain ⟨kk, zz, rfl⟩ := lst_of hlst e2
              exact ⟨e_orV k.hK (ih e1).pe (ih e2).pe, orV_no hpl (ih e1).pe⟩
            · cases h
          · cases h
        · obtain ⟨is, e1, e2⟩ := map_some h
          subst e2
          obtain ⟨p1, p2⟩ := cL_ok (P := Both X B (G.cs n) Wx) (fun _ _ h => ih h) e1
          obtain ⟨q1, q2⟩ := both_or (pos := _) _ _ p1 (by simp)
          exact ⟨q1, q2.pt⟩
      · split at h
        · cases h
        · rename_i hn
          obtain ⟨is, e1, e2⟩ := map_some h
          subst e2
          obtain ⟨p1, p2⟩ := cL_ok (P := Both X B (G.cs n) Wx) (fun _ _ h => ih h) e1
          obtain ⟨q1, q2⟩ := both_or (pos := _) _ _ p1 (fun z => hn (by rw [z]; rfl))
          exact ⟨q1, q2.pt⟩
    · obtain ⟨ia, e1, e2⟩ := map_some h
      subst e2
      exact b_not (ih e1)
    · cases h
      exact ⟨e_neg, t_no (fun env h x h1 e b z => by cases e; cases z) (fun env h c' fs h' z => by cases z)⟩
    · -- if
      split at h
      · rename_i ip ia ib e1 e2 e3
        cases h
        exact ⟨e_ite (ih e1).pt (ih e2).pe (ih e3).pe, t_ite (ih e1).pt (ih e2).pt (ih e3).pt⟩
      · cases h
    · -- a[i]
      split at h
      · rename_i hpl
        split at h
        · rename_i ia ib e1 e2
          cases h
          exact both_val rfl (e_idx k.hK (plainIx_ok hpl) (ih e1).pe (ih e2).pe)
        · cases h
      · split at h
        · split at h
          · rename_i ia il ihh e1 e2 e3
            cases h
            exact both_val rfl (e_slc k.hK (ih e1).pe (cO_ok (fun h => (ih h).pe) e2) (cO_ok (fun h => (ih h).pe) e3))
          · cases h
        · cases h
    · split at h
      · rename_i hc
        obtain ⟨c1, c2⟩ := (Bool.and_eq_true _ _).mp hc
        obtain ⟨ia, e1, e2⟩ := map_some h
        subst e2
        exact both_val rfl (e_fld k.hK k.xf (ih e1).pe (by simpa using c1) c2)
      · cases h
    · -- a call by name
      rename_i x px as ps
      split at h
      · rename_i hg
        obtain ⟨g1, g2⟩ := (Bool.and_eq_true _ _).mp hg
        have g1 := glob_ok k g1
        obtain ⟨d1, d2⟩ := dbg_ok (by simpa using g2)
        split at h
        · rename_i f ef
          obtain ⟨is, e1, e2⟩ := map_some h
          subst e2
          obtain ⟨p1, p2⟩ := cL_ok (P := Both X B (G.cs n) Wx) (fun _ _ h => ih h) e1
          obtain ⟨a, fd, ps, F, hm, hk, hb, _⟩ := k.gf _ f ef
          refine both_val rfl ?_
          cases as with
          | nil =>
            cases p1
            exact e_call0 F k.room g1 hm hk hb k.tk d1
          | cons a as => exact e_call F k.room g1 hm hk hb k.tk p2 d1 (pa_of p1 p2)
        · cases h
        · split at h
          · rename_i hbl
            split at h
            · rename_i hx
              subst hx
              exact both_val rfl (cIsi_ok k (fun h => (ih h).pe) g1 (k.gb _ hbl) h)
            · split at h
              · rename_i p ep
                split at h
                · cases h
                · rename_i hne
                  obtain ⟨is, e1, e2⟩ := map_some h
                  subst e2
                  obtain ⟨p1, p2⟩ := cL_ok (P := Both X B (G.cs n) Wx) (fun _ _ h => ih h) e1
                  obtain ⟨f, ef⟩ := primOf_ok ep
                  refine both_val rfl ?_
                  cases as with
                  | nil => exact absurd rfl hne
                  | cons a as => exact e_prim k.hK k.calm ef g1 (k.gb _ hbl) p2 (pa_of p1 p2)
              · cases h
          · cases h
      · cases h
    · -- a call by keywords
      rename_i x px kws ps _
      split at h
      · rename_i hg
        obtain ⟨g1, g2⟩ := (Bool.and_eq_true _ _).mp hg
        have g1 := glob_ok k g1
        obtain ⟨d1, d2⟩ := dbg_ok (by simpa using g2)
        split at h
        · rename_i f ef
          split at h
          · rename_i ks eks
            split at h
            · rename_i q eq
              obtain ⟨is, e1, e2⟩ := map_some h
              subst e2
              have q1 := List.mem_of_find?_eq_some eq
              have q0 : decide (q.1 = f ∧ q.2.1 = ks ∧ q.2.2 ≠ [] ∧ q.2.2.length = ks.length) = true := List.find?_some (p := fun (q : Nat × List Str × List Nat) => decide (q.1 = f ∧ q.2.1 = ks ∧ q.2.2 ≠ [] ∧ q.2.2.length = ks.length)) eq
              obtain ⟨q2, q3, q4, q5⟩ := of_decide_eq_true q0
              obtain ⟨a, fd, ps, F, hm, hk, hb, hkw⟩ := k.gf _ f ef
              have hkb := hkw q q1 q2
              rw [q3] at hkb
              exact both_val rfl (e_callK F k.room g1 hm hk hkb q4 q5 eks k.tk d1 (cKw_ok (fun h => (ih h).pe) e1))
            · cases h
          · cases h
        · cases h
      · cases h
    · -- a method
      rename_i o x apos as ps
      split at h
      · rename_i hc
        simp only [Bool.and_eq_true, decide_eq_true_eq] at hc
        split at h
        · rename_i p io is ep e1 e2
          cases h
          obtain ⟨p1, p2⟩ := cL_ok (P := Both X B (G.cs n) Wx) (fun _ _ h => ih h) e2
          obtain ⟨T, id, eb, hl⟩ := bmOf_ok ep
          refine both_val rfl ?_
          cases as with
          | nil => exact absurd hl (by decide)
          | cons a as => exact e_bm k.hK eb (by simpa using hc.1.1) p2 hc.2 hc.1.2 (ih e1).pe (pa_of p1 p2)
        · cases h
      · cases h
    · -- a list comprehension
      rename_i elt tg iter ifs scope ps
      split at h
      · rename_i hc
        simp only [Bool.and_eq_true, decide_eq_true_eq] at hc
        split at h
        · rename_i sk es esrc
          split at h
          · rename_i srcs it ie iifs e1 e2 e3 e4
            split at h
            · rename_i hsl
              cases h
              obtain ⟨p1, p2⟩ := cL_ok (P := Both X B (G.cs n) Wx) (fun _ _ h => ih h) e1
              obtain ⟨hi, hset⟩ := src_ok k esrc p1 p2
              refine both_val rfl (e_comp k.hK k.calm k.nd hi ?_ ?_ (fun s H C cl fp => cT_ok (k.blk _ s H C cl fp) m e2) (fun s H C cl fp => ?_) (fun s H C cl fp => (cE_ok m e3 (k.blk _ s H C cl fp)).pe) (folded_no hset))
              · rw [k.hN, k.sc]; exact blkOk_by hc.1
              · intro j hj
                have := List.all_eq_true.mp hsl j hj
                obtain ⟨p, hp, hq⟩ := List.any_eq_true.mp this
                rw [← eq_of_beq hq]
                exact List.mem_map_of_mem hp
              · obtain ⟨q1, q2⟩ := cL_ok (P := Both (X.blk s H _ (compEnvC _ cl C X.env) fp) B (G.cs n) Wf) (fun _ _ h => cE_ok m h (k.blk _ s H C cl fp)) e4
                match ifs, iifs, q1, hc.2 with
                | [], _, .nil, _ => exact ts_nil
                | [a], _, .cons p .nil, _ => exact ts_one p.pt
            · cases h
          · cases h
        · cases h
      · cases h
    · cases h
end
end G
end
section
set_option Elab.async false
set_option linter.all false
set_option maxRecDepth 100000
/-! GT: try with a tuple of classes, the error kept beyond the suite -/
namespace G
open PySem L2 PySem.Spec
open PyProof.Rows hiding St
theorem flyingZ_keeps {h h' base : Heap} {l : List PySem.Env} {e : Addr} {Z : Obj → Prop} (k : ∀ b o, h.get? b = some o → h'.get? b = some o) (x : HandSPX.FlyingZ base l e Z h) : HandSPX.FlyingZ base l e Z h' := by
  obtain ⟨k1, k2, k3, oe, vs, T, oT, ts, he, hz, hd, h1, hnT, hTe, hT, hdT, h3⟩ := x
  exact ⟨fun b o q => k b o (k1 b o q), k2, Heap.FunFrames.of_keeps (fun b o e _ => ⟨o, k b o e, rfl⟩) k3, oe, vs, T, oT, ts, k _ _ he, hz, hd, h1, hnT, hTe, k _ _ hT, hdT, h3⟩
section
variable {X : Cx} {pins : List (Addr × Obj)} {σ : St} {H : Hp} {s : Shared}
theorem xo_ok {P : Program} {w : World} {H : Hp} {h : Heap} {a C : Addr} {d : Option Addr} {oe : Obj} {vs : Array Value} (he : h.get? a = some oe) (hz : Zc (.ref C) d oe) (hd : oe.data = .fields vs) : ObjOk P w H h a (XO a C d) :=
  ⟨⟨oe, vs, he, hz, hd⟩, ⟨_, he⟩, fun h1 h2 z k => by
    obtain ⟨oe, vs, h1, h2, h3⟩ := z
    exact ⟨oe, vs, k _ h1, h2, h3⟩⟩
/-- an object that is there is tracked from now on -/
theorem Inv.trackX {a C : Addr} {d : Option Addr} {oe : Obj} {vs : Array Value} (I : L2.Inv X pins σ H s) (he : s.heap.get? a = some oe) (hz : Zc (.ref C) d oe) (hd : oe.data = .fields vs) (na : H a = none) (n0 : X.s_0.heap.get? a = none) (np : ∀ p ∈ X.pn ++ pins, p.1 ≠ a) (nL : a ≠ X.env.locals) :
    L2.Inv X pins σ (upd H a (XO a C d)) s := by
  have ne : ∀ {b : Addr} {o : HO}, H b = some o → b ≠ a := fun e z => by rw [z, na] at e; cases e
  refine ⟨I.ok, I.os, I.bare, ?_, I.loc, I.cell, by rw [upd_ne (Ne.symm nL)]; exact I.free, fun x c hc => ?_, fun p hp => ?_, fun b o e => ?_, I.len⟩
  · refine ⟨I.base.keep, I.base.slot, fun b o e n hx => ?_, I.base.there, fun b xs e => ?_, fun b o u e => ?_, fun b ps e => ?_⟩
    · rw [upd_ne (fun z => by rw [z, n0] at e; cases e)]
      exact I.base.free b o e n hx
    · have z := I.base.tups b xs e
      rw [upd_ne (ne z)]; exact z
    · have z := I.base.frzs b o u e
      rw [upd_ne (ne z)]; exact z
    · obtain ⟨more, z⟩ := I.base.tbls b ps e
      exact ⟨more, by rw [upd_ne (ne z)]; exact z⟩
  · have nc : c ≠ a := fun z => by
      obtain ⟨v, o, ho, hv⟩ := I.cell x c hc
      rw [z, he] at ho
      cases ho
      rw [hd] at hv; cases hv
    rw [upd_ne nc]
    exact I.freeC x c hc
  · obtain ⟨p1, p2, p3, p4, p5⟩ := I.pin p hp
    exact ⟨p1, by rw [upd_ne (np p hp)]; exact p2, p3, p4, p5⟩
  · by_cases hb : b = a
    · subst hb
      rw [upd_same] at e
      cases e
      exact xo_ok he hz hd
    · rw [upd_ne hb] at e
      exact (I.hok b o e).stay (fun c u _ q => q) (fun c q => by rw [upd_ne (ne q)]; exact q) fun c xs q => by rw [upd_ne (ne q)]; exact q
/-- the context of an except suite that leans on nothing -/
theorem Inv.suiteN (I : L2.Inv X pins σ H s) (a : Addr) : L2.Inv (X.suite a (X.pn ++ pins)) [] σ H s :=
  ⟨I.ok.suite _ _, I.os, I.bare, I.base, I.loc, I.cell, I.free, I.freeC, fun p hp => I.pin p (by rw [List.append_nil] at hp; exact hp), I.hok, I.len⟩
theorem Inv.unsuiteN {a : Addr} {pn' : List (Addr × Obj)} (I : L2.Inv (X.suite a (X.pn ++ pins)) pn' σ H s) (ok : X.Ok) : L2.Inv X pins σ H s :=
  ⟨ok, I.os, I.bare, I.base, I.loc, I.cell, I.free, I.freeC, fun p hp => I.pin p (List.mem_append_left _ hp), I.hok, I.len⟩
/-- four class names -/
structure Nm4 (X : Cx) (x1 x2 x3 x4 : Str) (c1 c2 c3 c4 : Addr) : Prop where
  g1 : Gl X x1
  g2 : Gl X x2
  g3 : Gl X x3
  g4 : Gl X x4
  d1 : (x1 == ("__debug__" : Str)) = false
  d2 : (x2 == ("__debug__" : Str)) = false
  d3 : (x3 == ("__debug__" : Str)) = false
  d4 : (x4 == ("__debug__" : Str)) = false
  m1 : X.mg x1 = some (.ref c1)
  m2 : X.mg x2 = some (.ref c2)
  m3 : X.mg x3 = some (.ref c3)
  m4 : X.mg x4 = some (.ref c4)
/-- what 'except (..) as n: y = n' wishes of an exception of the body: slot j is n's, slot i is y's -/
def wKeep (K : PySem.W.Frag) (cs : List Value) (j i : Nat) (Wout : WX) (D : Ends) : WX := fun cls d σ H => ∃ (C : Addr) (b : Bool), cls = .ref C ∧ PySem.W.exmAny K cls cs = some b ∧
  (b = true → ∀ a, H a = none → D.nx (((σ.set j (some (.ref a))).set i (some (.ref a))).set j none) (upd H a (XO a C d))) ∧ (b = false → Wout cls d σ H)
theorem ps_try_keep {x1 x2 x3 x4 n y : Str} {c1 c2 c3 c4 : Addr} {i j : Nat} {body : List Stmt} {p1 p2 p3 p4 tp pos pos' py pn2 apos : Pos} {kt : Nat} {tb : WX → TS} {Wout : WX}
    (hex : X.ex = []) (hs : X.stack = X.env :: X.outer) (hf : X.env.frame = some X.env.locals) (hN : X.N.Nodup) (hj : X.N[j]? = some n) (hln : X.env.kindOf n = some .local) (hi : X.N[i]? = some y) (hly : X.env.scope.names.lookup y = some .local) (hnd : (n == ("__debug__" : Str)) = false ∧ (n == ("__classdict__" : Str)) = false)
    (hc : Nm4 X x1 x2 x3 x4 c1 c2 c3 c4) (tk : Takes X Wout)
    (hb : ∀ (W : WX) (pn : List (Addr × Obj)) (xe : Value → Shared → Prop), Takes (X.tr pn xe) W → PassesOwn (model X.prog X.w) X.A X.env xe → PSs (X.tr pn xe) body (tb W)) :
    PS X (.Try body [.ExceptHandler (some (.Tuple [.Name x1 p1, .Name x2 p2, .Name x3 p3, .Name x4 p4] kt tp)) (some n) [.Assign [.Name y py] (.Name n pn2) apos] pos'] [] [] pos) (fun D σ H => tb (wKeep X.K [.ref c1, .ref c2, .ref c3, .ref c4] j i Wout D) D σ H) := by
  refine ⟨fun pins s σ H D I h => ?_⟩
  have ok := I.ok
  have hfr : X.A.frames = some (X.env :: X.outer) := by rw [ok.frames, hs]
  have hloc : L2.Loc X.env.scope n := .inl hln
  refine wpAny_Try_except ?_
  refine wpAny_mono ((hb (wKeep X.K [.ref c1, .ref c2, .ref c3, .ref c4] j i Wout D) (X.pn ++ pins) (fun e s₁ => wpAny (model X.prog X.w) X.A (noteFrame e X.env) (fun _ s₂ => wpAny (model X.prog X.w) X.A (setFlight e none) (fun _ s₃ =>
    wpAny (model X.prog X.w) X.A (handleBy e X.env [.ExceptHandler (some (.Tuple [.Name x1 p1, .Name x2 p2, .Name x3 p3, .Name x4 p4] kt tp)) (some n) [.Assign [.Name y py] (.Name n pn2) apos] pos']) (SP X pins D) X.xe s₃) X.xe s₂) X.xe s₁) (fun u s' xx => ?_) PassesOwn.looking).run [] s σ H D (I.toTry _) h) (fun f s1 hsp => ?_) (fun e s1 he => he)
  · -- the catch
    obtain ⟨a, B, sI, pins', σ', H', cls, d, rfl, J', nb, up, sky, na, os, ag, C, b, ecls, hb1, hyes, hno⟩ := xx
    subst ecls
    have J : L2.Inv X pins σ' H' sI := J'.ofTry ok
    have sky' : Sky B (X.env :: X.outer) a (Zc (.ref C) d) X.env.locals s'.heap := by rw [← hs]; exact sky
    show wpAny (model X.prog X.w) X.A (noteFrame (.ref a) X.env) _ _ _
    refine Sky.land Zc.steady hfr hf sky' fun h3 fl3 up3 => ?_
    have J3 : L2.Inv X pins σ' H' { s' with heap := h3 } := J.landed nb fl3.1 (up.trans up3) os ag
    obtain ⟨oe3, vs3, he3, hz3, hd3⟩ := fl3.there
    have notFr : ∀ {h : Heap} {o : Obj} {vs : Array Value}, h.FunFrames B (X.env :: X.outer) → h.get? a = some o → o.data = .fields vs → a ∉ frs (X.env :: X.outer) := fun {h o vs} ff e dd hm => by
      obtain ⟨_, o', e', hnf⟩ := ff.mem hm
      rw [e] at e'; cases e'
      exact hnf _ dd
    have nfr := notFr fl3.2.2.1 he3 hd3
    have nL : a ≠ X.env.locals := fun z => nfr (List.mem_filterMap.mpr ⟨X.env, List.mem_cons_self, by rw [hf, z]⟩)
    have nF : a ∉ X.fs := fun hm => by
      obtain ⟨e, he, q⟩ := List.mem_filterMap.mp hm
      exact nfr (List.mem_filterMap.mpr ⟨e, List.mem_cons_of_mem _ he, q⟩)
    have nI : sI.heap.get? a = none := by
      cases e : sI.heap.get? a with
      | none => rfl
      | some o =>
        have z := nb a o e (by rw [hs]; exact nfr)
        rw [fl3.2.1] at z; cases z
    have S3 : L2.Inv (X.suite a (X.pn ++ pins)) [] σ' H' { s' with heap := h3 } := Inv.suiteN J3 a
    refine wpAny_handleBy_cons (codeAny_handlers_test ?_) (by intro q; cases q)
    have LT : PySem.W.Looks (model X.prog X.w) h3 (typeOf (.ref a)) (.ref C) := fun A Q E s k q => wpAny_typeOf_ref (k _ _ he3) (by rw [hz3.1]; exact q)
    -- the tuple of the classes
    have ld : ∀ {x : Str} {c : Addr} {p : Pos} {Q E : Value → Shared → Prop}, Gl X x → X.mg x = some (.ref c) → (x == ("__debug__" : Str)) = false → Q (.ref c) { s' with heap := h3 } → wpAny (model X.prog X.w) (X.A.mark (some (.ref a))) (eval (.Name x p) X.env) Q E { s' with heap := h3 } :=
      fun hg hm hd q => ld_glob (X := X.suite a (X.pn ++ pins)) S3 hg hm q hd
    refine Tuple_ ?_
    show wpAny _ _ (spliced [(false, eval (.Name x1 p1) X.env), (false, eval (.Name x2 p2) X.env), (false, eval (.Name x3 p3) X.env), (false, eval (.Name x4 p4) X.env)]) _ _ _
    refine Calls.spliced_cons (ld hc.g1 hc.m1 hc.d1 (Calls.spliced_cons (ld hc.g2 hc.m2 hc.d2 (Calls.spliced_cons (ld hc.g3 hc.m3 hc.d3 (Calls.spliced_cons (ld hc.g4 hc.m4 hc.d4 (Calls.spliced_nil ?_))))))))
    refine wpAny_newObj_type ?_ (by show 4 ≤ sizeLine; decide)
    have kp : ∀ b o, h3.get? b = some o → (h3.push { cls := .type "tuple", data := .seq [Value.ref c1, .ref c2, .ref c3, .ref c4].toArray }).get? b = some o := fun b o e => Heap.get?_push_of_some _ e
    have fl5 := flyingZ_keeps kp fl3
    have J5 : L2.Inv X pins σ' H' { s' with heap := h3.push { cls := .type "tuple", data := .seq [Value.ref c1, .ref c2, .ref c3, .ref c4].toArray } } := J3.kept (t' := s'.toks) kp
    have up5 : h3.UpToSlots (h3.push { cls := .type "tuple", data := .seq [Value.ref c1, .ref c2, .ref c3, .ref c4].toArray }) := Heap.UpToSlots.of_keeps kp
    have LM := PySem.W.exm_tup4 (M := model X.prog X.w) (J3.kIn.keeps kp) (LT.keeps kp) (Heap.get?_push_at rfl rfl) hb1
    refine LM.here ?_
    cases b with
    | true =>
      refine codeAny_handlers_suite_as ?_
      refine HandSPX.lands_againZ fl5 fun h4 fl4 up4 => ?_
      have J4 : L2.Inv X pins σ' H' { s' with heap := h4 } := J.landed nb fl4.1 (((up.trans up3).trans up5).trans up4) os ag
      obtain ⟨oe4, vs4, he4, hz4, hd4⟩ := fl4.there
      have n0 : X.s_0.heap.get? a = none := by
        cases e : X.s_0.heap.get? a with
        | none => rfl
        | some o =>
          obtain ⟨o', z⟩ := J.base.there a o e (by rw [hex]; simp)
          rw [nI] at z; cases z
      have np : ∀ p ∈ X.pn ++ pins, p.1 ≠ a := fun p hp z => by
        have q := (J.pin p hp).1
        rw [z, nI] at q; cases q
      have K4 := Inv.trackX J4 he4 hz4 hd4 na n0 np nL
      have S4 := Inv.suiteN K4 a
      refine store_ok (X := X.suite a (X.pn ++ pins)) (v := .ref a) S4 hN hj hloc rfl (fun s5 S5 => ?_) (.inr hln)
      have hjl : j < σ'.length := by
        have := J.len
        rw [this]; exact (List.getElem?_eq_some_iff.mp hj).1
      have pe : PE (X.suite a (X.pn ++ pins)) (.Name n pn2) (tVar j) := pe_var hj (.inl hln) hnd.1 hnd.2
      have st := ps_set (X := X.suite a (X.pn ++ pins)) (i := i) (x := y) (pos := apos) (pos' := py) hN hi (.inl hly) pe (by rfl) (.inr hly)
      refine wpAny_mono ((pss_one st).run [] s5 _ _ { nx := fun σ6 H6 => D.nx (σ6.set j none) H6, rt := fun _ _ => False } S5 ⟨.ref a, List.getElem?_set_self hjl, hyes rfl a na⟩) (fun f s6 hsp => ?_) (fun _ _ z => False.elim z)
      have end_ : ∀ {σ6 : L2.St} {H6 : Hp} {Q : Shared → Prop}, L2.Inv (X.suite a (X.pn ++ pins)) [] σ6 H6 s6 → (∀ s7, L2.Inv X pins (σ6.set j none) H6 s7 → Q s7) →
          wpAny (model X.prog X.w) X.A (do bindName X.env n .none; unbindBehindTheSuite X.env n pos') (fun _ s7 => Q s7) X.xe s6 := fun {σ6 H6 Q} S6 hq => gone_ok (Inv.unsuiteN S6 ok) hN hj hln hq
      cases f with
      | next =>
        obtain ⟨σ6, H6, S6, q6⟩ := hsp
        exact end_ S6 fun s7 J7 => ⟨_, _, J7, q6⟩
      | brk =>
        obtain ⟨σ6, H6, S6, q6⟩ := hsp
        exact q6.elim
      | cont =>
        obtain ⟨σ6, H6, S6, q6⟩ := hsp
        exact q6.elim
      | ret u =>
        obtain ⟨v6, σ6, H6, S6, r6, q6⟩ := hsp
        exact q6.elim
    | false =>
      show wpAny _ X.A (handleBy (.ref a) X.env []) _ _ _
      refine wpAny_handleBy_nil ?_
      obtain ⟨k1, k2, k3, oe, vs, T, oT, ts', he, hz, hd, h1, hr⟩ := id fl5
      unfold PySem.passOn
      refine wpAny_bind (wpAny_field he hd h1 ?_)
      rw [if_neg (show ¬ ((Value.ref T == Value.none) = true) from by simp)]
      have fin : wpAny (model X.prog X.w) X.A (setFlight (.ref a) X.env.frame) (fun _ s4 => wpAny (model X.prog X.w) X.A (throw (.ref a) : Sem Flow) (SP X pins D) X.xe s4) X.xe { s' with heap := h3.push { cls := .type "tuple", data := .seq [Value.ref c1, .ref c2, .ref c3, .ref c4].toArray } } := by
        rw [hf]
        refine HandSPX.setFlight_upZ fl5 fun h4 hh4 up4 => wpAny_throw (tk _ _ ?_)
        exact ⟨a, B, sI, pins, σ', H', .ref C, d, rfl, J, nb, ((up.trans up3).trans up5).trans up4, .inr (.inr (by rw [hs]; exact hh4)), na, os, ag, hno rfl⟩
      first
        | exact wpAny_bind (wpAny_pure (wpAny_bind fin))
        | exact wpAny_bind fin
  · cases f with
    | next =>
      obtain ⟨σ', H', J', q⟩ := hsp
      exact wpAny_execs_nil ⟨σ', H', J'.ofTry ok, q⟩
    | brk =>
      obtain ⟨σ', H', J', q⟩ := hsp
      exact ⟨σ', H', J'.ofTry ok, q⟩
    | cont =>
      obtain ⟨σ', H', J', q⟩ := hsp
      exact ⟨σ', H', J'.ofTry ok, q⟩
    | ret u =>
      obtain ⟨v, σ', H', J', r, q⟩ := hsp
      exact ⟨v, σ', H', J'.ofTry ok, r, q⟩
end
/-! ### the statements -/
section
variable {X : Cx} {B : Bx} {c : Cs} {nm : Nat → List Str} {n : Nat} {Wx : WX} {pos : Pos} {H : Hp} {w : Wd} {h : Hw}
theorem try_core {ib : List S} {hs : List (List Nat × Nat × HV)} {D : Ends} {σ : L2.St} {Wi : WX} (q : rSt B c nm n (.try ib hs) Wx D σ H)
    (hW : ∀ (k : Nat) (l : List String) (fs : List (Str × W)) (env' : Env) (h' : Hw) (w' : Wd) (H' : Hp) (σ' : L2.St) (d : Option Addr), c.ex k = some l → RH B H' w' h' → RS B H' w' env' σ' → XF B H' w' fs d →
      LandsS B w' H' (match catch? k fs env' hs with
        | some e1 => .ok .nx e1 h'
        | none => .exc k fs env' h') D Wx → Wi (.ref (B.xc k)) d σ' H') : rSs B c nm n ib Wi D σ H := by
  obtain ⟨w, h, env, r, s, l⟩ := q
  refine ⟨w, h, env, r, s, ?_⟩
  have l : LandsS B w H (match exB c nm n ib env h with
    | .exc k fs e h1 => (match c.ex k with
      | some _ => (match catch? k fs e hs with
        | some e1 => .ok .nx e1 h1
        | none => .exc k fs e h1)
      | none => .stuck)
    | o => o) D Wx := l
  show LandsS B w H (exB c nm n ib env h) D Wi
  cases e : exB c nm n ib env h with
  | stuck => rw [e] at l; exact l
  | ok fl e' h' => rw [e] at l; exact l
  | exc k fs e' h' =>
    rw [e] at l
    dsimp only at l
    cases ek : c.ex k with
    | none => rw [ek] at l; exact False.elim l
    | some lk =>
      rw [ek] at l
      exact fun w' H' σ' d kp r' s' xf => hW k lk fs e' h' w' H' σ' d ek r' s' xf (LandsS.from l kp)
theorem s_tryK {x1 x2 x3 x4 n' y : Str} {k1 k2 k3 k4 : Nat} {i j : Nat} {body : List Stmt} {p1 p2 p3 p4 tp pos' py pn2 apos : Pos} {kt : Nat} {ib : List S} (F : ExF X.K B.xc c.ex) (hk1 : (c.ex k1).isSome = true) (hk2 : (c.ex k2).isSome = true) (hk3 : (c.ex k3).isSome = true) (hk4 : (c.ex k4).isSome = true)
    (hex : X.ex = []) (hs : X.stack = X.env :: X.outer) (hf : X.env.frame = some X.env.locals) (hN : X.N.Nodup) (hj : X.N[j]? = some n') (hln : X.env.kindOf n' = some .local) (hi : X.N[i]? = some y) (hly : X.env.scope.names.lookup y = some .local) (hnd : (n' == ("__debug__" : Str)) = false ∧ (n' == ("__classdict__" : Str)) = false)
    (hc : Nm4 X x1 x2 x3 x4 (B.xc k1) (B.xc k2) (B.xc k3) (B.xc k4)) (tk : Takes X Wx) (hij : i ≠ j)
    (hb : ∀ (W : WX) (pn : List (Addr × Obj)) (xe : Value → Shared → Prop), Takes (X.tr pn xe) W → PassesOwn (model X.prog X.w) X.A X.env xe → PSs (X.tr pn xe) body (rSs B c nm n ib W)) :
    PS X (.Try body [.ExceptHandler (some (.Tuple [.Name x1 p1, .Name x2 p2, .Name x3 p3, .Name x4 p4] kt tp)) (some n') [.Assign [.Name y py] (.Name n' pn2) apos] pos'] [] [] pos) (rSt B c nm n (.try ib [([k1, k2, k3, k4], i, .exc j)]) Wx) := by
  refine PS.imp (ps_try_keep hex hs hf hN hj hln hi hly hnd hc tk hb) fun D σ H q => try_core q fun k l fs env' h' w' H' σ' d ek r' s' xf l1 => ?_
  have em : ∀ {m : Nat}, (c.ex m).isSome = true → PySem.W.exmOne X.K (.ref (B.xc k)) (.ref (B.xc m)) = some (k == m) := fun hm => by
    obtain ⟨l', e'⟩ := Option.isSome_iff_exists.mp hm
    exact F.em k l _ l' ek e'
  refine ⟨B.xc k, [k1, k2, k3, k4].contains k, rfl, ?_, fun ht a na => ?_, fun hn => ?_⟩
  · unfold PySem.W.exmAny PySem.W.exmAny PySem.W.exmAny PySem.W.exmAny PySem.W.exmAny
    rw [em hk1, em hk2, em hk3, em hk4]
    simp only [List.contains_cons, List.contains_nil]
  · have l1 : LandsS B w' H' (match (if [k1, k2, k3, k4].contains k then some ((((env'.set j (some (.exc k fs))).set i (some (.exc k fs))).set j none)) else none) with
        | some e1 => .ok .nx e1 h'
        | none => .exc k fs env' h') D Wx := l1
    rw [ht, if_pos rfl] at l1
    have kp := Kp.upd0 (w := w') (o := XO a (B.xc k) d) na
    have qx : RV B (upd H' a (XO a (B.xc k) d)) w' (.exc k fs) (.ref a) := by
      refine ⟨a, d, rfl, upd_same, ?_⟩
      rcases xf with xf | ⟨dd, fv, e1, e2, e3⟩
      · exact .inl xf
      · exact .inr ⟨dd, fv, e1, kp.h _ _ e2 (fun z => by
          obtain ⟨o, eo, co⟩ := r'.mut z
          rw [e2] at eo; cases eo; cases co), RFs.mono kp.le r' fs fv e3⟩
    have s2 := (((s'.mono kp r').set j qx).set i qx).drop j
    exact l1 w' _ _ kp (r'.upd0 na) s2
  · have l1 : LandsS B w' H' (match (if [k1, k2, k3, k4].contains k then some ((((env'.set j (some (.exc k fs))).set i (some (.exc k fs))).set j none)) else none) with
        | some e1 => .ok .nx e1 h'
        | none => .exc k fs env' h') D Wx := l1
    rw [hn, if_neg Bool.false_ne_true] at l1
    exact l1 w' H' σ' d (Kp.refl _ _) r' s' xf
/-! several clauses, each with y = a text -/
def toHV (l : List (Nat × Nat × Str)) : List (List Nat × Nat × HV) := l.map fun q => ([q.1], q.2.1, .cst (.str q.2.2))
def toWm (B : Bx) (l : List (Nat × Nat × Str)) : List (Value × (Addr → Value → Option Addr → TS)) := l.map fun q => (.ref (B.xc q.1), fun _ _ _ => tAsg (tC (.str q.2.2)) (gName q.2.1))
inductive HdM (X : Cx) (B : Bx) (ex : Nat → Option (List String)) : List ExceptHandler → List (Nat × Nat × Str) → Prop where
  | nil : HdM X B ex [] []
  | cons {x y z : Str} {k i j : Nat} {np py cp apos pos' : Pos} {hds : List ExceptHandler} {l : List (Nat × Nat × Str)} (hc : Names X x (.ref (B.xc k))) (hk : (ex k).isSome = true) (hi : X.N[i]? = some y) (hly : X.env.scope.names.lookup y = some .local) (r : HdM X B ex hds l) :
    HdM X B ex (.ExceptHandler (some (.Name x np)) none [.Assign [.Name y py] (.Constant (.str z) j cp) apos] pos' :: hds) ((k, i, z) :: l)
theorem HdM.ok (hN : X.N.Nodup) : ∀ {hds : List ExceptHandler} {l : List (Nat × Nat × Str)}, HdM X B c.ex hds l → HdsOk X hds (toWm B l)
  | _, _, .nil => .nil
  | _, _, .cons hc hk hi hly r => .cons hc (fun a oe cls d pn hz hf => PSs.imp (pss_one (ps_set (X := X.suite a ((a, oe) :: pn)) hN hi (.inl hly) pe_str (by rfl) (.inr hly))) fun D σ H q => q) (HdM.ok hN r)
theorem many_ok (F : ExF X.K B.xc c.ex) {k : Nat} {lk : List String} {fs : List (Str × W)} {d : Option Addr} {D : Ends} {env : Env} {σ : L2.St} (hk : c.ex k = some lk) (r : RH B H w h) (s : RS B H w env σ) (xf : XF B H w fs d) : ∀ {hds : List ExceptHandler} {l : List (Nat × Nat × Str)}, HdM X B c.ex hds l →
    LandsS B w H (match catch? k fs env (toHV l) with
      | some e1 => .ok .nx e1 h
      | none => .exc k fs env h) D Wx → wMany X.K Wx D (toWm B l) (.ref (B.xc k)) d σ H
  | _, _, .nil, l1 => by
    have l1 : LandsS B w H (.exc k fs env h) D Wx := l1
    exact l1 w H σ d (Kp.refl _ _) r s xf
  | _, _, .cons (k := m) (i := i) (z := z) (l := l) hc hm hi hly hr, l1 => by
    obtain ⟨lm, em⟩ := Option.isSome_iff_exists.mp hm
    refine ⟨k == m, F.em k lk m lm hk em, fun hb a na => ?_, fun hb => ?_⟩
    · have l1 : LandsS B w H (match (if [m].contains k then some (env.set i (some (.str z))) else catch? k fs env (toHV l)) with
        | some e1 => .ok .nx e1 h
        | none => .exc k fs env h) D Wx := l1
      rw [if_pos (by simpa [List.contains_cons] using hb)] at l1
      exact l1 w H _ (Kp.refl _ _) r (s.set i (v := .str z) rfl)
    · have l1 : LandsS B w H (match (if [m].contains k then some (env.set i (some (.str z))) else catch? k fs env (toHV l)) with
        | some e1 => .ok .nx e1 h
        | none => .exc k fs env h) D Wx := l1
      rw [if_neg (by simpa [List.contains_cons] using hb)] at l1
      exact many_ok F hk r s xf hr l1
theorem s_tryM {body : List Stmt} {ib : List S} {h₀ : ExceptHandler} {hds : List ExceptHandler} {l : List (Nat × Nat × Str)} (F : ExF X.K B.xc c.ex) (hs : X.stack = X.env :: X.outer) (hf : X.env.frame = some X.env.locals) (hN : X.N.Nodup) (tk : Takes X Wx) (hh : HdM X B c.ex (h₀ :: hds) l)
    (hb : ∀ (W : WX) (pn : List (Addr × Obj)) (xe : Value → Shared → Prop), Takes (X.tr pn xe) W → PassesOwn (model X.prog X.w) X.A X.env xe → PSs (X.tr pn xe) body (rSs B c nm n ib W)) :
    PS X (.Try body (h₀ :: hds) [] [] pos) (rSt B c nm n (.try ib (toHV l)) Wx) :=
  PS.imp (ps_try_many hs hf tk hb (HdM.ok hN hh)) fun D σ H q => try_core q fun k lk fs env' h' w' H' σ' d ek r' s' xf l1 => many_ok F ek r' s' xf hh l1

/-! ### raise -/
def exBase : List (String × String × String × List Value) := [("RuntimeError", "RuntimeError.__new__", "RuntimeError.__init__", [.type "RuntimeError", .type "Exception", .type "BaseException", .type "object"]),
  ("LookupError", "LookupError.__new__", "LookupError.__init__", [.type "LookupError", .type "Exception", .type "BaseException", .type "object"]), ("ValueError", "ValueError.__new__", "ValueError.__init__", [.type "ValueError", .type "Exception", .type "BaseException", .type "object"])]
theorem exBase_ok : ∀ q ∈ exBase, ExcBaseFacts q.1 q.2.1 q.2.2.1 q.2.2.2 := fun q hq => by
  simp only [exBase, List.mem_cons, List.not_mem_nil, or_false] at hq
  rcases hq with rfl | rfl | rfl
  · exact F.excBase_RuntimeError
  · exact F.excBase_LookupError
  · exact F.excBase_ValueError
/-- a class without own __init__ -/
structure Mk0 (K : PySem.W.Frag) (C : Addr) : Prop where
  ex : ∃ q ∈ exBase, PySem.W.excIn K C q.2.2.2 q.2.1 = true
  kC : PySem.W.keepIn K (.ref C) = true
  be : PySem.W.subIn K (.ref C) (.type "BaseException") = some true
  ty : PySem.W.typeIn K (.ref C) = some (.type "type")
theorem pmk0 {C : Addr} {x : Str} {p : Pos} (M : Mk0 X.K C) (gC : X.mg x = some (.ref C)) (hg : Gl X x) (hdb : (x == ("__debug__" : Str)) = false) : PMk X (.Call (.Name x p) [] [] pos) (fun σ H Q => Q (.ref C) none H) := by
  intro pins s σ H Q I h
  obtain ⟨q, hq, e⟩ := M.ex
  refine PySem.wpAny_Call_Name_kw (ld_glob I hg gC ?_ hdb)
  refine PySem.W.callWith_K0 I.kIn M.kC ?_
  obtain ⟨hp, g, dr, tk, os⟩ := s
  obtain ⟨bm, N, nm, qn, bs, hdct, sn, sub, ab, col, dd, k0, k1, k2, k3, k5, mN, hC, hN, hni, T⟩ := exc_obj I.kIn e
  refine wpAny_call_exc_subT (exBase_ok q hq) T hC hN hni (fun h' e hm => ?_) (by simp)
  exact mk_of I hm (raises_own M.be M.ty) h (I.hok.gone hm.new)
theorem s_raise0 {k : Nat} {x : Str} {p rp : Pos} (hc : X.calm = true) (tk : Takes X Wx) (M : Mk0 X.K (B.xc k)) (gC : X.mg x = some (.ref (B.xc k))) (hg : Gl X x) (hdb : (x == ("__debug__" : Str)) = false) (hnm : nm k = []) :
    PS X (.Raise (some (.Call (.Name x p) [] [] rp)) none pos) (rSt B c nm n (.raise k []) Wx) := by
  refine PS.imp (ps_raise hc tk (pmk0 M gC hg hdb)) fun D σ H ⟨w, h, env, r, s, l⟩ => ?_
  have l : LandsS B w H (match exFs nm k [] with
    | some fs => .exc k fs env h
    | none => .stuck) D Wx := l
  unfold exFs at l
  rw [hnm] at l
  exact l w H σ none (Kp.refl _ _) r s (.inl ⟨rfl, rfl⟩)
end
end G
end
section
set_option Elab.async false
set_option linter.all false
set_option maxRecDepth 100000
set_option maxHeartbeats 2000000
/-! GI: an own error whose __init__ says super().__init__(..) and stores its parameters -/
namespace G
open PySem L2 PySem.Spec
open PyProof.Rows hiding St
open PySem.W (Frag)
open Builtin Builtin.ObjectAttr

/-- a built-in base: what the library tells of it -/
structure XBase (B newId initId : String) (bm : List Value) : Prop where
  eb : ExcBaseFacts B newId initId bm
  kx : PySem.W.KxsFacts B initId
  st : StoreFacts B bm "object.__setattr__" "object"
theorem xbase_ok : ∀ q ∈ exBase, XBase q.1 q.2.1 q.2.2.1 q.2.2.2 := fun q hq => by
  simp only [exBase, List.mem_cons, List.not_mem_nil, or_false] at hq
  rcases hq with rfl | rfl | rfl
  · exact ⟨F.excBase_RuntimeError, PySem.W.kxs_RuntimeError, F.store_RuntimeError⟩
  · exact ⟨F.excBase_LookupError, PySem.W.kxs_LookupError, F.store_LookupError⟩
  · exact ⟨F.excBase_ValueError, PySem.W.kxs_ValueError, F.store_ValueError⟩
/-- the error's object, as it is made -/
abbrev exR (C : Addr) (d : Option Addr) (t1 : Addr) : Obj := { cls := .ref C, dict := d, data := .fields #[.ref t1, .none, .none, .none, .bool false, .none] }
/-- what the written part says of such a class: its base's ids; its fields -/
structure Mk1 (P : Program) (K : Frag) (mg : Str → Option Value) (C fI cc cda : Addr) (B newId initId : String) (bm : List Value) (fs : List Str) : Prop where
  xb : XBase B newId initId bm
  cls : ∃ nm q N bs bmr sn sub ab col dd k0 k1 k2 k3 k5, K.lookup C = some (excClassObj nm q C N bs bmr true sn sub ab col dd k0 k1 k2 k3 k5 newId) ∧ PySem.W.excTail bm bmr = true
  sa : PySem.W.findIn K (.ref C) "__setattr__" = some (some (.builtin "object.__setattr__"))
  nf : ∀ f ∈ fs, PySem.W.findIn K (.ref C) f = some none
  iC : PySem.W.findIn K (.ref C) "__init__" = some (some (.ref fI))
  tC : PySem.W.typeIn K (.ref fI) = some (.type "function")
  kC : PySem.W.keepIn K (.ref C) = true
  be : PySem.W.subIn K (.ref C) (.type "BaseException") = some true
  ty : PySem.W.typeIn K (.ref C) = some (.type "type")
  sB : PySem.W.subIn K (.ref C) (.type B) = some true
  mC : PySem.W.mroIn K C (.ref C) = some true
  op : PySem.W.nsIn K cStatics "thirdparty.any" = some none
  su : PySem.W.ks_superIn K C C "__init__" = some (some (.builtin initId))
  cell : ∃ cl cld csl, K.lookup cc = some ⟨cl, cld, .cell (some (.ref C)), csl⟩
  code : ∃ ccl cdd vs ccs file tf, K.lookup cda = some ⟨ccl, cdd, .fields vs, ccs⟩ ∧ vs[2]? = some (.str file tf) ∧ ((P.main.file : Str) == file) = true
  sup : mg "super" = none
  top : (P.main.scope.names.lookup ("super" : Str)).isSome = false
section
variable {P : Program} {K : Frag} {mg : Str → Option Value} {C fI cc cda : Addr} {B newId initId : String} {bm : List Value} {fs : List Str}
theorem Mk1.clsIn (T : Mk1 P K mg C fI cc cda B newId initId bm fs) : ∃ cd bmr, PySem.W.clsIn K C = some cd ∧ cd.mro = .ref C :: bmr ∧ PySem.W.excTail bm bmr = true ∧ cd.hasDict = true := by
  obtain ⟨nm, q, N, bs, bmr, sn, sub, ab, col, dd, k0, k1, k2, k3, k5, hC, hb⟩ := T.cls
  exact ⟨{ name := nm, bases := bs, mro := .ref C :: bmr, ns := N, qualname := q, hasDict := true, slotNames := sn, subclasses := sub, abstract := ab, collection := col, hasDel := false }, bmr, by unfold PySem.W.clsIn; rw [hC] <;> rfl, rfl, hb, rfl⟩
theorem Mk1.over (T : Mk1 P K mg C fI cc cda B newId initId bm fs) : PySem.W.excOver K C bm = true := by
  obtain ⟨cd, bmr, h1, h2, h3, _⟩ := T.clsIn
  unfold PySem.W.excOver
  rw [h1]
  show (match cd.mro with | .ref C' :: bm' => C' == C && PySem.W.excTail bm bm' | _ => false) = true
  rw [h2]
  simp [h3]
section
variable {prog : Program} {w : World} {A : Around} {E : Value → Shared → Prop} {hp : Heap} {g : Array GenState} {dr : Drawn} {t : Nat} {os : OsState}
/-- self.f = v, the first one -/
theorem own_new {name : Str} {v : Value} {x t1 : Addr} {Q : Unit → Shared → Prop} (T : Mk1 P K mg C fI cc cda B newId initId bm fs) (hn : name ∈ fs) (X : K.In hp) (hx : hp.get? x = some (exR C none t1))
    (hq : ∀ h' tk' dx, (∀ b o, b ≠ x → hp.get? b = some o → h'.get? b = some o) → hp.objs.size ≤ dx → dx ≠ x → h'.get? x = some (exR C (some dx) t1) → h'.Ns1 dx (fun y => if y = name then some v else none) → Q () ⟨h', g, dr, tk', os⟩) :
    wpAny (model prog w) A (setAttr (.ref x) name v) Q E ⟨hp, g, dr, t, os⟩ := by
  have I : PySem.W.InstAt hp x (exR C none t1) C none := ⟨hx, rfl, rfl, trivial⟩
  have hxs : x ≠ hp.objs.size := Nat.ne_of_lt (Heap.lt_size hx)
  obtain ⟨cd, bmr, h1, h2, h3, h4⟩ := T.clsIn
  have hcls : PySem.W.Looks (model prog w) hp (classData C) cd := PySem.W.looks_clsIn X h1
  obtain ⟨nm, bs, mro, ns, qn, hd, sn, sb, ab, col, del⟩ := cd
  dsimp only at h4
  subst h4
  refine PySem.W.set_plain X I T.sa (PySem.W.osa_openX (r := none) T.xb.st X I T.over (by unfold PySem.W.takerIn; rw [T.nf name hn]; rfl) fun b => ?_)
  unfold storeInOwnDict ownDictForStores
  repeat (first | with_reducible refine PySem.HandSPX.store_in_new ?_ ?_ | with_reducible refine wpAny_loadPart_at hx ?_ | with_reducible refine hcls.at ?_ | wp_step)
  · exact ⟨_, #[], _, (Heap.get?_update_ne _ _ _ _ hxs.symm).trans (Heap.get?_push_at rfl rfl), rfl, fun e he => absurd he (by simp), fun _ => rfl⟩
  · intro h' tk' hn' hs
    have hx₁ : (hp.push { cls := .type "dict", data := .dict #[] }).get? x = some (exR C none t1) := Heap.get?_push_of_some _ hx
    refine hq h' tk' hp.objs.size (fun b o hb ho => ?_) (Nat.le_refl _) hxs.symm ?_ hn'
    · exact (hs.2 b (Nat.ne_of_lt (Heap.lt_size ho))).trans ((Heap.get?_update_ne _ _ _ _ hb).trans (Heap.get?_push_of_some _ ho))
    · exact (hs.2 x hxs).trans (Heap.get?_update_self _ hx₁ rfl)
/-- .. a further one -/
theorem own_old {name : Str} {v : Value} {x dx t1 : Addr} {m0 : Str → Option Value} {nl : List Str} {Q : Unit → Shared → Prop} (T : Mk1 P K mg C fI cc cda B newId initId bm fs) (hn : name ∈ fs) (X : K.In hp) (hx : hp.get? x = some (exR C (some dx) t1)) (hns : hp.Ns1 dx m0) (hw : Within m0 nl) (hz : nl.length ≤ 1000)
    (hq : ∀ h' tk', (∀ b o, b ≠ dx → hp.get? b = some o → h'.get? b = some o) → h'.Ns1 dx (fun y => if y = name then some v else m0 y) → Q () ⟨h', g, dr, tk', os⟩) :
    wpAny (model prog w) A (setAttr (.ref x) name v) Q E ⟨hp, g, dr, t, os⟩ := by
  obtain ⟨oD, esD, epD, hoD, hdD, _⟩ := hns.count hw
  have I : PySem.W.InstAt hp x (exR C (some dx) t1) C (some oD) := ⟨hx, rfl, rfl, hoD⟩
  obtain ⟨cd, bmr, h1, h2, h3, h4⟩ := T.clsIn
  have hcls : PySem.W.Looks (model prog w) hp (classData C) cd := PySem.W.looks_clsIn X h1
  obtain ⟨nm, bs, mro, ns, qn, hd, sn, sb, ab, col, del⟩ := cd
  dsimp only at h4
  subst h4
  refine PySem.W.set_plain X I T.sa (PySem.W.osa_openX (r := none) T.xb.st X I T.over (by unfold PySem.W.takerIn; rw [T.nf name hn]; rfl) fun b => ?_)
  unfold storeInOwnDict ownDictForStores
  repeat (first | with_reducible refine PySem.ESX.store_in_old hns hw hz ?_ | with_reducible refine wpAny_loadPart_at hx ?_ | with_reducible refine hcls.at ?_ | wp_step)
  intro h' tk' hn' hs
  exact hq h' tk' (fun b o hb ho => (hs.2 b hb).trans ho) hn'
end
/-! ### the text of __init__ -/
def iArgs (l : List (Str × Pos)) : List Expr := l.map fun q => .Name q.1 q.2
def iSt (l : List (Str × Pos × Pos × Pos × Pos)) : List Stmt := l.map fun q => .Assign [.Attribute (.Name "self" q.2.1) q.1 q.2.2.1] (.Name q.1 q.2.2.2.1) q.2.2.2.2
def puts : List (Str × Value) → (Str → Option Value) → Str → Option Value
  | [], m => m
  | (f, u) :: r, m => puts r fun y => if y = f then some u else m y
section
variable {prog : Program} {w : World} {A : Around} {E : Value → Shared → Prop} {g : Array GenState} {dr : Drawn} {os : OsState} {fd : FuncData} {L : Addr} {m : Str → Option Value} {x : Addr}
theorem kept_but {K : Frag} {h h' : Heap} {x : Addr} (X : K.In h) (hx : K.lookup x = none) (k : ∀ b o, b ≠ x → h.get? b = some o → h'.get? b = some o) : K.In h' := fun a o e => k a o (fun z => by rw [z, hx] at e; cases e) (X a o e)
theorem k_fresh {K : Frag} {h : Heap} {x : Addr} (X : K.In h) (hx : h.objs.size ≤ x) : K.lookup x = none := by
  cases e : K.lookup x with
  | none => rfl
  | some o => exact absurd (Heap.lt_size (X _ _ e)) (Nat.not_lt.mpr hx)
/-- the further stores -/
theorem stores_old (T : Mk1 P K mg C fI cc cda B newId initId bm fs) (hk : fd.scope.kind = .function) (hs : (callEnv fd L fI).kindOf "self" = some .local) (ms : m "self" = some (.ref x)) :
    ∀ (l : List (Str × Pos × Pos × Pos × Pos)) (us : List Value) (hp : Heap) (t : Nat) (dx t1 : Addr) (m0 : Str → Option Value) (nl : List Str) (Q : Flow → Shared → Prop), l.length = us.length → (∀ q : Str × Pos × Pos × Pos × Pos, q ∈ l → q.1 ∈ fs ∧ (callEnv fd L fI).kindOf q.1 = some .local ∧ (q.1 == ("__debug__" : Str)) = false) →
      (∀ (i : Nat) (q : Str × Pos × Pos × Pos × Pos) (u : Value), l[i]? = some q → us[i]? = some u → m q.1 = some u) → K.In hp → K.lookup dx = none → hp.Ns L m → L ≠ dx → x ≠ dx → hp.get? x = some (exR C (some dx) t1) → hp.Ns1 dx m0 → Within m0 nl → nl.length + l.length ≤ 1000 →
      (∀ h' tk', (∀ b o, b ≠ dx → hp.get? b = some o → h'.get? b = some o) → h'.Ns1 dx (puts ((l.map fun q : Str × Pos × Pos × Pos × Pos => q.1).zip us) m0) → Q .next ⟨h', g, dr, tk', os⟩) →
      wpAny (model prog w) A (execs (iSt l) (callEnv fd L fI)) Q E ⟨hp, g, dr, t, os⟩
  | [], us, hp, t, dx, t1, m0, nl, Q, hl, _, _, X, _, _, _, _, hx, hns, _, _, hq => by
    cases us with
    | nil => exact wpAny_execs_nil (hq hp t (fun _ _ _ e => e) hns)
    | cons _ _ => cases hl
  | (f, a, b, c, d) :: l, us, hp, t, dx, t1, m0, nl, Q, hl, hf, hm, X, kd, hL, nL, nx, hx, hns, hw, hz, hq => by
    cases us with
    | nil => cases hl
    | cons u us =>
      obtain ⟨f1, f2, f3⟩ := hf _ List.mem_cons_self
      refine wpAny_execs_cons (plainObj_wpAny_Assign_Attribute ?_ (by rfl))
      refine PySem.ldc hk f2 hL (hm 0 _ u rfl rfl) (PySem.ldc hk hs hL ms ?_) f3
      refine own_old T f1 X hx hns hw (by simp only [List.length_cons] at hz; omega) fun h' tk' k hn => ?_
      show wpAny _ _ (execs (iSt l) (callEnv fd L fI)) _ _ _
      refine stores_old T hk hs ms l us h' tk' dx t1 _ (f :: nl) Q (by simpa using hl) (fun q hq => hf q (List.mem_cons_of_mem _ hq)) (fun i q u e1 e2 => hm (i + 1) q u (by simpa using e1) (by simpa using e2)) (kept_but X kd k) kd (hL.at fun o q => k _ _ nL q) nL nx (k _ _ nx hx) hn (Within.cons f u hw) (by simp only [List.length_cons] at hz ⊢; omega) fun h2 t2 k2 hn2 => ?_
      exact hq h2 t2 (fun b o hb e => k2 b o hb (k b o hb e)) hn2
end
/-! ### __init__ -/
theorem lookup_of_mem {l : List (Str × Value)} : (l.map (·.1)).Nodup → ∀ {k : Str} {v : Value}, (k, v) ∈ l → l.lookup k = some v := by
  induction l with
  | nil => intro _ k v h; cases h
  | cons q r ih =>
    intro hn k v h
    obtain ⟨a, b⟩ := q
    rw [List.map_cons, List.nodup_cons] at hn
    rcases List.mem_cons.mp h with z | z
    · cases z
      simp [List.lookup]
    · have ne : (k == a) = false := by
        rw [beq_eq_false_iff_ne]
        intro e
        subst e
        exact hn.1 (List.mem_map_of_mem (f := (·.1)) z)
      rw [List.lookup_cons, ne]
      exact ih hn.2 z
theorem lookup_rev {l : List (Str × Value)} (hn : (l.map (·.1)).Nodup) {k : Str} {v : Value} (h : (k, v) ∈ l) : l.reverse.lookup k = some v :=
  lookup_of_mem (by rw [List.map_reverse]; exact (List.reverse_perm _).nodup_iff.mpr hn) (List.mem_reverse.mpr h)
/-- the def of __init__, as it stands -/
structure IDef (K : Frag) (fI cc cda : Addr) (fs : List Str) (fd : FuncData) : Prop where
  lk : ∃ oc od osl, K.lookup fI = some ⟨oc, od, .func fd, osl⟩
  cd : fd.code = .ref cda
  cin : PySem.W.codeIn K fd.code fd.qualname = true
  body : ∃ p1 p2 p3 p4 p5 la ls, fd.body = .stmts (.Expr (.Call (.Attribute (.Call (.Name "super" p1) [] [] p2) "__init__" p3) (iArgs la) [] p4) p5 :: iSt ls) ∧ la.map (·.1) = fs ∧ ls.map (fun q => q.1) = fs ∧ (p3.endLine == p4.line) = true
  gl : fd.globals = mainGlobals
  bu : fd.builtins = builtinsNs
  cl : fd.closure = [(("__class__" : Str), cc)]
  ar : ∃ ar, (fd.params.posonlyargs ++ fd.params.args).head? = some ar ∧ ar.arg = "self"
  kind : fd.scope.kind = .function
  co : fd.scope.isCoroutine = false
  gen : fd.scope.isGenerator = false
  ks : fd.scope.names.lookup ("super" : Str) = some .globalImplicit
  kc : fd.scope.names.lookup ("__class__" : Str) = some .free
  kl : ∀ f ∈ ("self" : Str) :: fs, fd.scope.names.lookup f = some .local ∧ (f == ("__debug__" : Str)) = false
  nc : ∀ y ∈ fd.scope.names, y.2 ≠ .cell
  nd : (("self" : Str) :: fs).Nodup
  bind : ∀ (s : Shared) (u : Value) (us : List Value), us.length = fs.length → BindsTo s fd ⟨u :: us, []⟩ (("self", u) :: fs.zip us)
  len : fs.length = 1 ∨ fs.length = 2
section
variable {w : World} {A : Around} {R : Result → Shared → Prop} {s : Shared} {fd : FuncData} {x t0 : Addr} {us : List Value}
theorem names_run {M : Model} {A : Around} {E : Value → Shared → Prop} {s : Shared} {env : PySem.Env} {L : Addr} {m : Str → Option Value} {fd : FuncData} {a : Addr} (hk : fd.scope.kind = .function) (hL : s.heap.Ns L m) :
    ∀ (la : List (Str × Pos)) (us : List Value) (pos : Pos) (Q : List Value → Shared → Prop), la.length = us.length → (∀ (i : Nat) (q : Str × Pos) (u : Value), la[i]? = some q → us[i]? = some u → m q.1 = some u) → (∀ q : Str × Pos, q ∈ la → (callEnv fd L a).kindOf q.1 = some .local ∧ (q.1 == ("__debug__" : Str)) = false) →
      Q us s → wpAny M A (spliced (backTo pos (starEach (iArgs la) (callEnv fd L a)))) Q E s
  | [], us, pos, Q, hl, _, _, h => by
    cases us with
    | nil => exact Calls.spliced_nil h
    | cons _ _ => cases hl
  | (f, p) :: la, us, pos, Q, hl, hm, hf, h => by
    cases us with
    | nil => cases hl
    | cons u us =>
      obtain ⟨f2, f3⟩ := hf _ List.mem_cons_self
      show wpAny _ _ (spliced ((false, eval (.Name f p) (callEnv fd L a)) :: backTo pos (starEach (iArgs la) (callEnv fd L a)))) _ _ _
      refine Calls.spliced_cons (PySem.ldc hk f2 hL (hm 0 _ u rfl rfl) ?_ f3)
      exact names_run (env := env) hk hL la us pos _ (by simpa using hl) (fun i q u e1 e2 => hm (i + 1) q u (by simpa using e1) (by simpa using e2)) (fun q hq => hf q (List.mem_cons_of_mem _ hq)) h
theorem mcall {o : Expr} {name : Str} {apos ps : Pos} {env : PySem.Env} {ov : Value} {n : Nat} {args : List (Bool × Sem Value)} {kws : List (Option Str × Sem Value)} (hf : methodCallForm n args kws = true) (hl : (apos.endLine == ps.line) = true) : methodCall o name apos ps env ov n args kws = (do
      let (f, first) ← holding [ov] (getMethod ov name (do return (← importBound o env).getD true))
      callWith ps f first args kws) := by
  unfold methodCall methodCallPos calleeOf
  rw [hf, hl]
  rfl
theorem ev_sup {o : Expr} {name : Str} {apos ps : Pos} {env : PySem.Env} {la : List (Str × Pos)} (h : la.length = 1 ∨ la.length = 2) (hl : (apos.endLine == ps.line) = true) : ∃ pl : Sem Bool, eval (.Call (.Attribute o name apos) (iArgs la) [] ps) env = (do
      let ov ← attributeBase o name env (eval o env)
      standAt apos.atName
      let (f, first) ← holding [ov] (getMethod ov name pl)
      callWith ps f first (backTo ps (starEach (iArgs la) env)) []) := by
  refine ⟨do return (← importBound o env).getD true, ?_⟩
  have hf : methodCallForm ((iArgs la).length + ([] : List Keyword).length) (backTo ps (starEach (iArgs la) env)) (backToKw ps (keywordEach [] env)) = true := by
    match la, h with
    | [(a, p)], _ => rfl
    | [(a, p), (b, q)], _ => rfl
  show (do
    let ov ← attributeBase o name env (eval o env)
    standAt apos.atName
    methodCall o name apos ps env ov ((iArgs la).length + ([] : List Keyword).length) (backTo ps (starEach (iArgs la) env)) (backToKw ps (keywordEach [] env))) = _
  simp only [mcall hf hl]
  rfl
theorem call_mw {prog : Program} {E : Value → Shared → Prop} {Q : Value → Shared → Prop} {h : Heap} {g : Array GenState} {dr : Drawn} {tk : Nat} {os : OsState} {u : Addr} {nm q : Str} {N : Addr} {bs bmr : List Value} {hdct : Bool} {sn : List Str} {sub : List Value} {ab : Bool} {col : Option Bool} {dd : Option Addr} {k0 k1 k2 k3 k5 : Option Value} (xb : XBase B newId initId bm)
    (hC : h.get? C = some (excClassObj nm q C N bs bmr hdct sn sub ab col dd k0 k1 k2 k3 k5 newId)) (he : h.get? x = some (exR C none t0)) (hu : h.get? u = some (PySem.W.kxs_mw initId x)) (hz : us.length ≤ sizeLine)
    (hq : ∀ h', (∀ b o, b ≠ x → h.get? b = some o → h'.get? b = some o) → h'.get? x = some (exR C none h.objs.size) → Q .none ⟨h', g, dr, tk, os⟩) : wpAny (model prog w) A (call (.ref u) us) Q E ⟨h, g, dr, tk, os⟩ := by
  refine wpAny_call (codeAny_of_tree ?_)
  show wpAny _ A.in1 (callAny (.ref u) ⟨us, []⟩) _ _ _
  simp only [callAny]
  refine wpAny_bind (wpAny_load hu ?_)
  simp only [PySem.W.kxs_mw, show (Value.type "method-wrapper" == Value.type "method" || Value.type "method-wrapper" == Value.type "builtin_function_or_method" || Value.type "method-wrapper" == Value.type "method-wrapper") = true by decide, if_true]
  refine PySem.W.KFB.if_so (by decide) ?_
  refine wpAny_bind (PySem.W.check_bound_init xb.eb.toExcCallFacts hC he rfl ?_)
  refine wpAny_bind (wpAny_pure (wpAny_pure ?_))
  refine ⟨plainId_quiet xb.eb.init.plain _, codeAny_builtin xb.eb.initEntry ?_⟩
  exact PySem.W.exc_init_tree (cls := .ref C) (t0 := t0) (dv := none) (c2 := .none) (c3 := .none) (b4 := .bool false) he hz fun h' k e _ => hq h' k e
theorem init_run (T : Mk1 P K mg C fI cc cda B newId initId bm fs) (D : IDef K fI cc cda fs fd) (X : K.In s.heap) (hlim : s.heap.NoLimit) (hx : s.heap.get? x = some (exR C none t0)) (hnx : K.lookup x = none) (hroom : A.depth < recursionLimit)
    (G : s.heap.Ns mainGlobals mg) (Bl : ∃ mb, s.heap.Ns builtinsNs mb ∧ ∀ y, y ≠ ("__name__" : Str) → mb y = bootBuiltins y) (hl : us.length = fs.length) (hsz : us.length ≤ 900)
    (hq : ∀ h' tk dx t1, (∀ b o, b ≠ x → s.heap.get? b = some o → h'.get? b = some o) → h'.get? x = some (exR C (some dx) t1) → s.heap.objs.size ≤ dx → dx ≠ x → h'.Ns1 dx (puts (fs.zip us) fun _ => none) → R (.ok (.ret .none)) { s with heap := h', toks := tk }) :
    codeAny (model P w) A (.call (.ref fI) ⟨.ref x :: us, []⟩) R s := by
  obtain ⟨oc, od, osl, lk⟩ := D.lk
  obtain ⟨p1, p2, p3, p4, p5, la, ls, hbody, hla, hls, hline⟩ := D.body
  obtain ⟨ar, har, hself⟩ := D.ar
  obtain ⟨mb, hmb, hbo⟩ := Bl
  obtain ⟨cl, cld, csl, hcell⟩ := T.cell
  obtain ⟨ccl, cdd, vs, ccs, file, tf, hcode, hvs, hfile⟩ := T.code
  obtain ⟨cdC, bmr, hcd, hmro, htail, hdct⟩ := T.clsIn
  have nd2 := D.nd
  have bnd : (((("self" : Str), Value.ref x) :: fs.zip us).map (·.1)).Nodup := by
    rw [List.map_cons, List.map_fst_zip (by omega)]
    exact nd2
  refine PySem.ks_codeAny_call_defAt (fd := fd) (binds := (("self" : Str), .ref x) :: fs.zip us) hroom (X _ _ lk) rfl hlim (PySem.W.codeRec_of X D.cin) hbody (D.bind s (.ref x) us hl) D.nc (fun y hy => ?_) (fun h₁ hn k => ?_) D.co D.gen D.kind
  · rcases List.mem_cons.mp hy with z | z
    · rw [z]; exact (D.kl _ List.mem_cons_self).1
    · exact (D.kl _ (List.mem_cons_of_mem _ (List.of_mem_zip z).1)).1
  have X1 : K.In h₁ := X.keeps k
  have hx1 := k _ _ hx
  have hxL : s.heap.objs.size ≠ x := Nat.ne_of_gt (Heap.lt_size hx)
  have ms : (((("self" : Str), Value.ref x) :: fs.zip us).reverse).lookup ("self" : Str) = some (.ref x) := lookup_rev bnd List.mem_cons_self
  have I : PySem.W.InstAt h₁ x (exR C none t0) C none := ⟨hx1, rfl, rfl, trivial⟩
  obtain ⟨oD, hD1, hD2⟩ : ∃ oD, h₁.get? C = some oD ∧ oD.data = .cls cdC := by
    have z := hcd
    unfold PySem.W.clsIn at z
    split at z
    · rename_i c d cd' sl ho
      cases z
      exact ⟨_, X1 _ _ ho, rfl⟩
    · cases z
  have hks : (callEnv fd s.heap.objs.size fI).kindOf "super" = some .globalImplicit := D.ks
  obtain ⟨pl, he⟩ := ev_sup (o := .Call (.Name "super" p1) [] [] p2) (name := "__init__") (apos := p3) (ps := p4) (env := callEnv fd s.heap.objs.size fI) (la := la) (by have := D.len; rw [← hla, List.length_map] at this; exact this) hline
  have hint : interactive (callEnv fd s.heap.objs.size fI) = false := by
    unfold interactive
    rw [show (callEnv fd s.heap.objs.size fI).scope.kind = .function from D.kind]
    rfl
  refine PySem.ks_wpAt_execs_cons (PySem.ks_wpAt_Expr_any (PySem.ks_wpAt_MethodCall ?_ he) hint (by rfl))
  refine PySem.ks_wpAt_super_base (f := fI) (cc := cda) (ar := ar) hks D.kc (by decide) rfl (X1 _ _ lk) rfl har D.cd (X1 _ _ hcode) rfl hvs hfile T.top ?_
  refine PySem.W.ks_loadName_global D.kind hks (Calls.loadGlobal_builtin (mb := mb) (mg := mg) (v := .type "super") (by show h₁.Ns fd.globals mg; rw [D.gl]; exact G.keeps k) T.sup (by show h₁.Ns fd.builtins mb; rw [D.bu]; exact hmb.keeps k) ((hbo _ (by decide)).trans (by decide +kernel)) ⟨rfl, ?_⟩)
  refine wpAny_loadName_free (c := cc) (v := .ref C) D.kind D.kc (by show (newEnv fd.scope _ fd.globals fd.closure _ _ _ _ _).cells.lookup _ = _; rw [D.cl]; rfl) ⟨_, X1 _ _ hcell, rfl⟩ ?_
  rw [hself]
  refine wpAny_loadName_local D.kind (D.kl _ List.mem_cons_self).1 hn ms ?_
  refine PySem.ks_wpAny_isType_cls hD1 hD2 ⟨rfl, ?_⟩
  refine PySem.ks_wpAny_call_super hD1 hD2 hx1 rfl (fun c e => by cases e) (PySem.W.looks_mroIn X1 T.mC) (fun h2 e2 k2 => ?_)
  -- .__init__
  have X2 : K.In h2 := X1.keeps k2
  have hI0 : PySem.W.Looks (model P w) h₁ (isInstance (.ref x) (.type B)) true := I.type.andThen (PySem.W.looks_subIn X1 T.sB)
  have hI := hI0.keeps k2
  have hxC : x ≠ C := PySem.W.ks_ne X1 I hcd
  have hmr : PySem.W.Looks (model P w) h2 (mroOf (.ref C)) cdC.mro := fun A Q E s k q => wpAny_bind ((PySem.W.looks_clsIn X2 hcd) A _ E s k (wpAny_pure q))
  have hsu : PySem.W.alongIn K "__init__" ((cdC.mro.dropWhile (· != .ref C)).drop 1) = some (some (.builtin initId)) := by
    have z := T.su
    unfold PySem.W.ks_superIn at z
    rw [hcd] at z
    exact z
  refine PySem.W.kxs_getMethod T.xb.kx e2 (PySem.W.looks_opaque X2 T.op) hmr rfl X2 hsu hI hxC (by decide) ?_
  -- its arguments
  have kw : ∀ b o, h2.get? b = some o → (h2.push (PySem.W.kxs_mw initId x)).get? b = some o := fun b o e => Heap.get?_push_of_some _ e
  have hu : (h2.push (PySem.W.kxs_mw initId x)).get? h2.objs.size = some (PySem.W.kxs_mw initId x) := Heap.get?_push_at rfl rfl
  have X3 : K.In (h2.push (PySem.W.kxs_mw initId x)) := X2.keeps kw
  have hL3 : (h2.push (PySem.W.kxs_mw initId x)).Ns s.heap.objs.size fun y => ((("self" : Str), Value.ref x) :: fs.zip us).reverse.lookup y := (hn.keeps k2).keeps kw
  have hx3 := kw _ _ (k2 _ _ hx1)
  have mf : ∀ (i : Nat) (f : Str) (u : Value), fs[i]? = some f → us[i]? = some u → ((("self" : Str), Value.ref x) :: fs.zip us).reverse.lookup f = some u := fun i f u e1 e2 => by
    refine lookup_rev bnd (List.mem_cons_of_mem _ ?_)
    have z : (fs.zip us)[i]? = some (f, u) := by rw [List.getElem?_zip_eq_some]; exact ⟨e1, e2⟩
    exact List.mem_of_getElem? z
  have fla : ∀ (i : Nat) (q : Str × Pos), la[i]? = some q → fs[i]? = some q.1 := fun i q e => by rw [← hla, List.getElem?_map, e]; rfl
  have pl0 : ∀ l : List (Str × Pos), noStar (iArgs l) = true := fun l => by
    unfold noStar iArgs
    rw [List.all_eq_true]
    intro e he
    obtain ⟨q, _, rfl⟩ := List.mem_map.mp he
    rfl
  refine PySem.W.kxs_callWith (i := initId) (x := x) (plain_ok (pl0 la)) ?_
  have hlen : la.length = us.length := by rw [hl, ← hla, List.length_map]
  have flc : ∀ q : Str × Pos, q ∈ la → (callEnv fd s.heap.objs.size fI).kindOf q.1 = some .local ∧ (q.1 == ("__debug__" : Str)) = false := fun q hq => D.kl _ (List.mem_cons_of_mem _ (by rw [← hla]; exact List.mem_map_of_mem (f := (·.1)) hq))
  obtain ⟨nmC, qC, NC, bsC, bmrC, snC, subC, abC, colC, ddC, k0C, k1C, k2C, k3C, k5C, hCK, _⟩ := T.cls
  have ea : ∃ q0 la', la = q0 :: la' := by
    cases la with
    | nil => have z := D.len; rw [← hla] at z; simp at z
    | cons a r => exact ⟨a, r, rfl⟩
  have ev : ∀ {f : Value} {Q : Args → Shared → Prop} {E : Value → Shared → Prop} {s1 : Shared} {A1 : Around}, wpAny (model P w) A1 (spliced (backTo p4 (starEach (iArgs la) (callEnv fd s.heap.objs.size fI)))) (fun vs s' => Q ⟨vs, []⟩ s') E s1 → wpAny (model P w) A1 (evalArgs f true (backTo p4 (starEach (iArgs la) (callEnv fd s.heap.objs.size fI))) []) Q E s1 := by
    obtain ⟨q0, la', e⟩ := ea
    rw [e]
    exact fun h => Calls.evalArgs_plain h
  refine ev (names_run (env := callEnv fd s.heap.objs.size fI) D.kind hL3 la us p4 _ hlen (fun i q u e1 e2 => mf i q.1 u (fla i q e1) e2) flc ⟨hu, ?_⟩)
  refine call_mw T.xb (X3 _ _ hCK) hx3 hu (by show us.length ≤ sizeLine; rw [sizeLine_eq]; omega) fun h4 k4 hx4 => ?_
  -- the stores
  have X4 : K.In h4 := kept_but X3 hnx k4
  have nLx : s.heap.objs.size ≠ x := hxL
  have hL4 : h4.Ns s.heap.objs.size fun y => ((("self" : Str), Value.ref x) :: fs.zip us).reverse.lookup y := hL3.at fun o q => k4 _ _ nLx q
  refine PySem.wpAt_of_wpAny ?_
  obtain ⟨q1, ls', els⟩ : ∃ q1 ls', ls = q1 :: ls' := by
    cases ls with
    | nil => have z := D.len; rw [← hls] at z; simp at z
    | cons a r => exact ⟨a, r, rfl⟩
  obtain ⟨f1, a1, b1, c1, d1⟩ := q1
  subst els
  obtain ⟨u1, us', eus⟩ : ∃ u1 us', us = u1 :: us' := by
    cases us with
    | nil => rw [← hls] at hl; simp at hl
    | cons a r => exact ⟨a, r, rfl⟩
  have hmem : ∀ q : Str × Pos × Pos × Pos × Pos, q ∈ (f1, a1, b1, c1, d1) :: ls' → q.1 ∈ fs := fun q hq => by rw [← hls]; exact List.mem_map_of_mem (f := fun q : Str × Pos × Pos × Pos × Pos => q.1) hq
  have fls : ∀ (i : Nat) (q : Str × Pos × Pos × Pos × Pos), ((f1, a1, b1, c1, d1) :: ls')[i]? = some q → fs[i]? = some q.1 := fun i q e => by rw [← hls, List.getElem?_map, e]; rfl
  have lkl : ∀ q : Str × Pos × Pos × Pos × Pos, q ∈ (f1, a1, b1, c1, d1) :: ls' → (callEnv fd s.heap.objs.size fI).kindOf q.1 = some .local ∧ (q.1 == ("__debug__" : Str)) = false := fun q hq => D.kl _ (List.mem_cons_of_mem _ (hmem q hq))
  have selfl : (callEnv fd s.heap.objs.size fI).kindOf "self" = some .local := (D.kl _ List.mem_cons_self).1
  show wpAny _ _ (execs (.Assign [.Attribute (.Name "self" a1) f1 b1] (.Name f1 c1) d1 :: iSt ls') (callEnv fd s.heap.objs.size fI)) _ _ _
  refine wpAny_execs_cons (plainObj_wpAny_Assign_Attribute ?_ (by rfl))
  have hm1 := mf 0 f1 u1 (fls 0 _ rfl) (by rw [eus]; rfl)
  refine PySem.ldc D.kind (lkl _ List.mem_cons_self).1 hL4 hm1 (PySem.ldc D.kind selfl hL4 ms ?_) (lkl _ List.mem_cons_self).2
  refine own_new T (hmem _ List.mem_cons_self) X4 hx4 fun h5 tk5 dx k5 dn dne hx5 hn5 => ?_
  have sz : s.heap.objs.size < h4.objs.size := by
    obtain ⟨oL, _, _, e, _⟩ := hL4
    exact Heap.lt_size e
  have X5 : K.In h5 := kept_but X4 hnx k5
  have kdx : K.lookup dx = none := k_fresh X4 dn
  have hL5 : h5.Ns s.heap.objs.size fun y => ((("self" : Str), Value.ref x) :: fs.zip us).reverse.lookup y := hL4.at fun o q => k5 _ _ nLx q
  have hlu : ls'.length = us'.length := by
    have z : ((f1, a1, b1, c1, d1) :: ls').length = us.length := by rw [hl, ← hls, List.length_map]
    rw [eus] at z
    simpa using z
  refine stores_old T D.kind selfl ms ls' us' h5 tk5 dx _ _ [f1] _ hlu (fun q hq => ⟨hmem q (List.mem_cons_of_mem _ hq), lkl q (List.mem_cons_of_mem _ hq)⟩) (fun i q u e1 e2 => mf (i + 1) q.1 u (fls (i + 1) q (by simpa using e1)) (by rw [eus]; simpa using e2)) X5 kdx hL5 (Nat.ne_of_lt (Nat.lt_of_lt_of_le sz dn)) (Ne.symm dne) hx5 hn5 (Within.cons f1 u1 Within.nil) (by rw [eus] at hsz; simp at hsz ⊢; omega) fun h6 tk6 k6 hn6 => ?_
  have old : ∀ b o, b ≠ x → s.heap.get? b = some o → h6.get? b = some o := fun b o hb e => by
    have e3 := kw _ _ (k2 _ _ (k b o e))
    have e4 := k5 b o hb (k4 b o hb e3)
    exact k6 b o (fun z => by
      have := Heap.lt_size (k4 b o hb e3)
      rw [z] at this
      exact absurd this (Nat.not_lt.mpr dn)) e4
  refine hq h6 tk6 dx _ old (k6 _ _ (Ne.symm dne) hx5) (Nat.le_trans (Nat.le_of_lt sz) dn) dne ?_
  have e1 : puts (fs.zip us) (fun _ => none) = puts ((ls'.map fun q : Str × Pos × Pos × Pos × Pos => q.1).zip us') fun y => if y = f1 then some u1 else none := by
    rw [← hls, eus]
    rfl
  rw [e1]
  exact hn6
end
theorem puts_lookup {f : Str} : ∀ {l : List (Str × Value)} {m : Str → Option Value}, (l.map (·.1)).Nodup → puts l m f = match l.lookup f with
    | some u => some u
    | none => m f
  | [], m, _ => rfl
  | (a, u) :: r, m, hn => by
    rw [List.map_cons, List.nodup_cons] at hn
    unfold puts
    rw [puts_lookup hn.2, List.lookup_cons]
    by_cases c : f = a
    · subst c
      have z : r.lookup f = none := by
        cases e : r.lookup f with
        | none => rfl
        | some v => exact absurd (List.mem_map_of_mem (f := (·.1)) (mem_of_lookup e)) hn.1
      simp [z]
    · have z : (f == a) = false := by simpa using c
      rw [z]
      simp [c]
theorem relO_zip {f : Str} : ∀ {fs : List Str} {vs : List V} {us : List Value}, Vals vs us → RelO ((fs.zip vs).lookup f) ((fs.zip us).lookup f)
  | [], _, _, _ => by simp only [List.zip_nil_left, List.lookup_nil]; exact True.intro
  | _ :: _, _, _, .nil => by simp only [List.zip_nil_right, List.lookup_nil]; exact True.intro
  | a :: fs, _, _, .cons h r => by
    simp only [List.zip_cons_cons, List.lookup_cons]
    cases c : (f == a) with
    | true => exact h
    | false => exact relO_zip r
/-- C(e, ..) -/
theorem pmk1 {X : Cx} {C fI cc cda : Addr} {B newId initId : String} {bm : List Value} {fs : List Str} {fd : FuncData} {x : Str} {p pos : Pos} {e : Expr} {es : List Expr} {ta : TA} {k : Nat} (T : Mk1 X.prog X.K X.mg C fI cc cda B newId initId bm fs) (D : IDef X.K fI cc cda fs fd) (hr : Room k X.A) (ha : PA X (e :: es) ta) (hg : Gl X x) (gC : X.mg x = some (.ref C)) (hdb : (x == ("__debug__" : Str)) = false)
    (he : starEach (e :: es) X.env = (false, eval e X.env) :: starEach es X.env) (hpl : (backTo pos (starEach es X.env)).any (·.1) = false) :
    PMk X (.Call (.Name x p) (e :: es) [] pos) (fun σ H Q => ta σ H fun vs H1 => vs.length = fs.length ∧ ∀ d, H1 d = none → Q (.ref C) (some d) (upd H1 d (.xd (fs.zip vs)))) := by
  intro pins s σ H Q I h
  refine PySem.wpAny_Call_Name_kw (ld_glob I hg gC ?_ hdb)
  refine PySem.W.callWith_K (h₀ := X.base) I.ok.mod.kin T.kC (thn (ha.run pos pins s σ H _ I h) fun us s1 hh => ?_) he hpl
  obtain ⟨vs, H1, I1, r1, hl, q1⟩ := hh
  refine ⟨I1.kIn, ?_⟩
  show wpAny _ _ (call (.ref C) us) _ _ _
  have hlim := I1.nolimit
  have hus : us.length = fs.length := by rw [← r1.length]; exact hl
  have hf2 : fs.length ≤ 2 := by rcases D.len with z | z <;> omega
  obtain ⟨nm, q, N, bs, bmr, sn, sub, ab, col, dd, k0, k1, k2, k3, k5, hC, hb⟩ := T.cls
  obtain ⟨hp, g, dr, tk, os⟩ := s1
  have kk : ∀ b o, hp.get? b = some o → ((hp.push (PySem.W.kdv_tup us)).push (exR C none hp.objs.size)).get? b = some o := fun b o e => Heap.get?_push_of_some _ (Heap.get?_push_of_some _ e)
  have hget : ((hp.push (PySem.W.kdv_tup us)).push (exR C none hp.objs.size)).get? (hp.objs.size + 1) = some (exR C none hp.objs.size) := by heap_get
  have hnx : X.K.lookup (hp.objs.size + 1) = none := k_fresh I1.kIn (Nat.le_succ _)
  refine wpAny_call (PySem.HandSPX.call_own T.xb.eb (fun Y => PySem.W.excTail_contains Y _ hb) (I1.kIn _ _ hC) (PySem.W.looks_findIn I1.kIn T.iC) (fun self => PySem.W.bind_fn I1.kIn self T.tC) (by rw [sizeLine_eq]; omega) ?_)
  refine init_run (s := ⟨(hp.push (PySem.W.kdv_tup us)).push (exR C none hp.objs.size), g, dr, tk, os⟩) T D (I1.kIn.keeps kk) (hlim.keeps kk) hget hnx ?_ ((I1.mod.glob.keeps I1.bk).keeps kk) ?_ hus (by omega) fun h' tk' d t1 k' hx dn dne hns => ?_
  · show X.A.depth + 1 < recursionLimit
    have := hr.dp
    omega
  · obtain ⟨mb, h1, h2⟩ := I1.mod.blt
    exact ⟨mb, (h1.keeps I1.bk).keeps kk, fun y hy => h2 y hy⟩
  refine ⟨rfl, ?_⟩
  show MkP X pins σ Q (.ref (hp.objs.size + 1)) ⟨h', g, dr, tk', os⟩
  obtain ⟨G', g1, g2⟩ := restrict h' fun b => decide (b ≠ hp.objs.size + 1)
  have gk : ∀ b, b ≠ hp.objs.size + 1 → G'.get? b = h'.get? b := fun b hb => g1 b (decide_eq_true hb)
  have ge : G'.get? (hp.objs.size + 1) = none := g2 _ (by simp)
  have old : ∀ b o, hp.get? b = some o → G'.get? b = some o := fun b o q => by
    have nb : b ≠ hp.objs.size + 1 := Nat.ne_of_lt (Nat.lt_succ_of_lt (Heap.lt_size q))
    exact (gk b nb).trans (k' b o nb (kk b o q))
  have dn' : hp.objs.size ≤ d := by
    have z : hp.objs.size + 1 + 1 ≤ d := by
      have q := dn
      rw [Heap.size_push, Heap.size_push] at q
      exact q
    exact Nat.le_trans (Nat.le_trans (Nat.le_succ _) (Nat.le_succ _)) z
  have nd : ((fs.zip us).map (·.1)).Nodup := by
    rw [List.map_fst_zip (by omega)]
    exact (List.nodup_cons.mp D.nd).2
  have ob : ObjOk X.prog X.w (upd H1 d (.xd (fs.zip vs))) G' d (.xd (fs.zip vs)) :=
    ⟨_, hns.at (fun o q => (gk d dne).trans q), fun f => by
      rw [puts_lookup nd]
      have z := relO_zip (f := f) (fs := fs) r1
      cases e : (fs.zip us).lookup f with
      | none => rw [e] at z; exact z
      | some u => rw [e] at z; exact z⟩
  have J : L2.Inv X pins σ (upd H1 d (.xd (fs.zip vs))) ⟨G', g, dr, tk', os⟩ := I1.laid (t' := tk') old dn' ob
  refine ⟨hp.objs.size + 1, _, _, ⟨G', g, dr, tk', os⟩, _, .ref C, some d, rfl, J, fun b o q => ?_, ge, hx, ⟨rfl, rfl⟩, rfl, rfl, ?_, rfl, I1.bare, raises_own T.be T.ty, q1 d (I1.hok.fresh dn')⟩
  · by_cases hb : b = hp.objs.size + 1
    · have q' : G'.get? b = some o := q
      rw [hb, ge] at q'; cases q'
    · exact (gk b hb).symm.trans q
  · rw [upd_ne (Ne.symm dne)]
    exact I1.hok.fresh (Nat.le_succ _)
end
section
variable {X : Cx} {B : Bx} {c : Cs} {nm : Nat → List Str} {n : Nat} {Wx : WX} {pos : Pos}
theorem RFs.zip {H : Hp} {w : Wd} : ∀ {fs : List Str} {ws : List W} {vs : List V}, RVs B H w ws vs → RFs B H w (fs.zip ws) (fs.zip vs)
  | [], ws, vs, _ => by simp only [List.zip_nil_left]; exact rfl
  | _ :: _, [], vs, q => by cases (show vs = [] from q); simp only [List.zip_nil_right]; exact rfl
  | f :: fs, x :: ws, vs, ⟨v, t, e, q1, q2⟩ => by
    subst e
    simp only [List.zip_cons_cons]
    exact ⟨v, _, rfl, q1, RFs.zip q2⟩
theorem s_raise1 {fI cc cda : Addr} {Bs newId initId : String} {bm : List Value} {fd : FuncData} {k kk : Nat} {x : Str} {p rp : Pos} {e : Expr} {es : List Expr} {as : List E} (hc : X.calm = true) (tk : Takes X Wx) (T : Mk1 X.prog X.K X.mg (B.xc k) fI cc cda Bs newId initId bm (nm k)) (D : IDef X.K fI cc cda (nm k) fd) (hr : Room kk X.A)
    (gC : X.mg x = some (.ref (B.xc k))) (hg : Gl X x) (hdb : (x == ("__debug__" : Str)) = false) (hs : noStar (e :: es) = true) (ha : PA X (e :: es) (rL B c as Wx)) :
    PS X (.Raise (some (.Call (.Name x p) (e :: es) [] rp)) none pos) (rSt B c nm n (.raise k as) Wx) := by
  have h' : (!star e && noStar es) = true := hs
  obtain ⟨h1, h2⟩ := (Bool.and_eq_true _ _).mp h'
  refine PS.imp (ps_raise hc tk (pmk1 T D hr ha hg gC hdb (star_ok (by simpa using h1)) (plain_ok h2))) fun D σ H q => ?_
  refine (rS_st (f := fun env h => evL c as env h) (g := fun env ws h1 => match exFs nm k ws with
    | some fs => .exc k fs env h1
    | none => .stuck) (R1 := RVsr B) q).imp fun vs H1 ⟨w1, h1, env, ws, r1, s1, qs, l1⟩ => ?_
  unfold exFs at l1
  split at l1
  · rename_i fs efs
    split at efs
    · rename_i hl
      cases efs
      refine ⟨by rw [← qs.length]; exact hl.symm, fun d hd => ?_⟩
      have kp := Kp.upd0 (w := w1) (o := .xd ((nm k).zip vs)) hd
      exact l1 w1 _ σ (some d) kp (r1.upd0 hd) (s1.mono kp r1) (.inr ⟨d, _, rfl, upd_same, RFs.zip (qs.mono kp.le r1 ws vs)⟩)
    · cases efs
  · exact False.elim l1
end
end G
end
section
set_option Elab.async false
set_option linter.all false
set_option maxRecDepth 100000
/-! G14: statements of the text as terms -/
namespace G
open PySem L2
/-- the context of a def's text: names that hold changeable lists; names whose items are such; what is returned is such -/
structure Sc where
  c : Cc
  mv : List Str
  mi : List Str
  mr : Bool
def bkS (sc : Scope) : ScopeKind := if sc.kind.isAnnotationScope then .function else sc.kind
def swapB (sc : Scope) (x : Str) (l : Nat) (value : Expr) : Bool := match value with
  | .ListComp _ _ s _ => bkS sc == .function && sc.names.lookup x == some .local && l == value.pos.line && !(s.names.any fun (n, k) => n == x && (k == .local || k == .cell))
  | .SetComp _ _ s _ => bkS sc == .function && sc.names.lookup x == some .local && l == value.pos.line && !(s.names.any fun (n, k) => n == x && (k == .local || k == .cell))
  | .DictComp _ _ _ s _ => bkS sc == .function && sc.names.lookup x == some .local && l == value.pos.line && !(s.names.any fun (n, k) => n == x && (k == .local || k == .cell))
  | _ => false
theorem swapB_ok {env : PySem.Env} {x : Str} {px : Pos} {l : Nat} {value : Expr} : swapsWith value (some (.Name x px)) l env = pure (swapB env.scope x px.line value) := by
  cases value <;> rfl
def kdS (sc : Scope) (x : Str) : Option NameKind := sc.names.lookup x
def swapN (sc : Scope) (ts vs : List Expr) : Option (Option (List Str)) :=
  if !(ts.length == 2 || ts.length == 3) || vs.length != ts.length || bkS sc != .function then some none else
  if vs.any fun | .Starred .. => true | _ => false then some none else
  let line := (ts.head?.map (·.pos.line)).getD 0
  let names := ts.filterMap fun
    | .Name id pos => if kdS sc id == some .local && pos.line == line then some id else none
    | _ => none
  if names.length != ts.length || names.eraseDups.length != names.length then some none else
  if vs.all (foldedForSure 8) then some none else
  if vs.all (constantsAlone 8) then none else some (some names)
theorem swapN_ok {env : PySem.Env} {ts vs : List Expr} {k k2 : Nat} {p p2 : Pos} {r : Option (List Str)} (h : swapN env.scope ts vs = some r) : swappedStores [.Tuple ts k p] (.Tuple vs k2 p2) env = pure r := by
  have e : bkS env.scope = env.blockKind := rfl
  have e2 : kdS env.scope = env.kindOf := rfl
  unfold swapN at h
  rw [e, e2] at h
  show (do
    if !(ts.length == 2 || ts.length == 3) || vs.length != ts.length || env.blockKind != .function then return none
    if vs.any fun | .Starred .. => true | _ => false then return none
    let line := (ts.head?.map (·.pos.line)).getD 0
    let names := ts.filterMap fun
      | .Name id pos => if env.kindOf id == some .local && pos.line == line then some id else none
      | _ => none
    if names.length != ts.length || names.eraseDups.length != names.length then return none
    if vs.all (foldedForSure 8) then return none
    if vs.all (constantsAlone 8) then unsupported "assign.tuple-of-constant-expressions:order-of-the-stores"
    return some names : Sem (Option (List Str))) = pure r
  split at h
  · rename_i c
    cases h
    rw [if_pos c]
  · rename_i c
    rw [if_neg c]
    split at h
    · rename_i c2
      cases h
      rw [if_pos c2]
    · rename_i c2
      rw [if_neg c2]
      dsimp only at h ⊢
      split at h
      · rename_i c3
        cases h
        rw [if_pos c3]
      · rename_i c3
        rw [if_neg c3]
        split at h
        · rename_i c4
          cases h
          rw [if_pos c4]
        · rename_i c4
          rw [if_neg c4]
          split at h
          · cases h
          · rename_i c5
            cases h
            rw [if_neg c5]
section
variable {X : Cx} {B : Bx} {c : Cs} {nm : Nat → List Str} {n : Nat} {Wx : WX} {pos : Pos}
theorem RVs.three {H : Hp} {w : Wd} {x y z : W} {vs : List V} (q : RVs B H w [x, y, z] vs) : ∃ u v t, vs = [u, v, t] ∧ RV B H w x u ∧ RV B H w y v ∧ RV B H w z t := by
  obtain ⟨u, r, rfl, q1, q2⟩ := q
  obtain ⟨v, t, rfl, q2, q3⟩ := RVs.two q2
  exact ⟨u, v, t, rfl, q1, q2, q3⟩
theorem asgs_nm {h : Hw} {i : Nat} {ts : List T} {x : W} {xs : List W} {env e1 : Env} (e : asgs h (.nm i :: ts) (x :: xs) env = some e1) : asgs h ts xs (env.set i (some x)) = some e1 := by
  unfold asgs asg at e
  by_cases c : i < env.length
  · rw [if_pos c] at e; exact e
  · rw [if_neg c] at e; cases e
theorem asgs_lenN {h : Hw} : ∀ {is : List Nat} {xs : List W} {env e1 : Env}, asgs h (is.map .nm) xs env = some e1 → xs.length = is.length
  | [], [], _, _, _ => rfl
  | [], _ :: _, _, _, e => by cases e
  | _ :: _, [], _, _, e => by cases e
  | i :: is, x :: xs, env, e1, e => by
    have e : (match asg h (.nm i) x env with
      | none => none
      | some e => asgs h (is.map .nm) xs e) = some e1 := e
    split at e
    · cases e
    · exact congrArg Nat.succ (asgs_lenN e)
theorem s_par {i j : Nat} {x y : Str} {a b : Expr} {ia ib : E} {px py pt : Pos} {kt k2 pt2} (hc : X.calm = true) (hN : X.N.Nodup) (hi : X.N[i]? = some x) (hj : X.N[j]? = some y) (hij : i ≠ j)
    (hx : X.env.scope.names.lookup x = some .local) (hy : X.env.scope.names.lookup y = some .local) (ha : PA X [a, b] (rL B c [ia, ib] Wx))
    (hw : swappedStores [.Tuple [.Name x px, .Name y py] kt pt] (.Tuple [a, b] k2 pt2) X.env = pure (some [x, y]))
    (hs : swapsWithSole [.Tuple [.Name x px, .Name y py] kt pt] (.Tuple [a, b] k2 pt2) pos.line X.env = pure false) :
    PS X (.Assign [.Tuple [.Name x px, .Name y py] kt pt] (.Tuple [a, b] k2 pt2) pos) (rSt B c nm n (.par [i, j] [ia, ib]) Wx) := by
  refine PS.imp (ps_par hc hN hi hj hij hx hy ha hw hs) fun D σ H q => ?_
  refine (rS_st (f := fun env h => evL c [ia, ib] env h) (g := fun env xs h1 => match asgs h1 ([i, j].map .nm) xs env with
    | some e1 => .ok .nx e1 h1
    | none => .stuck) (R1 := RVsr B) q).imp fun vs H1 ⟨w1, h1, env, xs, r1, s1, qs, l1⟩ => ?_
  cases ea : asgs h1 ([i, j].map .nm) xs env with
  | none => rw [ea] at l1; exact False.elim l1
  | some e1 =>
    rw [ea] at l1
    match xs, asgs_lenN (is := [i, j]) ea with
    | [u, v], _ =>
      obtain ⟨u', v', rfl, q1, q2⟩ := RVs.two qs
      have ea := asgs_nm (asgs_nm ea)
      cases ea
      exact ⟨u', v', rfl, l1.nx r1 ((s1.set i q1).set j q2)⟩
theorem s_par3 {i j l : Nat} {x y z : Str} {a b d : Expr} {ia ib id : E} {px py pz pt : Pos} {kt k2 pt2} (hc : X.calm = true) (hN : X.N.Nodup) (hi : X.N[i]? = some x) (hj : X.N[j]? = some y) (hl : X.N[l]? = some z) (hij : i ≠ j) (hil : i ≠ l) (hjl : j ≠ l)
    (hx : X.env.scope.names.lookup x = some .local) (hy : X.env.scope.names.lookup y = some .local) (hz : X.env.scope.names.lookup z = some .local) (ha : PA X [a, b, d] (rL B c [ia, ib, id] Wx))
    (hw : swappedStores [.Tuple [.Name x px, .Name y py, .Name z pz] kt pt] (.Tuple [a, b, d] k2 pt2) X.env = pure (some [x, y, z]))
    (hs : swapsWithSole [.Tuple [.Name x px, .Name y py, .Name z pz] kt pt] (.Tuple [a, b, d] k2 pt2) pos.line X.env = pure false) :
    PS X (.Assign [.Tuple [.Name x px, .Name y py, .Name z pz] kt pt] (.Tuple [a, b, d] k2 pt2) pos) (rSt B c nm n (.par [i, j, l] [ia, ib, id]) Wx) := by
  refine PS.imp (ps_par3 hc hN hi hj hl hij hil hjl hx hy hz ha hw hs) fun D σ H q => ?_
  refine (rS_st (f := fun env h => evL c [ia, ib, id] env h) (g := fun env xs h1 => match asgs h1 ([i, j, l].map .nm) xs env with
    | some e1 => .ok .nx e1 h1
    | none => .stuck) (R1 := RVsr B) q).imp fun vs H1 ⟨w1, h1, env, xs, r1, s1, qs, l1⟩ => ?_
  cases ea : asgs h1 ([i, j, l].map .nm) xs env with
  | none => rw [ea] at l1; exact False.elim l1
  | some e1 =>
    rw [ea] at l1
    match xs, asgs_lenN (is := [i, j, l]) ea with
    | [u, v, t], _ =>
      obtain ⟨u', v', t', rfl, q1, q2, q3⟩ := RVs.three qs
      have ea := asgs_nm (asgs_nm (asgs_nm ea))
      cases ea
      exact ⟨u', v', t', rfl, l1.nx r1 (((s1.set i q1).set j q2).set l q3)⟩
theorem s_stk {st : Stmt} : PS X st (rSt B c nm n .stk Wx) := ⟨fun pins s σ H D I ⟨w, h, env, r, s', l⟩ => False.elim l⟩
end
/-! ### from text to terms -/
def ixL (c : Cc) (x : Str) : Option Nat := match c.sc.names.lookup x with
  | some .local => ixOf c.N x
  | some .cell => if c.ow x then ixOf c.N x else none
  | _ => none
def nameOf : Expr → Option Str
  | .Name x _ => some x
  | _ => none
def flagOf (c : Sc) (tg : Expr) : Bool := match tg with
  | .Name x _ => c.mv.contains x
  | .Subscript (.Name x _) _ _ => c.mi.contains x
  | _ => false
/-- elements of a tuple, each by its target -/
def cLf (t : Tx) (k : Nat) (c : Sc) : List Expr → List Expr → Option (List E)
  | [], [] => some []
  | tg :: tgs, e :: es => if star e then none else match cE t k c.c (flagOf c tg) e with
    | none => none
    | some i => match cLf t k c tgs es with
      | none => none
      | some is => some (i :: is)
  | _, _ => none
def isDoc : Expr → Bool
  | .Constant (.str _) _ _ => true
  | _ => false
def cA (t : Tx) (k : Nat) (c : Sc) (tg e : Expr) (l : Nat) : S := match tg with
  | .Name x px => (match ixL c.c x with
    | some i => (match cE t k c.c (flagOf c tg) e with
      | some ie => if swapB c.c.sc x px.line e then (match e with
          | .ListComp _ [⟨_, _, _, 0⟩] _ _ => .set i ie
          | _ => .stk) else .set i ie
      | none => .stk)
    | none => .stk)
  | .Tuple ts _ _ => (match e with
    | .Tuple es _ _ => (match cLf t k c ts es with
      | some is => (match swapN c.c.sc ts es with
        | some none => (match cT c.c k tg with
          | some it => .unp it (.tup is)
          | none => .stk)
        | some (some _) => (match ts with
          | [.Name x _, .Name y _] => (match ixOf c.c.N x, ixOf c.c.N y with
            | some i, some j => if i != j && c.c.sc.names.lookup x == some .local && c.c.sc.names.lookup y == some .local && (swapN c.c.sc ts es == some (some [x, y])) then .par [i, j] is else .stk
            | _, _ => .stk)
          | [.Name x _, .Name y _, .Name z _] => (match ixOf c.c.N x, ixOf c.c.N y, ixOf c.c.N z with
            | some i, some j, some l => if i != j && i != l && j != l && c.c.sc.names.lookup x == some .local && c.c.sc.names.lookup y == some .local && c.c.sc.names.lookup z == some .local && (swapN c.c.sc ts es == some (some [x, y, z])) then .par [i, j, l] is else .stk
            | _, _, _ => .stk)
          | _ => .stk)
        | none => .stk)
      | none => .stk)
    | e => if isTup e then .stk else (match cT c.c k tg, cE t k c.c false e with
      | some it, some ie => .unp it ie
      | _, _ => .stk))
  | .Subscript o i _ => if plainIx i then (match cE t k c.c false o, cE t k c.c false i, cE t k c.c (flagOf c tg) e with
    | some io, some ii, some ie => .ssub io ii ie
    | _, _, _ => .stk) else .stk
  | _ => .stk
/-- an own error by its name -/
def clsIx (t : Tx) (c : Cc) (x : Str) : Option (Nat × Nat) := if isGlob c x && !dbg x then (match t.gl.lookup x with
  | some (.cls k m) => some (k, m)
  | _ => none) else none
def isLocal (c : Cc) (x : Str) : Bool := c.sc.names.lookup x == some .local
def cH (t : Tx) (c : Cc) : List ExceptHandler → Option (List (Nat × Nat × Str))
  | [] => some []
  | .ExceptHandler (some (.Name x _)) none [.Assign [.Name y _] (.Constant (.str z) _ _) _] _ :: r => (match clsIx t c x, ixOf c.N y, cH t c r with
    | some (k, _), some i, some l => if isLocal c y then some ((k, i, z) :: l) else none
    | _, _, _ => none)
  | _ => none
mutual
def cS (t : Tx) : Nat → Sc → Stmt → S
  | 0, _, _ => .stk
  | k + 1, c, st => match st with
    | .Expr e _ => if isDoc e then .pass else if isComp e then .stk else (match cE t k c.c false e with
      | some i => .expr i
      | none => .stk)
    | .Return none _ => .retN
    | .Return (some e) _ => (match cE t k c.c c.mr e with
      | some i => .ret i
      | none => .stk)
    | .Pass _ => .pass
    | .Break _ => .brk
    | .Continue _ => .cont
    | .If p a b _ => (match cE t k c.c false p with
      | some ip => .ite ip (cB t k c a) (cB t k c b)
      | none => .stk)
    | .For tg iter body [] _ => (match srcOf t c.c tg iter with
      | some (sk, es) => (match cL (cE t k c.c false) es, cT c.c k tg with
        | some srcs, some it => .for it sk srcs (cB t k c body)
        | _, _ => .stk)
      | none => .stk)
    | .Assign [tg] e pos => cA t k c tg e pos.line
    | .Raise (some (.Call (.Name x _) as [] _)) none _ => (match clsIx t c.c x, cL (cE t k c.c false) as with
      | some (j, m), some is => if as.length = m then .raise j is else .stk
      | _, _ => .stk)
    | .Try body [.ExceptHandler (some (.Tuple [.Name x1 _, .Name x2 _, .Name x3 _, .Name x4 _] _ _)) (some n) [.Assign [.Name y _] (.Name n2 _) _] _] [] [] _ => (match clsIx t c.c x1, clsIx t c.c x2, clsIx t c.c x3, clsIx t c.c x4, ixOf c.c.N n, ixOf c.c.N y with
      | some (k1, _), some (k2, _), some (k3, _), some (k4, _), some j, some i => if decide (n = n2) && isLocal c.c n && isLocal c.c y && (i != j) && !dbg n then .try (cB t k c body) [([k1, k2, k3, k4], i, .exc j)] else .stk
      | _, _, _, _, _, _ => .stk)
    | .Try body hs [] [] _ => if hs.isEmpty then .stk else (match cH t c.c hs with
      | some l => .try (cB t k c body) (toHV l)
      | none => .stk)
    | _ => .stk
def cB (t : Tx) : Nat → Sc → List Stmt → List S
  | 0, _, _ => [.stk]
  | _ + 1, _, [] => []
  | k + 1, c, st :: sts => cS t k c st :: cB t k c sts
end
def MkF (P : Program) (K : PySem.W.Frag) (mg : Str → Option Value) (C : Addr) (fs : List Str) : Prop := (fs = [] ∧ Mk0 K C) ∨ (∃ fI cc cda Bs newId initId bm fd, Mk1 P K mg C fI cc cda Bs newId initId bm fs ∧ IDef K fI cc cda fs fd)
/-- where statements stand for the text -/
structure Sok (t : Tx) (B : Bx) (G : Pg) (n : Nat) (X : Cx) (Wx : WX) (c : Cc) : Prop extends Cok t B G n X Wx c where
  pa : PassesOwn (model X.prog X.w) X.A X.env X.xe
  st : X.stack = X.env :: X.outer
  fr : X.env.frame = some X.env.locals
  xs : X.ex = []
  gx : ∀ x k m, t.gl.lookup x = some (.cls k m) → (G.ex k).isSome = true
  gm : ∀ x k m, t.gl.lookup x = some (.cls k m) → (G.nm k).length = m ∧ MkF X.prog X.K X.mg (B.xc k) (G.nm k)
theorem Sok.tr {t : Tx} {B : Bx} {G : Pg} {n : Nat} {X : Cx} {Wx W : WX} {c : Cc} (k : Sok t B G n X Wx c) (pn : List (Addr × Obj)) (xe : Value → Shared → Prop) (tk : Takes (X.tr pn xe) W) (pa : PassesOwn (model X.prog X.w) X.A X.env xe) : Sok t B G n (X.tr pn xe) W c where
  hK := k.hK
  calm := k.calm
  hN := k.hN
  nd := k.nd
  sc := k.sc
  fn := k.fn
  room := k.room
  tk := tk
  gf := k.gf
  gc := k.gc
  xf := k.xf
  gi := k.gi
  gs := k.gs
  gb := k.gb
  pa := pa
  st := k.st
  fr := k.fr
  xs := k.xs
  gx := k.gx
  gm := k.gm
theorem clsIx_ok {t : Tx} {B : Bx} {G : Pg} {n : Nat} {X : Cx} {Wx : WX} {c : Cc} (k : Cok t B G n X Wx c) {x : Str} {j m : Nat} (h : clsIx t c x = some (j, m)) : Gl X x ∧ (x == ("__debug__" : Str)) = false ∧ X.mg x = some (.ref (B.xc j)) ∧ t.gl.lookup x = some (.cls j m) := by
  unfold clsIx at h
  split at h
  · rename_i hg
    obtain ⟨g1, g2⟩ := (Bool.and_eq_true _ _).mp hg
    split at h
    · rename_i j' m' ej
      cases h
      exact ⟨glob_ok k g1, (dbg_ok (by simpa using g2)).1, k.gc x j m ej, ej⟩
    · cases h
  · cases h
theorem isLocal_ok {t : Tx} {B : Bx} {G : Pg} {n : Nat} {X : Cx} {Wx : WX} {c : Cc} (k : Cok t B G n X Wx c) {x : Str} (h : isLocal c x = true) : X.env.scope.names.lookup x = some .local := by
  unfold isLocal at h
  rw [k.sc]
  cases e : c.sc.names.lookup x with
  | none => rw [e] at h; cases h
  | some j => rw [e] at h; cases j <;> first
    | rfl
    | cases h
theorem cH_ok {t : Tx} {B : Bx} {G : Pg} {n : Nat} {X : Cx} {Wx : WX} {c : Cc} (k : Cok t B G n X Wx c) (gx : ∀ x k m, t.gl.lookup x = some (.cls k m) → (G.ex k).isSome = true) : ∀ {hs : List ExceptHandler} {l : List (Nat × Nat × Str)}, cH t c hs = some l → HdM X B (G.cs n).ex hs l
  | [], l, h => by cases h; exact .nil
  | h0 :: r, l, h => by
    unfold cH at h
    split at h
    · cases ‹h0 :: r = []›
    · rename_i e
      cases e
      split at h
      · rename_i kk mm i l' e1 e2 e3
        split at h
        · rename_i hl
          cases h
          obtain ⟨g1, g2, g3, g4⟩ := clsIx_ok k e1
          exact .cons ⟨g1, g2, .inl g3⟩ (gx _ _ _ g4) (by rw [k.hN]; exact ixOf_ok e2) (isLocal_ok k hl) (cH_ok k gx e3)
        · cases h
      · cases h
    · cases h
section
variable {t : Tx} {B : Bx} {G : Pg} {n : Nat} {X : Cx} {Wx : WX}
theorem ixL_ok {c : Cc} (k : Cok t B G n X Wx c) {x : Str} {i : Nat} (h : ixL c x = some i) : X.N[i]? = some x ∧ L2.Loc X.env.scope x ∧ (X.fn x = true ∨ X.env.scope.names.lookup x = some .local) := by
  unfold ixL at h
  rw [k.hN]
  unfold L2.Loc
  rw [k.sc]
  split at h
  · rename_i hl
    exact ⟨ixOf_ok h, .inl hl, .inr hl⟩
  · rename_i hl
    split at h
    · rename_i ho
      exact ⟨ixOf_ok h, .inr hl, .inl (k.fn x ho hl)⟩
    · cases h
  · cases h
theorem cLf_ok {m : Nat} {c : Sc} (k : Cok t B G n X Wx c.c) : ∀ {ts es : List Expr} {is : List E}, cLf t m c ts es = some is → PA X es (rL B (G.cs n) is Wx) ∧ noStar es = true ∧ is.length = es.length
  | [], [], is, h => by cases h; exact ⟨l_nil, rfl, rfl⟩
  | [], _ :: _, is, h => by cases h
  | _ :: _, [], is, h => by cases h
  | tg :: ts, e :: es, is, h => by
    unfold cLf at h
    cases hs : star e with
    | true => rw [hs] at h; cases h
    | false =>
      rw [hs, if_neg Bool.false_ne_true] at h
      split at h
      · cases h
      · rename_i i e1
        split at h
        · cases h
        · rename_i js e2
          cases h
          obtain ⟨p1, p2, p3⟩ := cLf_ok k e2
          exact ⟨l_cons (cE_ok m e1 k).pe p1 hs, by show (!star e && noStar es) = true; rw [hs, p2]; rfl, congrArg Nat.succ p3⟩
theorem swapsSole_no {tg e : Expr} {l : Nat} {env : PySem.Env} (h : nameOf tg = none) : swapsWithSole [tg] e l env = pure false := by
  cases tg <;> first
    | (cases e <;> rfl; done)
    | cases h
theorem swapped_no {tg e : Expr} {env : PySem.Env} (h : isTup e = false) : swappedStores [tg] e env = pure none := by
  cases e <;> first
    | (cases tg <;> rfl; done)
    | cases h
theorem swapped_sub {o i e : Expr} {p : Pos} {env : PySem.Env} : swappedStores [.Subscript o i p] e env = pure none := by cases e <;> rfl
theorem comp_parts {m : Nat} {c : Cc} {b : Bool} {elt tg iter : Expr} {ifs : List Expr} {scope : Scope} {ps : Pos} {i : E} (h : cE t m c b (.ListComp elt [⟨tg, iter, ifs, 0⟩] scope ps) = some i) (k : Cok t B G n X Wx c) {j : Nat} {y : Str} {py pos : Pos} {nm : Nat → List Str}
    (hy : X.N[j]? = some y) (hyl : X.env.scope.names.lookup y = some .local) (hsw : swapsWith (.ListComp elt [⟨tg, iter, ifs, 0⟩] scope ps) (some (.Name y py)) pos.line X.env = pure true) :
    PS X (.Assign [.Name y py] (.ListComp elt [⟨tg, iter, ifs, 0⟩] scope ps) pos) (rSt B (G.cs n) nm n (.set j i) Wx) := by
  cases m with
  | zero => cases h
  | succ m =>
    have h : (if blkC c.N c.sc scope (ownOf c.N scope.names) && decide (ifs.length ≤ 1) then (match srcOf t c tg iter with
      | some (sk, es) => (match cL (cE t m c false) es, cT (c.blk scope) m tg, cE t m (c.blk scope) false elt, cL (cE t m (c.blk scope) false) ifs with
        | some srcs, some it, some ie, some iifs => if (slots it).all (fun i => (ownOf c.N scope.names).any fun p => p.2 == i) then some (.comp b ie it sk srcs iifs ((ownOf c.N scope.names).map (·.2))) else none
        | _, _, _, _ => none)
      | none => none) else none) = some i := h
    · split at h
      · rename_i hc
        simp only [Bool.and_eq_true, decide_eq_true_eq] at hc
        split at h
        · rename_i sk es esrc
          split at h
          · rename_i srcs it ie iifs e1 e2 e3 e4
            split at h
            · rename_i hsl
              cases h
              have ih : ∀ {b : Bool} {e : Expr} {i : E}, cE t m c b e = some i → Both X B (G.cs n) Wx e i := fun h => cE_ok m h k
              obtain ⟨p1, p2⟩ := cL_ok (P := Both X B (G.cs n) Wx) (fun _ _ h => ih h) e1
              obtain ⟨hi, hset⟩ := src_ok k esrc p1 p2
              refine s_setLc k.hK k.calm k.nd hy hyl hsw hi ?_ ?_ (fun s H C cl fp => cT_ok (k.blk _ s H C cl fp) m e2) (fun s H C cl fp => ?_) (fun s H C cl fp => (cE_ok m e3 (k.blk _ s H C cl fp)).pe) (folded_no hset)
              · rw [k.hN, k.sc]; exact blkOk_by hc.1
              · intro j hj
                have := List.all_eq_true.mp hsl j hj
                obtain ⟨p, hp, hq⟩ := List.any_eq_true.mp this
                rw [← eq_of_beq hq]
                exact List.mem_map_of_mem hp
              · obtain ⟨q1, q2⟩ := cL_ok (P := Both (X.blk s H _ (compEnvC _ cl C X.env) fp) B (G.cs n) Wf) (fun _ _ h => cE_ok m h (k.blk _ s H C cl fp)) e4
                match ifs, iifs, q1, hc.2 with
                | [], _, .nil, _ => exact ts_nil
                | [a], _, .cons p .nil, _ => exact ts_one p.pt
            · cases h
          · cases h
        · cases h
      · cases h
theorem eqs2 {i j : Nat} (h : (i != j) = true) : i ≠ j := by simpa using h
theorem beqN {sc : Scope} {x : Str} {k : NameKind} (h : (sc.names.lookup x == some k) = true) : sc.names.lookup x = some k := by
  cases e : sc.names.lookup x with
  | none => rw [e] at h; cases h
  | some j => rw [e] at h; cases j <;> cases k <;> first
    | rfl
    | cases h
theorem cA_ok {nm : Nat → List Str} {m : Nat} {c : Sc} {tg e : Expr} {pos : Pos} (k : Sok t B G n X Wx c.c) : PS X (.Assign [tg] e pos) (rSt B (G.cs n) nm n (cA t m c tg e pos.line) Wx) := by
  have K := k.toCok
  unfold cA
  split
  · -- a name
    rename_i x px
    split
    · rename_i i ei
      obtain ⟨h1, h2, h3⟩ := ixL_ok K ei
      split
      · rename_i ie ee
        have sw := swapB_ok (env := X.env) (x := x) (px := px) (l := pos.line) (value := e)
        rw [K.sc] at sw
        split
        · rename_i hsw
          rw [hsw] at sw
          split
          · rename_i elt tg2 it2 ifs2 sc2 ps2
            refine comp_parts ee K h1 ?_ sw
            unfold swapB at hsw
            simp only [Bool.and_eq_true] at hsw
            rw [K.sc]
            exact beqN hsw.1.1.2
          · exact s_stk
        · rename_i hsw
          rw [Bool.not_eq_true] at hsw
          rw [hsw] at sw
          exact s_set K.nd h1 h2 (cE_ok m ee K).pe sw h3
      · exact s_stk
    · exact s_stk
  · -- a tuple
    rename_i ts kt pt
    split
    · rename_i es k2 pt2
      split
      · rename_i is eis
        obtain ⟨p1, p2, p3⟩ := cLf_ok K eis
        split
        · rename_i esw
          split
          · rename_i it eit
            refine s_unp K.hK (e_tup p1) (cT_ok K m eit) (swapsSole_no rfl) (swapN_ok (by rw [K.sc]; exact esw)) ?_
            rfl
          · exact s_stk
        · rename_i w esw
          split
          · rename_i x px y py
            split
            · rename_i i j e1 e2
              split
              · rename_i hc
                simp only [Bool.and_eq_true] at hc
                have hsw := eq_of_beq hc.2
                match es, is, p3, p1, hsw with
                | [a, b], [ia, ib], _, p1, hsw =>
                  exact s_par K.calm K.nd (by rw [K.hN]; exact ixOf_ok e1) (by rw [K.hN]; exact ixOf_ok e2) (eqs2 hc.1.1.1) (by rw [K.sc]; exact beqN hc.1.1.2) (by rw [K.sc]; exact beqN hc.1.2) p1 (swapN_ok (by rw [K.sc]; exact hsw)) (swapsSole_no rfl)
                | [], _, _, _, hsw => cases hsw
                | [_], _, _, _, hsw => cases hsw
                | _ :: _ :: _ :: _, _, _, _, hsw =>
                  unfold swapN at hsw
                  simp at hsw
              · exact s_stk
            · exact s_stk
          · rename_i x px y py z pz
            split
            · rename_i i j l e1 e2 e3
              split
              · rename_i hc
                simp only [Bool.and_eq_true] at hc
                have hsw := eq_of_beq hc.2
                match es, is, p3, p1, hsw with
                | [a, b, d], [ia, ib, id], _, p1, hsw =>
                  exact s_par3 K.calm K.nd (by rw [K.hN]; exact ixOf_ok e1) (by rw [K.hN]; exact ixOf_ok e2) (by rw [K.hN]; exact ixOf_ok e3) (eqs2 hc.1.1.1.1.1.1) (eqs2 hc.1.1.1.1.1.2) (eqs2 hc.1.1.1.1.2) (by rw [K.sc]; exact beqN hc.1.1.1.2) (by rw [K.sc]; exact beqN hc.1.1.2) (by rw [K.sc]; exact beqN hc.1.2) p1 (swapN_ok (by rw [K.sc]; exact hsw)) (swapsSole_no rfl)
                | [], _, _, _, hsw => cases hsw
                | [_], _, _, _, hsw => cases hsw
                | [_, _], _, _, _, hsw => cases hsw
                | _ :: _ :: _ :: _ :: _, _, _, _, hsw =>
                  unfold swapN at hsw
                  simp at hsw
              · exact s_stk
            · exact s_stk
          · exact s_stk
        · exact s_stk
      · exact s_stk
    · split
      · exact s_stk
      · rename_i hnt
        split
        · rename_i it ie e1 e2
          exact s_unp K.hK (cE_ok m e2 K).pe (cT_ok K m e1) (swapsSole_no rfl) (swapped_no (by simpa using hnt)) rfl
        · exact s_stk
  · -- o[i]
    rename_i o i p
    split
    · rename_i hpl
      split
      · rename_i io ii ie e1 e2 e3
        refine s_ssub (cE_ok m e1 K).pe (cE_ok m e2 K).pe (cE_ok m e3 K).pe (swapsSole_no rfl) swapped_sub fun v => ?_
        cases i <;> first
          | rfl
          | cases hpl
      · exact s_stk
    · exact s_stk
  · exact s_stk
theorem doc_of {e : Expr} (h : isDoc e = true) : ∃ x j p, e = .Constant (.str x) j p := by
  unfold isDoc at h
  split at h
  · exact ⟨_, _, _, rfl⟩
  · cases h
mutual
theorem cS_ok : ∀ (m : Nat) {c : Sc} {st : Stmt} {X : Cx} {Wx : WX}, Sok t B G n X Wx c.c → PS X st (rSt B (G.cs n) G.nm n (cS t m c st) Wx)
  | 0, c, st, X, Wx, k => by unfold cS; exact s_stk
  | m + 1, c, st, X, Wx, k => by
    have K := k.toCok
    unfold cS
    split
    · rename_i e p
      split
      · rename_i hd
        obtain ⟨x, j, q, rfl⟩ := doc_of hd
        exact s_doc
      · split
        · exact s_stk
        · rename_i hc
          split
          · rename_i i ei
            exact s_expr (cE_ok m ei K).pe (by simpa using hc)
          · exact s_stk
    · exact s_retN
    · split
      · rename_i i ei
        exact s_ret (cE_ok m ei K).pe
      · exact s_stk
    · exact s_pass
    · exact s_brk
    · exact s_cont
    · split
      · rename_i i ei
        exact s_if (cE_ok m ei K).pt (cB_ok m k) (cB_ok m k)
      · exact s_stk
    · split
      · rename_i sk es esrc
        split
        · rename_i srcs it e1 e2
          obtain ⟨p1, p2⟩ := cL_ok (P := Both X B (G.cs n) Wx) (fun _ _ h => cE_ok m h K) e1
          obtain ⟨hi, hset⟩ := src_ok K esrc p1 p2
          exact s_for K.hK k.pa K.calm hi (cT_ok K m e2) (cB_ok m k) hset
        · exact s_stk
      · exact s_stk
    · exact cA_ok k
    · -- raise
      rename_i x px as rp ps
      split
      · rename_i j jm is e1 e2
        split
        · rename_i hl
          obtain ⟨g1, g2, g3, g4⟩ := clsIx_ok K e1
          obtain ⟨h1, h2⟩ := k.gm _ _ _ g4
          obtain ⟨p1, p2⟩ := cL_ok (P := Both X B (G.cs n) Wx) (fun _ _ h => cE_ok m h K) e2
          rcases h2 with ⟨h2, M⟩ | ⟨fI, cc, cda, Bs, newId, initId, bm, fd, T, D⟩
          · rw [h2] at h1
            cases as with
            | nil =>
              cases p1
              exact s_raise0 K.calm K.tk M g3 g1 g2 h2
            | cons a as =>
              rw [← hl] at h1
              cases h1
          · cases as with
            | nil =>
              have z := D.len
              rw [h1, ← hl] at z
              simp at z
            | cons a as => exact s_raise1 K.calm K.tk T D K.room g3 g1 g2 p2 (pa_of p1 p2)
        · exact s_stk
      · exact s_stk
    · -- try, the error kept
      split
      · rename_i k1 _ k2 _ k3 _ k4 _ j i e1 e2 e3 e4 e5 e6
        split
        · rename_i hc
          simp only [Bool.and_eq_true, decide_eq_true_eq] at hc
          obtain ⟨⟨⟨⟨c1, c2⟩, c3⟩, c4⟩, c5⟩ := hc
          subst c1
          obtain ⟨a1, b1, d1, f1⟩ := clsIx_ok K e1
          obtain ⟨a2, b2, d2, f2⟩ := clsIx_ok K e2
          obtain ⟨a3, b3, d3, f3⟩ := clsIx_ok K e3
          obtain ⟨a4, b4, d4, f4⟩ := clsIx_ok K e4
          exact s_tryK K.xf (k.gx _ _ _ f1) (k.gx _ _ _ f2) (k.gx _ _ _ f3) (k.gx _ _ _ f4) k.xs k.st k.fr K.nd (by rw [K.hN]; exact ixOf_ok e5) (isLocal_ok K c2) (by rw [K.hN]; exact ixOf_ok e6) (isLocal_ok K c3) (dbg_ok (by simpa using c5)) ⟨a1, a2, a3, a4, b1, b2, b3, b4, d1, d2, d3, d4⟩ K.tk (eqs2 c4)
            fun W pn xe tk pa => cB_ok m (k.tr pn xe tk pa)
        · exact s_stk
      · exact s_stk
    · split
      · exact s_stk
      · rename_i hne
        split
        · rename_i l el
          rename_i hs _ _ _
          cases hs with
          | nil => exact absurd rfl hne
          | cons h0 hs => exact s_tryM K.xf k.st k.fr K.nd K.tk (cH_ok K k.gx el) fun W pn xe tk pa => cB_ok m (k.tr pn xe tk pa)
        · exact s_stk
    · exact s_stk
theorem cB_ok : ∀ (m : Nat) {c : Sc} {sts : List Stmt} {X : Cx} {Wx : WX}, Sok t B G n X Wx c.c → PSs X sts (rSs B (G.cs n) G.nm n (cB t m c sts) Wx)
  | 0, c, sts, X, Wx, k => by
    unfold cB
    exact ⟨fun pins s σ H D I ⟨w, h, env, r, s', l⟩ => False.elim l⟩
  | m + 1, c, [], X, Wx, k => by unfold cB; exact ss_nil
  | m + 1, c, st :: sts, X, Wx, k => by
    unfold cB
    exact ss_cons (cS_ok m k) (cB_ok m k)
end
end
end G
end
section
set_option Elab.async false
set_option linter.all false
set_option maxRecDepth 100000
/-! G15: every def keeps what the evaluator says -/
namespace G
open PySem L2
def Df.sc_ (d : Df) : Sc := ⟨⟨d.N, d.sc, fun _ => true⟩, d.mv, d.mi, d.mr⟩
def fnOfDf (t : Tx) (d : Df) : Fn := ⟨d.ps.length, d.N.length, cB t 200 d.sc_ d.body⟩
def scOk (d : Df) : Bool := decide (d.sc.kind = .function) && !d.sc.isCoroutine && !d.sc.isGenerator && decide d.N.Nodup && decide (d.N.take d.ps.length = d.ps) &&
  d.ps.all (fun x => d.sc.names.lookup x == some .local || d.sc.names.lookup x == some .cell) && d.sc.names.all (fun y => y.2 != .free)
theorem scOk_ok {d : Df} (h : scOk d = true) : FnScope d.N d.ps d.sc := by
  unfold scOk at h
  simp only [Bool.and_eq_true, decide_eq_true_eq, Bool.not_eq_true'] at h
  obtain ⟨⟨⟨⟨⟨⟨h1, h2⟩, h3⟩, h4⟩, h5⟩, h6⟩, h7⟩ := h
  refine ⟨h1, h2, h3, h4, h5, fun x hx => ?_, fun y hy e => ?_⟩
  · have := List.all_eq_true.mp h6 x hx
    rcases (Bool.or_eq_true _ _).mp this with z | z
    · exact .inl (beqN z)
    · exact .inr (beqN z)
  · have := List.all_eq_true.mp h7 y hy
    rw [e] at this
    cases this
/-- what is known of the world: the defs' objects, the module's names -/
structure Wk (P : Program) (t : Tx) (K : PySem.W.Frag) (mg : Str → Option Value) (ad : Nat → Addr) (xc : Nat → Addr) (ex : Nat → Option (List String)) (nm : Nat → List Str) : Prop where
  gc : ∀ x c m, t.gl.lookup x = some (.cls c m) → mg x = some (.ref (xc c))
  gx : ∀ x k m, t.gl.lookup x = some (.cls k m) → (ex k).isSome = true
  gm : ∀ x k m, t.gl.lookup x = some (.cls k m) → (nm k).length = m ∧ MkF P K mg (xc k) (nm k)
  xf : ExF K xc ex
  fd : ∀ f d, t.defs[f]? = some d → ∃ fd, FunD K d.name d.qual d.pa d.body d.sc [] [] (ad f) fd ∧ Binds K fd d.ps [] ∧ ∀ q ∈ t.kw, q.1 = f → KbOk K fd d.ps q.2.1 q.2.2
  gf : ∀ x f, t.gl.lookup x = some (.fn f) → mg x = some (.ref (ad f)) ∧ ∃ d, t.defs[f]? = some d
  gi : ∀ x i, t.gl.lookup x = some (.int i) → ∃ u, mg x = some u ∧ RelV (.int i) u
  gs : ∀ x i, t.gl.lookup x = some (.str i) → ∃ u, mg x = some u ∧ RelV (.str i) u
  gb : ∀ x, t.bl.contains x = true → mg x = none
theorem RS.start {B : Bx} {H : Hp} {w : Wd} {ws : List W} {vs : List V} {N : List Str} (q : RVs B H w ws vs) : RS B H w (ws.map some ++ List.replicate (N.length - ws.length) none) (L2.start N vs) := by
  have hl := q.length
  refine ⟨by simp [L2.start, hl], fun i x e => ?_⟩
  unfold L2.start
  by_cases c : i < ws.length
  · rw [List.getElem?_append_left (by simpa using c), List.getElem?_map] at e
    cases e1 : ws[i]? with
    | none => rw [e1] at e; cases e
    | some y =>
      rw [e1] at e
      cases e
      obtain ⟨v, e2, r⟩ := q.get e1
      refine ⟨v, ?_, r⟩
      rw [List.getElem?_append_left (by rw [List.length_map, ← hl]; exact c), List.getElem?_map, e2]
      rfl
  · rw [List.getElem?_append_right (by simpa using c), List.getElem?_replicate] at e
    split at e <;> cases e
section
variable {P : Program} {w : World} {K : PySem.W.Frag} {mg : Str → Option Value} {base : Heap} {t : Tx} {B : Bx} {G : Pg} {ad : Nat → Addr}
theorem spW_len {n f : Nat} {d : Df} (hG : G.fns = t.defs.map (fnOfDf t)) (e : t.defs[f]? = some d) : ∀ vs H Q E, spW B G n f vs H Q E → vs.length = d.ps.length := fun vs H Q E ⟨w, h, ws, d', r, q, e1, e2, l⟩ => by
  rw [hG, List.getElem?_map, e] at e1
  cases e1
  rw [← q.length]
  exact e2
theorem fn_at (hB : B.K = K) (k : Wk P t K mg ad B.xc G.ex G.nm) (hsc : ∀ d ∈ t.defs, scOk d = true) (hG : G.fns = t.defs.map (fnOfDf t)) : ∀ (n f : Nat) (d : Df) (fd : FuncData), t.defs[f]? = some d → FunD K d.name d.qual d.pa d.body d.sc [] [] (ad f) fd → FnOk P w K mg base (L2.CX P w) (3 * n + 3) (ad f) fd d.ps (spW B G n f)
  | 0, f, d, fd, e, F => by
    refine F.ok (k := 2) (scOk_ok (hsc d (List.mem_of_getElem? e))) (spW_len hG e) (fun cdv A outer s H vs Q E hr ⟨w, h, ws, d', r, q, e1, e2, l⟩ => ?_)
    exact False.elim l
  | n + 1, f, d, fd, e, F => by
    have S := scOk_ok (hsc d (List.mem_of_getElem? e))
    refine F.ok (k := 3 * n + 5) S (spW_len hG e) (fun cdv A outer s H vs Q E hr ⟨w0, h, ws, d', r, q, e1, e2, l⟩ => ?_)
    have tk := takes_of (X := cxOf (L2.CX P w) P w K mg base d.N d.qual d.sc (ad f) cdv A outer s H E) (E := E) rfl rfl rfl rfl
    have C : Cok t B G n (cxOf (L2.CX P w) P w K mg base d.N d.qual d.sc (ad f) cdv A outer s H E) (fun cls d _ H => E cls d H) d.sc_.c :=
      { hK := hB, calm := rfl, hN := rfl, nd := S.nd, sc := rfl, fn := fun _ _ _ => rfl, room := hr.mono (by omega), tk := tk
        gf := fun x g eg => by
          obtain ⟨hm, d2, ed⟩ := k.gf x g eg
          obtain ⟨fd2, D2, b2, b3⟩ := k.fd g d2 ed
          exact ⟨_, fd2, _, fn_at hB k hsc hG n g d2 fd2 ed D2, hm, D2.kp, b2, b3⟩
        gc := k.gc, xf := k.xf, gi := k.gi, gs := k.gs, gb := k.gb }
    have C2 : Sok t B G n (cxOf (L2.CX P w) P w K mg base d.N d.qual d.sc (ad f) cdv A outer s H E) (fun cls d _ H => E cls d H) d.sc_.c :=
      { toCok := C, pa := passes_of rfl, st := rfl, fr := rfl, xs := rfl, gx := k.gx, gm := k.gm }
    refine ⟨_, cB_ok 200 C2, ?_⟩
    rw [hG, List.getElem?_map, e] at e1
    cases e1
    refine ⟨w0, h, _, r, RS.start q, ?_⟩
    have l : Lands B w0 H (callW G (n + 1) f ws h) (RVr B) Q E := l
    unfold callW at l
    rw [hG, List.getElem?_map, e] at l
    have l : Lands B w0 H (if ws.length = (fnOfDf t d).np then (match exB ⟨G.ex, callW G n, G.mth, G.ini⟩ G.nm n (fnOfDf t d).body (ws.map some ++ List.replicate ((fnOfDf t d).ns - (fnOfDf t d).np) none) h with
      | .ok .nx _ h1 => .ok .non h1
      | .ok (.ret w) _ h1 => .ok w h1
      | .ok _ _ _ => .stuck
      | .exc c fs _ h1 => .exc c fs h1
      | .stuck => .stuck) else .stuck) (RVr B) Q E := l
    rw [if_pos e2] at l
    have e2' : ws.length = d.ps.length := e2
    have l : Lands B w0 H (match exB (G.cs n) G.nm n (cB t 200 d.sc_ d.body) (ws.map some ++ List.replicate (d.N.length - d.ps.length) none) h with
      | .ok .nx _ h1 => .ok .non h1
      | .ok (.ret w) _ h1 => .ok w h1
      | .ok _ _ _ => .stuck
      | .exc c fs _ h1 => .exc c fs h1
      | .stuck => .stuck) (RVr B) Q E := l
    rw [← e2'] at l
    show LandsS B w0 H (exB (G.cs n) G.nm n (cB t 200 d.sc_ d.body) _ h) _ _
    cases eb : exB (G.cs n) G.nm n (cB t 200 d.sc_ d.body) (ws.map some ++ List.replicate (d.N.length - ws.length) none) h with
    | stuck => rw [eb] at l; exact l
    | exc c fs e' h' =>
      rw [eb] at l
      exact fun w' H' σ' d' k' r' s' xf => l w' H' d' k' r' xf
    | ok fl e' h' =>
      rw [eb] at l
      cases fl with
      | nx => exact fun w' H' σ' k' r' s' => l w' H' .non k' r' rfl
      | ret x => exact fun w' H' σ' k' r' s' v rv => l w' H' v k' r' rv
      | brk => exact False.elim l
      | cont => exact False.elim l
end
end G
end
section
set_option Elab.async false
set_option linter.all false
set_option maxRecDepth 100000
set_option maxHeartbeats 2000000
/-! GH: what the head tells -/
namespace G
open PySem L2 PySem.Spec
open PySem.W (Frag)
/-- an own error: its name, its built-in classes, its fields, its base; the text of its __init__ -/
structure ClsD where
  name : Str
  ex : List String
  fs : List Str
  base : Nat
  qual : Str
  pa : Arguments
  body : List Stmt
  sc : Scope
/-- the whole text -/
structure Txt where
  t : Tx
  cls : List ClsD
def Txt.pg (z : Txt) : Pg := ⟨z.t.defs.map (fnOfDf z.t), fun k => (z.cls[k]?).map (·.ex), fun k => ((z.cls[k]?).map (·.fs)).getD [], fun _ _ => none, fun _ => none⟩
def Txt.xc (z : Txt) (K : Frag) (k : Nat) : Addr := He.ga K (((z.cls[k]?).map (·.name)).getD ⟨#[]⟩)
def Txt.bx (z : Txt) (K : Frag) : Bx := ⟨K, z.xc K, fun _ => 0⟩
def Txt.ad (z : Txt) (K : Frag) (f : Nat) : Addr := He.ga K (((z.t.defs[f]?).map (·.name)).getD ⟨#[]⟩)
def Df.dd (d : Df) : He.DefD := ⟨(d.name, none), d.name, d.qual, d.pa, d.body, d.sc, [], []⟩
/-! ### checks -/
def glB (z : Txt) (K : Frag) (q : Str × Gk) : Bool := match q.2 with
  | .fn f => (He.Fa.glo q.1).ok K && (match z.t.defs[f]? with
    | some d => decide (d.name = q.1)
    | none => false)
  | .int i => (He.Fa.int q.1 i).ok K
  | .str i => (He.Fa.str q.1 i).ok K
  | .cls k m => (He.Fa.glo q.1).ok K && (match z.cls[k]? with
    | some c => decide (c.name = q.1) && decide (c.fs.length = m)
    | none => false)
def exCB (K : Frag) (C : Addr) : Bool := (PySem.W.clsIn K C).isSome && (decide (PySem.W.findIn K (.ref C) "__getattribute__" = some (some (.builtin "BaseException.__getattribute__"))) && (decide (PySem.W.findIn K (.ref C) "__getattr__" = some none) &&
  (decide (PySem.W.subIn K (.ref C) (.type "BaseException") = some true) && (PySem.W.hasDictIn K C && (decide (PySem.W.findIn K (.ref C) "__class__" = some (some (.builtin "object.__class__"))) &&
  (decide (PySem.W.specialIn K (.builtin "object.__class__") "__get__" = some (some (.builtin "getset_descriptor.__get__"))) && (decide (PySem.W.takesIn K (.builtin "object.__class__") = some true) && decide (PySem.W.mroIn K C (.type "object") = some true))))))))
theorem exCB_ok {K : Frag} {C : Addr} (h : exCB K C = true) : ExC K C := by
  unfold exCB at h
  simp only [Bool.and_eq_true, decide_eq_true_eq] at h
  obtain ⟨h1, h2, h3, h4, h5, h6, h7, h8, h9⟩ := h
  exact ⟨h1, h2, h3, h4, h5, h6, h7, h8, h9⟩
def exFB (z : Txt) (K : Frag) : Bool := (List.range z.cls.length).all fun c => match z.cls[c]? with
  | none => false
  | some cd => exCB K (z.xc K c) && ((xN.all fun n => decide (PySem.W.kitOne K (.ref (z.xc K c)) (.type n) = some (cd.ex.contains n))) && (((List.range z.cls.length).all fun d => decide (PySem.W.kitOne K (.ref (z.xc K c)) (.ref (z.xc K d)) = some (c == d)) && decide (PySem.W.exmOne K (.ref (z.xc K c)) (.ref (z.xc K d)) = some (c == d))) &&
    (decide (PySem.W.kitOne K (.type "NoneType") (.ref (z.xc K c)) = some false) && (fN.all fun f => decide (PySem.W.findIn K (.ref (z.xc K c)) f = some none)))))
theorem exFB_ok {z : Txt} {K : Frag} (h : exFB z K = true) : ExF K (z.xc K) z.pg.ex := by
  have at_ : ∀ c l, z.pg.ex c = some l → ∃ cd, z.cls[c]? = some cd ∧ cd.ex = l ∧ c < z.cls.length := fun c l e => by
    obtain ⟨cd, e1, e2⟩ := map_some (show (z.cls[c]?).map (·.ex) = some l from e)
    exact ⟨cd, e1, e2.symm ▸ rfl, (List.getElem?_eq_some_iff.mp e1).1⟩
  have row : ∀ c l, z.pg.ex c = some l → exCB K (z.xc K c) = true ∧ (∀ n ∈ xN, PySem.W.kitOne K (.ref (z.xc K c)) (.type n) = some (l.contains n)) ∧ (∀ d, d < z.cls.length → PySem.W.kitOne K (.ref (z.xc K c)) (.ref (z.xc K d)) = some (c == d) ∧ PySem.W.exmOne K (.ref (z.xc K c)) (.ref (z.xc K d)) = some (c == d)) ∧
      PySem.W.kitOne K (.type "NoneType") (.ref (z.xc K c)) = some false ∧ ∀ f ∈ fN, PySem.W.findIn K (.ref (z.xc K c)) f = some none := fun c l e => by
    obtain ⟨cd, e1, e2, e3⟩ := at_ c l e
    have q := List.all_eq_true.mp h c (List.mem_range.mpr e3)
    rw [e1] at q
    simp only [Bool.and_eq_true, decide_eq_true_eq, List.all_eq_true, List.mem_range] at q
    subst e2
    obtain ⟨q1, q2, q3, q4, q5⟩ := q
    exact ⟨q1, q2, q3, q4, q5⟩
  refine ⟨fun c l e => exCB_ok (row c l e).1, fun c l n e hn => (row c l e).2.1 n (List.contains_iff_mem.mp hn), fun c l d m e e' => ((row c l e).2.2.1 d (at_ d m e').choose_spec.2.2).1, fun d m e => (row d m e).2.2.2.1, fun c l d m e e' => ((row c l e).2.2.1 d (at_ d m e').choose_spec.2.2).2, fun c l f e hf => (row c l e).2.2.2.2 f (List.contains_iff_mem.mp hf)⟩
/-! ### how errors are made -/
def mk0B (K : Frag) (C : Addr) (b : Nat) : Bool := (match exBase[b]? with
  | some q => PySem.W.excIn K C q.2.2.2 q.2.1
  | none => false) && (PySem.W.keepIn K (.ref C) && (decide (PySem.W.subIn K (.ref C) (.type "BaseException") = some true) && decide (PySem.W.typeIn K (.ref C) = some (.type "type"))))
theorem mk0B_ok {K : Frag} {C : Addr} {b : Nat} (h : mk0B K C b = true) : Mk0 K C := by
  unfold mk0B at h
  simp only [Bool.and_eq_true, decide_eq_true_eq] at h
  obtain ⟨h1, h2, h3, h4⟩ := h
  cases e : exBase[b]? with
  | none => rw [e] at h1; cases h1
  | some q =>
    rw [e] at h1
    exact ⟨⟨q, List.mem_of_getElem? e, h1⟩, h2, h3, h4⟩
def clsB (K : Frag) (C : Addr) (newId : String) (bm : List Value) : Bool := match K.lookup C with
  | some ⟨.type "type", _, .cls cd, sl⟩ => (match cd.mro, sl.toList with
    | .ref C' :: bmr, [_, _, _, _, some (.builtin n), _] => C' == C && n == newId && !cd.hasDel && cd.hasDict && PySem.W.excTail bm bmr
    | _, _ => false)
  | _ => false
theorem clsB_ok {K : Frag} {C : Addr} {newId : String} {bm : List Value} (q : clsB K C newId bm = true) : ∃ nm q N bs bmr sn sub ab col dd k0 k1 k2 k3 k5, K.lookup C = some (excClassObj nm q C N bs bmr true sn sub ab col dd k0 k1 k2 k3 k5 newId) ∧ PySem.W.excTail bm bmr = true := by
  unfold clsB at q
  split at q
  · rename_i dd cd sl ho
    split at q
    · rename_i C' bmr k0 k1 k2 k3 n k5 hm hs
      simp only [Bool.and_eq_true, beq_iff_eq, Bool.not_eq_true'] at q
      obtain ⟨⟨⟨⟨rfl, rfl⟩, hdel⟩, hdc⟩, ht⟩ := q
      obtain ⟨nm, bs, mro, ns, qn, hd, sn, sb, ab, col, del⟩ := cd
      dsimp only at hm hdel hdc
      subst hm hdel hdc
      have hsl : sl = #[k0, k1, k2, k3, some (.builtin n), k5] := by
        obtain ⟨l⟩ := sl
        simp only at hs
        rw [hs]
      subst hsl
      exact ⟨nm, qn, ns, bs, bmr, sn, sb, ab, col, dd, k0, k1, k2, k3, k5, ho, ht⟩
    · cases q
  · cases q
def mk1B (P : Program) (K : Frag) (C : Addr) (b : Nat) (fs : List Str) : Bool := match exBase[b]? with
  | none => false
  | some q => match K.lookup (He.ma K C "__init__") with
    | some ⟨_, _, .func fd, _⟩ => (match fd.code, fd.closure with
      | .ref cda, [(nm, cc)] => decide (nm = ("__class__" : Str)) && (PySem.W.codeIn K fd.code fd.qualname && (decide (fd.globals = mainGlobals) && (decide (fd.builtins = builtinsNs) && (decide (fd.defaults = .none) && ((match K.lookup cc with
          | some ⟨_, _, .cell (some (.ref C')), _⟩ => C' == C
          | _ => false) && ((match K.lookup cda with
          | some ⟨_, _, .fields vs, _⟩ => (match ((vs : Array Value)[2]? : Option Value) with
            | some (Value.str file _) => (P.main.file : Str) == file
            | _ => false)
          | _ => false) && (clsB K C q.2.1 q.2.2.2 && (decide (PySem.W.findIn K (.ref C) "__setattr__" = some (some (.builtin "object.__setattr__"))) && (decide (PySem.W.findIn K (.ref C) "__init__" = some (some (.ref (He.ma K C "__init__")))) &&
          (decide (PySem.W.typeIn K (.ref (He.ma K C "__init__")) = some (.type "function")) && (PySem.W.keepIn K (.ref C) && (decide (PySem.W.subIn K (.ref C) (.type "BaseException") = some true) && (decide (PySem.W.typeIn K (.ref C) = some (.type "type")) && (decide (PySem.W.subIn K (.ref C) (.type q.1) = some true) &&
          (decide (PySem.W.mroIn K C (.ref C) = some true) && (decide (PySem.W.nsIn K cStatics "thirdparty.any" = some none) && (decide (PySem.W.ks_superIn K C C "__init__" = some (some (.builtin q.2.2.1))) && fs.all fun f => decide (PySem.W.findIn K (.ref C) f = some none))))))))))))))))))
      | _, _ => false)
    | _ => false
abbrev IniW : Type := Option (Str × Arguments × FuncBody × Scope)
def iniW (K : Frag) (C : Addr) : IniW := match K.lookup (He.ma K C "__init__") with
  | some ⟨_, _, .func fd, _⟩ => some (fd.qualname, fd.params, fd.body, fd.scope)
  | _ => none
/-- the text of an __init__ -/
structure InitTxt (cd : ClsD) : Prop where
  body : ∃ p1 p2 p3 p4 p5 la ls, cd.body = (.Expr (.Call (.Attribute (.Call (.Name "super" p1) [] [] p2) "__init__" p3) (iArgs la) [] p4) p5 :: iSt ls) ∧ la.map (·.1) = cd.fs ∧ ls.map (fun q => q.1) = cd.fs ∧ (p3.endLine == p4.line) = true
  ar : ∃ ar, (cd.pa.posonlyargs ++ cd.pa.args).head? = some ar ∧ ar.arg = "self"
  kind : cd.sc.kind = .function
  co : cd.sc.isCoroutine = false
  gen : cd.sc.isGenerator = false
  ks : cd.sc.names.lookup ("super" : Str) = some .globalImplicit
  kc : cd.sc.names.lookup ("__class__" : Str) = some .free
  kl : ∀ f ∈ ("self" : Str) :: cd.fs, cd.sc.names.lookup f = some .local ∧ (f == ("__debug__" : Str)) = false
  nc : ∀ y ∈ cd.sc.names, y.2 ≠ .cell
  nd : (("self" : Str) :: cd.fs).Nodup
  len : cd.fs.length = 1 ∨ cd.fs.length = 2
  bind : ∀ (nm q : Str) (gl : Addr) (cl : List (Str × Addr)) (kV doc pm : Value) (an : Option Addr) (cdv ct : Value) (bu : Addr) (u : Value) (us : List Value), us.length = cd.fs.length →
    bindArgs ⟨nm, q, cd.pa, .stmts cd.body, cd.sc, gl, cl, .none, kV, doc, pm, an, cdv, ct, bu⟩ ⟨u :: us, []⟩ = pure ((("self" : Str), u) :: cd.fs.zip us)
theorem mk1_ok {P : Program} {K : Frag} {mg : Str → Option Value} {C : Addr} {cd : ClsD} (h : mk1B P K C cd.base cd.fs = true) (hi : iniW K C = some (cd.qual, cd.pa, .stmts cd.body, cd.sc)) (T : InitTxt cd) (hsup : mg "super" = none) (htop : (P.main.scope.names.lookup ("super" : Str)).isSome = false) :
    MkF P K mg C cd.fs := by
  unfold mk1B at h
  cases eb : exBase[cd.base]? with
  | none => rw [eb] at h; cases h
  | some q =>
    rw [eb] at h
    dsimp only at h
    unfold iniW at hi
    cases el : K.lookup (He.ma K C "__init__") with
    | none => rw [el] at h; cases h
    | some o =>
      obtain ⟨oc, od, dt, osl⟩ := o
      rw [el] at h hi
      cases dt with
      | func fd =>
        dsimp only at h hi
        obtain ⟨n1, n2, n3, n4, n5, n6, n7, n8, n9, n10, n11, n12, n13, n14, n15⟩ := fd
        dsimp only at h hi
        cases hi
        split at h
        · rename_i x1 x2 cda nm cc
          simp only [Bool.and_eq_true, decide_eq_true_eq, List.all_eq_true] at h
          obtain ⟨h1, h2, h3, h4, h5, h6, h7, h8, h9, h10, h11, h12, h13, h14, h15, h16, h17, h18, h19⟩ := h
          subst h1 h3 h4 h5
          refine .inr ⟨He.ma K C "__init__", cc, cda, q.1, q.2.1, q.2.2.1, q.2.2.2, _, { xb := xbase_ok q (List.mem_of_getElem? eb), cls := clsB_ok h8, sa := h9, nf := h19, iC := h10, tC := h11, kC := h12, be := h13, ty := h14, sB := h15, mC := h16, op := h17, su := h18, cell := ?_, code := ?_, sup := hsup, top := htop },
            { lk := ⟨oc, od, osl, el⟩, cd := rfl, cin := h2, body := ?_, gl := rfl, bu := rfl, cl := rfl, ar := T.ar, kind := T.kind, co := T.co, gen := T.gen, ks := T.ks, kc := T.kc, kl := T.kl, nc := T.nc, nd := T.nd, bind := fun s u us hl => .of_eq (T.bind _ _ _ _ _ _ _ _ _ _ _ u us hl), len := T.len }⟩
          · cases ec : K.lookup cc with
            | none => rw [ec] at h6; cases h6
            | some o2 =>
              obtain ⟨c1, c2, c3, c4⟩ := o2
              rw [ec] at h6
              cases c3 with
              | cell v =>
                cases v with
                | none => cases h6
                | some v =>
                  cases v with
                  | ref C' =>
                    have h6 : (C' == C) = true := h6
                    rw [beq_iff_eq] at h6
                    subst h6
                    exact ⟨c1, c2, c4, rfl⟩
                  | _ => cases h6
              | _ => cases h6
          · cases ec : K.lookup cda with
            | none => rw [ec] at h7; cases h7
            | some o2 =>
              obtain ⟨c1, c2, c3, c4⟩ := o2
              rw [ec] at h7
              cases c3 with
              | fields vs =>
                dsimp only at h7
                split at h7
                · rename_i file tf ef
                  exact ⟨c1, c2, vs, c4, file, tf, rfl, ef, h7⟩
                · cases h7
              | _ => cases h7
          · obtain ⟨p1, p2, p3, p4, p5, la, ls, b1, b2, b3, b4⟩ := T.body
            exact ⟨p1, p2, p3, p4, p5, la, ls, congrArg FuncBody.stmts b1, b2, b3, b4⟩
        · cases h
      | _ => cases h
/-! ### the Hook -/
def noList (K : Frag) : Bool := K.all fun q => match q.2.cls with
  | .type c => !(c == "list")
  | _ => true
def chkZ (P : Program) (z : Txt) (K : Frag) : Bool := (z.t.gl.all (glB z K)) && ((z.t.bl.all fun x => (He.Fa.free x).ok K) && (exFB z K && ((z.cls.all fun c => if c.fs.isEmpty then mk0B K (He.ga K c.name) c.base else mk1B P K (He.ga K c.name) c.base c.fs) &&
  ((He.Fa.free "super").ok K && ((z.t.defs.all fun d => d.dd.ok K) && noList K)))))
abbrev AlZ : Type := Bool × List He.FnW × List IniW
def obsZ (P : Program) (z : Txt) (K : Frag) : AlZ := (chkZ P z K, z.t.defs.map (fun d => He.fnW K (d.name, none)), z.cls.map fun c => if c.fs.isEmpty then none else iniW K (He.ga K c.name))
def valZ (z : Txt) : AlZ := (true, z.t.defs.map (fun d => d.dd.val), z.cls.map fun c => if c.fs.isEmpty then none else some (c.qual, c.pa, .stmts c.body, c.sc))
def obsG (P : Program) (z : Txt) (n : Nat) (g : Addr → Option Obj) : AlZ := obsZ P z (He.frG g (He.asD g n ++ [cStatics]))
def hookZ (P : Program) (z : Txt) (n : Nat) : PySem.W.Hook where
  α := AlZ
  obs := fun s => obsG P z n s.heap.get?
  val := fun _ => valZ z
  says := fun _ h => ∃ K : Frag, K.In h ∧ obsZ P z K = valZ z
  of := fun _ _ e => ⟨_, He.frG_in, e⟩
  keeps := fun _ _ _ ⟨K, hK, c⟩ k => ⟨K, PySem.W.Frag.In.keeps hK k, c⟩
theorem obsG_eq {P : Program} {z : Txt} {n : Nat} {g : Addr → Option Obj} {s : Shared} (h : ∀ a, g a = s.heap.get? a) : obsG P z n g = (hookZ P z n).obs s := by
  have e : g = s.heap.get? := funext h
  rw [e] <;> rfl
/-! ### what the text must be -/
def BindOk (d : Df) : Prop := ∀ (kV doc pm : Value) (an : Option Addr) (cdv ct : Value) (us : List Value), us.length = d.ps.length → bindArgs (PySem.W.fnOf d.name d.qual d.pa d.body d.sc .none kV doc pm an cdv ct) ⟨us, []⟩ = pure (d.ps.zip us)
def KwTxt (d : Df) (ks : List Str) (perm : List Nat) : Prop := ∀ (kV doc pm : Value) (an : Option Addr) (cdv ct : Value) (ws : List Value), ws.length = ks.length → ∃ xs, pickL perm ws = some xs ∧ bindArgs (PySem.W.fnOf d.name d.qual d.pa d.body d.sc .none kV doc pm an cdv ct) ⟨[], ks.zip ws⟩ = pure (d.ps.zip xs)
structure TxtOk (P : Program) (z : Txt) : Prop where
  bind : ∀ d ∈ z.t.defs, BindOk d
  kw : ∀ q ∈ z.t.kw, ∀ d, z.t.defs[q.1]? = some d → KwTxt d q.2.1 q.2.2
  init : ∀ c ∈ z.cls, c.fs.isEmpty = false → InitTxt c
  sc : ∀ d ∈ z.t.defs, scOk d = true
  top : (P.main.scope.names.lookup ("super" : Str)).isSome = false
theorem lookup_mem {α : Type} {l : List (Str × α)} {x : Str} {v : α} (h : l.lookup x = some v) : (x, v) ∈ l := mem_of_lookup h
theorem wk_of {P : Program} {z : Txt} {K : Frag} {mg : Str → Option Value} {h : Heap} (X : K.In h) (G : h.Ns mainGlobals mg) (c : obsZ P z K = valZ z) (T : TxtOk P z) : Wk P z.t K mg (z.ad K) (z.xc K) z.pg.ex z.pg.nm ∧ noList K = true := by
  have c1 : chkZ P z K = true := congrArg (fun q : AlZ => q.1) c
  have c2 : z.t.defs.map (fun d => He.fnW K (d.name, none)) = z.t.defs.map (fun d => d.dd.val) := congrArg (fun q : AlZ => q.2.1) c
  have c3 : (z.cls.map fun c => if c.fs.isEmpty then none else iniW K (He.ga K c.name)) = z.cls.map fun c => if c.fs.isEmpty then none else some (c.qual, c.pa, .stmts c.body, c.sc) := congrArg (fun q : AlZ => q.2.2) c
  unfold chkZ at c1
  simp only [Bool.and_eq_true, List.all_eq_true] at c1
  obtain ⟨k1, k2, k3, k4, k5, k6, k7⟩ := c1
  have hsup : mg "super" = none := He.free_ok X G k5
  have gl : ∀ x g, z.t.gl.lookup x = some g → glB z K (x, g) = true := fun x g e => k1 _ (lookup_mem e)
  have cl : ∀ x k m, z.t.gl.lookup x = some (.cls k m) → ∃ cd, z.cls[k]? = some cd ∧ cd.name = x ∧ cd.fs.length = m ∧ mg x = some (.ref (He.ga K x)) := fun x k m e => by
    have q := gl x _ e
    unfold glB at q
    simp only [Bool.and_eq_true] at q
    obtain ⟨q1, q2⟩ := q
    cases ec : z.cls[k]? with
    | none => rw [ec] at q2; cases q2
    | some cd =>
      rw [ec] at q2
      simp only [Bool.and_eq_true, decide_eq_true_eq] at q2
      exact ⟨cd, rfl, q2.1, q2.2, He.glo_ok X G q1⟩
  refine ⟨?_, by simpa [noList, List.all_eq_true] using k7⟩
  constructor
  · -- gc
    intro x k m e
    obtain ⟨cd, h1, h2, h3, h4⟩ := cl x k m e
    rw [h4]
    unfold Txt.xc
    rw [h1, ← h2]
    rfl
  · intro x k m e
    obtain ⟨cd, h1, h2, h3, h4⟩ := cl x k m e
    show ((z.cls[k]?).map (·.ex)).isSome = true
    rw [h1]
    rfl
  · intro x k m e
    obtain ⟨cd, h1, h2, h3, h4⟩ := cl x k m e
    have e1 : z.pg.nm k = cd.fs := by
      show ((z.cls[k]?).map (·.fs)).getD [] = _
      rw [h1]; rfl
    have e2 : z.xc K k = He.ga K cd.name := by
      unfold Txt.xc
      rw [h1]; rfl
    rw [e1, e2]
    refine ⟨h3, ?_⟩
    have q := k4 cd (List.mem_of_getElem? h1)
    cases hf : cd.fs.isEmpty with
    | true =>
      rw [hf, if_pos rfl] at q
      exact .inl ⟨List.isEmpty_iff.mp hf, mk0B_ok q⟩
    | false =>
      rw [hf, if_neg Bool.false_ne_true] at q
      have e3 : (z.cls.map fun c => if c.fs.isEmpty then none else iniW K (He.ga K c.name))[k]? = (z.cls.map fun c => if c.fs.isEmpty then none else some (c.qual, c.pa, .stmts c.body, c.sc))[k]? := by rw [c3]
      rw [List.getElem?_map, List.getElem?_map, h1] at e3
      have e4 := Option.some.inj e3
      dsimp only at e4
      rw [hf, if_neg Bool.false_ne_true, if_neg Bool.false_ne_true] at e4
      exact mk1_ok q e4 (T.init cd (List.mem_of_getElem? h1) hf) hsup T.top
  · exact exFB_ok k3
  · -- fd
    intro f d e
    have e2 : (z.t.defs.map fun d => He.fnW K (d.name, none))[f]? = (z.t.defs.map fun d => d.dd.val)[f]? := by rw [c2]
    rw [List.getElem?_map, List.getElem?_map, e] at e2
    obtain ⟨fd, F⟩ := He.DefD.funD (d := d.dd) (Option.some.inj e2) (k6 d (List.mem_of_getElem? e))
    have F : FunD K d.name d.qual d.pa d.body d.sc [] [] (z.ad K f) fd := by
      have ea : z.ad K f = He.fAd K d.dd.at_ := by
        unfold Txt.ad
        rw [e]; rfl
      rw [ea]
      exact F
    refine ⟨fd, F, F.bindsN (T.bind d (List.mem_of_getElem? e)), fun q hq hqf => ?_⟩
    subst hqf
    obtain ⟨oc, od, dV, kV, doc, pm, an, cdv, ct, osl, rfl, lk, hcd, hD, hK⟩ := F.ex
    rcases hD with ⟨_, rfl⟩ | ⟨e, _⟩
    · refine ⟨fun s ws X hl => ?_⟩
      obtain ⟨xs, h1, h2⟩ := T.kw q hq d e kV doc pm an cdv ct ws hl
      exact ⟨xs, h1, .of_eq h2⟩
    · exact absurd rfl e
  · -- gf
    intro x f e
    have q := gl x _ e
    unfold glB at q
    simp only [Bool.and_eq_true] at q
    obtain ⟨q1, q2⟩ := q
    cases ec : z.t.defs[f]? with
    | none => rw [ec] at q2; cases q2
    | some d =>
      rw [ec] at q2
      have q2 := of_decide_eq_true q2
      refine ⟨?_, d, rfl⟩
      rw [He.glo_ok X G q1]
      unfold Txt.ad
      rw [ec, ← q2]
      rfl
  · intro x i e
    obtain ⟨t, h1⟩ := He.int_ok X G (gl x _ e)
    exact ⟨_, h1, ⟨t, rfl⟩⟩
  · intro x i e
    obtain ⟨t, h1⟩ := He.str_ok X G (gl x _ e)
    exact ⟨_, h1, ⟨t, rfl⟩⟩
  · intro x e
    exact He.free_ok X G (k2 x (List.contains_iff_mem.mp e))
/-! ### the walk -/
/-- the evaluator's run of the law's def -/
def RunsTrue (z : Txt) (N i : Nat) (ns : List Int) : Prop := ∃ h', callW z.pg N i [.ref 0] [.frz (ns.map W.int)] = .ok (.bl true) h'
theorem rvs_ints {B : Bx} {H : Hp} {w : Wd} : ∀ ns : List Int, RVs B H w (ns.map W.int) (ns.map V.int)
  | [] => rfl
  | n :: r => ⟨.int n, _, rfl, rfl, rvs_ints r⟩
theorem callW_np {G : Pg} {N i : Nat} {ws : List W} {h h' : Hw} {x : W} (e : callW G N i ws h = .ok x h') : ∃ d, G.fns[i]? = some d ∧ ws.length = d.np := by
  cases N with
  | zero => cases e
  | succ n =>
    unfold callW at e
    cases ed : G.fns[i]? with
    | none => rw [ed] at e; cases e
    | some d =>
      rw [ed] at e
      refine ⟨d, rfl, ?_⟩
      by_cases c : ws.length = d.np
      · exact c
      · simp only [c, if_false] at e
        cases e
theorem sp_law {z : Txt} {K : Frag} {N i : Nat} {ns : List Int} (hn : noList K = true) (r : RunsTrue z N i ns) (H : Hp) (a : Addr) (hO : Only H) (hS : SqL K H a (ns.map V.int)) : spW (z.bx K) z.pg N i [.ref a] H (fun v _ => v = .bl true) fun _ _ _ => False := by
  obtain ⟨h', e⟩ := r
  obtain ⟨d, e1, e2⟩ := callW_np e
  have ha : ∃ u, H a = some (.frz u (.lst (ns.map V.int))) := by
    rcases hS with (hS | hS) | ⟨o, its, n, hk, hc, _⟩
    · rcases hO a with z | ⟨o, xs, z⟩
      · rw [z] at hS; cases hS
      · rw [z] at hS; cases hS
    · exact hS
    · have q := List.all_eq_true.mp hn (a, o) (by
        have : ∀ l : List (Addr × Obj), l.lookup a = some o → (a, o) ∈ l := fun l h => by
          induction l with
          | nil => cases h
          | cons p r ih =>
            obtain ⟨b, u⟩ := p
            rw [List.lookup_cons] at h
            by_cases c : (a == b) = true
            · rw [c] at h
              cases h
              rw [beq_iff_eq.mp c]
              exact List.mem_cons_self
            · rw [Bool.not_eq_true] at c
              rw [c] at h
              exact List.mem_cons_of_mem _ (ih h)
        exact this K hk)
      dsimp only at q
      rw [hc] at q
      simp at q
  obtain ⟨u, ha⟩ := ha
  refine ⟨⟨[a], fun _ => False⟩, [.frz (ns.map W.int)], [.ref 0], d, ⟨rfl, by simp, fun _ z => z.elim, fun n o b e3 e4 => ?_⟩, ⟨.ref a, [], rfl, ⟨a, rfl, rfl⟩, rfl⟩, e1, e2, ?_⟩
  · cases n with
    | zero =>
      simp at e3 e4
      subst e3 e4
      exact ⟨u, _, ha, rvs_ints ns⟩
    | succ n => simp at e3
  · rw [e]
    exact fun w' H' v k r' rv => rv
theorem walk_z {l : PySem.W.OpenLaw} {z : Txt} {n N i m : Nat} {q : Program} {loose : List Str} {XP : (Str → Option Value) → Heap → Prop} {d : DefRec} {x : Str} {df : Df}
    (hn : l.most = some n) (hn2 : n ≤ sizeLine) (hdf : d.params.defaults = []) (hr : Room (3 * N + 3) callerA) (T : TxtOk l.prog z) (hd : z.t.defs[i]? = some df) (hps : df.ps = [x]) (hgl : z.t.gl.lookup d.name = some (.fn i))
    (run : ∀ ns : List Int, ns.length ≤ n → (∀ k ∈ ns, Builtin.Int.intBits k ≤ 1048576) → RunsTrue z N i ns) :
    PySem.W.WalkO q loose XP (hookZ l.prog z m).says l.row.toRowW d [] (fun f vs => PySem.call f vs) := by
  refine Att.attach_callB hn hdf fun w s₀ s₁ mg mb fa o pm cd doc a vs ns G Y ho hd' hcd hmg hobj hints hlen hbits hg => ?_
  obtain ⟨K, KX, c⟩ := Y
  obtain ⟨k, hnl⟩ := wk_of KX G.T.g c T
  have hfa : fa = z.ad K i := by
    have e := (k.gf _ _ hgl).1
    rw [hmg] at e
    cases e
    rfl
  subst hfa
  obtain ⟨fd, D, b, _⟩ := k.fd i df hd
  have hb : ∀ (s : Shared) (v : Value), BindsTo s fd ⟨[v], []⟩ [(x, v)] := fun s v => by
    have z1 := FunD.bindsA (ps := df.ps) D (T.bind df (List.mem_of_getElem? hd)) s [v] (by rw [hps]; rfl)
    rw [hps] at z1
    exact z1
  refine law_call (sp := spW (z.bx K) z.pg N i) (CX := L2.CX l.prog w) KX G.T.g G.T.b G.T.builtins G.T.nolimit hg hobj hints (Nat.le_trans hlen hn2) hr (fun base _ _ => ?_) hb (fun H hO hS => sp_law hnl (run ns hlen hbits) H a hO hS) fun H e s' h => ?_
  · have F := fn_at (P := l.prog) (w := w) (base := base) (B := z.bx K) (G := z.pg) rfl k T.sc rfl N i df fd hd D
    rw [hps] at F
    exact F
  · obtain ⟨_, _, _, _, _, _, _, _, _, _, _, _, z⟩ := h
    exact z
end G
end
section
set_option Elab.async false
set_option linter.all false
set_option maxRecDepth 100000
set_option maxHeartbeats 0
namespace K54
open PySem G L2
abbrev P : Program := PySem.Challenge.pw_handeddown_k54_folders_moved
def top (i : Nat) : Stmt := P.main.body.getD i (.Pass ⟨0, 0, 0, 0⟩)
def d0 : Df := ⟨"tupled", "tupled", defArgs (top 6), defBody (top 6), defScope (top 6), ["thing"], ["thing", "part"], [], [], false⟩
def d1 : Df := ⟨"part_at", "part_at", defArgs (top 8), defBody (top 8), defScope (top 8), ["tree", "folder"], ["tree", "folder", "found", "name", "parent", "is_locked"], ["found"], [], false⟩
def d2 : Df := ⟨"look_root", "look_root", defArgs (top 9), defBody (top 9), defScope (top 9), ["tree", "folder"], ["tree", "folder"], [], [], false⟩
def d3 : Df := ⟨"moved", "moved", defArgs (top 10), defBody (top 10), defScope (top 10), ["tree", "folder", "parent"], ["tree", "folder", "parent", "own", "some", "rest", "taken", "row"], [], [], false⟩
def d4 : Df := ⟨"_law_box", "_law_box", defArgs (top 12), defBody (top 12), defScope (top 12), ["_law_script", "_law_k"], ["_law_script", "_law_k", "_law_cell"], [], [], true⟩
def d5 : Df := ⟨"_law_take", "_law_take", defArgs (top 13), defBody (top 13), defScope (top 13), ["_law_box_here", "_law_below"], ["_law_box_here", "_law_below", "_law_drawn", "_law_once", "_law_far", "_law_twice"], [], [], false⟩
def d6 : Df := ⟨"_law_cells", "_law_cells", defArgs (top 14), defBody (top 14), defScope (top 14), ["_law_script", "_law_most"], ["_law_script", "_law_most", "_law_cells_here", "_law_k", "_law_cell", "_law_at_so"], ["_law_cells_here"], [], false⟩
def d7 : Df := ⟨"_law_of", "_law_of", defArgs (top 15), defBody (top 15), defScope (top 15), ["_law_box_here", "_law_some"], ["_law_box_here", "_law_some"], [], [], false⟩
def d8 : Df := ⟨"_law_lists", "_law_lists", defArgs (top 16), defBody (top 16), defScope (top 16), ["_law_matter"], ["_law_matter", "_law_bit"], [], [], false⟩
def d9 : Df := ⟨"_law_same", "_law_same", defArgs (top 17), defBody (top 17), defScope (top 17), ["_law_found", "_law_due"], ["_law_found", "_law_due", "_law_mine", "_law_its"], [], [], false⟩
def d10 : Df := ⟨"_law_grown", "_law_grown", defArgs (top 18), defBody (top 18), defScope (top 18), ["_law_box_here", "_law_many", "_law_locked"], ["_law_box_here", "_law_many", "_law_locked", "_law_left", "_law_rows", "_law_turn", "_law_parent_so"], ["_law_left", "_law_rows"], [], false⟩
def d11 : Df := ⟨"_law_refused", "_law_refused", defArgs (top 19), defBody (top 19), defScope (top 19), ["_law_tree_so", "_law_folder_so", "_law_parent_so"], ["_law_tree_so", "_law_folder_so", "_law_parent_so", "_law_caught", "error"], [], [], false⟩
def d12 : Df := ⟨"_law_moved", "_law_moved", defArgs (top 20), defBody (top 20), defScope (top 20), ["_law_tree_so", "_law_folder_so", "_law_parent_so"], ["_law_tree_so", "_law_folder_so", "_law_parent_so", "_law_low", "_law_row", "_law_rest", "_law_some"], ["_law_low"], [], false⟩
def d13 : Df := ⟨"_law_right", "_law_right", defArgs (top 21), defBody (top 21), defScope (top 21), ["_law_box_here"], ["_law_box_here", "_law_tree_so", "_law_name", "_law_above", "_law_low", "_law_due", "_law_why", "_law_told", "_law_row"], [], [], false⟩
def d14 : Df := ⟨"law", "law", defArgs (top 22), defBody (top 22), defScope (top 22), ["_law_script"], ["_law_script", "_law_cells_here", "_law_k", "_law_box_here", "_law_turn"], [], [], false⟩
def tx : Tx := ⟨[d0, d1, d2, d3, d4, d5, d6, d7, d8, d9, d10, d11, d12, d13, d14],
  [("tupled", .fn 0), ("part_at", .fn 1), ("look_root", .fn 2), ("moved", .fn 3), ("_law_box", .fn 4), ("_law_take", .fn 5), ("_law_cells", .fn 6), ("_law_of", .fn 7), ("_law_lists", .fn 8), ("_law_same", .fn 9), ("_law_grown", .fn 10), ("_law_refused", .fn 11), ("_law_moved", .fn 12), ("_law_right", .fn 13), ("law", .fn 14), ("Clashing", .cls 0 0), ("IsRoot", .cls 1 0), ("Locked", .cls 2 1), ("Below", .cls 3 2)],
  [(3, ["parent", "folder", "tree"], [2, 1, 0])],
  ["isinstance", "list", "tuple", "len", "abs", "int", "enumerate", "all", "zip", "bool", "str", "range", "RuntimeError", "LookupError"]⟩
def c0 : ClsD := ⟨"Clashing", ["RuntimeError", "Exception", "BaseException"], [], 0, "", defArgs (top 0), [], defScope (top 0)⟩
def c1 : ClsD := ⟨"IsRoot", ["RuntimeError", "Exception", "BaseException"], [], 0, "", defArgs (top 0), [], defScope (top 0)⟩
def m2 : Stmt := (match top 3 with | .ClassDef (body := b) .. => (b.find? fun | .FunctionDef .. => true | _ => false).getD (.Pass ⟨0, 0, 0, 0⟩) | s => s)
def c2 : ClsD := ⟨"Locked", ["LookupError", "Exception", "BaseException"], ["folder"], 1, "Locked.__init__", defArgs m2, defBody m2, defScope m2⟩
def m3 : Stmt := (match top 4 with | .ClassDef (body := b) .. => (b.find? fun | .FunctionDef .. => true | _ => false).getD (.Pass ⟨0, 0, 0, 0⟩) | s => s)
def c3 : ClsD := ⟨"Below", ["LookupError", "Exception", "BaseException"], ["folder", "parent"], 1, "Below.__init__", defArgs m3, defBody m3, defScope m3⟩
def z : Txt := ⟨tx, [c0, c1, c2, c3]⟩
/-- tupled -/
def f0 : Fn := ⟨1, 2, [
  .ret (.ite (.isi [(.blt "list"), (.blt "tuple")] (.var 0)) (.prim .tuple [(.comp false (.call 0 [(.var 1)] []) (.nm 1) .val [(.var 0)] [] [1])]) (.var 0))]⟩
/-- part_at -/
def f1 : Fn := ⟨2, 6, [
  .set 2 (.lst true []),
  .for (.tp [(.nm 3), (.nm 4), (.nm 5)]) .val [(.var 0)] [.ite (.or (.cmp .eq (.var 3) (.var 1)) (.cmp .inn (.var 4) (.var 2))) [.expr (.bm .append (.var 2) [(.var 3)])] []],
  .ret (.var 2)]⟩
/-- look_root -/
def f2 : Fn := ⟨2, 2, [
  .ite (.cmp .eq (.idx (.idx (.var 0) (.cst (.int (0)))) (.cst (.int (0)))) (.var 1)) [.raise 1 []] []]⟩
/-- moved -/
def f3 : Fn := ⟨3, 8, [
  .set 3 (.call 0 [(.var 0)] []),
  .expr (.call 2 [(.var 3), (.var 1)] []),
  .set 4 (.call 1 [(.var 3), (.var 1)] []),
  .ite (.cmp .inn (.var 2) (.var 4)) [.raise 3 [(.var 1), (.var 2)]] [],
  .set 5 (.comp false (.var 7) (.nm 7) .val [(.var 3)] [(.cmp .nin (.idx (.var 7) (.cst (.int (0)))) (.var 4))] [7]),
  .set 6 (.comp false (.tup [(.idx (.var 7) (.cst (.int (0)))), (.ite (.cmp .eq (.idx (.var 7) (.cst (.int (0)))) (.var 1)) (.var 2) (.idx (.var 7) (.cst (.int (1))))), (.idx (.var 7) (.cst (.int (2))))]) (.nm 7) .val [(.var 3)] [(.cmp .inn (.idx (.var 7) (.cst (.int (0)))) (.var 4))] [7]),
  .ret (.prim .tuple [(.bin false .add (.var 5) (.var 6))])]⟩
/-- _law_box -/
def f4 : Fn := ⟨2, 3, [
  .set 2 (.ite (.cmp .lt (.var 1) (.prim .len [(.var 0)])) (.idx (.var 0) (.var 1)) (.cst (.int (0)))),
  .ret (.lst true [(.bin false .mul (.prim .abs [(.var 2)]) (.prim .int [(.cmp .ge (.prim .abs [(.var 2)]) (.bin false .pow (.cst (.int (10))) (.cst (.int (18)))))])), (.bin false .add (.bin false .add (.bin false .mod (.prim .int [(.var 2)]) (.cst (.int (2305843009213693951)))) (.bin false .mul (.cst (.int (39373))) (.var 1))) (.cst (.int (109)))), (.cst (.int (0)))])]⟩
/-- _law_take -/
def f5 : Fn := ⟨2, 6, [
  .ite (.cmp .gt (.idx (.var 0) (.cst (.int (0)))) (.cst (.int (0)))) [.set 2 (.bin false .mod (.prim .int [(.idx (.var 0) (.cst (.int (0))))]) (.var 1)), .ssub (.var 0) (.cst (.int (0))) (.bin false .fdiv (.idx (.var 0) (.cst (.int (0)))) (.var 1)), .ret (.var 2)] [],
  .ssub (.var 0) (.cst (.int (2))) (.bin false .add (.idx (.var 0) (.cst (.int (2)))) (.cst (.int (1)))),
  .set 3 (.bin false .mod (.prim .int [(.bin false .mul (.bin false .add (.idx (.var 0) (.cst (.int (1)))) (.bin false .mul (.cst (.int (48271))) (.idx (.var 0) (.cst (.int (2)))))) (.bin false .add (.cst (.int (39373))) (.idx (.var 0) (.cst (.int (2))))))]) (.cst (.int (2147483647)))),
  .set 4 (.bin false .add (.bin false .mod (.prim .int [(.var 3)]) (.cst (.int (40009)))) (.cst (.int (7)))),
  .set 5 (.bin false .mod (.prim .int [(.bin false .mul (.bin false .add (.bin false .add (.var 3) (.idx (.var 0) (.cst (.int (2))))) (.bin false .fdiv (.idx (.var 0) (.cst (.int (1)))) (.cst (.int (1000003))))) (.var 4))]) (.cst (.int (2147483629)))),
  .ret (.bin false .mod (.prim .int [(.bin false .fdiv (.bin false .mod (.prim .int [(.bin false .add (.bin false .mul (.var 5) (.cst (.int (48271)))) (.var 3))]) (.cst (.int (2147483587)))) (.cst (.int (64))))]) (.var 1))]⟩
/-- _law_cells -/
def f6 : Fn := ⟨2, 6, [
  .set 2 (.orV (.prim (.list true) [(.slc false (.var 0) [] [(.var 1)])]) (.lst true [(.cst (.int (0)))])),
  .for (.tp [(.nm 3), (.nm 4)]) .enum [(.slc false (.var 0) [(.var 1)] [(.cst (.int (63)))])] [.set 5 (.bin false .mod (.prim .int [(.var 3)]) (.var 1)), .ssub (.var 2) (.var 5) (.bin false .add (.idx (.var 2) (.var 5)) (.bin false .mul (.var 4) (.bin false .add (.var 3) (.cst (.int (2))))))],
  .ret (.var 2)]⟩
/-- _law_of -/
def f7 : Fn := ⟨2, 2, [
  .ret (.idx (.var 1) (.call 5 [(.var 0), (.prim .len [(.var 1)])] []))]⟩
/-- _law_lists -/
def f8 : Fn := ⟨1, 2, [
  .ret (.ite (.isi [(.blt "list"), (.blt "tuple")] (.var 0)) (.comp false (.call 8 [(.var 1)] []) (.nm 1) .val [(.var 0)] [] [1]) (.var 0))]⟩
/-- _law_same -/
def f9 : Fn := ⟨2, 4, [
  .ite (.isi [(.blt "list"), (.blt "tuple")] (.var 1)) [.ite (.or (.cmp .ne (.isi [(.blt "list")] (.var 0)) (.isi [(.blt "list")] (.var 1))) (.cmp .ne (.isi [(.blt "tuple")] (.var 0)) (.isi [(.blt "tuple")] (.var 1)))) [.ret (.cst (.bl false))] [], .ret (.and (.cmp .eq (.prim .len [(.var 0)]) (.prim .len [(.var 1)])) (.prim .all [(.comp false (.call 9 [(.var 2), (.var 3)] []) (.tp [(.nm 2), (.nm 3)]) .zip [(.var 0), (.var 1)] [] [2, 3])]))] [],
  .ite (.or (.cmp .isN (.var 1) (.cst .non)) (.isi [(.blt "bool"), (.blt "str")] (.var 1))) [.ret (.and (.cmp .eq (.var 0) (.var 1)) (.and (.cmp .eq (.isi [(.blt "bool")] (.var 0)) (.isi [(.blt "bool")] (.var 1))) (.cmp .eq (.cmp .isN (.var 0) (.cst .non)) (.cmp .isN (.var 1) (.cst .non)))))] [],
  .ret (.and (.isi [(.blt "int")] (.var 0)) (.and (.not (.isi [(.blt "bool")] (.var 0))) (.cmp .eq (.var 0) (.var 1))))]⟩
/-- _law_grown -/
def f10 : Fn := ⟨3, 7, [
  .set 3 (.lst true [(.cst (.str "a")), (.cst (.str "b")), (.cst (.str "c")), (.cst (.str "d")), (.cst (.str "e")), (.cst (.str "f")), (.cst (.str "g")), (.cst (.str "ab")), (.cst (.str "ba")), (.cst (.str "h")), (.cst (.str "m")), (.cst (.str "z"))]),
  .set 4 (.lst true [(.tup [(.bm .popAt (.var 3) [(.call 5 [(.var 0), (.prim .len [(.var 3)])] [])]), (.cst .non), (.cst (.bl false))])]),
  .for (.nm 5) .rng [(.bin false .sub (.var 1) (.cst (.int (1))))] [.set 6 (.idx (.call 7 [(.var 0), (.var 4)] []) (.cst (.int (0)))), .expr (.bm .append (.var 4) [(.tup [(.bm .popAt (.var 3) [(.call 5 [(.var 0), (.prim .len [(.var 3)])] [])]), (.var 6), (.cmp .lt (.call 5 [(.var 0), (.cst (.int (12)))] []) (.var 2))])])],
  .ret (.prim .tuple [(.var 4)])]⟩
/-- _law_refused -/
def f11 : Fn := ⟨3, 5, [
  .set 3 (.cst .non),
  .try [.expr (.call 3 [(.var 0), (.var 1), (.var 2)] [])] [([3, 0, 1, 2], 3, (.exc 4))],
  .ite (.isi [(.own 1)] (.var 3)) [.ret (.ite (.and (.isi [(.blt "RuntimeError")] (.var 3)) (.not (.isi [(.blt "LookupError")] (.var 3)))) (.cst (.str "root")) (.cst (.str "other")))] [],
  .ite (.isi [(.own 3)] (.var 3)) [.ret (.ite (.isi [(.blt "LookupError")] (.var 3)) (.tup [(.fldX (.var 3) "folder"), (.fldX (.var 3) "parent")]) (.cst (.str "other")))] [],
  .ret (.ite (.cmp .isN (.var 3) (.cst .non)) (.cst .non) (.cst (.str "other")))]⟩
/-- _law_moved -/
def f12 : Fn := ⟨3, 7, [
  .set 3 (.lst true []),
  .for (.nm 4) .val [(.var 0)] [.ite (.or (.cmp .eq (.idx (.var 4) (.cst (.int (0)))) (.var 1)) (.cmp .inn (.idx (.var 4) (.cst (.int (1)))) (.var 3))) [.expr (.bm .append (.var 3) [(.idx (.var 4) (.cst (.int (0))))])] []],
  .set 5 (.comp false (.var 4) (.nm 4) .val [(.var 0)] [(.cmp .nin (.idx (.var 4) (.cst (.int (0)))) (.var 3))] [4]),
  .set 6 (.comp false (.var 4) (.nm 4) .val [(.var 0)] [(.cmp .inn (.idx (.var 4) (.cst (.int (0)))) (.var 3))] [4]),
  .ret (.tup [(.var 3), (.prim .tuple [(.bin false .add (.bin false .add (.var 5) (.lst false [(.tup [(.var 1), (.var 2), (.idx (.idx (.var 6) (.cst (.int (0)))) (.cst (.int (2))))])])) (.slc false (.var 6) [(.cst (.int (1)))] []))])])]⟩
/-- _law_right -/
def f13 : Fn := ⟨1, 9, [
  .set 1 (.call 10 [(.var 0), (.bin false .add (.cst (.int (1))) (.call 5 [(.var 0), (.cst (.int (9)))] [])), (.cst (.int (3)))] []),
  .for (.nm 2) .val [(.comp false (.idx (.var 8) (.cst (.int (0)))) (.nm 8) .val [(.var 1)] [] [8])] [.for (.nm 3) .val [(.comp false (.idx (.var 8) (.cst (.int (0)))) (.nm 8) .val [(.var 1)] [] [8])] [.unp (.tp [(.nm 4), (.nm 5)]) (.call 12 [(.var 1), (.var 2), (.var 3)] []), .set 6 (.ite (.cmp .eq (.var 2) (.idx (.idx (.var 1) (.cst (.int (0)))) (.cst (.int (0))))) (.cst (.str "root")) (.ite (.cmp .inn (.var 3) (.var 4)) (.tup [(.var 2), (.var 3)]) (.cst .non))), .ite (.not (.call 9 [(.call 11 [(.var 1), (.var 2), (.var 3)] []), (.var 6)] [])) [.ret (.cst (.bl false))] [], .ite (.cmp .isN (.var 6) (.cst .non)) [.set 7 (.lst false [(.call 3 [(.var 1), (.var 2), (.var 3)] []), (.call 3 [(.var 3), (.var 2), (.call 8 [(.var 1)] [])] [2, 1, 0])]), .ite (.not (.call 9 [(.var 7), (.lst false [(.var 5), (.var 5)])] [])) [.ret (.cst (.bl false))] []] []]],
  .ret (.cst (.bl true))]⟩
/-- law -/
def f14 : Fn := ⟨1, 5, [
  .set 1 (.call 6 [(.var 0), (.cst (.int (2)))] []),
  .for (.nm 2) .rng [(.prim .len [(.var 1)])] [.set 3 (.call 4 [(.var 1), (.var 2)] []), .ite (.not (.prim .all [(.comp false (.call 13 [(.var 3)] []) (.nm 4) .rng [(.cst (.int (5)))] [] [4])])) [.ret (.cst (.bl false))] []],
  .ret (.cst (.bl true))]⟩
/-! ### the compiled text -/
theorem f0_ok : fnOfDf tx d0 = f0 := by kernel_rfl
theorem f1_ok : fnOfDf tx d1 = f1 := by kernel_rfl
theorem f2_ok : fnOfDf tx d2 = f2 := by kernel_rfl
theorem f3_ok : fnOfDf tx d3 = f3 := by kernel_rfl
theorem f4_ok : fnOfDf tx d4 = f4 := by kernel_rfl
theorem f5_ok : fnOfDf tx d5 = f5 := by kernel_rfl
theorem f6_ok : fnOfDf tx d6 = f6 := by kernel_rfl
theorem f7_ok : fnOfDf tx d7 = f7 := by kernel_rfl
theorem f8_ok : fnOfDf tx d8 = f8 := by kernel_rfl
theorem f9_ok : fnOfDf tx d9 = f9 := by kernel_rfl
theorem f10_ok : fnOfDf tx d10 = f10 := by kernel_rfl
theorem f11_ok : fnOfDf tx d11 = f11 := by kernel_rfl
theorem f12_ok : fnOfDf tx d12 = f12 := by kernel_rfl
theorem f13_ok : fnOfDf tx d13 = f13 := by kernel_rfl
theorem f14_ok : fnOfDf tx d14 = f14 := by kernel_rfl
/-! ### binding -/
theorem b0 : BindOk d0 := fun _ _ _ _ _ _ us hl => match us, hl with | [_], _ => rfl
theorem b1 : BindOk d1 := fun _ _ _ _ _ _ us hl => match us, hl with | [_, _], _ => rfl
theorem b2 : BindOk d2 := fun _ _ _ _ _ _ us hl => match us, hl with | [_, _], _ => rfl
theorem b3 : BindOk d3 := fun _ _ _ _ _ _ us hl => match us, hl with | [_, _, _], _ => rfl
theorem b4 : BindOk d4 := fun _ _ _ _ _ _ us hl => match us, hl with | [_, _], _ => rfl
theorem b5 : BindOk d5 := fun _ _ _ _ _ _ us hl => match us, hl with | [_, _], _ => rfl
theorem b6 : BindOk d6 := fun _ _ _ _ _ _ us hl => match us, hl with | [_, _], _ => rfl
theorem b7 : BindOk d7 := fun _ _ _ _ _ _ us hl => match us, hl with | [_, _], _ => rfl
theorem b8 : BindOk d8 := fun _ _ _ _ _ _ us hl => match us, hl with | [_], _ => rfl
theorem b9 : BindOk d9 := fun _ _ _ _ _ _ us hl => match us, hl with | [_, _], _ => rfl
theorem b10 : BindOk d10 := fun _ _ _ _ _ _ us hl => match us, hl with | [_, _, _], _ => rfl
theorem b11 : BindOk d11 := fun _ _ _ _ _ _ us hl => match us, hl with | [_, _, _], _ => rfl
theorem b12 : BindOk d12 := fun _ _ _ _ _ _ us hl => match us, hl with | [_, _, _], _ => rfl
theorem b13 : BindOk d13 := fun _ _ _ _ _ _ us hl => match us, hl with | [_], _ => rfl
theorem b14 : BindOk d14 := fun _ _ _ _ _ _ us hl => match us, hl with | [_], _ => rfl
theorem k0 : KwTxt d3 ["parent", "folder", "tree"] [2, 1, 0] := fun _ _ _ _ _ _ ws hl => match ws, hl with | [_, _, _], _ => ⟨_, rfl, rfl⟩
theorem i2 : InitTxt c2 where
  body := ⟨_, _, _, _, _, [(_, _)], [(_, _, _, _, _)], rfl, rfl, rfl, by decide +kernel⟩
  ar := ⟨_, rfl, rfl⟩
  kind := rfl
  co := rfl
  gen := rfl
  ks := rfl
  kc := rfl
  kl := by decide +kernel
  nc := by decide +kernel
  nd := by decide +kernel
  len := by decide +kernel
  bind := fun _ _ _ _ _ _ _ _ _ _ _ u us hl => match us, hl with | [_], _ => rfl
theorem i3 : InitTxt c3 where
  body := ⟨_, _, _, _, _, [(_, _), (_, _)], [(_, _, _, _, _), (_, _, _, _, _)], rfl, rfl, rfl, by decide +kernel⟩
  ar := ⟨_, rfl, rfl⟩
  kind := rfl
  co := rfl
  gen := rfl
  ks := rfl
  kc := rfl
  kl := by decide +kernel
  nc := by decide +kernel
  nd := by decide +kernel
  len := by decide +kernel
  bind := fun _ _ _ _ _ _ _ _ _ _ _ u us hl => match us, hl with | [_, _], _ => rfl
theorem ok : TxtOk P z where
  bind := List.forall_mem_cons.mpr ⟨b0, List.forall_mem_cons.mpr ⟨b1, List.forall_mem_cons.mpr ⟨b2, List.forall_mem_cons.mpr ⟨b3, List.forall_mem_cons.mpr ⟨b4, List.forall_mem_cons.mpr ⟨b5, List.forall_mem_cons.mpr ⟨b6, List.forall_mem_cons.mpr ⟨b7, List.forall_mem_cons.mpr ⟨b8, List.forall_mem_cons.mpr ⟨b9, List.forall_mem_cons.mpr ⟨b10, List.forall_mem_cons.mpr ⟨b11, List.forall_mem_cons.mpr ⟨b12, List.forall_mem_cons.mpr ⟨b13, List.forall_mem_cons.mpr ⟨b14, (by simp)⟩⟩⟩⟩⟩⟩⟩⟩⟩⟩⟩⟩⟩⟩⟩
  kw := List.forall_mem_cons.mpr ⟨(fun d e => by cases e; exact k0), (by simp)⟩
  init := List.forall_mem_cons.mpr ⟨(fun h => by cases h), List.forall_mem_cons.mpr ⟨(fun h => by cases h), List.forall_mem_cons.mpr ⟨(fun _ => i2), List.forall_mem_cons.mpr ⟨(fun _ => i3), (by simp)⟩⟩⟩⟩
  sc := by decide +kernel
  top := by kernel_rfl
def fns : List Fn := [f0, f1, f2, f3, f4, f5, f6, f7, f8, f9, f10, f11, f12, f13, f14]
theorem pg_ok : z.pg.fns = fns := by show [fnOfDf tx d0, fnOfDf tx d1, fnOfDf tx d2, fnOfDf tx d3, fnOfDf tx d4, fnOfDf tx d5, fnOfDf tx d6, fnOfDf tx d7, fnOfDf tx d8, fnOfDf tx d9, fnOfDf tx d10, fnOfDf tx d11, fnOfDf tx d12, fnOfDf tx d13, fnOfDf tx d14] = fns; rw [f0_ok, f1_ok, f2_ok, f3_ok, f4_ok, f5_ok, f6_ok, f7_ok, f8_ok, f9_ok, f10_ok, f11_ok, f12_ok, f13_ok, f14_ok]; rfl
abbrev R : PySem.W.OpenRow := PySem.W.OpenLaw.row PySem.Challenge.rw_handeddown_k54_folders_moved
abbrev hk : PySem.W.Hook := hookZ R.prog z 5
def ob (s : PySem.W.SharedT) : AlZ := obsG R.prog z 5 (HandSHeadRun.getT s)
theorem ob_eq (s : PySem.W.SharedT) : ob s = hk.obs s.abs := obsG_eq (HandSHeadRun.getT_eq s)
def loose : List PySem.Str := ["Clashing", "IsRoot", "Locked", "Below", "tupled", "part_at", "look_root", "moved", "_law_box", "_law_take", "_law_cells", "_law_of", "_law_lists", "_law_same", "_law_grown", "_law_refused", "_law_moved", "_law_right"]
end K54
end
section
set_option Elab.async false
set_option linter.all false
set_option maxRecDepth 100000
set_option maxHeartbeats 0
namespace K54
open PySem G L2
theorem run (w : World) : HandSHeadRun.RunEq R (PySem.W.view R.prog [22]) hk ob 3000 loose w := by
  intro os
  kernel_rfl
end K54
end
section
set_option Elab.async false
set_option linter.all false
set_option maxRecDepth 100000
namespace G
open PySem L2
/-! V1: the evaluator, by rules -/
section
variable {c : Cs} {nm : Nat → List Str} {n : Nat} {env : Env} {h h1 h2 h3 h4 : Hw} {x y v : W} {e a b d : E} {es : List E} {xs ys ws : List W}
theorem r_var {i : Nat} (p : env[i]? = some (some x)) : evE c (.var i) env h = .ok x h := by unfold evE; rw [p]
theorem r_cst : evE c (.cst x) env h = .ok x h := by unfold evE; rfl
theorem r_nil : evL c [] env h = .ok [] h := by unfold evL; rfl
theorem r_cons (p : evE c e env h = .ok x h1) (q : evL c es env h1 = .ok xs h2) : evL c (e :: es) env h = .ok (x :: xs) h2 := by unfold evL; rw [p, Out.bind_ok, q]; rfl
theorem r_tup (p : evL c es env h = .ok xs h1) (q : sz xs.length = true) : evE c (.tup es) env h = .ok (.tup xs) h1 := by unfold evE; rw [p, Out.bind_ok]; unfold mkT; rw [q]; rfl
theorem r_lstF (p : evL c es env h = .ok xs h1) (q : sz xs.length = true) : evE c (.lst false es) env h = .ok (.lst xs) h1 := by unfold evE; rw [p, Out.bind_ok]; unfold mkL; rw [q]; rfl
theorem r_lstT (p : evL c es env h = .ok xs h1) (q : sz xs.length = true) : evE c (.lst true es) env h = .ok (.ref h1.length) (h1 ++ [.lst xs]) := by unfold evE; rw [p, Out.bind_ok]; unfold mkL; rw [q]; rfl
theorem r_bin {m : Bool} {op : Bop} {o : Out W} (p : evE c a env h = .ok x h1) (q : evE c b env h1 = .ok y h2) (r : binW m op x y h2 = o) : evE c (.bin m op a b) env h = o := by unfold evE; rw [p, Out.bind_ok, q, Out.bind_ok]; exact r
theorem r_cmp {op : Cop} {r : Bool} (p : evE c a env h = .ok x h1) (q : evE c b env h1 = .ok y h2) (k : cmpW op x y h2 = some r) : evE c (.cmp op a b) env h = .ok (.bl r) h2 := by unfold evE; rw [p, Out.bind_ok, q, Out.bind_ok, k]; rfl
theorem r_and {p q : Bool} (k : evE c a env h = .ok (.bl p) h1) (l : p = true → evE c b env h1 = .ok (.bl q) h1) : evE c (.and a b) env h = .ok (.bl (p && q)) h1 := by
  unfold evE; rw [k, Out.bind_ok]
  cases p with
  | true => exact l rfl
  | false => rfl
theorem r_or {p q : Bool} (k : evE c a env h = .ok (.bl p) h1) (l : p = false → evE c b env h1 = .ok (.bl q) h1) : evE c (.or a b) env h = .ok (.bl (p || q)) h1 := by
  unfold evE; rw [k, Out.bind_ok]
  cases p with
  | false => exact l rfl
  | true => rfl
theorem r_not {p : Bool} (k : evE c a env h = .ok (.bl p) h1) : evE c (.not a) env h = .ok (.bl (!p)) h1 := by unfold evE; rw [k, Out.bind_ok]
theorem r_ite {p : Bool} {o : Out W} (k : evE c a env h = .ok (.bl p) h1) (l : evE c (if p then b else d) env h1 = o) : evE c (.ite a b d) env h = o := by
  unfold evE; rw [k, Out.bind_ok]
  cases p with
  | false => exact l
  | true => exact l
theorem r_orV0 {o : Out W} (k : evE c a env h = .ok x h1) (l : getL h1 x = some []) (q : evE c b env h1 = o) : evE c (.orV a b) env h = o := by unfold evE; rw [k, Out.bind_ok, l]; exact q
theorem r_orV1 {z : W} {zs : List W} (k : evE c a env h = .ok x h1) (l : getL h1 x = some (z :: zs)) : evE c (.orV a b) env h = .ok x h1 := by unfold evE; rw [k, Out.bind_ok, l]
theorem r_call {f : Nat} {o : Out W} (p : evL c es env h = .ok ws h1) (q : c.cal f ws h1 = o) : evE c (.call f es []) env h = o := by unfold evE; rw [p, Out.bind_ok]; exact q
theorem r_callK {f i : Nat} {is : List Nat} {o : Out W} {vs : List W} (p : evL c es env h = .ok ws h1) (k : ws.length = (i :: is).length) (l : ((i :: is).mapM fun i => ws[i]?) = some vs) (q : c.cal f vs h1 = o) : evE c (.call f es (i :: is)) env h = o := by
  unfold evE; rw [p, Out.bind_ok]
  show (match (if ws.length = (i :: is).length then (i :: is).mapM fun i => ws[i]? else none) with | some vs => c.cal f vs h1 | none => Out.stuck) = o
  rw [if_pos k, l]; exact q
theorem r_prim {p : P} {o : Out W} (k : evL c es env h = .ok ws h1) (q : primW p ws h1 = o) : evE c (.prim p es) env h = o := by unfold evE; rw [k, Out.bind_ok]; exact q
theorem r_bm {p : P} {o : Out W} (k : evE c e env h = .ok x h1) (t : tyOk p x h1 = true) (l : evL c es env h1 = .ok ws h2) (q : mthW p x ws h2 = o) : evE c (.bm p e es) env h = o := by unfold evE; rw [k, Out.bind_ok, t, if_pos rfl, l, Out.bind_ok]; exact q
theorem r_isi {cs : List Cl} {r : Bool} (k : evE c a env h = .ok x h1) (q : isiW c.ex h1 x cs = some r) : evE c (.isi cs a) env h = .ok (.bl r) h1 := by unfold evE; rw [k, Out.bind_ok, q]; rfl
theorem r_idx (p : evE c a env h = .ok x h1) (q : evE c b env h1 = .ok y h2) (k : idxW x y h2 = some v) : evE c (.idx a b) env h = .ok v h2 := by unfold evE; rw [p, Out.bind_ok, q, Out.bind_ok, k]; rfl
theorem r_slc {m : Bool} {lo hi : List E} {ls us : List W} {l u : Option Int} {o : Out W} (p : evE c a env h = .ok x h1) (q : evL c lo env h1 = .ok ls h2) (ql : intO ls = some l) (k : evL c hi env h2 = .ok us h3) (ku : intO us = some u) (r : slcW m x l u h3 = o) : evE c (.slc m a lo hi) env h = o := by
  unfold evE; rw [p, Out.bind_ok, q, Out.bind_ok, ql, Out.of_some, Out.bind_ok, k, Out.bind_ok, ku, Out.of_some, Out.bind_ok]; exact r
theorem r_fldX {f : Str} {k : Nat} {fs : List (Str × W)} {l : List String} (p : evE c a env h = .ok (.exc k fs) h1) (q : c.ex k = some l) (r : fs.lookup f = some v) : evE c (.fldX a f) env h = .ok v h1 := by unfold evE; rw [p, Out.bind_ok]; simp only [q, r]; rfl

/-! statements -/
theorem s_set1 {i : Nat} (p : evE c e env h = .ok x h1) (q : i < env.length) : exS c nm n (.set i e) env h = .ok .nx (env.set i (some x)) h1 := by unfold exS; rw [p, Out.st_ok, if_pos q]
theorem s_unp1 {t : T} {env1 : Env} (p : evE c e env h = .ok x h1) (q : asg h1 t x env = some env1) : exS c nm n (.unp t e) env h = .ok .nx env1 h1 := by unfold exS; rw [p, Out.st_ok, q]
theorem s_par1 {is : List Nat} {env1 : Env} (p : evL c es env h = .ok xs h1) (q : asgs h1 (is.map .nm) xs env = some env1) : exS c nm n (.par is es) env h = .ok .nx env1 h1 := by unfold exS; rw [p, Out.st_ok, q]
theorem s_ssub1 {o i : E} {ov iv : W} (p : evE c e env h = .ok x h1) (q : evE c o env h1 = .ok ov h2) (r : evE c i env h2 = .ok iv h3) (k : setSub ov iv x h3 = some h4) : exS c nm n (.ssub o i e) env h = .ok .nx env h4 := by unfold exS; rw [p, Out.st_ok, q, Out.st_ok, r, Out.st_ok, k]
theorem s_expr1 (p : evE c e env h = .ok x h1) : exS c nm n (.expr e) env h = .ok .nx env h1 := by unfold exS; rw [p, Out.st_ok]
theorem s_exprX {k : Nat} {fs : List (Str × W)} (p : evE c e env h = .exc k fs h1) : exS c nm n (.expr e) env h = .exc k fs env h1 := by unfold exS; rw [p, Out.st_exc]
theorem s_ret1 (p : evE c e env h = .ok x h1) : exS c nm n (.ret e) env h = .ok (.ret x) env h1 := by unfold exS; rw [p, Out.st_ok]
theorem s_ite1 {t : E} {p : Bool} {A B : List S} (k : evE c t env h = .ok (.bl p) h1) : exS c nm n (.ite t A B) env h = exB c nm n (if p then A else B) env h1 := by
  rw [exS, k, Out.st_ok]
  cases p <;> rfl
theorem s_raise1' {k : Nat} {fs : List (Str × W)} (p : evL c es env h = .ok ws h1) (q : exFs nm k ws = some fs) : exS c nm n (.raise k es) env h = .exc k fs env h1 := by unfold exS; rw [p, Out.st_ok, q]
theorem b_nil : exB c nm n [] env h = .ok .nx env h := by unfold exB; rfl
theorem b_cons {s : S} {r : List S} {env1 : Env} {o : SOut} (p : exS c nm n s env h = .ok .nx env1 h1) (q : exB c nm n r env1 h1 = o) : exB c nm n (s :: r) env h = o := by unfold exB; rw [p]; exact q
theorem b_ret {s : S} {r : List S} {env1 : Env} (p : exS c nm n s env h = .ok (.ret x) env1 h1) : exB c nm n (s :: r) env h = .ok (.ret x) env1 h1 := by unfold exB; rw [p]; rfl
theorem b_exc {s : S} {r : List S} {env1 : Env} {k : Nat} {fs : List (Str × W)} (p : exS c nm n s env h = .exc k fs env1 h1) : exB c nm n (s :: r) env h = .exc k fs env1 h1 := by unfold exB; rw [p]; rfl
theorem s_tryN {body : List S} {hs : List (List Nat × Nat × HV)} {env1 : Env} (p : exB c nm n body env h = .ok .nx env1 h1) : exS c nm n (.try body hs) env h = .ok .nx env1 h1 := by rw [exS, p]
theorem s_tryX {body : List S} {hs : List (List Nat × Nat × HV)} {env1 env2 : Env} {k : Nat} {fs : List (Str × W)} {l : List String} (p : exB c nm n body env h = .exc k fs env1 h1) (q : c.ex k = some l) (r : catch? k fs env1 hs = some env2) : exS c nm n (.try body hs) env h = .ok .nx env2 h1 := by
  rw [exS, p]; simp only [q, r]
/-- the turns of a for, by what holds at each -/
theorem for_inv {it : Hw → Nat → Option (Option W)} {f : W → Env → Hw → SOut} {xs : List W} (J : Nat → Env → Hw → Prop)
    (hi : ∀ i env h, J i env h → i ≤ xs.length → it h i = some xs[i]?) (hf : ∀ i env h x, J i env h → xs[i]? = some x → ∃ env1 h1, (f x env h = .ok .nx env1 h1 ∨ f x env h = .ok .cont env1 h1) ∧ J (i + 1) env1 h1) :
    ∀ (m i : Nat) (env : Env) (h : Hw), J i env h → i ≤ xs.length → xs.length < m + i → ∃ env1 h1, forI it f m i env h = .ok .nx env1 h1 ∧ J xs.length env1 h1
  | 0, i, env, h, j, hl, hm => by omega
  | m + 1, i, env, h, j, hl, hm => by
    unfold forI
    rw [hi i env h j hl]
    cases e : xs[i]? with
    | none =>
      have : xs.length ≤ i := by simpa using e
      have : i = xs.length := by omega
      subst this
      exact ⟨env, h, rfl, j⟩
    | some x =>
      have hlt : i < xs.length := (List.getElem?_eq_some_iff.mp e).1
      obtain ⟨env1, h1, hf1, j1⟩ := hf i env h x j e
      dsimp only
      obtain ⟨env2, h2, e2, j2⟩ := for_inv J hi hf m (i + 1) env1 h1 j1 hlt (by omega)
      rcases hf1 with hf1 | hf1 <;> (rw [hf1]; exact ⟨env2, h2, e2, j2⟩)
theorem s_for1 {tg : T} {k : SK} {srcs : List E} {body : List S} {vs : List W} {xs : List W} (J : Nat → Env → Hw → Prop) (p : evL c srcs env h = .ok vs h1) (j0 : J 0 env h1) (ht : turnsW k vs h1 = xs.length + 1)
    (hi : ∀ i env h, J i env h → i ≤ xs.length → itemW k vs h i = some xs[i]?)
    (hf : ∀ i env h x, J i env h → xs[i]? = some x → ∃ env1 h2, asg h tg x env = some env1 ∧ ∃ env2, (exB c nm n body env1 h = .ok .nx env2 h2 ∨ exB c nm n body env1 h = .ok .cont env2 h2) ∧ J (i + 1) env2 h2) :
    ∃ env2 h2, exS c nm n (.for tg k srcs body) env h = .ok .nx env2 h2 ∧ J xs.length env2 h2 := by
  rw [exS, p, Out.st_ok, ht]
  refine for_inv J hi (fun i env h x j e => ?_) _ 0 env h1 j0 (Nat.zero_le _) (by omega)
  obtain ⟨env1, h2, ea, env2, eb, j2⟩ := hf i env h x j e
  exact ⟨env2, h2, by simp only [ea]; exact eb, j2⟩
/-- the turns of a comprehension -/
theorem comp_inv {it : Hw → Nat → Option (Option W)} {f : W → Hw → Out (Option W)} {xs : List W} (J : Nat → List W → Hw → Prop)
    (hi : ∀ i ys h, J i ys h → i ≤ xs.length → it h i = some xs[i]?) (hf : ∀ i ys h x, J i ys h → xs[i]? = some x → ∃ o h1, f x h = .ok o h1 ∧ J (i + 1) (ys ++ o.toList) h1) :
    ∀ (m i : Nat) (acc : List W) (h : Hw), J i acc h → i ≤ xs.length → xs.length < m + i → ∃ zs h1, compI it f m i h = .ok zs h1 ∧ J xs.length (acc ++ zs) h1
  | 0, i, acc, h, j, hl, hm => by omega
  | m + 1, i, acc, h, j, hl, hm => by
    unfold compI
    rw [hi i acc h j hl]
    cases e : xs[i]? with
    | none =>
      have : xs.length ≤ i := by simpa using e
      have : i = xs.length := by omega
      subst this
      exact ⟨[], h, rfl, by rw [List.append_nil]; exact j⟩
    | some x =>
      have hlt : i < xs.length := (List.getElem?_eq_some_iff.mp e).1
      obtain ⟨o, h1, hf1, j1⟩ := hf i acc h x j e
      dsimp only
      rw [hf1, Out.bind_ok]
      obtain ⟨zs, h2, e2, j2⟩ := comp_inv J hi hf m (i + 1) _ h1 j1 hlt (by omega)
      rw [e2, Out.bind_ok]
      cases o with
      | none => exact ⟨zs, h2, rfl, by simpa using j2⟩
      | some y => exact ⟨y :: zs, h2, rfl, by simpa using j2⟩
theorem compI_pure {it : Hw → Nat → Option (Option W)} {f : W → Hw → Out (Option W)} {xs : List W} {g : W → Option W} (hi : ∀ i, i ≤ xs.length → it h i = some xs[i]?) (hf : ∀ x ∈ xs, f x h = .ok (g x) h) (m : Nat) (hm : xs.length < m) : compI it f m 0 h = .ok (xs.filterMap g) h := by
  have key : ∀ (m i : Nat), i ≤ xs.length → xs.length < m + i → compI it f m i h = .ok ((xs.drop i).filterMap g) h := by
    intro m
    induction m with
    | zero => intro i h1 h2; omega
    | succ m ih =>
      intro i h1 h2
      unfold compI
      rw [hi i h1]
      cases e : xs[i]? with
      | none =>
        have : xs.length ≤ i := by simpa using e
        rw [List.drop_eq_nil_of_le this]
        rfl
      | some x =>
        have hlt : i < xs.length := (List.getElem?_eq_some_iff.mp e).1
        dsimp only
        rw [hf x (List.mem_of_getElem? e), Out.bind_ok, ih (i + 1) hlt (by omega), Out.bind_ok]
        have e3 : xs.drop i = x :: xs.drop (i + 1) := by
          rw [List.drop_eq_getElem_cons hlt]
          congr 1
          exact (List.getElem?_eq_some_iff.mp e).2
        rw [e3, List.filterMap_cons]
        cases g x <;> rfl
  exact key m 0 (Nat.zero_le _) (by omega)
/-- a comprehension that changes nothing -/
theorem r_compP {elt : E} {tg : T} {k : SK} {srcs ifs : List E} {wp : List Nat} {vs : List W} {g : W → Option W} (p : evL c srcs env h = .ok vs h1) (ht : turnsW k vs h1 = xs.length + 1) (hi : ∀ i, i ≤ xs.length → itemW k vs h1 i = some xs[i]?)
    (hf : ∀ x ∈ xs, ∃ env1, asg h1 tg x (wipeW env wp) = some env1 ∧ ∃ b, evT c ifs env1 h1 = .ok b h1 ∧ (b = false → g x = none) ∧ (b = true → ∃ y, evE c elt env1 h1 = .ok y h1 ∧ g x = some y)) (q : sz (xs.filterMap g).length = true) :
    evE c (.comp false elt tg k srcs ifs wp) env h = .ok (.lst (xs.filterMap g)) h1 := by
  unfold evE
  rw [p, Out.bind_ok, ht, compI_pure (xs := xs) (g := g) hi (fun x hx => ?_) _ (by omega), Out.bind_ok]
  · unfold mkL; rw [q]; rfl
  · obtain ⟨env1, ea, b, eb, g0, g1⟩ := hf x hx
    simp only [ea, eb]
    cases b with
    | false =>
      rw [g0 rfl]
      rfl
    | true =>
      obtain ⟨y, ey, gy⟩ := g1 rfl
      rw [gy]
      simp only [Out.ne_ok, Out.bind_ok, ey, if_true]
theorem t_nil1 : evT c [] env h = .ok true h := by unfold evT; rfl
theorem t_one1 {p : Bool} (k : evE c e env h = .ok (.bl p) h1) : evT c [e] env h = .ok p h1 := by
  unfold evT; rw [k, Out.bind_ok]
  cases p with
  | true => exact t_nil1
  | false => rfl
/-- a comprehension whose turns change the heap -/
theorem r_compJ {elt : E} {tg : T} {k : SK} {srcs : List E} {wp : List Nat} {vs : List W} (J : Nat → List W → Hw → Prop) (p : evL c srcs env h = .ok vs h1) (j0 : J 0 [] h1) (ht : turnsW k vs h1 = xs.length + 1) (hi : ∀ i ys h, J i ys h → i ≤ xs.length → itemW k vs h i = some xs[i]?)
    (hf : ∀ i ys h x, J i ys h → xs[i]? = some x → ∃ env1, asg h tg x (wipeW env wp) = some env1 ∧ ∃ y h2, evE c elt env1 h = .ok y h2 ∧ J (i + 1) (ys ++ [y]) h2) (q : sz xs.length = true) (hl : ∀ ys h, J xs.length ys h → ys.length = xs.length) :
    ∃ ys h2, evE c (.comp false elt tg k srcs [] wp) env h = .ok (.lst ys) h2 ∧ J xs.length ys h2 := by
  obtain ⟨zs, h2, e, j⟩ := comp_inv (f := fun x h2 => match asg h2 tg x (wipeW env wp) with
      | none => .stuck
      | some env1 => (evT c [] env1 h2).ne.bind fun b h3 => if b then (evE c elt env1 h3).ne.bind fun y h4 => .ok (some y) h4 else .ok none h3) J hi (fun i ys h x j e => by
    obtain ⟨env1, ea, y, h2, ey, j2⟩ := hf i ys h x j e
    refine ⟨some y, h2, ?_, j2⟩
    simp only [ea, t_nil1, Out.ne_ok, Out.bind_ok, if_true, ey]) (xs.length + 1) 0 [] h1 j0 (Nat.zero_le _) (by omega)
  refine ⟨zs, h2, ?_, by simpa using j⟩
  unfold evE
  rw [p, Out.bind_ok, ht]
  refine (congrArg (fun o => Out.bind o (mkL false)) e).trans ?_
  show mkL false zs h2 = _
  unfold mkL
  have := hl zs h2 (by simpa using j)
  rw [this, q]; rfl
end
theorem callW_of {P : Pg} {n f : Nat} {d : Fn} {ws : List W} {h : Hw} (hf : P.fns[f]? = some d) (hl : ws.length = d.np) : callW P (n + 1) f ws h = (match exB ⟨P.ex, callW P n, P.mth, P.ini⟩ P.nm n d.body (ws.map some ++ List.replicate (d.ns - d.np) none) h with
      | .ok .nx _ h1 => .ok .non h1
      | .ok (.ret w) _ h1 => .ok w h1
      | .ok _ _ _ => .stuck
      | .exc c fs _ h1 => .exc c fs h1
      | .stuck => .stuck) := by
  show (match P.fns[f]? with | none => _ | some d => _) = _
  rw [hf]
  simp only [hl, if_true]
  all_goals rfl
theorem call_ret {P : Pg} {n f : Nat} {d : Fn} {ws : List W} {h h1 : Hw} {x : W} {env1 : Env} (hf : P.fns[f]? = some d) (hl : ws.length = d.np) (p : exB ⟨P.ex, callW P n, P.mth, P.ini⟩ P.nm n d.body (ws.map some ++ List.replicate (d.ns - d.np) none) h = .ok (.ret x) env1 h1) : callW P (n + 1) f ws h = .ok x h1 := by rw [callW_of hf hl, p]
theorem call_nx {P : Pg} {n f : Nat} {d : Fn} {ws : List W} {h h1 : Hw} {env1 : Env} (hf : P.fns[f]? = some d) (hl : ws.length = d.np) (p : exB ⟨P.ex, callW P n, P.mth, P.ini⟩ P.nm n d.body (ws.map some ++ List.replicate (d.ns - d.np) none) h = .ok .nx env1 h1) : callW P (n + 1) f ws h = .ok .non h1 := by rw [callW_of hf hl, p]
theorem call_exc {P : Pg} {n f : Nat} {d : Fn} {ws : List W} {h h1 : Hw} {env1 : Env} {k : Nat} {fs : List (Str × W)} (hf : P.fns[f]? = some d) (hl : ws.length = d.np) (p : exB ⟨P.ex, callW P n, P.mth, P.ini⟩ P.nm n d.body (ws.map some ++ List.replicate (d.ns - d.np) none) h = .exc k fs env1 h1) : callW P (n + 1) f ws h = .exc k fs h1 := by rw [callW_of hf hl, p]
end G
end
section
set_option Elab.async false
set_option linter.all false
set_option maxRecDepth 100000
namespace G
open PySem L2
/-! V2: the draws -/
theorem idx_at {h : Hw} {a v : W} {xs : List W} {j : Int} (p : getS h a = some xs) (h0 : 0 ≤ j) (h1 : j < 2 ^ 62) (e : xs[j.toNat]? = some v) : idxW a (.int j) h = some v := by
  unfold idxW
  rw [p]
  have : decide (-(2 ^ 62) < j ∧ j < 2 ^ 62) = true := decide_eq_true ⟨by omega, h1⟩
  simp only [this, if_true]
  unfold ixAt
  rw [if_pos h0, e]
def fTake : Fn := ⟨2, 6, [
  .ite (.cmp .gt (.idx (.var 0) (.cst (.int (0)))) (.cst (.int (0)))) [.set 2 (.bin false .mod (.prim .int [(.idx (.var 0) (.cst (.int (0))))]) (.var 1)), .ssub (.var 0) (.cst (.int (0))) (.bin false .fdiv (.idx (.var 0) (.cst (.int (0)))) (.var 1)), .ret (.var 2)] [],
  .ssub (.var 0) (.cst (.int (2))) (.bin false .add (.idx (.var 0) (.cst (.int (2)))) (.cst (.int (1)))),
  .set 3 (.bin false .mod (.prim .int [(.bin false .mul (.bin false .add (.idx (.var 0) (.cst (.int (1)))) (.bin false .mul (.cst (.int (48271))) (.idx (.var 0) (.cst (.int (2)))))) (.bin false .add (.cst (.int (39373))) (.idx (.var 0) (.cst (.int (2))))))]) (.cst (.int (2147483647)))),
  .set 4 (.bin false .add (.bin false .mod (.prim .int [(.var 3)]) (.cst (.int (40009)))) (.cst (.int (7)))),
  .set 5 (.bin false .mod (.prim .int [(.bin false .mul (.bin false .add (.bin false .add (.var 3) (.idx (.var 0) (.cst (.int (2))))) (.bin false .fdiv (.idx (.var 0) (.cst (.int (1)))) (.cst (.int (1000003))))) (.var 4))]) (.cst (.int (2147483629)))),
  .ret (.bin false .mod (.prim .int [(.bin false .fdiv (.bin false .mod (.prim .int [(.bin false .add (.bin false .mul (.var 5) (.cst (.int (48271)))) (.var 3))]) (.cst (.int (2147483587)))) (.cst (.int (64))))]) (.var 1))]⟩
structure BoxAt (h : Hw) (k : Nat) (c : Int) : Prop where
  ex : ∃ b0 b1 b2 : Int, h[k]? = some (.lst [.int b0, .int b1, .int b2]) ∧ 0 ≤ b0 ∧ 0 ≤ b1 ∧ 0 ≤ b2 ∧ b2 ≤ c
theorem box_S {h : Hw} {k : Nat} {xs : List W} (hb : h[k]? = some (.lst xs)) : getS h (.ref k) = some xs := by
  unfold getS getL
  simp only [hb]
theorem sub_at {h : Hw} {k : Nat} {xs : List W} {j : Int} {x : W} (hb : h[k]? = some (.lst xs)) (h0 : 0 ≤ j) (h1 : j < xs.length) : setSub (.ref k) (.int j) x h = some (h.set k (.lst (xs.set j.toNat x))) := by
  unfold setSub
  simp only [hb]
  rw [if_pos (decide_eq_true ⟨h0, h1⟩)]
theorem p_int {h : Hw} {i : Int} : primW .int [.int i] h = .ok (.int i) h := rfl
theorem b_add {h : Hw} {i j : Int} {m : Bool} : binW m .add (.int i) (.int j) h = .ok (.int (i + j)) h := rfl
theorem b_sub {h : Hw} {i j : Int} {m : Bool} : binW m .sub (.int i) (.int j) h = .ok (.int (i - j)) h := rfl
theorem b_mod {h : Hw} {i j : Int} {m : Bool} (hj : 0 < j) : binW m .mod (.int i) (.int j) h = .ok (.int (i % j)) h := by
  show (if decide (0 < j) then _ else _) = _
  rw [if_pos (decide_eq_true hj)]
theorem b_fdiv {h : Hw} {i j : Int} {m : Bool} (hj : 0 < j) (h2 : j < 2 ^ 30) : binW m .fdiv (.int i) (.int j) h = .ok (.int (i / j)) h := by
  show (if decide (0 < j ∧ j < 2 ^ 30) then _ else _) = _
  rw [if_pos (decide_eq_true ⟨hj, h2⟩)]
theorem b_mul {h : Hw} {i j : Int} {m : Bool} (hj : (-(2 ^ 64) < i ∧ i < 2 ^ 64) ∨ (-(2 ^ 64) < j ∧ j < 2 ^ 64)) : binW m .mul (.int i) (.int j) h = .ok (.int (i * j)) h := by
  show (if small64 i || small64 j then _ else _) = _
  have : (small64 i || small64 j) = true := by
    unfold small64
    rcases hj with z | z
    · rw [decide_eq_true z]; rfl
    · rw [decide_eq_true z, Bool.or_true]
  rw [if_pos this]
theorem c_gt {h : Hw} {i j : Int} : cmpW .gt (.int i) (.int j) h = some (decide (j < i)) := rfl
theorem set_get {h : Hw} {k : Nat} {o o' : O} (hb : h[k]? = some o) : (h.set k o')[k]? = some o' := List.getElem?_set_self (List.getElem?_eq_some_iff.mp hb).1
theorem take_spec {P : Pg} {n i k : Nat} {h : Hw} {c m : Int} (hf : P.fns[i]? = some fTake) (hb : BoxAt h k c) (hc : c < 2 ^ 60) (hm : 0 < m) (hm2 : m < 2 ^ 30) :
    ∃ r h', callW P (n + 1) i [.ref k, .int m] h = .ok (.int r) h' ∧ 0 ≤ r ∧ r < m ∧ BoxAt h' k (c + 1) ∧ h'.length = h.length ∧ ∀ j, j ≠ k → h'[j]? = h[j]? := by
  obtain ⟨b0, b1, b2, hk, h0, h1, h2, h3⟩ := hb.ex
  have s0 := box_S hk
  have i0 : idxW (.ref k) (.int 0) h = some (.int b0) := idx_at s0 (by decide) (by decide) rfl
  have i1 : idxW (.ref k) (.int 1) h = some (.int b1) := idx_at s0 (by decide) (by decide) rfl
  have i2 : idxW (.ref k) (.int 2) h = some (.int b2) := idx_at s0 (by decide) (by decide) rfl
  have test : ∀ {c : Cs} {e3 e4 e5 e6 : Option W}, evE c (.cmp .gt (.idx (.var 0) (.cst (.int (0)))) (.cst (.int (0)))) [some (.ref k), some (.int m), e3, e4, e5, e6] h = .ok (.bl (decide (0 < b0))) h := r_cmp (r_idx (r_var rfl) r_cst i0) r_cst c_gt
  by_cases hb0 : 0 < b0
  · refine ⟨b0 % m, h.set k (.lst [.int (b0 / m), .int b1, .int b2]), ?_, Int.emod_nonneg _ (by omega), Int.emod_lt_of_pos _ hm, ⟨b0 / m, b1, b2, set_get hk, Int.ediv_nonneg h0 (by omega), h1, h2, by omega⟩, List.length_set, fun j hj => List.getElem?_set_ne (Ne.symm hj)⟩
    apply call_ret hf rfl
    apply b_ret
    refine (s_ite1 test).trans ?_
    rw [decide_eq_true hb0]
    refine b_cons (s_set1 (r_bin (r_prim (r_cons (r_idx (r_var rfl) r_cst i0) r_nil) p_int) (r_var rfl) (b_mod hm)) (by simp)) ?_
    refine b_cons (s_ssub1 (r_bin (r_idx (r_var rfl) r_cst i0) (r_var rfl) (b_fdiv hm hm2)) (r_var rfl) r_cst (sub_at hk (by decide) (by simp))) ?_
    exact b_ret (s_ret1 (r_var rfl))
  · have hk' : (h.set k (.lst [.int b0, .int b1, .int (b2 + 1)]))[k]? = some (.lst [.int b0, .int b1, .int (b2 + 1)]) := set_get hk
    have s1 := box_S hk'
    have j1 : idxW (.ref k) (.int 1) (h.set k (.lst [.int b0, .int b1, .int (b2 + 1)])) = some (.int b1) := idx_at s1 (by decide) (by decide) rfl
    have j2 : idxW (.ref k) (.int 2) (h.set k (.lst [.int b0, .int b1, .int (b2 + 1)])) = some (.int (b2 + 1)) := idx_at s1 (by decide) (by decide) rfl
    have hq : ∃ q : Int, callW P (n + 1) i [.ref k, .int m] h = .ok (.int (q % m)) (h.set k (.lst [.int b0, .int b1, .int (b2 + 1)])) := by
      apply Exists.intro
      apply call_ret hf rfl
      refine b_cons ((s_ite1 test).trans (by rw [decide_eq_false hb0]; exact b_nil)) ?_
      refine b_cons (s_ssub1 (r_bin (r_idx (r_var rfl) r_cst i2) r_cst b_add) (r_var rfl) r_cst (sub_at hk (by decide) (by simp))) ?_
      refine b_cons (s_set1 (r_bin (r_prim (r_cons (r_bin (r_bin (r_idx (r_var rfl) r_cst j1) (r_bin r_cst (r_idx (r_var rfl) r_cst j2) (b_mul (.inl (by decide)))) b_add) (r_bin r_cst (r_idx (r_var rfl) r_cst j2) b_add) (b_mul (.inr ⟨by omega, by omega⟩))) r_nil) p_int) r_cst (b_mod (by decide))) (by simp)) ?_
      refine b_cons (s_set1 (r_bin (r_bin (r_prim (r_cons (r_var rfl) r_nil) p_int) r_cst (b_mod (by decide))) r_cst b_add) (by simp)) ?_
      refine b_cons (s_set1 (r_bin (r_prim (r_cons (r_bin (r_bin (r_bin (r_var rfl) (r_idx (r_var rfl) r_cst j2) b_add) (r_bin (r_idx (r_var rfl) r_cst j1) r_cst (b_fdiv (by decide) (by decide))) b_add) (r_var rfl) (b_mul (.inr ?_))) r_nil) p_int) r_cst (b_mod (by decide))) (by simp)) ?_
      · have a := Int.emod_nonneg ((b1 + 48271 * (b2 + 1)) * (39373 + (b2 + 1)) % 2147483647) (show (40009 : Int) ≠ 0 by decide)
        have b := Int.emod_lt_of_pos ((b1 + 48271 * (b2 + 1)) * (39373 + (b2 + 1)) % 2147483647) (show (0 : Int) < 40009 by decide)
        exact ⟨by omega, by omega⟩
      refine b_ret (s_ret1 (r_bin (r_prim (r_cons (r_bin (r_bin (r_prim (r_cons (r_bin (r_bin (r_var rfl) r_cst (b_mul (.inr (by decide)))) (r_var rfl) b_add) r_nil) p_int) r_cst (b_mod (by decide))) r_cst (b_fdiv (by decide) (by decide))) r_nil) p_int) (r_var rfl) (b_mod hm)))
    obtain ⟨q, hq⟩ := hq
    exact ⟨q % m, h.set k (.lst [.int b0, .int b1, .int (b2 + 1)]), hq, Int.emod_nonneg _ (by omega), Int.emod_lt_of_pos _ hm, ⟨b0, b1, b2 + 1, set_get hk, h0, h1, by omega, by omega⟩, List.length_set, fun j hj => List.getElem?_set_ne (Ne.symm hj)⟩
end G
end
section
set_option Elab.async false
set_option linter.all false
set_option maxRecDepth 100000
namespace G
open PySem L2
/-! V3: data; lists for tuples; equal and of the same kinds -/
mutual
def dat : W → Bool
  | .non => true | .bl _ => true | .int _ => true | .str _ => true
  | .tup xs => dats xs && sz xs.length
  | .lst xs => dats xs && sz xs.length
  | _ => false
def dats : List W → Bool
  | [] => true
  | x :: xs => dat x && dats xs
end
mutual
def dep : W → Nat
  | .tup xs => deps xs + 1
  | .lst xs => deps xs + 1
  | _ => 1
def deps : List W → Nat
  | [] => 0
  | x :: xs => max (dep x) (deps xs)
end
mutual
def listOf : W → W
  | .tup xs => .lst (listsOf xs)
  | .lst xs => .lst (listsOf xs)
  | w => w
def listsOf : List W → List W
  | [] => []
  | x :: xs => listOf x :: listsOf xs
end
mutual
def tupOf : W → W
  | .tup xs => .tup (tupsOf xs)
  | .lst xs => .tup (tupsOf xs)
  | w => w
def tupsOf : List W → List W
  | [] => []
  | x :: xs => tupOf x :: tupsOf xs
end
theorem dats_mem : ∀ {xs : List W} {x : W}, dats xs = true → x ∈ xs → dat x = true
  | y :: xs, x, h, m => by
    obtain ⟨h1, h2⟩ := (Bool.and_eq_true _ _).mp (show (dat y && dats xs) = true from h)
    rcases List.mem_cons.mp m with z | z
    · rw [z]; exact h1
    · exact dats_mem h2 z
theorem deps_mem : ∀ {xs : List W} {x : W}, x ∈ xs → dep x ≤ deps xs
  | y :: xs, x, m => by
    unfold deps
    rcases List.mem_cons.mp m with z | z
    · rw [z]; exact Nat.le_max_left _ _
    · exact Nat.le_trans (deps_mem z) (Nat.le_max_right _ _)
theorem listsOf_map : ∀ xs : List W, listsOf xs = xs.map listOf
  | [] => rfl
  | x :: xs => by unfold listsOf; rw [listsOf_map xs]; rfl
theorem tupsOf_map : ∀ xs : List W, tupsOf xs = xs.map tupOf
  | [] => rfl
  | x :: xs => by unfold tupsOf; rw [tupsOf_map xs]; rfl
theorem fm_some {α β : Type} (f : α → β) : ∀ xs : List α, xs.filterMap (fun x => some (f x)) = xs.map f
  | [] => rfl
  | x :: xs => by rw [List.filterMap_cons, fm_some f xs]; rfl
theorem dep_pos : ∀ w : W, 1 ≤ dep w := fun w => by
  cases w <;> unfold dep <;> omega
def fLists (l : Nat) : Fn := ⟨1, 2, [
  .ret (.ite (.isi [(.blt "list"), (.blt "tuple")] (.var 0)) (.comp false (.call l [(.var 1)] []) (.nm 1) .val [(.var 0)] [] [1]) (.var 0))]⟩
def fTupled (l : Nat) : Fn := ⟨1, 2, [
  .ret (.ite (.isi [(.blt "list"), (.blt "tuple")] (.var 0)) (.prim .tuple [(.comp false (.call l [(.var 1)] []) (.nm 1) .val [(.var 0)] [] [1])]) (.var 0))]⟩
theorem isi_tup {ex : Nat → Option (List String)} {h : Hw} {xs : List W} : isiW ex h (.tup xs) [.blt "list", .blt "tuple"] = some true := rfl
theorem isi_lst {ex : Nat → Option (List String)} {h : Hw} {xs : List W} : isiW ex h (.lst xs) [.blt "list", .blt "tuple"] = some true := rfl
def isSeq : W → Bool
  | .tup _ => true | .lst _ => true
  | _ => false
theorem isi_no {ex : Nat → Option (List String)} {h : Hw} {w : W} (d : dat w = true) (s : isSeq w = false) : isiW ex h w [.blt "list", .blt "tuple"] = some false := by
  cases w with
  | tup _ => cases s
  | lst _ => cases s
  | non => rfl
  | bl _ => rfl
  | int _ => rfl
  | str _ => rfl
  | _ => cases d
theorem seq_of {w : W} (s : isSeq w = true) : ∃ xs, (w = .tup xs ∨ w = .lst xs) := by
  cases w with
  | tup xs => exact ⟨xs, .inl rfl⟩
  | lst xs => exact ⟨xs, .inr rfl⟩
  | _ => cases s
theorem asg_nm {h : Hw} {i : Nat} {x : W} {env : Env} (hi : i < env.length) : asg h (.nm i) x env = some (env.set i (some x)) := by
  unfold asg
  rw [if_pos hi]
theorem turns_val {h : Hw} {w : W} {xs : List W} (s : getS h w = some xs) : turnsW .val [w] h = xs.length + 1 := by
  show (match getS h w with | some xs => xs.length + 1 | none => 0) = _
  rw [s]
theorem item_val {h : Hw} {w : W} {xs : List W} {j : Nat} (s : getS h w = some xs) : itemW .val [w] h j = some xs[j]? := by
  show (getS h w).map (fun xs => xs[j]?) = _
  rw [s]; rfl
/-- a comprehension over a tuple or a list, each item mapped -/
theorem r_mapP {c : Cs} {env : Env} {h : Hw} {elt : E} {i : Nat} {src : E} {w : W} {xs : List W} {f : W → W} (p : evE c src env h = .ok w h) (s : getS h w = some xs) (hi : i < env.length)
    (hf : ∀ x ∈ xs, evE c elt ((env.set i none).set i (some x)) h = .ok (f x) h) (q : sz xs.length = true) : evE c (.comp false elt (.nm i) .val [src] [] [i]) env h = .ok (.lst (xs.map f)) h := by
  have := r_compP (xs := xs) (g := fun x => some (f x)) (elt := elt) (tg := .nm i) (k := .val) (wp := [i]) (ifs := []) (r_cons p r_nil) (turns_val s) (fun j _ => item_val s)
    (fun x hx => ⟨(env.set i none).set i (some x), by
      show asg h (.nm i) x (env.set i none) = _
      exact asg_nm (by simpa using hi), true, t_nil1, (fun z => by cases z), fun _ => ⟨f x, hf x hx, rfl⟩⟩) (by rw [fm_some, List.length_map]; exact q)
  rw [fm_some] at this
  exact this
theorem lists_spec {P : Pg} {l : Nat} (hf : P.fns[l]? = some (fLists l)) : ∀ (n : Nat) (w : W) (h : Hw), dat w = true → dep w ≤ n → callW P n l [w] h = .ok (listOf w) h
  | 0, w, h, d, hn => by have := dep_pos w; omega
  | n + 1, w, h, d, hn => by
    apply call_ret hf rfl
    apply b_ret
    cases s : isSeq w with
    | false =>
      have e : listOf w = w := by cases w <;> first | rfl | cases s
      rw [e]
      exact s_ret1 (r_ite (r_isi (r_var rfl) (isi_no d s)) (r_var rfl))
    | true =>
      obtain ⟨xs, hx⟩ := seq_of s
      have key : ∀ (w : W), getS h w = some xs → dats xs = true → sz xs.length = true → deps xs ≤ n → isiW P.ex h w [.blt "list", .blt "tuple"] = some true → exS ⟨P.ex, callW P n, P.mth, P.ini⟩ P.nm n (.ret (.ite (.isi [(.blt "list"), (.blt "tuple")] (.var 0)) (.comp false (.call l [(.var 1)] []) (.nm 1) .val [(.var 0)] [] [1]) (.var 0))) [some w, none] h = .ok (.ret (.lst (listsOf xs))) [some w, none] h := fun w gs d2 d3 hd hi => by
        refine s_ret1 (r_ite (r_isi (r_var rfl) hi) ?_)
        rw [if_pos rfl, listsOf_map]
        exact r_mapP (r_var rfl) gs (by simp) (fun x hx => r_call (r_cons (r_var rfl) r_nil) (lists_spec hf n x h (dats_mem d2 hx) (Nat.le_trans (deps_mem hx) hd))) d3
      rcases hx with rfl | rfl
      · obtain ⟨d2, d3⟩ := (Bool.and_eq_true _ _).mp (show (dats xs && sz xs.length) = true from d)
        exact key _ rfl d2 d3 (Nat.le_of_succ_le_succ hn) isi_tup
      · obtain ⟨d2, d3⟩ := (Bool.and_eq_true _ _).mp (show (dats xs && sz xs.length) = true from d)
        exact key _ rfl d2 d3 (Nat.le_of_succ_le_succ hn) isi_lst
theorem tupled_spec {P : Pg} {l : Nat} (hf : P.fns[l]? = some (fTupled l)) : ∀ (n : Nat) (w : W) (h : Hw), dat w = true → dep w ≤ n → callW P n l [w] h = .ok (tupOf w) h
  | 0, w, h, d, hn => by have := dep_pos w; omega
  | n + 1, w, h, d, hn => by
    apply call_ret hf rfl
    apply b_ret
    cases s : isSeq w with
    | false =>
      have e : tupOf w = w := by cases w <;> first | rfl | cases s
      rw [e]
      exact s_ret1 (r_ite (r_isi (r_var rfl) (isi_no d s)) (r_var rfl))
    | true =>
      obtain ⟨xs, hx⟩ := seq_of s
      have key : ∀ (w : W), getS h w = some xs → dats xs = true → sz xs.length = true → deps xs ≤ n → isiW P.ex h w [.blt "list", .blt "tuple"] = some true → exS ⟨P.ex, callW P n, P.mth, P.ini⟩ P.nm n (.ret (.ite (.isi [(.blt "list"), (.blt "tuple")] (.var 0)) (.prim .tuple [(.comp false (.call l [(.var 1)] []) (.nm 1) .val [(.var 0)] [] [1])]) (.var 0))) [some w, none] h = .ok (.ret (.tup (tupsOf xs))) [some w, none] h := fun w gs d2 d3 hd hi => by
        refine s_ret1 (r_ite (r_isi (r_var rfl) hi) ?_)
        rw [if_pos rfl, tupsOf_map]
        refine r_prim (r_cons (r_mapP (f := tupOf) (r_var rfl) gs (by simp) (fun x hx => r_call (r_cons (r_var rfl) r_nil) (tupled_spec hf n x h (dats_mem d2 hx) (Nat.le_trans (deps_mem hx) hd))) d3) r_nil) ?_
        show mkT (xs.map tupOf) h = _
        unfold mkT
        rw [List.length_map, d3]; rfl
      rcases hx with rfl | rfl
      · obtain ⟨d2, d3⟩ := (Bool.and_eq_true _ _).mp (show (dats xs && sz xs.length) = true from d)
        exact key _ rfl d2 d3 (Nat.le_of_succ_le_succ hn) isi_tup
      · obtain ⟨d2, d3⟩ := (Bool.and_eq_true _ _).mp (show (dats xs && sz xs.length) = true from d)
        exact key _ rfl d2 d3 (Nat.le_of_succ_le_succ hn) isi_lst
end G
end
section
set_option Elab.async false
set_option linter.all false
set_option maxRecDepth 100000
namespace G
open PySem L2
/-! V4: equal and of the same kinds, of a thing and itself -/
theorem s_iteT {c : Cs} {nm : Nat → List Str} {n : Nat} {env : Env} {h h1 : Hw} {t : E} {A B : List S} (k : evE c t env h = .ok (.bl true) h1) : exS c nm n (.ite t A B) env h = exB c nm n A env h1 := s_ite1 k
theorem s_iteF {c : Cs} {nm : Nat → List Str} {n : Nat} {env : Env} {h h1 : Hw} {t : E} {A B : List S} (k : evE c t env h = .ok (.bl false) h1) : exS c nm n (.ite t A B) env h = exB c nm n B env h1 := s_ite1 k
def fSame (s : Nat) : Fn := ⟨2, 4, [
  .ite (.isi [(.blt "list"), (.blt "tuple")] (.var 1)) [.ite (.or (.cmp .ne (.isi [(.blt "list")] (.var 0)) (.isi [(.blt "list")] (.var 1))) (.cmp .ne (.isi [(.blt "tuple")] (.var 0)) (.isi [(.blt "tuple")] (.var 1)))) [.ret (.cst (.bl false))] [], .ret (.and (.cmp .eq (.prim .len [(.var 0)]) (.prim .len [(.var 1)])) (.prim .all [(.comp false (.call s [(.var 2), (.var 3)] []) (.tp [(.nm 2), (.nm 3)]) .zip [(.var 0), (.var 1)] [] [2, 3])]))] [],
  .ite (.or (.cmp .isN (.var 1) (.cst .non)) (.isi [(.blt "bool"), (.blt "str")] (.var 1))) [.ret (.and (.cmp .eq (.var 0) (.var 1)) (.and (.cmp .eq (.isi [(.blt "bool")] (.var 0)) (.isi [(.blt "bool")] (.var 1))) (.cmp .eq (.cmp .isN (.var 0) (.cst .non)) (.cmp .isN (.var 1) (.cst .non)))))] [],
  .ret (.and (.isi [(.blt "int")] (.var 0)) (.and (.not (.isi [(.blt "bool")] (.var 0))) (.cmp .eq (.var 0) (.var 1))))]⟩
theorem c_eqb {h : Hw} {a b : Bool} : cmpW .eq (.bl a) (.bl b) h = some (decide (a = b)) := rfl
theorem c_neb {h : Hw} {a b : Bool} : cmpW .ne (.bl a) (.bl b) h = some (!decide (a = b)) := rfl
theorem c_eqi {h : Hw} {a b : Int} : cmpW .eq (.int a) (.int b) h = some (decide (a = b)) := rfl
theorem c_nei {h : Hw} {a b : Int} : cmpW .ne (.int a) (.int b) h = some (!decide (a = b)) := rfl
theorem c_eqs {h : Hw} {a b : Str} : cmpW .eq (.str a) (.str b) h = some (decide (a = b)) := rfl
theorem c_nes {h : Hw} {a b : Str} : cmpW .ne (.str a) (.str b) h = some (!decide (a = b)) := rfl
theorem c_isN {h : Hw} {a b : W} : cmpW .isN a b h = some (isNonW a) := rfl
theorem c_isnN {h : Hw} {a b : W} : cmpW .isnN a b h = some (!isNonW a) := rfl
theorem bls_rep : ∀ n : Nat, bls (List.replicate n (W.bl true)) = some (List.replicate n true)
  | 0 => rfl
  | n + 1 => by
    rw [List.replicate_succ, List.replicate_succ]
    show (bls (List.replicate n (W.bl true))).map (true :: ·) = _
    rw [bls_rep n]; rfl
theorem all_rep {h : Hw} {n : Nat} : primW .all [.lst (List.replicate n (W.bl true))] h = .ok (.bl true) h := by
  unfold primW pAll
  have : getL h (.lst (List.replicate n (W.bl true))) = some (List.replicate n (W.bl true)) := rfl
  simp only [this]
  show (match bls (List.replicate n (W.bl true)) with | some bs => Out.ok (W.bl (bs.all id)) h | none => .stuck) = _
  rw [bls_rep]
  show Out.ok (W.bl ((List.replicate n true).all id)) h = _
  have : (List.replicate n true).all id = true := by rw [List.all_eq_true]; intro x hx; exact (List.mem_replicate.mp hx).2
  rw [this]
theorem len_seq {h : Hw} {w : W} {xs : List W} (s : getS h w = some xs) (hw : ∀ z, w ≠ .str z) : primW .len [w] h = .ok (.int xs.length) h := by
  show pLen _ _ = _
  unfold pLen
  cases w with
  | str z => exact absurd rfl (hw z)
  | _ => simp only [s]
theorem same_spec {P : Pg} {s : Nat} (hf : P.fns[s]? = some (fSame s)) : ∀ (n : Nat) (w : W) (h : Hw), dat w = true → dep w ≤ n → callW P n s [w, w] h = .ok (.bl true) h
  | 0, w, h, d, hn => by have := dep_pos w; omega
  | n + 1, w, h, d, hn => by
    have seq : ∀ (w : W) (xs : List W) (p q : Bool), getS h w = some xs → (∀ z, w ≠ .str z) → dats xs = true → sz xs.length = true → deps xs ≤ n → isiW P.ex h w [.blt "list", .blt "tuple"] = some true → isiW P.ex h w [.blt "list"] = some p → isiW P.ex h w [.blt "tuple"] = some q →
        turnsW .zip [w, w] h = (xs.map fun x => W.tup [x, x]).length + 1 → (∀ i, itemW .zip [w, w] h i = some (xs.map fun x => W.tup [x, x])[i]?) → callW P (n + 1) s [w, w] h = .ok (.bl true) h := by
      intro w xs p q gs ns d2 d3 hd hi hp hq ht hz
      apply call_ret hf rfl
      apply b_ret
      refine (s_ite1 (r_isi (r_var rfl) hi)).trans ?_
      rw [if_pos rfl]
      refine b_cons (env1 := [some w, some w, none, none]) (h1 := h) ((s_ite1 (r_or (r_cmp (r_isi (r_var rfl) hp) (r_isi (r_var rfl) hp) c_neb) fun _ => r_cmp (r_isi (r_var rfl) hq) (r_isi (r_var rfl) hq) c_neb)).trans ?_) (b_ret (s_ret1 (x := .bl true) ?_))
      · simp only [decide_true, Bool.not_true, Bool.or_false, Bool.false_eq_true, if_false]
        exact b_nil
      · have e := r_and (c := ⟨P.ex, callW P n, P.mth, P.ini⟩) (env := [some w, some w, none, none]) (h := h) (h1 := h) (p := true) (q := true) (a := .cmp .eq (.prim .len [(.var 0)]) (.prim .len [(.var 1)])) (b := .prim .all [(.comp false (.call s [(.var 2), (.var 3)] []) (.tp [(.nm 2), (.nm 3)]) .zip [(.var 0), (.var 1)] [] [2, 3])])
          ?_ fun _ => ?_
        · exact e
        · have z := r_cmp (c := ⟨P.ex, callW P n, P.mth, P.ini⟩) (env := [some w, some w, none, none]) (h := h) (op := .eq) (r_prim (r_cons (r_var (i := 0) rfl) r_nil) (len_seq gs ns)) (r_prim (r_cons (r_var (i := 1) rfl) r_nil) (len_seq gs ns)) c_eqi
          rw [decide_eq_true (rfl : (xs.length : Int) = xs.length)] at z
          exact z
        · refine r_prim (r_cons (r_compP (xs := xs.map fun x => W.tup [x, x]) (g := fun _ => some (.bl true)) (r_cons (r_var rfl) (r_cons (r_var rfl) r_nil)) ht (fun i _ => hz i) (fun y hy => ?_) ?_) r_nil) ?_
          · obtain ⟨x, hx, rfl⟩ := List.mem_map.mp hy
            exact ⟨[some w, some w, some x, some x], rfl, true, t_nil1, (fun z => by cases z), fun _ => ⟨.bl true, r_call (r_cons (r_var rfl) (r_cons (r_var rfl) r_nil)) (same_spec hf n x h (dats_mem d2 hx) (Nat.le_trans (deps_mem hx) hd)), rfl⟩⟩
          · rw [fm_some, List.length_map, List.length_map]; exact d3
          · rw [fm_some, List.map_map]
            have : (xs.map ((fun _ => W.bl true) ∘ fun x => W.tup [x, x])) = List.replicate xs.length (.bl true) := by
              rw [List.eq_replicate_iff]
              exact ⟨by simp, fun b hb => by obtain ⟨_, _, rfl⟩ := List.mem_map.mp hb; rfl⟩
            rw [this]
            exact all_rep
    have flat : ∀ (w : W) (p q t : Bool), isiW P.ex h w [.blt "list", .blt "tuple"] = some false → isiW P.ex h w [.blt "bool", .blt "str"] = some p → isiW P.ex h w [.blt "bool"] = some q → isiW P.ex h w [.blt "int"] = some t → eqW h w w = some true → (isNonW w || p) = true ∨ (isNonW w = false ∧ p = false ∧ q = false ∧ t = true) → callW P (n + 1) s [w, w] h = .ok (.bl true) h := by
      intro w p q t hi hp hq ht he hc
      apply call_ret hf rfl
      refine b_cons ((s_ite1 (r_isi (r_var rfl) hi)).trans (by rw [if_neg (by decide)]; exact b_nil)) ?_
      have e0 : evE ⟨P.ex, callW P n, P.mth, P.ini⟩ (.or (.cmp .isN (.var 1) (.cst .non)) (.isi [(.blt "bool"), (.blt "str")] (.var 1))) [some w, some w, none, none] h = .ok (.bl (isNonW w || p)) h := r_or (r_cmp (r_var rfl) r_cst c_isN) fun _ => r_isi (r_var rfl) hp
      have ee : evE ⟨P.ex, callW P n, P.mth, P.ini⟩ (.cmp .eq (.var 0) (.var 1)) [some w, some w, none, none] h = .ok (.bl true) h := r_cmp (r_var rfl) (r_var rfl) he
      rcases hc with hc | ⟨c1, c2, c3, c4⟩
      · apply b_ret
        rw [hc] at e0
        refine (s_iteT e0).trans ?_
        have e1 := r_and (c := ⟨P.ex, callW P n, P.mth, P.ini⟩) (env := [some w, some w, none, none]) (h := h) ee fun _ => r_and (r_cmp (r_isi (r_var (i := 0) rfl) hq) (r_isi (r_var (i := 1) rfl) hq) (c_eqb)) fun _ => r_cmp (r_cmp (r_var (i := 0) rfl) (r_cst (x := .non)) c_isN) (r_cmp (r_var (i := 1) rfl) (r_cst (x := .non)) c_isN) (c_eqb)
        rw [decide_eq_true (rfl : q = q), decide_eq_true (rfl : isNonW w = isNonW w)] at e1
        exact b_ret (s_ret1 e1)
      · rw [c1, c2] at e0
        refine b_cons ((s_iteF e0).trans b_nil) ?_
        apply b_ret
        subst c3 c4
        have e1 := r_and (c := ⟨P.ex, callW P n, P.mth, P.ini⟩) (env := [some w, some w, none, none]) (h := h) (r_isi (r_var (i := 0) rfl) ht) fun _ => r_and (r_not (r_isi (r_var (i := 0) rfl) hq)) fun _ => ee
        exact s_ret1 e1
    cases w with
    | tup xs =>
      obtain ⟨d2, d3⟩ := (Bool.and_eq_true _ _).mp (show (dats xs && sz xs.length) = true from d)
      refine seq _ xs false true rfl (fun z e => by cases e) d2 d3 (Nat.le_of_succ_le_succ hn) rfl rfl rfl (by rw [List.length_map]; rfl) fun i => ?_
      show some (match xs[i]?, xs[i]? with | some x, some y => some (W.tup [x, y]) | _, _ => none) = _
      rw [List.getElem?_map]
      cases xs[i]? <;> rfl
    | lst xs =>
      obtain ⟨d2, d3⟩ := (Bool.and_eq_true _ _).mp (show (dats xs && sz xs.length) = true from d)
      refine seq _ xs true false rfl (fun z e => by cases e) d2 d3 (Nat.le_of_succ_le_succ hn) rfl rfl rfl (by rw [List.length_map]; rfl) fun i => ?_
      show some (match xs[i]?, xs[i]? with | some x, some y => some (W.tup [x, y]) | _, _ => none) = _
      rw [List.getElem?_map]
      cases xs[i]? <;> rfl
    | non => exact flat _ false false false rfl rfl rfl rfl rfl (.inl rfl)
    | bl b => exact flat _ true true true rfl rfl rfl rfl (by show some (decide (b = b)) = some true; simp) (.inl rfl)
    | int b => exact flat _ false false true rfl rfl rfl rfl (by show some (decide (b = b)) = some true; simp) (.inr ⟨rfl, rfl, rfl, rfl⟩)
    | str b => exact flat _ true false false rfl rfl rfl rfl (by show some (decide (b = b)) = some true; simp) (.inl rfl)
    | dic _ => cases d
    | ref _ => cases d
    | exc _ _ => cases d
end G
end
section
set_option Elab.async false
set_option linter.all false
set_option maxRecDepth 100000
namespace G
open PySem L2
/-! V5: boxes, cells, the law's frame -/
/-- all but the k-th is as it was -/
structure Frm (k : Nat) (h h' : Hw) : Prop where
  len : h.length ≤ h'.length
  at_ : ∀ j, j < h.length → j ≠ k → h'[j]? = h[j]?
theorem Frm.refl (k : Nat) (h : Hw) : Frm k h h := ⟨Nat.le_refl _, fun _ _ _ => rfl⟩
theorem Frm.trans {k : Nat} {h h1 h2 : Hw} (a : Frm k h h1) (b : Frm k h1 h2) : Frm k h h2 := ⟨Nat.le_trans a.len b.len, fun j hj hk => (b.at_ j (Nat.lt_of_lt_of_le hj a.len) hk).trans (a.at_ j hj hk)⟩
theorem Frm.of_same {k : Nat} {h h' : Hw} (e : h'.length = h.length) (f : ∀ j, j ≠ k → h'[j]? = h[j]?) : Frm k h h' := ⟨Nat.le_of_eq e.symm, fun j _ hk => f j hk⟩
theorem Frm.push {k : Nat} {h : Hw} {o : O} : Frm k h (h ++ [o]) := ⟨by simp, fun j hj _ => List.getElem?_append_left hj⟩
theorem BoxAt.lt {h : Hw} {k : Nat} {c : Int} (b : BoxAt h k c) : k < h.length := by
  obtain ⟨_, _, _, e, _⟩ := b.ex
  exact (List.getElem?_eq_some_iff.mp e).1
theorem BoxAt.push {h : Hw} {k : Nat} {c : Int} {o : O} (b : BoxAt h k c) : BoxAt (h ++ [o]) k c := by
  obtain ⟨b0, b1, b2, e, r⟩ := b.ex
  exact ⟨b0, b1, b2, by rw [List.getElem?_append_left (List.getElem?_eq_some_iff.mp e).1]; exact e, r⟩
theorem BoxAt.mono {h : Hw} {k : Nat} {c d : Int} (b : BoxAt h k c) (hd : c ≤ d) : BoxAt h k d := by
  obtain ⟨b0, b1, b2, e, r1, r2, r3, r4⟩ := b.ex
  exact ⟨b0, b1, b2, e, r1, r2, r3, by omega⟩
theorem BoxAt.of_at {h h' : Hw} {k : Nat} {c : Int} (b : BoxAt h k c) (e : h'[k]? = h[k]?) : BoxAt h' k c := by
  obtain ⟨b0, b1, b2, e1, r⟩ := b.ex
  exact ⟨b0, b1, b2, e.trans e1, r⟩
def fOf (t : Nat) : Fn := ⟨2, 2, [
  .ret (.idx (.var 1) (.call t [(.var 0), (.prim .len [(.var 1)])] []))]⟩
theorem of_spec {P : Pg} {t o n k : Nat} {h : Hw} {c : Int} {s : W} {xs : List W} (ht : P.fns[t]? = some fTake) (ho : P.fns[o]? = some (fOf t)) (hb : BoxAt h k c) (hc : c < 2 ^ 60) (hs : ∀ h' : Hw, h'.length = h.length → (∀ j, j ≠ k → h'[j]? = h[j]?) → getS h' s = some xs) (hstr : ∀ z, s ≠ .str z)
    (h0 : 0 < xs.length) (h1 : xs.length < 2 ^ 30) : ∃ (r : Nat) (x : W) (h' : Hw), callW P (n + 2) o [.ref k, s] h = .ok x h' ∧ xs[r]? = some x ∧ BoxAt h' k (c + 1) ∧ h'.length = h.length ∧ ∀ j, j ≠ k → h'[j]? = h[j]? := by
  obtain ⟨r, h', e, r0, r1, b, hl, hf⟩ := take_spec (n := n) (m := xs.length) ht hb hc (by omega) (by omega)
  have hlt : r.toNat < xs.length := by omega
  refine ⟨r.toNat, xs[r.toNat], h', ?_, by simp [hlt], b, hl, hf⟩
  apply call_ret ho rfl
  apply b_ret
  exact s_ret1 (r_idx (r_var rfl) (r_call (r_cons (r_var rfl) (r_cons (r_prim (r_cons (r_var rfl) r_nil) (len_seq (hs h rfl fun _ _ => rfl) hstr)) r_nil)) e) (idx_at (hs h' hl hf) r0 (by omega) (by simp [hlt])))
def fBox : Fn := ⟨2, 3, [
  .set 2 (.ite (.cmp .lt (.var 1) (.prim .len [(.var 0)])) (.idx (.var 0) (.var 1)) (.cst (.int (0)))),
  .ret (.lst true [(.bin false .mul (.prim .abs [(.var 2)]) (.prim .int [(.cmp .ge (.prim .abs [(.var 2)]) (.bin false .pow (.cst (.int (10))) (.cst (.int (18)))))])), (.bin false .add (.bin false .add (.bin false .mod (.prim .int [(.var 2)]) (.cst (.int (2305843009213693951)))) (.bin false .mul (.cst (.int (39373))) (.var 1))) (.cst (.int (109)))), (.cst (.int (0)))])]⟩
theorem p_abs {h : Hw} {i : Int} : primW .abs [.int i] h = .ok (.int (if i < 0 then -i else i)) h := rfl
theorem p_intB {h : Hw} {b : Bool} : primW .int [.bl b] h = .ok (.int (if b then 1 else 0)) h := rfl
theorem c_ge {h : Hw} {i j : Int} : cmpW .ge (.int i) (.int j) h = some (decide (j ≤ i)) := rfl
theorem c_lt {h : Hw} {i j : Int} : cmpW .lt (.int i) (.int j) h = some (decide (i < j)) := rfl
theorem if01 : ∀ b : Bool, (-(2 ^ 64) < (if b = true then (1 : Int) else 0) ∧ (if b = true then (1 : Int) else 0) < 2 ^ 64) ∧ 0 ≤ (if b = true then (1 : Int) else 0) := by decide
theorem box_spec {P : Pg} {bx n a j : Nat} {h : Hw} {cs : List Int} (hf : P.fns[bx]? = some fBox) (ha : h[a]? = some (.lst (cs.map .int))) (hj : j < cs.length) (hl : cs.length < 2 ^ 30) :
    ∃ o, callW P (n + 1) bx [.ref a, .int (j : Nat)] h = .ok (.ref h.length) (h ++ [o]) ∧ BoxAt (h ++ [o]) h.length 0 := by
  have gs : getS h (.ref a) = some (cs.map .int) := box_S ha
  have ic : idxW (.ref a) (.int (j : Nat)) h = some (.int cs[j]) := idx_at gs (by omega) (by omega) (by simp [hj])
  have lt1 : decide ((j : Int) < ((cs.map W.int).length : Nat)) = true := decide_eq_true (by simp only [List.length_map]; omega)
  have key : ∃ b0 b1 : Int, callW P (n + 1) bx [.ref a, .int (j : Nat)] h = .ok (.ref h.length) (h ++ [.lst [.int b0, .int b1, .int 0]]) ∧ b0 = (if cs[j] < 0 then -cs[j] else cs[j]) * (if decide ((10 : Int) ^ 18 ≤ (if cs[j] < 0 then -cs[j] else cs[j])) then 1 else 0) ∧ b1 = cs[j] % 2305843009213693951 + 39373 * (j : Int) + 109 := by
    refine ⟨_, _, ?_, rfl, rfl⟩
    apply call_ret hf rfl
    have e1 : evE ⟨P.ex, callW P n, P.mth, P.ini⟩ (.cmp .lt (.var 1) (.prim .len [(.var 0)])) [some (.ref a), some (.int (j : Nat)), none] h = .ok (.bl true) h := by
      have z := r_cmp (c := ⟨P.ex, callW P n, P.mth, P.ini⟩) (env := [some (.ref a), some (.int (j : Nat)), none]) (h := h) (op := .lt) (r_var (i := 1) rfl) (r_prim (r_cons (r_var (i := 0) rfl) r_nil) (len_seq gs (fun z e => by cases e))) c_lt
      rw [lt1] at z
      exact z
    refine b_cons (s_set1 (r_ite e1 (r_idx (r_var rfl) (r_var rfl) ic)) (by show 2 < 3; decide)) ?_
    apply b_ret
    refine s_ret1 (r_lstT (r_cons (r_bin (r_prim (r_cons (r_var rfl) r_nil) p_abs) (r_prim (r_cons (r_cmp (r_prim (r_cons (r_var rfl) r_nil) p_abs) (r_bin r_cst r_cst rfl) c_ge) r_nil) p_intB) (b_mul (.inr ?_))) (r_cons (r_bin (r_bin (r_bin (r_prim (r_cons (r_var rfl) r_nil) p_int) r_cst (b_mod (by decide))) (r_bin r_cst (r_var rfl) (b_mul (.inl (by decide)))) b_add) r_cst b_add) (r_cons r_cst r_nil))) rfl)
    exact (if01 _).1
  obtain ⟨b0, b1, e, h0, h1⟩ := key
  refine ⟨_, e, b0, b1, 0, List.getElem?_concat_length, ?_, ?_, by decide, by decide⟩
  · rw [h0]
    refine Int.mul_nonneg ?_ ?_
    · split <;> omega
    · exact (if01 _).2
  · rw [h1]
    have := Int.emod_nonneg cs[j] (show (2305843009213693951 : Int) ≠ 0 by decide)
    omega
end G
end
section
set_option Elab.async false
set_option linter.all false
set_option maxRecDepth 100000
namespace G
open PySem L2
/-! V6: the cells of a script -/
def fCells : Fn := ⟨2, 6, [
  .set 2 (.orV (.prim (.list true) [(.slc false (.var 0) [] [(.var 1)])]) (.lst true [(.cst (.int (0)))])),
  .for (.tp [(.nm 3), (.nm 4)]) .enum [(.slc false (.var 0) [(.var 1)] [(.cst (.int (63)))])] [.set 5 (.bin false .mod (.prim .int [(.var 3)]) (.var 1)), .ssub (.var 2) (.var 5) (.bin false .add (.idx (.var 2) (.var 5)) (.bin false .mul (.var 4) (.bin false .add (.var 3) (.cst (.int (2))))))],
  .ret (.var 2)]⟩
theorem slc_frz {h : Hw} {k : Nat} {xs : List W} {lo hi : Option Int} (e : h[k]? = some (.frz xs)) (hl : xs.length ≤ 1000) : slcW false (.ref k) lo hi h = .ok (.lst (cutW xs lo hi)) h := by
  unfold slcW
  have : getL h (.ref k) = some xs := by unfold getL; simp only [e]
  simp only [this]
  unfold mkL
  have z : sz (cutW xs lo hi).length = true := by
    unfold sz cutW
    refine decide_eq_true ?_
    simp only [List.length_take, List.length_drop]
    omega
  rw [z]; rfl
theorem cut_to {α : Type} (xs : List α) (m : Nat) : cutW xs none (some (m : Int)) = xs.take m := by
  unfold cutW
  rw [HT.sIx_none, HT.sIx_nat, List.drop_zero, Nat.sub_zero]
  by_cases c : m ≤ xs.length
  · rw [Nat.min_eq_left c]
  · rw [Nat.min_eq_right (by omega), List.take_length, List.take_of_length_le (by omega)]
theorem cut_mid {α : Type} (xs : List α) (m k : Nat) : ∃ t, cutW xs (some (m : Int)) (some (k : Int)) = (xs.drop (min m xs.length)).take t := by
  unfold cutW
  rw [HT.sIx_nat]
  exact ⟨_, rfl⟩
theorem list_lst {h : Hw} {xs : List W} (hl : xs.length ≤ 1000) : primW (.list true) [.lst xs] h = .ok (.ref h.length) (h ++ [.lst xs]) := by
  show (match getS h (.lst xs) with | some xs => mkL true xs h | none => .stuck) = _
  show mkL true xs h = _
  unfold mkL
  have z : sz xs.length = true := decide_eq_true (by omega)
  rw [z]; rfl
theorem cells_spec {P : Pg} {ce n m : Nat} {h : Hw} {ns : List Int} (hf : P.fns[ce]? = some fCells) (h0 : h[0]? = some (.frz (ns.map .int))) (hn : ns.length ≤ 63) (hm : 0 < m) (hm2 : m ≤ 63) :
    ∃ (a : Nat) (cs : List Int) (h' : Hw), callW P (n + 1) ce [.ref 0, .int (m : Nat)] h = .ok (.ref a) h' ∧ h'[a]? = some (.lst (cs.map .int)) ∧ 1 ≤ cs.length ∧ cs.length ≤ 63 ∧ (∀ j, j < h.length → h'[j]? = h[j]?) ∧ h.length ≤ a ∧ a < h'.length ∧ h.length ≤ h'.length := by
  have hlen : (ns.map W.int).length ≤ 1000 := by rw [List.length_map]; omega
  -- the first
  have first : ∃ (a : Nat) (cs : List Int) (h1 : Hw), exS ⟨P.ex, callW P n, P.mth, P.ini⟩ P.nm n (.set 2 (.orV (.prim (.list true) [(.slc false (.var 0) [] [(.var 1)])]) (.lst true [(.cst (.int (0)))]))) [some (.ref 0), some (.int (m : Nat)), none, none, none, none] h = .ok .nx [some (.ref 0), some (.int (m : Nat)), some (.ref a), none, none, none] h1 ∧
      h1[a]? = some (.lst (cs.map .int)) ∧ 1 ≤ cs.length ∧ cs.length ≤ 63 ∧ (m < ns.length → m ≤ cs.length) ∧ (∀ j, j < h.length → h1[j]? = h[j]?) ∧ h.length ≤ a ∧ a < h1.length := by
    have sl : evE ⟨P.ex, callW P n, P.mth, P.ini⟩ (.prim (.list true) [(.slc false (.var 0) [] [(.var 1)])]) [some (.ref 0), some (.int (m : Nat)), none, none, none, none] h = .ok (.ref h.length) (h ++ [.lst ((ns.map W.int).take m)]) := by
      refine r_prim (r_cons (r_slc (r_var rfl) r_nil rfl (r_cons (r_var rfl) r_nil) rfl (slc_frz h0 hlen)) r_nil) ?_
      rw [cut_to]
      exact list_lst (by rw [List.length_take]; omega)
    have gl : getL (h ++ [.lst ((ns.map W.int).take m)]) (.ref h.length) = some ((ns.map W.int).take m) := by
      unfold getL
      have : (h ++ [O.lst ((ns.map W.int).take m)])[h.length]? = some (.lst ((ns.map W.int).take m)) := List.getElem?_concat_length
      simp only [this]
    cases ns with
    | nil =>
      refine ⟨h.length + 1, [0], (h ++ [.lst []]) ++ [.lst [.int 0]], s_set1 (r_orV0 sl (by rw [gl]; simp) ?_) (by simp), ?_, by decide, by decide, (fun z => by simp at z), fun j hj => ?_, by omega, by simp⟩
      · have z := r_lstT (c := ⟨P.ex, callW P n, P.mth, P.ini⟩) (env := [some (.ref 0), some (.int (m : Nat)), none, none, none, none]) (h := h ++ [.lst []]) (r_cons (r_cst (x := .int 0)) r_nil) rfl
        simp only [List.length_append, List.length_cons, List.length_nil, Nat.zero_add] at z
        simpa using z
      · have : ((h ++ [O.lst []]) ++ [O.lst [.int 0]])[(h ++ [O.lst []]).length]? = some (.lst [.int 0]) := List.getElem?_concat_length
        simpa using this
      · rw [List.getElem?_append_left (by simp; omega), List.getElem?_append_left hj]
    | cons z zs =>
      obtain ⟨m', rfl⟩ : ∃ m', m = m' + 1 := ⟨m - 1, by omega⟩
      refine ⟨h.length, (z :: zs).take (m' + 1), h ++ [.lst (((z :: zs).map W.int).take (m' + 1))], s_set1 (r_orV1 (z := .int z) (zs := (zs.map W.int).take m') sl (by rw [gl]; rfl)) (by simp), ?_, by simp, by simp only [List.length_take]; simp at hn ⊢; omega, fun q => by simp only [List.length_take]; omega, fun j hj => List.getElem?_append_left hj, Nat.le_refl _, by simp⟩
      rw [List.getElem?_concat_length, List.map_take]
  obtain ⟨a, cs, h1, e1, ha, c1, c2, c3, fr, ha1, ha2⟩ := first
  have h01 : h1[0]? = some (.frz (ns.map .int)) := by rw [fr 0 (List.getElem?_eq_some_iff.mp h0).1]; exact h0
  obtain ⟨t, ht⟩ := cut_mid (ns.map W.int) m 63
  have sl2 : evL ⟨P.ex, callW P n, P.mth, P.ini⟩ [(.slc false (.var 0) [(.var 1)] [(.cst (.int (63)))])] [some (.ref 0), some (.int (m : Nat)), some (.ref a), none, none, none] h1 = .ok [.lst (((ns.map W.int).drop (min m (ns.map W.int).length)).take t)] h1 := by
    refine r_cons ?_ r_nil
    refine r_slc (r_var rfl) (r_cons (r_var rfl) r_nil) rfl (r_cons r_cst r_nil) rfl ?_
    have z := slc_frz (lo := some (m : Int)) (hi := some ((63 : Nat) : Int)) h01 hlen
    rw [ht] at z
    exact z
  have hys : ((ns.map W.int).drop (min m (ns.map W.int).length)).take t = ((ns.drop (min m ns.length)).take t).map W.int := by rw [List.length_map, List.map_take, List.map_drop]
  rw [hys] at sl2
  obtain ⟨env2, h2, e2, j2⟩ := s_for1 (c := ⟨P.ex, callW P n, P.mth, P.ini⟩) (nm := P.nm) (n := n) (tg := .tp [(.nm 3), (.nm 4)]) (k := .enum) (body := [.set 5 (.bin false .mod (.prim .int [(.var 3)]) (.var 1)), .ssub (.var 2) (.var 5) (.bin false .add (.idx (.var 2) (.var 5)) (.bin false .mul (.var 4) (.bin false .add (.var 3) (.cst (.int (2))))))])
    (xs := ((ns.drop (min m ns.length)).take t).mapIdx fun i x => W.tup [.int (i : Nat), .int x])
    (fun i env h' => (∃ e3 e4 e5, env = [some (.ref 0), some (.int (m : Nat)), some (.ref a), e3, e4, e5]) ∧ (∃ cs' : List Int, h'[a]? = some (.lst (cs'.map .int)) ∧ cs'.length = cs.length) ∧ (∀ j, j < h.length → h'[j]? = h[j]?) ∧ h'.length = h1.length) sl2 ⟨⟨_, _, _, rfl⟩, ⟨cs, ha, rfl⟩, fr, rfl⟩
    (by
      show ((((ns.drop (min m ns.length)).take t).map W.int).length + 1) = _
      simp) (fun i env h' _ _ => by
      show (some ((((ns.drop (min m ns.length)).take t).map W.int)[i]?.map fun x => W.tup [.int (i : Nat), x])) = _
      rw [List.getElem?_mapIdx, List.getElem?_map, Option.map_map]
      rfl)
    (fun i env h' x ⟨⟨e3, e4, e5, henv⟩, ⟨cs', hcs, hcl⟩, hfr, hhl⟩ hx => by
      rw [List.getElem?_mapIdx] at hx
      obtain ⟨y, hy, hxy⟩ := Option.map_eq_some_iff.mp hx
      subst henv hxy
      have hi : i < ((ns.drop (min m ns.length)).take t).length := (List.getElem?_eq_some_iff.mp hy).1
      have hi2 : i < ns.length - min m ns.length := by
        rw [List.length_take, List.length_drop] at hi
        omega
      have hmn : m < ns.length := by omega
      have hmc : m ≤ cs'.length := by rw [hcl]; exact c3 hmn
      have hr0 := Int.emod_nonneg (i : Int) (show (m : Int) ≠ 0 by omega)
      have hr1 := Int.emod_lt_of_pos (i : Int) (show (0 : Int) < m by omega)
      have hk : ((i : Int) % (m : Int)).toNat < cs'.length := by omega
      have gs : getS h' (.ref a) = some (cs'.map .int) := box_S hcs
      have ix : idxW (.ref a) (.int ((i : Int) % (m : Int))) h' = some (.int cs'[((i : Int) % (m : Int)).toNat]) := idx_at gs hr0 (by omega) (by simp [hk])
      refine ⟨_, h'.set a (.lst ((cs'.map W.int).set ((i : Int) % (m : Int)).toNat (.int (cs'[((i : Int) % (m : Int)).toNat] + y * ((i : Int) + 2))))), rfl, [some (.ref 0), some (.int (m : Nat)), some (.ref a), some (.int (i : Nat)), some (.int y), some (.int ((i : Int) % (m : Int)))], .inl ?_, ⟨_, _, _, rfl⟩, ⟨cs'.set ((i : Int) % (m : Int)).toNat (cs'[((i : Int) % (m : Int)).toNat] + y * ((i : Int) + 2)), ?_, by rw [List.length_set]; exact hcl⟩, fun j hj => ?_, by rw [List.length_set]; exact hhl⟩
      · refine b_cons (s_set1 (r_bin (r_prim (r_cons (r_var rfl) r_nil) p_int) (r_var rfl) (b_mod (by omega))) (by simp)) ?_
        refine b_cons (s_ssub1 (r_bin (r_idx (r_var rfl) (r_var rfl) ix) (r_bin (r_var rfl) (r_bin (r_var rfl) r_cst b_add) (b_mul (.inr ⟨by omega, by omega⟩))) b_add) (r_var rfl) (r_var rfl) (sub_at hcs hr0 (by rw [List.length_map]; omega))) ?_
        exact b_nil
      · rw [set_get hcs, List.map_set]
      · rw [List.getElem?_set_ne (by omega)]
        exact hfr j hj)
  obtain ⟨⟨e3, e4, e5, henv⟩, ⟨cs', hcs, hcl⟩, hfr, hhl⟩ := j2
  subst henv
  refine ⟨a, cs', h2, ?_, hcs, by omega, by omega, hfr, ha1, by omega, by omega⟩
  apply call_ret hf rfl
  exact b_cons e1 (b_cons e2 (b_ret (s_ret1 (r_var rfl))))
end G
end
section
set_option Elab.async false
set_option linter.all false
set_option maxRecDepth 100000
namespace G
open PySem L2
/-! V7: the law around its right -/
def fLaw (ce bx ri : Nat) (most times : Int) : Fn := ⟨1, 5, [
  .set 1 (.call ce [(.var 0), (.cst (.int most))] []),
  .for (.nm 2) .rng [(.prim .len [(.var 1)])] [.set 3 (.call bx [(.var 1), (.var 2)] []), .ite (.not (.prim .all [(.comp false (.call ri [(.var 3)] []) (.nm 4) .rng [(.cst (.int times))] [] [4])])) [.ret (.cst (.bl false))] []],
  .ret (.cst (.bl true))]⟩
/-- what a right keeps -/
def RightOk (P : Pg) (m ri : Nat) (C D : Int) : Prop := ∀ (h : Hw) (k : Nat) (c : Int), BoxAt h k c → 0 ≤ c → c ≤ C → ∃ h', callW P m ri [.ref k] h = .ok (.bl true) h' ∧ BoxAt h' k (c + D) ∧ Frm k h h'
theorem rng_turns {h : Hw} {j : Nat} : turnsW .rng [.int (j : Nat)] h = ((List.range j).map fun i => W.int (i : Nat)).length + 1 := by
  have e : turnsW .rng [.int (j : Nat)] h = (j : Int).toNat + 1 := by unfold turnsW; rfl
  rw [e, List.length_map, List.length_range]; rfl
theorem rng_item {h : Hw} {j i : Nat} (hj : j < 2 ^ 60) : itemW .rng [.int (j : Nat)] h i = some ((List.range j).map fun i => W.int (i : Nat))[i]? := by
  have e : itemW .rng [.int (j : Nat)] h i = (if decide (-(2 ^ 62) ≤ (j : Int) ∧ (j : Int) < 2 ^ 62) then some (if i < (j : Int).toNat then some (W.int (i : Nat)) else none) else none) := by unfold itemW; rfl
  rw [e, if_pos (decide_eq_true ⟨by omega, by omega⟩), List.getElem?_map]
  by_cases c : i < j
  · rw [if_pos (by simpa using c), List.getElem?_range c]; rfl
  · rw [if_neg (by simpa using c), List.getElem?_eq_none (by simpa using c)]; rfl
theorem law_run {P : Pg} {ce bx ri li n mo ti : Nat} {C D : Int} (hce : P.fns[ce]? = some fCells) (hbx : P.fns[bx]? = some fBox) (hl : P.fns[li]? = some (fLaw ce bx ri mo ti)) (hr : RightOk P (n + 1) ri C D) (h0D : 0 ≤ D) (hC : D * ti ≤ C) (hm : 0 < mo) (hm2 : mo ≤ 63) (ht : ti ≤ 1000) (ns : List Int) (hn : ns.length ≤ 63) :
    ∃ h', callW P (n + 2) li [.ref 0] [.frz (ns.map W.int)] = .ok (.bl true) h' := by
  obtain ⟨a, cs, h1, e1, ha, c1, c2, fr, a1, a2, a3⟩ := cells_spec (n := n) (m := mo) (h := [.frz (ns.map W.int)]) hce rfl hn hm hm2
  have hgs : ∀ h : Hw, h[a]? = some (.lst (cs.map .int)) → primW .len [.ref a] h = .ok (.int (cs.length : Nat)) h := fun h e => by
    have z := len_seq (h := h) (w := .ref a) (box_S e) (fun z e => by cases e)
    rw [List.length_map] at z
    exact z
  obtain ⟨env2, h2, e2, j2⟩ := s_for1 (c := ⟨P.ex, callW P (n + 1), P.mth, P.ini⟩) (nm := P.nm) (n := n + 1) (env := [some (.ref 0), some (.ref a), none, none, none]) (srcs := [.prim .len [.var 1]]) (tg := .nm 2) (k := .rng) (body := [.set 3 (.call bx [(.var 1), (.var 2)] []), .ite (.not (.prim .all [(.comp false (.call ri [(.var 3)] []) (.nm 4) .rng [(.cst (.int (ti : Nat)))] [] [4])])) [.ret (.cst (.bl false))] []])
    (xs := (List.range cs.length).map fun i => W.int (i : Nat))
    (fun i env h => (∃ e2 e3 e4, env = [some (.ref 0), some (.ref a), e2, e3, e4]) ∧ h[a]? = some (.lst (cs.map .int)) ∧ a < h.length) (r_cons (r_prim (r_cons (r_var rfl) r_nil) (hgs h1 ha)) r_nil) ⟨⟨_, _, _, rfl⟩, ha, a2⟩ rng_turns
    (fun i env h _ _ => rng_item (by omega)) (fun i env h x ⟨⟨e2, e3, e4, henv⟩, hha, hal⟩ hx => by
      subst henv
      rw [List.getElem?_map] at hx
      obtain ⟨y, hy, hxy⟩ := Option.map_eq_some_iff.mp hx
      subst hxy
      have hyl : y < cs.length := by
        have := List.mem_of_getElem? hy
        simpa using this
      obtain ⟨o, eb, bb⟩ := box_spec (n := n) (j := y) hbx hha hyl (by omega)
      -- all of its turns
      have hall : ∃ h3, evE ⟨P.ex, callW P (n + 1), P.mth, P.ini⟩ (.prim .all [(.comp false (.call ri [(.var 3)] []) (.nm 4) .rng [(.cst (.int (ti : Nat)))] [] [4])]) [some (.ref 0), some (.ref a), some (.int (y : Nat)), some (.ref h.length), e4] (h ++ [o]) = .ok (.bl true) h3 ∧ Frm h.length (h ++ [o]) h3 := by
        obtain ⟨ys, h3, e3, rfl, b3, f3⟩ := r_compJ (c := ⟨P.ex, callW P (n + 1), P.mth, P.ini⟩) (env := [some (.ref 0), some (.ref a), some (.int (y : Nat)), some (.ref h.length), e4]) (h := h ++ [o]) (elt := .call ri [(.var 3)] []) (tg := .nm 4) (k := .rng) (srcs := [.cst (.int (ti : Nat))]) (wp := [4]) (xs := (List.range ti).map fun i => W.int (i : Nat))
          (fun i ys h' => ys = List.replicate i (.bl true) ∧ BoxAt h' h.length (D * i) ∧ Frm h.length (h ++ [o]) h') (r_cons r_cst r_nil) ⟨rfl, by simpa using bb, Frm.refl _ _⟩ rng_turns (fun i ys h' _ _ => rng_item (by omega))
          (fun i ys h' x ⟨hys, hb, hfr⟩ hx => by
            have hi : i < ti := by
              have := (List.getElem?_eq_some_iff.mp hx).1
              simpa using this
            have hDi : D * (i : Int) ≤ C := Int.le_trans (Int.mul_le_mul_of_nonneg_left (by omega) h0D) hC
            obtain ⟨h'', e, b, f⟩ := hr h' h.length (D * i) hb (Int.mul_nonneg h0D (by omega)) hDi
            refine ⟨[some (.ref 0), some (.ref a), some (.int (y : Nat)), some (.ref h.length), some x], rfl, .bl true, h'', r_call (r_cons (r_var rfl) r_nil) e, ?_, ?_, hfr.trans f⟩
            · rw [hys, List.replicate_succ']
            · have : D * ((i + 1 : Nat) : Int) = D * i + D := by rw [Int.natCast_add, Int.mul_add]; simp
              rw [this]; exact b)
          (by refine decide_eq_true ?_; simp; omega) (fun ys h' ⟨hys, _⟩ => by rw [hys]; simp)
        refine ⟨h3, r_prim (r_cons e3 r_nil) all_rep, f3⟩
      obtain ⟨h3, e5, f3⟩ := hall
      have hal2 : a < (h ++ [o]).length := by simp; omega
      have ha3 : h3[a]? = some (.lst (cs.map .int)) := by
        rw [f3.at_ a hal2 (by omega), List.getElem?_append_left hal]
        exact hha
      refine ⟨[some (.ref 0), some (.ref a), some (.int (y : Nat)), e3, e4], h3, rfl, [some (.ref 0), some (.ref a), some (.int (y : Nat)), some (.ref h.length), e4], .inl ?_, ⟨_, _, _, rfl⟩, ha3, Nat.lt_of_lt_of_le hal2 f3.len⟩
      refine b_cons (s_set1 (r_call (r_cons (r_var rfl) (r_cons (r_var rfl) r_nil)) eb) (by simp)) ?_
      refine b_cons (env1 := [some (.ref 0), some (.ref a), some (.int (y : Nat)), some (.ref h.length), e4]) (h1 := h3) ((s_iteF (r_not e5)).trans b_nil) b_nil)
  obtain ⟨⟨e3, e4, e5, henv⟩, _, _⟩ := j2
  subst henv
  refine ⟨h2, ?_⟩
  apply call_ret hl rfl
  refine b_cons (s_set1 (r_call (r_cons (r_var rfl) (r_cons r_cst r_nil)) e1) (by show 1 < 5; decide)) (b_cons e2 (b_ret (s_ret1 r_cst)))
end G
end
section
set_option Elab.async false
set_option linter.all false
set_option maxRecDepth 100000
namespace G
open PySem L2
/-! V8: drawn trees -/
structure Row where
  nm : Str
  par : Option Str
  lk : Bool
def encO : Option Str → W
  | none => .non
  | some s => .str s
def Row.enc (r : Row) : W := .tup [.str r.nm, encO r.par, .bl r.lk]
def nms (rows : List Row) : List Str := rows.map (·.nm)
inductive TreeOk : List Row → Prop where
  | one (n : Str) : TreeOk [⟨n, none, false⟩]
  | snoc {rows : List Row} {n p : Str} {b : Bool} (w : TreeOk rows) (hp : p ∈ nms rows) (hn : n ∉ nms rows) : TreeOk (rows ++ [⟨n, some p, b⟩])
theorem nms_snoc (rows : List Row) (r : Row) : nms (rows ++ [r]) = nms rows ++ [r.nm] := by simp [nms]
theorem mth_pop {h : Hw} {k : Nat} {xs : List W} {i : Int} {x : W} (e : h[k]? = some (.lst xs)) (h0 : 0 ≤ i) (h1 : i < 2 ^ 62) (hx : xs[i.toNat]? = some x) : mthW .popAt (.ref k) [.int i] h = .ok x (h.set k (.lst (xs.eraseIdx i.toNat))) := by
  unfold mthW mPopAt
  simp only [e]
  rw [if_pos (decide_eq_true ⟨h0, h1⟩)]
  simp only [hx]
  rfl
theorem mth_app {h : Hw} {k : Nat} {xs : List W} {x : W} (e : h[k]? = some (.lst xs)) (hl : xs.length < 16777216) : mthW .append (.ref k) [x] h = .ok .non (h.set k (.lst (xs ++ [x]))) := by
  unfold mthW mAppend
  simp only [e]
  rw [if_pos (decide_eq_true hl)]
  rfl
theorem ty_lst {h : Hw} {k : Nat} {xs : List W} {p : G.P} (e : h[k]? = some (.lst xs)) (hp : p = .append ∨ p = .popAt) : tyOk p (.ref k) h = true := by
  rcases hp with rfl | rfl <;> (unfold tyOk getX; simp only [e]; rfl)
def fGrown (t o : Nat) (ls : List Str) : Fn := ⟨3, 7, [
  .set 3 (.lst true (ls.map fun s => .cst (.str s))),
  .set 4 (.lst true [(.tup [(.bm .popAt (.var 3) [(.call t [(.var 0), (.prim .len [(.var 3)])] [])]), (.cst .non), (.cst (.bl false))])]),
  .for (.nm 5) .rng [(.bin false .sub (.var 1) (.cst (.int (1))))] [.set 6 (.idx (.call o [(.var 0), (.var 4)] []) (.cst (.int (0)))), .expr (.bm .append (.var 4) [(.tup [(.bm .popAt (.var 3) [(.call t [(.var 0), (.prim .len [(.var 3)])] [])]), (.var 6), (.cmp .lt (.call t [(.var 0), (.cst (.int (12)))] []) (.var 2))])])],
  .ret (.prim .tuple [(.var 4)])]⟩
theorem evL_strs {c : Cs} {env : Env} {h : Hw} : ∀ ls : List Str, evL c (ls.map fun s => .cst (.str s)) env h = .ok (ls.map .str) h
  | [] => r_nil
  | s :: ls => r_cons r_cst (evL_strs ls)
theorem er_map {α β : Type} (f : α → β) : ∀ (l : List α) (r : Nat), (l.map f).eraseIdx r = (l.eraseIdx r).map f
  | [], _ => rfl
  | a :: l, 0 => rfl
  | a :: l, r + 1 => congrArg (f a :: ·) (er_map f l r)
theorem er_perm {α : Type} : ∀ {l : List α} {r : Nat} (h : r < l.length), (l[r] :: l.eraseIdx r).Perm l
  | a :: l, 0, _ => .refl _
  | a :: l, r + 1, h => by
    have h' : r < l.length := by simpa using h
    exact (List.Perm.swap _ _ _).trans ((er_perm h').cons a)
/-- one more name is drawn from those left -/
theorem draw_name {P : Pg} {t n k L : Nat} {h : Hw} {c : Int} {left : List Str} {env : Env} (ht : P.fns[t]? = some fTake) (hb : BoxAt h k c) (hc : c < 2 ^ 60) (hL : h[L]? = some (.lst (left.map .str))) (hkL : L ≠ k) (h0 : 0 < left.length) (h1 : left.length < 2 ^ 20) (e0 : env[0]? = some (some (.ref k))) (e3 : env[3]? = some (some (.ref L))) :
    ∃ (r : Nat) (x : Str) (h' : Hw), evE ⟨P.ex, callW P (n + 1), P.mth, P.ini⟩ (.bm .popAt (.var 3) [(.call t [(.var 0), (.prim .len [(.var 3)])] [])]) env h = .ok (.str x) h' ∧ left[r]? = some x ∧ BoxAt h' k (c + 1) ∧ h'[L]? = some (.lst ((left.eraseIdx r).map .str)) ∧ h'.length = h.length ∧ ∀ j, j ≠ k → j ≠ L → h'[j]? = h[j]? := by
  have hlen : primW .len [.ref L] h = .ok (.int (left.length : Nat)) h := by
    have z := len_seq (h := h) (w := .ref L) (box_S hL) (fun z e => by cases e)
    rw [List.length_map] at z
    exact z
  obtain ⟨r, h1', e, r0, r1, b, hl, hf⟩ := take_spec (n := n) (m := (left.length : Nat)) ht hb hc (by omega) (by omega)
  have hL1 : h1'[L]? = some (.lst (left.map .str)) := (hf L hkL).trans hL
  have hlt : r.toNat < left.length := by omega
  have hx : (left.map W.str)[r.toNat]? = some (.str left[r.toNat]) := by simp [hlt]
  refine ⟨r.toNat, left[r.toNat], _, r_bm (r_var e3) (ty_lst hL (.inr rfl)) (r_cons (r_call (r_cons (r_var e0) (r_cons (r_prim (r_cons (r_var e3) r_nil) hlen) r_nil)) e) r_nil) (mth_pop hL1 r0 (by omega) hx), by simp [hlt], ?_, ?_, by rw [List.length_set]; exact hl, fun j hj hjL => ?_⟩
  · exact b.of_at (List.getElem?_set_ne hkL)
  · rw [set_get hL1, er_map]
  · rw [List.getElem?_set_ne (Ne.symm hjL)]
    exact hf j hj
theorem nodup_move {left names : List Str} {r : Nat} {x : Str} (hx : left[r]? = some x) (hn : (left ++ names).Nodup) : (left.eraseIdx r ++ (names ++ [x])).Nodup ∧ x ∉ names := by
  have hr : r < left.length := (List.getElem?_eq_some_iff.mp hx).1
  have ex : left[r] = x := (List.getElem?_eq_some_iff.mp hx).2
  have hp : (x :: left.eraseIdx r).Perm left := by
    rw [← ex]
    exact er_perm hr
  have h1 : (left.eraseIdx r ++ (names ++ [x])).Perm (left ++ names) := by
    have a : (left.eraseIdx r ++ (names ++ [x])).Perm (x :: (left.eraseIdx r ++ names)) := by
      rw [← List.append_assoc]
      exact List.perm_append_singleton _ _
    exact a.trans (List.Perm.append_right names hp)
  refine ⟨h1.nodup_iff.mpr hn, fun hm => ?_⟩
  have := (List.nodup_append.mp hn).2.2 x (List.mem_of_getElem? hx) x hm
  exact this rfl
theorem grown_spec {P : Pg} {t o g n k : Nat} {h : Hw} {c lk : Int} {m : Nat} {ls : List Str} (ht : P.fns[t]? = some fTake) (ho : P.fns[o]? = some (fOf t)) (hg : P.fns[g]? = some (fGrown t o ls)) (hb : BoxAt h k c) (hc : c < 2 ^ 50) (hm1 : 1 ≤ m) (hm : m ≤ ls.length) (hls : ls.length ≤ 1000) (hnd : ls.Nodup) :
    ∃ (rows : List Row) (h' : Hw), callW P (n + 3) g [.ref k, .int (m : Nat), .int lk] h = .ok (.tup (rows.map Row.enc)) h' ∧ TreeOk rows ∧ rows.length = m ∧ (∀ x ∈ nms rows, x ∈ ls) ∧ BoxAt h' k (c + 3 * m) ∧ Frm k h h' := by
  have hk := hb.lt
  -- the letters
  have e1 : evE ⟨P.ex, callW P (n + 2), P.mth, P.ini⟩ (.lst true (ls.map fun s => .cst (.str s))) [some (.ref k), some (.int (m : Nat)), some (.int lk), none, none, none, none] h = .ok (.ref h.length) (h ++ [.lst (ls.map .str)]) :=
    r_lstT (evL_strs ls) (by rw [List.length_map]; exact decide_eq_true (by omega))
  have hL : (h ++ [O.lst (ls.map W.str)])[h.length]? = some (.lst (ls.map .str)) := List.getElem?_concat_length
  obtain ⟨r1, x1, h1, e2, hx1, b1, hL1, hl1, hf1⟩ := draw_name (n := n + 1) (env := [some (.ref k), some (.int (m : Nat)), some (.int lk), some (.ref h.length), none, none, none]) ht hb.push (by omega) hL (by omega) (by omega) (by omega) rfl rfl
  have e3 : evE ⟨P.ex, callW P (n + 2), P.mth, P.ini⟩ (.lst true [(.tup [(.bm .popAt (.var 3) [(.call t [(.var 0), (.prim .len [(.var 3)])] [])]), (.cst .non), (.cst (.bl false))])]) [some (.ref k), some (.int (m : Nat)), some (.int lk), some (.ref h.length), none, none, none] (h ++ [.lst (ls.map .str)]) = .ok (.ref h1.length) (h1 ++ [.lst [.tup [.str x1, .non, .bl false]]]) :=
    r_lstT (r_cons (r_tup (r_cons e2 (r_cons r_cst (r_cons r_cst r_nil))) rfl) r_nil) rfl
  have hl1' : h1.length = h.length + 1 := by rw [hl1]; simp
  have nd0 := nodup_move (names := []) hx1 (by simpa using hnd)
  obtain ⟨env2, h2, e4, j2⟩ := s_for1 (c := ⟨P.ex, callW P (n + 2), P.mth, P.ini⟩) (nm := P.nm) (n := n + 2) (env := [some (.ref k), some (.int (m : Nat)), some (.int lk), some (.ref h.length), some (.ref h1.length), none, none]) (srcs := [(.bin false .sub (.var 1) (.cst (.int (1))))]) (tg := .nm 5) (k := .rng)
    (body := [.set 6 (.idx (.call o [(.var 0), (.var 4)] []) (.cst (.int (0)))), .expr (.bm .append (.var 4) [(.tup [(.bm .popAt (.var 3) [(.call t [(.var 0), (.prim .len [(.var 3)])] [])]), (.var 6), (.cmp .lt (.call t [(.var 0), (.cst (.int (12)))] []) (.var 2))])])])
    (h := h1 ++ [.lst [.tup [.str x1, .non, .bl false]]]) (h1 := h1 ++ [.lst [.tup [.str x1, .non, .bl false]]]) (vs := [.int ((m - 1 : Nat) : Int)]) (xs := (List.range (m - 1)).map fun i => W.int (i : Nat))
    (fun i env h' => (∃ e5 e6, env = [some (.ref k), some (.int (m : Nat)), some (.int lk), some (.ref h.length), some (.ref h1.length), e5, e6]) ∧ ∃ (left : List Str) (rows : List Row), h'[h.length]? = some (.lst (left.map .str)) ∧ h'[h1.length]? = some (.lst (rows.map Row.enc)) ∧ TreeOk rows ∧ rows.length = i + 1 ∧ left.length + (i + 1) = ls.length ∧
      (left ++ nms rows).Nodup ∧ (∀ x ∈ left, x ∈ ls) ∧ (∀ x ∈ nms rows, x ∈ ls) ∧ BoxAt h' k (c + 1 + 3 * i) ∧ Frm k h h')
    (r_cons (r_bin (r_var rfl) r_cst (by rw [b_sub]; congr 2; omega)) r_nil)
    ⟨⟨_, _, rfl⟩, ls.eraseIdx r1, [⟨x1, none, false⟩], by rw [List.getElem?_append_left (by omega)]; exact hL1, by rw [List.getElem?_concat_length]; rfl, .one x1, rfl, by
      rw [List.length_eraseIdx_of_lt (List.getElem?_eq_some_iff.mp hx1).1]; omega, by simpa [nms] using nd0.1, fun x hx => List.mem_of_mem_eraseIdx hx, fun x hx => by
      simp [nms] at hx
      rw [hx]; exact List.mem_of_getElem? hx1, by simpa using b1.push, ⟨by simp; omega, fun j hj hjk => by
        rw [List.getElem?_append_left (by omega), hf1 j hjk (by omega), List.getElem?_append_left hj]⟩⟩
    rng_turns (fun i env h _ _ => rng_item (by omega))
    (fun i env h' x ⟨⟨e5, e6, henv⟩, left, rows, hl, hr, hw, hrl, hll, hnd, hin, hin2, hb', hfr⟩ hx => by
      subst henv
      have hi : i < m - 1 := by
        have := (List.getElem?_eq_some_iff.mp hx).1
        simpa using this
      -- the parent
      have hkl : h1.length ≠ k := by omega
      obtain ⟨r, y, h3, eo, hy, b3, hl3, hf3⟩ := of_spec (n := n) (s := .ref h1.length) (xs := rows.map Row.enc) ht ho hb' (by omega) (fun h'' _ hf => box_S ((hf _ hkl).trans hr)) (fun z e => by cases e) (by rw [List.length_map]; omega) (by rw [List.length_map]; omega)
      obtain ⟨ro, hro, rfl⟩ : ∃ ro, rows[r]? = some ro ∧ ro.enc = y := by
        rw [List.getElem?_map] at hy
        exact Option.map_eq_some_iff.mp hy
      have hpar : ro.nm ∈ nms rows := List.mem_map_of_mem (f := (·.nm)) (List.mem_of_getElem? hro)
      have hl3' : h3[h.length]? = some (.lst (left.map .str)) := (hf3 _ (by omega)).trans hl
      have hr3 : h3[h1.length]? = some (.lst (rows.map Row.enc)) := (hf3 _ hkl).trans hr
      obtain ⟨r4, x4, h4, e4, hx4, b4, hl4, hlen4, hf4⟩ := draw_name (n := n + 1) (env := [some (.ref k), some (.int (m : Nat)), some (.int lk), some (.ref h.length), some (.ref h1.length), some x, some (.str ro.nm)]) ht b3 (by omega) hl3' (by omega) (by omega) (by omega) rfl rfl
      obtain ⟨r5, h5, e5', r50, r51, b5, hlen5, hf5⟩ := take_spec (n := n + 1) (m := 12) ht b4 (by omega) (by decide) (by decide)
      have hr4 : h4[h1.length]? = some (.lst (rows.map Row.enc)) := (hf4 _ hkl (by omega)).trans hr3
      have hr5 : h5[h1.length]? = some (.lst (rows.map Row.enc)) := (hf5 _ hkl).trans hr4
      have hl5 : h5[h.length]? = some (.lst ((left.eraseIdx r4).map .str)) := (hf5 _ (by omega)).trans hl4
      have nd := nodup_move hx4 hnd
      have step : exB ⟨P.ex, callW P (n + 2), P.mth, P.ini⟩ P.nm (n + 2) [.set 6 (.idx (.call o [(.var 0), (.var 4)] []) (.cst (.int (0)))), .expr (.bm .append (.var 4) [(.tup [(.bm .popAt (.var 3) [(.call t [(.var 0), (.prim .len [(.var 3)])] [])]), (.var 6), (.cmp .lt (.call t [(.var 0), (.cst (.int (12)))] []) (.var 2))])])]
          [some (.ref k), some (.int (m : Nat)), some (.int lk), some (.ref h.length), some (.ref h1.length), some x, e6] h' = .ok .nx [some (.ref k), some (.int (m : Nat)), some (.int lk), some (.ref h.length), some (.ref h1.length), some x, some (.str ro.nm)] (h5.set h1.length (.lst (rows.map Row.enc ++ [.tup [.str x4, .str ro.nm, .bl (decide (r5 < lk))]]))) := by
        refine b_cons (s_set1 (r_idx (r_call (r_cons (r_var rfl) (r_cons (r_var rfl) r_nil)) eo) r_cst (idx_at (xs := [.str ro.nm, encO ro.par, .bl ro.lk]) (v := .str ro.nm) rfl (by decide) (by decide) rfl)) (by simp)) ?_
        refine b_cons (s_expr1 (r_bm (r_var rfl) (ty_lst hr3 (.inl rfl)) (r_cons (r_tup (r_cons e4 (r_cons (r_var rfl) (r_cons (r_cmp (r_call (r_cons (r_var rfl) (r_cons r_cst r_nil)) e5') (r_var rfl) c_lt) r_nil))) rfl) r_nil) (mth_app hr5 (by rw [List.length_map]; omega)))) b_nil
      have hln : h.length ≠ h1.length := by omega
      refine ⟨_, _, rfl, _, .inl step, ⟨_, _, rfl⟩, left.eraseIdx r4, rows ++ [⟨x4, some ro.nm, decide (r5 < lk)⟩], ?_, ?_, hw.snoc hpar nd.2, by simp [hrl], ?_, ?_, fun y hy => hin y (List.mem_of_mem_eraseIdx hy), ?_, ?_, ?_⟩
      · rw [List.getElem?_set_ne (Ne.symm hln)]; exact hl5
      · rw [set_get hr5, List.map_append]; rfl
      · rw [List.length_eraseIdx_of_lt (List.getElem?_eq_some_iff.mp hx4).1]; omega
      · rw [nms_snoc]; exact nd.1
      · intro y hy
        rw [nms_snoc] at hy
        rcases List.mem_append.mp hy with z | z
        · exact hin2 y z
        · simp at z
          rw [z]
          exact hin _ (List.mem_of_getElem? hx4)
      · refine (b5.of_at (List.getElem?_set_ne hkl)).mono (by omega)
      · refine ⟨by rw [List.length_set]; have := hfr.len; omega, fun j hj hjk => ?_⟩
        rw [List.getElem?_set_ne (by omega), hf5 j hjk, hf4 j hjk (by omega), hf3 j hjk]
        exact hfr.at_ j hj hjk)
  obtain ⟨⟨e5, e6, henv⟩, left, rows, hl, hr, hw, hrl, hll, hnd', hin, hin2, hb', hfr⟩ := j2
  subst henv
  have hrl' : rows.length = m := by rw [hrl]; simp; omega
  refine ⟨rows, h2, ?_, hw, hrl', hin2, hb'.mono (by simp; omega), hfr⟩
  apply call_ret hg rfl
  refine b_cons (s_set1 e1 (by show 3 < 7; decide)) (b_cons (s_set1 e3 (by show 4 < 7; decide)) (b_cons e4 (b_ret (s_ret1 (r_prim (r_cons (r_var rfl) r_nil) ?_)))))
  unfold primW pTuple
  simp only [box_S hr]
  unfold mkT
  have z : sz (rows.map Row.enc).length = true := decide_eq_true (by rw [List.length_map]; omega)
  rw [z]; rfl
end G
end
section
set_option Elab.async false
set_option linter.all false
set_option maxRecDepth 100000
namespace G
open PySem L2
/-! V9: parts of trees, folders moved (plain) -/
def up (low : List Str) : Option Str → Bool
  | some p => low.contains p
  | none => false
def lowS (f : Str) (acc : List Str) (r : Row) : List Str := if r.nm == f || up acc r.par then acc ++ [r.nm] else acc
def lowF (f : Str) (rows : List Row) : List Str := rows.foldl (lowS f) []
def restF (low : List Str) (rows : List Row) : List Row := rows.filter fun r => !low.contains r.nm
def someF (low : List Str) (rows : List Row) : List Row := rows.filter fun r => low.contains r.nm
def takenF (f p : Str) (rows : List Row) : List Row := rows.map fun r => ⟨r.nm, if r.nm == f then some p else r.par, r.lk⟩
theorem TreeOk.nodup {rows : List Row} (t : TreeOk rows) : (nms rows).Nodup := by
  induction t with
  | one n => simp [nms]
  | snoc w hp hn ih =>
    rw [nms_snoc, List.nodup_append]
    refine ⟨ih, by simp, fun a ha b hb => ?_⟩
    simp at hb
    subst hb
    intro e
    subst e
    exact hn ha
theorem TreeOk.root {rows : List Row} (t : TreeOk rows) : ∃ r rs, rows = r :: rs ∧ r.par = none := by
  induction t with
  | one n => exact ⟨_, [], rfl, rfl⟩
  | snoc w hp hn ih =>
    obtain ⟨r, rs, rfl, h⟩ := ih
    exact ⟨r, rs ++ [_], rfl, h⟩
theorem low_pre {f : Str} : ∀ {rows : List Row}, f ∉ nms rows → rows.foldl (lowS f) [] = []
  | [], _ => rfl
  | r :: rs, h => by
    have h1 : r.nm ≠ f := fun e => h (by rw [← e]; exact List.mem_cons_self)
    have h2 : f ∉ nms rs := fun m => h (List.mem_cons_of_mem _ m)
    have e : lowS f [] r = [] := by
      unfold lowS
      have : (r.nm == f) = false := by simpa using h1
      rw [this]
      cases r.par <;> simp [up]
    rw [List.foldl_cons, e]
    exact low_pre h2
theorem low_sub {f : Str} : ∀ {rows : List Row} {acc : List Str} {x : Str}, x ∈ rows.foldl (lowS f) acc → x ∈ acc ∨ x ∈ nms rows
  | [], acc, x, h => .inl h
  | r :: rs, acc, x, h => by
    rw [List.foldl_cons] at h
    rcases low_sub h with z | z
    · unfold lowS at z
      split at z
      · rcases List.mem_append.mp z with z | z
        · exact .inl z
        · simp at z
          subst z
          exact .inr List.mem_cons_self
      · exact .inl z
    · exact .inr (List.mem_cons_of_mem _ z)
theorem low_keep {f : Str} : ∀ {rows : List Row} {acc : List Str} {x : Str}, x ∈ acc → x ∈ rows.foldl (lowS f) acc
  | [], acc, x, h => h
  | r :: rs, acc, x, h => by
    rw [List.foldl_cons]
    refine low_keep ?_
    unfold lowS
    split
    · exact List.mem_append_left _ h
    · exact h
theorem some_split {f : Str} {rows : List Row} (t : TreeOk rows) (hf : f ∈ nms rows) : f ∈ lowF f rows ∧ ∃ r0 rs, someF (lowF f rows) rows = r0 :: rs ∧ r0.nm = f ∧ ∀ r ∈ rs, r.nm ≠ f := by
  obtain ⟨r0, hr0, hnm⟩ := List.mem_map.mp hf
  obtain ⟨pre, post, rfl⟩ := List.append_of_mem hr0
  have nd := t.nodup
  have nd2 : nms (pre ++ r0 :: post) = nms pre ++ f :: nms post := by unfold nms; rw [List.map_append, List.map_cons, hnm]
  rw [nd2] at nd
  obtain ⟨n1, n2, n3⟩ := List.nodup_append.mp nd
  obtain ⟨n4, n5⟩ := List.nodup_cons.mp n2
  have hpre : f ∉ nms pre := fun m => n3 f m f List.mem_cons_self rfl
  have elow : lowF f (pre ++ r0 :: post) = post.foldl (lowS f) [f] := by
    unfold lowF
    rw [List.foldl_append, low_pre hpre, List.foldl_cons]
    congr 1
    unfold lowS
    have : (r0.nm == f) = true := by simpa using hnm
    rw [this, hnm]; rfl
  have hmem : f ∈ lowF f (pre ++ r0 :: post) := by rw [elow]; exact low_keep (by simp)
  refine ⟨hmem, r0, someF (lowF f (pre ++ r0 :: post)) post, ?_, hnm, fun r hr e => ?_⟩
  · have e1 : someF (lowF f (pre ++ r0 :: post)) pre = [] := by
      unfold someF
      rw [List.filter_eq_nil_iff]
      intro r hr hc
      have hm := List.contains_iff_mem.mp hc
      rw [elow] at hm
      have hrn : r.nm ∈ nms pre := List.mem_map_of_mem (f := (·.nm)) hr
      rcases low_sub hm with z | z
      · simp at z
        exact hpre (z ▸ hrn)
      · exact n3 _ hrn _ (List.mem_cons_of_mem _ z) rfl
    have e2 : someF (lowF f (pre ++ r0 :: post)) (pre ++ r0 :: post) = someF (lowF f (pre ++ r0 :: post)) pre ++ someF (lowF f (pre ++ r0 :: post)) (r0 :: post) := by unfold someF; rw [List.filter_append]
    have e3 : someF (lowF f (pre ++ r0 :: post)) (r0 :: post) = r0 :: someF (lowF f (pre ++ r0 :: post)) post := by
      unfold someF
      rw [List.filter_cons_of_pos]
      rw [hnm]; exact List.contains_iff_mem.mpr hmem
    rw [e2, e1, e3]; rfl
  · have hr2 : r ∈ post := (List.mem_filter.mp hr).1
    have : r.nm ∈ nms post := List.mem_map_of_mem (f := (·.nm)) hr2
    rw [e] at this
    exact n4 this
theorem taken_eq {f p : Str} {r0 : Row} {rs : List Row} (h0 : r0.nm = f) (hs : ∀ r ∈ rs, r.nm ≠ f) : takenF f p (r0 :: rs) = ⟨f, some p, r0.lk⟩ :: rs := by
  unfold takenF
  rw [List.map_cons]
  congr 1
  · have : (r0.nm == f) = true := by simpa using h0
    rw [this, h0]; rfl
  · conv => rhs; rw [← List.map_id rs]
    refine List.map_congr_left fun r hr => ?_
    have : (r.nm == f) = false := by simpa using hs r hr
    rw [this]; rfl

/-! ### what the evaluator says of rows -/
theorem idx0 {r : Row} {h : Hw} : idxW r.enc (.int 0) h = some (.str r.nm) := idx_at (xs := [.str r.nm, encO r.par, .bl r.lk]) rfl (by decide) (by decide) rfl
theorem idx1 {r : Row} {h : Hw} : idxW r.enc (.int 1) h = some (encO r.par) := idx_at (xs := [.str r.nm, encO r.par, .bl r.lk]) rfl (by decide) (by decide) rfl
theorem idx2 {r : Row} {h : Hw} : idxW r.enc (.int 2) h = some (.bl r.lk) := idx_at (xs := [.str r.nm, encO r.par, .bl r.lk]) rfl (by decide) (by decide) rfl
theorem inF_str {p : Str} : ∀ acc : List Str, inF (.str p) (acc.map .str) = some (acc.contains p)
  | [] => rfl
  | a :: acc => by
    show (match eqF (.str a) (.str p) with | none => none | some r => match inF (.str p) (acc.map .str) with | none => none | some q => some (r || q)) = _
    rw [inF_str acc]
    show some (decide (a = p) || acc.contains p) = _
    rw [List.contains_cons]
    congr 2
    by_cases c : a = p
    · subst c; simp
    · have : (p == a) = false := by simpa using fun e => c e.symm
      rw [this]; simpa using c
theorem inF_non : ∀ acc : List Str, inF .non (acc.map .str) = some false
  | [] => rfl
  | a :: acc => by
    show (match eqF (.str a) .non with | none => none | some r => match inF .non (acc.map .str) with | none => none | some q => some (r || q)) = _
    rw [inF_non acc]; rfl
theorem in_par {h : Hw} {w : W} {acc : List Str} {o : Option Str} (e : getS h w = some (acc.map .str)) (hw : ∀ z, w ≠ .str z) : cmpW .inn (encO o) w h = some (up acc o) := by
  have go : inW h (encO o) w = if flatW (encO o) then inF (encO o) (acc.map .str) else none := by
    unfold inW
    cases w with
    | str z => exact absurd rfl (hw z)
    | _ => simp only [e]; cases o <;> rfl
  show inW h (encO o) w = _
  rw [go]
  cases o with
  | none => exact inF_non acc
  | some p => exact inF_str acc
theorem in_nm {h : Hw} {w : W} {acc : List Str} {p : Str} (e : getS h w = some (acc.map .str)) (hw : ∀ z, w ≠ .str z) : cmpW .inn (.str p) w h = some (acc.contains p) := in_par (o := some p) e hw
theorem nin_nm {h : Hw} {w : W} {acc : List Str} {p : Str} (e : getS h w = some (acc.map .str)) (hw : ∀ z, w ≠ .str z) : cmpW .nin (.str p) w h = some (!acc.contains p) := by
  have := in_nm (p := p) e hw
  show (inW h (.str p) w).map (!·) = _
  have z : inW h (.str p) w = some (acc.contains p) := this
  rw [z]; rfl
def decR : W → Option Row
  | .tup [.str n, .non, .bl b] => some ⟨n, none, b⟩
  | .tup [.str n, .str p, .bl b] => some ⟨n, some p, b⟩
  | _ => none
theorem dec_enc (r : Row) : decR r.enc = some r := by
  obtain ⟨n, o, b⟩ := r
  cases o <;> rfl
theorem fm_rows {p : Row → Bool} {g : Row → W} : ∀ rows : List Row, (rows.map Row.enc).filterMap (fun w => (decR w).bind fun r => if p r then some (g r) else none) = (rows.filter p).map g
  | [] => rfl
  | r :: rs => by
    rw [List.map_cons, List.filterMap_cons, dec_enc, fm_rows rs]
    cases e : p r with
    | true => rw [List.filter_cons_of_pos e]; simp [e]
    | false => rw [List.filter_cons_of_neg (by simp [e])]; simp [e]
/-- a comprehension over rows, some of them -/
theorem r_rows {c : Cs} {env : Env} {h : Hw} {elt tst : E} {i : Nat} {src : E} {w : W} {rows : List Row} {p : Row → Bool} {g : Row → W} (q : evE c src env h = .ok w h) (s : getS h w = some (rows.map Row.enc)) (hi : i < env.length)
    (ht : ∀ r ∈ rows, evE c tst ((env.set i none).set i (some r.enc)) h = .ok (.bl (p r)) h) (hf : ∀ r ∈ rows, p r = true → evE c elt ((env.set i none).set i (some r.enc)) h = .ok (g r) h) (hl : rows.length ≤ 1000) : evE c (.comp false elt (.nm i) .val [src] [tst] [i]) env h = .ok (.lst ((rows.filter p).map g)) h := by
  have z := r_compP (xs := rows.map Row.enc) (g := fun w => (decR w).bind fun r => if p r then some (g r) else none) (elt := elt) (tg := .nm i) (k := .val) (wp := [i]) (ifs := [tst]) (r_cons q r_nil) (turns_val s) (fun j _ => item_val s)
    (fun x hx => by
      obtain ⟨r, hr, rfl⟩ := List.mem_map.mp hx
      refine ⟨(env.set i none).set i (some r.enc), asg_nm (env := env.set i none) (by simpa using hi), p r, t_one1 (ht r hr), fun e => ?_, fun e => ⟨g r, hf r hr e, ?_⟩⟩
      · simp [dec_enc, e]
      · simp [dec_enc, e]) (by
      rw [fm_rows, List.length_map]
      have := List.length_filter_le p rows
      exact decide_eq_true (by omega))
  rw [fm_rows] at z
  exact z
end G
end
section
set_option Elab.async false
set_option linter.all false
set_option maxRecDepth 100000
namespace K54
open PySem G L2
/-! X54: what the defs of k54 do -/
abbrev Z : Pg := z.pg
theorem at_ (i : Nat) : Z.fns[i]? = fns[i]? := by show z.pg.fns[i]? = _; rw [pg_ok]
theorem n0 : Z.fns[0]? = some (fTupled 0) := by rw [at_]; rfl
theorem n1 : Z.fns[1]? = some f1 := by rw [at_]; rfl
theorem n2 : Z.fns[2]? = some f2 := by rw [at_]; rfl
theorem n3 : Z.fns[3]? = some f3 := by rw [at_]; rfl
theorem n4 : Z.fns[4]? = some fBox := by rw [at_]; rfl
theorem n5 : Z.fns[5]? = some fTake := by rw [at_]; rfl
theorem n6 : Z.fns[6]? = some fCells := by rw [at_]; rfl
theorem n7 : Z.fns[7]? = some (fOf 5) := by rw [at_]; rfl
theorem n8 : Z.fns[8]? = some (fLists 8) := by rw [at_]; rfl
theorem n9 : Z.fns[9]? = some (fSame 9) := by rw [at_]; rfl
def letters : List Str := ["a", "b", "c", "d", "e", "f", "g", "ab", "ba", "h", "m", "z"]
theorem n10 : Z.fns[10]? = some (fGrown 5 7 letters) := by rw [at_]; rfl
theorem n11 : Z.fns[11]? = some f11 := by rw [at_]; rfl
theorem n12 : Z.fns[12]? = some f12 := by rw [at_]; rfl
theorem n13 : Z.fns[13]? = some f13 := by rw [at_]; rfl
theorem n14 : Z.fns[14]? = some (fLaw 6 4 13 2 5) := by rw [at_]; rfl
abbrev tr (rows : List Row) : W := .tup (rows.map Row.enc)
/-- data -/
theorem dat_enc (r : Row) : dat r.enc = true := by
  obtain ⟨n, o, b⟩ := r
  cases o <;> rfl
theorem dats_enc : ∀ rows : List Row, dats (rows.map Row.enc) = true
  | [] => rfl
  | r :: rs => by
    show (dat r.enc && dats (rs.map Row.enc)) = true
    rw [dat_enc, dats_enc rs]; rfl
theorem dep_enc (r : Row) : dep r.enc = 2 := by
  obtain ⟨n, o, b⟩ := r
  cases o <;> rfl
theorem deps_enc : ∀ rows : List Row, deps (rows.map Row.enc) ≤ 2
  | [] => by show 0 ≤ 2; decide
  | r :: rs => by
    show max (dep r.enc) (deps (rs.map Row.enc)) ≤ 2
    rw [dep_enc]
    have := deps_enc rs
    omega
theorem dat_tr {rows : List Row} (hl : rows.length ≤ 1000) : dat (tr rows) = true := by
  show (dats (rows.map Row.enc) && sz (rows.map Row.enc).length) = true
  rw [dats_enc, List.length_map]
  exact decide_eq_true (by omega)
theorem dep_tr (rows : List Row) : dep (tr rows) ≤ 3 := by
  show deps (rows.map Row.enc) + 1 ≤ 3
  have := deps_enc rows
  omega
theorem tup_enc (r : Row) : tupOf r.enc = r.enc := by
  obtain ⟨n, o, b⟩ := r
  cases o <;> rfl
theorem tups_enc : ∀ rows : List Row, tupsOf (rows.map Row.enc) = rows.map Row.enc
  | [] => rfl
  | r :: rs => by
    show tupOf r.enc :: tupsOf (rs.map Row.enc) = _
    rw [tup_enc, tups_enc rs]; rfl
theorem tup_lists (r : Row) : tupOf (listOf r.enc) = r.enc := by
  obtain ⟨n, o, b⟩ := r
  cases o <;> rfl
theorem tups_lists : ∀ rows : List Row, tupsOf (listsOf (rows.map Row.enc)) = rows.map Row.enc
  | [] => rfl
  | r :: rs => by
    show tupOf (listOf r.enc) :: tupsOf (listsOf (rs.map Row.enc)) = _
    rw [tup_lists, tups_lists rs]; rfl
/-- the same row as a list -/
theorem lists_dat (r : Row) : dat (listOf r.enc) = true := by
  obtain ⟨n, o, b⟩ := r
  cases o <;> rfl
theorem lists_dats : ∀ rows : List Row, dats (listsOf (rows.map Row.enc)) = true
  | [] => rfl
  | r :: rs => by
    show (dat (listOf r.enc) && dats (listsOf (rs.map Row.enc))) = true
    rw [lists_dat, lists_dats rs]; rfl
theorem lists_dep (r : Row) : dep (listOf r.enc) = 2 := by
  obtain ⟨n, o, b⟩ := r
  cases o <;> rfl
theorem lists_deps : ∀ rows : List Row, deps (listsOf (rows.map Row.enc)) ≤ 2
  | [] => by show 0 ≤ 2; decide
  | r :: rs => by
    show max (dep (listOf r.enc)) (deps (listsOf (rs.map Row.enc))) ≤ 2
    rw [lists_dep]
    have := lists_deps rs
    omega
/-- the two forms of a tree that are handed in -/
def TrIn (rows : List Row) (w : W) : Prop := w = tr rows ∨ w = listOf (tr rows)
theorem tupled_tr {n : Nat} {rows : List Row} {w : W} {h : Hw} (hl : rows.length ≤ 1000) (t : TrIn rows w) : callW Z (n + 3) 0 [w] h = .ok (tr rows) h := by
  rcases t with rfl | rfl
  · rw [tupled_spec n0 (n + 3) _ h (dat_tr hl) (by have := dep_tr rows; omega)]
    show Out.ok (W.tup (tupsOf (rows.map Row.enc))) h = _
    rw [tups_enc]
  · have e : listOf (tr rows) = .lst (listsOf (rows.map Row.enc)) := rfl
    rw [e, tupled_spec n0 (n + 3) _ h ?_ ?_]
    · show Out.ok (W.tup (tupsOf (listsOf (rows.map Row.enc)))) h = _
      rw [tups_lists]
    · show (dats (listsOf (rows.map Row.enc)) && sz (listsOf (rows.map Row.enc)).length) = true
      rw [lists_dats, listsOf_map, List.length_map, List.length_map]
      exact decide_eq_true (by omega)
    · show deps (listsOf (rows.map Row.enc)) + 1 ≤ n + 3
      have := lists_deps rows
      omega
theorem foldl_take {α β : Type} (f : β → α → β) (b : β) (xs : List α) (i : Nat) (x : α) (h : xs[i]? = some x) : (xs.take (i + 1)).foldl f b = f ((xs.take i).foldl f b) x := by
  rw [List.take_add_one, h, List.foldl_append]; rfl
theorem lowS_t {f : Str} {acc : List Str} {r : Row} (h : (decide (r.nm = f) || up acc r.par) = true) : lowS f acc r = acc ++ [r.nm] := by
  have hbq : (r.nm == f) = decide (r.nm = f) := by by_cases c : r.nm = f <;> simp [c]
  unfold lowS
  rw [hbq, h]; rfl
theorem lowS_f {f : Str} {acc : List Str} {r : Row} (h : (decide (r.nm = f) || up acc r.par) = false) : lowS f acc r = acc := by
  have hbq : (r.nm == f) = decide (r.nm = f) := by by_cases c : r.nm = f <;> simp [c]
  unfold lowS
  rw [hbq, h]; rfl
theorem part_spec {n : Nat} {rows : List Row} {f : Str} {h : Hw} (hl : rows.length ≤ 1000) : callW Z (n + 1) 1 [tr rows, .str f] h = .ok (.ref h.length) (h ++ [.lst ((lowF f rows).map .str)]) := by
  obtain ⟨env2, h2, e2, ⟨⟨a, b, d, henv⟩, hh⟩⟩ := s_for1 (c := ⟨Z.ex, callW Z n, Z.mth, Z.ini⟩) (nm := Z.nm) (n := n) (env := [some (tr rows), some (.str f), some (.ref h.length), none, none, none]) (srcs := [.var 0]) (tg := .tp [(.nm 3), (.nm 4), (.nm 5)]) (k := .val)
    (body := [.ite (.or (.cmp .eq (.var 3) (.var 1)) (.cmp .inn (.var 4) (.var 2))) [.expr (.bm .append (.var 2) [(.var 3)])] []]) (h := h ++ [.lst []]) (xs := rows.map Row.enc)
    (fun i env h' => (∃ a b d, env = [some (tr rows), some (.str f), some (.ref h.length), a, b, d]) ∧ h' = h ++ [.lst (((rows.take i).foldl (lowS f) []).map .str)]) (r_cons (r_var rfl) r_nil) ⟨⟨_, _, _, rfl⟩, rfl⟩ (turns_val rfl) (fun i env h' _ _ => item_val rfl)
    (fun i env h' x ⟨⟨a, b, d, henv⟩, hh⟩ hx => by
      subst henv hh
      rw [List.getElem?_map] at hx
      obtain ⟨r, hr, hxr⟩ := Option.map_eq_some_iff.mp hx
      subst hxr
      have hlr : rows.length ≤ 1000 := hl
      have hrl : ((rows.take i).foldl (lowS f) []).length ≤ 1000 := by
        have : ∀ (l : List Row) (acc : List Str), (l.foldl (lowS f) acc).length ≤ acc.length + l.length := by
          intro l
          induction l with
          | nil => intro acc; simp
          | cons a l ih =>
            intro acc
            rw [List.foldl_cons]
            have h1 := ih (lowS f acc a)
            have h2 : (lowS f acc a).length ≤ acc.length + 1 := by unfold lowS; split <;> simp
            simp only [List.length_cons]
            omega
        have h1 := this (rows.take i) []
        have h2 : (rows.take i).length ≤ rows.length := by rw [List.length_take]; omega
        simp only [List.length_nil] at h1
        omega
      have hL : (h ++ [O.lst (((rows.take i).foldl (lowS f) []).map W.str)])[h.length]? = some (.lst (((rows.take i).foldl (lowS f) []).map .str)) := List.getElem?_concat_length
      rw [foldl_take _ _ _ _ _ hr]
      have tst : evE ⟨Z.ex, callW Z n, Z.mth, Z.ini⟩ (.or (.cmp .eq (.var 3) (.var 1)) (.cmp .inn (.var 4) (.var 2))) [some (tr rows), some (.str f), some (.ref h.length), some (.str r.nm), some (encO r.par), some (.bl r.lk)] (h ++ [O.lst (((rows.take i).foldl (lowS f) []).map W.str)]) = .ok (.bl (decide (r.nm = f) || up ((rows.take i).foldl (lowS f) []) r.par)) (h ++ [O.lst (((rows.take i).foldl (lowS f) []).map W.str)]) :=
        r_or (r_cmp (r_var rfl) (r_var rfl) c_eqs) fun _ => r_cmp (r_var rfl) (r_var rfl) (in_par (box_S hL) (fun z e => by cases e))
      cases ht : (decide (r.nm = f) || up ((rows.take i).foldl (lowS f) []) r.par) with
      | true =>
        have e := lowS_t ht
        rw [ht] at tst
        refine ⟨[some (tr rows), some (.str f), some (.ref h.length), some (.str r.nm), some (encO r.par), some (.bl r.lk)], _, rfl, _, .inl (b_cons ((s_iteT tst).trans (b_cons (s_expr1 (r_bm (r_var rfl) (ty_lst hL (.inl rfl)) (r_cons (r_var rfl) r_nil) (mth_app hL (by rw [List.length_map]; omega)))) b_nil)) b_nil), ⟨_, _, _, rfl⟩, ?_⟩
        rw [e, List.map_append]
        simp
      | false =>
        have e := lowS_f ht
        rw [ht] at tst
        refine ⟨[some (tr rows), some (.str f), some (.ref h.length), some (.str r.nm), some (encO r.par), some (.bl r.lk)], _, rfl, _, .inl (b_cons ((s_iteF tst).trans b_nil) b_nil), ⟨_, _, _, rfl⟩, ?_⟩
        rw [e])
  subst henv
  rw [List.length_map, List.take_length] at hh
  apply call_ret n1 rfl
  have e1 : evE ⟨Z.ex, callW Z n, Z.mth, Z.ini⟩ (.lst true []) [some (tr rows), some (.str f), none, none, none, none] h = .ok (.ref h.length) (h ++ [.lst []]) := r_lstT r_nil rfl
  refine b_cons (s_set1 e1 (by show 2 < 6; decide)) (b_cons e2 (b_ret (s_ret1 (r_var rfl)))) |>.trans ?_
  rw [hh]; rfl
end K54
end
section
set_option Elab.async false
set_option linter.all false
set_option maxRecDepth 100000
namespace K54
open PySem G L2
theorem look_spec {n : Nat} {r0 : Row} {rs : List Row} {f : Str} {h : Hw} : callW Z (n + 1) 2 [tr (r0 :: rs), .str f] h = if decide (r0.nm = f) then .exc 1 [] h else .ok .non h := by
  have tst : evE ⟨Z.ex, callW Z n, Z.mth, Z.ini⟩ (.cmp .eq (.idx (.idx (.var 0) (.cst (.int (0)))) (.cst (.int (0)))) (.var 1)) [some (tr (r0 :: rs)), some (.str f)] h = .ok (.bl (decide (r0.nm = f))) h :=
    r_cmp (r_idx (r_idx (r_var rfl) r_cst (idx_at (xs := (r0 :: rs).map Row.enc) (v := r0.enc) rfl (by decide) (by decide) rfl)) r_cst idx0) (r_var rfl) c_eqs
  cases c : decide (r0.nm = f) with
  | true =>
    rw [c] at tst
    rw [if_pos rfl]
    exact call_exc n2 rfl (b_exc ((s_iteT tst).trans (b_exc (s_raise1' r_nil rfl))))
  | false =>
    rw [c] at tst
    rw [if_neg Bool.false_ne_true]
    exact call_nx n2 rfl (b_cons ((s_iteF tst).trans b_nil) b_nil)
theorem filt_len {rows : List Row} (p : Row → Bool) (hl : rows.length ≤ 1000) : (rows.filter p).length ≤ 1000 := by
  have := List.length_filter_le p rows
  omega
theorem map_enc_id (rows : List Row) : rows.map (fun r => r.enc) = rows.map Row.enc := rfl
/-- the values of moved -/
theorem moved_spec {n : Nat} {r0 : Row} {rs : List Row} {f p : Str} {w : W} {h : Hw} (hl : (r0 :: rs).length ≤ 1000) (t : TrIn (r0 :: rs) w) : callW Z (n + 4) 3 [w, .str f, .str p] h =
    if decide (r0.nm = f) then .exc 1 [] h else if (lowF f (r0 :: rs)).contains p then .exc 3 [("folder", .str f), ("parent", .str p)] (h ++ [.lst ((lowF f (r0 :: rs)).map .str)])
    else .ok (tr (restF (lowF f (r0 :: rs)) (r0 :: rs) ++ takenF f p (someF (lowF f (r0 :: rs)) (r0 :: rs)))) (h ++ [.lst ((lowF f (r0 :: rs)).map .str)]) := by
  have e1 : exS ⟨Z.ex, callW Z (n + 3), Z.mth, Z.ini⟩ Z.nm (n + 3) (.set 3 (.call 0 [(.var 0)] [])) [some w, some (.str f), some (.str p), none, none, none, none, none] h = .ok .nx [some w, some (.str f), some (.str p), some (tr (r0 :: rs)), none, none, none, none] h :=
    s_set1 (r_call (r_cons (r_var rfl) r_nil) (tupled_tr hl t)) (by show 3 < 8; decide)
  have e2 : evE ⟨Z.ex, callW Z (n + 3), Z.mth, Z.ini⟩ (.call 2 [(.var 3), (.var 1)] []) [some w, some (.str f), some (.str p), some (tr (r0 :: rs)), none, none, none, none] h = if decide (r0.nm = f) then .exc 1 [] h else .ok .non h :=
    r_call (r_cons (r_var rfl) (r_cons (r_var rfl) r_nil)) look_spec
  cases c : decide (r0.nm = f) with
  | true =>
    rw [c, if_pos rfl] at e2
    rw [if_pos rfl]
    exact call_exc n3 rfl (b_cons e1 (b_exc (s_exprX e2)))
  | false =>
    rw [c, if_neg Bool.false_ne_true] at e2
    rw [if_neg Bool.false_ne_true]
    have e3 : exS ⟨Z.ex, callW Z (n + 3), Z.mth, Z.ini⟩ Z.nm (n + 3) (.set 4 (.call 1 [(.var 3), (.var 1)] [])) [some w, some (.str f), some (.str p), some (tr (r0 :: rs)), none, none, none, none] h = .ok .nx [some w, some (.str f), some (.str p), some (tr (r0 :: rs)), some (.ref h.length), none, none, none] (h ++ [.lst ((lowF f (r0 :: rs)).map .str)]) :=
      s_set1 (r_call (r_cons (r_var rfl) (r_cons (r_var rfl) r_nil)) (part_spec hl)) (by show 4 < 8; decide)
    have hL : (h ++ [O.lst ((lowF f (r0 :: rs)).map W.str)])[h.length]? = some (.lst ((lowF f (r0 :: rs)).map .str)) := List.getElem?_concat_length
    have gL := box_S hL
    have ns : ∀ z, W.ref h.length ≠ .str z := fun z e => by cases e
    have tst : evE ⟨Z.ex, callW Z (n + 3), Z.mth, Z.ini⟩ (.cmp .inn (.var 2) (.var 4)) [some w, some (.str f), some (.str p), some (tr (r0 :: rs)), some (.ref h.length), none, none, none] (h ++ [.lst ((lowF f (r0 :: rs)).map .str)]) = .ok (.bl ((lowF f (r0 :: rs)).contains p)) (h ++ [.lst ((lowF f (r0 :: rs)).map .str)]) :=
      r_cmp (r_var rfl) (r_var rfl) (in_nm gL ns)
    cases c2 : (lowF f (r0 :: rs)).contains p with
    | true =>
      rw [c2] at tst
      rw [if_pos rfl]
      exact call_exc n3 rfl (b_cons e1 (b_cons (s_expr1 e2) (b_cons e3 (b_exc ((s_iteT tst).trans (b_exc (s_raise1' (r_cons (r_var rfl) (r_cons (r_var rfl) r_nil)) rfl)))))))
    | false =>
      rw [c2] at tst
      rw [if_neg Bool.false_ne_true]
      apply call_ret n3 rfl
      refine b_cons e1 (b_cons (s_expr1 e2) (b_cons e3 (b_cons ((s_iteF tst).trans b_nil) ?_)))
      refine b_cons (s_set1 (r_rows (rows := r0 :: rs) (p := fun r => !(lowF f (r0 :: rs)).contains r.nm) (g := Row.enc) (r_var rfl) rfl (by show 7 < 8; decide) (fun r _ => r_cmp (r_idx (r_var rfl) r_cst idx0) (r_var rfl) (nin_nm gL ns)) (fun r _ _ => r_var rfl) hl) (by show 5 < 8; decide)) ?_
      refine b_cons (s_set1 (r_rows (rows := r0 :: rs) (p := fun r => (lowF f (r0 :: rs)).contains r.nm) (g := fun r => Row.enc ⟨r.nm, if r.nm == f then some p else r.par, r.lk⟩) (r_var rfl) rfl (by show 7 < 8; decide) (fun r _ => r_cmp (r_idx (r_var rfl) r_cst idx0) (r_var rfl) (in_nm gL ns)) (fun r _ _ => ?_) hl) (by show 6 < 8; decide)) ?_
      · have hbq : (r.nm == f) = decide (r.nm = f) := by by_cases c : r.nm = f <;> simp [c]
        refine r_tup (r_cons (r_idx (r_var rfl) r_cst idx0) (r_cons (r_ite (r_cmp (r_idx (r_var rfl) r_cst idx0) (r_var rfl) c_eqs) ?_) (r_cons (r_idx (r_var rfl) r_cst idx2) r_nil))) rfl
        rw [hbq]
        cases decide (r.nm = f) with
        | true => exact r_var rfl
        | false => exact r_idx (r_var rfl) r_cst idx1
      · have ef : takenF f p (someF (lowF f (r0 :: rs)) (r0 :: rs)) = ((r0 :: rs).filter fun r => (lowF f (r0 :: rs)).contains r.nm).map fun r => ⟨r.nm, if r.nm == f then some p else r.par, r.lk⟩ := rfl
        have s1 : ((r0 :: rs).filter fun r => !(lowF f (r0 :: rs)).contains r.nm).length ≤ 1000 := filt_len _ hl
        have s2 : ((r0 :: rs).filter fun r => (lowF f (r0 :: rs)).contains r.nm).length ≤ 1000 := filt_len _ hl
        apply b_ret
        refine s_ret1 (r_prim (h1 := h ++ [.lst ((lowF f (r0 :: rs)).map .str)]) (ws := [.lst ((restF (lowF f (r0 :: rs)) (r0 :: rs) ++ takenF f p (someF (lowF f (r0 :: rs)) (r0 :: rs))).map Row.enc)]) (r_cons (r_bin (x := .lst (((r0 :: rs).filter fun r => !(lowF f (r0 :: rs)).contains r.nm).map Row.enc)) (y := .lst (((r0 :: rs).filter fun r => (lowF f (r0 :: rs)).contains r.nm).map fun r => Row.enc ⟨r.nm, if r.nm == f then some p else r.par, r.lk⟩)) (r_var rfl) (r_var rfl) ?_) r_nil) ?_)
        · show mkL false (_ ++ _) _ = _
          unfold mkL
          have : sz ((((r0 :: rs).filter fun r => !(lowF f (r0 :: rs)).contains r.nm).map Row.enc) ++ (((r0 :: rs).filter fun r => (lowF f (r0 :: rs)).contains r.nm).map fun r => Row.enc ⟨r.nm, if r.nm == f then some p else r.par, r.lk⟩)).length = true := decide_eq_true (by simp only [List.length_append, List.length_map]; omega)
          rw [this, ef, List.map_append, List.map_map]
          rfl
        · unfold primW pTuple
          simp only [getS, getL]
          unfold mkT
          have : sz ((restF (lowF f (r0 :: rs)) (r0 :: rs) ++ takenF f p (someF (lowF f (r0 :: rs)) (r0 :: rs))).map Row.enc).length = true := decide_eq_true (by
            rw [ef]
            simp only [restF, List.length_append, List.length_map]
            omega)
          rw [this]; rfl
end K54
end
section
set_option Elab.async false
set_option linter.all false
set_option maxRecDepth 100000
namespace K54
open PySem G L2
theorem low_len {f : Str} (rows : List Row) : (lowF f rows).length ≤ rows.length := by
  have : ∀ (l : List Row) (acc : List Str), (l.foldl (lowS f) acc).length ≤ acc.length + l.length := by
    intro l
    induction l with
    | nil => intro acc; simp
    | cons a l ih =>
      intro acc
      rw [List.foldl_cons]
      have h1 := ih (lowS f acc a)
      have h2 : (lowS f acc a).length ≤ acc.length + 1 := by unfold lowS; split <;> simp
      simp only [List.length_cons]
      omega
  have h1 := this rows []
  simpa [lowF] using h1
theorem cut_from1 {α : Type} (x : α) (xs : List α) : cutW (x :: xs) (some 1) none = xs := by
  unfold cutW
  have e1 : HT.sIx (x :: xs).length 0 (some 1) = 1 := by
    have := HT.sIx_nat (x :: xs).length 0 1
    rw [show ((1 : Nat) : Int) = 1 from rfl] at this
    rw [this]
    simp
  rw [e1, HT.sIx_none]
  simp
theorem lawMoved_spec {n : Nat} {rows : List Row} {f p : Str} {h : Hw} {r0 : Row} {rs : List Row} (hl : rows.length ≤ 500) (hs : someF (lowF f rows) rows = r0 :: rs) :
    callW Z (n + 1) 12 [tr rows, .str f, .str p] h = .ok (.tup [.ref h.length, tr (restF (lowF f rows) rows ++ (⟨f, some p, r0.lk⟩ :: rs))]) (h ++ [.lst ((lowF f rows).map .str)]) := by
  obtain ⟨env2, h2, e2, ⟨⟨a, henv⟩, hh⟩⟩ := s_for1 (c := ⟨Z.ex, callW Z n, Z.mth, Z.ini⟩) (nm := Z.nm) (n := n) (env := [some (tr rows), some (.str f), some (.str p), some (.ref h.length), none, none, none]) (srcs := [.var 0]) (tg := .nm 4) (k := .val)
    (body := [.ite (.or (.cmp .eq (.idx (.var 4) (.cst (.int (0)))) (.var 1)) (.cmp .inn (.idx (.var 4) (.cst (.int (1)))) (.var 3))) [.expr (.bm .append (.var 3) [(.idx (.var 4) (.cst (.int (0))))])] []]) (h := h ++ [.lst []]) (xs := rows.map Row.enc)
    (fun i env h' => (∃ a, env = [some (tr rows), some (.str f), some (.str p), some (.ref h.length), a, none, none]) ∧ h' = h ++ [.lst (((rows.take i).foldl (lowS f) []).map .str)]) (r_cons (r_var rfl) r_nil) ⟨⟨_, rfl⟩, rfl⟩ (turns_val rfl) (fun i env h' _ _ => item_val rfl)
    (fun i env h' x ⟨⟨a, henv⟩, hh⟩ hx => by
      subst henv hh
      rw [List.getElem?_map] at hx
      obtain ⟨r, hr, hxr⟩ := Option.map_eq_some_iff.mp hx
      subst hxr
      have hrl : ((rows.take i).foldl (lowS f) []).length ≤ 1000 := by
        have h1 := low_len (f := f) (rows.take i)
        have h2 : (rows.take i).length ≤ rows.length := by rw [List.length_take]; omega
        have h3 : (lowF f (rows.take i)).length = ((rows.take i).foldl (lowS f) []).length := rfl
        omega
      have hL : (h ++ [O.lst (((rows.take i).foldl (lowS f) []).map W.str)])[h.length]? = some (.lst (((rows.take i).foldl (lowS f) []).map .str)) := List.getElem?_concat_length
      rw [foldl_take _ _ _ _ _ hr]
      have tst : evE ⟨Z.ex, callW Z n, Z.mth, Z.ini⟩ (.or (.cmp .eq (.idx (.var 4) (.cst (.int (0)))) (.var 1)) (.cmp .inn (.idx (.var 4) (.cst (.int (1)))) (.var 3))) [some (tr rows), some (.str f), some (.str p), some (.ref h.length), some r.enc, none, none] (h ++ [O.lst (((rows.take i).foldl (lowS f) []).map W.str)]) = .ok (.bl (decide (r.nm = f) || up ((rows.take i).foldl (lowS f) []) r.par)) (h ++ [O.lst (((rows.take i).foldl (lowS f) []).map W.str)]) :=
        r_or (r_cmp (r_idx (r_var rfl) r_cst idx0) (r_var rfl) c_eqs) fun _ => r_cmp (r_idx (r_var rfl) r_cst idx1) (r_var rfl) (in_par (box_S hL) (fun z e => by cases e))
      cases ht : (decide (r.nm = f) || up ((rows.take i).foldl (lowS f) []) r.par) with
      | true =>
        have e := lowS_t ht
        rw [ht] at tst
        refine ⟨[some (tr rows), some (.str f), some (.str p), some (.ref h.length), some r.enc, none, none], _, rfl, _, .inl (b_cons ((s_iteT tst).trans (b_cons (s_expr1 (r_bm (r_var rfl) (ty_lst hL (.inl rfl)) (r_cons (r_idx (r_var rfl) r_cst idx0) r_nil) (mth_app hL (by rw [List.length_map]; omega)))) b_nil)) b_nil), ⟨_, rfl⟩, ?_⟩
        rw [e, List.map_append]
        simp
      | false =>
        have e := lowS_f ht
        rw [ht] at tst
        refine ⟨[some (tr rows), some (.str f), some (.str p), some (.ref h.length), some r.enc, none, none], _, rfl, _, .inl (b_cons ((s_iteF tst).trans b_nil) b_nil), ⟨_, rfl⟩, ?_⟩
        rw [e])
  subst henv
  rw [List.length_map, List.take_length] at hh
  replace hh : h2 = h ++ [.lst ((lowF f rows).map .str)] := hh
  subst hh
  have hL : (h ++ [O.lst ((lowF f rows).map W.str)])[h.length]? = some (.lst ((lowF f rows).map .str)) := List.getElem?_concat_length
  have gL := box_S hL
  have ns : ∀ z, W.ref h.length ≠ .str z := fun z e => by cases e
  apply call_ret n12 rfl
  have e1 : evE ⟨Z.ex, callW Z n, Z.mth, Z.ini⟩ (.lst true []) [some (tr rows), some (.str f), some (.str p), none, none, none, none] h = .ok (.ref h.length) (h ++ [.lst []]) := r_lstT r_nil rfl
  have hl' : rows.length ≤ 1000 := by omega
  refine b_cons (s_set1 e1 (by show 3 < 7; decide)) (b_cons e2 ?_)
  refine b_cons (s_set1 (r_rows (rows := rows) (p := fun r => !(lowF f rows).contains r.nm) (g := Row.enc) (r_var rfl) rfl (by show 4 < 7; decide) (fun r _ => r_cmp (r_idx (r_var rfl) r_cst idx0) (r_var rfl) (nin_nm gL ns)) (fun r _ _ => r_var rfl) hl') (by show 5 < 7; decide)) ?_
  refine b_cons (s_set1 (r_rows (rows := rows) (p := fun r => (lowF f rows).contains r.nm) (g := Row.enc) (r_var rfl) rfl (by show 4 < 7; decide) (fun r _ => r_cmp (r_idx (r_var rfl) r_cst idx0) (r_var rfl) (in_nm gL ns)) (fun r _ _ => r_var rfl) hl') (by show 6 < 7; decide)) ?_
  have hsome : (rows.filter fun r => (lowF f rows).contains r.nm) = r0 :: rs := hs
  rw [hsome]
  have s1 : (rows.filter fun r => !(lowF f rows).contains r.nm).length ≤ 1000 := filt_len _ hl'
  have s2 : (r0 :: rs).length ≤ 1000 := by rw [← hsome]; exact filt_len _ hl'
  have s3 : rs.length ≤ 1000 := by simp at s2; omega
  apply b_ret
  have b1 : binW false .add (.lst ((restF (lowF f rows) rows).map Row.enc)) (.lst [(Row.mk f (some p) r0.lk).enc]) (h ++ [.lst ((lowF f rows).map .str)]) = .ok (.lst ((restF (lowF f rows) rows ++ [Row.mk f (some p) r0.lk]).map Row.enc)) (h ++ [.lst ((lowF f rows).map .str)]) := by
    show mkL false (_ ++ _) _ = _
    unfold mkL
    have z : sz ((restF (lowF f rows) rows).map Row.enc ++ [(Row.mk f (some p) r0.lk).enc]).length = true := decide_eq_true (by
      simp only [restF, List.length_append, List.length_map, List.length_cons, List.length_nil]; omega)
    rw [z, List.map_append]; rfl
  have b0 : slcW false (.lst ((r0 :: rs).map Row.enc)) (some 1) none (h ++ [.lst ((lowF f rows).map .str)]) = .ok (.lst (rs.map Row.enc)) (h ++ [.lst ((lowF f rows).map .str)]) := by
    show mkL false (cutW (r0.enc :: rs.map Row.enc) (some 1) none) _ = _
    rw [cut_from1]
    unfold mkL
    have z : sz (rs.map Row.enc).length = true := decide_eq_true (by rw [List.length_map]; omega)
    rw [z]; rfl
  have b2 : binW false .add (.lst ((restF (lowF f rows) rows ++ [Row.mk f (some p) r0.lk]).map Row.enc)) (.lst (rs.map Row.enc)) (h ++ [.lst ((lowF f rows).map .str)]) = .ok (.lst ((restF (lowF f rows) rows ++ (Row.mk f (some p) r0.lk :: rs)).map Row.enc)) (h ++ [.lst ((lowF f rows).map .str)]) := by
    show mkL false (_ ++ _) _ = _
    unfold mkL
    have z : sz (((restF (lowF f rows) rows ++ [Row.mk f (some p) r0.lk]).map Row.enc) ++ rs.map Row.enc).length = true := decide_eq_true (by
      simp only [restF, List.length_append, List.length_map, List.length_cons, List.length_nil]; omega)
    rw [z, ← List.map_append]
    simp only [List.append_assoc, List.cons_append, List.nil_append]
    rfl
  have b3 : primW .tuple [.lst ((restF (lowF f rows) rows ++ (Row.mk f (some p) r0.lk :: rs)).map Row.enc)] (h ++ [.lst ((lowF f rows).map .str)]) = .ok (tr (restF (lowF f rows) rows ++ (Row.mk f (some p) r0.lk :: rs))) (h ++ [.lst ((lowF f rows).map .str)]) := by
    unfold primW pTuple
    simp only [getS, getL]
    unfold mkT
    have z : sz ((restF (lowF f rows) rows ++ (Row.mk f (some p) r0.lk :: rs)).map Row.enc).length = true := decide_eq_true (by
      simp only [restF, List.length_append, List.length_map, List.length_cons]; omega)
    rw [z]; rfl
  have ix0 : idxW (.lst ((r0 :: rs).map Row.enc)) (.int 0) (h ++ [.lst ((lowF f rows).map .str)]) = some r0.enc := idx_at (xs := (r0 :: rs).map Row.enc) (v := r0.enc) rfl (by decide) (by decide) rfl
  have ee : ∀ env : G.Env, env[1]? = some (some (.str f)) → env[2]? = some (some (.str p)) → env[3]? = some (some (.ref h.length)) → env[5]? = some (some (.lst ((restF (lowF f rows) rows).map Row.enc))) → env[6]? = some (some (.lst ((r0 :: rs).map Row.enc))) →
      evE ⟨Z.ex, callW Z n, Z.mth, Z.ini⟩ (.tup [(.var 3), (.prim .tuple [(.bin false .add (.bin false .add (.var 5) (.lst false [(.tup [(.var 1), (.var 2), (.idx (.idx (.var 6) (.cst (.int (0)))) (.cst (.int (2))))])])) (.slc false (.var 6) [(.cst (.int (1)))] []))])]) env (h ++ [.lst ((lowF f rows).map .str)]) = .ok (.tup [.ref h.length, tr (restF (lowF f rows) rows ++ (Row.mk f (some p) r0.lk :: rs))]) (h ++ [.lst ((lowF f rows).map .str)]) := by
    intro env q1 q2 q3 q5 q6
    have a1 := r_bin (c := ⟨Z.ex, callW Z n, Z.mth, Z.ini⟩) (r_var q5) (r_lstF (r_cons (r_tup (r_cons (r_var q1) (r_cons (r_var q2) (r_cons (r_idx (r_idx (r_var q6) r_cst ix0) r_cst idx2) r_nil))) rfl) r_nil) rfl) b1
    have a2 := r_slc (c := ⟨Z.ex, callW Z n, Z.mth, Z.ini⟩) (r_var q6) (r_cons (r_cst (x := .int 1)) r_nil) rfl r_nil rfl b0
    have a3 := r_prim (r_cons (r_bin a1 a2 b2) r_nil) b3
    exact r_tup (r_cons (r_var q3) (r_cons a3 r_nil)) rfl
  exact s_ret1 (ee _ rfl rfl rfl rfl rfl)
end K54
end
section
set_option Elab.async false
set_option linter.all false
set_option maxRecDepth 100000
namespace K54
open PySem G L2
/-- what a refusal is read as -/
def whyW (q : Str) (f p : Str) (rows : List Row) : W := if decide (q = f) then .str "root" else if (lowF f rows).contains p then .tup [.str f, .str p] else .non
theorem refused_spec {n : Nat} {r0 : Row} {rs : List Row} {f p : Str} {h : Hw} (hl : (r0 :: rs).length ≤ 1000) : ∃ l, callW Z (n + 5) 11 [tr (r0 :: rs), .str f, .str p] h = .ok (whyW r0.nm f p (r0 :: rs)) (h ++ l) := by
  have e0 : exS ⟨Z.ex, callW Z (n + 4), Z.mth, Z.ini⟩ Z.nm (n + 4) (.set 3 (.cst .non)) [some (tr (r0 :: rs)), some (.str f), some (.str p), none, none] h = .ok .nx [some (tr (r0 :: rs)), some (.str f), some (.str p), some .non, none] h := s_set1 r_cst (by show 3 < 5; decide)
  have e1 : evE ⟨Z.ex, callW Z (n + 4), Z.mth, Z.ini⟩ (.call 3 [(.var 0), (.var 1), (.var 2)] []) [some (tr (r0 :: rs)), some (.str f), some (.str p), some .non, none] h = _ :=
    r_call (r_cons (r_var rfl) (r_cons (r_var rfl) (r_cons (r_var rfl) r_nil))) (moved_spec (f := f) (p := p) hl (.inl rfl))
  unfold whyW
  cases c1 : decide (r0.nm = f) with
  | true =>
    rw [c1, if_pos rfl] at e1
    rw [if_pos rfl]
    refine ⟨[], ?_⟩
    rw [List.append_nil]
    apply call_ret n11 rfl
    refine b_cons e0 (b_cons (env1 := [some (tr (r0 :: rs)), some (.str f), some (.str p), some (.exc 1 []), none]) (s_tryX (b_exc (s_exprX e1)) rfl rfl) (b_ret ((s_iteT (h1 := h) (r_isi (r_var rfl) rfl)).trans (b_ret (s_ret1 ?_)))))
    refine (r_ite (h1 := h) (p := true) ?_ ?_)
    · exact r_and (p := true) (q := !false) (r_isi (r_var rfl) rfl) fun _ => r_not (p := false) (r_isi (r_var rfl) rfl)
    · exact r_cst
  | false =>
    rw [c1, if_neg Bool.false_ne_true] at e1
    rw [if_neg Bool.false_ne_true]
    cases c2 : (lowF f (r0 :: rs)).contains p with
    | true =>
      rw [c2, if_pos rfl] at e1
      rw [if_pos rfl]
      refine ⟨[.lst ((lowF f (r0 :: rs)).map .str)], ?_⟩
      apply call_ret n11 rfl
      refine b_cons e0 (b_cons (env1 := [some (tr (r0 :: rs)), some (.str f), some (.str p), some (.exc 3 [("folder", .str f), ("parent", .str p)]), none]) (s_tryX (b_exc (s_exprX e1)) rfl rfl) (b_cons ((s_iteF (h1 := h ++ [.lst ((lowF f (r0 :: rs)).map .str)]) (r_isi (r_var rfl) rfl)).trans b_nil) (b_ret ((s_iteT (h1 := h ++ [.lst ((lowF f (r0 :: rs)).map .str)]) (r_isi (r_var rfl) rfl)).trans (b_ret (s_ret1 ?_))))))
      refine (r_ite (h1 := h ++ [.lst ((lowF f (r0 :: rs)).map .str)]) (p := true) ?_ ?_)
      · exact r_isi (r_var rfl) rfl
      · exact r_tup (r_cons (r_fldX (r_var rfl) rfl rfl) (r_cons (r_fldX (r_var rfl) rfl rfl) r_nil)) rfl
    | false =>
      rw [c2, if_neg Bool.false_ne_true] at e1
      rw [if_neg Bool.false_ne_true]
      refine ⟨[.lst ((lowF f (r0 :: rs)).map .str)], ?_⟩
      apply call_ret n11 rfl
      refine b_cons e0 (b_cons (s_tryN (b_cons (s_expr1 e1) b_nil)) (b_cons ((s_iteF (h1 := h ++ [.lst ((lowF f (r0 :: rs)).map .str)]) (r_isi (r_var rfl) rfl)).trans b_nil) (b_cons ((s_iteF (h1 := h ++ [.lst ((lowF f (r0 :: rs)).map .str)]) (r_isi (r_var rfl) rfl)).trans b_nil) (b_ret (s_ret1 ?_)))))
      refine (r_ite (h1 := h ++ [.lst ((lowF f (r0 :: rs)).map .str)]) (p := true) ?_ ?_)
      · exact r_cmp (r_var rfl) r_cst c_isN
      · exact r_cst
end K54
end
section
set_option Elab.async false
set_option linter.all false
set_option maxRecDepth 100000
namespace K54
open PySem G L2
theorem names_comp {n : Nat} {rows : List Row} {h : Hw} {env : G.Env} (hl : rows.length ≤ 1000) (q : env[1]? = some (some (tr rows))) (hi : 8 < env.length) :
    evE ⟨Z.ex, callW Z n, Z.mth, Z.ini⟩ (.comp false (.idx (.var 8) (.cst (.int (0)))) (.nm 8) .val [(.var 1)] [] [8]) env h = .ok (.lst ((nms rows).map .str)) h := by
  have := r_mapP (c := ⟨Z.ex, callW Z n, Z.mth, Z.ini⟩) (env := env) (h := h) (elt := .idx (.var 8) (.cst (.int 0))) (i := 8) (src := .var 1) (w := tr rows) (xs := rows.map Row.enc) (f := fun w => .str ((decR w).elim "" Row.nm)) (r_var q) rfl hi (fun x hx => by
    obtain ⟨r, hr, rfl⟩ := List.mem_map.mp hx
    have e8 : ((env.set 8 none).set 8 (some r.enc))[8]? = some (some r.enc) := List.getElem?_set_self (by simpa using hi)
    rw [dec_enc]
    exact r_idx (r_var e8) r_cst idx0) (by rw [List.length_map]; exact decide_eq_true (by omega))
  rw [this]
  congr 2
  rw [List.map_map, nms, List.map_map]
  refine List.map_congr_left fun r _ => ?_
  simp [dec_enc]
abbrev inner : List S := [.unp (.tp [(.nm 4), (.nm 5)]) (.call 12 [(.var 1), (.var 2), (.var 3)] []), .set 6 (.ite (.cmp .eq (.var 2) (.idx (.idx (.var 1) (.cst (.int (0)))) (.cst (.int (0))))) (.cst (.str "root")) (.ite (.cmp .inn (.var 3) (.var 4)) (.tup [(.var 2), (.var 3)]) (.cst .non))), .ite (.not (.call 9 [(.call 11 [(.var 1), (.var 2), (.var 3)] []), (.var 6)] [])) [.ret (.cst (.bl false))] [], .ite (.cmp .isN (.var 6) (.cst .non)) [.set 7 (.lst false [(.call 3 [(.var 1), (.var 2), (.var 3)] []), (.call 3 [(.var 3), (.var 2), (.call 8 [(.var 1)] [])] [2, 1, 0])]), .ite (.not (.call 9 [(.var 7), (.lst false [(.var 5), (.var 5)])] [])) [.ret (.cst (.bl false))] []] []]
theorem dep_why {q f p : Str} {rows : List Row} : dat (whyW q f p rows) = true ∧ dep (whyW q f p rows) ≤ 2 := by
  unfold whyW
  split
  · exact ⟨rfl, by show 1 ≤ 2; decide⟩
  · split
    · exact ⟨rfl, Nat.le_refl 2⟩
    · exact ⟨rfl, by show 1 ≤ 2; decide⟩
theorem inner_ok {n : Nat} {k : W} {rows : List Row} {f p : Str} {h : Hw} {e4 e5 e6 e7 e8 : Option W} (t : TreeOk rows) (hl : rows.length ≤ 100) (hf : f ∈ nms rows) : ∃ e4' e5' e6' e7' e8' l, exB ⟨Z.ex, callW Z (n + 6), Z.mth, Z.ini⟩ Z.nm (n + 6) inner [some k, some (tr rows), some (.str f), some (.str p), e4, e5, e6, e7, e8] h = .ok .nx [some k, some (tr rows), some (.str f), some (.str p), e4', e5', e6', e7', e8'] (h ++ l) := by
  obtain ⟨hfl, r1, ts, hs, hr1, hts⟩ := some_split t hf
  obtain ⟨q0, qs, rfl, hq⟩ := t.root
  have hl2 : (q0 :: qs).length ≤ 1000 := by omega
  have s1 := lawMoved_spec (n := n + 5) (p := p) (h := h) (by omega) hs
  have a1 : exS ⟨Z.ex, callW Z (n + 6), Z.mth, Z.ini⟩ Z.nm (n + 6) (.unp (.tp [(.nm 4), (.nm 5)]) (.call 12 [(.var 1), (.var 2), (.var 3)] [])) [some k, some (tr (q0 :: qs)), some (.str f), some (.str p), e4, e5, e6, e7, e8] h =
      .ok .nx [some k, some (tr (q0 :: qs)), some (.str f), some (.str p), some (.ref h.length), some (tr (restF (lowF f (q0 :: qs)) (q0 :: qs) ++ (Row.mk f (some p) r1.lk :: ts))), e6, e7, e8] (h ++ [.lst ((lowF f (q0 :: qs)).map .str)]) :=
    s_unp1 (r_call (r_cons (r_var rfl) (r_cons (r_var rfl) (r_cons (r_var rfl) r_nil))) s1) rfl
  have hL : (h ++ [O.lst ((lowF f (q0 :: qs)).map W.str)])[h.length]? = some (.lst ((lowF f (q0 :: qs)).map .str)) := List.getElem?_concat_length
  have gL := box_S hL
  have ns : ∀ z, W.ref h.length ≠ .str z := fun z e => by cases e
  have a2 : evE ⟨Z.ex, callW Z (n + 6), Z.mth, Z.ini⟩ (.ite (.cmp .eq (.var 2) (.idx (.idx (.var 1) (.cst (.int (0)))) (.cst (.int (0))))) (.cst (.str "root")) (.ite (.cmp .inn (.var 3) (.var 4)) (.tup [(.var 2), (.var 3)]) (.cst .non)))
      [some k, some (tr (q0 :: qs)), some (.str f), some (.str p), some (.ref h.length), some (tr (restF (lowF f (q0 :: qs)) (q0 :: qs) ++ (Row.mk f (some p) r1.lk :: ts))), e6, e7, e8] (h ++ [.lst ((lowF f (q0 :: qs)).map .str)]) = .ok (whyW q0.nm f p (q0 :: qs)) (h ++ [.lst ((lowF f (q0 :: qs)).map .str)]) := by
    refine r_ite (r_cmp (r_var rfl) (r_idx (r_idx (r_var rfl) r_cst (idx_at (xs := (q0 :: qs).map Row.enc) (v := q0.enc) rfl (by decide) (by decide) rfl)) r_cst idx0) c_eqs) ?_
    unfold whyW
    have hd : decide (f = q0.nm) = decide (q0.nm = f) := decide_eq_decide.mpr ⟨Eq.symm, Eq.symm⟩
    rw [hd]
    cases decide (q0.nm = f) with
    | true => exact r_cst
    | false =>
      refine r_ite (r_cmp (r_var rfl) (r_var rfl) (in_nm gL ns)) ?_
      cases (lowF f (q0 :: qs)).contains p with
      | true => exact r_tup (r_cons (r_var rfl) (r_cons (r_var rfl) r_nil)) rfl
      | false => exact r_cst
  obtain ⟨l1, s2⟩ := refused_spec (n := n + 1) (f := f) (p := p) (h := h ++ [.lst ((lowF f (q0 :: qs)).map .str)]) hl2
  obtain ⟨dw, pw⟩ := dep_why (q := q0.nm) (f := f) (p := p) (rows := q0 :: qs)
  have s3 := same_spec n9 (n + 6) (whyW q0.nm f p (q0 :: qs)) ((h ++ [.lst ((lowF f (q0 :: qs)).map .str)]) ++ l1) dw (by omega)
  have a3 : exS ⟨Z.ex, callW Z (n + 6), Z.mth, Z.ini⟩ Z.nm (n + 6) (.ite (.not (.call 9 [(.call 11 [(.var 1), (.var 2), (.var 3)] []), (.var 6)] [])) [.ret (.cst (.bl false))] [])
      [some k, some (tr (q0 :: qs)), some (.str f), some (.str p), some (.ref h.length), some (tr (restF (lowF f (q0 :: qs)) (q0 :: qs) ++ (Row.mk f (some p) r1.lk :: ts))), some (whyW q0.nm f p (q0 :: qs)), e7, e8] (h ++ [.lst ((lowF f (q0 :: qs)).map .str)]) =
      .ok .nx [some k, some (tr (q0 :: qs)), some (.str f), some (.str p), some (.ref h.length), some (tr (restF (lowF f (q0 :: qs)) (q0 :: qs) ++ (Row.mk f (some p) r1.lk :: ts))), some (whyW q0.nm f p (q0 :: qs)), e7, e8] ((h ++ [.lst ((lowF f (q0 :: qs)).map .str)]) ++ l1) :=
    (s_iteF (r_not (p := true) (r_call (r_cons (r_call (r_cons (r_var rfl) (r_cons (r_var rfl) (r_cons (r_var rfl) r_nil))) s2) (r_cons (r_var rfl) r_nil)) s3))).trans b_nil
  have a2' := s_set1 (c := ⟨Z.ex, callW Z (n + 6), Z.mth, Z.ini⟩) (nm := Z.nm) (n := n + 6) (i := 6) a2 (by show 6 < 9; decide)
  replace a2' : exS ⟨Z.ex, callW Z (n + 6), Z.mth, Z.ini⟩ Z.nm (n + 6) (.set 6 (.ite (.cmp .eq (.var 2) (.idx (.idx (.var 1) (.cst (.int (0)))) (.cst (.int (0))))) (.cst (.str "root")) (.ite (.cmp .inn (.var 3) (.var 4)) (.tup [(.var 2), (.var 3)]) (.cst .non)))) [some k, some (tr (q0 :: qs)), some (.str f), some (.str p), some (.ref h.length), some (tr (restF (lowF f (q0 :: qs)) (q0 :: qs) ++ (Row.mk f (some p) r1.lk :: ts))), e6, e7, e8] (h ++ [.lst ((lowF f (q0 :: qs)).map .str)]) = .ok .nx [some k, some (tr (q0 :: qs)), some (.str f), some (.str p), some (.ref h.length), some (tr (restF (lowF f (q0 :: qs)) (q0 :: qs) ++ (Row.mk f (some p) r1.lk :: ts))), some (whyW q0.nm f p (q0 :: qs)), e7, e8] (h ++ [.lst ((lowF f (q0 :: qs)).map .str)]) := a2'
  have a12 : ∀ o, exB ⟨Z.ex, callW Z (n + 6), Z.mth, Z.ini⟩ Z.nm (n + 6) [.ite (.cmp .isN (.var 6) (.cst .non)) [.set 7 (.lst false [(.call 3 [(.var 1), (.var 2), (.var 3)] []), (.call 3 [(.var 3), (.var 2), (.call 8 [(.var 1)] [])] [2, 1, 0])]), .ite (.not (.call 9 [(.var 7), (.lst false [(.var 5), (.var 5)])] [])) [.ret (.cst (.bl false))] []] []] [some k, some (tr (q0 :: qs)), some (.str f), some (.str p), some (.ref h.length), some (tr (restF (lowF f (q0 :: qs)) (q0 :: qs) ++ (Row.mk f (some p) r1.lk :: ts))), some (whyW q0.nm f p (q0 :: qs)), e7, e8] ((h ++ [.lst ((lowF f (q0 :: qs)).map .str)]) ++ l1) = o → exB ⟨Z.ex, callW Z (n + 6), Z.mth, Z.ini⟩ Z.nm (n + 6) inner [some k, some (tr (q0 :: qs)), some (.str f), some (.str p), e4, e5, e6, e7, e8] h = o := by
    intro o z
    exact b_cons a1 (b_cons a2' (b_cons a3 z))
  have a4 : evE ⟨Z.ex, callW Z (n + 6), Z.mth, Z.ini⟩ (.cmp .isN (.var 6) (.cst .non)) [some k, some (tr (q0 :: qs)), some (.str f), some (.str p), some (.ref h.length), some (tr (restF (lowF f (q0 :: qs)) (q0 :: qs) ++ (Row.mk f (some p) r1.lk :: ts))), some (whyW q0.nm f p (q0 :: qs)), e7, e8] ((h ++ [.lst ((lowF f (q0 :: qs)).map .str)]) ++ l1) =
      .ok (.bl (isNonW (whyW q0.nm f p (q0 :: qs)))) ((h ++ [.lst ((lowF f (q0 :: qs)).map .str)]) ++ l1) := r_cmp (r_var rfl) r_cst c_isN
  cases c1 : decide (q0.nm = f) with
  | true =>
    have ew : whyW q0.nm f p (q0 :: qs) = .str "root" := by unfold whyW; rw [c1]; rfl
    refine ⟨some (.ref h.length), some (tr (restF (lowF f (q0 :: qs)) (q0 :: qs) ++ (Row.mk f (some p) r1.lk :: ts))), some (.str "root"), e7, e8, [.lst ((lowF f (q0 :: qs)).map .str)] ++ l1, ?_⟩
    rw [← List.append_assoc]
    refine a12 _ ?_
    rw [ew] at a4 ⊢
    exact b_cons ((s_iteF a4).trans b_nil) b_nil
  | false =>
    cases c2 : (lowF f (q0 :: qs)).contains p with
    | true =>
      have ew : whyW q0.nm f p (q0 :: qs) = .tup [.str f, .str p] := by unfold whyW; rw [c1, c2]; rfl
      refine ⟨some (.ref h.length), some (tr (restF (lowF f (q0 :: qs)) (q0 :: qs) ++ (Row.mk f (some p) r1.lk :: ts))), some (.tup [.str f, .str p]), e7, e8, [.lst ((lowF f (q0 :: qs)).map .str)] ++ l1, ?_⟩
      rw [← List.append_assoc]
      refine a12 _ ?_
      rw [ew] at a4 ⊢
      exact b_cons ((s_iteF a4).trans b_nil) b_nil
    | false =>
      have ew : whyW q0.nm f p (q0 :: qs) = .non := by unfold whyW; rw [c1, c2]; rfl
      have te := taken_eq (p := p) hr1 hts
      have mv : ∀ (w : W) (h' : Hw), TrIn (q0 :: qs) w → callW Z (n + 6) 3 [w, .str f, .str p] h' = .ok (tr (restF (lowF f (q0 :: qs)) (q0 :: qs) ++ (Row.mk f (some p) r1.lk :: ts))) (h' ++ [.lst ((lowF f (q0 :: qs)).map .str)]) := fun w h' tw => by
        have z := moved_spec (n := n + 2) (f := f) (p := p) (h := h') hl2 tw
        rw [c1, c2, if_neg Bool.false_ne_true, if_neg Bool.false_ne_true, hs, te] at z
        exact z
      have dl : (restF (lowF f (q0 :: qs)) (q0 :: qs) ++ (Row.mk f (some p) r1.lk :: ts)).length ≤ 1000 := by
        have z1 : (restF (lowF f (q0 :: qs)) (q0 :: qs)).length ≤ (q0 :: qs).length := List.length_filter_le _ _
        have z2 : (someF (lowF f (q0 :: qs)) (q0 :: qs)).length ≤ (q0 :: qs).length := List.length_filter_le _ _
        rw [hs] at z2
        simp only [List.length_append, List.length_cons] at z1 z2 hl ⊢
        omega
      generalize hD : restF (lowF f (q0 :: qs)) (q0 :: qs) ++ (Row.mk f (some p) r1.lk :: ts) = due at *
      generalize hH : (h ++ [O.lst ((lowF f (q0 :: qs)).map W.str)]) ++ l1 = h5 at *
      have d1 : dat (.lst [tr due, tr due]) = true := by
        show (dat (tr due) && (dat (tr due) && true) && true) = true
        rw [dat_tr dl]; rfl
      have d2 : dep (.lst [tr due, tr due]) ≤ n + 6 := by
        show max (dep (tr due)) (max (dep (tr due)) 0) + 1 ≤ n + 6
        have := dep_tr due
        omega
      have s8 : ∀ h' : Hw, callW Z (n + 6) 8 [tr (q0 :: qs)] h' = .ok (listOf (tr (q0 :: qs))) h' := fun h' => lists_spec n8 (n + 6) _ h' (dat_tr hl2) (by have := dep_tr (q0 :: qs); omega)
      have s9 : ∀ h' : Hw, callW Z (n + 6) 9 [.lst [tr due, tr due], .lst [tr due, tr due]] h' = .ok (.bl true) h' := fun h' => same_spec n9 (n + 6) _ h' d1 d2
      refine ⟨some (.ref h.length), some (tr due), some .non, some (.lst [tr due, tr due]), e8, [.lst ((lowF f (q0 :: qs)).map .str)] ++ l1 ++ [.lst ((lowF f (q0 :: qs)).map .str)] ++ [.lst ((lowF f (q0 :: qs)).map .str)], ?_⟩
      have hh : h ++ ([.lst ((lowF f (q0 :: qs)).map .str)] ++ l1 ++ [.lst ((lowF f (q0 :: qs)).map .str)] ++ [.lst ((lowF f (q0 :: qs)).map .str)]) = (h5 ++ [.lst ((lowF f (q0 :: qs)).map .str)]) ++ [.lst ((lowF f (q0 :: qs)).map .str)] := by
        rw [← hH]; simp
      rw [hh]
      refine a12 _ ?_
      rw [ew] at a4 ⊢
      refine b_cons ((s_iteT a4).trans ?_) b_nil
      refine b_cons (s_set1 (x := .lst [tr due, tr due]) (h1 := (h5 ++ [.lst ((lowF f (q0 :: qs)).map .str)]) ++ [.lst ((lowF f (q0 :: qs)).map .str)]) (r_lstF (r_cons (r_call (r_cons (r_var rfl) (r_cons (r_var rfl) (r_cons (r_var rfl) r_nil))) (mv _ _ (.inl rfl))) (r_cons (r_callK (r_cons (r_var rfl) (r_cons (r_var rfl) (r_cons (r_call (r_cons (r_var rfl) r_nil) (s8 _)) r_nil))) rfl rfl (mv _ _ (.inr rfl))) r_nil)) rfl) (by show 7 < 9; decide)) ?_
      exact b_cons ((s_iteF (r_not (p := true) (r_call (r_cons (r_var rfl) (r_cons (r_lstF (r_cons (r_var rfl) (r_cons (r_var rfl) r_nil)) rfl) r_nil)) (s9 _)))).trans b_nil) b_nil
end K54
end
section
set_option Elab.async false
set_option linter.all false
set_option maxRecDepth 100000
namespace K54
open PySem G L2
abbrev names : E := .comp false (.idx (.var 8) (.cst (.int (0)))) (.nm 8) .val [(.var 1)] [] [8]
theorem right_ok {n : Nat} : RightOk Z (n + 7) 13 1000 28 := by
  intro h k c hb h0 hC
  obtain ⟨r, h1, e1, r0, r1, b1, l1, f1⟩ := take_spec (n := n + 5) (m := 9) n5 hb (by omega) (by decide) (by decide)
  have hm : (1 : Int) + r = ((r.toNat + 1 : Nat) : Int) := by omega
  obtain ⟨rows, h2, e2, t, len, _, b2, fr2⟩ := grown_spec (P := Z) (n := n + 3) (lk := 3) (m := r.toNat + 1) (ls := letters) n5 n7 n10 b1 (by omega) (by omega) (by show _ ≤ 12; omega) (by decide) (by decide +kernel)
  have fr1 : Frm k h h2 := (Frm.of_same l1 f1).trans fr2
  have hl : rows.length ≤ 100 := by omega
  have hl2 : rows.length ≤ 1000 := by omega
  have a1 : exS ⟨Z.ex, callW Z (n + 6), Z.mth, Z.ini⟩ Z.nm (n + 6) (.set 1 (.call 10 [(.var 0), (.bin false .add (.cst (.int (1))) (.call 5 [(.var 0), (.cst (.int (9)))] [])), (.cst (.int (3)))] [])) [some (.ref k), none, none, none, none, none, none, none, none] h = .ok .nx [some (.ref k), some (tr rows), none, none, none, none, none, none, none] h2 := by
    refine s_set1 (x := tr rows) (r_call (r_cons (r_var rfl) (r_cons (r_bin r_cst (r_call (r_cons (r_var rfl) (r_cons r_cst r_nil)) e1) b_add) (r_cons r_cst r_nil))) ?_) (by show 1 < 9; decide)
    rw [hm]
    exact e2
  obtain ⟨env3, h3, e3, ⟨⟨x2, x3, x4, x5, x6, x7, x8, henv⟩, l3, hl3⟩⟩ := s_for1 (c := ⟨Z.ex, callW Z (n + 6), Z.mth, Z.ini⟩) (nm := Z.nm) (n := n + 6) (env := [some (.ref k), some (tr rows), none, none, none, none, none, none, none]) (srcs := [names]) (tg := .nm 2) (k := .val) (body := [.for (.nm 3) .val [names] inner]) (h := h2) (xs := (nms rows).map .str)
    (fun i env h' => (∃ e2 e3 e4 e5 e6 e7 e8, env = [some (.ref k), some (tr rows), e2, e3, e4, e5, e6, e7, e8]) ∧ ∃ l, h' = h2 ++ l) (r_cons (names_comp hl2 rfl (by show 8 < 9; decide)) r_nil) ⟨⟨_, _, _, _, _, _, _, rfl⟩, [], by simp⟩ (turns_val rfl) (fun i env h' _ _ => item_val rfl)
    (fun i env h' x ⟨⟨e2, e3, e4, e5, e6, e7, e8, henv⟩, l, hl'⟩ hx => by
      subst henv hl'
      rw [List.getElem?_map] at hx
      obtain ⟨f, hf, hxf⟩ := Option.map_eq_some_iff.mp hx
      subst hxf
      obtain ⟨env4, h4, e9, ⟨⟨y3, y4, y5, y6, y7, y8, henv4⟩, l4, hl4⟩⟩ := s_for1 (c := ⟨Z.ex, callW Z (n + 6), Z.mth, Z.ini⟩) (nm := Z.nm) (n := n + 6) (env := [some (.ref k), some (tr rows), some (.str f), e3, e4, e5, e6, e7, e8]) (srcs := [names]) (tg := .nm 3) (k := .val) (body := inner) (h := h2 ++ l) (xs := (nms rows).map .str)
        (fun i env h' => (∃ e3 e4 e5 e6 e7 e8, env = [some (.ref k), some (tr rows), some (.str f), e3, e4, e5, e6, e7, e8]) ∧ ∃ l, h' = h2 ++ l) (r_cons (names_comp hl2 rfl (by show 8 < 9; decide)) r_nil) ⟨⟨_, _, _, _, _, _, rfl⟩, _, rfl⟩ (turns_val rfl) (fun i env h' _ _ => item_val rfl)
        (fun i env h' x ⟨⟨e3, e4, e5, e6, e7, e8, henv⟩, l, hl'⟩ hx => by
          subst henv hl'
          rw [List.getElem?_map] at hx
          obtain ⟨p, hp, hxp⟩ := Option.map_eq_some_iff.mp hx
          subst hxp
          obtain ⟨z4, z5, z6, z7, z8, l', e⟩ := inner_ok (n := n) (k := .ref k) (f := f) (p := p) (h := h2 ++ l) (e4 := e4) (e5 := e5) (e6 := e6) (e7 := e7) (e8 := e8) t hl (List.mem_of_getElem? hf)
          exact ⟨[some (.ref k), some (tr rows), some (.str f), some (.str p), e4, e5, e6, e7, e8], _, rfl, _, .inl e, ⟨_, _, _, _, _, _, rfl⟩, l ++ l', List.append_assoc _ _ _⟩)
      subst henv4
      exact ⟨[some (.ref k), some (tr rows), some (.str f), e3, e4, e5, e6, e7, e8], h4, rfl, _, .inl (b_cons e9 b_nil), ⟨_, _, _, _, _, _, _, rfl⟩, l4, hl4⟩)
  subst hl3
  have fr3 : Frm k h2 (h2 ++ l3) := ⟨by simp, fun j hj _ => List.getElem?_append_left hj⟩
  have b3 : BoxAt (h2 ++ l3) k (c + 28) := (b2.of_at (List.getElem?_append_left b2.lt)).mono (by omega)
  refine ⟨h2 ++ l3, ?_, b3, fr1.trans fr3⟩
  apply call_ret n13 rfl
  exact b_cons a1 (b_cons e3 (b_ret (s_ret1 r_cst)))
theorem runs (ns : List Int) (h : ns.length ≤ 63) : RunsTrue z 60 14 ns :=
  law_run (P := Z) (ce := 6) (bx := 4) (ri := 13) (li := 14) (n := 58) (mo := 2) (ti := 5) (C := 1000) (D := 28) n6 n4 n14 (right_ok (n := 52)) (by decide) (by decide) (by decide) (by decide) (by decide) ns h
end K54
end
section
set_option Elab.async false
set_option linter.all false
set_option maxRecDepth 100000
set_option maxHeartbeats 0
open PySem PySem.W PySem.Calls PyProof.Rows
theorem PySem.Challenge.cw_handeddown_k54_folders_moved_holds : PySem.Challenge.rw_handeddown_k54_folders_moved.Holds := by
  w_on; o_law
  refine HandSHeadRun.head_any (r := K54.R) (q := view K54.R.prog [22]) (H := K54.hk) (ob := K54.ob) (M := 3000) (loose := K54.loose) (d := HandSHeadRun.topDef K54.R.prog 22) (kwd := []) K54.ob_eq
    (by kernel_rfl) (fun s => by kernel_rfl) K54.run (by kernel_rfl) (by kernel_rfl) (by kernel_rfl) (by rfl) (by first | assumption | decide +kernel) (by decide +kernel) ⟨rfl, rfl, rfl, rfl, rfl, by decide +kernel⟩ ?hw ?hc
  case hw => w_witness2
  case hc => exact G.walk_z (l := PySem.Challenge.rw_handeddown_k54_folders_moved) (z := K54.z) (n := 63) (N := 60) (i := 14) (m := 5) (x := "_law_script") (df := K54.d14) rfl (by decide) (by kernel_rfl) ⟨rfl, by decide, by decide⟩ K54.ok rfl rfl (by kernel_rfl) fun ns h _ => K54.runs ns h
end
