import PyProof.Rows.All
import HandS.ForMost
import HandS.ForExc
import HandS.IsInst
import HandS.CallSlots
import HandS.Zip
import HandS.Zip0
import HandS.TupAny
import HandS.Style
import HandS.Walk
import HandS.Deep
import HandS.Conv
import HandS.Flow
import HandS.Defaults
import HandS.Rev
import KE.KStateDown
import Lean
import HandS.Head0
import HandS.Head1
import HandS.Head2
import HandS.HeadEnd
import HandS.HeadHook1
import HandS.HeadHook2
import HandS.HeadHook3
import HandS.HeadHook4
import KE.KDictPairs
import PySem.Challenge.RW_loopedarm_k03_stands_of_any_kind
set_option Elab.async false
set_option linter.all false
/-! DSem: plain semantics of the Python that the program and the laws use: data, cells, slots, combinators. No model in sight but texts (Str). -/
namespace DS
open PySem (Str)

/-! ### data, cells, slots -/
inductive D where
  | non | bl (b : Bool) | int (i : Int) | str (s : Str) | tup (ds : List D) | lst (ds : List D) | ref (r : Nat)
  /-- a dict with text keys that nothing changes -/
  | dic (ks : List Str) (ds : List D)
  /-- the script -/
  | scr (ns : List Int)
inductive Cell where
  | lst (ds : List D)
abbrev Hs := List Cell
inductive Slot where
  | no | val (d : D) | own (ds : List D)
abbrev En := List Slot
structure Exn where
  cls : Str
  arg : Option D
inductive Res (α : Type) where
  | ok (a : α) (h : Hs) | exc (x : Exn) (h : Hs) | stuck
abbrev EM (α : Type) := En → Hs → Res α
inductive SRes where
  | nx (e : En) (h : Hs) | rt (d : D) (h : Hs) | bk (e : En) (h : Hs) | ct (e : En) (h : Hs) | exc (x : Exn) (e : En) (h : Hs) | stuck
abbrev SM := En → Hs → SRes
abbrev DF := List D → Hs → Res D

def Res.bind {α β : Type} (r : Res α) (f : α → Hs → Res β) : Res β :=
  match r with
  | .ok a h => f a h
  | .exc x h => .exc x h
  | .stuck => .stuck
@[simp] theorem bind_ok {α β : Type} (a : α) (h : Hs) (f : α → Hs → Res β) : (Res.ok a h).bind f = f a h := rfl
@[simp] theorem bind_exc {α β : Type} (x : Exn) (h : Hs) (f : α → Hs → Res β) : (Res.exc x h).bind f = .exc x h := rfl
@[simp] theorem bind_stuck {α β : Type} (f : α → Hs → Res β) : (Res.stuck).bind f = .stuck := rfl
def Res.opt {α : Type} (o : Option α) (h : Hs) : Res α :=
  match o with
  | some a => .ok a h
  | none => .stuck
@[simp] theorem opt_some {α : Type} (a : α) (h : Hs) : Res.opt (some a) h = .ok a h := rfl
@[simp] theorem opt_none {α : Type} (h : Hs) : Res.opt (none : Option α) h = .stuck := rfl
/-- to a statement's end -/
def Res.toS {α : Type} (r : Res α) (e : En) (f : α → Hs → SRes) : SRes :=
  match r with
  | .ok a h => f a h
  | .exc x h => .exc x e h
  | .stuck => .stuck
@[simp] theorem toS_ok {α : Type} (a : α) (h : Hs) (e : En) (f : α → Hs → SRes) : (Res.ok a h).toS e f = f a h := rfl
@[simp] theorem toS_exc {α : Type} (x : Exn) (h : Hs) (e : En) (f : α → Hs → SRes) : (Res.exc x h).toS e f = .exc x e h := rfl
@[simp] theorem toS_stuck {α : Type} (e : En) (f : α → Hs → SRes) : (Res.stuck).toS e f = .stuck := rfl

/-- behind a statement -/
def SRes.seq (r : SRes) (f : En → Hs → SRes) : SRes :=
  match r with
  | .nx e h => f e h
  | r => r
@[simp] theorem seq_nx (e : En) (h : Hs) (f : En → Hs → SRes) : (SRes.nx e h).seq f = f e h := rfl
@[simp] theorem seq_rt (d : D) (h : Hs) (f : En → Hs → SRes) : (SRes.rt d h).seq f = .rt d h := rfl
@[simp] theorem seq_bk (e : En) (h : Hs) (f : En → Hs → SRes) : (SRes.bk e h).seq f = .bk e h := rfl
@[simp] theorem seq_ct (e : En) (h : Hs) (f : En → Hs → SRes) : (SRes.ct e h).seq f = .ct e h := rfl
@[simp] theorem seq_exc (x : Exn) (e : En) (h : Hs) (f : En → Hs → SRes) : (SRes.exc x e h).seq f = .exc x e h := rfl
@[simp] theorem seq_stuck (f : En → Hs → SRes) : (SRes.stuck).seq f = .stuck := rfl
/-- behind a loop's turn -/
def SRes.turn (r : SRes) (f : En → Hs → SRes) : SRes :=
  match r with
  | .nx e h => f e h
  | .ct e h => f e h
  | .bk e h => .nx e h
  | r => r
@[simp] theorem turn_nx (e : En) (h : Hs) (f : En → Hs → SRes) : (SRes.nx e h).turn f = f e h := rfl
@[simp] theorem turn_rt (d : D) (h : Hs) (f : En → Hs → SRes) : (SRes.rt d h).turn f = .rt d h := rfl
@[simp] theorem turn_bk (e : En) (h : Hs) (f : En → Hs → SRes) : (SRes.bk e h).turn f = .nx e h := rfl
@[simp] theorem turn_ct (e : En) (h : Hs) (f : En → Hs → SRes) : (SRes.ct e h).turn f = f e h := rfl
@[simp] theorem turn_exc (x : Exn) (e : En) (h : Hs) (f : En → Hs → SRes) : (SRes.exc x e h).turn f = .exc x e h := rfl
@[simp] theorem turn_stuck (f : En → Hs → SRes) : (SRes.stuck).turn f = .stuck := rfl
/-- a def's end -/
def SRes.fin (r : SRes) : Res D :=
  match r with
  | .nx _ h => .ok .non h
  | .rt d h => .ok d h
  | .exc x _ h => .exc x h
  | _ => .stuck
@[simp] theorem fin_nx (e : En) (h : Hs) : (SRes.nx e h).fin = .ok .non h := rfl
@[simp] theorem fin_rt (d : D) (h : Hs) : (SRes.rt d h).fin = .ok d h := rfl
@[simp] theorem fin_exc (x : Exn) (e : En) (h : Hs) : (SRes.exc x e h).fin = .exc x h := rfl
@[simp] theorem fin_stuck : (SRes.stuck).fin = .stuck := rfl
/-- no exception leaves a comprehension's block -/
def Res.nox {α : Type} (r : Res α) : Res α :=
  match r with
  | .ok a h => .ok a h
  | _ => .stuck
@[simp] theorem nox_ok {α : Type} (a : α) (h : Hs) : (Res.ok a h).nox = .ok a h := rfl
@[simp] theorem nox_exc {α : Type} (x : Exn) (h : Hs) : (Res.exc x h : Res α).nox = .stuck := rfl
@[simp] theorem nox_stuck {α : Type} : (Res.stuck : Res α).nox = .stuck := rfl
@[simp] theorem ite_bind {α β : Type} (c : Prop) [Decidable c] (a b : Res α) (f : α → Hs → Res β) : (if c then a else b).bind f = if c then a.bind f else b.bind f := by split <;> rfl
@[simp] theorem ite_toS {α : Type} (c : Prop) [Decidable c] (a b : Res α) (e : En) (f : α → Hs → SRes) : (if c then a else b).toS e f = if c then a.toS e f else b.toS e f := by split <;> rfl
@[simp] theorem ite_seq (c : Prop) [Decidable c] (a b : SRes) (f : En → Hs → SRes) : (if c then a else b).seq f = if c then a.seq f else b.seq f := by split <;> rfl
@[simp] theorem ite_turn (c : Prop) [Decidable c] (a b : SRes) (f : En → Hs → SRes) : (if c then a else b).turn f = if c then a.turn f else b.turn f := by split <;> rfl
@[simp] theorem ite_fin (c : Prop) [Decidable c] (a b : SRes) : (if c then a else b).fin = if c then a.fin else b.fin := by split <;> rfl
@[simp] theorem ite_ok {α : Type} (c : Prop) [Decidable c] (a b : α) (h : Hs) : (if c then Res.ok a h else Res.ok b h) = Res.ok (if c then a else b) h := by split <;> rfl
@[simp] theorem ite_dbl (c : Prop) [Decidable c] (a b : Bool) : (if c then D.bl a else D.bl b) = D.bl (if c then a else b) := by split <;> rfl
@[simp] theorem ite_dint (c : Prop) [Decidable c] (a b : Int) : (if c then D.int a else D.int b) = D.int (if c then a else b) := by split <;> rfl

/-! ### values -/
def LINE : Nat := 16777216
mutual
def eqv : D → D → Bool
  | .non, .non => true
  | .bl a, .bl b => a == b
  | .bl a, .int j => (if a then 1 else 0) == j
  | .int i, .bl b => i == (if b then 1 else 0)
  | .int i, .int j => i == j
  | .str x, .str y => x == y
  | .lst xs, .lst ys => eqvA xs ys
  | .tup xs, .tup ys => eqvA xs ys
  | _, _ => false
def eqvA : List D → List D → Bool
  | [], [] => true
  | x :: xs, y :: ys => eqv x y && eqvA xs ys
  | _, _ => false
end
mutual
def dep : D → Nat
  | .tup ds => depA ds + 1
  | .lst ds => depA ds + 1
  | _ => 0
def depA : List D → Nat
  | [] => 0
  | d :: ds => max (dep d) (depA ds)
end
mutual
/-- no refs, texts in order -/
def clean : D → Bool
  | .tup ds => cleanA ds
  | .lst ds => cleanA ds
  | .ref _ => false
  | .dic _ _ => false
  | .scr _ => false
  | .str x => x.cps.all (· < 0x110000)
  | _ => true
def cleanA : List D → Bool
  | [] => true
  | d :: ds => clean d && cleanA ds
end
def shp (d : D) : Bool := clean d && decide (dep d ≤ 64)
def scal : D → D → Bool
  | .non, .non => true | .non, .int _ => true | .int _, .non => true | .non, .bl _ => true | .bl _, .non => true | .non, .str _ => true | .str _, .non => true
  | .int _, .int _ => true | .bl _, .bl _ => true | .str _, .str _ => true
  | .int _, .str _ => true | .str _, .int _ => true | .bl _, .str _ => true | .str _, .bl _ => true
  | _, _ => false
def flat : D → Bool
  | .non => true | .bl _ => true | .int _ => true | .str _ => true
  | _ => false
def isRef : D → Bool
  | .ref _ => true
  | _ => false

abbrev Op1 := Hs → D → Option D
abbrev Op2 := Hs → D → D → Option D
def b2i (b : Bool) : Int := if b then 1 else 0

def opEqB (a b : D) : Option Bool := if scal a b || (shp a && shp b) then some (eqv a b) else none
def opEq : Op2 := fun _ a b => (opEqB a b).map .bl
def opNe : Op2 := fun _ a b => (opEqB a b).map fun c => .bl (!c)
def cmpI (p : Int → Int → Bool) : Op2 := fun _ a b =>
  match a, b with
  | .int i, .int j => some (.bl (p i j))
  | _, _ => none
def opLt : Op2 := cmpI fun i j => decide (i < j)
def opLe : Op2 := cmpI fun i j => decide (i ≤ j)
def opGt : Op2 := cmpI fun i j => decide (j < i)
def opGe : Op2 := cmpI fun i j => decide (j ≤ i)
def isNon : D → Bool
  | .non => true
  | _ => false
def opIsN : Op2 := fun _ a b =>
  match b with
  | .non => some (.bl (isNon a))
  | _ => none
def opNotN : Op2 := fun _ a b =>
  match b with
  | .non => some (.bl (!isNon a))
  | _ => none
def inB (x : D) (y : D) : Option Bool :=
  match y with
  | .tup ys => if flat x && ys.all flat then some (ys.any fun y => eqv y x) else none
  | .lst ys => if (flat x && ys.all flat) || (shp x && shp (.lst ys)) then some (ys.any fun y => eqv y x) else none
  | _ => none
def opIn : Op2 := fun _ x y => (inB x y).map .bl
def opNotIn : Op2 := fun _ x y => (inB x y).map fun c => .bl (!c)
def opAdd : Op2 := fun _ a b =>
  match a, b with
  | .int i, .int j => some (.int (i + j))
  | .str x, .str y => if x.length + y.length ≤ LINE then some (.str (x ++ y)) else none
  | .tup xs, .tup ys => if xs.length + ys.length ≤ LINE then some (.tup (xs ++ ys)) else none
  | .lst xs, .lst ys => if xs.length + ys.length ≤ LINE then some (.lst (xs ++ ys)) else none
  | _, _ => none
def opSub : Op2 := fun _ a b =>
  match a, b with
  | .int i, .int j => some (.int (i - j))
  | _, _ => none
def smallI (i : Int) : Bool := Nat.ble i.natAbs 18446744073709551615
def opMul : Op2 := fun _ a b =>
  match a, b with
  | .int i, .int j => if smallI i || smallI j then some (.int (i * j)) else none
  | .lst xs, .int k => if Nat.ble k.natAbs 9223372036854775807 && decide (xs.length * k.toNat ≤ LINE) then some (.lst (List.replicate k.toNat xs).flatten) else none
  | _, _ => none
def opMod : Op2 := fun _ a b =>
  match a, b with
  | .int i, .int j => if 0 < j then some (.int (i % j)) else none
  | _, _ => none
def opFdiv : Op2 := fun _ a b =>
  match a, b with
  | .int i, .int j => if decide (0 < j) && decide (j < 1073741824) then some (.int (i / j)) else none
  | _, _ => none
def opPow : Op2 := fun _ a b =>
  match a, b with
  | .int i, .int j => if decide (0 ≤ j) && decide (j ≤ 1000000) && decide (i.natAbs < 18446744073709551616) then some (.int (i ^ j.toNat)) else none
  | _, _ => none
def ixN (n : Nat) (i : Int) : Option Nat := if 0 ≤ i then (if i < n then some i.toNat else none) else if -(n : Int) ≤ i then some (i + n).toNat else none
def atD {α : Type} (xs : List α) (i : Int) : Option α := (ixN xs.length i).bind fun j => xs[j]?
def opIx : Op2 := fun h a b =>
  match a, b with
  | .tup xs, .int i => atD xs i
  | .lst xs, .int i => atD xs i
  | .str z, .int i => if z.length ≤ LINE then (atD z.cps.toList i).map fun c => .str ⟨#[c]⟩ else none
  | .scr ns, .int i => (atD ns i).map .int
  | .ref r, .int i =>
    (match h[r]? with
    | some (.lst xs) => atD xs i
    | none => none)
  | _, _ => none
def sIx (n d : Nat) : Option Int → Nat
  | none => d
  | some v => if v < 0 then (v + (n : Int)).toNat else min v.toNat n
def cut {α : Type} (xs : List α) (lo hi : Option Int) : List α := (xs.drop (sIx xs.length 0 lo)).take (sIx xs.length xs.length hi - sIx xs.length 0 lo)
/-- what a dict holds at a text -/
def dicAt : List Str → List D → Str → Option D
  | k :: ks, d :: ds, x => if k = x then some d else dicAt ks ds x
  | _, _, _ => none
def opGet2 (d k o : D) : Option D :=
  match d, k with
  | .dic ks ds, .str x => some ((dicAt ks ds x).getD o)
  | _, _ => none
def opDicIx : Hs → D → D → Option D := fun _ a b =>
  match a, b with
  | .dic ks ds, .str x => dicAt ks ds x
  | _, _ => none
def opSl (x : D) (lo hi : Option Int) : Option D :=
  match x with
  | .tup xs => some (.tup (cut xs lo hi))
  | .lst xs => some (.lst (cut xs lo hi))
  | _ => none
def opRevT : Op1 := fun _ x =>
  match x with
  | .tup xs => some (.tup xs.reverse)
  | _ => none
def opRevL : Op1 := fun _ x =>
  match x with
  | .lst xs => some (.lst xs.reverse)
  | _ => none
def opNeg : Op1 := fun _ x =>
  match x with
  | .int i => some (.int (-i))
  | _ => none
def opLen : Op1 := fun h x =>
  match x with
  | .tup xs => some (.int xs.length)
  | .lst xs => some (.int xs.length)
  | .str z => if z.length ≤ LINE then some (.int z.length) else none
  | .scr ns => some (.int ns.length)
  | .ref r =>
    (match h[r]? with
    | some (.lst xs) => some (.int xs.length)
    | none => none)
  | _ => none
def opAbs : Op1 := fun _ x =>
  match x with
  | .int i => some (.int (if i < 0 then -i else i))
  | _ => none
def opInt : Op1 := fun _ x =>
  match x with
  | .int i => some (.int i)
  | .bl b => some (.int (b2i b))
  | _ => none
def opBool : Op1 := fun _ x =>
  match x with
  | .int i => some (.bl (i != 0))
  | .bl b => some (.bl b)
  | _ => none
def opMin : Op2 := fun _ a b =>
  match a, b with
  | .int i, .int j => some (.int (if j < i then j else i))
  | _, _ => none
def opMax : Op2 := fun _ a b =>
  match a, b with
  | .int i, .int j => some (.int (if j > i then j else i))
  | _, _ => none
/-- the bools of a list -/
def asBls : List D → Option (List Bool)
  | [] => some []
  | .bl b :: ds => (asBls ds).map (b :: ·)
  | _ :: _ => none
def asInts : List D → Option (List Int)
  | [] => some []
  | .int b :: ds => (asInts ds).map (b :: ·)
  | _ :: _ => none
def opAny : Op1 := fun _ x =>
  match x with
  | .lst xs => (asBls xs).map fun bs => .bl (bs.any id)
  | _ => none
def opAll : Op1 := fun _ x =>
  match x with
  | .lst xs => (asBls xs).map fun bs => .bl (bs.all id)
  | _ => none
def opSum : Op1 := fun _ x =>
  match x with
  | .lst xs => (asInts xs).map fun ns => .int ns.sum
  | _ => none
def opTuple : Op1 := fun _ x =>
  match x with
  | .lst xs => some (.tup xs)
  | .tup xs => some (.tup xs)
  | _ => none
/-- tuple(x), x perhaps a shared list -/
def opTupleR : Op1 := fun h x =>
  match x with
  | .lst xs => some (.tup xs)
  | .tup xs => some (.tup xs)
  | .ref r =>
    (match h[r]? with
    | some (.lst xs) => some (.tup xs)
    | _ => none)
  | _ => none
def opList : Op1 := fun _ x =>
  match x with
  | .lst xs => some (.lst xs)
  | .tup xs => some (.lst xs)
  | _ => none
inductive Ty where
  | tInt | tBool | tStr | tTuple | tList
  deriving DecidableEq
/-- isinstance of a built-in class -/
def isTy (t : Ty) (d : D) : Bool :=
  match d, t with
  | .bl _, .tInt => true
  | .bl _, .tBool => true
  | .int _, .tInt => true
  | .str _, .tStr => true
  | .tup _, .tTuple => true
  | .lst _, .tList => true
  | .ref _, .tList => true
  | .scr _, .tList => true
  | _, _ => false
def opIs (t : Ty) : Op1 := fun _ d => some (.bl (isTy t d))
def opIs2 (t u : Ty) : Op1 := fun _ d => some (.bl (isTy t d || isTy u d))

/-! ### expressions -/
@[simp] def mVal (d : D) : EM D := fun _ h => .ok d h
@[simp] def mVar (i : Nat) : EM D := fun e h =>
  match e[i]? with
  | some (.val d) => .ok d h
  | _ => .stuck
/-- a local list, looked at -/
@[simp] def mPeek (i : Nat) : EM D := fun e h =>
  match e[i]? with
  | some (.own ds) => .ok (.lst ds) h
  | _ => .stuck
@[simp] def mOp1 (f : Op1) (a : EM D) : EM D := fun e h => (a e h).bind fun x h1 => .opt (f h1 x) h1
@[simp] def mOp2 (f : Op2) (a b : EM D) : EM D := fun e h => (a e h).bind fun x h1 => (b e h1).bind fun y h2 => .opt (f h2 x y) h2
@[simp] def op1N (f : Op1) : Hs → List D → Option D := fun h xs =>
  match xs with
  | [x] => f h x
  | _ => none
@[simp] def op2N (f : Op2) : Hs → List D → Option D := fun h xs =>
  match xs with
  | [x, y] => f h x y
  | _ => none
/-- d.get(k, o) -/
@[simp] def mGet2 (a b c : EM D) : EM D := fun e h => (a e h).bind fun x h1 =>
  match x with
  | .dic ks ds => (b e h1).bind fun y h2 => (c e h2).bind fun z h3 => .opt (opGet2 (.dic ks ds) y z) h3
  | _ => .stuck
/-- a dict display of texts and ints -/
@[simp] def mDicC (ks : List Str) (is : List Int) : EM D := fun _ h => .ok (.dic ks (is.map .int)) h
@[simp] def mArgs : List (EM D) → EM (List D)
  | [] => fun _ h => .ok [] h
  | a :: as => fun e h => (a e h).bind fun x h1 => (mArgs as e h1).bind fun xs h2 => .ok (x :: xs) h2
@[simp] def mOpN (f : Hs → List D → Option D) (as : List (EM D)) : EM D := fun e h => (mArgs as e h).bind fun xs h1 => .opt (f h1 xs) h1
@[simp] def mTup (as : List (EM D)) : EM D := fun e h => (mArgs as e h).bind fun xs h1 => if xs.length ≤ LINE then .ok (.tup xs) h1 else .stuck
@[simp] def mLst (as : List (EM D)) : EM D := fun e h => (mArgs as e h).bind fun xs h1 => if xs.length ≤ LINE then .ok (.lst xs) h1 else .stuck
/-- a list display that is to be shared -/
def mNew (as : List (EM D)) : EM D := fun e h => (mArgs as e h).bind fun xs h1 => if xs.length ≤ LINE then .ok (.ref h1.length) (h1 ++ [.lst xs]) else .stuck
@[simp] def mCall (f : DF) (as : List (EM D)) : EM D := fun e h => (mArgs as e h).bind fun xs h1 => f xs h1
@[simp] def asB (d : D) (h : Hs) : Res Bool :=
  match d with
  | .bl b => .ok b h
  | _ => .stuck
/-- a < b < c -/
@[simp] def mChain (f g : Op2) (a b c : EM D) : EM D := fun e h => (a e h).bind fun x h1 => (b e h1).bind fun y h2 => (Res.opt (f h2 x y) h2).bind fun z h3 => (asB z h3).bind fun k h4 =>
  if k then (c e h4).bind fun w h5 => .opt (g h5 y w) h5 else .ok (.bl false) h4
/-- a and b, a or b, not a, of bools, as values -/
@[simp] def mAnd (a b : EM D) : EM D := fun e h => (a e h).bind fun x h1 => (asB x h1).bind fun k h2 => if k then b e h2 else .ok (.bl false) h2
@[simp] def mOr (a b : EM D) : EM D := fun e h => (a e h).bind fun x h1 => (asB x h1).bind fun k h2 => if k then .ok (.bl true) h2 else b e h2
@[simp] def mNot (a : EM D) : EM D := fun e h => (a e h).bind fun x h1 => (asB x h1).bind fun k h2 => .ok (.bl (!k)) h2
/-- tests -/
@[simp] def tVal (a : EM D) : EM Bool := fun e h => (a e h).bind fun x h1 => asB x h1
@[simp] def tAnd (a b : EM Bool) : EM Bool := fun e h => (a e h).bind fun k h2 => if k then b e h2 else .ok false h2
@[simp] def tOr (a b : EM Bool) : EM Bool := fun e h => (a e h).bind fun k h2 => if k then .ok true h2 else b e h2
@[simp] def tNot (a : EM Bool) : EM Bool := fun e h => (a e h).bind fun k h2 => .ok (!k) h2
@[simp] def mIf (t : EM Bool) (a b : EM D) : EM D := fun e h => (t e h).bind fun k h1 => if k then a e h1 else b e h1
/-- a part of a slice -/
@[simp] def mNoPart : EM (Option Int) := fun _ h => .ok none h
@[simp] def mPart (a : EM D) : EM (Option Int) := fun e h => (a e h).bind fun x h1 =>
  match x with
  | .int i => .ok (some i) h1
  | _ => .stuck
@[simp] def mSl (a : EM D) (lo hi : EM (Option Int)) : EM D := fun e h => (a e h).bind fun x h1 => (lo e h1).bind fun l h2 => (hi e h2).bind fun u h3 => .opt (opSl x l u) h3

/-! ### targets, walks, comprehensions -/
abbrev TM := D → En → Option En
@[simp] def gName (i : Nat) : TM := fun d e => some (e.set i (.val d))
@[simp] def gSeq : List TM → List D → En → Option En
  | [], [], e => some e
  | g :: gs, d :: ds, e => (g d e).bind fun e1 => gSeq gs ds e1
  | _, _, _ => none
@[simp] def gTup (gs : List TM) : TM := fun d e =>
  match d with
  | .tup ds => if ds.length = gs.length then gSeq gs ds e else none
  | _ => none
/-- what is walked: the items at once -/
@[simp] def iSeq (a : EM D) : EM (List D) := fun e h => (a e h).bind fun x h1 =>
  match x with
  | .tup ds => .ok ds h1
  | .lst ds => .ok ds h1
  | _ => .stuck
def rngL (lo : Int) (n : Nat) : List D := (List.range n).map fun (k : Nat) => D.int (lo + (k : Int))
def smallR (i : Int) : Bool := Nat.ble i.natAbs 4611686018427387903
@[simp] def iRng1 (a : EM D) : EM (List D) := fun e h => (a e h).bind fun x h1 =>
  match x with
  | .int j => if smallR j then .ok (rngL 0 j.toNat) h1 else .stuck
  | _ => .stuck
@[simp] def iRng2 (a b : EM D) : EM (List D) := fun e h => (a e h).bind fun x h1 => (b e h1).bind fun y h2 =>
  match x, y with
  | .int i, .int j => if smallR i && smallR j then .ok (rngL i (j - i).toNat) h2 else .stuck
  | _, _ => .stuck
def listRng2 : Op2 := fun _ a b =>
  match a, b with
  | .int i, .int j => if smallR i && smallR j && decide ((j - i).toNat ≤ LINE) then some (.lst (rngL i (j - i).toNat)) else none
  | _, _ => none
@[simp] def mListRng2 (a b : EM D) : EM D := mOp2 listRng2 a b
def zipL (xs ys : List D) : List D := List.zipWith (fun x y => D.tup [x, y]) xs ys
@[simp] def iZip (a b : EM D) : EM (List D) := fun e h => (a e h).bind fun x h1 => (b e h1).bind fun y h2 =>
  match x, y with
  | .tup xs, .tup ys => .ok (zipL xs ys) h2
  | .lst xs, .lst ys => .ok (zipL xs ys) h2
  | _, _ => .stuck
/-- the slots of a comprehension's own names forgotten; local lists are not seen in it -/
@[simp] def wipe (e : En) : List Nat → En
  | [] => e
  | v :: vs => (wipe e vs).set v .no
@[simp] def noOwn (e : En) : En := e.map fun s =>
  match s with
  | .own _ => .no
  | s => s
def lcLoop (g : TM) (t : EM Bool) (a : EM D) (e : En) : List D → List D → Hs → Res (List D)
  | [], acc => fun h => .ok acc h
  | d :: ds, acc => fun h =>
    match g d e with
    | none => .stuck
    | some e1 => (t e1 h).bind fun k h1 =>
      if k then (a e1 h1).bind fun x h2 => if acc.length < LINE then lcLoop g t a e ds (acc ++ [x]) h2 else .stuck
      else lcLoop g t a e ds acc h1
@[simp] def mLc (vs : List Nat) (it : EM (List D)) (g : TM) (t : EM Bool) (a : EM D) : EM D := fun e h => (it e h).bind fun ds h1 =>
  ((lcLoop g t a (noOwn (wipe e vs)) ds [] h1).nox).bind fun xs h2 => .ok (.lst xs) h2
@[simp] def tYes : EM Bool := fun _ h => .ok true h

/-! ### statements -/
@[simp] def sNext : SM := fun e h => .nx e h
@[simp] def sSeq (a b : SM) : SM := fun e h => (a e h).seq b
def sBlock : List SM → SM
  | [] => sNext
  | [a] => a
  | a :: as => sSeq a (sBlock as)
@[simp] def sRet (a : EM D) : SM := fun e h => (a e h).toS e fun d h1 => .rt d h1
@[simp] def sExpr (a : EM D) : SM := fun e h => (a e h).toS e fun _ h1 => .nx e h1
@[simp] def sAsg (g : TM) (a : EM D) : SM := fun e h => (a e h).toS e fun d h1 =>
  match g d e with
  | some e1 => .nx e1 h1
  | none => .stuck
/-- x = [..]: a local list that will be appended to -/
@[simp] def sOwn (i : Nat) (as : List (EM D)) : SM := fun e h => (mArgs as e h).toS e fun ds h1 => if ds.length ≤ LINE then .nx (e.set i (.own ds)) h1 else .stuck
/-- a local list is from now on as it is -/
@[simp] def sFreeze (i : Nat) : SM := fun e h =>
  match e[i]? with
  | some (.own ds) => .nx (e.set i (.val (.lst ds))) h
  | _ => .nx e h
@[simp] def sAppend (i : Nat) (a : EM D) : SM := fun e h =>
  match e[i]? with
  | some (.own ds) => (a e h).toS e fun d h1 => if ds.length < LINE then .nx (e.set i (.own (ds ++ [d]))) h1 else .stuck
  | _ => .stuck
/-- x = x + b, x a list of one's own -/
@[simp] def sOwnAdd (i : Nat) (b : EM D) : SM := fun e h =>
  match e[i]? with
  | some (.own ds) => (b e h).toS e fun d h1 =>
    match d with
    | .lst es => if ds.length + es.length ≤ LINE then .nx (e.set i (.own (ds ++ es))) h1 else .stuck
    | _ => .stuck
  | _ => .stuck
/-- o[i] = v, o a shared list -/
@[simp] def sPut (o i v : EM D) : SM := fun e h => (v e h).toS e fun x h1 => (o e h1).toS e fun y h2 => (i e h2).toS e fun z h3 =>
  match y, z with
  | .ref r, .int k =>
    (match h3[r]? with
    | some (.lst xs) =>
      (match ixN xs.length k with
      | some j => .nx e (h3.set r (.lst (xs.set j x)))
      | none => .stuck)
    | _ => .stuck)
  | _, _ => .stuck
/-- o.append(e), o a shared list -/
@[simp] def sAppendR (o a : EM D) : SM := fun e h => (o e h).toS e fun x h1 =>
  match x with
  | .ref r =>
    (match h1[r]? with
    | some (.lst _) => (a e h1).toS e fun d h2 =>
      (match h2[r]? with
      | some (.lst ds) => if ds.length < LINE then .nx e (h2.set r (.lst (ds ++ [d]))) else .stuck
      | _ => .stuck)
    | _ => .stuck)
  | _ => .stuck
@[simp] def sIf (t : EM Bool) (a b : SM) : SM := fun e h => (t e h).toS e fun k h1 => if k then a e h1 else b e h1
@[simp] def sStuck : SM := fun _ _ => .stuck
def forLoop (g : TM) (b : SM) : List D → SM
  | [] => sNext
  | d :: ds => fun e h =>
    match g d e with
    | none => .stuck
    | some e1 => (b e1 h).turn (forLoop g b ds)
@[simp] def sFor (it : EM (List D)) (g : TM) (b : SM) : SM := fun e h => (it e h).toS e fun ds h1 => forLoop g b ds e h1
def whileLoop (t : EM Bool) (b : SM) : Nat → SM
  | 0 => sStuck
  | n + 1 => fun e h => (t e h).toS e fun k h1 =>
    if k then (b e h1).turn (whileLoop t b n) else .nx e h1
@[simp] def sWhile (fuel : En → Hs → Nat) (t : EM Bool) (b : SM) : SM := fun e h => whileLoop t b (fuel e h) e h
@[simp] def sRaise (cls : Str) : SM := fun e h => .exc ⟨cls, none⟩ e h

/-! ### defs -/
@[simp] def startE (n : Nat) (ds : List D) : En := ds.map .val ++ List.replicate (n - ds.length) .no
/-- a def of n slots -/
@[simp] def defn (n : Nat) (b : SM) : DF := fun ds h => (b (startE n ds) h).fin
end DS

set_option Elab.async false
set_option linter.all false
set_option maxRecDepth 100000
set_option maxHeartbeats 4000000
/-! DCore: data over the hand layer's abstract heap; the state relation; judgements. -/
namespace DS
open PySem PySem.Spec PyProof.Rows L2
abbrev Fg := PySem.W.Frag

/-! ### data in the abstract heap -/
mutual
def Rep (K : Fg) (ρ : List Addr) (ω : Addr → Prop) (H : Hp) : D → V → Prop
  | .non, v => v = .non
  | .bl b, v => v = .bl b
  | .int i, v => v = .int i
  | .str s, v => v = .str s
  | .tup ds, v => ∃ a xs, v = .ref a ∧ SqT K H a xs ∧ RepA K ρ ω H ds xs
  | .lst ds, v => ∃ a xs, v = .ref a ∧ H a = some (.lst xs) ∧ ¬ ω a ∧ RepA K ρ ω H ds xs
  | .ref r, v => ∃ a, v = .ref a ∧ ρ[r]? = some a
  | .dic ks ds, v => ∃ a vs, v = .ref a ∧ H a = some (.dK ((ks.map Sum.inr).zip vs)) ∧ ¬ ω a ∧ ks.length = ds.length ∧ RepA K ρ ω H ds vs
  | .scr ns, v => ∃ a, v = .ref a ∧ ((∃ o, H a = some (.frz o (.lst (ns.map V.int)))) ∨ ∀ H', SqL K H' a (ns.map V.int))
def RepA (K : Fg) (ρ : List Addr) (ω : Addr → Prop) (H : Hp) : List D → List V → Prop
  | [], xs => xs = []
  | d :: ds, xs => ∃ v vs, xs = v :: vs ∧ Rep K ρ ω H d v ∧ RepA K ρ ω H ds vs
end
section
variable {K : Fg} {ρ ρ' : List Addr} {ω ω' : Addr → Prop} {H H' : Hp}
theorem RepA.len : ∀ {ds : List D} {xs : List V}, RepA K ρ ω H ds xs → ds.length = xs.length
  | [], xs, h => by
    have e : xs = [] := h
    subst e
    rfl
  | d :: ds, xs, h => by
    obtain ⟨v, vs, e, _, h2⟩ := h
    rw [e, List.length_cons, List.length_cons, RepA.len h2]
theorem RepA.get : ∀ {ds : List D} {xs : List V} {i : Nat} {d : D}, RepA K ρ ω H ds xs → ds[i]? = some d → ∃ v, xs[i]? = some v ∧ Rep K ρ ω H d v
  | [], _, _, _, _, e => by simp at e
  | d :: ds, xs, 0, d', h, e => by
    obtain ⟨v, vs, rfl, h1, _⟩ := h
    simp at e
    subst e
    exact ⟨v, rfl, h1⟩
  | d :: ds, xs, i + 1, d', h, e => by
    obtain ⟨v, vs, rfl, _, h2⟩ := h
    obtain ⟨u, e1, r⟩ := RepA.get (i := i) (d := d') h2 (by simpa using e)
    exact ⟨u, by simpa using e1, r⟩
theorem RepA.get' : ∀ {ds : List D} {xs : List V} {i : Nat} {v : V}, RepA K ρ ω H ds xs → xs[i]? = some v → ∃ d, ds[i]? = some d ∧ Rep K ρ ω H d v
  | [], xs, i, v, h, e => by
    have z : xs = [] := h
    subst z
    simp at e
  | d :: ds, xs, 0, v', h, e => by
    obtain ⟨v, vs, rfl, h1, _⟩ := h
    simp at e
    subst e
    exact ⟨d, rfl, h1⟩
  | d :: ds, xs, i + 1, v', h, e => by
    obtain ⟨v, vs, rfl, _, h2⟩ := h
    obtain ⟨u, e1, r⟩ := RepA.get' (i := i) (v := v') h2 (by simpa using e)
    exact ⟨u, by simpa using e1, r⟩
theorem RepA.append : ∀ {ds es : List D} {xs ys : List V}, RepA K ρ ω H ds xs → RepA K ρ ω H es ys → RepA K ρ ω H (ds ++ es) (xs ++ ys)
  | [], es, xs, ys, h, k => by
    have e : xs = [] := h
    subst e
    exact k
  | d :: ds, es, xs, ys, h, k => by
    obtain ⟨v, vs, rfl, h1, h2⟩ := h
    exact ⟨v, vs ++ ys, rfl, h1, RepA.append h2 k⟩
theorem RepA.nil : RepA K ρ ω H [] [] := rfl
theorem RepA.cons {d : D} {ds : List D} {v : V} {vs : List V} (h : Rep K ρ ω H d v) (k : RepA K ρ ω H ds vs) : RepA K ρ ω H (d :: ds) (v :: vs) := ⟨v, vs, rfl, h, k⟩
theorem RepA.one {d : D} {v : V} (h : Rep K ρ ω H d v) : RepA K ρ ω H [d] [v] := ⟨v, [], rfl, h, rfl⟩
theorem RepA.take : ∀ {ds : List D} {xs : List V} (n : Nat), RepA K ρ ω H ds xs → RepA K ρ ω H (ds.take n) (xs.take n)
  | _, _, 0, _ => by simp; exact RepA.nil
  | [], xs, n + 1, h => by
    have e : xs = [] := h
    subst e
    exact RepA.nil
  | d :: ds, xs, n + 1, h => by
    obtain ⟨v, vs, rfl, h1, h2⟩ := h
    exact RepA.cons h1 (RepA.take n h2)
theorem RepA.drop : ∀ {ds : List D} {xs : List V} (n : Nat), RepA K ρ ω H ds xs → RepA K ρ ω H (ds.drop n) (xs.drop n)
  | _, _, 0, h => by simpa using h
  | [], xs, n + 1, h => by
    have e : xs = [] := h
    subst e
    exact RepA.nil
  | d :: ds, xs, n + 1, h => by
    obtain ⟨v, vs, rfl, h1, h2⟩ := h
    simpa using RepA.drop n h2
theorem RepA.reverse : ∀ {ds : List D} {xs : List V}, RepA K ρ ω H ds xs → RepA K ρ ω H ds.reverse xs.reverse
  | [], xs, h => by
    have e : xs = [] := h
    subst e
    exact RepA.nil
  | d :: ds, xs, h => by
    obtain ⟨v, vs, rfl, h1, h2⟩ := h
    rw [List.reverse_cons, List.reverse_cons]
    exact RepA.append (RepA.reverse h2) (RepA.one h1)
theorem RepA.set : ∀ {ds : List D} {xs : List V} {d : D} {v : V} (i : Nat), RepA K ρ ω H ds xs → Rep K ρ ω H d v → RepA K ρ ω H (ds.set i d) (xs.set i v)
  | [], xs, _, _, _, h, _ => by
    have e : xs = [] := h
    subst e
    exact RepA.nil
  | d :: ds, xs, _, _, 0, h, k => by
    obtain ⟨v, vs, rfl, h1, h2⟩ := h
    exact RepA.cons k h2
  | d :: ds, xs, _, _, i + 1, h, k => by
    obtain ⟨v, vs, rfl, h1, h2⟩ := h
    exact RepA.cons h1 (RepA.set i h2 k)
theorem RepA.rep {ds : List D} {xs : List V} (h : RepA K ρ ω H ds xs) : ∀ n : Nat, RepA K ρ ω H (List.replicate n ds).flatten (List.replicate n xs).flatten
  | 0 => RepA.nil
  | n + 1 => by
    rw [List.replicate_succ, List.replicate_succ, List.flatten_cons, List.flatten_cons]
    exact RepA.append h (RepA.rep h n)

mutual
theorem Rep.mono (s : ∀ a xs, SqT K H a xs → SqT K H' a xs) (l : ∀ a o, H a = some o → ¬ ω a → H' a = some o ∧ ¬ ω' a) (r : ∀ (i : Nat) a, ρ[i]? = some a → ρ'[i]? = some a) (z : ∀ a o u, H a = some (.frz o u) → H' a = some (.frz o u)) :
    ∀ (d : D) (v : V), Rep K ρ ω H d v → Rep K ρ' ω' H' d v
  | .non, _, h => h
  | .bl _, _, h => h
  | .int _, _, h => h
  | .str _, _, h => h
  | .tup ds, v, h => by
    obtain ⟨a, xs, e, h1, h2⟩ := h
    exact ⟨a, xs, e, s a xs h1, RepA.mono s l r z ds xs h2⟩
  | .lst ds, v, h => by
    obtain ⟨a, xs, e, h1, hn, h2⟩ := h
    obtain ⟨q1, q2⟩ := l a _ h1 hn
    exact ⟨a, xs, e, q1, q2, RepA.mono s l r z ds xs h2⟩
  | .dic ks ds, v, h => by
    obtain ⟨a, xs, e, h1, hn, hl, h2⟩ := h
    obtain ⟨q1, q2⟩ := l a _ h1 hn
    exact ⟨a, xs, e, q1, q2, hl, RepA.mono s l r z ds xs h2⟩
  | .ref i, v, h => by
    obtain ⟨a, e, h1⟩ := h
    exact ⟨a, e, r i a h1⟩
  | .scr ns, v, h => by
    obtain ⟨a, e, h1⟩ := h
    rcases h1 with ⟨o, h1⟩ | h1
    · exact ⟨a, e, .inl ⟨o, z a o _ h1⟩⟩
    · exact ⟨a, e, .inr h1⟩
theorem RepA.mono (s : ∀ a xs, SqT K H a xs → SqT K H' a xs) (l : ∀ a o, H a = some o → ¬ ω a → H' a = some o ∧ ¬ ω' a) (r : ∀ (i : Nat) a, ρ[i]? = some a → ρ'[i]? = some a) (z : ∀ a o u, H a = some (.frz o u) → H' a = some (.frz o u)) :
    ∀ (ds : List D) (xs : List V), RepA K ρ ω H ds xs → RepA K ρ' ω' H' ds xs
  | [], _, h => h
  | d :: ds, xs, h => by
    obtain ⟨v, vs, e, h1, h2⟩ := h
    exact ⟨v, vs, e, Rep.mono s l r z d v h1, RepA.mono s l r z ds vs h2⟩
end
end

/-! ### cells; the heap's relation; steps -/
def CellOk (K : Fg) (ρ : List Addr) (ω : Addr → Prop) (H : Hp) (a : Addr) : Cell → Prop
  | .lst ds => ∃ xs, H a = some (.lst xs) ∧ RepA K ρ ω H ds xs
structure HRel (K : Fg) (ρ : List Addr) (ω : Addr → Prop) (H : Hp) (h : Hs) : Prop where
  hlen : ρ.length = h.length
  cell : ∀ (r : Nat) c, h[r]? = some c → ∃ a, ρ[r]? = some a ∧ CellOk K ρ ω H a c
  nd : ρ.Nodup
  ro : ∀ a ∈ ρ, ω a
  oh : ∀ a, ω a → H a ≠ none
/-- what a call may have done: it wrote at ρ alone -/
structure Step (ρ : List Addr) (ω : Addr → Prop) (H : Hp) (ρ' : List Addr) (ω' : Addr → Prop) (H' : Hp) : Prop where
  pre : ∀ (i : Nat) a, ρ[i]? = some a → ρ'[i]? = some a
  sub : ∀ a, ω a → ω' a
  new : ∀ a, ω' a → ω a ∨ H a = none
  newr : ∀ a ∈ ρ', a ∈ ρ ∨ H a = none
  keep : ∀ a o, H a = some o → a ∉ ρ → H' a = some o
  tup : ∀ a xs, H a = some (.tup xs) → H' a = some (.tup xs)
  frz : ∀ a o u, H a = some (.frz o u) → H' a = some (.frz o u)
  more : ∀ a, H a ≠ none → H' a ≠ none
/-- what a statement may have done: it wrote at ω alone -/
structure StepW (ρ : List Addr) (ω : Addr → Prop) (H : Hp) (ρ' : List Addr) (ω' : Addr → Prop) (H' : Hp) : Prop where
  pre : ∀ (i : Nat) a, ρ[i]? = some a → ρ'[i]? = some a
  new : ∀ a, ω' a → ω a ∨ H a = none
  keep : ∀ a o, H a = some o → ¬ ω a → H' a = some o
  tup : ∀ a xs, H a = some (.tup xs) → H' a = some (.tup xs)
  frz : ∀ a o u, H a = some (.frz o u) → H' a = some (.frz o u)
section
variable {K : Fg} {ρ ρ' ρ'' : List Addr} {ω ω' ω'' : Addr → Prop} {H H' H'' : Hp} {h h' : Hs}
theorem Step.refl : Step ρ ω H ρ ω H := ⟨fun _ _ e => e, fun _ e => e, fun _ e => .inl e, fun _ e => .inl e, fun _ _ e _ => e, fun _ _ e => e, fun _ _ _ e => e, fun _ e => e⟩
theorem StepW.refl : StepW ρ ω H ρ ω H := ⟨fun _ _ e => e, fun _ e => .inl e, fun _ _ e _ => e, fun _ _ e => e, fun _ _ _ e => e⟩
theorem Step.trans (a : Step ρ ω H ρ' ω' H') (b : Step ρ' ω' H' ρ'' ω'' H'') : Step ρ ω H ρ'' ω'' H'' where
  pre := fun i x e => b.pre i x (a.pre i x e)
  sub := fun x e => b.sub x (a.sub x e)
  new := fun x e => by
    rcases b.new x e with e | e
    · exact a.new x e
    · cases q : H x with
      | none => exact .inr rfl
      | some o => exact absurd e (a.more x (by rw [q]; simp))
  newr := fun x e => by
    rcases b.newr x e with e | e
    · exact a.newr x e
    · cases q : H x with
      | none => exact .inr rfl
      | some o => exact absurd e (a.more x (by rw [q]; simp))
  keep := fun x o e n => b.keep x o (a.keep x o e n) fun z => by
    rcases a.newr x z with z | z
    · exact n z
    · rw [e] at z; cases z
  tup := fun x xs e => b.tup x xs (a.tup x xs e)
  frz := fun x o u e => b.frz x o u (a.frz x o u e)
  more := fun x e => b.more x (a.more x e)
theorem StepW.trans (a : StepW ρ ω H ρ' ω' H') (b : StepW ρ' ω' H' ρ'' ω'' H'') : StepW ρ ω H ρ'' ω'' H'' where
  pre := fun i x e => b.pre i x (a.pre i x e)
  new := fun x e => by
    rcases b.new x e with e | e
    · exact a.new x e
    · by_cases w : ω x
      · exact .inl w
      · cases q : H x with
        | none => exact .inr rfl
        | some o => rw [a.keep x o q w] at e; cases e
  keep := fun x o e n => b.keep x o (a.keep x o e n) fun z => by
    rcases a.new x z with z | z
    · exact n z
    · rw [e] at z; cases z
  tup := fun x xs e => b.tup x xs (a.tup x xs e)
  frz := fun x o u e => b.frz x o u (a.frz x o u e)
theorem Step.weak (s : Step ρ ω H ρ' ω' H') (ro : ∀ a ∈ ρ, ω a) : StepW ρ ω H ρ' ω' H' :=
  ⟨s.pre, s.new, fun a o e n => s.keep a o e fun z => n (ro a z), s.tup, s.frz⟩
theorem sqT_keep (t : ∀ a xs, H a = some (.tup xs) → H' a = some (.tup xs)) (f : ∀ a o u, H a = some (.frz o u) → H' a = some (.frz o u)) {a : Addr} {xs : List V} (q : SqT K H a xs) : SqT K H' a xs := by
  rcases q with (q | ⟨o, q⟩) | q
  · exact .inl (.inl (t a xs q))
  · exact .inl (.inr ⟨o, f a o _ q⟩)
  · exact .inr q
theorem StepW.rep (s : StepW ρ ω H ρ' ω' H') {d : D} {v : V} (r : Rep K ρ ω H d v) : Rep K ρ' ω' H' d v :=
  Rep.mono (fun a xs q => sqT_keep s.tup s.frz q) (fun a xs q n => ⟨s.keep a _ q n, fun z => by
    rcases s.new a z with z | z
    · exact n z
    · rw [q] at z; cases z⟩) s.pre s.frz d v r
theorem StepW.repA (s : StepW ρ ω H ρ' ω' H') {ds : List D} {xs : List V} (r : RepA K ρ ω H ds xs) : RepA K ρ' ω' H' ds xs :=
  RepA.mono (fun a xs q => sqT_keep s.tup s.frz q) (fun a xs q n => ⟨s.keep a _ q n, fun z => by
    rcases s.new a z with z | z
    · exact n z
    · rw [q] at z; cases z⟩) s.pre s.frz ds xs r
theorem Step.rep (s : Step ρ ω H ρ' ω' H') (hr : HRel K ρ ω H h) {d : D} {v : V} (r : Rep K ρ ω H d v) : Rep K ρ' ω' H' d v := (s.weak hr.ro).rep r
theorem Step.repA (s : Step ρ ω H ρ' ω' H') (hr : HRel K ρ ω H h) {ds : List D} {xs : List V} (r : RepA K ρ ω H ds xs) : RepA K ρ' ω' H' ds xs := (s.weak hr.ro).repA r

/-- a new object, or nothing -/
def Grow (H H' : Hp) : Prop := H' = H ∨ ∃ p o, H p = none ∧ H' = upd H p o
theorem Grow.keep (g : Grow H H') {a : Addr} {o : HO} (e : H a = some o) : H' a = some o := by
  rcases g with rfl | ⟨p, u, n, rfl⟩
  · exact e
  · rw [upd_ne (ne_of_none e n)]; exact e
theorem Grow.step (g : Grow H H') : Step ρ ω H ρ ω H' :=
  ⟨fun _ _ e => e, fun _ e => e, fun _ e => .inl e, fun _ e => .inl e, fun _ _ e _ => g.keep e, fun _ _ e => g.keep e, fun _ _ _ e => g.keep e, fun a e => by
    cases q : H a with
    | none => exact absurd q e
    | some o => rw [g.keep q]; simp⟩
theorem HRel.grow (r : HRel K ρ ω H h) (g : Grow H H') : HRel K ρ ω H' h := by
  refine ⟨r.hlen, fun i c e => ?_, r.nd, r.ro, fun a e => (g.step (ρ := ρ) (ω := ω)).more a (r.oh a e)⟩
  obtain ⟨a, e1, c1⟩ := r.cell i c e
  refine ⟨a, e1, ?_⟩
  cases c with
  | lst ds =>
    obtain ⟨xs, e2, r2⟩ := c1
    exact ⟨xs, g.keep e2, g.step.repA r r2⟩
theorem Grow.same : Grow H H := .inl rfl
theorem Grow.new {p : Addr} {o : HO} (n : H p = none) : Grow H (upd H p o) := .inr ⟨p, o, n, rfl⟩
end

/-! ### the state of a def's body -/
structure Bs where
  ρ : List Addr
  ω : Addr → Prop
  H : Hp
structure Rel (K : Fg) (B : Bs) (ρ : List Addr) (ω : Addr → Prop) (σ : L2.St) (H : Hp) (e : En) (h : Hs) : Prop where
  hr : HRel K ρ ω H h
  st : Step B.ρ B.ω B.H ρ ω H
  bo : ∀ a, B.ω a → B.H a ≠ none
  len : e.length = σ.length
  val : ∀ (i : Nat) d, e[i]? = some (.val d) → ∃ v, σ[i]? = some (some v) ∧ Rep K ρ ω H d v
  own : ∀ (i : Nat) ds, e[i]? = some (.own ds) → ∃ a xs, σ[i]? = some (some (.ref a)) ∧ H a = some (.lst xs) ∧ ω a ∧ a ∉ ρ ∧ B.H a = none ∧ RepA K ρ ω H ds xs
  apart : ∀ (i j : Nat) ds es, e[i]? = some (.own ds) → e[j]? = some (.own es) → σ[i]? = σ[j]? → i = j
section
variable {K : Fg} {B : Bs} {ρ ρ' : List Addr} {ω ω' : Addr → Prop} {σ : L2.St} {H H' : Hp} {e : En} {h h' : Hs}
theorem Rel.step (r : Rel K B ρ ω σ H e h) (s : Step ρ ω H ρ' ω' H') (hr : HRel K ρ' ω' H' h') : Rel K B ρ' ω' σ H' e h' := by
  refine ⟨hr, r.st.trans s, r.bo, r.len, fun i d q => ?_, fun i ds q => ?_, r.apart⟩
  · obtain ⟨v, q1, q2⟩ := r.val i d q
    exact ⟨v, q1, s.rep r.hr q2⟩
  · obtain ⟨a, xs, q1, q2, q3, q4, q5, q6⟩ := r.own i ds q
    refine ⟨a, xs, q1, s.keep a _ q2 q4, s.sub a q3, fun z => ?_, q5, s.repA r.hr q6⟩
    rcases s.newr a z with z | z
    · exact q4 z
    · rw [q2] at z; cases z
theorem Rel.grow (r : Rel K B ρ ω σ H e h) (g : Grow H H') : Rel K B ρ ω σ H' e h := r.step g.step (r.hr.grow g)
theorem Rel.fresh (r : Rel K B ρ ω σ H e h) {p : Addr} (n : H p = none) : B.H p = none := by
  cases q : B.H p with
  | none => rfl
  | some o => exact absurd n (r.st.more p (by rw [q]; simp))
end

/-! ### exceptions -/
def XRep (K : Fg) (mg : Str → Option Value) (ρ : List Addr) (ω : Addr → Prop) (H : Hp) (x : Exn) (cls : Value) (d : Option Addr) : Prop :=
  mg x.cls = some cls ∧ match x.arg with
    | none => d = none
    | some y => ∃ a v, d = some a ∧ H a = some (.xd [("line", v)]) ∧ Rep K ρ ω H y v

/-! ### what is fixed in a def -/
structure Sx where
  P : Program
  w : World
  K : Fg
  mg : Str → Option Value
  base : PySem.Heap
  N : List Str
  sc : Scope
  k : Nat
  W : WX
  B : Bs
  fn : Str → Bool
/-- a name of the module or a built-in's -/
abbrev Glb (S : Sx) (x : Str) : Prop := S.sc.names.lookup x = some .globalImplicit
structure Sx.Ok (S : Sx) (X : Cx) : Prop where
  P : X.prog = S.P
  w : X.w = S.w
  K : X.K = S.K
  mg : X.mg = S.mg
  base : X.base = S.base
  N : X.N = S.N
  sc : X.env.scope = S.sc
  calm : X.calm = true
  room : Room S.k X.A
  tk : Takes X S.W
  po : PassesOwn (model X.prog X.w) X.A X.env X.xe
  fn : ∀ x, S.fn x = true → X.fn x = true

/-! ### ends of expressions -/
def Post {α β : Type} (S : Sx) (R : List Addr → (Addr → Prop) → Hp → α → β → Prop) (ρ : List Addr) (ω : Addr → Prop) (σ : L2.St) (H : Hp) (r : Res α) (Q : β → Hp → Prop) : Prop :=
  match r with
  | .ok a h' => ∀ b H' ρ' ω', Step ρ ω H ρ' ω' H' → HRel S.K ρ' ω' H' h' → R ρ' ω' H' a b → Q b H'
  | .exc x h' => ∀ cls d H' ρ' ω', Step ρ ω H ρ' ω' H' → HRel S.K ρ' ω' H' h' → XRep S.K S.mg ρ' ω' H' x cls d → S.W cls d σ H'
  | .stuck => False
abbrev RD (S : Sx) : List Addr → (Addr → Prop) → Hp → D → V → Prop := fun ρ ω H d v => Rep S.K ρ ω H d v
abbrev RDs (S : Sx) : List Addr → (Addr → Prop) → Hp → List D → List V → Prop := fun ρ ω H d v => RepA S.K ρ ω H d v
abbrev RB : List Addr → (Addr → Prop) → Hp → Bool → Bool → Prop := fun _ _ _ a b => a = b
abbrev RO : List Addr → (Addr → Prop) → Hp → Option Int → Option Int → Prop := fun _ _ _ a b => a = b
section
variable {S : Sx} {α β γ δ : Type} {R : List Addr → (Addr → Prop) → Hp → α → β → Prop} {R1 : List Addr → (Addr → Prop) → Hp → γ → δ → Prop} {ρ ρ' : List Addr} {ω ω' : Addr → Prop} {σ : L2.St} {H H' : Hp}
theorem Post.step {r : Res α} {Q : β → Hp → Prop} (p : Post S R ρ ω σ H r Q) (s : Step ρ ω H ρ' ω' H') : Post S R ρ' ω' σ H' r Q := by
  cases r with
  | ok a h => exact fun b H'' ρ'' ω'' s2 hr q => p b H'' ρ'' ω'' (s.trans s2) hr q
  | exc x h => exact fun cls d H'' ρ'' ω'' s2 hr q => p cls d H'' ρ'' ω'' (s.trans s2) hr q
  | stuck => exact p
theorem Post.bind {r : Res γ} {f : γ → Hs → Res α} {Q : β → Hp → Prop} {Q1 : δ → Hp → Prop} (p : Post S R ρ ω σ H (r.bind f) Q)
    (k : ∀ a h1 b H1 ρ1 ω1, Step ρ ω H ρ1 ω1 H1 → HRel S.K ρ1 ω1 H1 h1 → R1 ρ1 ω1 H1 a b → Post S R ρ1 ω1 σ H1 (f a h1) Q → Q1 b H1) : Post S R1 ρ ω σ H r Q1 := by
  cases r with
  | ok a h => exact fun b H1 ρ1 ω1 s hr q => k a h b H1 ρ1 ω1 s hr q (Post.step (r := f a h) p s)
  | exc x h => exact p
  | stuck => exact p
end

/-! ### ends of statements -/
def SPost (S : Sx) (ρ : List Addr) (ω : Addr → Prop) (H : Hp) (r : SRes) (Dn : Ends) : Prop :=
  match r with
  | .nx e h' => ∀ σ' H' ρ' ω', Rel S.K S.B ρ' ω' σ' H' e h' → StepW ρ ω H ρ' ω' H' → Dn.nx σ' H'
  | .bk e h' => ∀ σ' H' ρ' ω', Rel S.K S.B ρ' ω' σ' H' e h' → StepW ρ ω H ρ' ω' H' → Dn.bk σ' H'
  | .ct e h' => ∀ σ' H' ρ' ω', Rel S.K S.B ρ' ω' σ' H' e h' → StepW ρ ω H ρ' ω' H' → Dn.ct σ' H'
  | .rt d h' => ∀ v H' ρ' ω', Step S.B.ρ S.B.ω S.B.H ρ' ω' H' → HRel S.K ρ' ω' H' h' → Rep S.K ρ' ω' H' d v → Dn.rt v H'
  | .exc x e h' => ∀ cls d σ' H' ρ' ω', Rel S.K S.B ρ' ω' σ' H' e h' → XRep S.K S.mg ρ' ω' H' x cls d → S.W cls d σ' H'
  | .stuck => False
section
variable {S : Sx} {ρ ρ' : List Addr} {ω ω' : Addr → Prop} {σ : L2.St} {H H' : Hp} {e : En} {h : Hs}
theorem SPost.step {r : SRes} {Dn : Ends} (p : SPost S ρ ω H r Dn) (s : StepW ρ ω H ρ' ω' H') : SPost S ρ' ω' H' r Dn := by
  cases r with
  | nx e h => exact fun σ' H'' ρ'' ω'' rl s2 => p σ' H'' ρ'' ω'' rl (s.trans s2)
  | bk e h => exact fun σ' H'' ρ'' ω'' rl s2 => p σ' H'' ρ'' ω'' rl (s.trans s2)
  | ct e h => exact fun σ' H'' ρ'' ω'' rl s2 => p σ' H'' ρ'' ω'' rl (s.trans s2)
  | rt d h => exact p
  | exc x e h => exact p
  | stuck => exact p
theorem SPost.ofE {γ δ : Type} {R1 : List Addr → (Addr → Prop) → Hp → γ → δ → Prop} {r : Res γ} {f : γ → Hs → SRes} {Dn : Ends} {Q1 : δ → Hp → Prop} (rl : Rel S.K S.B ρ ω σ H e h) (p : SPost S ρ ω H (r.toS e f) Dn)
    (k : ∀ a h1 b H1 ρ1 ω1, Step ρ ω H ρ1 ω1 H1 → HRel S.K ρ1 ω1 H1 h1 → R1 ρ1 ω1 H1 a b → SPost S ρ1 ω1 H1 (f a h1) Dn → Q1 b H1) : Post S R1 ρ ω σ H r Q1 := by
  cases r with
  | ok a h1 => exact fun b H1 ρ1 ω1 s hr q => k a h1 b H1 ρ1 ω1 s hr q (SPost.step (r := f a h1) p (s.weak rl.hr.ro))
  | exc x h1 => exact fun cls d H1 ρ1 ω1 s hr q => p cls d σ H1 ρ1 ω1 (rl.step s hr) q
  | stuck => exact p
end

/-! ### judgements -/
structure SE (S : Sx) (e : Expr) (m : EM D) : Prop where
  ex : ∃ t : TE, (∀ X, S.Ok X → PE X e t) ∧ ∀ ρ ω σ H en h Q, Rel S.K S.B ρ ω σ H en h → Post S (RD S) ρ ω σ H (m en h) Q → t σ H Q
structure STt (S : Sx) (e : Expr) (m : EM Bool) : Prop where
  ex : ∃ t : TT, (∀ X, S.Ok X → PT X e t) ∧ ∀ ρ ω σ H en h Q, Rel S.K S.B ρ ω σ H en h → Post S RB ρ ω σ H (m en h) Q → t σ H Q
structure SWt (S : Sx) (e : Expr) (m : EM Bool) : Prop where
  ex : ∃ t : TT, (∀ X, S.Ok X → PW X e t) ∧ ∀ ρ ω σ H en h Q, Rel S.K S.B ρ ω σ H en h → Post S RB ρ ω σ H (m en h) Q → t σ H Q
structure SA (S : Sx) (es : List Expr) (ms : List (EM D)) : Prop where
  ex : ∃ t : TA, (∀ X, S.Ok X → PA X es t) ∧ ∀ ρ ω σ H en h Q, Rel S.K S.B ρ ω σ H en h → Post S (RDs S) ρ ω σ H (mArgs ms en h) Q → t σ H Q
structure SO (S : Sx) (e : Option Expr) (m : EM (Option Int)) : Prop where
  ex : ∃ t : TO, (∀ X, S.Ok X → PO X e t) ∧ ∀ ρ ω σ H en h Q, Rel S.K S.B ρ ω σ H en h → Post S RO ρ ω σ H (m en h) Q → t σ H Q
structure SS (S : Sx) (st : Stmt) (m : SM) : Prop where
  ex : ∃ t : TS, (∀ X, S.Ok X → PS X st t) ∧ ∀ ρ ω σ H en h Dn, Rel S.K S.B ρ ω σ H en h → SPost S ρ ω H (m en h) Dn → t Dn σ H
structure SSs (S : Sx) (st : List Stmt) (m : SM) : Prop where
  ex : ∃ t : TS, (∀ X, S.Ok X → PSs X st t) ∧ ∀ ρ ω σ H en h Dn, Rel S.K S.B ρ ω σ H en h → SPost S ρ ω H (m en h) Dn → t Dn σ H
end DS

set_option Elab.async false
set_option linter.all false
set_option maxRecDepth 100000
set_option maxHeartbeats 4000000
/-! DExpr: expressions. -/
namespace DS
open PySem PySem.Spec PyProof.Rows L2
section
variable {S : Sx} {x : Str} {p pos : Pos} {a b c : Expr} {ma mb mc : EM D}

/-! ### names, constants -/
theorem se_var {i : Nat} (hN : S.N[i]? = some x) (hv : Vis S.sc x) (hd : (x == ("__debug__" : Str)) = false := by decide) (hcd : (x == ("__classdict__" : Str)) = false := by decide) : SE S (.Name x pos) (mVar i) := by
  refine ⟨⟨tVar i, fun X o => pe_var (by rw [o.N]; exact hN) (by rw [o.sc]; exact hv) hd hcd, fun ρ ω σ H en h Q rl p => ?_⟩⟩
  cases q : en[i]? with
  | none =>
    unfold mVar at p
    rw [q] at p
    exact p.elim
  | some sl =>
    unfold mVar at p
    rw [q] at p
    cases sl with
    | val d =>
      obtain ⟨v, e1, r⟩ := rl.val i d q
      exact ⟨v, e1, p v H ρ ω .refl rl.hr r⟩
    | no => exact p.elim
    | own ds => exact p.elim
theorem se_int {i : Int} {j : Nat} : SE S (.Constant (.int i) j pos) (mVal (.int i)) := ⟨⟨_, fun _ _ => pe_int, fun ρ ω _ H _ _ _ rl p => p (.int i) H ρ ω .refl rl.hr rfl⟩⟩
theorem se_bl {i : Bool} {j : Nat} : SE S (.Constant (.bool i) j pos) (mVal (.bl i)) := ⟨⟨_, fun _ _ => pe_bl, fun ρ ω _ H _ _ _ rl p => p (.bl i) H ρ ω .refl rl.hr rfl⟩⟩
theorem se_non {j : Nat} : SE S (.Constant .none j pos) (mVal .non) := ⟨⟨_, fun _ _ => pe_non, fun ρ ω _ H _ _ _ rl p => p .non H ρ ω .refl rl.hr rfl⟩⟩
theorem se_str {i : Str} {j : Nat} : SE S (.Constant (.str i) j pos) (mVal (.str i)) := ⟨⟨_, fun _ _ => pe_str, fun ρ ω _ H _ _ _ rl p => p (.str i) H ρ ω .refl rl.hr rfl⟩⟩
/-- a constant of the module -/
structure Con (K : Fg) (mg : Str → Option Value) (x : Str) (d : D) : Prop where
  ex : ∃ u v, mg x = some u ∧ RelV v u ∧ ∀ ρ ω H, Rep K ρ ω H d v
theorem se_con {d : D} (c : Con S.K S.mg x d) (hg : Glb S x) (hd : (x == ("__debug__" : Str)) = false := by decide) : SE S (.Name x pos) (mVal d) := by
  obtain ⟨u, v, e, r, q⟩ := c.ex
  exact ⟨⟨tC v, fun X o => pe_glob (by show X.env.scope.names.lookup x = _; rw [o.sc]; exact hg) (by rw [o.mg]; exact e) r hd, fun ρ ω _ H _ _ _ rl p => p v H ρ ω .refl rl.hr (q ρ ω H)⟩⟩

/-! ### argument lists -/
theorem sa_nil : SA S [] [] := ⟨⟨tNil, fun _ _ => pa_nil, fun ρ ω _ H _ _ _ rl p => p [] H ρ ω .refl rl.hr rfl⟩⟩
theorem sa_cons {es : List Expr} {ms : List (EM D)} (ha : SE S a ma) (hr : SA S es ms) (hs : ∀ env, starEach (a :: es) env = (false, eval a env) :: starEach es env := by intro _; rfl) : SA S (a :: es) (ma :: ms) := by
  obtain ⟨ta, pa, sa⟩ := ha.ex
  obtain ⟨tr, pr, sr⟩ := hr.ex
  refine ⟨⟨tCons ta tr, fun X o => pa_cons (pa X o) (pr X o) (hs _), fun ρ ω σ H en h Q rl p => ?_⟩⟩
  refine sa ρ ω σ H en h _ rl (Post.bind p fun d h1 v H1 ρ1 ω1 s1 hr1 r1 p1 => ?_)
  refine sr ρ1 ω1 σ H1 en h1 _ (rl.step s1 hr1) (Post.bind p1 fun ds h2 vs H2 ρ2 ω2 s2 hr2 r2 p2 => ?_)
  exact p2 (v :: vs) H2 ρ2 ω2 .refl hr2 (RepA.cons (s2.rep hr1 r1) r2)

/-! ### displays -/
theorem line_eq : sizeLine = LINE := by rw [sizeLine_eq]; rfl
theorem fresh_w {ρ : List Addr} {ω : Addr → Prop} {H : Hp} {h : Hs} {K : Fg} (hr : HRel K ρ ω H h) {p : Addr} (n : H p = none) : ¬ ω p := fun z => hr.oh p z n
theorem rep_lst {ρ : List Addr} {ω : Addr → Prop} {H : Hp} {h : Hs} {K : Fg} (hr : HRel K ρ ω H h) {p : Addr} (n : H p = none) {ds : List D} {xs : List V} (r : RepA K ρ ω H ds xs) : Rep K ρ ω (upd H p (.lst xs)) (.lst ds) (.ref p) :=
  ⟨p, xs, rfl, upd_same, fresh_w hr n, (Grow.step (.new n)).repA hr r⟩
theorem rep_tup {ρ : List Addr} {ω : Addr → Prop} {H : Hp} {h : Hs} {K : Fg} (hr : HRel K ρ ω H h) {p : Addr} (n : H p = none) {ds : List D} {xs : List V} (r : RepA K ρ ω H ds xs) : Rep K ρ ω (upd H p (.tup xs)) (.tup ds) (.ref p) :=
  ⟨p, xs, rfl, .inl (.inl upd_same), (Grow.step (.new n)).repA hr r⟩
theorem se_tup {es : List Expr} {ms : List (EM D)} {k : Nat} (ha : SA S es ms) : SE S (.Tuple es k pos) (mTup ms) := by
  obtain ⟨t, pa, sa⟩ := ha.ex
  refine ⟨⟨tTup t, fun X o => pe_tup (pa X o), fun ρ ω σ H en h Q rl p => ?_⟩⟩
  refine sa ρ ω σ H en h _ rl (Post.bind p fun ds h1 vs H1 ρ1 ω1 s1 hr1 r1 p1 => ?_)
  by_cases hz : ds.length ≤ LINE
  · rw [if_pos hz] at p1
    refine ⟨by rw [← r1.len, line_eq]; exact hz, fun q n => p1 (.ref q) _ ρ1 ω1 (Grow.step (.new n)) (hr1.grow (.new n)) (rep_tup hr1 n r1)⟩
  · rw [if_neg hz] at p1
    exact p1.elim
theorem se_lst {es : List Expr} {ms : List (EM D)} (ha : SA S es ms) : SE S (.List es pos) (mLst ms) := by
  obtain ⟨t, pa, sa⟩ := ha.ex
  refine ⟨⟨tLst t, fun X o => pe_lst (pa X o), fun ρ ω σ H en h Q rl p => ?_⟩⟩
  refine sa ρ ω σ H en h _ rl (Post.bind p fun ds h1 vs H1 ρ1 ω1 s1 hr1 r1 p1 => ?_)
  by_cases hz : ds.length ≤ LINE
  · rw [if_pos hz] at p1
    refine ⟨by rw [← r1.len, line_eq]; exact hz, fun q n => p1 (.ref q) _ ρ1 ω1 (Grow.step (.new n)) (hr1.grow (.new n)) (rep_lst hr1 n r1)⟩
  · rw [if_neg hz] at p1
    exact p1.elim
/-- a list display that is shared -/
theorem new_step {ρ : List Addr} {ω : Addr → Prop} {H : Hp} {h : Hs} {K : Fg} (hr : HRel K ρ ω H h) {p : Addr} (n : H p = none) (o : HO) : Step ρ ω H (ρ ++ [p]) (fun a => ω a ∨ a = p) (upd H p o) :=
  ⟨fun i a e => by
      rw [List.getElem?_append_left (List.getElem?_eq_some_iff.mp e).1]; exact e, fun a e => .inl e, fun a e => by
      rcases e with e | e
      · exact .inl e
      · subst e; exact .inr n, fun a e => by
      rcases List.mem_append.mp e with e | e
      · exact .inl e
      · rw [List.mem_singleton.mp e]; exact .inr n, fun a u e _ => by rw [upd_ne (ne_of_none e n)]; exact e, fun a xs e => by rw [upd_ne (ne_of_none e n)]; exact e, fun a u v e => by rw [upd_ne (ne_of_none e n)]; exact e,
    fun a e => by
      by_cases z : a = p
      · subst z; rw [upd_same]; simp
      · rw [upd_ne z]; exact e⟩
theorem CellOk.mono {ρ ρ' : List Addr} {ω ω' : Addr → Prop} {H H' : Hp} {K : Fg} {h : Hs} {a : Addr} {cl : Cell} (s : Step ρ ω H ρ' ω' H') (hr : HRel K ρ ω H h) (k : ∀ o, H a = some o → H' a = some o) (c : CellOk K ρ ω H a cl) : CellOk K ρ' ω' H' a cl := by
  cases cl with
  | lst ds =>
    obtain ⟨xs, e, r⟩ := c
    exact ⟨xs, k _ e, s.repA hr r⟩
theorem new_hrel {ρ : List Addr} {ω : Addr → Prop} {H : Hp} {h : Hs} {K : Fg} (hr : HRel K ρ ω H h) {p : Addr} (n : H p = none) {ds : List D} {xs : List V} (r : RepA K ρ ω H ds xs) :
    HRel K (ρ ++ [p]) (fun a => ω a ∨ a = p) (upd H p (.lst xs)) (h ++ [.lst ds]) := by
  have s := new_step hr n (.lst xs)
  refine ⟨by simp [hr.hlen], fun i c e => ?_, ?_, fun a e => ?_, fun a e => ?_⟩
  · by_cases hi : i < h.length
    · rw [List.getElem?_append_left hi] at e
      obtain ⟨a, e1, c1⟩ := hr.cell i c e
      exact ⟨a, s.pre i a e1, c1.mono s hr fun o q => by rw [upd_ne (ne_of_none q n)]; exact q⟩
    · rw [List.getElem?_append_right (by omega)] at e
      have e0 : i - h.length = 0 := by
        cases z : i - h.length with
        | zero => rfl
        | succ m => rw [z] at e; simp at e
      rw [e0] at e
      simp at e
      subst e
      refine ⟨p, ?_, xs, upd_same, s.repA hr r⟩
      rw [List.getElem?_append_right (by rw [hr.hlen]; omega), hr.hlen, e0]
      rfl
  · rw [List.nodup_append]
    refine ⟨hr.nd, by simp, fun a ha b hb => ?_⟩
    rw [List.mem_singleton.mp hb]
    rintro rfl
    exact hr.oh a (hr.ro a ha) n
  · rcases List.mem_append.mp e with e | e
    · exact .inl (hr.ro a e)
    · exact .inr (List.mem_singleton.mp e)
  · rcases e with e | e
    · exact s.more a (hr.oh a e)
    · subst e; rw [upd_same]; simp
theorem se_new {es : List Expr} {ms : List (EM D)} (ha : SA S es ms) : SE S (.List es pos) (mNew ms) := by
  obtain ⟨t, pa, sa⟩ := ha.ex
  refine ⟨⟨tLst t, fun X o => pe_lst (pa X o), fun ρ ω σ H en h Q rl p => ?_⟩⟩
  refine sa ρ ω σ H en h _ rl (Post.bind p fun ds h1 vs H1 ρ1 ω1 s1 hr1 r1 p1 => ?_)
  by_cases hz : ds.length ≤ LINE
  · rw [if_pos hz] at p1
    refine ⟨by rw [← r1.len, line_eq]; exact hz, fun q n => p1 (.ref q) _ _ _ (new_step hr1 n _) (new_hrel hr1 n r1) ⟨q, rfl, ?_⟩⟩
    rw [List.getElem?_append_right (by rw [hr1.hlen]; omega), hr1.hlen]
    simp
  · rw [if_neg hz] at p1
    exact p1.elim

/-! ### operators, by values -/
def Op2Ok (K : Fg) (r : R2) (f : Op2) : Prop := ∀ ρ ω H h a b x y z (Q : VK), HRel K ρ ω H h → Rep K ρ ω H a x → Rep K ρ ω H b y → f h a b = some z → (∀ v H', Grow H H' → Rep K ρ ω H' z v → Q v H') → r x y H Q
def Op1Ok (K : Fg) (r : V → Hp → VK → Prop) (f : Op1) : Prop := ∀ ρ ω H h a x z (Q : VK), HRel K ρ ω H h → Rep K ρ ω H a x → f h a = some z → (∀ v H', Grow H H' → Rep K ρ ω H' z v → Q v H') → r x H Q
def OpNOk (K : Fg) (r : List V → Hp → VK → Prop) (f : Hs → List D → Option D) : Prop := ∀ ρ ω H h as xs z (Q : VK), HRel K ρ ω H h → RepA K ρ ω H as xs → f h as = some z → (∀ v H', Grow H H' → Rep K ρ ω H' z v → Q v H') → r xs H Q
theorem Post.opt {ρ : List Addr} {ω : Addr → Prop} {σ : L2.St} {H : Hp} {h : Hs} {o : Option D} {Q : VK} (hr : HRel S.K ρ ω H h) (p : Post S (RD S) ρ ω σ H (.opt o h) Q) : ∃ z, o = some z ∧ ∀ v H', Grow H H' → Rep S.K ρ ω H' z v → Q v H' := by
  cases o with
  | none => exact p.elim
  | some z => exact ⟨z, rfl, fun v H' g r => p v H' ρ ω g.step (hr.grow g) r⟩
theorem Op1Ok.N {K : Fg} {r : List V → Hp → VK → Prop} {f : Op1} (h : Op1Ok K (fun x H Q => r [x] H Q) f) : OpNOk K r (op1N f) := by
  intro ρ ω H hs as xs z Q hr ra e k
  cases as with
  | nil => cases e
  | cons a as =>
    cases as with
    | nil =>
      obtain ⟨v, vs, rfl, r1, e2⟩ := ra
      have e3 : vs = [] := e2
      subst e3
      exact h ρ ω H hs a v z Q hr r1 e k
    | cons b as => cases e
theorem Op2Ok.N {K : Fg} {r : List V → Hp → VK → Prop} {f : Op2} (h : Op2Ok K (fun x y H Q => r [x, y] H Q) f) : OpNOk K r (op2N f) := by
  intro ρ ω H hs as xs z Q hr ra e k
  cases as with
  | nil => cases e
  | cons a as =>
    cases as with
    | nil => cases e
    | cons b as =>
      cases as with
      | nil =>
        obtain ⟨v, vs, rfl, r1, u, us, rfl, r2, e2⟩ := ra
        have e3 : us = [] := e2
        subst e3
        exact h ρ ω H hs a b v u z Q hr r1 r2 e k
      | cons c as => cases e

theorem op2_run {r : R2} {f : Op2} {ta tb : TE} (hf : Op2Ok S.K r f)
    (sa : ∀ ρ ω σ H en h Q, Rel S.K S.B ρ ω σ H en h → Post S (RD S) ρ ω σ H (ma en h) Q → ta σ H Q) (sb : ∀ ρ ω σ H en h Q, Rel S.K S.B ρ ω σ H en h → Post S (RD S) ρ ω σ H (mb en h) Q → tb σ H Q)
    {ρ : List Addr} {ω : Addr → Prop} {σ : L2.St} {H : Hp} {en : En} {h : Hs} {Q : VK} (rl : Rel S.K S.B ρ ω σ H en h) (p : Post S (RD S) ρ ω σ H (mOp2 f ma mb en h) Q) : tOp r ta tb σ H Q := by
  refine sa ρ ω σ H en h _ rl (Post.bind p fun d h1 v H1 ρ1 ω1 s1 hr1 r1 p1 => ?_)
  refine sb ρ1 ω1 σ H1 en h1 _ (rl.step s1 hr1) (Post.bind p1 fun d2 h2 v2 H2 ρ2 ω2 s2 hr2 r2 p2 => ?_)
  obtain ⟨z, e, k⟩ := Post.opt hr2 p2
  exact hf ρ2 ω2 H2 h2 d d2 v v2 z Q hr2 (s2.rep hr1 r1) r2 e k
theorem se_bin {op : Operator} {r : R2} {f : Op2} (ho : ∀ X, S.Ok X → OpR X (binaryOp op) r) (hf : Op2Ok S.K r f) (ha : SE S a ma) (hb : SE S b mb) : SE S (.BinOp a op b pos) (mOp2 f ma mb) := by
  obtain ⟨ta, pa, sa⟩ := ha.ex
  obtain ⟨tb, pb, sb⟩ := hb.ex
  exact ⟨⟨tOp r ta tb, fun X o => pe_op (ho X o) (pa X o) (pb X o), fun ρ ω σ H en h Q rl p => op2_run hf sa sb rl p⟩⟩
theorem se_cmp {op : CmpOp} {r : R2} {f : Op2} (ho : ∀ X, S.Ok X → OpR X (compareOp op) r) (hf : Op2Ok S.K r f) (ha : SE S a ma) (hb : SE S b mb) (hm : behindInMarks op b = false := by rfl) : SE S (.Compare a [op] [b] pos) (mOp2 f ma mb) := by
  obtain ⟨ta, pa, sa⟩ := ha.ex
  obtain ⟨tb, pb, sb⟩ := hb.ex
  exact ⟨⟨tOp r ta tb, fun X o => pe_cmpR (ho X o) (pa X o) (pb X o) hm, fun ρ ω σ H en h Q rl p => op2_run hf sa sb rl p⟩⟩
theorem se_un {op : UnaryOp} {r : V → Hp → VK → Prop} {f : Op1} (ho : ∀ X, S.Ok X → UnR X (unaryOp op) r) (hf : Op1Ok S.K r f) (ha : SE S a ma) : SE S (.UnaryOp op a pos) (mOp1 f ma) := by
  obtain ⟨ta, pa, sa⟩ := ha.ex
  refine ⟨⟨tUn r ta, fun X o => pe_un (ho X o) (pa X o), fun ρ ω σ H en h Q rl p => ?_⟩⟩
  refine sa ρ ω σ H en h _ rl (Post.bind p fun d h1 v H1 ρ1 ω1 s1 hr1 r1 p1 => ?_)
  obtain ⟨z, e, k⟩ := Post.opt hr1 p1
  exact hf ρ1 ω1 H1 h1 d v z Q hr1 r1 e k
theorem se_ix {r : R2} {f : Op2} (ho : ∀ X, S.Ok X → IxR X r) (hf : Op2Ok S.K r f) (ha : SE S a ma) (hb : SE S b mb) (hs : PlainIx b := by intro _ _; rfl) : SE S (.Subscript a b pos) (mOp2 f ma mb) := by
  obtain ⟨ta, pa, sa⟩ := ha.ex
  obtain ⟨tb, pb, sb⟩ := hb.ex
  exact ⟨⟨tOp r ta tb, fun X o => pe_ix (ho X o) (pa X o) (pb X o) hs, fun ρ ω σ H en h Q rl p => op2_run hf sa sb rl p⟩⟩
/-- a built-in function's call -/
theorem se_callB {id : String} {r : List V → Hp → VK → Prop} {f : Hs → List D → Option D} {es : List Expr} {ms : List (EM D)} (ho : ∀ X, S.Ok X → CallR X (.builtin id) r) (hf : OpNOk S.K r f) (hg : Glb S x) (hm : S.mg x = none)
    (hv : bootBuiltins x = some (.builtin id)) (ha : SA S (a :: es) ms) (hn : x ≠ "__name__" := by decide) (hdb : (x == ("__debug__" : Str)) = false := by decide)
    (he : ∀ env, starEach (a :: es) env = (false, eval a env) :: starEach es env := by intro _; rfl) (hpl : ∀ env, (backTo pos (starEach es env)).any (·.1) = false := by intro _; rfl) : SE S (.Call (.Name x p) (a :: es) [] pos) (mOpN f ms) := by
  obtain ⟨t, pa, sa⟩ := ha.ex
  refine ⟨⟨tCB r t, fun X o => pe_callB (ho X o) (by show X.env.scope.names.lookup x = _; rw [o.sc]; exact hg) (by rw [o.mg]; exact hm) hv (pa X o) hn hdb (he _) (hpl _), fun ρ ω σ H en h Q rl p => ?_⟩⟩
  refine sa ρ ω σ H en h _ rl (Post.bind p fun d h1 v H1 ρ1 ω1 s1 hr1 r1 p1 => ?_)
  obtain ⟨z, e, k⟩ := Post.opt hr1 p1
  exact hf ρ1 ω1 H1 h1 d v z Q hr1 r1 e k
theorem se_callTy {T : String} {r : List V → Hp → VK → Prop} {f : Hs → List D → Option D} {es : List Expr} {ms : List (EM D)} (ho : ∀ X, S.Ok X → CallR X (.type T) r) (hf : OpNOk S.K r f) (hg : Glb S x) (hm : S.mg x = none)
    (hv : bootBuiltins x = some (.type T)) (ha : SA S (a :: es) ms) (hn : x ≠ "__name__" := by decide) (hdb : (x == ("__debug__" : Str)) = false := by decide)
    (he : ∀ env, starEach (a :: es) env = (false, eval a env) :: starEach es env := by intro _; rfl) (hpl : ∀ env, (backTo pos (starEach es env)).any (·.1) = false := by intro _; rfl) : SE S (.Call (.Name x p) (a :: es) [] pos) (mOpN f ms) := by
  obtain ⟨t, pa, sa⟩ := ha.ex
  refine ⟨⟨tCB r t, fun X o => pe_callTy (ho X o) (by show X.env.scope.names.lookup x = _; rw [o.sc]; exact hg) (by rw [o.mg]; exact hm) hv (pa X o) hn hdb (he _) (hpl _), fun ρ ω σ H en h Q rl p => ?_⟩⟩
  refine sa ρ ω σ H en h _ rl (Post.bind p fun d h1 v H1 ρ1 ω1 s1 hr1 r1 p1 => ?_)
  obtain ⟨z, e, k⟩ := Post.opt hr1 p1
  exact hf ρ1 ω1 H1 h1 d v z Q hr1 r1 e k

/-! ### a def's call -/
def spD (K : Fg) (mg : Str → Option Value) (n : Nat) (f : DF) : Sp := fun vs H Q E => vs.length = n ∧ ∃ ρ ω h ds, HRel K ρ ω H h ∧ RepA K ρ ω H ds vs ∧
  match f ds h with
  | .ok d h' => ∀ v H' ρ' ω', Step ρ ω H ρ' ω' H' → HRel K ρ' ω' H' h' → Rep K ρ' ω' H' d v → Q v H'
  | .exc x h' => ∀ cls dx H' ρ' ω', Step ρ ω H ρ' ω' H' → HRel K ρ' ω' H' h' → XRep K mg ρ' ω' H' x cls dx → E cls dx H'
  | .stuck => False
/-- the module's name x is a def of n parameters that does f, with room k -/
structure Cal (P : Program) (w : World) (K : Fg) (mg : Str → Option Value) (base : PySem.Heap) (k : Nat) (x : Str) (n : Nat) (f : DF) : Prop where
  ex : ∃ (fa : Addr) (fd : FuncData) (ps : List Str), FnOk P w K mg base (L2.CX P w) k fa fd ps (spD K mg n f) ∧ mg x = some (.ref fa) ∧ PySem.W.keepIn K (.ref fa) = true ∧ Binds K fd ps []
theorem mArgs_len : ∀ {ms : List (EM D)} {en : En} {h h' : Hs} {ds : List D}, mArgs ms en h = .ok ds h' → ds.length = ms.length
  | [], _, _, _, ds, e => by
    cases e
    rfl
  | m :: ms, en, h, h', ds, e => by
    unfold mArgs at e
    cases q : m en h with
    | ok d h1 =>
      rw [q] at e
      cases q2 : mArgs ms en h1 with
      | ok xs h2 =>
        simp only [bind_ok, q2] at e
        cases e
        rw [List.length_cons, List.length_cons, mArgs_len q2]
      | exc x h2 => simp only [bind_ok, q2, bind_exc] at e; cases e
      | stuck => simp only [bind_ok, q2, bind_stuck] at e; cases e
    | exc x h1 => rw [q] at e; cases e
    | stuck => rw [q] at e; cases e
theorem call_run {f : DF} {n : Nat} {ms : List (EM D)} {t : TA} (hn : ms.length = n)
    (sa : ∀ ρ ω σ H en h Q, Rel S.K S.B ρ ω σ H en h → Post S (RDs S) ρ ω σ H (mArgs ms en h) Q → t σ H Q)
    {ρ : List Addr} {ω : Addr → Prop} {σ : L2.St} {H : Hp} {en : En} {h : Hs} {Q : VK} (rl : Rel S.K S.B ρ ω σ H en h) (p : Post S (RD S) ρ ω σ H (mCall f ms en h) Q) : tCallS (spD S.K S.mg n f) (WE S.W) t σ H Q := by
  have hl : ∀ ds h1, mArgs ms en h = .ok ds h1 → ds.length = n := fun ds h1 e => (mArgs_len e).trans hn
  unfold mCall at p
  refine sa ρ ω σ H en h _ rl ?_
  cases q : mArgs ms en h with
  | stuck => rw [q] at p; exact p
  | exc x h1 => rw [q] at p; exact p
  | ok ds h1 =>
    rw [q] at p
    intro vs H1 ρ1 ω1 s1 hr1 r1
    refine ⟨by rw [← RepA.len r1]; exact hl ds h1 q, ρ1, ω1, h1, ds, hr1, r1, ?_⟩
    have p' : Post S (RD S) ρ1 ω1 σ H1 (f ds h1) Q := Post.step (r := f ds h1) p s1
    cases q2 : f ds h1 with
    | ok d h2 => rw [q2] at p'; exact p'
    | exc x h2 => rw [q2] at p'; exact p'
    | stuck => rw [q2] at p'; exact p'
theorem se_call {f : DF} {n k : Nat} {es : List Expr} {ms : List (EM D)} (c : Cal S.P S.w S.K S.mg S.base k x n f) (hk : k ≤ S.k) (hg : Glb S x) (ha : SA S (a :: es) ms) (hn : ms.length = n := by rfl)
    (hdb : (x == ("__debug__" : Str)) = false := by decide) (he : ∀ env, starEach (a :: es) env = (false, eval a env) :: starEach es env := by intro _; rfl) (hpl : ∀ env, (backTo pos (starEach es env)).any (·.1) = false := by intro _; rfl) :
    SE S (.Call (.Name x p) (a :: es) [] pos) (mCall f ms) := by
  obtain ⟨t, pa, sa⟩ := ha.ex
  obtain ⟨fa, fd, ps, F, hm, kp, bd⟩ := c.ex
  refine ⟨⟨tCallS (spD S.K S.mg n f) (WE S.W) t, fun X o => ?_, fun ρ ω σ H en h Q rl p => call_run hn sa rl p⟩⟩
  have F' : FnOk X.prog X.w X.K X.mg X.base (L2.CX X.prog X.w) k fa fd ps (spD S.K S.mg n f) := by rw [o.P, o.w, o.K, o.mg, o.base]; exact F
  exact pe_callS F' (o.room.mono hk) (by show X.env.scope.names.lookup x = _; rw [o.sc]; exact hg) (by rw [o.mg]; exact hm) (by rw [o.K]; exact kp) (by rw [o.K]; exact bd) (fun σ => passAt o.tk σ) (pa X o) hdb (he _) (hpl _)
theorem se_call0 {f : DF} {k : Nat} (c : Cal S.P S.w S.K S.mg S.base k x 0 f) (hk : k ≤ S.k) (hg : Glb S x) (hdb : (x == ("__debug__" : Str)) = false := by decide) : SE S (.Call (.Name x p) [] [] pos) (mCall f []) := by
  obtain ⟨fa, fd, ps, F, hm, kp, bd⟩ := c.ex
  refine ⟨⟨tCallS (spD S.K S.mg 0 f) (WE S.W) tNil, fun X o => ?_, fun ρ ω σ H en h Q rl p => call_run (S := S) (ms := []) (t := tNil) rfl (fun ρ ω σ H en h Q rl p => (show Post S (RDs S) ρ ω σ H (.ok [] h) Q from p) [] H ρ ω .refl rl.hr rfl) rl p⟩⟩
  have F' : FnOk X.prog X.w X.K X.mg X.base (L2.CX X.prog X.w) k fa fd ps (spD S.K S.mg 0 f) := by rw [o.P, o.w, o.K, o.mg, o.base]; exact F
  refine ⟨fun pins s σ H Q I h => ?_⟩
  refine wpAny_Call_Name_kw (ld_glob I (by show X.env.scope.names.lookup x = _; rw [o.sc]; exact hg) (by rw [o.mg]; exact hm) ?_ hdb)
  exact PySem.W.callWith_K0 I.kIn (by rw [o.K]; exact kp) (run_fnS (us := []) F' (o.room.mono hk) (by rw [o.K]; exact bd) (passAt o.tk σ) I .nil h)
end
end DS

set_option Elab.async false
set_option linter.all false
set_option maxRecDepth 100000
set_option maxHeartbeats 4000000
/-! DOps: operators and built-ins by values. -/
namespace DS
open PySem PySem.Spec PyProof.Rows L2

/-! ### data as the library's -/
mutual
def toP : D → PyData
  | .non => .none
  | .bl b => .bool b
  | .int i => .int i
  | .str s => .str s
  | .tup ds => .tuple (toPA ds)
  | .lst ds => .list (toPA ds)
  | .ref _ => .none
  | .dic _ _ => .none
  | .scr _ => .none
def toPA : List D → List PyData
  | [] => []
  | d :: ds => toP d :: toPA ds
end
section
variable {K : Fg} {ρ : List Addr} {ω : Addr → Prop} {H : Hp}
mutual
theorem rep_dp : ∀ (d : D) (v : V), clean d = true → Rep K ρ ω H d v → Dp K H v (toP d)
  | .non, v, _, h => by
    have e : v = .non := h
    subst e
    exact .non
  | .bl b, v, _, h => by
    have e : v = .bl b := h
    subst e
    exact .bl b
  | .int i, v, _, h => by
    have e : v = .int i := h
    subst e
    exact .int i
  | .str s, v, _, h => by
    have e : v = .str s := h
    subst e
    exact .str s
  | .tup ds, v, c, h => by
    obtain ⟨a, xs, rfl, h1, h2⟩ := h
    exact .tup h1 (rep_dpA ds xs (by simpa [clean] using c) h2)
  | .lst ds, v, c, h => by
    obtain ⟨a, xs, rfl, h1, _, h2⟩ := h
    exact .lst (SqL.of h1) (rep_dpA ds xs (by simpa [clean] using c) h2)
  | .ref r, v, c, h => by simp [clean] at c
  | .dic ks ds, v, c, h => by simp [clean] at c
  | .scr ns, v, c, h => by simp [clean] at c
theorem rep_dpA : ∀ (ds : List D) (xs : List V), cleanA ds = true → RepA K ρ ω H ds xs → DpAll K H xs (toPA ds)
  | [], xs, _, h => by
    have e : xs = [] := h
    subst e
    exact .nil
  | d :: ds, xs, c, h => by
    obtain ⟨v, vs, rfl, h1, h2⟩ := h
    simp only [cleanA, Bool.and_eq_true] at c
    exact .cons (rep_dp d v c.1 h1) (rep_dpA ds vs c.2 h2)
end
end
mutual
theorem eqv_toP : ∀ (a b : D), clean a = true → clean b = true → PyData.eqv (toP a) (toP b) = eqv a b
  | .non, b, _, _ => by cases b <;> simp_all [toP, PyData.eqv, eqv, clean]
  | .bl _, b, _, _ => by cases b <;> simp_all [toP, PyData.eqv, eqv, clean]
  | .int _, b, _, _ => by cases b <;> simp_all [toP, PyData.eqv, eqv, clean]
  | .str _, b, _, _ => by cases b <;> simp_all [toP, PyData.eqv, eqv, clean]
  | .ref _, _, c, _ => by simp [clean] at c
  | .tup ds, b, c, c2 => by
    cases b with
    | tup es =>
      simp only [toP, PyData.eqv, eqv]
      exact eqvA_toP ds es (by simpa [clean] using c) (by simpa [clean] using c2)
    | ref r => simp [clean] at c2
    | dic ks ds => simp [clean] at c2
    | scr ns => simp [clean] at c2
    | _ => simp [toP, PyData.eqv, eqv]
  | .lst ds, b, c, c2 => by
    cases b with
    | lst es =>
      simp only [toP, PyData.eqv, eqv]
      exact eqvA_toP ds es (by simpa [clean] using c) (by simpa [clean] using c2)
    | ref r => simp [clean] at c2
    | dic ks ds => simp [clean] at c2
    | scr ns => simp [clean] at c2
    | _ => simp [toP, PyData.eqv, eqv]
theorem eqvA_toP : ∀ (ds es : List D), cleanA ds = true → cleanA es = true → PyData.eqvAll (toPA ds) (toPA es) = eqvA ds es
  | [], es, _, _ => by cases es <;> simp [toPA, PyData.eqvAll, eqvA]
  | d :: ds, es, c, c2 => by
    cases es with
    | nil => simp [toPA, PyData.eqvAll, eqvA]
    | cons e es =>
      simp only [cleanA, Bool.and_eq_true] at c c2
      simp only [toPA, PyData.eqvAll, eqvA, eqv_toP d e c.1 c2.1, eqvA_toP ds es c.2 c2.2]
end
mutual
theorem lay_toP : ∀ (d : D), clean d = true → (toP d).canLay0 = true
  | .non, _ => rfl
  | .bl _, _ => rfl
  | .int _, _ => rfl
  | .str s, c => by
    simp only [clean] at c
    simpa [toP, PyData.canLay0, PyData.strOk] using c
  | .ref _, c => by simp [clean] at c
  | .dic _ _, c => by simp [clean] at c
  | .scr _, c => by simp [clean] at c
  | .tup ds, c => by
    simp only [toP, PyData.canLay0]
    exact layA_toP ds (by simpa [clean] using c)
  | .lst ds, c => by
    simp only [toP, PyData.canLay0]
    exact layA_toP ds (by simpa [clean] using c)
theorem layA_toP : ∀ (ds : List D), cleanA ds = true → PyData.canLayAll0 (toPA ds) = true
  | [], _ => rfl
  | d :: ds, c => by
    simp only [cleanA, Bool.and_eq_true] at c
    simp only [toPA, PyData.canLayAll0, lay_toP d c.1, layA_toP ds c.2, Bool.and_self]
end
mutual
theorem dep_toP : ∀ (d : D), (toP d).depth = dep d
  | .non => rfl
  | .bl _ => rfl
  | .int _ => rfl
  | .str s => rfl
  | .ref _ => rfl
  | .dic _ _ => rfl
  | .scr _ => rfl
  | .tup ds => by simp only [toP, PyData.depth, dep, depA_toP ds]
  | .lst ds => by simp only [toP, PyData.depth, dep, depA_toP ds]
theorem depA_toP : ∀ (ds : List D), PyData.depthAll (toPA ds) = depA ds
  | [] => rfl
  | d :: ds => by simp only [toPA, PyData.depthAll, depA, dep_toP d, depA_toP ds]
end
theorem shp_ok {d : D} (h : shp d = true) : SeqAt.shaped (toP d) = true ∧ clean d = true := by
  unfold shp at h
  simp only [Bool.and_eq_true, decide_eq_true_eq] at h
  refine ⟨?_, h.1⟩
  unfold SeqAt.shaped
  simp only [Bool.and_eq_true, decide_eq_true_eq, dep_toP]
  exact ⟨lay_toP d h.1, h.2⟩

/-! ### == and != -/
def rEqA (K : Fg) : R2 := fun x y H Q => rEq x y H Q ∨ rEqD K x y H Q
def rNeA (K : Fg) : R2 := fun x y H Q => rNe x y H Q ∨ rNeD K x y H Q
theorem Room.u64 {k : Nat} {A : Around} (r : Room k A) : A.units + 64 < cLine := r.units
theorem Room.u65 {k : Nat} {A : Around} (r : Room k A) : A.units + 65 < cLine := by have := r.un; omega
theorem ho_eq {S : Sx} : ∀ X, S.Ok X → OpR X (compareOp .Eq) (rEqA S.K) := fun X o => by
  have h := OpR.or (op_eq (X := X)) (op_eqD (X := X) o.room.units)
  rw [o.K] at h
  exact h
theorem ho_ne {S : Sx} : ∀ X, S.Ok X → OpR X (compareOp .NotEq) (rNeA S.K) := fun X o => by
  have h := OpR.or (op_ne (X := X)) (op_neD (X := X) o.room.units)
  rw [o.K] at h
  exact h
theorem scal_rep {K : Fg} {ρ : List Addr} {ω : Addr → Prop} {H : Hp} {a b : D} {x y : V} (hs : scal a b = true) (ra : Rep K ρ ω H a x) (rb : Rep K ρ ω H b y) : L2.scal x y = true ∧ decide (x = y) = eqv a b := by
  cases a <;> cases b <;> first | (simp [scal] at hs; done) | (simp only [Rep] at ra rb; subst ra; subst rb; refine ⟨rfl, ?_⟩; first | exact dec_int | exact dec_bl | exact dec_str | (simp [eqv]))
theorem hf_eq {K : Fg} : Op2Ok K (rEqA K) opEq := by
  intro ρ ω H h a b x y z Q hr ra rb e k
  unfold opEq opEqB at e
  by_cases hs : scal a b = true
  · simp only [hs, Bool.true_or, if_true, Option.map_some, Option.some.injEq] at e
    subst e
    obtain ⟨q1, q2⟩ := scal_rep hs ra rb
    refine .inl ⟨q1, ?_⟩
    rw [q2]
    exact k _ H .same rfl
  · by_cases hp : (shp a && shp b) = true
    · simp only [hs, hp, Bool.or_true, if_true, Option.map_some, Option.some.injEq] at e
      subst e
      simp only [Bool.and_eq_true] at hp
      obtain ⟨s1, c1⟩ := shp_ok hp.1
      obtain ⟨s2, c2⟩ := shp_ok hp.2
      refine .inr ⟨toP a, toP b, rep_dp a x c1 ra, rep_dp b y c2 rb, s1, s2, ?_⟩
      rw [eqv_toP a b c1 c2]
      exact k _ H .same rfl
    · simp [hs, hp] at e
theorem hf_ne {K : Fg} : Op2Ok K (rNeA K) opNe := by
  intro ρ ω H h a b x y z Q hr ra rb e k
  unfold opNe opEqB at e
  by_cases hs : scal a b = true
  · simp only [hs, Bool.true_or, if_true, Option.map_some, Option.some.injEq] at e
    subst e
    obtain ⟨q1, q2⟩ := scal_rep hs ra rb
    refine .inl ⟨q1, ?_⟩
    rw [q2]
    exact k _ H .same rfl
  · by_cases hp : (shp a && shp b) = true
    · simp only [hs, hp, Bool.or_true, if_true, Option.map_some, Option.some.injEq] at e
      subst e
      simp only [Bool.and_eq_true] at hp
      obtain ⟨s1, c1⟩ := shp_ok hp.1
      obtain ⟨s2, c2⟩ := shp_ok hp.2
      refine .inr ⟨toP a, toP b, rep_dp a x c1 ra, rep_dp b y c2 rb, s1, s2, ?_⟩
      rw [eqv_toP a b c1 c2]
      exact k _ H .same rfl
    · simp [hs, hp] at e

/-! ### ints -/
theorem hf_cmpI {K : Fg} {p : Int → Int → Bool} : Op2Ok K (rI0 fun i j => .bl (p i j)) (cmpI p) := by
  intro ρ ω H h a b x y z Q hr ra rb e k
  cases a with
  | int i =>
    cases b with
    | int j =>
      have e1 : x = .int i := ra
      have e2 : y = .int j := rb
      have e3 : D.bl (p i j) = z := Option.some.inj e
      exact ⟨i, j, e1, e2, k _ H .same (by rw [← e3]; rfl)⟩
    | _ => cases e
  | _ => cases e
theorem ho_lt {S : Sx} : ∀ X, S.Ok X → OpR X (compareOp .Lt) (rI0 fun i j => .bl (decide (i < j))) := fun _ _ => op_lt
theorem ho_le {S : Sx} : ∀ X, S.Ok X → OpR X (compareOp .LtE) (rI0 fun i j => .bl (decide (i ≤ j))) := fun _ _ => op_le
theorem ho_gt {S : Sx} : ∀ X, S.Ok X → OpR X (compareOp .Gt) (rI0 fun i j => .bl (decide (j < i))) := fun _ _ => op_gt
theorem ho_ge {S : Sx} : ∀ X, S.Ok X → OpR X (compareOp .GtE) (rI0 fun i j => .bl (decide (j ≤ i))) := fun _ _ => op_ge
theorem hf_lt {K : Fg} : Op2Ok K (rI0 fun i j => .bl (decide (i < j))) opLt := hf_cmpI
theorem hf_le {K : Fg} : Op2Ok K (rI0 fun i j => .bl (decide (i ≤ j))) opLe := hf_cmpI
theorem hf_gt {K : Fg} : Op2Ok K (rI0 fun i j => .bl (decide (j < i))) opGt := hf_cmpI
theorem hf_ge {K : Fg} : Op2Ok K (rI0 fun i j => .bl (decide (j ≤ i))) opGe := hf_cmpI
theorem rep_non {K : Fg} {ρ : List Addr} {ω : Addr → Prop} {H : Hp} {d : D} {v : V} (r : Rep K ρ ω H d v) : decide (v = .non) = isNon d := by
  cases d with
  | non =>
    have e : v = .non := r
    subst e
    rfl
  | bl b =>
    have e : v = .bl b := r
    subst e
    rfl
  | int b =>
    have e : v = .int b := r
    subst e
    rfl
  | str b =>
    have e : v = .str b := r
    subst e
    rfl
  | tup ds =>
    obtain ⟨a, xs, rfl, _⟩ := r
    rfl
  | lst ds =>
    obtain ⟨a, xs, rfl, _⟩ := r
    rfl
  | ref i =>
    obtain ⟨a, rfl, _⟩ := r
    rfl
  | dic ks ds =>
    obtain ⟨a, xs, rfl, _⟩ := r
    rfl
  | scr ns =>
    obtain ⟨a, rfl, _⟩ := r
    rfl
theorem ho_isN {S : Sx} : ∀ X, S.Ok X → OpR X (compareOp .Is) (fun x y H Q => y = .non ∧ Q (.bl (decide (x = .non))) H) := fun _ _ => op_isN
theorem ho_notN {S : Sx} : ∀ X, S.Ok X → OpR X (compareOp .IsNot) (fun x y H Q => y = .non ∧ Q (.bl (!decide (x = .non))) H) := fun _ _ => op_notN
theorem hf_isN {K : Fg} : Op2Ok K (fun x y H Q => y = .non ∧ Q (.bl (decide (x = .non))) H) opIsN := by
  intro ρ ω H h a b x y z Q hr ra rb e k
  cases b with
  | non =>
    have e3 := Option.some.inj e
    refine ⟨rb, ?_⟩
    rw [rep_non ra]
    exact k _ H .same (by rw [← e3]; rfl)
  | _ => cases e
theorem hf_notN {K : Fg} : Op2Ok K (fun x y H Q => y = .non ∧ Q (.bl (!decide (x = .non))) H) opNotN := by
  intro ρ ω H h a b x y z Q hr ra rb e k
  cases b with
  | non =>
    have e3 := Option.some.inj e
    refine ⟨rb, ?_⟩
    rw [rep_non ra]
    refine k _ H .same ?_
    rw [← e3]
    cases a <;> rfl
  | _ => cases e

/-! ### in -/
theorem flat_rep {K : Fg} {ρ : List Addr} {ω : Addr → Prop} {H : Hp} {d : D} {v : V} (hf : flat d = true) (r : Rep K ρ ω H d v) : flatV v = true := by
  cases d <;> first | (simp [flat] at hf; done) | (simp only [Rep] at r; subst r; rfl)
theorem flat_eqv {K : Fg} {ρ : List Addr} {ω : Addr → Prop} {H : Hp} {a b : D} {x y : V} (fa : flat a = true) (fb : flat b = true) (ra : Rep K ρ ω H a x) (rb : Rep K ρ ω H b y) : eqV x y = eqv a b := by
  cases a <;> cases b <;> first | (simp [flat] at fa fb; done) | (simp only [Rep] at ra rb; subst ra; subst rb; simp [eqV, eqv])
theorem flat_any {K : Fg} {ρ : List Addr} {ω : Addr → Prop} {H : Hp} {b : D} {y : V} (fb : flat b = true) (rb : Rep K ρ ω H b y) : ∀ {ds : List D} {xs : List V}, ds.all flat = true → RepA K ρ ω H ds xs → xs.all flatV = true ∧ (xs.any fun x => eqV x y) = (ds.any fun d => eqv d b)
  | [], xs, _, h => by
    have e : xs = [] := h
    subst e
    exact ⟨rfl, rfl⟩
  | d :: ds, xs, f, h => by
    obtain ⟨v, vs, rfl, h1, h2⟩ := h
    simp only [List.all_cons, Bool.and_eq_true] at f
    obtain ⟨q1, q2⟩ := flat_any fb rb f.2 h2
    simp only [List.all_cons, List.any_cons, flat_rep f.1 h1, q1, q2, flat_eqv f.1 fb h1 rb, Bool.and_self, and_self]
theorem any_toPA : ∀ (ds : List D) (b : D), cleanA ds = true → clean b = true → ((toPA ds).any fun z => PyData.eqv z (toP b)) = (ds.any fun z => eqv z b)
  | [], _, _, _ => rfl
  | d :: ds, b, c, cb => by
    simp only [cleanA, Bool.and_eq_true] at c
    simp only [toPA, List.any_cons, eqv_toP d b c.1 cb, any_toPA ds b c.2 cb]
def rInA (K : Fg) : R2 := fun x y H Q => rIn K false x y H Q ∨ rInD K x y H Q
def rNotInA (K : Fg) : R2 := fun x y H Q => rIn K true x y H Q ∨ rNotInD K x y H Q
theorem ho_in {S : Sx} : ∀ X, S.Ok X → OpR X (compareOp .In) (rInA S.K) := fun X o => by
  have h := OpR.or (op_in_seq (X := X)) (op_inD (X := X) (Room.u65 o.room))
  rw [o.K] at h
  exact h
theorem ho_notIn {S : Sx} : ∀ X, S.Ok X → OpR X (compareOp .NotIn) (rNotInA S.K) := fun X o => by
  have h := OpR.or (op_notIn_seq (X := X)) (op_notInD (X := X) (Room.u65 o.room))
  rw [o.K] at h
  exact h
theorem in_run {K : Fg} {ρ : List Addr} {ω : Addr → Prop} {H : Hp} {a b : D} {x y : V} {k : Bool} (ra : Rep K ρ ω H a x) (rb : Rep K ρ ω H b y) (e : inB a b = some k) :
    (∃ p xs, y = .ref p ∧ (SqL K H p xs ∨ SqT K H p xs) ∧ flatV x = true ∧ xs.all flatV = true ∧ inV x xs = k) ∨ (∃ d ds, Dp K H x d ∧ Dp K H y (.list ds) ∧ SeqAt.shaped d = true ∧ SeqAt.shaped (.list ds) = true ∧ (ds.any fun z => PyData.eqv z d) = k) := by
  cases b with
  | tup ys =>
    simp only [inB] at e
    by_cases hf : (flat a && ys.all flat) = true
    · rw [if_pos hf] at e
      simp only [Bool.and_eq_true] at hf
      obtain ⟨p, xs, rfl, h1, h2⟩ := rb
      obtain ⟨q1, q2⟩ := flat_any hf.1 ra hf.2 h2
      exact .inl ⟨p, xs, rfl, .inr h1, flat_rep hf.1 ra, q1, q2.trans (Option.some.inj e)⟩
    · rw [if_neg hf] at e
      cases e
  | lst ys =>
    simp only [inB] at e
    by_cases hf : (flat a && ys.all flat) = true
    · rw [hf, Bool.true_or, if_pos rfl] at e
      simp only [Bool.and_eq_true] at hf
      obtain ⟨p, xs, rfl, h1, _, h2⟩ := rb
      obtain ⟨q1, q2⟩ := flat_any hf.1 ra hf.2 h2
      exact .inl ⟨p, xs, rfl, .inl (SqL.of h1), flat_rep hf.1 ra, q1, q2.trans (Option.some.inj e)⟩
    · by_cases hp : (shp a && shp (.lst ys)) = true
      · rw [hp, Bool.or_true, if_pos rfl] at e
        simp only [Bool.and_eq_true] at hp
        obtain ⟨s1, c1⟩ := shp_ok hp.1
        obtain ⟨s2, c2⟩ := shp_ok hp.2
        refine .inr ⟨toP a, toPA ys, rep_dp a x c1 ra, rep_dp (.lst ys) y c2 rb, s1, s2, ?_⟩
        rw [any_toPA ys a (by simpa [clean] using c2) c1]
        exact Option.some.inj e
      · simp only [hf, hp, Bool.or_self] at e
        cases e
  | _ => cases e
theorem hf_in {K : Fg} : Op2Ok K (rInA K) opIn := by
  intro ρ ω H h a b x y z Q hr ra rb e k
  unfold opIn at e
  cases q : inB a b with
  | none => rw [q] at e; cases e
  | some c =>
    rw [q] at e
    have e3 : D.bl c = z := Option.some.inj e
    subst e3
    rcases in_run ra rb q with ⟨p, xs, e1, e2, e3, e4, e5⟩ | ⟨d, ds, e1, e2, e3, e4, e5⟩
    · refine .inl ⟨p, xs, e1, e2, e3, e4, ?_⟩
      rw [if_neg Bool.false_ne_true, e5]
      exact k _ H .same rfl
    · refine .inr ⟨d, ds, e1, e2, e3, e4, ?_⟩
      rw [e5]
      exact k _ H .same rfl
theorem hf_notIn {K : Fg} : Op2Ok K (rNotInA K) opNotIn := by
  intro ρ ω H h a b x y z Q hr ra rb e k
  unfold opNotIn at e
  cases q : inB a b with
  | none => rw [q] at e; cases e
  | some c =>
    rw [q] at e
    have e3 : D.bl (!c) = z := Option.some.inj e
    subst e3
    rcases in_run ra rb q with ⟨p, xs, e1, e2, e3, e4, e5⟩ | ⟨d, ds, e1, e2, e3, e4, e5⟩
    · refine .inl ⟨p, xs, e1, e2, e3, e4, ?_⟩
      rw [if_pos rfl, e5]
      exact k _ H .same rfl
    · refine .inr ⟨d, ds, e1, e2, e3, e4, ?_⟩
      rw [e5]
      exact k _ H .same rfl

/-! ### arithmetic and sequences -/
def rAddA (K : Fg) : R2 := fun x y H Q => (rI0 (fun i j => .int (i + j)) x y H Q ∨ (∃ i j, x = .str i ∧ y = .str j ∧ i.length + j.length ≤ sizeLine ∧ Q (.str (i ++ j)) H)) ∨ (rCatA K x y H Q ∨ rCat x y H Q)
theorem ho_add {S : Sx} : ∀ X, S.Ok X → OpR X (binaryOp .Add) (rAddA S.K) := fun X o => by
  have h := OpR.or (OpR.or (op_add (X := X)) (op_add_str (X := X))) (OpR.or (op_catA (X := X)) (op_cat (X := X)))
  rw [o.K] at h
  exact h
theorem hf_add {K : Fg} : Op2Ok K (rAddA K) opAdd := by
  intro ρ ω H h a b x y z Q hr ra rb e k
  cases a with
  | int i =>
    cases b with
    | int j =>
      have e3 : D.int (i + j) = z := Option.some.inj e
      exact .inl (.inl ⟨i, j, ra, rb, k _ H .same (by rw [← e3]; rfl)⟩)
    | _ => cases e
  | str i =>
    cases b with
    | str j =>
      simp only [opAdd] at e
      by_cases hz : i.length + j.length ≤ LINE
      · rw [if_pos hz] at e
        have e3 : D.str (i ++ j) = z := Option.some.inj e
        exact .inl (.inr ⟨i, j, ra, rb, by rw [line_eq]; exact hz, k _ H .same (by rw [← e3]; rfl)⟩)
      · rw [if_neg hz] at e
        cases e
    | _ => cases e
  | tup ds =>
    cases b with
    | tup es =>
      simp only [opAdd] at e
      by_cases hz : ds.length + es.length ≤ LINE
      · rw [if_pos hz] at e
        have e3 : D.tup (ds ++ es) = z := Option.some.inj e
        obtain ⟨p, xs, rfl, h1, h2⟩ := ra
        obtain ⟨q, ys, rfl, h3, h4⟩ := rb
        refine .inr (.inl ⟨p, q, xs, ys, rfl, rfl, h1, h3, by rw [line_eq, ← h2.len, ← h4.len]; exact hz, fun z => ?_, fun z z2 => ?_, fun z z2 t n => ?_⟩)
        · subst z
          refine k _ H .same ?_
          rw [← e3]
          cases ds with
          | nil => exact ⟨q, ys, rfl, h3, h4⟩
          | cons d ds => obtain ⟨_, _, e9, _⟩ := h2; cases e9
        · subst z2
          refine k _ H .same ?_
          rw [← e3]
          cases es with
          | nil => rw [List.append_nil]; exact ⟨p, xs, rfl, h1, h2⟩
          | cons d ds => obtain ⟨_, _, e9, _⟩ := h4; cases e9
        · refine k _ _ (.new n) ?_
          rw [← e3]
          exact rep_tup hr n (h2.append h4)
      · rw [if_neg hz] at e
        cases e
    | _ => cases e
  | lst ds =>
    cases b with
    | lst es =>
      simp only [opAdd] at e
      by_cases hz : ds.length + es.length ≤ LINE
      · rw [if_pos hz] at e
        have e3 : D.lst (ds ++ es) = z := Option.some.inj e
        obtain ⟨p, xs, rfl, h1, _, h2⟩ := ra
        obtain ⟨q, ys, rfl, h3, _, h4⟩ := rb
        refine .inr (.inr ⟨p, q, xs, ys, rfl, rfl, h1, h3, by rw [line_eq, ← h2.len, ← h4.len]; exact hz, fun t n => ?_⟩)
        refine k _ _ (.new n) ?_
        rw [← e3]
        exact rep_lst hr n (h2.append h4)
      · rw [if_neg hz] at e
        cases e
    | _ => cases e
  | _ => cases e
theorem ho_sub {S : Sx} : ∀ X, S.Ok X → OpR X (binaryOp .Sub) (rI0 fun i j => .int (i - j)) := fun _ _ => op_sub
theorem hf_sub {K : Fg} : Op2Ok K (rI0 fun i j => .int (i - j)) opSub := by
  intro ρ ω H h a b x y z Q hr ra rb e k
  cases a with
  | int i =>
    cases b with
    | int j =>
      have e3 : D.int (i - j) = z := Option.some.inj e
      exact ⟨i, j, ra, rb, k _ H .same (by rw [← e3]; rfl)⟩
    | _ => cases e
  | _ => cases e
def rMulA : R2 := fun x y H Q => rI CMul (fun i j => .int (i * j)) x y H Q ∨ rRep x y H Q
theorem ho_mul {S : Sx} : ∀ X, S.Ok X → OpR X (binaryOp .Mult) rMulA := fun _ _ => OpR.or op_mul op_rep
theorem hf_mul {K : Fg} : Op2Ok K rMulA opMul := by
  intro ρ ω H h a b x y z Q hr ra rb e k
  cases a with
  | int i =>
    cases b with
    | int j =>
      simp only [opMul] at e
      by_cases hc : (smallI i || smallI j) = true
      · rw [if_pos hc] at e
        have e3 : D.int (i * j) = z := Option.some.inj e
        refine .inl ⟨i, j, ra, rb, ?_, k _ H .same (by rw [← e3]; rfl)⟩
        simp only [smallI, Bool.or_eq_true] at hc
        unfold CMul
        rcases hc with hc | hc
        · have := Nat.le_of_ble_eq_true hc
          exact .inl ⟨by omega, by omega⟩
        · have := Nat.le_of_ble_eq_true hc
          exact .inr ⟨by omega, by omega⟩
      · rw [if_neg hc] at e
        cases e
    | _ => cases e
  | lst ds =>
    cases b with
    | int j =>
      simp only [opMul] at e
      split at e
      · rename_i hc
        simp only [Bool.and_eq_true, decide_eq_true_eq] at hc
        have hc1 := Nat.le_of_ble_eq_true hc.1
        have e3 := Option.some.inj e
        obtain ⟨p, xs, rfl, h1, _, h2⟩ := ra
        refine .inr ⟨p, j, xs, rfl, rb, h1, by omega, by omega, by rw [line_eq, ← h2.len]; exact hc.2, fun t n => ?_⟩
        refine k _ _ (.new n) ?_
        rw [← e3]
        exact rep_lst hr n (h2.rep _)
      · cases e
    | _ => cases e
  | _ => cases e
theorem ho_mod {S : Sx} : ∀ X, S.Ok X → OpR X (binaryOp .Mod) (rI (fun _ j => 0 < j) fun i j => .int (i % j)) := fun _ _ => op_mod
theorem hf_mod {K : Fg} : Op2Ok K (rI (fun _ j => 0 < j) fun i j => .int (i % j)) opMod := by
  intro ρ ω H h a b x y z Q hr ra rb e k
  cases a with
  | int i =>
    cases b with
    | int j =>
      simp only [opMod] at e
      split at e
      · rename_i hc
        have e3 := Option.some.inj e
        exact ⟨i, j, ra, rb, hc, k _ H .same (by rw [← e3]; rfl)⟩
      · cases e
    | _ => cases e
  | _ => cases e
theorem ho_fdiv {S : Sx} : ∀ X, S.Ok X → OpR X (binaryOp .FloorDiv) (rI CDiv fun i j => .int (i / j)) := fun _ _ => op_fdiv
theorem hf_fdiv {K : Fg} : Op2Ok K (rI CDiv fun i j => .int (i / j)) opFdiv := by
  intro ρ ω H h a b x y z Q hr ra rb e k
  cases a with
  | int i =>
    cases b with
    | int j =>
      simp only [opFdiv] at e
      split at e
      · rename_i hc
        simp only [Bool.and_eq_true, decide_eq_true_eq] at hc
        have e3 := Option.some.inj e
        exact ⟨i, j, ra, rb, hc, k _ H .same (by rw [← e3]; rfl)⟩
      · cases e
    | _ => cases e
  | _ => cases e
theorem ho_pow {S : Sx} : ∀ X, S.Ok X → OpR X (binaryOp .Pow) (rI CPow fun i j => .int (i ^ j.toNat)) := fun _ _ => op_pow
theorem hf_pow {K : Fg} : Op2Ok K (rI CPow fun i j => .int (i ^ j.toNat)) opPow := by
  intro ρ ω H h a b x y z Q hr ra rb e k
  cases a with
  | int i =>
    cases b with
    | int j =>
      simp only [opPow] at e
      split at e
      · rename_i hc
        simp only [Bool.and_eq_true, decide_eq_true_eq] at hc
        have e3 := Option.some.inj e
        exact ⟨i, j, ra, rb, ⟨hc.1.1, hc.1.2, by omega⟩, k _ H .same (by rw [← e3]; rfl)⟩
      · cases e
    | _ => cases e
  | _ => cases e

/-! ### subscripts, slices -/
theorem scr_sq {K : Fg} {H : Hp} {a : Addr} {xs : List V} (h : (∃ o, H a = some (.frz o (.lst xs))) ∨ ∀ H', SqL K H' a xs) : SqL K H a xs := by
  rcases h with ⟨o, h⟩ | h
  · exact .inl (.inr ⟨o, h⟩)
  · exact h H
theorem at_rep {K : Fg} {ρ : List Addr} {ω : Addr → Prop} {H : Hp} {ds : List D} {xs : List V} {i : Int} {z : D} (r : RepA K ρ ω H ds xs) (e : atD ds i = some z) : ∃ v, atI xs i = some v ∧ Rep K ρ ω H z v := by
  unfold atD at e
  rw [r.len] at e
  show ∃ v, (ixN xs.length i).bind (fun j => xs[j]?) = some v ∧ _
  cases q : ixN xs.length i with
  | none => rw [q] at e; cases e
  | some j =>
    rw [q] at e
    exact r.get e
theorem ho_ix {S : Sx} : ∀ X, S.Ok X → IxR X (rIx S.K) := fun X o => by
  have h := ix_seq (X := X)
  rw [o.K] at h
  exact h
theorem hf_ix {K : Fg} : Op2Ok K (rIx K) opIx := by
  intro ρ ω H h a b x y z Q hr ra rb e k
  cases b with
  | int i =>
    cases a with
    | tup ds =>
      obtain ⟨p, xs, rfl, h1, h2⟩ := ra
      obtain ⟨v, e1, r1⟩ := at_rep h2 (show atD ds i = some z from e)
      exact .inr (.inl ⟨p, xs, i, v, rfl, rb, h1, e1, k v H .same r1⟩)
    | lst ds =>
      obtain ⟨p, xs, rfl, h1, _, h2⟩ := ra
      obtain ⟨v, e1, r1⟩ := at_rep h2 (show atD ds i = some z from e)
      exact .inl ⟨p, xs, i, v, rfl, rb, SqL.of h1, e1, k v H .same r1⟩
    | str s =>
      simp only [opIx] at e
      split at e
      · rename_i hz
        cases q : atD s.cps.toList i with
        | none => rw [q] at e; cases e
        | some c =>
          rw [q] at e
          have e3 : D.str ⟨#[c]⟩ = z := Option.some.inj e
          exact .inr (.inr ⟨s, i, c, ra, rb, by rw [line_eq]; exact hz, q, k _ H .same (by rw [← e3]; rfl)⟩)
      · cases e
    | ref r =>
      obtain ⟨p, rfl, e1⟩ := ra
      simp only [opIx] at e
      cases q : h[r]? with
      | none => rw [q] at e; cases e
      | some cl =>
        rw [q] at e
        obtain ⟨p', e2, c⟩ := hr.cell r cl q
        rw [e1] at e2
        cases e2
        cases cl with
        | lst ds =>
          obtain ⟨xs, h1, h2⟩ := c
          obtain ⟨v, e3, r1⟩ := at_rep h2 (show atD ds i = some z from e)
          exact .inl ⟨p, xs, i, v, rfl, rb, SqL.of h1, e3, k v H .same r1⟩
    | scr ns =>
      obtain ⟨p, rfl, h1⟩ := ra
      have e' : (atD ns i).map D.int = some z := e
      cases q2 : atD ns i with
      | none => rw [q2] at e'; cases e'
      | some n =>
        rw [q2] at e'
        have e3 : D.int n = z := Option.some.inj e'
        refine .inl ⟨p, ns.map V.int, i, .int n, rfl, rb, scr_sq h1, ?_, k _ H .same (by rw [← e3]; rfl)⟩
        show (ixN (ns.map V.int).length i).bind (fun j => (ns.map V.int)[j]?) = some (V.int n)
        unfold atD at q2
        rw [List.length_map]
        cases q3 : ixN ns.length i with
        | none => rw [q3] at q2; cases q2
        | some j =>
          rw [q3] at q2
          have q4 : ns[j]? = some n := q2
          show (ns.map V.int)[j]? = some (V.int n)
          rw [List.getElem?_map, q4]
          rfl
    | _ => cases e
  | _ => cases a <;> cases e
def rSlX2 (K : Fg) : V → Option Int → Option Int → Hp → VK → Prop := fun x lo hi H Q => rSlA K x lo hi H Q ∨ rSlL K x lo hi H Q
theorem cut_rep {K : Fg} {ρ : List Addr} {ω : Addr → Prop} {H : Hp} {ds : List D} {xs : List V} {lo hi : Option Int} (r : RepA K ρ ω H ds xs) : RepA K ρ ω H (cut ds lo hi) (cutV xs lo hi) := by
  unfold cut
  rw [r.len]
  exact (r.drop _).take _
theorem so_none {S : Sx} : SO S none mNoPart := ⟨⟨tNoPart, fun _ _ => po_none, fun ρ ω _ H _ _ _ rl p => p none H ρ ω .refl rl.hr rfl⟩⟩
theorem so_some {S : Sx} {a : Expr} {ma : EM D} (ha : SE S a ma) : SO S (some a) (mPart ma) := by
  obtain ⟨ta, pa, sa⟩ := ha.ex
  refine ⟨⟨tPart ta, fun X o => po_some (pa X o), fun ρ ω σ H en h Q rl p => ?_⟩⟩
  refine sa ρ ω σ H en h _ rl (Post.bind p fun d h1 v H1 ρ1 ω1 s1 hr1 r1 p1 => ?_)
  cases d with
  | int i => exact ⟨i, r1, p1 (some i) H1 ρ1 ω1 .refl hr1 rfl⟩
  | _ => exact p1.elim
theorem se_slice {S : Sx} {a : Expr} {ma : EM D} {lo hi : Option Expr} {ml mh : EM (Option Int)} {p2 pos : Pos} (ha : SE S a ma) (hl : SO S lo ml) (hh : SO S hi mh) : SE S (.Subscript a (.Slice lo hi none p2) pos) (mSl ma ml mh) := by
  obtain ⟨ta, pa, sa⟩ := ha.ex
  obtain ⟨tl, pl, sl⟩ := hl.ex
  obtain ⟨th, ph, sh⟩ := hh.ex
  refine ⟨⟨tSl (rSlX2 S.K) ta tl th, fun X o => pe_slice (by
    have q := SlR.or (sl_tupA (X := X)) (sl_list (X := X))
    rw [o.K] at q
    exact q) (pa X o) (pl X o) (ph X o), fun ρ ω σ H en h Q rl p => ?_⟩⟩
  refine sa ρ ω σ H en h _ rl (Post.bind p fun d h1 v H1 ρ1 ω1 s1 hr1 r1 p1 => ?_)
  refine sl ρ1 ω1 σ H1 en h1 _ (rl.step s1 hr1) (Post.bind p1 fun l h2 l' H2 ρ2 ω2 s2 hr2 r2 p2 => ?_)
  refine sh ρ2 ω2 σ H2 en h2 _ ((rl.step s1 hr1).step s2 hr2) (Post.bind p2 fun u h3 u' H3 ρ3 ω3 s3 hr3 r3 p3 => ?_)
  obtain rfl : l = l' := r2
  obtain rfl : u = u' := r3
  obtain ⟨z, e, k⟩ := Post.opt hr3 p3
  have r4 := (s2.trans s3).rep hr1 r1
  cases d with
  | tup ds =>
    obtain ⟨q, xs, rfl, h4, h5⟩ := r4
    have e3 : D.tup (cut ds l u) = z := Option.some.inj e
    subst e3
    refine .inl ⟨q, xs, rfl, h4, fun hw => k _ H3 .same ?_, fun hw t n => k _ _ (.new n) (rep_tup hr3 n (cut_rep h5))⟩
    have e4 : cut ds l u = ds := by
      unfold cut
      rw [h5.len]
      have w1 : sIx xs.length 0 l = 0 := hw.1
      have w2 : sIx xs.length xs.length u = xs.length := hw.2
      rw [w1, w2, List.drop_zero, Nat.sub_zero, ← h5.len, List.take_length]
    rw [e4]
    exact ⟨q, xs, rfl, h4, h5⟩
  | lst ds =>
    obtain ⟨q, xs, rfl, h4, _, h5⟩ := r4
    have e3 : D.lst (cut ds l u) = z := Option.some.inj e
    subst e3
    exact .inr ⟨q, xs, rfl, SqL.of h4, fun t n => k _ _ (.new n) (rep_lst hr3 n (cut_rep h5))⟩
  | _ => cases e

/-! ### built-ins -/
theorem ho_len {S : Sx} : ∀ X, S.Ok X → CallR X (.builtin "len") (fun xs H Q => ∃ x n, xs = [x] ∧ LenV S.K x H n ∧ Q (.int n) H) := fun X o => by
  have h := call_len (X := X)
  rw [o.K] at h
  exact h
theorem hf_len {K : Fg} : OpNOk K (fun xs H Q => ∃ x n, xs = [x] ∧ LenV K x H n ∧ Q (.int n) H) (op1N opLen) := Op1Ok.N (by
  intro ρ ω H h a x z Q hr ra e k
  cases a with
  | tup ds =>
    obtain ⟨p, xs, rfl, h1, h2⟩ := ra
    have e3 : D.int ds.length = z := Option.some.inj e
    exact ⟨_, xs.length, rfl, .inr ⟨xs, h1, rfl⟩, k _ H .same (by rw [← e3, h2.len]; rfl)⟩
  | lst ds =>
    obtain ⟨p, xs, rfl, h1, _, h2⟩ := ra
    have e3 : D.int ds.length = z := Option.some.inj e
    exact ⟨_, xs.length, rfl, .inl ⟨xs, SqL.of h1, rfl⟩, k _ H .same (by rw [← e3, h2.len]; rfl)⟩
  | str s =>
    have e' : (if s.length ≤ LINE then some (D.int s.length) else none) = some z := e
    split at e'
    · rename_i hz
      have e3 := Option.some.inj e'
      have e4 : x = .str s := ra
      subst e4
      exact ⟨_, s.length, rfl, ⟨by rw [line_eq]; exact hz, rfl⟩, k _ H .same (by rw [← e3]; rfl)⟩
    · cases e'
  | ref r =>
    obtain ⟨p, rfl, e1⟩ := ra
    simp only [opLen] at e
    cases q : h[r]? with
    | none => rw [q] at e; cases e
    | some cl =>
      rw [q] at e
      obtain ⟨p', e2, c⟩ := hr.cell r cl q
      rw [e1] at e2
      cases e2
      cases cl with
      | lst ds =>
        obtain ⟨xs, h1, h2⟩ := c
        have e3 : D.int ds.length = z := Option.some.inj e
        exact ⟨_, xs.length, rfl, .inl ⟨xs, SqL.of h1, rfl⟩, k _ H .same (by rw [← e3, h2.len]; rfl)⟩
  | scr ns =>
    obtain ⟨p, rfl, h1⟩ := ra
    have e3 : D.int ns.length = z := Option.some.inj e
    exact ⟨_, (ns.map V.int).length, rfl, .inl ⟨ns.map V.int, scr_sq h1, rfl⟩, k _ H .same (by rw [← e3, List.length_map]; rfl)⟩
  | _ => cases e)
theorem ho_abs {S : Sx} : ∀ X, S.Ok X → CallR X (.builtin "abs") (fun xs H Q => ∃ i, xs = [.int i] ∧ Q (.int (if i < 0 then -i else i)) H) := fun _ _ => call_abs
theorem hf_abs {K : Fg} : OpNOk K (fun xs H Q => ∃ i, xs = [.int i] ∧ Q (.int (if i < 0 then -i else i)) H) (op1N opAbs) := Op1Ok.N (by
  intro ρ ω H h a x z Q hr ra e k
  cases a with
  | int i =>
    have e3 := Option.some.inj e
    have e4 : x = .int i := ra
    subst e4
    exact ⟨i, rfl, k _ H .same (by rw [← e3]; rfl)⟩
  | _ => cases e)
theorem ho_int {S : Sx} : ∀ X, S.Ok X → CallR X (.type "int") (fun xs H Q => (∃ i, xs = [.int i] ∧ Q (.int i) H) ∨ ∃ k, xs = [.bl k] ∧ Q (.int (if k then 1 else 0)) H) := fun _ _ => call_int1
theorem hf_int {K : Fg} : OpNOk K (fun xs H Q => (∃ i, xs = [.int i] ∧ Q (.int i) H) ∨ ∃ k, xs = [.bl k] ∧ Q (.int (if k then 1 else 0)) H) (op1N opInt) := Op1Ok.N (by
  intro ρ ω H h a x z Q hr ra e k
  cases a with
  | int i =>
    have e3 := Option.some.inj e
    have e4 : x = .int i := ra
    subst e4
    exact .inl ⟨i, rfl, k _ H .same (by rw [← e3]; rfl)⟩
  | bl i =>
    have e3 := Option.some.inj e
    have e4 : x = .bl i := ra
    subst e4
    exact .inr ⟨i, rfl, k _ H .same (by rw [← e3]; rfl)⟩
  | _ => cases e)
theorem ho_bool {S : Sx} : ∀ X, S.Ok X → CallR X (.type "bool") (fun xs H Q => (∃ i, xs = [.int i] ∧ Q (.bl (i != 0)) H) ∨ ∃ k, xs = [.bl k] ∧ Q (.bl k) H) := fun _ _ => call_bool1
theorem hf_bool {K : Fg} : OpNOk K (fun xs H Q => (∃ i, xs = [.int i] ∧ Q (.bl (i != 0)) H) ∨ ∃ k, xs = [.bl k] ∧ Q (.bl k) H) (op1N opBool) := Op1Ok.N (by
  intro ρ ω H h a x z Q hr ra e k
  cases a with
  | int i =>
    have e3 := Option.some.inj e
    have e4 : x = .int i := ra
    subst e4
    exact .inl ⟨i, rfl, k _ H .same (by rw [← e3]; rfl)⟩
  | bl i =>
    have e3 := Option.some.inj e
    have e4 : x = .bl i := ra
    subst e4
    exact .inr ⟨i, rfl, k _ H .same (by rw [← e3]; rfl)⟩
  | _ => cases e)
theorem ho_min {S : Sx} : ∀ X, S.Ok X → CallR X (.builtin "min") (fun xs H Q => ∃ i j, xs = [.int i, .int j] ∧ Q (.int (if j < i then j else i)) H) := fun _ o => call_min2 o.calm
theorem ho_max {S : Sx} : ∀ X, S.Ok X → CallR X (.builtin "max") (fun xs H Q => ∃ i j, xs = [.int i, .int j] ∧ Q (.int (if j > i then j else i)) H) := fun _ o => call_max2 o.calm
theorem hf_min {K : Fg} : OpNOk K (fun xs H Q => ∃ i j, xs = [.int i, .int j] ∧ Q (.int (if j < i then j else i)) H) (op2N opMin) := Op2Ok.N (by
  intro ρ ω H h a b x y z Q hr ra rb e k
  cases a with
  | int i =>
    cases b with
    | int j =>
      have e3 := Option.some.inj e
      have e4 : x = .int i := ra
      have e5 : y = .int j := rb
      subst e4 e5
      exact ⟨i, j, rfl, k _ H .same (by rw [← e3]; rfl)⟩
    | _ => cases e
  | _ => cases e)
theorem hf_max {K : Fg} : OpNOk K (fun xs H Q => ∃ i j, xs = [.int i, .int j] ∧ Q (.int (if j > i then j else i)) H) (op2N opMax) := Op2Ok.N (by
  intro ρ ω H h a b x y z Q hr ra rb e k
  cases a with
  | int i =>
    cases b with
    | int j =>
      have e3 := Option.some.inj e
      have e4 : x = .int i := ra
      have e5 : y = .int j := rb
      subst e4 e5
      exact ⟨i, j, rfl, k _ H .same (by rw [← e3]; rfl)⟩
    | _ => cases e
  | _ => cases e)
theorem asBls_rep {K : Fg} {ρ : List Addr} {ω : Addr → Prop} {H : Hp} : ∀ {ds : List D} {xs : List V} {bs : List Bool}, asBls ds = some bs → RepA K ρ ω H ds xs → xs = bs.map V.bl
  | [], xs, bs, e, h => by
    cases e
    exact h
  | d :: ds, xs, bs, e, h => by
    obtain ⟨v, vs, rfl, h1, h2⟩ := h
    cases d with
    | bl b =>
      simp only [asBls] at e
      cases q : asBls ds with
      | none => rw [q] at e; cases e
      | some cs =>
        rw [q] at e
        cases e
        have e1 : v = .bl b := h1
        rw [e1, asBls_rep q h2]
        rfl
    | _ => cases e
theorem asInts_rep {K : Fg} {ρ : List Addr} {ω : Addr → Prop} {H : Hp} : ∀ {ds : List D} {xs : List V} {bs : List Int}, asInts ds = some bs → RepA K ρ ω H ds xs → xs = bs.map V.int
  | [], xs, bs, e, h => by
    cases e
    exact h
  | d :: ds, xs, bs, e, h => by
    obtain ⟨v, vs, rfl, h1, h2⟩ := h
    cases d with
    | int b =>
      simp only [asInts] at e
      cases q : asInts ds with
      | none => rw [q] at e; cases e
      | some cs =>
        rw [q] at e
        cases e
        have e1 : v = .int b := h1
        rw [e1, asInts_rep q h2]
        rfl
    | _ => cases e
theorem ho_any {S : Sx} : ∀ X, S.Ok X → CallR X (.builtin "any") (rAny S.K) := fun X o => by
  have h := cr_any (X := X) o.calm
  rw [o.K] at h
  exact h
theorem ho_all {S : Sx} : ∀ X, S.Ok X → CallR X (.builtin "all") (rAll S.K) := fun X o => by
  have h := cr_all (X := X) o.calm
  rw [o.K] at h
  exact h
theorem ho_sum {S : Sx} : ∀ X, S.Ok X → CallR X (.builtin "sum") (rSum S.K) := fun X o => by
  have h := cr_sum (X := X) o.calm
  rw [o.K] at h
  exact h
theorem hf_any {K : Fg} : OpNOk K (rAny K) (op1N opAny) := Op1Ok.N (by
  intro ρ ω H h a x z Q hr ra e k
  cases a with
  | lst ds =>
    simp only [opAny] at e
    obtain ⟨p, xs, rfl, h1, _, h2⟩ := ra
    cases q : asBls ds with
    | none => rw [q] at e; cases e
    | some bs =>
      rw [q] at e
      have e3 := Option.some.inj e
      have e4 := asBls_rep q h2
      subst e4
      exact ⟨p, bs, rfl, SqL.of h1, k _ H .same (by rw [← e3]; rfl)⟩
  | _ => cases e)
theorem hf_all {K : Fg} : OpNOk K (rAll K) (op1N opAll) := Op1Ok.N (by
  intro ρ ω H h a x z Q hr ra e k
  cases a with
  | lst ds =>
    simp only [opAll] at e
    obtain ⟨p, xs, rfl, h1, _, h2⟩ := ra
    cases q : asBls ds with
    | none => rw [q] at e; cases e
    | some bs =>
      rw [q] at e
      have e3 := Option.some.inj e
      have e4 := asBls_rep q h2
      subst e4
      exact ⟨p, bs, rfl, SqL.of h1, k _ H .same (by rw [← e3]; rfl)⟩
  | _ => cases e)
theorem hf_sum {K : Fg} : OpNOk K (rSum K) (op1N opSum) := Op1Ok.N (by
  intro ρ ω H h a x z Q hr ra e k
  cases a with
  | lst ds =>
    simp only [opSum] at e
    obtain ⟨p, xs, rfl, h1, _, h2⟩ := ra
    cases q : asInts ds with
    | none => rw [q] at e; cases e
    | some bs =>
      rw [q] at e
      have e3 := Option.some.inj e
      have e4 := asInts_rep q h2
      subst e4
      exact ⟨p, bs, rfl, SqL.of h1, k _ H .same (by rw [← e3]; rfl)⟩
  | _ => cases e)
theorem ho_tuple {S : Sx} : ∀ X, S.Ok X → CallR X (.type "tuple") (fun xs H Q => ∃ p ys, xs = [.ref p] ∧ ((SqL S.K H p ys ∧ ∀ l, H l = none → Q (.ref l) (upd H l (.tup ys))) ∨ (SqT S.K H p ys ∧ Q (.ref p) H))) := fun X o => by
  have h := call_tuple_of (X := X)
  rw [o.K] at h
  exact h
theorem ho_list {S : Sx} : ∀ X, S.Ok X → CallR X (.type "list") (fun xs H Q => ∃ p ys, xs = [.ref p] ∧ (SqL S.K H p ys ∨ SqT S.K H p ys) ∧ ∀ l, H l = none → Q (.ref l) (upd H l (.lst ys))) := fun X o => by
  have h := call_list_of (X := X)
  rw [o.K] at h
  exact h
theorem hf_tuple {K : Fg} : OpNOk K (fun xs H Q => ∃ p ys, xs = [.ref p] ∧ ((SqL K H p ys ∧ ∀ l, H l = none → Q (.ref l) (upd H l (.tup ys))) ∨ (SqT K H p ys ∧ Q (.ref p) H))) (op1N opTuple) := Op1Ok.N (by
  intro ρ ω H h a x z Q hr ra e k
  cases a with
  | lst ds =>
    obtain ⟨p, xs, rfl, h1, _, h2⟩ := ra
    have e3 : D.tup ds = z := Option.some.inj e
    exact ⟨p, xs, rfl, .inl ⟨SqL.of h1, fun l n => k _ _ (.new n) (by rw [← e3]; exact rep_tup hr n h2)⟩⟩
  | tup ds =>
    obtain ⟨p, xs, rfl, h1, h2⟩ := ra
    have e3 : D.tup ds = z := Option.some.inj e
    exact ⟨p, xs, rfl, .inr ⟨h1, k _ H .same (by rw [← e3]; exact ⟨p, xs, rfl, h1, h2⟩)⟩⟩
  | _ => cases e)
theorem hf_list {K : Fg} : OpNOk K (fun xs H Q => ∃ p ys, xs = [.ref p] ∧ (SqL K H p ys ∨ SqT K H p ys) ∧ ∀ l, H l = none → Q (.ref l) (upd H l (.lst ys))) (op1N opList) := Op1Ok.N (by
  intro ρ ω H h a x z Q hr ra e k
  cases a with
  | lst ds =>
    obtain ⟨p, xs, rfl, h1, _, h2⟩ := ra
    have e3 : D.lst ds = z := Option.some.inj e
    exact ⟨p, xs, rfl, .inl (SqL.of h1), fun l n => k _ _ (.new n) (by rw [← e3]; exact rep_lst hr n h2)⟩
  | tup ds =>
    obtain ⟨p, xs, rfl, h1, h2⟩ := ra
    have e3 : D.lst ds = z := Option.some.inj e
    exact ⟨p, xs, rfl, .inr h1, fun l n => k _ _ (.new n) (by rw [← e3]; exact rep_lst hr n h2)⟩
  | _ => cases e)
theorem ho_neg {S : Sx} : ∀ X, S.Ok X → UnR X (unaryOp .USub) (rU fun i => .int (-i)) := fun _ _ => un_neg
theorem hf_neg {K : Fg} : Op1Ok K (rU fun i => .int (-i)) opNeg := by
  intro ρ ω H h a x z Q hr ra e k
  cases a with
  | int i =>
    have e3 := Option.some.inj e
    exact ⟨i, ra, k _ H .same (by rw [← e3]; rfl)⟩
  | _ => cases e
end DS

set_option Elab.async false
set_option linter.all false
set_option maxRecDepth 100000
set_option maxHeartbeats 4000000
/-! DStmt: tests, targets, walks, comprehensions, statements, defs. -/
namespace DS
open PySem PySem.Spec PyProof.Rows L2 RZ
section
variable {S : Sx} {x : Str} {p pos : Pos} {a b c : Expr} {ma mb mc : EM D} {ta' tb' : EM Bool}

/-! ### bools -/
theorem Post.asB {α β : Type} {R : List Addr → (Addr → Prop) → Hp → α → β → Prop} {ρ : List Addr} {ω : Addr → Prop} {σ : L2.St} {H : Hp} {h : Hs} {d : D} {f : Bool → Hs → Res α} {Q : β → Hp → Prop} {v : V} (p : Post S R ρ ω σ H ((asB d h).bind f) Q) (r : Rep S.K ρ ω H d v) :
    ∃ k, v = .bl k ∧ Post S R ρ ω σ H (f k h) Q := by
  cases d with
  | bl k => exact ⟨k, r, p⟩
  | _ => exact p.elim
theorem se_chain {op op' : CmpOp} {r r' : R2} {f g : Op2} (ho : ∀ X, S.Ok X → OpR X (compareOp op) r) (ho' : ∀ X, S.Ok X → OpR X (compareOp op') r') (hf : Op2Ok S.K r f) (hg : Op2Ok S.K r' g) (ha : SE S a ma) (hb : SE S b mb) (hc : SE S c mc)
    (hm : lastMarks [op, op'] [b, c] = false := by rfl) : SE S (.Compare a [op, op'] [b, c] pos) (mChain f g ma mb mc) := by
  obtain ⟨ta, pa, sa⟩ := ha.ex
  obtain ⟨tb, pb, sb⟩ := hb.ex
  obtain ⟨tc, pc, sc⟩ := hc.ex
  refine ⟨⟨tChain r r' ta tb tc, fun X o => pe_chain (ho X o) (ho' X o) (pa X o) (pb X o) (pc X o) hm, fun ρ ω σ H en h Q rl p => ?_⟩⟩
  refine sa ρ ω σ H en h _ rl (Post.bind p fun d h1 v H1 ρ1 ω1 s1 hr1 r1 p1 => ?_)
  refine sb ρ1 ω1 σ H1 en h1 _ (rl.step s1 hr1) (Post.bind p1 fun d2 h2 v2 H2 ρ2 ω2 s2 hr2 r2 p2 => ?_)
  cases q : f h2 d d2 with
  | none =>
    rw [q] at p2
    exact p2.elim
  | some z =>
    rw [q] at p2
    refine hf ρ2 ω2 H2 h2 d d2 v v2 z _ hr2 (s2.rep hr1 r1) r2 q fun u H3 g3 r3 => ?_
    have p3 := Post.step (S := S) (R := RD S) p2 (g3.step (ρ := ρ2) (ω := ω2))
    obtain ⟨k, e1, p4⟩ := Post.asB p3 r3
    refine ⟨k, e1, ?_⟩
    have hr3 := hr2.grow g3
    cases k with
    | false => exact p4 (.bl false) H3 ρ2 ω2 .refl hr3 rfl
    | true =>
      refine sc ρ2 ω2 σ H3 en h2 _ (((rl.step s1 hr1).step s2 hr2).grow g3) (Post.bind p4 fun d5 h5 v5 H5 ρ5 ω5 s5 hr5 r5 p5 => ?_)
      obtain ⟨z2, e2, k2⟩ := Post.opt hr5 p5
      exact hg ρ5 ω5 H5 h5 d2 d5 v2 v5 z2 Q hr5 (s5.rep hr3 (g3.step.rep hr2 r2)) r5 e2 k2
theorem se_one {op : BoolOp} (ha : SE S a ma) : SE S (.BoolOp op [a] pos) ma := by
  obtain ⟨ta, pa, sa⟩ := ha.ex
  exact ⟨⟨ta, fun X o => pe_one (pa X o), sa⟩⟩
theorem se_and {rest : List Expr} (ha : SE S a ma) (hb : SE S (.BoolOp .And (b :: rest) pos) mb) : SE S (.BoolOp .And (a :: b :: rest) pos) (mAnd ma mb) := by
  obtain ⟨ta, pa, sa⟩ := ha.ex
  obtain ⟨tb, pb, sb⟩ := hb.ex
  refine ⟨⟨tAndV ta tb, fun X o => pe_and (pa X o) (pb X o), fun ρ ω σ H en h Q rl p => ?_⟩⟩
  refine sa ρ ω σ H en h _ rl (Post.bind p fun d h1 v H1 ρ1 ω1 s1 hr1 r1 p1 => ?_)
  obtain ⟨k, e1, p2⟩ := Post.asB p1 r1
  refine ⟨k, e1, ?_⟩
  cases k with
  | false => exact p2 (.bl false) H1 ρ1 ω1 .refl hr1 rfl
  | true => exact sb ρ1 ω1 σ H1 en h1 _ (rl.step s1 hr1) p2
theorem se_or {rest : List Expr} (ha : SE S a ma) (hb : SE S (.BoolOp .Or (b :: rest) pos) mb) : SE S (.BoolOp .Or (a :: b :: rest) pos) (mOr ma mb) := by
  obtain ⟨ta, pa, sa⟩ := ha.ex
  obtain ⟨tb, pb, sb⟩ := hb.ex
  refine ⟨⟨tOrV ta tb, fun X o => pe_or (pa X o) (pb X o), fun ρ ω σ H en h Q rl p => ?_⟩⟩
  refine sa ρ ω σ H en h _ rl (Post.bind p fun d h1 v H1 ρ1 ω1 s1 hr1 r1 p1 => ?_)
  obtain ⟨k, e1, p2⟩ := Post.asB p1 r1
  refine ⟨k, e1, ?_⟩
  cases k with
  | true => exact p2 (.bl true) H1 ρ1 ω1 .refl hr1 rfl
  | false => exact sb ρ1 ω1 σ H1 en h1 _ (rl.step s1 hr1) p2
theorem se_not (ha : SE S a ma) : SE S (.UnaryOp .Not a pos) (mNot ma) := by
  obtain ⟨ta, pa, sa⟩ := ha.ex
  refine ⟨⟨tNotV ta, fun X o => pe_not (pa X o), fun ρ ω σ H en h Q rl p => ?_⟩⟩
  refine sa ρ ω σ H en h _ rl (Post.bind p fun d h1 v H1 ρ1 ω1 s1 hr1 r1 p1 => ?_)
  obtain ⟨k, e1, p2⟩ := Post.asB p1 r1
  exact ⟨k, e1, p2 (.bl (!k)) H1 ρ1 ω1 .refl hr1 rfl⟩

/-! ### tests -/
theorem val_run {t : TE} {ma : EM D} (sa : ∀ ρ ω σ H en h Q, Rel S.K S.B ρ ω σ H en h → Post S (RD S) ρ ω σ H (ma en h) Q → t σ H Q) {ρ : List Addr} {ω : Addr → Prop} {σ : L2.St} {H : Hp} {en : En} {h : Hs} {Q : Bool → Hp → Prop}
    (rl : Rel S.K S.B ρ ω σ H en h) (p : Post S RB ρ ω σ H (tVal ma en h) Q) : t σ H fun x H' => ∃ k, x = .bl k ∧ Q k H' := by
  refine sa ρ ω σ H en h _ rl (Post.bind p fun d h1 v H1 ρ1 ω1 s1 hr1 r1 p1 => ?_)
  cases d with
  | bl k => exact ⟨k, r1, p1 k H1 ρ1 ω1 .refl hr1 rfl⟩
  | _ => exact p1.elim
theorem st_val (ha : SE S a ma) (he : ∀ env whole, isTrue a env whole = (do let v ← whole; standAt a.pos; holding [v] (truthy v)) := by intro _ _; rfl) : STt S a (tVal ma) := by
  obtain ⟨ta, pa, sa⟩ := ha.ex
  exact ⟨⟨tB ta, fun X o => pt_val (pa X o) (he _), fun ρ ω σ H en h Q rl p => val_run sa rl p⟩⟩
theorem st_cmp {op : CmpOp} {r : R2} {f : Op2} (ho : ∀ X, S.Ok X → OpR X (compareOp op) r) (hf : Op2Ok S.K r f) (ha : SE S a ma) (hb : SE S b mb) (hm : behindInMarks op b = false := by rfl) : STt S (.Compare a [op] [b] pos) (tVal (mOp2 f ma mb)) := by
  obtain ⟨ta, pa, sa⟩ := ha.ex
  obtain ⟨tb, pb, sb⟩ := hb.ex
  exact ⟨⟨tTest (tOp r ta tb), fun X o => pt_cmpR (ho X o) (pa X o) (pb X o) hm, fun ρ ω σ H en h Q rl p => val_run (t := tOp r ta tb) (fun ρ ω σ H en h Q rl p => op2_run hf sa sb rl p) rl p⟩⟩
theorem st_not (ha : STt S a ta') : STt S (.UnaryOp .Not a pos) (tNot ta') := by
  obtain ⟨ta, pa, sa⟩ := ha.ex
  refine ⟨⟨L2.tNot ta, fun X o => pt_not (pa X o), fun ρ ω σ H en h Q rl p => ?_⟩⟩
  refine sa ρ ω σ H en h _ rl (Post.bind p fun d h1 v H1 ρ1 ω1 s1 hr1 r1 p1 => ?_)
  have e : d = v := r1
  subst e
  exact p1 (!d) H1 ρ1 ω1 .refl hr1 rfl
theorem sw_and1 (ha : STt S a ta') : SWt S (.BoolOp .And [a] pos) ta' := by
  obtain ⟨ta, pa, sa⟩ := ha.ex
  exact ⟨⟨ta, fun X o => pw_and1 (pa X o), sa⟩⟩
theorem sw_or1 (ha : STt S a ta') : SWt S (.BoolOp .Or [a] pos) ta' := by
  obtain ⟨ta, pa, sa⟩ := ha.ex
  exact ⟨⟨ta, fun X o => pw_or1 (pa X o), sa⟩⟩
theorem sw_and {rest : List Expr} (ha : STt S a ta') (hb : SWt S (.BoolOp .And (b :: rest) pos) tb') : SWt S (.BoolOp .And (a :: b :: rest) pos) (tAnd ta' tb') := by
  obtain ⟨ta, pa, sa⟩ := ha.ex
  obtain ⟨tb, pb, sb⟩ := hb.ex
  refine ⟨⟨L2.tAnd ta tb, fun X o => pw_and (pa X o) (pb X o), fun ρ ω σ H en h Q rl p => ?_⟩⟩
  refine sa ρ ω σ H en h _ rl (Post.bind p fun d h1 v H1 ρ1 ω1 s1 hr1 r1 p1 => ?_)
  have e : d = v := r1
  subst e
  cases d with
  | false => exact p1 false H1 ρ1 ω1 .refl hr1 rfl
  | true => exact sb ρ1 ω1 σ H1 en h1 _ (rl.step s1 hr1) p1
theorem sw_or {rest : List Expr} (ha : STt S a ta') (hb : SWt S (.BoolOp .Or (b :: rest) pos) tb') : SWt S (.BoolOp .Or (a :: b :: rest) pos) (tOr ta' tb') := by
  obtain ⟨ta, pa, sa⟩ := ha.ex
  obtain ⟨tb, pb, sb⟩ := hb.ex
  refine ⟨⟨L2.tOr ta tb, fun X o => pw_or (pa X o) (pb X o), fun ρ ω σ H en h Q rl p => ?_⟩⟩
  refine sa ρ ω σ H en h _ rl (Post.bind p fun d h1 v H1 ρ1 ω1 s1 hr1 r1 p1 => ?_)
  have e : d = v := r1
  subst e
  cases d with
  | true => exact p1 true H1 ρ1 ω1 .refl hr1 rfl
  | false => exact sb ρ1 ω1 σ H1 en h1 _ (rl.step s1 hr1) p1
theorem st_w (h : SWt S a ta') : STt S a ta' := by
  obtain ⟨t, pt, st⟩ := h.ex
  exact ⟨⟨t, fun X o => (pt X o).pt, st⟩⟩
theorem se_if {c : Expr} (hc : STt S c ta') (ha : SE S a ma) (hb : SE S b mb) : SE S (.IfExp c a b pos) (mIf ta' ma mb) := by
  obtain ⟨tc, pc, sc⟩ := hc.ex
  obtain ⟨ta, pa, sa⟩ := ha.ex
  obtain ⟨tb, pb, sb⟩ := hb.ex
  refine ⟨⟨tIf tc ta tb, fun X o => pe_ifExp (pc X o) (pa X o) (pb X o), fun ρ ω σ H en h Q rl p => ?_⟩⟩
  refine sc ρ ω σ H en h _ rl (Post.bind p fun d h1 v H1 ρ1 ω1 s1 hr1 r1 p1 => ?_)
  have e : d = v := r1
  subst e
  cases d with
  | true => exact sa ρ1 ω1 σ H1 en h1 _ (rl.step s1 hr1) p1
  | false => exact sb ρ1 ω1 σ H1 en h1 _ (rl.step s1 hr1) p1

/-! ### isinstance -/
def Ty.name : Ty → String
  | .tInt => "int" | .tBool => "bool" | .tStr => "str" | .tTuple => "tuple" | .tList => "list"
def Ty.nm (t : Ty) : Str := Str.ofString t.name
def tyName : D → String
  | .non => "NoneType" | .bl _ => "bool" | .int _ => "int" | .str _ => "str" | .tup _ => "tuple" | .lst _ => "list" | .ref _ => "list" | .dic _ _ => "dict" | .scr _ => "list"
theorem rep_ty {K : Fg} {ρ : List Addr} {ω : Addr → Prop} {H : Hp} {h : Hs} {d : D} {v : V} (hr : HRel K ρ ω H h) (r : Rep K ρ ω H d v) : TyX K H v (.type (tyName d)) := by
  cases d with
  | non =>
    have e : v = .non := r
    subst e
    exact .base .non
  | bl b =>
    have e : v = .bl b := r
    subst e
    exact .base (.bl b)
  | int b =>
    have e : v = .int b := r
    subst e
    exact .base (.int b)
  | str b =>
    have e : v = .str b := r
    subst e
    exact .base (.str b)
  | tup ds =>
    obtain ⟨a, xs, rfl, h1, _⟩ := r
    rcases h1 with (h1 | ⟨o, h1⟩) | ⟨o, its, n, h1, h2, _⟩
    · exact .base (.tup h1)
    · exact .fTuple h1
    · exact .kTuple h1 h2
  | lst ds =>
    obtain ⟨a, xs, rfl, h1, _⟩ := r
    exact .base (.lst h1)
  | dic ks ds =>
    obtain ⟨a, xs, rfl, h1, _⟩ := r
    exact .base (.dK h1)
  | scr ns =>
    obtain ⟨a, rfl, h1⟩ := r
    rcases h1 with ⟨o, h1⟩ | h1
    · exact .base (.frz h1)
    · rcases h1 (fun _ => none) with (h | ⟨_, h⟩) | ⟨o, its, n, g1, g2, _⟩
      · cases h
      · cases h
      · exact .kList g1 g2
  | ref i =>
    obtain ⟨a, rfl, e⟩ := r
    have hi : i < h.length := by
      rw [← hr.hlen]
      exact (List.getElem?_eq_some_iff.mp e).1
    obtain ⟨a', e2, c⟩ := hr.cell i h[i] (List.getElem?_eq_getElem hi)
    rw [e] at e2
    cases e2
    cases q : h[i] with
    | lst ds =>
      rw [q] at c
      obtain ⟨xs, h1, _⟩ := c
      exact .base (.lst h1)
theorem kitB_ty (d : D) (t : Ty) : kitB (tyName d) t.name = some (isTy t d) := by
  cases d <;> cases t <;> (simp only [tyName, Ty.name, isTy]; decide +kernel)
theorem boot_ty (t : Ty) : bootBuiltins t.nm = some (.type t.name) := by cases t <;> decide +kernel
theorem se_isi {t : Ty} {p2 : Pos} (ha : SE S a ma) (hg : Glb S "isinstance") (hm : S.mg "isinstance" = none) (hg2 : Glb S t.nm) (hm2 : S.mg t.nm = none)
    (he : ∀ env, starEach [a, .Name t.nm p2] env = (false, eval a env) :: starEach [.Name t.nm p2] env := by intro _; rfl) (hpl : ∀ env, (backTo pos (starEach [.Name t.nm p2] env)).any (·.1) = false := by intro _; rfl)
    (hs : ∀ env, starEach [.Name t.nm p2] env = (false, eval (.Name t.nm p2) env) :: starEach [] env := by intro _; rfl)
    : SE S (.Call (.Name "isinstance" p) [a, .Name t.nm p2] [] pos) (mOp1 (opIs t) ma) := by
  obtain ⟨ta, pa, sa⟩ := ha.ex
  refine ⟨⟨tCB (rIsi S.K) (tCons ta (tCons (tC (.ty t.name)) tNil)), fun X o => ?_, fun ρ ω σ H en h Q rl p => ?_⟩⟩
  · have hc := call_isi (X := X)
    rw [o.K] at hc
    refine pe_callB hc (by show X.env.scope.names.lookup _ = _; rw [o.sc]; exact hg) (by rw [o.mg]; exact hm) PyProof.Rows.boot_isinstance (pa_cons (pa X o) (pa_cons (pe_bltn (by show X.env.scope.names.lookup _ = _; rw [o.sc]; exact hg2) (by rw [o.mg]; exact hm2) (boot_ty t) (show RelV (.ty t.name) (.type t.name) from rfl) ?_ ?_) pa_nil (hs _)) (he _)) (by decide) (by decide) (he _) (hpl _)
    · cases t <;> decide
    · cases t <;> decide
  · refine sa ρ ω σ H en h _ rl (Post.bind p fun d h1 v H1 ρ1 ω1 s1 hr1 r1 p1 => ?_)
    exact ⟨v, .ty t.name, .type (tyName d), .type t.name, isTy t d, rfl, .ty _, rep_ty hr1 r1, kit_ty (kitB_ty d t), p1 (.bl (isTy t d)) H1 ρ1 ω1 .refl hr1 rfl⟩
theorem se_isi2 {t u : Ty} {p2 p3 p4 : Pos} {kk : Nat} (ha : SE S a ma) (hg : Glb S "isinstance") (hm : S.mg "isinstance" = none) (hg2 : Glb S t.nm) (hm2 : S.mg t.nm = none)
    (hg3 : Glb S u.nm) (hm3 : S.mg u.nm = none)
    (he : ∀ env, starEach [a, .Tuple [.Name t.nm p2, .Name u.nm p3] kk p4] env = (false, eval a env) :: starEach [.Tuple [.Name t.nm p2, .Name u.nm p3] kk p4] env := by intro _; rfl) (hpl : ∀ env, (backTo pos (starEach [.Tuple [.Name t.nm p2, .Name u.nm p3] kk p4] env)).any (·.1) = false := by intro _; rfl)
    (hs : ∀ env, starEach [.Tuple [.Name t.nm p2, .Name u.nm p3] kk p4] env = (false, eval (.Tuple [.Name t.nm p2, .Name u.nm p3] kk p4) env) :: starEach [] env := by intro _; rfl)
    (hs2 : ∀ env, starEach [.Name t.nm p2, .Name u.nm p3] env = (false, eval (.Name t.nm p2) env) :: starEach [.Name u.nm p3] env := by intro _; rfl) (hs3 : ∀ env, starEach [.Name u.nm p3] env = (false, eval (.Name u.nm p3) env) :: starEach [] env := by intro _; rfl)
    : SE S (.Call (.Name "isinstance" p) [a, .Tuple [.Name t.nm p2, .Name u.nm p3] kk p4] [] pos) (mOp1 (opIs2 t u) ma) := by
  obtain ⟨ta, pa, sa⟩ := ha.ex
  refine ⟨⟨tCB (rIsiT S.K) (tCons ta (tCons (tTup (tCons (tC (.ty t.name)) (tCons (tC (.ty u.name)) tNil))) tNil)), fun X o => ?_, fun ρ ω σ H en h Q rl p => ?_⟩⟩
  · have hc := call_isiT (X := X)
    rw [o.K] at hc
    have n1 : PE X (.Name t.nm p2) (tC (.ty t.name)) := pe_bltn (by show X.env.scope.names.lookup _ = _; rw [o.sc]; exact hg2) (by rw [o.mg]; exact hm2) (boot_ty t) (show RelV (.ty t.name) (.type t.name) from rfl) (by cases t <;> decide) (by cases t <;> decide)
    have n2 : PE X (.Name u.nm p3) (tC (.ty u.name)) := pe_bltn (by show X.env.scope.names.lookup _ = _; rw [o.sc]; exact hg3) (by rw [o.mg]; exact hm3) (boot_ty u) (show RelV (.ty u.name) (.type u.name) from rfl) (by cases u <;> decide) (by cases u <;> decide)
    exact pe_callB hc (by show X.env.scope.names.lookup _ = _; rw [o.sc]; exact hg) (by rw [o.mg]; exact hm) PyProof.Rows.boot_isinstance (pa_cons (pa X o) (pa_cons (pe_tup (pa_cons n1 (pa_cons n2 pa_nil (hs3 _)) (hs2 _))) pa_nil (hs _)) (he _)) (by decide) (by decide) (he _) (hpl _)
  · refine sa ρ ω σ H en h _ rl (Post.bind p fun d h1 v H1 ρ1 ω1 s1 hr1 r1 p1 => ?_)
    refine ⟨by show 2 ≤ sizeLine; decide, fun q n => ?_⟩
    have g : Grow H1 (upd H1 q (.tup [V.ty t.name, V.ty u.name])) := .new n
    refine ⟨v, q, [.ty t.name, .ty u.name], .type (tyName d), [.type t.name, .type u.name], isTy t d || isTy u d, rfl, upd_same, .cons (.ty _) (.cons (.ty _) .nil), rep_ty (hr1.grow g) (g.step.rep hr1 r1), ?_, p1 (.bl (isTy t d || isTy u d)) _ ρ1 ω1 g.step (hr1.grow g) rfl⟩
    refine kitAny_cons (kit_ty (kitB_ty d t)) (fun e => ?_) (fun e => by rw [e]; rfl)
    refine kitAny_cons (kit_ty (kitB_ty d u)) (fun e2 => ?_) (fun e2 => by rw [e2, Bool.or_true])
    rw [e, e2]
    exact kitAny_nil

/-! ### local lists looked at -/
theorem own_at {ρ : List Addr} {ω : Addr → Prop} {σ : L2.St} {H : Hp} {en : En} {h : Hs} {i : Nat} {α β : Type} {R : List Addr → (Addr → Prop) → Hp → α → β → Prop} {f : D → Hs → Res α} {Q : β → Hp → Prop} (rl : Rel S.K S.B ρ ω σ H en h) (p : Post S R ρ ω σ H ((mPeek i en h).bind f) Q) :
    ∃ ds a xs, en[i]? = some (.own ds) ∧ σ[i]? = some (some (.ref a)) ∧ H a = some (.lst xs) ∧ a ∉ ρ ∧ RepA S.K ρ ω H ds xs ∧ Post S R ρ ω σ H (f (.lst ds) h) Q := by
  unfold mPeek at p
  cases q : en[i]? with
  | none => rw [q] at p; exact p.elim
  | some sl =>
    rw [q] at p
    cases sl with
    | own ds =>
      obtain ⟨a, xs, e1, e2, _, e4, _, e6⟩ := rl.own i ds q
      exact ⟨ds, a, xs, rfl, e1, e2, e4, e6, p⟩
    | no => exact p.elim
    | val d => exact p.elim
theorem se_ixOwn {i : Nat} (hN : S.N[i]? = some x) (hv : Vis S.sc x) (hb : SE S b mb) (hd : (x == ("__debug__" : Str)) = false := by decide) (hcd : (x == ("__classdict__" : Str)) = false := by decide) (hs : PlainIx b := by intro _ _; rfl) :
    SE S (.Subscript (.Name x p) b pos) (mOp2 opIx (mPeek i) mb) := by
  obtain ⟨tb, pb, sb⟩ := hb.ex
  refine ⟨⟨tOp (rIxL S.K) (tVar i) tb, fun X o => pe_ix (by
    have q := ix_list (X := X)
    rw [o.K] at q
    exact q) (pe_var (by rw [o.N]; exact hN) (by rw [o.sc]; exact hv) hd hcd) (pb X o) hs, fun ρ ω σ H en h Q rl p => ?_⟩⟩
  obtain ⟨ds, a, xs, e0, e1, e2, e3, e4, p1⟩ := own_at rl p
  refine ⟨.ref a, e1, sb ρ ω σ H en h _ rl (Post.bind p1 fun d h1 v H1 ρ1 ω1 s1 hr1 r1 p2 => ?_)⟩
  obtain ⟨z, e, k⟩ := Post.opt hr1 p2
  cases d with
  | int j =>
    obtain ⟨w, e5, r5⟩ := at_rep (s1.repA rl.hr e4) (show atD ds j = some z from e)
    exact ⟨a, xs, j, w, rfl, r1, SqL.of (s1.keep a _ e2 e3), e5, k w H1 .same r5⟩
  | _ => cases e
theorem se_lenOwn {i : Nat} (hN : S.N[i]? = some x) (hv : Vis S.sc x) (hg : Glb S "len") (hm : S.mg "len" = none) {p2 : Pos} (hd : (x == ("__debug__" : Str)) = false := by decide) (hcd : (x == ("__classdict__" : Str)) = false := by decide) :
    SE S (.Call (.Name "len" p) [.Name x p2] [] pos) (mOpN (op1N opLen) [mPeek i]) := by
  refine ⟨⟨tCB (fun xs H Q => ∃ x n, xs = [x] ∧ LenV S.K x H n ∧ Q (.int n) H) (tCons (tVar i) tNil), fun X o => pe_callB (ho_len X o) (by show X.env.scope.names.lookup _ = _; rw [o.sc]; exact hg) (by rw [o.mg]; exact hm) PySem.boot_len (pa_cons (pe_var (by rw [o.N]; exact hN) (by rw [o.sc]; exact hv) hd hcd) pa_nil), fun ρ ω σ H en h Q rl p => ?_⟩⟩
  have p' : Post S (RD S) ρ ω σ H ((mPeek i en h).bind fun d h1 => ((Res.ok [] h1).bind fun xs h2 => Res.ok (d :: xs) h2).bind fun xs h3 => .opt (op1N opLen h3 xs) h3) Q := by
    have e : mOpN (op1N opLen) [mPeek i] en h = ((mPeek i en h).bind fun d h1 => ((Res.ok [] h1).bind fun xs h2 => Res.ok (d :: xs) h2).bind fun xs h3 => .opt (op1N opLen h3 xs) h3) := by
      unfold mOpN mArgs
      cases mPeek i en h <;> rfl
    rw [← e]
    exact p
  obtain ⟨ds, a, xs, e0, e1, e2, e3, e4, p1⟩ := own_at rl p'
  refine ⟨.ref a, e1, .ref a, xs.length, rfl, .inl ⟨xs, SqL.of e2, rfl⟩, ?_⟩
  rw [← e4.len]
  exact p1 (.int ds.length) H ρ ω .refl rl.hr rfl
end

/-! ### slots -/
section
variable {K : Fg} {B : Bs} {ρ ρ' : List Addr} {ω ω' : Addr → Prop} {σ : L2.St} {H H' : Hp} {e : En} {h h' : Hs}
theorem get_set {α : Type} {l : List α} {i j : Nat} {x y : α} (q : (l.set i x)[j]? = some y) : (i = j ∧ y = x ∧ i < l.length) ∨ (i ≠ j ∧ l[j]? = some y) := by
  by_cases hij : i = j
  · subst hij
    by_cases hi : i < l.length
    · rw [List.getElem?_set_self hi] at q
      exact .inl ⟨rfl, (Option.some.inj q).symm, hi⟩
    · rw [List.getElem?_eq_none (by simpa using hi)] at q
      cases q
  · rw [List.getElem?_set_ne hij] at q
    exact .inr ⟨hij, q⟩
theorem Rel.setVal (r : Rel K B ρ ω σ H e h) (i : Nat) {d : D} {v : V} (rv : Rep K ρ ω H d v) : Rel K B ρ ω (σ.set i (some v)) H (e.set i (.val d)) h := by
  refine ⟨r.hr, r.st, r.bo, by simp [r.len], fun j d' q => ?_, fun j ds q => ?_, fun j j' ds es q1 q2 z => ?_⟩
  · rcases get_set q with ⟨rfl, e1, hi⟩ | ⟨ne, q⟩
    · cases e1
      exact ⟨v, by rw [List.getElem?_set_self (by rw [← r.len]; exact hi)], rv⟩
    · obtain ⟨u, e1, e2⟩ := r.val j d' q
      exact ⟨u, by rw [List.getElem?_set_ne ne]; exact e1, e2⟩
  · rcases get_set q with ⟨rfl, e1, hi⟩ | ⟨ne, q⟩
    · cases e1
    · obtain ⟨a, xs, e1, e2⟩ := r.own j ds q
      exact ⟨a, xs, by rw [List.getElem?_set_ne ne]; exact e1, e2⟩
  · rcases get_set q1 with ⟨rfl, e1, hi⟩ | ⟨ne, q1⟩
    · cases e1
    · rcases get_set q2 with ⟨rfl, e1, hi⟩ | ⟨ne2, q2⟩
      · cases e1
      · rw [List.getElem?_set_ne ne, List.getElem?_set_ne ne2] at z
        exact r.apart j j' ds es q1 q2 z
theorem Rel.setNo (r : Rel K B ρ ω σ H e h) (i : Nat) : Rel K B ρ ω (σ.set i none) H (e.set i .no) h := by
  refine ⟨r.hr, r.st, r.bo, by simp [r.len], fun j d' q => ?_, fun j ds q => ?_, fun j j' ds es q1 q2 z => ?_⟩
  · rcases get_set q with ⟨rfl, e1, hi⟩ | ⟨ne, q⟩
    · cases e1
    · obtain ⟨u, e1, e2⟩ := r.val j d' q
      exact ⟨u, by rw [List.getElem?_set_ne ne]; exact e1, e2⟩
  · rcases get_set q with ⟨rfl, e1, hi⟩ | ⟨ne, q⟩
    · cases e1
    · obtain ⟨a, xs, e1, e2⟩ := r.own j ds q
      exact ⟨a, xs, by rw [List.getElem?_set_ne ne]; exact e1, e2⟩
  · rcases get_set q1 with ⟨rfl, e1, hi⟩ | ⟨ne, q1⟩
    · cases e1
    · rcases get_set q2 with ⟨rfl, e1, hi⟩ | ⟨ne2, q2⟩
      · cases e1
      · rw [List.getElem?_set_ne ne, List.getElem?_set_ne ne2] at z
        exact r.apart j j' ds es q1 q2 z
theorem Rel.wipe (r : Rel K B ρ ω σ H e h) : ∀ vs : List Nat, Rel K B ρ ω (L2.wipe σ vs) H (DS.wipe e vs) h
  | [] => r
  | v :: vs => (Rel.wipe r vs).setNo v
theorem noOwn_get {e : En} {i : Nat} {s : Slot} (q : (noOwn e)[i]? = some s) : (∀ ds, s ≠ .own ds) ∧ (∀ d, s = .val d → e[i]? = some (.val d)) := by
  unfold noOwn at q
  rw [List.getElem?_map] at q
  cases z : e[i]? with
  | none => rw [z] at q; cases q
  | some t =>
    rw [z] at q
    have q' := Option.some.inj q
    cases t with
    | no => subst q'; exact ⟨fun _ z => (nomatch z), fun _ z => (nomatch z)⟩
    | val d => subst q'; exact ⟨fun _ z => (nomatch z), fun _ z => by cases z; rfl⟩
    | own ds => subst q'; exact ⟨fun _ z => (nomatch z), fun _ z => (nomatch z)⟩
theorem Rel.noOwn (r : Rel K B ρ ω σ H e h) : Rel K B ρ ω σ H (DS.noOwn e) h := by
  refine ⟨r.hr, r.st, r.bo, by unfold DS.noOwn; rw [List.length_map]; exact r.len, fun j d q => r.val j d ((noOwn_get q).2 d rfl), fun j ds q => absurd rfl ((noOwn_get q).1 ds), fun j j' ds es q1 _ _ => absurd rfl ((noOwn_get q1).1 ds)⟩
theorem wipe_set (σ : L2.St) (i : Nat) (x : Option V) : ∀ {vs : List Nat}, i ∈ vs → L2.wipe (σ.set i x) vs = L2.wipe σ vs
  | [], hm => by cases hm
  | v :: vs, hm => by
    show (L2.wipe (σ.set i x) vs).set v none = (L2.wipe σ vs).set v none
    by_cases hi : i ∈ vs
    · rw [wipe_set σ i x hi]
    · have hv : i = v := by
        rcases List.mem_cons.mp hm with z | z
        · exact z
        · exact absurd z hi
      subst hv
      have aux : ∀ (us : List Nat), i ∉ us → L2.wipe (σ.set i x) us = (L2.wipe σ us).set i x := by
        intro us
        induction us with
        | nil => intro _; rfl
        | cons u us ih =>
          intro hn
          simp only [List.mem_cons, not_or] at hn
          show (L2.wipe (σ.set i x) us).set u none = ((L2.wipe σ us).set u none).set i x
          rw [ih hn.2, List.set_comm _ _ hn.1]
      rw [aux vs hi, List.set_set]
theorem wipe_get_in : ∀ {vs : List Nat} {σ : L2.St} {i : Nat}, i ∈ vs → (L2.wipe σ vs).set i none = L2.wipe σ vs
  | [], _, _, hm => by cases hm
  | v :: vs, σ, i, hm => by
    show ((L2.wipe σ vs).set v none).set i none = (L2.wipe σ vs).set v none
    by_cases e : v = i
    · subst e
      rw [List.set_set]
    · have hi : i ∈ vs := by
        rcases List.mem_cons.mp hm with z | z
        · exact absurd z.symm e
        · exact z
      rw [List.set_comm _ _ e, wipe_get_in hi]
theorem wipe_sub : ∀ {us vs : List Nat} {σ : L2.St}, (∀ i ∈ us, i ∈ vs) → L2.wipe (L2.wipe σ vs) us = L2.wipe σ vs
  | [], _, _, _ => rfl
  | u :: us, vs, σ, hs => by
    show (L2.wipe (L2.wipe σ vs) us).set u none = _
    rw [wipe_sub (fun i hi => hs i (List.mem_cons_of_mem _ hi)), wipe_get_in (hs u (List.mem_cons_self ..))]
end

/-! ### targets -/
structure SG (S : Sx) (tg : Expr) (ts : List Nat) (g : TM) : Prop where
  ex : ∃ t : TG, (∀ X, S.Ok X → PG X tg t) ∧ ∀ ρ ω σ H en h d v e1 (Q : L2.St → Hp → Prop), Rel S.K S.B ρ ω σ H en h → Rep S.K ρ ω H d v → g d en = some e1 →
    (∀ σ', Rel S.K S.B ρ ω σ' H e1 h → (∀ vs, (∀ i ∈ ts, i ∈ vs) → L2.wipe σ' vs = L2.wipe σ vs) → Q σ' H) → t v σ H Q
structure SGs (S : Sx) (tgs : List Expr) (ts : List Nat) (gs : List TM) : Prop where
  ex : ∃ t : TGs, (∀ X, S.Ok X → PGs X tgs t) ∧ ∀ ρ ω σ H en h ds vs e1 (Q : L2.St → Hp → Prop), Rel S.K S.B ρ ω σ H en h → RepA S.K ρ ω H ds vs → gSeq gs ds en = some e1 →
    (∀ σ', Rel S.K S.B ρ ω σ' H e1 h → (∀ vs, (∀ i ∈ ts, i ∈ vs) → L2.wipe σ' vs = L2.wipe σ vs) → Q σ' H) → t vs σ H Q
section
variable {S : Sx} {x : Str} {p pos : Pos}
theorem sg_name {i : Nat} (hnd : S.N.Nodup) (hN : S.N[i]? = some x) (hv : Loc S.sc x) (hf : S.fn x = true ∨ S.sc.names.lookup x = some .local) : SG S (.Name x pos) [i] (gName i) := by
  refine ⟨⟨L2.gName i, fun X o => pg_name (by rw [o.N]; exact hnd) (by rw [o.N]; exact hN) (by rw [o.sc]; exact hv) (by rcases hf with z | z; exact .inl (o.fn x z); exact .inr (by rw [o.sc]; exact z)), fun ρ ω σ H en h d v e1 Q rl r e k => ?_⟩⟩
  have e2 : en.set i (.val d) = e1 := Option.some.inj e
  subst e2
  exact k _ (rl.setVal i r) fun vs hs => wipe_set σ i _ (hs i (List.mem_cons_self ..))
theorem sgs_nil : SGs S [] [] [] := by
  refine ⟨⟨gNil, fun X o => pgs_nil, fun ρ ω σ H en h ds vs e1 Q rl r e k => ?_⟩⟩
  cases ds with
  | nil =>
    have e2 : vs = [] := r
    subst e2
    have e3 : en = e1 := Option.some.inj e
    subst e3
    exact ⟨rfl, k σ rl fun _ _ => rfl⟩
  | cons d ds => cases e
theorem sgs_cons {tg : Expr} {tgs : List Expr} {t1 t2 : List Nat} {g : TM} {gs : List TM} (hg : SG S tg t1 g) (hs : SGs S tgs t2 gs) (ha : ∀ env, (assignEach (tg :: tgs) env).map (·.2) = assign tg env :: (assignEach tgs env).map (·.2) := by intro _; rfl) : SGs S (tg :: tgs) (t1 ++ t2) (g :: gs) := by
  obtain ⟨tt, pt, st⟩ := hg.ex
  obtain ⟨tr, pr, sr⟩ := hs.ex
  refine ⟨⟨gCons tt tr, fun X o => pgs_cons (pt X o) (pr X o) (ha _), fun ρ ω σ H en h ds vs e1 Q rl r e k => ?_⟩⟩
  cases ds with
  | nil => cases e
  | cons d ds =>
    obtain ⟨v, us, rfl, r1, r2⟩ := r
    have e' : (g d en).bind (fun e1 => gSeq gs ds e1) = some e1 := e
    cases q : g d en with
    | none => rw [q] at e'; cases e'
    | some e2 =>
      rw [q] at e'
      refine ⟨v, us, rfl, st ρ ω σ H en h d v e2 _ rl r1 q fun σ1 rl1 w1 => sr ρ ω σ1 H e2 h ds us e1 _ rl1 r2 e' fun σ2 rl2 w2 => k σ2 rl2 fun vs hv => ?_⟩
      rw [w2 vs fun i hi => hv i (List.mem_append_right _ hi), w1 vs fun i hi => hv i (List.mem_append_left _ hi)]
theorem sgs_len {tgs : List Expr} {ts : List Nat} {gs : List TM} (h : SGs S tgs ts gs) : True := True.intro
theorem sg_tup {tgs : List Expr} {ts : List Nat} {gs : List TM} {k n : Nat} (hg : SGs S tgs ts gs) (hl : gs.length = n := by rfl) (hn : ∀ env, (assignEach tgs env).length = n := by intro _; rfl) (hst : ∀ env, (assignEach tgs env).findIdx? (·.1) = none := by intro _; rfl) : SG S (.Tuple tgs k pos) ts (gTup gs) := by
  obtain ⟨tr, pr, sr⟩ := hg.ex
  refine ⟨⟨L2.gTup S.K n tr, fun X o => by
    have q := pg_tup (k := k) (pos := pos) o.calm (pr X o) (hn _) (hst _)
    rw [o.K] at q
    exact q, fun ρ ω σ H en h d v e1 Q rl r e kk => ?_⟩⟩
  cases d with
  | tup ds =>
    obtain ⟨a, xs, rfl, h1, h2⟩ := r
    have e' : (if ds.length = gs.length then gSeq gs ds en else none) = some e1 := e
    split at e'
    · rename_i hlen
      exact ⟨a, xs, rfl, h1, by rw [← h2.len, hlen, hl], sr ρ ω σ H en h ds xs e1 Q rl h2 e' kk⟩
    · cases e'
  | _ => cases e
end

/-! ### walks -/
structure ItD (K : Fg) (J : It) (ds : List D) (ρ : List Addr) (ω : Addr → Prop) (H : Hp) : Prop where
  ex : ∃ G Y, Walk J ds.length G Y ∧ (∀ ρ' ω' H', StepW ρ ω H ρ' ω' H' → G H') ∧
    ∀ i ρ1 ω1 H1 x H2 h1, i < ds.length → StepW ρ ω H ρ1 ω1 H1 → HRel K ρ1 ω1 H1 h1 → Y i H1 x H2 → Grow H1 H2 ∧ ∃ d, ds[i]? = some d ∧ Rep K ρ1 ω1 H2 d x
abbrev RI (S : Sx) : List Addr → (Addr → Prop) → Hp → List D → It → Prop := fun ρ ω H ds J => ItD S.K J ds ρ ω H
structure SI (S : Sx) (tg iter : Expr) (m : EM (List D)) : Prop where
  ex : ∃ wi : TI, (∀ X, S.Ok X → PI X tg iter wi) ∧ ∀ ρ ω σ H en h (R : It → Hp → Prop), Rel S.K S.B ρ ω σ H en h → Post S (RI S) ρ ω σ H (m en h) R → wi σ H R
section
variable {S : Sx} {tg a b : Expr} {ma mb : EM D} {x : Str} {p pos : Pos}
/-- a list or a tuple -/
def iSq (K : Fg) (tl : TE) : TI := fun σ H R => tl σ H fun x H1 => ∃ a, x = .ref a ∧ (((∃ xs, SqL K H1 a xs) ∧ R (Itl K a) H1) ∨ ((∃ xs, SqT K H1 a xs) ∧ R (Itt K a) H1))
theorem pi_sq {X : Cx} {l : Expr} {tl : TE} (hl : PE X l tl) : PI X tg l (iSq X.K tl) := by
  refine ⟨fun pins s σ H R I h => ?_⟩
  refine thn (hl.run pins s σ H _ I h) fun v s1 ⟨x, H1, I1, r1, q1⟩ => ?_
  obtain ⟨a, e, q⟩ := q1
  subst e
  cases r1
  rcases q with ⟨⟨xs, hq⟩, q⟩ | ⟨⟨xs, hq⟩, q⟩
  · obtain ⟨its, rv, p, hz⟩ := I1.list hq
    refine wpAny_pyIter_list p.isList ?_
    refine ⟨s1.heap.objs.size, [s1.heap.objs.size], _, _, H1, rfl, I1.kept (t' := s1.toks) fun b o e => Heap.get?_push_of_some _ e, turn_list a _, ⟨_, Heap.get?_push_size _ rfl, rfl, rfl⟩, fun b hb => ?_, q⟩
    have e : b = s1.heap.objs.size := by simpa using hb
    subst e
    exact I1.fpOk (Nat.le_refl _) (I1.hok.fresh (Nat.le_refl _))
  · obtain ⟨its, rv, p, hz⟩ := I1.tuple hq
    refine wpAny_pyIter_tuple (show s1.heap.IsTuple a its.toArray from p) ?_
    refine ⟨s1.heap.objs.size, [s1.heap.objs.size], _, _, H1, rfl, I1.kept (t' := s1.toks) fun b o e => Heap.get?_push_of_some _ e, turn_tuple a _, ⟨_, Heap.get?_push_size _ rfl, rfl, rfl⟩, fun b hb => ?_, q⟩
    have e : b = s1.heap.objs.size := by simpa using hb
    subst e
    exact I1.fpOk (Nat.le_refl _) (I1.hok.fresh (Nat.le_refl _))
theorem itd_list {K : Fg} {ρ : List Addr} {ω : Addr → Prop} {H : Hp} {a : Addr} {xs : List V} {ds : List D} (h1 : H a = some (.lst xs)) (hn : ¬ ω a) (h2 : RepA K ρ ω H ds xs) : ItD K (Itl K a) ds ρ ω H := by
  refine ⟨⟨_, _, by rw [h2.len]; exact walk_list (xs := xs), fun ρ' ω' H' s => SqL.of (s.keep a _ h1 hn), fun i ρ1 ω1 H1 x H2 hs hi s hr y => ?_⟩⟩
  obtain ⟨e, y⟩ := y
  subst e
  obtain ⟨d, e1, r⟩ := (s.repA h2).get' y
  exact ⟨.same, d, e1, r⟩
theorem itd_tup {K : Fg} {ρ : List Addr} {ω : Addr → Prop} {H : Hp} {a : Addr} {xs : List V} {ds : List D} (h1 : SqT K H a xs) (h2 : RepA K ρ ω H ds xs) : ItD K (Itt K a) ds ρ ω H := by
  refine ⟨⟨_, _, by rw [h2.len]; exact walk_tup (xs := xs), fun ρ' ω' H' s => sqT_keep s.tup s.frz h1, fun i ρ1 ω1 H1 x H2 hs hi s hr y => ?_⟩⟩
  obtain ⟨e, y⟩ := y
  subst e
  obtain ⟨d, e1, r⟩ := (s.repA h2).get' y
  exact ⟨.same, d, e1, r⟩
theorem si_seq (ha : SE S a ma) : SI S tg a (iSeq ma) := by
  obtain ⟨ta, pa, sa⟩ := ha.ex
  refine ⟨⟨iSq S.K ta, fun X o => by
    have q := pi_sq (tg := tg) (pa X o)
    rw [o.K] at q
    exact q, fun ρ ω σ H en h R rl p => ?_⟩⟩
  refine sa ρ ω σ H en h _ rl (Post.bind p fun d h1 v H1 ρ1 ω1 s1 hr1 r1 p1 => ?_)
  cases d with
  | tup ds =>
    obtain ⟨q, xs, rfl, h2, h3⟩ := r1
    exact ⟨q, rfl, .inr ⟨⟨xs, h2⟩, p1 _ H1 ρ1 ω1 .refl hr1 (itd_tup h2 h3)⟩⟩
  | lst ds =>
    obtain ⟨q, xs, rfl, h2, hn, h3⟩ := r1
    exact ⟨q, rfl, .inl ⟨⟨xs, SqL.of h2⟩, p1 _ H1 ρ1 ω1 .refl hr1 (itd_list h2 hn h3)⟩⟩
  | _ => exact p1.elim
theorem itd_range {K : Fg} {ρ : List Addr} {ω : Addr → Prop} {H : Hp} {lo : Int} {n : Nat} : ItD K (Itr lo n) (rngL lo n) ρ ω H := by
  have hl : (rngL lo n).length = n := by simp [rngL]
  refine ⟨⟨_, _, by rw [hl]; exact walk_range, fun _ _ _ _ => True.intro, fun i ρ1 ω1 H1 x H2 hs hi s hr y => ?_⟩⟩
  obtain ⟨e, y⟩ := y
  subst e
  rw [hl] at hi
  refine ⟨.same, .int (lo + i), by simp [rngL, hi], y⟩
theorem smallR_ok {i : Int} (h : smallR i = true) : -(2 ^ 62) ≤ i ∧ i < 2 ^ 62 := by
  have := Nat.le_of_ble_eq_true h
  omega
theorem si_rng1 (ha : SE S a ma) (hg : Glb S "range") (hm : S.mg "range" = none) (hs : ∀ env, starEach [a] env = [(false, eval a env)] := by intro _; rfl) (hs' : ∀ env, starEach [a] env = (false, eval a env) :: starEach [] env := by intro _; rfl) : SI S tg (.Call (.Name "range" p) [a] [] pos) (iRng1 ma) := by
  obtain ⟨ta, pa, sa⟩ := ha.ex
  refine ⟨⟨L2.iRng1 (tCons ta tNil), fun X o => pi_range1 (by show X.env.scope.names.lookup _ = _; rw [o.sc]; exact hg) (by rw [o.mg]; exact hm) (pa_cons (pa X o) pa_nil (hs' _)) (hs _), fun ρ ω σ H en h R rl p => ?_⟩⟩
  refine sa ρ ω σ H en h _ rl (Post.bind p fun d h1 v H1 ρ1 ω1 s1 hr1 r1 p1 => ?_)
  cases d with
  | int j =>
    by_cases hj : smallR j = true
    · have p2 : Post S (RI S) ρ1 ω1 σ H1 (if smallR j then .ok (rngL 0 j.toNat) h1 else .stuck) R := p1
      rw [if_pos hj] at p2
      have e : v = .int j := r1
      subst e
      exact ⟨j, rfl, (smallR_ok hj).1, (smallR_ok hj).2, p2 _ H1 ρ1 ω1 .refl hr1 itd_range⟩
    · have p2 : Post S (RI S) ρ1 ω1 σ H1 (if smallR j then .ok (rngL 0 j.toNat) h1 else .stuck) R := p1
      rw [if_neg hj] at p2
      exact p2.elim
  | _ => exact p1.elim
theorem si_rng2 (ha : SE S a ma) (hb : SE S b mb) (hg : Glb S "range") (hm : S.mg "range" = none) (hs : ∀ env, starEach [a, b] env = [(false, eval a env), (false, eval b env)] := by intro _; rfl) (hs2 : ∀ env, starEach [b] env = [(false, eval b env)] := by intro _; rfl)
    (hs' : ∀ env, starEach [a, b] env = (false, eval a env) :: starEach [b] env := by intro _; rfl) (hs2' : ∀ env, starEach [b] env = (false, eval b env) :: starEach [] env := by intro _; rfl) : SI S tg (.Call (.Name "range" p) [a, b] [] pos) (iRng2 ma mb) := by
  obtain ⟨ta, pa, sa⟩ := ha.ex
  obtain ⟨tb, pb, sb⟩ := hb.ex
  refine ⟨⟨L2.iRng2 (tCons ta (tCons tb tNil)), fun X o => pi_range2 (by show X.env.scope.names.lookup _ = _; rw [o.sc]; exact hg) (by rw [o.mg]; exact hm) (pa_cons (pa X o) (pa_cons (pb X o) pa_nil (hs2' _)) (hs' _)) (hs _) (hs2 _), fun ρ ω σ H en h R rl p => ?_⟩⟩
  refine sa ρ ω σ H en h _ rl (Post.bind p fun d h1 v H1 ρ1 ω1 s1 hr1 r1 p1 => ?_)
  refine sb ρ1 ω1 σ H1 en h1 _ (rl.step s1 hr1) (Post.bind p1 fun d2 h2 v2 H2 ρ2 ω2 s2 hr2 r2 p2 => ?_)
  cases d with
  | int i =>
    cases d2 with
    | int j =>
      by_cases hj : (smallR i && smallR j) = true
      · have p3 : Post S (RI S) ρ2 ω2 σ H2 (if smallR i && smallR j then .ok (rngL i (j - i).toNat) h2 else .stuck) R := p2
        rw [if_pos hj] at p3
        simp only [Bool.and_eq_true] at hj
        have e : v = .int i := r1
        have e2 : v2 = .int j := r2
        subst e e2
        exact ⟨i, j, rfl, ⟨(smallR_ok hj.1).1, (smallR_ok hj.1).2, (smallR_ok hj.2).1, (smallR_ok hj.2).2⟩, p3 _ H2 ρ2 ω2 .refl hr2 itd_range⟩
      · have p3 : Post S (RI S) ρ2 ω2 σ H2 (if smallR i && smallR j then .ok (rngL i (j - i).toNat) h2 else .stuck) R := p2
        rw [if_neg hj] at p3
        exact p3.elim
    | _ => exact p2.elim
  | _ => cases d2 <;> exact p2.elim
theorem zipL_get {xs ys : List D} {i : Nat} {x y : D} (h1 : xs[i]? = some x) (h2 : ys[i]? = some y) : (zipL xs ys)[i]? = some (.tup [x, y]) := by
  simp [zipL, List.getElem?_zipWith, h1, h2]
theorem zip_item {K : Fg} {ρ1 : List Addr} {ω1 : Addr → Prop} {H1 : Hp} {h1 : Hs} {xs ys : List D} {us vs : List V} {i : Nat} {T : Addr} {x y : V} (hr : HRel K ρ1 ω1 H1 h1) (n : H1 T = none) (rx : RepA K ρ1 ω1 H1 xs us) (ry : RepA K ρ1 ω1 H1 ys vs) (e1 : us[i]? = some x) (e2 : vs[i]? = some y) :
    ∃ d, (zipL xs ys)[i]? = some d ∧ Rep K ρ1 ω1 (upd H1 T (.tup [x, y])) d (.ref T) := by
  obtain ⟨d1, q1, r1⟩ := rx.get' e1
  obtain ⟨d2, q2, r2⟩ := ry.get' e2
  exact ⟨.tup [d1, d2], zipL_get q1 q2, rep_tup hr n (RepA.cons r1 (RepA.one r2))⟩
theorem zipL_len (xs ys : List D) : (zipL xs ys).length = min xs.length ys.length := by simp [zipL]
theorem itd_zipL {K : Fg} {ρ : List Addr} {ω : Addr → Prop} {H : Hp} {a b : Addr} {us vs : List V} {xs ys : List D} (h1 : H a = some (.lst us)) (n1 : ¬ ω a) (r1 : RepA K ρ ω H xs us) (h2 : H b = some (.lst vs)) (n2 : ¬ ω b) (r2 : RepA K ρ ω H ys vs) : ItD K (Itz K a b) (zipL xs ys) ρ ω H := by
  refine ⟨⟨fun H => SqL K H a us ∧ SqL K H b vs, _, by rw [zipL_len, r1.len, r2.len]; exact walk_zip (K := K) (a := a) (b := b) (xs := us) (ys := vs) rfl, fun ρ' ω' H' s => ⟨SqL.of (s.keep a _ h1 n1), SqL.of (s.keep b _ h2 n2)⟩, fun i ρ1 ω1 H1 x H2 hs hi s hr y => ?_⟩⟩
  obtain ⟨T, x', y', rfl, n, rfl, e1, e2⟩ := y
  exact ⟨.new n, zip_item hr n (s.repA r1) (s.repA r2) e1 e2⟩
theorem walk_zipT {K : Fg} {a b : Addr} {xs ys : List V} {n : Nat} (hn : n = min xs.length ys.length) : Walk (ItzT K a b) n (fun H => SqT K H a xs ∧ SqT K H b ys) (YPair (fun i => xs[i]?) (fun i => ys[i]?)) := by
  subst hn
  refine ⟨fun i _ hi q => ?_, fun _ q => ⟨xs, ys, q.1, q.2, by omega⟩, fun i H v H' _ q y => ?_⟩
  · have h1 : i < xs.length := by omega
    have h2 : i < ys.length := by omega
    exact ⟨xs, ys, xs[i], ys[i], q.1, q.2, by simp [h1], by simp [h2]⟩
  · obtain ⟨T, x, z, h1, h2, h3, h4, h5⟩ := y
    exact ⟨T, x, z, h1, h2, h3, h4 xs q.1, h5 ys q.2⟩
theorem itd_zipT {K : Fg} {ρ : List Addr} {ω : Addr → Prop} {H : Hp} {a b : Addr} {us vs : List V} {xs ys : List D} (h1 : SqT K H a us) (r1 : RepA K ρ ω H xs us) (h2 : SqT K H b vs) (r2 : RepA K ρ ω H ys vs) : ItD K (ItzT K a b) (zipL xs ys) ρ ω H := by
  refine ⟨⟨fun H => SqT K H a us ∧ SqT K H b vs, _, by rw [zipL_len, r1.len, r2.len]; exact walk_zipT (K := K) (a := a) (b := b) (xs := us) (ys := vs) rfl, fun ρ' ω' H' s => ⟨sqT_keep s.tup s.frz h1, sqT_keep s.tup s.frz h2⟩, fun i ρ1 ω1 H1 x H2 hs hi s hr y => ?_⟩⟩
  obtain ⟨T, x', y', rfl, n, rfl, e1, e2⟩ := y
  exact ⟨.new n, zip_item hr n (s.repA r1) (s.repA r2) e1 e2⟩
theorem si_zip {elts : List Expr} {kk : Nat} {tpos : Pos} (ha : SE S a ma) (hb : SE S b mb) (hg : Glb S "zip") (hm : S.mg "zip" = none)
    (hs : ∀ env, starEach [a, b] env = (false, eval a env) :: starEach [b] env := by intro _; rfl) (hs2 : ∀ env, starEach [b] env = (false, eval b env) :: starEach [] env := by intro _; rfl) (hpl : ∀ env, (backTo pos (starEach [b] env)).any (·.1) = false := by intro _; rfl) : SI S (.Tuple elts kk tpos) (.Call (.Name "zip" p) [a, b] [] pos) (iZip ma mb) := by
  obtain ⟨ta, pa, sa⟩ := ha.ex
  obtain ⟨tb, pb, sb⟩ := hb.ex
  refine ⟨⟨iZipA S.K (tCons ta (tCons tb tNil)), fun X o => by
    have q := pi_zipA (elts := elts) (kk := kk) (tpos := tpos) (p := p) (pos := pos) (X := X) (by show X.env.scope.names.lookup _ = _; rw [o.sc]; exact hg) (by rw [o.mg]; exact hm) (pa_cons (pa X o) (pa_cons (pb X o) pa_nil (hs2 _)) (hs _)) (hs _) (hpl _)
    rw [o.K] at q
    exact q, fun ρ ω σ H en h R rl p => ?_⟩⟩
  refine sa ρ ω σ H en h _ rl (Post.bind p fun d h1 v H1 ρ1 ω1 s1 hr1 r1 p1 => ?_)
  refine sb ρ1 ω1 σ H1 en h1 _ (rl.step s1 hr1) (Post.bind p1 fun d2 h2 v2 H2 ρ2 ω2 s2 hr2 r2 p2 => ?_)
  have r1' := s2.rep hr1 r1
  cases d with
  | tup ds =>
    cases d2 with
    | tup es =>
      obtain ⟨q, xs, rfl, g1, g2⟩ := r1'
      obtain ⟨q2, ys, rfl, g3, g4⟩ := r2
      exact ⟨q, q2, xs, ys, rfl, .inr ⟨g1, g3, p2 _ H2 ρ2 ω2 .refl hr2 (itd_zipT g1 g2 g3 g4)⟩⟩
    | _ => exact p2.elim
  | lst ds =>
    cases d2 with
    | lst es =>
      obtain ⟨q, xs, rfl, g1, n1, g2⟩ := r1'
      obtain ⟨q2, ys, rfl, g3, n2, g4⟩ := r2
      exact ⟨q, q2, xs, ys, rfl, .inl ⟨SqL.of g1, SqL.of g3, p2 _ H2 ρ2 ω2 .refl hr2 (itd_zipL g1 n1 g2 g3 n2 g4)⟩⟩
    | _ => exact p2.elim
  | _ => cases d2 <;> exact p2.elim
end
end DS

set_option Elab.async false
set_option linter.all false
set_option maxRecDepth 100000
set_option maxHeartbeats 4000000
/-! DStm2: comprehensions, statements, defs. -/
namespace DS
open PySem PySem.Spec PyProof.Rows L2

/-! ### a write to a list that is one's own -/
theorem nodup_at {α : Type} {l : List α} (h : l.Nodup) {i j : Nat} {x : α} (a : l[i]? = some x) (b : l[j]? = some x) : i = j := by
  obtain ⟨h1, e1⟩ := List.getElem?_eq_some_iff.mp a
  obtain ⟨h2, e2⟩ := List.getElem?_eq_some_iff.mp b
  exact (List.getElem_inj h).mp (e1.trans e2.symm)
section
variable {K : Fg} {B : Bs} {ρ ρ1 : List Addr} {ω ω1 : Addr → Prop} {σ : L2.St} {H H1 : Hp} {e : En} {h : Hs} {p : Addr} {xs ys : List V}
theorem ne_tup {a : Addr} {us : List V} (hp : H p = some (.lst xs)) (h : H a = some (.tup us)) : a ≠ p := fun z => by
  subst z
  rw [hp] at h
  cases h
theorem ne_frz {a : Addr} {o : Obj} {u : HO} (hp : H p = some (.lst xs)) (h : H a = some (.frz o u)) : a ≠ p := fun z => by
  subst z
  rw [hp] at h
  cases h
theorem sqT_wr (hp : H p = some (.lst xs)) {a : Addr} {us : List V} (q : SqT K H a us) : SqT K (upd H p (.lst ys)) a us :=
  sqT_keep (fun a us e => by rw [upd_ne (ne_tup hp e)]; exact e) (fun a o u e => by rw [upd_ne (ne_frz hp e)]; exact e) q
theorem Rep.wr (hp : H p = some (.lst xs)) (hw : ω p) {d : D} {v : V} (r : Rep K ρ ω H d v) : Rep K ρ ω (upd H p (.lst ys)) d v :=
  Rep.mono (fun a us q => sqT_wr hp q) (fun a us q n => ⟨by rw [upd_ne (by rintro rfl; exact n hw)]; exact q, n⟩) (fun _ _ z => z) (fun a o u q => by rw [upd_ne (ne_frz hp q)]; exact q) d v r
theorem RepA.wr (hp : H p = some (.lst xs)) (hw : ω p) {ds : List D} {vs : List V} (r : RepA K ρ ω H ds vs) : RepA K ρ ω (upd H p (.lst ys)) ds vs :=
  RepA.mono (fun a us q => sqT_wr hp q) (fun a us q n => ⟨by rw [upd_ne (by rintro rfl; exact n hw)]; exact q, n⟩) (fun _ _ z => z) (fun a o u q => by rw [upd_ne (ne_frz hp q)]; exact q) ds vs r
theorem oh_wr (hp : H p = some (.lst xs)) (oh : ∀ a, ω a → H a ≠ none) : ∀ a, ω a → upd H p (.lst ys) a ≠ none := fun a w => by
  by_cases z : a = p
  · subst z; rw [upd_same]; simp
  · rw [upd_ne z]; exact oh a w
theorem HRel.wr (hr : HRel K ρ ω H h) (hp : H p = some (.lst xs)) (hw : ω p) (hn : p ∉ ρ) : HRel K ρ ω (upd H p (.lst ys)) h := by
  refine ⟨hr.hlen, fun r c q => ?_, hr.nd, hr.ro, oh_wr hp hr.oh⟩
  obtain ⟨a, e1, c1⟩ := hr.cell r c q
  have na : a ≠ p := fun z => hn (z ▸ List.mem_of_getElem? e1)
  refine ⟨a, e1, ?_⟩
  cases c with
  | lst ds =>
    obtain ⟨us, e2, r2⟩ := c1
    exact ⟨us, by rw [upd_ne na]; exact e2, r2.wr hp hw⟩
theorem Step.wr (s : Step ρ1 ω1 H1 ρ ω H) (hp : H p = some (.lst xs)) (hn : H1 p = none) : Step ρ1 ω1 H1 ρ ω (upd H p (.lst ys)) where
  pre := s.pre
  sub := s.sub
  new := s.new
  newr := s.newr
  keep := fun a o q n => by rw [upd_ne (ne_of_none q hn)]; exact s.keep a o q n
  tup := fun a us q => by rw [upd_ne (ne_of_none q hn)]; exact s.tup a us q
  frz := fun a o u q => by rw [upd_ne (ne_of_none q hn)]; exact s.frz a o u q
  more := fun a q => by
    by_cases z : a = p
    · subst z; rw [upd_same]; simp
    · rw [upd_ne z]; exact s.more a q
end

/-! ### comprehensions -/
def Sx.blk (S : Sx) (scope : Scope) : Sx := { S with sc := relS scope S.sc, W := fun _ _ _ _ => False, fn := fun x => scope.names.lookup x == some .cell }
theorem blk_ok {S : Sx} {X : Cx} (o : S.Ok X) (scope : Scope) (s : Shared) (H : Hp) (C : Addr) (cl : List (Str × Addr)) (fp : List Addr) : (S.blk scope).Ok (X.blk s H scope (compEnvC scope cl C X.env) fp) := by
  refine ⟨o.P, o.w, o.K, o.mg, o.base, o.N, ?_, o.calm, o.room, takes0, PassesOwn.never, fun x q => q⟩
  show relabel scope X.env = relS scope S.sc
  rw [← o.sc]
  rfl
structure STts (S : Sx) (ifs : List Expr) (m : EM Bool) : Prop where
  ex : ∃ t : TT, (∀ X, S.Ok X → PTs X ifs t) ∧ ∀ ρ ω σ H en h Q, Rel S.K S.B ρ ω σ H en h → Post S RB ρ ω σ H (m en h) Q → t σ H Q
theorem sts_nil {S : Sx} : STts S [] DS.tYes := ⟨⟨L2.tYes, fun _ _ => pts_nil, fun ρ ω _ H _ _ _ rl p => p true H ρ ω .refl rl.hr rfl⟩⟩
theorem sts_one {S : Sx} {c : Expr} {m : EM Bool} (hc : STt S c m) : STts S [c] m := by
  obtain ⟨t, pt, st⟩ := hc.ex
  exact ⟨⟨t, fun X o => pts_one (pt X o), st⟩⟩
section
variable {S : Sx} {scope : Scope} {wi : TI} {g' : TG} {tt : TT} {te : TE} {it : EM (List D)} {g : TM} {t : EM Bool} {m : EM D} {vs ts : List Nat}
theorem lc_sound (hwi : ∀ ρ ω σ H en h (R : It → Hp → Prop), Rel S.K S.B ρ ω σ H en h → Post S (RI S) ρ ω σ H (it en h) R → wi σ H R)
    (hg : ∀ ρ ω σ H en h d v e1 (Q : L2.St → Hp → Prop), Rel S.K S.B ρ ω σ H en h → Rep S.K ρ ω H d v → g d en = some e1 →
      (∀ σ', Rel S.K S.B ρ ω σ' H e1 h → (∀ vs, (∀ i ∈ ts, i ∈ vs) → L2.wipe σ' vs = L2.wipe σ vs) → Q σ' H) → g' v σ H Q)
    (ht : ∀ ρ ω σ H en h Q, Rel S.K S.B ρ ω σ H en h → Post (S.blk scope) RB ρ ω σ H (t en h) Q → tt σ H Q)
    (he : ∀ ρ ω σ H en h Q, Rel S.K S.B ρ ω σ H en h → Post (S.blk scope) (RD S) ρ ω σ H (m en h) Q → te σ H Q) (hsub : ∀ i ∈ ts, i ∈ vs)
    {ρ : List Addr} {ω : Addr → Prop} {σ : L2.St} {H : Hp} {en : En} {h : Hs} {Q : VK} (rl : Rel S.K S.B ρ ω σ H en h) (p : Post S (RD S) ρ ω σ H (mLc vs it g t m en h) Q) : tLc wi g' tt te vs σ H Q := by
  refine hwi ρ ω σ H en h _ rl (Post.bind p fun ds h1 J H1 ρ1 ω1 s1 hr1 rJ p1 => ?_)
  intro D nD
  obtain ⟨G, Y, wk, hG, hY⟩ := rJ.ex
  have rl1 := rl.step s1 hr1
  refine lc_it wk (Qd := fun Hc => Q (.ref D) Hc) (fun i Hc => ∃ ρ' ω' h' accD accV, Step ρ1 ω1 H1 ρ' ω' Hc ∧ HRel S.K ρ' ω' Hc h' ∧ ω' D ∧ D ∉ ρ' ∧ Hc D = some (.lst accV) ∧ RepA S.K ρ' ω' Hc accD accV ∧
    Post S (RD S) ρ1 ω1 σ H1 (((lcLoop g t m (noOwn (DS.wipe en vs)) (ds.drop i) accD h').nox).bind fun xs h2 => .ok (.lst xs) h2) Q) ?h0 ?hG ?hs ?hd
  case h0 =>
    have s0 : Step ρ1 ω1 H1 ρ1 (fun a => ω1 a ∨ a = D) (upd H1 D (.lst [])) := by
      have q := new_step hr1 nD (.lst [])
      exact ⟨fun _ _ z => z, q.sub, q.new, fun _ z => .inl z, q.keep, q.tup, q.frz, q.more⟩
    refine ⟨ρ1, fun a => ω1 a ∨ a = D, h1, [], [], s0, ?_, .inr rfl, fun z => hr1.oh D (hr1.ro D z) nD, upd_same, RepA.nil, p1⟩
    refine ⟨hr1.hlen, fun r c q => ?_, hr1.nd, fun a z => .inl (hr1.ro a z), fun a z => ?_⟩
    · obtain ⟨a, e1, c1⟩ := hr1.cell r c q
      exact ⟨a, e1, c1.mono s0 hr1 fun o q => by rw [upd_ne (ne_of_none q nD)]; exact q⟩
    · rcases z with z | z
      · exact s0.more a (hr1.oh a z)
      · subst z; rw [upd_same]; simp
  case hG =>
    rintro i Hc _ ⟨ρ', ω', h', accD, accV, s2, _⟩
    exact hG ρ' ω' Hc (s2.weak hr1.ro)
  case hs =>
    rintro i x Hc H' hi ⟨ρ', ω', h', accD, accV, s2, hr2, wD, nD2, eD, rA, p2⟩ hy
    obtain ⟨gr, d, ed, rd⟩ := hY i ρ' ω' Hc x H' h' hi (s2.weak hr1.ro) hr2 hy
    have s3 : Step ρ' ω' Hc ρ' ω' H' := gr.step
    have hr3 := hr2.grow gr
    have rl3 : Rel S.K S.B ρ' ω' (L2.wipe σ vs) H' (noOwn (DS.wipe en vs)) h' := ((rl1.wipe vs).noOwn).step (s2.trans s3) hr3
    have e1 : ds.drop i = d :: ds.drop (i + 1) := by
      obtain ⟨hlt, e⟩ := List.getElem?_eq_some_iff.mp ed
      rw [List.drop_eq_getElem_cons hlt, e]
    rw [e1] at p2
    unfold lcLoop at p2
    cases qg : g d (noOwn (DS.wipe en vs)) with
    | none =>
      simp only [qg] at p2
      exact p2.elim
    | some e2 =>
      simp only [qg] at p2
      refine hg ρ' ω' (L2.wipe σ vs) H' (noOwn (DS.wipe en vs)) h' d x e2 _ rl3 rd qg fun σ' rl4 hw => ⟨?_, ?_⟩
      · rw [hw vs hsub, wipe_sub fun _ z => z]
      · refine ht ρ' ω' σ' H' e2 h' _ rl4 ?_
        cases qt : t e2 h' with
        | exc x hx =>
          simp only [qt, bind_exc] at p2
          exact p2.elim
        | stuck =>
          simp only [qt, bind_stuck] at p2
          exact p2.elim
        | ok k h2 =>
          simp only [qt, bind_ok] at p2
          intro b H2 ρ2 ω2 s4 hr4 eb
          obtain rfl : k = b := eb
          have s5 := (s2.trans s3).trans s4
          have eD2 : H2 D = some (.lst accV) := s4.keep D _ (gr.keep eD) nD2
          have wD2 : ω2 D := s4.sub D wD
          have nD3 : D ∉ ρ2 := fun z => by
            rcases s4.newr D z with z | z
            · exact nD2 z
            · rw [gr.keep eD] at z; cases z
          have rA2 : RepA S.K ρ2 ω2 H2 accD accV := s4.repA hr3 (s3.repA hr2 rA)
          cases k with
          | false =>
            refine ⟨ρ2, ω2, h2, accD, accV, s5, hr4, wD2, nD3, eD2, rA2, ?_⟩
            exact p2
          | true =>
            refine he ρ2 ω2 σ' H2 e2 h2 _ (rl4.step s4 hr4) ?_
            cases qm : m e2 h2 with
            | exc x hx =>
              simp only [qm, bind_exc, if_true] at p2
              exact p2.elim
            | stuck =>
              simp only [qm, bind_stuck, if_true] at p2
              exact p2.elim
            | ok y h3 =>
              simp only [qm, bind_ok, if_true] at p2
              intro v H3 ρ3 ω3 s6 hr6 rv
              have eD3 : H3 D = some (.lst accV) := s6.keep D _ eD2 nD3
              by_cases hl : accD.length < LINE
              · rw [if_pos hl] at p2
                have nD4 : D ∉ ρ3 := fun z => by
                  rcases s6.newr D z with z | z
                  · exact nD3 z
                  · rw [eD2] at z; cases z
                have rA3 : RepA S.K ρ3 ω3 H3 accD accV := s6.repA hr4 rA2
                refine ⟨accV, eD3, by rw [← rA3.len, line_eq]; exact hl, ρ3, ω3, h3, accD ++ [y], accV ++ [v], (s5.trans s6).wr eD3 nD, hr6.wr eD3 (s6.sub D wD2) nD4, s6.sub D wD2, nD4, upd_same, ?_, p2⟩
                exact (rA3.append (RepA.one rv)).wr eD3 (s6.sub D wD2)
              · rw [if_neg hl] at p2
                exact p2.elim
  case hd =>
    rintro Hc ⟨ρ', ω', h', accD, accV, s2, hr2, wD, nD2, eD, rA, p2⟩
    rw [List.drop_length] at p2
    have s3 : Step ρ1 ω1 H1 ρ' (fun a => ω' a ∧ a ≠ D) Hc :=
      ⟨s2.pre, fun a z => ⟨s2.sub a z, fun q => by subst q; exact hr1.oh _ z nD⟩, fun a z => s2.new a z.1, s2.newr, s2.keep, s2.tup, s2.frz, s2.more⟩
    have mon : ∀ ds us, RepA S.K ρ' ω' Hc ds us → RepA S.K ρ' (fun a => ω' a ∧ a ≠ D) Hc ds us := fun ds us r => RepA.mono (fun _ _ z => z) (fun _ _ q n => ⟨q, fun z => n z.1⟩) (fun _ _ z => z) (fun _ _ _ z => z) ds us r
    refine p2 (.ref D) Hc ρ' (fun a => ω' a ∧ a ≠ D) s3 ?_ ⟨D, accV, rfl, eD, fun z => z.2 rfl, mon _ _ rA⟩
    refine ⟨hr2.hlen, fun r c q => ?_, hr2.nd, fun a z => ⟨hr2.ro a z, fun q => nD2 (q ▸ z)⟩, fun a z => hr2.oh a z.1⟩
    obtain ⟨a, e1, c1⟩ := hr2.cell r c q
    refine ⟨a, e1, ?_⟩
    cases c with
    | lst es =>
      obtain ⟨us, e2, r2⟩ := c1
      exact ⟨us, e2, mon _ _ r2⟩
theorem se_lc {tg iter elt : Expr} {ifs : List Expr} {own : List (Str × Nat)} {pos : Pos} (hN : S.N.Nodup) (hi : SI S tg iter it) (ok : BlkOk S.N S.sc scope own) (hg : SG (S.blk scope) tg ts g) (ht : STts (S.blk scope) ifs t) (he : SE (S.blk scope) elt m)
    (hsub : ∀ i ∈ ts, i ∈ own.map (·.2)) (hs : ∀ env x, foldedSetIterable iter env x = pure x := by intro _ _; rfl) : SE S (.ListComp elt [⟨tg, iter, ifs, 0⟩] scope pos) (mLc (own.map (·.2)) it g t m) := by
  obtain ⟨wi, pi, si⟩ := hi.ex
  obtain ⟨g', pg, sg⟩ := hg.ex
  obtain ⟨tt, pt, st⟩ := ht.ex
  obtain ⟨te, pe, se⟩ := he.ex
  exact ⟨⟨tLc wi g' tt te (own.map (·.2)), fun X o => pe_lc o.calm (by rw [o.N]; exact hN) (pi X o) (by rw [o.N, o.sc]; exact ok) (fun s H C cl fp => pg _ (blk_ok o scope s H C cl fp)) (fun s H C cl fp => pt _ (blk_ok o scope s H C cl fp)) (fun s H C cl fp => pe _ (blk_ok o scope s H C cl fp)) (hs _),
    fun ρ ω σ H en h Q rl p => lc_sound (S := S) (scope := scope) si sg st se hsub rl p⟩⟩
end

/-! ### blocks and small statements -/
section
variable {S : Sx} {st : Stmt} {sts : List Stmt} {m m2 : SM} {a b c : Expr} {ma mb mc : EM D} {x : Str} {p pos : Pos}
theorem sss_nil : SSs S [] sNext := ⟨⟨tNext, fun _ _ => pss_nil, fun ρ ω σ H en h Dn rl q => q σ H ρ ω rl .refl⟩⟩
theorem sss_one (h : SS S st m) : SSs S [st] m := by
  obtain ⟨t, pt, q⟩ := h.ex
  exact ⟨⟨t, fun X o => pss_one (pt X o), q⟩⟩
theorem SPost.seq {ρ : List Addr} {ω : Addr → Prop} {H : Hp} {en : En} {h : Hs} {Dn : Ends} {t : TS} (q : SPost S ρ ω H (sSeq m m2 en h) Dn)
    (k : ∀ ρ ω σ H en h Dn, Rel S.K S.B ρ ω σ H en h → SPost S ρ ω H (m2 en h) Dn → t Dn σ H) : SPost S ρ ω H (m en h) { Dn with nx := t Dn } := by
  unfold sSeq at q
  cases z : m en h with
  | nx e1 h1 =>
    rw [z] at q
    exact fun σ' H' ρ' ω' rl' s => k ρ' ω' σ' H' e1 h1 Dn rl' (SPost.step (r := m2 e1 h1) q s)
  | bk e1 h1 => rw [z] at q; exact q
  | ct e1 h1 => rw [z] at q; exact q
  | rt d h1 => rw [z] at q; exact q
  | exc x e1 h1 => rw [z] at q; exact q
  | stuck => rw [z] at q; exact q
theorem sss_cons (h1 : SS S st m) (h2 : SSs S sts m2) : SSs S (st :: sts) (sSeq m m2) := by
  obtain ⟨t1, p1, q1⟩ := h1.ex
  obtain ⟨t2, p2, q2⟩ := h2.ex
  exact ⟨⟨tSeq t1 t2, fun X o => pss_cons (p1 X o) (p2 X o), fun ρ ω σ H en h Dn rl q => q1 ρ ω σ H en h _ rl (SPost.seq q q2)⟩⟩
theorem Rel.freeze {K : Fg} {B : Bs} {ρ : List Addr} {ω : Addr → Prop} {σ : L2.St} {H : Hp} {e : En} {h : Hs} (r : Rel K B ρ ω σ H e h) {i : Nat} {ds : List D} (q : e[i]? = some (.own ds)) :
    ∃ ω', Rel K B ρ ω' σ H (e.set i (.val (.lst ds))) h ∧ StepW ρ ω H ρ ω' H := by
  obtain ⟨a, xs, e1, e2, e3, e4, e5, e6⟩ := r.own i ds q
  have mon : ∀ d v, Rep K ρ ω H d v → Rep K ρ (fun b => ω b ∧ b ≠ a) H d v := fun d v r => Rep.mono (fun _ _ z => z) (fun _ _ q n => ⟨q, fun z => n z.1⟩) (fun _ _ z => z) (fun _ _ _ z => z) d v r
  have monA : ∀ d v, RepA K ρ ω H d v → RepA K ρ (fun b => ω b ∧ b ≠ a) H d v := fun d v r => RepA.mono (fun _ _ z => z) (fun _ _ q n => ⟨q, fun z => n z.1⟩) (fun _ _ z => z) (fun _ _ _ z => z) d v r
  refine ⟨fun b => ω b ∧ b ≠ a, ⟨⟨r.hr.hlen, fun j c z => ?_, r.hr.nd, fun b z => ⟨r.hr.ro b z, fun w => e4 (w ▸ z)⟩, fun b z => r.hr.oh b z.1⟩, ⟨r.st.pre, fun b z => ⟨r.st.sub b z, fun w => r.bo b z (w ▸ e5)⟩, fun b z => r.st.new b z.1, r.st.newr, r.st.keep, r.st.tup, r.st.frz, r.st.more⟩, r.bo, by simp [r.len], fun j d z => ?_, fun j es z => ?_, fun j j' es fs z1 z2 z3 => ?_⟩,
    ⟨fun _ _ z => z, fun b z => .inl z.1, fun _ _ z _ => z, fun _ _ z => z, fun _ _ _ z => z⟩⟩
  · obtain ⟨b, f1, f2⟩ := r.hr.cell j c z
    refine ⟨b, f1, ?_⟩
    cases c with
    | lst es =>
      obtain ⟨us, g1, g2⟩ := f2
      exact ⟨us, g1, monA _ _ g2⟩
  · rcases get_set z with ⟨rfl, f1, _⟩ | ⟨ne, z⟩
    · cases f1
      exact ⟨.ref a, e1, a, xs, rfl, e2, fun w => w.2 rfl, monA _ _ e6⟩
    · obtain ⟨v, f1, f2⟩ := r.val j d z
      exact ⟨v, f1, mon _ _ f2⟩
  · rcases get_set z with ⟨rfl, f1, _⟩ | ⟨ne, z⟩
    · cases f1
    · obtain ⟨b, us, f1, f2, f3, f4, f5, f6⟩ := r.own j es z
      exact ⟨b, us, f1, f2, ⟨f3, fun w => ne (r.apart i j ds es q z (by rw [e1, f1, w]))⟩, f4, f5, monA _ _ f6⟩
  · rcases get_set z1 with ⟨rfl, f1, _⟩ | ⟨ne, z1⟩
    · cases f1
    · rcases get_set z2 with ⟨rfl, f1, _⟩ | ⟨ne2, z2⟩
      · cases f1
      · exact r.apart j j' es fs z1 z2 z3
/-- ahead of a block: a local list is from now on as it is -/
theorem sss_freeze {i : Nat} (h : SSs S sts m) : SSs S sts (sSeq (sFreeze i) m) := by
  obtain ⟨t, pt, q⟩ := h.ex
  refine ⟨⟨t, pt, fun ρ ω σ H en h Dn rl p => ?_⟩⟩
  unfold sSeq sFreeze at p
  cases z : en[i]? with
  | none => simp only [z] at p; exact q ρ ω σ H en h Dn rl p
  | some sl =>
    cases sl with
    | own ds =>
      simp only [z] at p
      obtain ⟨ω', rl', s⟩ := rl.freeze z
      exact q ρ ω' σ H _ h Dn rl' (SPost.step (r := m (en.set i (.val (.lst ds))) h) p s)
    | no => simp only [z] at p; exact q ρ ω σ H en h Dn rl p
    | val d => simp only [z] at p; exact q ρ ω σ H en h Dn rl p
theorem ss_ret (ha : SE S a ma) : SS S (.Return (some a) pos) (sRet ma) := by
  obtain ⟨ta, pa, sa⟩ := ha.ex
  refine ⟨⟨tRet ta, fun X o => ps_ret (pa X o), fun ρ ω σ H en h Dn rl q => ?_⟩⟩
  exact sa ρ ω σ H en h _ rl (SPost.ofE rl q fun d h1 v H1 ρ1 ω1 s1 hr1 r1 q1 => q1 v H1 ρ1 ω1 ((rl.step s1 hr1).st) hr1 r1)
theorem ss_expr (ha : SE S a ma) (hs : ∀ env, swapsWith a none pos.line env = pure false := by intro _; rfl) : SS S (.Expr a pos) (sExpr ma) := by
  obtain ⟨ta, pa, sa⟩ := ha.ex
  refine ⟨⟨tDrop ta, fun X o => ps_expr (pa X o) (hs _), fun ρ ω σ H en h Dn rl q => ?_⟩⟩
  exact sa ρ ω σ H en h _ rl (SPost.ofE rl q fun d h1 v H1 ρ1 ω1 s1 hr1 r1 q1 => q1 σ H1 ρ1 ω1 (rl.step s1 hr1) .refl)
theorem asg_sound {ta : TE} {g' : TG} {g : TM} {ts : List Nat} (sa : ∀ ρ ω σ H en h Q, Rel S.K S.B ρ ω σ H en h → Post S (RD S) ρ ω σ H (ma en h) Q → ta σ H Q)
    (sg : ∀ ρ ω σ H en h d v e1 (Q : L2.St → Hp → Prop), Rel S.K S.B ρ ω σ H en h → Rep S.K ρ ω H d v → g d en = some e1 →
      (∀ σ', Rel S.K S.B ρ ω σ' H e1 h → (∀ vs, (∀ i ∈ ts, i ∈ vs) → L2.wipe σ' vs = L2.wipe σ vs) → Q σ' H) → g' v σ H Q)
    {ρ : List Addr} {ω : Addr → Prop} {σ : L2.St} {H : Hp} {en : En} {h : Hs} {Dn : Ends} (rl : Rel S.K S.B ρ ω σ H en h) (q : SPost S ρ ω H (sAsg g ma en h) Dn) : tAsg ta g' Dn σ H := by
  refine sa ρ ω σ H en h _ rl (SPost.ofE rl q fun d h1 v H1 ρ1 ω1 s1 hr1 r1 q1 => ?_)
  cases z : g d en with
  | none =>
    simp only [z] at q1
    exact q1.elim
  | some e1 =>
    simp only [z] at q1
    exact sg ρ1 ω1 σ H1 en h1 d v e1 _ (rl.step s1 hr1) r1 z fun σ' rl' _ => q1 σ' H1 ρ1 ω1 rl' .refl
theorem ss_set {i : Nat} (hnd : S.N.Nodup) (hN : S.N[i]? = some x) (hv : Loc S.sc x) (hf : S.fn x = true ∨ S.sc.names.lookup x = some .local) (ha : SE S a ma) (hs : ∀ env, swapsWith a (some (.Name x p)) pos.line env = pure false := by intro _; rfl) :
    SS S (.Assign [.Name x p] a pos) (sAsg (DS.gName i) ma) := by
  obtain ⟨ta, pa, sa⟩ := ha.ex
  refine ⟨⟨tAsg ta (L2.gName i), fun X o => ps_set (by rw [o.N]; exact hnd) (by rw [o.N]; exact hN) (by rw [o.sc]; exact hv) (pa X o) (hs _) (by rcases hf with z | z; exact .inl (o.fn x z); exact .inr (by rw [o.sc]; exact z)), fun ρ ω σ H en h Dn rl q => ?_⟩⟩
  exact asg_sound (ts := [i]) sa (fun ρ ω σ H en h d v e1 Q rl r e k => by
    have e2 : en.set i (.val d) = e1 := Option.some.inj e
    subst e2
    exact k _ (rl.setVal i r) fun vs hs => wipe_set σ i _ (hs i (List.mem_cons_self ..))) rl q
theorem ss_asg {tg : Expr} {ts : List Nat} {g : TM} (hg : SG S tg ts g) (ha : SE S a ma) (hs : ∀ env, swapsWithSole [tg] a pos.line env = pure false := by intro _; rfl) (hw : ∀ env, env.scope = S.sc → swappedStores [tg] a env = pure none := by intro _ _; rfl)
    (h1 : ∀ env, (assignEach [tg] env).map (·.2) = [assign tg env] := by intro _; rfl) : SS S (.Assign [tg] a pos) (sAsg g ma) := by
  obtain ⟨ta, pa, sa⟩ := ha.ex
  obtain ⟨g', pg, sg⟩ := hg.ex
  exact ⟨⟨tAsg ta g', fun X o => ps_asg (pa X o) (pg X o) (hs _) (hw _ o.sc) (h1 _), fun ρ ω σ H en h Dn rl q => asg_sound sa sg rl q⟩⟩
/-- name = [..] on one line -/
theorem ss_setLc {i : Nat} {tg iter elt : Expr} {ifs : List Expr} {own : List (Str × Nat)} {scope : Scope} {it : EM (List D)} {g : TM} {t : EM Bool} {m : EM D} {ts : List Nat} {py spos : Pos} (hN : S.N.Nodup) (hy : S.N[i]? = some x) (hyl : S.sc.names.lookup x = some .local) (hk : S.sc.kind = .function) (hl : (py.line == pos.line) = true)
    (hnm : (scope.names.any fun (n, k) => n == x && (k == .local || k == .cell)) = false) (hi : SI S tg iter it) (ok : BlkOk S.N S.sc scope own) (hg : SG (S.blk scope) tg ts g) (ht : STts (S.blk scope) ifs t) (he : SE (S.blk scope) elt m)
    (hsub : ∀ i ∈ ts, i ∈ own.map (·.2)) (hs : ∀ env x, foldedSetIterable iter env x = pure x := by intro _ _; rfl) : SS S (.Assign [.Name x py] (.ListComp elt [⟨tg, iter, ifs, 0⟩] scope pos) spos) (sAsg (DS.gName i) (mLc (own.map (·.2)) it g t m)) := by
  obtain ⟨wi, pi, si⟩ := hi.ex
  obtain ⟨g', pg, sg⟩ := hg.ex
  obtain ⟨tt, pt, st⟩ := ht.ex
  obtain ⟨te, pe, se⟩ := he.ex
  refine ⟨⟨tAsg (tLc wi g' tt te (own.map (·.2))) (L2.gName i), fun X o => ps_setLc o.calm (by rw [o.N]; exact hN) (by rw [o.N]; exact hy) (by rw [o.sc]; exact hyl) (sw_true (by rw [o.sc]; exact hk) (by rw [o.sc]; exact hyl) hl hnm) (pi X o) (by rw [o.N, o.sc]; exact ok)
    (fun s H C cl fp => pg _ (blk_ok o scope s H C cl fp)) (fun s H C cl fp => pt _ (blk_ok o scope s H C cl fp)) (fun s H C cl fp => pe _ (blk_ok o scope s H C cl fp)) (hs _), fun ρ ω σ H en h Dn rl q => ?_⟩⟩
  exact asg_sound (ts := [i]) (fun ρ ω σ H en h Q rl p => lc_sound (S := S) (scope := scope) si sg st se hsub rl p) (fun ρ ω σ H en h d v e1 Q rl r e k => by
    have e2 : en.set i (.val d) = e1 := Option.some.inj e
    subst e2
    exact k _ (rl.setVal i r) fun vs hs => wipe_set σ i _ (hs i (List.mem_cons_self ..))) rl q
/-- a, b = x, y and a, b, c = x, y, z, plain local names -/
theorem ss_par {i j : Nat} {y : Str} {px py pt pt2 : Pos} {kt k2 : Nat} (hnd : S.N.Nodup) (hi : S.N[i]? = some x) (hj : S.N[j]? = some y) (hij : i ≠ j) (hx : S.sc.names.lookup x = some .local) (hy : S.sc.names.lookup y = some .local) (ha : SA S [a, b] [ma, mb])
    (hw : ∀ env, env.scope = S.sc → swappedStores [.Tuple [.Name x px, .Name y py] kt pt] (.Tuple [a, b] k2 pt2) env = pure (some [x, y])) (hs : ∀ env, swapsWithSole [.Tuple [.Name x px, .Name y py] kt pt] (.Tuple [a, b] k2 pt2) pos.line env = pure false := by intro _; rfl) :
    SS S (.Assign [.Tuple [.Name x px, .Name y py] kt pt] (.Tuple [a, b] k2 pt2) pos) (sAsg (DS.gTup [DS.gName i, DS.gName j]) (mTup [ma, mb])) := by
  obtain ⟨t, pa, sa⟩ := ha.ex
  refine ⟨⟨tPar i j t, fun X o => ps_par o.calm (by rw [o.N]; exact hnd) (by rw [o.N]; exact hi) (by rw [o.N]; exact hj) hij (by rw [o.sc]; exact hx) (by rw [o.sc]; exact hy) (pa X o) (hw _ o.sc) (hs _), fun ρ ω σ H en h Dn rl q => ?_⟩⟩
  have q' : SPost S ρ ω H ((mArgs [ma, mb] en h).toS en fun xs h1 => if xs.length ≤ LINE then (match DS.gTup [DS.gName i, DS.gName j] (.tup xs) en with | some e1 => .nx e1 h1 | none => .stuck) else .stuck) Dn := by
    have e : sAsg (DS.gTup [DS.gName i, DS.gName j]) (mTup [ma, mb]) en h = ((mArgs [ma, mb] en h).toS en fun xs h1 => if xs.length ≤ LINE then (match DS.gTup [DS.gName i, DS.gName j] (.tup xs) en with | some e1 => .nx e1 h1 | none => .stuck) else .stuck) := by
      unfold sAsg mTup
      cases mArgs [ma, mb] en h with
      | ok xs h1 =>
        simp only [bind_ok, toS_ok]
        by_cases z : xs.length ≤ LINE
        · rw [if_pos z, if_pos z]; rfl
        · rw [if_neg z, if_neg z]; rfl
      | exc x h1 => rfl
      | stuck => rfl
    rw [← e]
    exact q
  refine sa ρ ω σ H en h _ rl (SPost.ofE rl q' fun ds h1 vs H1 ρ1 ω1 s1 hr1 r1 q1 => ?_)
  by_cases z : ds.length ≤ LINE
  · rw [if_pos z] at q1
    match ds, r1 with
    | [], _ => exact q1.elim
    | [d], _ => exact q1.elim
    | [d1, d2], ⟨v1, w1, e1, g1, v2, w2, e2, g2, e3⟩ =>
      have e3' : w2 = [] := e3
      subst e3'
      subst e2
      subst e1
      exact ⟨v1, v2, rfl, q1 _ H1 ρ1 ω1 (((rl.step s1 hr1).setVal i g1).setVal j g2) .refl⟩
    | d1 :: d2 :: d3 :: ds, _ =>
      exact q1.elim
  · rw [if_neg z] at q1
    exact q1.elim
theorem ss_par3 {i j l : Nat} {y z' : Str} {px py pz pt pt2 : Pos} {kt k2 : Nat} (hnd : S.N.Nodup) (hi : S.N[i]? = some x) (hj : S.N[j]? = some y) (hl : S.N[l]? = some z') (hij : i ≠ j) (hil : i ≠ l) (hjl : j ≠ l) (hx : S.sc.names.lookup x = some .local) (hy : S.sc.names.lookup y = some .local) (hz : S.sc.names.lookup z' = some .local) (ha : SA S [a, b, c] [ma, mb, mc])
    (hw : ∀ env, env.scope = S.sc → swappedStores [.Tuple [.Name x px, .Name y py, .Name z' pz] kt pt] (.Tuple [a, b, c] k2 pt2) env = pure (some [x, y, z'])) (hs : ∀ env, swapsWithSole [.Tuple [.Name x px, .Name y py, .Name z' pz] kt pt] (.Tuple [a, b, c] k2 pt2) pos.line env = pure false := by intro _; rfl) :
    SS S (.Assign [.Tuple [.Name x px, .Name y py, .Name z' pz] kt pt] (.Tuple [a, b, c] k2 pt2) pos) (sAsg (DS.gTup [DS.gName i, DS.gName j, DS.gName l]) (mTup [ma, mb, mc])) := by
  obtain ⟨t, pa, sa⟩ := ha.ex
  refine ⟨⟨tPar3 i j l t, fun X o => ps_par3 o.calm (by rw [o.N]; exact hnd) (by rw [o.N]; exact hi) (by rw [o.N]; exact hj) (by rw [o.N]; exact hl) hij hil hjl (by rw [o.sc]; exact hx) (by rw [o.sc]; exact hy) (by rw [o.sc]; exact hz) (pa X o) (hw _ o.sc) (hs _), fun ρ ω σ H en h Dn rl q => ?_⟩⟩
  have q' : SPost S ρ ω H ((mArgs [ma, mb, mc] en h).toS en fun xs h1 => if xs.length ≤ LINE then (match DS.gTup [DS.gName i, DS.gName j, DS.gName l] (.tup xs) en with | some e1 => .nx e1 h1 | none => .stuck) else .stuck) Dn := by
    have e : sAsg (DS.gTup [DS.gName i, DS.gName j, DS.gName l]) (mTup [ma, mb, mc]) en h = ((mArgs [ma, mb, mc] en h).toS en fun xs h1 => if xs.length ≤ LINE then (match DS.gTup [DS.gName i, DS.gName j, DS.gName l] (.tup xs) en with | some e1 => .nx e1 h1 | none => .stuck) else .stuck) := by
      unfold sAsg mTup
      cases mArgs [ma, mb, mc] en h with
      | ok xs h1 =>
        simp only [bind_ok, toS_ok]
        by_cases z : xs.length ≤ LINE
        · rw [if_pos z, if_pos z]; rfl
        · rw [if_neg z, if_neg z]; rfl
      | exc x h1 => rfl
      | stuck => rfl
    rw [← e]
    exact q
  refine sa ρ ω σ H en h _ rl (SPost.ofE rl q' fun ds h1 vs H1 ρ1 ω1 s1 hr1 r1 q1 => ?_)
  by_cases z : ds.length ≤ LINE
  · rw [if_pos z] at q1
    match ds, r1 with
    | [], _ => exact q1.elim
    | [d], _ => exact q1.elim
    | [d1, d2], _ => exact q1.elim
    | [d1, d2, d3], ⟨v1, w1, e1, g1, v2, w2, e2, g2, v3, w3, e4, g3, e3⟩ =>
      have e3' : w3 = [] := e3
      subst e3'
      subst e4
      subst e2
      subst e1
      exact ⟨v1, v2, v3, rfl, q1 _ H1 ρ1 ω1 ((((rl.step s1 hr1).setVal i g1).setVal j g2).setVal l g3) .refl⟩
    | d1 :: d2 :: d3 :: d4 :: ds, _ =>
      exact q1.elim
  · rw [if_neg z] at q1
    exact q1.elim
/-- x = [..], a list of one's own -/
theorem ss_own {i : Nat} {es : List Expr} {ms : List (EM D)} {p2 : Pos} (hnd : S.N.Nodup) (hN : S.N[i]? = some x) (hv : Loc S.sc x) (hf : S.fn x = true ∨ S.sc.names.lookup x = some .local) (ha : SA S es ms) : SS S (.Assign [.Name x p] (.List es p2) pos) (sOwn i ms) := by
  obtain ⟨t, pa, sa⟩ := ha.ex
  refine ⟨⟨tAsg (tLst t) (L2.gName i), fun X o => ps_set (by rw [o.N]; exact hnd) (by rw [o.N]; exact hN) (by rw [o.sc]; exact hv) (pe_lst (pa X o)) rfl (by rcases hf with z | z; exact .inl (o.fn x z); exact .inr (by rw [o.sc]; exact z)), fun ρ ω σ H en h Dn rl q => ?_⟩⟩
  refine sa ρ ω σ H en h _ rl (SPost.ofE rl q fun ds h1 vs H1 ρ1 ω1 s1 hr1 r1 q1 => ?_)
  by_cases z : ds.length ≤ LINE
  · rw [if_pos z] at q1
    refine ⟨by rw [← r1.len, line_eq]; exact z, fun q n => ?_⟩
    have rl1 := rl.step s1 hr1
    have ns : Step ρ1 ω1 H1 ρ1 (fun a => ω1 a ∨ a = q) (upd H1 q (.lst vs)) := by
      have w := new_step hr1 n (.lst vs)
      exact ⟨fun _ _ z => z, w.sub, w.new, fun _ z => .inl z, w.keep, w.tup, w.frz, w.more⟩
    have hr2 : HRel S.K ρ1 (fun a => ω1 a ∨ a = q) (upd H1 q (.lst vs)) h1 := by
      refine ⟨hr1.hlen, fun r c w => ?_, hr1.nd, fun a w => .inl (hr1.ro a w), fun a w => ?_⟩
      · obtain ⟨a, e1, c1⟩ := hr1.cell r c w
        exact ⟨a, e1, c1.mono ns hr1 fun o w => by rw [upd_ne (ne_of_none w n)]; exact w⟩
      · rcases w with w | w
        · exact ns.more a (hr1.oh a w)
        · subst w; rw [upd_same]; simp
    have rl2 := rl1.step ns hr2
    refine q1 (σ.set i (some (.ref q))) _ ρ1 (fun a => ω1 a ∨ a = q) ?_ (ns.weak hr1.ro)
    refine ⟨rl2.hr, rl2.st, rl2.bo, by simp [rl2.len], fun j d w => ?_, fun j es' w => ?_, fun j j' es' fs w1 w2 w3 => ?_⟩
    · rcases get_set w with ⟨rfl, f1, _⟩ | ⟨ne, w⟩
      · cases f1
      · obtain ⟨v, f1, f2⟩ := rl2.val j d w
        exact ⟨v, by rw [List.getElem?_set_ne ne]; exact f1, f2⟩
    · rcases get_set w with ⟨rfl, f1, hi⟩ | ⟨ne, w⟩
      · cases f1
        refine ⟨q, vs, by rw [List.getElem?_set_self (by rw [← rl.len]; exact hi)], upd_same, .inr rfl, fun w => hr1.oh q (hr1.ro q w) n, rl1.fresh n, ns.repA hr1 r1⟩
      · obtain ⟨a, us, f1, f2⟩ := rl2.own j es' w
        exact ⟨a, us, by rw [List.getElem?_set_ne ne]; exact f1, f2⟩
    · rcases get_set w1 with ⟨rfl, f1, hi⟩ | ⟨ne, w1⟩
      · rcases get_set w2 with ⟨rfl, f2, hi2⟩ | ⟨ne2, w2⟩
        · rfl
        · rw [List.getElem?_set_self (by rw [← rl.len]; exact hi), List.getElem?_set_ne ne2] at w3
          obtain ⟨a, us, g1, g2, _⟩ := rl1.own j' fs w2
          rw [g1] at w3
          cases w3
          rw [n] at g2
          cases g2
      · rcases get_set w2 with ⟨rfl, f2, hi2⟩ | ⟨ne2, w2⟩
        · rw [List.getElem?_set_self (by rw [← rl.len]; exact hi2), List.getElem?_set_ne ne] at w3
          obtain ⟨a, us, g1, g2, _⟩ := rl1.own j es' w1
          rw [g1] at w3
          cases w3
          rw [n] at g2
          cases g2
        · rw [List.getElem?_set_ne ne, List.getElem?_set_ne ne2] at w3
          exact rl2.apart j j' es' fs w1 w2 w3
  · rw [if_neg z] at q1
    exact q1.elim
theorem Rel.append {K : Fg} {B : Bs} {ρ : List Addr} {ω : Addr → Prop} {σ : L2.St} {H : Hp} {e : En} {h : Hs} (r : Rel K B ρ ω σ H e h) {i : Nat} {ds es : List D} {a : Addr} {xs ys : List V} (q : e[i]? = some (.own ds)) (e1 : σ[i]? = some (some (.ref a))) (e2 : H a = some (.lst xs)) (e3 : ω a) (e4 : a ∉ ρ) (e5 : B.H a = none) (e6 : RepA K ρ ω H es ys) :
    Rel K B ρ ω σ (upd H a (.lst ys)) (e.set i (.own es)) h := by
  refine ⟨r.hr.wr e2 e3 e4, r.st.wr e2 e5, r.bo, by simp [r.len], fun j d z => ?_, fun j fs z => ?_, fun j j' fs gs z1 z2 z3 => ?_⟩
  · rcases get_set z with ⟨rfl, f1, _⟩ | ⟨ne, z⟩
    · cases f1
    · obtain ⟨v, f1, f2⟩ := r.val j d z
      exact ⟨v, f1, f2.wr e2 e3⟩
  · rcases get_set z with ⟨rfl, f1, _⟩ | ⟨ne, z⟩
    · cases f1
      exact ⟨a, ys, e1, upd_same, e3, e4, e5, e6.wr e2 e3⟩
    · obtain ⟨b, us, f1, f2, f3, f4, f5, f6⟩ := r.own j fs z
      have nb : b ≠ a := fun w => ne (r.apart i j ds fs q z (by rw [e1, f1, w]))
      exact ⟨b, us, f1, by rw [upd_ne nb]; exact f2, f3, f4, f5, f6.wr e2 e3⟩
  · rcases get_set z1 with ⟨rfl, f1, _⟩ | ⟨ne, z1⟩
    · rcases get_set z2 with ⟨rfl, f2, _⟩ | ⟨ne2, z2⟩
      · rfl
      · exact r.apart i j' ds gs q z2 z3
    · rcases get_set z2 with ⟨rfl, f2, _⟩ | ⟨ne2, z2⟩
      · exact r.apart j i fs ds z1 q z3
      · exact r.apart j j' fs gs z1 z2 z3
theorem step_wr {ρ : List Addr} {ω : Addr → Prop} {H : Hp} {a : Addr} {xs ys : List V} (e2 : H a = some (.lst xs)) (e3 : ω a) : StepW ρ ω H ρ ω (upd H a (.lst ys)) :=
  ⟨fun _ _ z => z, fun _ z => .inl z, fun b o z n => by rw [upd_ne (by rintro rfl; exact n e3)]; exact z, fun b us z => by rw [upd_ne (ne_tup e2 z)]; exact z, fun b o u z => by rw [upd_ne (ne_frz e2 z)]; exact z⟩
theorem tyV_lst {K : Fg} {H : Hp} {a : Addr} {xs : List V} (e : H a = some (.lst xs)) : tyV K "list" (.ref a) H := Or.inl ⟨rfl, _, Or.inl (Or.inl e)⟩
/-- x.append(e), x a list of one's own -/
theorem ss_append {i : Nat} {p2 p3 : Pos} (hN : S.N[i]? = some x) (hv : Vis S.sc x) (ha : SE S a ma) (hd : (x == ("__debug__" : Str)) = false := by decide) (hcd : (x == ("__classdict__" : Str)) = false := by decide) (hs' : ∀ env, starEach [a] env = (false, eval a env) :: starEach [] env := by intro _; rfl)
    (hbase : ∀ env, attributeBase (.Name x p) "append" env (eval (.Name x p) env) = eval (.Name x p) env := by intro _; rfl)
    (hfew : ∀ env, ((backTo p3 (starEach [a] env)).all (fun x => !x.1) && (backToKw p3 (keywordEach [] env)).all (fun x => x.1.isSome) && decide ([a].length + ([] : List Keyword).length + (if ([] : List Keyword).isEmpty then 0 else 1) < 30)) = true := by intro _; rfl)
    (hline : (p2.endLine == p3.line) = true := by rfl) (hsw : ∀ env, swapsWith (.Call (.Attribute (.Name x p) "append" p2) [a] [] p3) none pos.line env = pure false := by intro _; rfl) :
    SS S (.Expr (.Call (.Attribute (.Name x p) "append" p2) [a] [] p3) pos) (sAppend i ma) := by
  obtain ⟨ta, pa, sa⟩ := ha.ex
  refine ⟨⟨tDrop (tBM S.K "list" rAppend (tVar i) (tCons ta tNil)), fun X o => ?_, fun ρ ω σ H en h Dn rl q => ?_⟩⟩
  · have w := pe_bm (X := X) (apos := p2) (cpos := p3) PySem.F.plainAttrs_list PySem.F.slot_list_append PySem.F.type_list_append mt_append (pe_var (pos := p) (by rw [o.N]; exact hN) (by rw [o.sc]; exact hv) hd hcd) (pa_cons (pa X o) pa_nil (hs' _)) (hbase _) (hfew _) hline (hs' _)
    rw [o.K] at w
    exact ps_expr w (hsw _)
  · unfold sAppend at q
    cases z : en[i]? with
    | none => simp only [z] at q; exact q.elim
    | some sl =>
      cases sl with
      | no => simp only [z] at q; exact q.elim
      | val d => simp only [z] at q; exact q.elim
      | own ds =>
        simp only [z] at q
        obtain ⟨a0, xs, e1, e2, e3, e4, e5, e6⟩ := rl.own i ds z
        refine ⟨.ref a0, e1, tyV_lst e2, ?_⟩
        refine sa ρ ω σ H en h _ rl (SPost.ofE rl q fun d h1 v H1 ρ1 ω1 s1 hr1 r1 q1 => ?_)
        by_cases hl : ds.length < LINE
        · rw [if_pos hl] at q1
          have f2 := s1.keep a0 _ e2 e4
          have f6 := s1.repA rl.hr e6
          have f4 : a0 ∉ ρ1 := fun w => by
            rcases s1.newr a0 w with w | w
            · exact e4 w
            · rw [e2] at w; cases w
          have rl1 := rl.step s1 hr1
          exact ⟨a0, xs, v, rfl, rfl, f2, by rw [← f6.len, line_eq]; exact hl, q1 σ _ ρ1 ω1 (rl1.append z e1 f2 (s1.sub a0 e3) f4 e5 (f6.append (RepA.one r1))) (step_wr f2 (s1.sub a0 e3))⟩
        · rw [if_neg hl] at q1
          exact q1.elim
/-- o[i] = v, o a shared list -/
theorem Rel.put {K : Fg} {B : Bs} {ρ : List Addr} {ω : Addr → Prop} {σ : L2.St} {H : Hp} {e : En} {h : Hs} (rl : Rel K B ρ ω σ H e h) {r : Nat} {a : Addr} {es : List D} {ds : List D} {xs ys : List V} (e1 : ρ[r]? = some a) (e2 : h[r]? = some (.lst ds)) (e3 : H a = some (.lst xs)) (r6 : RepA K ρ ω H es ys) :
    Rel K B ρ ω σ (upd H a (.lst ys)) e (h.set r (.lst es)) := by
  have ha : a ∈ ρ := List.mem_of_getElem? e1
  have hw := rl.hr.ro a ha
  have hrl : r < h.length := (List.getElem?_eq_some_iff.mp e2).1
  refine ⟨⟨by simp [rl.hr.hlen], fun j c z => ?_, rl.hr.nd, rl.hr.ro, oh_wr e3 rl.hr.oh⟩, ⟨rl.st.pre, rl.st.sub, rl.st.new, rl.st.newr, fun b o z n => ?_, fun b us z => ?_, fun b o u z => ?_, fun b z => ?_⟩, rl.bo, rl.len, fun j d z => ?_, fun j fs z => ?_, rl.apart⟩
  · rcases get_set z with ⟨rfl, f1, _⟩ | ⟨ne, z⟩
    · subst f1
      exact ⟨a, e1, ys, upd_same, r6.wr e3 hw⟩
    · obtain ⟨b, g1, g2⟩ := rl.hr.cell j c z
      have nb : b ≠ a := fun w => ne (nodup_at rl.hr.nd e1 (w ▸ g1))
      refine ⟨b, g1, ?_⟩
      cases c with
      | lst fs =>
        obtain ⟨us, k1, k2⟩ := g2
        exact ⟨us, by rw [upd_ne nb]; exact k1, k2.wr e3 hw⟩
  · have nb : b ≠ a := fun w => by
      subst w
      rcases rl.st.newr b ha with k | k
      · exact n k
      · rw [z] at k; cases k
    rw [upd_ne nb]
    exact rl.st.keep b o z n
  · have k := rl.st.tup b us z
    rw [upd_ne (ne_tup e3 k)]
    exact k
  · have k := rl.st.frz b o u z
    rw [upd_ne (ne_frz e3 k)]
    exact k
  · by_cases w : b = a
    · subst w; rw [upd_same]; simp
    · rw [upd_ne w]; exact rl.st.more b z
  · obtain ⟨v, f1, f2⟩ := rl.val j d z
    exact ⟨v, f1, f2.wr e3 hw⟩
  · obtain ⟨b, us, f1, f2, f3, f4, f5, f6⟩ := rl.own j fs z
    exact ⟨b, us, f1, by rw [upd_ne (by rintro rfl; exact f4 ha)]; exact f2, f3, f4, f5, f6.wr e3 hw⟩
theorem ss_put {o i : Expr} {mo mi : EM D} (ha : SE S a ma) (ho : SE S o mo) (hi : SE S i mi) (hs : ∀ env, swapsWithSole [.Subscript o i p] a pos.line env = pure false := by intro _; rfl) (hw : ∀ env, swappedStores [.Subscript o i p] a env = pure none := by intro _; rfl)
    (h1 : ∀ env, (assignEach [.Subscript o i p] env).map (·.2) = [assign (.Subscript o i p) env] := by intro _; rfl)
    (hsub : ∀ env v, assign (.Subscript o i p) env v = (do
      let ov ← holding [v] (eval o env)
      let iv ← holding [v, ov] (eval i env)
      standAt p
      holding [v, ov, iv] (setItem ov iv v)
      release [v, ov, iv] []) := by intro _ _; rfl) : SS S (.Assign [.Subscript o i p] a pos) (sPut mo mi ma) := by
  obtain ⟨ta, pa, sa⟩ := ha.ex
  obtain ⟨to, po, so⟩ := ho.ex
  obtain ⟨ti, pi, si⟩ := hi.ex
  refine ⟨⟨tAsg ta (gSub to ti rSetL), fun X ok => ps_asg (pa X ok) (pg_sub (po X ok) (pi X ok) set_list (hsub _)) (hs _) (hw _) (h1 _), fun ρ ω σ H en h Dn rl q => ?_⟩⟩
  refine sa ρ ω σ H en h _ rl (SPost.ofE rl q fun d h1 v H1 ρ1 ω1 s1 hr1 r1 q1 => ?_)
  have rl1 := rl.step s1 hr1
  refine so ρ1 ω1 σ H1 en h1 _ rl1 (SPost.ofE rl1 q1 fun d2 h2 v2 H2 ρ2 ω2 s2 hr2 r2 q2 => ?_)
  have rl2 := rl1.step s2 hr2
  refine si ρ2 ω2 σ H2 en h2 _ rl2 (SPost.ofE rl2 q2 fun d3 h3 v3 H3 ρ3 ω3 s3 hr3 r3 q3 => ?_)
  have rl3 := rl2.step s3 hr3
  cases d2 with
  | ref r =>
    cases d3 with
    | int k =>
      cases z : h3[r]? with
      | none => simp only [z] at q3; exact q3.elim
      | some c =>
        cases c with
        | lst xs =>
          simp only [z] at q3
          cases z2 : ixN xs.length k with
          | none => simp only [z2] at q3; exact q3.elim
          | some j =>
            simp only [z2] at q3
            obtain ⟨a0, rfl, e1⟩ := s3.rep hr2 r2
            obtain ⟨a1, f1, us, f2, f3⟩ := hr3.cell r _ z
            rw [e1] at f1
            cases f1
            have hv := (s2.trans s3).rep hr1 r1
            refine ⟨a0, us, k, j, rfl, r3, f2, by rw [← f3.len]; exact z2, ?_⟩
            exact q3 σ _ ρ3 ω3 (rl3.put e1 z f2 (f3.set j hv)) (step_wr f2 (hr3.ro a0 (List.mem_of_getElem? e1)))
    | _ => exact q3.elim
  | _ => cases d3 <;> exact q3.elim
theorem ss_if {c : Expr} {mc : EM Bool} {as bs : List Stmt} {m1 m2 : SM} (hc : STt S c mc) (ha : SSs S as m1) (hb : SSs S bs m2) : SS S (.If c as bs pos) (sIf mc m1 m2) := by
  obtain ⟨tc, pc, sc⟩ := hc.ex
  obtain ⟨ta, pa, sa⟩ := ha.ex
  obtain ⟨tb, pb, sb⟩ := hb.ex
  refine ⟨⟨tIfS tc ta tb, fun X o => ps_if (pc X o) (pa X o) (pb X o), fun ρ ω σ H en h Dn rl q => ?_⟩⟩
  refine sc ρ ω σ H en h _ rl (SPost.ofE rl q fun d h1 v H1 ρ1 ω1 s1 hr1 r1 q1 => ?_)
  have e : d = v := r1
  subst e
  cases d with
  | true => exact sa ρ1 ω1 σ H1 en h1 Dn (rl.step s1 hr1) q1
  | false => exact sb ρ1 ω1 σ H1 en h1 Dn (rl.step s1 hr1) q1
theorem ss_stuck : SS S st sStuck := ⟨⟨tNever, fun _ _ => ps_never, fun ρ ω σ H en h Dn rl q => q⟩⟩
theorem ss_pass : SS S (.Pass pos) sNext := ⟨⟨tNext, fun _ _ => ps_pass, fun ρ ω σ H en h Dn rl q => q σ H ρ ω rl .refl⟩⟩

/-! ### loops -/
theorem ss_for {tg iter : Expr} {body : List Stmt} {it : EM (List D)} {g : TM} {ts : List Nat} {mb : SM} (hi : SI S tg iter it) (hg : SG S tg ts g) (hb : SSs S body mb) (hs : ∀ env x, foldedSetIterable iter env x = pure x := by intro _ _; rfl) : SS S (.For tg iter body [] pos) (sFor it g mb) := by
  obtain ⟨wi, pi, si⟩ := hi.ex
  obtain ⟨g', pg, sg⟩ := hg.ex
  obtain ⟨tb, pb, sb⟩ := hb.ex
  refine ⟨⟨tFor wi g' tb, fun X o => ps_for o.po o.calm (pi X o) (pg X o) (pb X o) (hs _), fun ρ ω σ H en h Dn rl q => ?_⟩⟩
  refine si ρ ω σ H en h _ rl (SPost.ofE rl q fun ds h1 J H1 ρ1 ω1 s1 hr1 rJ q1 => ?_)
  obtain ⟨G, Y, wk, hG, hY⟩ := rJ.ex
  refine for_it wk (fun i σ' H' => ∃ ρ' ω' en' h', Rel S.K S.B ρ' ω' σ' H' en' h' ∧ StepW ρ1 ω1 H1 ρ' ω' H' ∧ SPost S ρ' ω' H' (forLoop g mb (ds.drop i) en' h') Dn) ⟨ρ1, ω1, en, h1, rl.step s1 hr1, .refl, q1⟩ ?_ ?_ ?_
  · rintro i σ' H' _ ⟨ρ', ω', en', h', rl', s', _⟩
    exact hG ρ' ω' H' s'
  · rintro i x σ' H' H'' hi ⟨ρ', ω', en', h', rl', s', q'⟩ hy
    obtain ⟨gr, d, ed, rd⟩ := hY i ρ' ω' H' x H'' h' hi s' rl'.hr hy
    have rl2 := rl'.grow gr
    have e1 : ds.drop i = d :: ds.drop (i + 1) := by
      obtain ⟨hlt, e⟩ := List.getElem?_eq_some_iff.mp ed
      rw [List.drop_eq_getElem_cons hlt, e]
    rw [e1] at q'
    unfold forLoop at q'
    cases qg : g d en' with
    | none => simp only [qg] at q'; exact q'.elim
    | some e2 =>
      simp only [qg] at q'
      have sg1 : StepW ρ' ω' H' ρ' ω' H'' := gr.step.weak rl'.hr.ro
      refine sg ρ' ω' σ' H'' en' h' d x e2 _ rl2 rd qg fun σ2 rl3 _ => sb ρ' ω' σ2 H'' e2 h' _ rl3 ?_
      cases qb : mb e2 h' with
      | nx e3 h3 =>
        simp only [qb] at q'
        exact fun σ4 H4 ρ4 ω4 rl4 s4 => ⟨ρ4, ω4, e3, h3, rl4, (s'.trans sg1).trans s4, q'.step (sg1.trans s4)⟩
      | ct e3 h3 =>
        simp only [qb] at q'
        exact fun σ4 H4 ρ4 ω4 rl4 s4 => ⟨ρ4, ω4, e3, h3, rl4, (s'.trans sg1).trans s4, q'.step (sg1.trans s4)⟩
      | bk e3 h3 =>
        simp only [qb] at q'
        exact fun σ4 H4 ρ4 ω4 rl4 s4 => q' σ4 H4 ρ4 ω4 rl4 (sg1.trans s4)
      | rt d3 h3 => simp only [qb] at q'; exact q'
      | exc x3 e3 h3 => simp only [qb] at q'; exact q'
      | stuck => simp only [qb] at q'; exact q'
  · rintro σ' H' ⟨ρ', ω', en', h', rl', s', q'⟩
    rw [List.drop_length] at q'
    exact q' σ' H' ρ' ω' rl' .refl
theorem ss_while {c : Expr} {body : List Stmt} {mc : EM Bool} {mb : SM} {fuel : En → Hs → Nat} (hc : STt S c mc) (hb : SSs S body mb) : SS S (.While c body [] pos) (sWhile fuel mc mb) := by
  obtain ⟨tc, pc, sc⟩ := hc.ex
  obtain ⟨tb, pb, sb⟩ := hb.ex
  refine ⟨⟨tWhile tc tb, fun X o => ps_while o.po (pc X o) (pb X o), fun ρ ω σ H en h Dn rl q => ?_⟩⟩
  refine ⟨fun n σ' H' => ∃ ρ' ω' en' h', Rel S.K S.B ρ' ω' σ' H' en' h' ∧ SPost S ρ' ω' H' (whileLoop mc mb n en' h') Dn, ⟨fuel en h, ρ, ω, en, h, rl, q⟩, ?_⟩
  rintro n σ' H' ⟨ρ', ω', en', h', rl', q'⟩
  cases n with
  | zero => exact q'.elim
  | succ n =>
    unfold whileLoop at q'
    refine sc ρ' ω' σ' H' en' h' _ rl' (SPost.ofE rl' q' fun d h1 v H1 ρ1 ω1 s1 hr1 r1 q1 => ?_)
    have e : d = v := r1
    subst e
    have rl1 := rl'.step s1 hr1
    cases d with
    | false => exact q1 σ' H1 ρ1 ω1 rl1 .refl
    | true =>
      refine ⟨fun σ2 H2 => ∃ ρ2 ω2 en2 h2, Rel S.K S.B ρ2 ω2 σ2 H2 en2 h2 ∧ SPost S ρ2 ω2 H2 (whileLoop mc mb n en2 h2) Dn, fun σ2 H2 hN => ⟨n, Nat.lt_succ_self n, hN⟩, ?_⟩
      refine sb ρ1 ω1 σ' H1 en' h1 _ rl1 ?_
      have q2 : SPost S ρ1 ω1 H1 (match mb en' h1 with
        | .nx e2 h2 => whileLoop mc mb n e2 h2
        | .ct e2 h2 => whileLoop mc mb n e2 h2
        | .bk e2 h2 => .nx e2 h2
        | r => r) Dn := q1
      cases qb : mb en' h1 with
      | nx e3 h3 =>
        simp only [qb] at q2
        exact fun σ4 H4 ρ4 ω4 rl4 s4 => ⟨ρ4, ω4, e3, h3, rl4, q2.step s4⟩
      | ct e3 h3 =>
        simp only [qb] at q2
        exact fun σ4 H4 ρ4 ω4 rl4 s4 => ⟨ρ4, ω4, e3, h3, rl4, q2.step s4⟩
      | bk e3 h3 => simp only [qb] at q2; exact q2
      | rt d3 h3 => simp only [qb] at q2; exact q2
      | exc x3 e3 h3 => simp only [qb] at q2; exact q2
      | stuck => simp only [qb] at q2; exact q2
end

/-! ### defs -/
theorem rel_start {K : Fg} {ρ : List Addr} {ω : Addr → Prop} {H : Hp} {h : Hs} {ds : List D} {vs : List V} {N : List Str} (hr : HRel K ρ ω H h) (r : RepA K ρ ω H ds vs) : Rel K ⟨ρ, ω, H⟩ ρ ω (L2.start N vs) H (startE N.length ds) h := by
  have hl := r.len
  have get : ∀ (i : Nat) (s : Slot), (startE N.length ds)[i]? = some s → (∃ d, ds[i]? = some d ∧ s = .val d) ∨ s = .no := fun i s q => by
    unfold startE at q
    by_cases hi : i < ds.length
    · rw [List.getElem?_append_left (by simpa using hi), List.getElem?_map] at q
      rw [List.getElem?_eq_getElem hi] at q
      exact .inl ⟨ds[i], List.getElem?_eq_getElem hi, (Option.some.inj q).symm⟩
    · rw [List.getElem?_append_right (by simpa using hi), List.getElem?_replicate] at q
      split at q
      · exact .inr (Option.some.inj q).symm
      · cases q
  refine ⟨hr, .refl, hr.oh, by unfold startE L2.start; simp [hl], fun i d q => ?_, fun i es q => ?_, fun i j es fs q _ _ => ?_⟩
  · rcases get i _ q with ⟨d', e1, e2⟩ | e
    · cases e2
      obtain ⟨v, e3, e4⟩ := r.get e1
      refine ⟨v, ?_, e4⟩
      unfold L2.start
      have hi : i < vs.length := (List.getElem?_eq_some_iff.mp e3).1
      rw [List.getElem?_append_left (by simpa using hi), List.getElem?_map, e3]
      rfl
    · cases e
  · rcases get i _ q with ⟨d', e1, e2⟩ | e
    · cases e2
    · cases e
  · rcases get i _ q with ⟨d', e1, e2⟩ | e
    · cases e2
    · cases e
/-- a def of the text keeps what its body's term says -/
theorem fn_ok {P : Program} {w : World} {K : Fg} {mg : Str → Option Value} {base : PySem.Heap} {qual : Str} {nm : Str} {params : Arguments} {body : List Stmt} {scope : Scope} {f : Addr} {fd : FuncData} {N ps : List Str} {k : Nat} {m : SM}
    (F : FunD K nm qual params body scope [] [] f fd) (S : FnScope N ps scope) (hb : ∀ W B, SSs ⟨P, w, K, mg, base, N, scope, k, W, B, fun _ => true⟩ body m) : FnOk P w K mg base (L2.CX P w) (k + 1) f fd ps (spD K mg ps.length (defn N.length m)) := by
  refine FunD.ok F S (fun vs H Q E h => h.1) (fun cdv A outer s H vs Q E hr h => ?_)
  obtain ⟨hl, ρ, ω, hs, ds, r1, r2, hq⟩ := h
  obtain ⟨t, pt, st⟩ := (hb (fun cls d _ H' => E cls d H') ⟨ρ, ω, H⟩).ex
  refine ⟨t, pt _ ⟨rfl, rfl, rfl, rfl, rfl, rfl, rfl, rfl, hr, takes_of rfl rfl rfl rfl, passes_of rfl, fun _ _ => rfl⟩, ?_⟩
  refine st ρ ω (L2.start N vs) H (startE N.length ds) hs _ (rel_start r1 r2) ?_
  unfold defn at hq
  cases q : m (startE N.length ds) hs with
  | nx e h1 =>
    rw [q] at hq
    exact fun σ' H' ρ' ω' rl _ => hq .non H' ρ' ω' rl.st rl.hr rfl
  | rt d h1 =>
    rw [q] at hq
    exact hq
  | exc x e h1 =>
    rw [q] at hq
    exact fun cls d σ' H' ρ' ω' rl xr => hq cls d H' ρ' ω' rl.st rl.hr xr
  | bk e h1 =>
    rw [q] at hq
    exact hq.elim
  | ct e h1 =>
    rw [q] at hq
    exact hq.elim
  | stuck =>
    rw [q] at hq
    exact hq.elim
theorem cal_of {P : Program} {w : World} {K : Fg} {mg : Str → Option Value} {base : PySem.Heap} {qual : Str} {nm x : Str} {params : Arguments} {body : List Stmt} {scope : Scope} {f : Addr} {fd : FuncData} {N ps : List Str} {k n ns : Nat} {m : SM}
    (F : FunD K nm qual params body scope [] [] f fd) (S : FnScope N ps scope) (hb : ∀ W B, SSs ⟨P, w, K, mg, base, N, scope, k, W, B, fun _ => true⟩ body m) (hg : mg x = some (.ref f)) (bd : Binds K fd ps []) (hn : ps.length = n) (hns : N.length = ns) : Cal P w K mg base (k + 1) x n (defn ns m) := by
  subst hn hns
  exact ⟨⟨f, fd, ps, fn_ok F S hb, hg, F.kp, bd⟩⟩
/-- the same f told otherwise -/
theorem Cal.imp {P : Program} {w : World} {K : Fg} {mg : Str → Option Value} {base : PySem.Heap} {k n : Nat} {x : Str} {f g : DF} (c : Cal P w K mg base k x n f) (h : ∀ ds hs, ds.length = n → g ds hs = .stuck ∨ g ds hs = f ds hs) : Cal P w K mg base k x n g := by
  obtain ⟨fa, fd, ps, F, h1, h2, h3⟩ := c.ex
  refine ⟨⟨fa, fd, ps, F.imp fun vs H Q E q => ?_, h1, h2, h3⟩⟩
  obtain ⟨hl, ρ, ω, hs, ds, r1, r2, q⟩ := q
  refine ⟨hl, ρ, ω, hs, ds, r1, r2, ?_⟩
  rcases h ds hs (by rw [r2.len]; exact hl) with e | e
  · rw [e] at q
    exact q.elim
  · rw [e] at q
    exact q
end DS

set_option Elab.async false
set_option linter.all false
set_option maxRecDepth 100000
set_option maxHeartbeats 4000000
/-! DMore: reversed slices of tuples and lists, list(range(..)), stores from the right. -/
namespace DS
open PySem PySem.Spec PyProof.Rows L2
section
variable {prog : Program} {w : World} {A : Around} {E : Value → Shared → Prop} {s : Shared}
theorem sliceApplied_rev {sl : Addr} {n : Nat} {Q : Int × Int × Nat → Shared → Prop} {vl vu vs : Value} (hs : s.heap.IsSliceOf sl vl vu vs) (pl : IsPart vl none) (pu : IsPart vu none) (ps : IsPart vs (some (-1)))
    (h : Q ((n : Int) - 1, -1, n) s) : wpAny (model prog w) A (Builtin.Slice.sliceApplied (.ref sl) (pure (n : Int))) Q E s := by
  obtain ⟨os, hos, hcs, hds⟩ := id hs
  unfold Builtin.Slice.sliceApplied Builtin.Slice.sliceFields
  refine wpAny_bind (wpAny_bind (wpAny_field hos hds (x := vl) rfl (wpAny_bind (wpAny_field hos hds (x := vu) rfl (wpAny_bind (wpAny_field hos hds (x := vs) rfl (wpAny_pure ?_)))))))
  refine wpAny_bind (HT.slicePart_ ps ?_)
  show wpAny _ _ (if ((-1 : Int) == 0) = true then _ else _) _ _ s
  rw [if_neg (by decide)]
  refine wpAny_bind (HT.slicePart_ pl (wpAny_bind (HT.slicePart_ pu (wpAny_bind (wpAny_pure ?_)))))
  show wpAny _ _ (match Builtin.Slice.sliceAdjust none none (-1) (n : Int) with | (lo, hi) => pure (lo, (-1 : Int), Builtin.Slice.slicePlaces lo hi (-1))) _ _ s
  have e1 : Builtin.Slice.sliceAdjust none none (-1) (n : Int) = ((n : Int) - 1, -1) := by
    unfold Builtin.Slice.sliceAdjust
    rfl
  rw [e1]
  show wpAny _ _ (pure (((n : Int) - 1), (-1 : Int), Builtin.Slice.slicePlaces ((n : Int) - 1) (-1) (-1))) _ _ s
  have e2 : Builtin.Slice.slicePlaces ((n : Int) - 1) (-1) (-1) = n := by
    unfold Builtin.Slice.slicePlaces
    rw [if_neg (by omega)]
    split
    · rw [show (-(-1 : Int)) = 1 from rfl, Int.ediv_one]; omega
    · omega
  rw [e2]
  exact wpAny_pure h
theorem fm_map {α β : Type} {f : α → Option β} {g : α → β} : ∀ {l : List α}, (∀ m ∈ l, f m = some (g m)) → l.filterMap f = l.map g
  | [], _ => rfl
  | a :: l, h => by
    rw [List.filterMap_cons, h a (List.mem_cons_self ..), List.map_cons, fm_map fun m hm => h m (List.mem_cons_of_mem _ hm)]
theorem pick_rev (xs : List Value) : (List.range xs.length).filterMap (fun (m : Nat) => xs.toArray[(((xs.length : Int) - 1) + (m : Int) * (-1)).toNat]?) = xs.reverse := by
  have key : ∀ m ∈ List.range xs.length, xs.toArray[(((xs.length : Int) - 1) + (m : Int) * (-1)).toNat]? = some (xs.getD (xs.length - 1 - m) .none) := fun m hm => by
    have hm := List.mem_range.mp hm
    have e : (((xs.length : Int) - 1) + (m : Int) * (-1)).toNat = xs.length - 1 - m := by omega
    rw [e]
    simp [List.getD_eq_getElem?_getD, show xs.length - 1 - m < xs.length by omega]
  rw [fm_map key]
  apply List.ext_getElem
  · simp
  · intro i h1 h2
    simp at h1 h2
    simp [List.getD_eq_getElem?_getD, show xs.length - 1 - i < xs.length by omega]
theorem getItem_tuple_rev {t sl : Addr} {its : List Value} {vl vu vs : Value} {Q : Value → Shared → Prop} (ht : IsTup s.heap t its.toArray) (hs : s.heap.IsSliceOf sl vl vu vs) (pl : IsPart vl none) (pu : IsPart vu none) (ps : IsPart vs (some (-1)))
    (h : Q (.ref s.heap.objs.size) { s with heap := s.heap.push { cls := .type "tuple", data := .seq its.reverse.toArray } }) (hsz : its.length ≤ sizeLine) : wpAny (model prog w) A (getItem (.ref t) (.ref sl)) Q E s := by
  have htake : sizeOk (.seq its.reverse.toArray) := by
    show its.reverse.toArray.size ≤ sizeLine
    rw [List.size_toArray, List.length_reverse]
    exact hsz
  obtain ⟨os, hos, hcs, hds⟩ := id hs
  have hTs : s.TypeIs (.ref sl) "slice" := ⟨os, hos, hcs⟩
  unfold getItem
  try with_reducible refine wpAny_holding ?_
  first | refine wpAny_bind (wpAny_pure ?_) | skip
  refine wpAny_bind (wpAny_sequenceKey ht.typeIs (by decide) ?_)
  refine wpAny_bind (wpAny_callSpecial?_slot (name := Str.ofString "__getitem__") ht.typeIs PyProof.Rows.slot_tuple_getitem
    (wpAny_call_entry PyProof.Rows.slot_tuple_getitem ht.typeIs entry_tuple_getitem ?_ (args_tuple_getitem _ _)))
  show wpAny _ _ (Builtin.Tuple.tupleItemsOf (.ref t) >>= _) _ _ s
  refine wpAny_bind (PyProof.Rows.tupleItemsOf_ ht ?_)
  refine wpAny_bind (wpAny_typeOf hTs ?_)
  rw [if_pos (by decide)]
  refine wpAny_bind (sliceApplied_rev (n := its.length) hs pl pu ps ?_)
  have hno : ¬ (((((its.length : Nat) : Int) - 1) == 0 && (-1 : Int) == 1 && its.length == its.toArray.size) = true) := by
    intro q
    rw [Bool.and_eq_true, Bool.and_eq_true] at q
    exact absurd q.1.2 (by decide)
  show wpAny _ _ (if ((((its.length : Nat) : Int) - 1) == 0 && (-1 : Int) == 1 && its.length == its.toArray.size) = true then _ else _) _ _ s
  rw [if_neg hno, pick_rev]
  first
    | exact wpAny_bind (m := Builtin.Tuple.tupleExact _) (wpAny_newObj_type (wpAny_pure ⟨_, rfl, wpAny_pure h⟩) htake)
    | exact wpAny_bind (m := Builtin.Tuple.tupleExact _) (wpAny_newObj_type (wpAny_bind (wpAny_pure (wpAny_pure ⟨_, rfl, wpAny_pure h⟩))) htake)
    | exact wpAny_bind (wpAny_bind (m := Builtin.Tuple.tupleExact _) (wpAny_newObj_type (wpAny_pure (wpAny_pure ⟨_, rfl, wpAny_pure h⟩)) htake))
    | exact wpAny_bind (wpAny_bind (m := Builtin.Tuple.tupleExact _) (wpAny_newObj_type (wpAny_pure ⟨_, rfl, wpAny_pure h⟩) htake))
end
/-- x[::-1], x a tuple -/
def tRevT (K : Fg) (te : TE) : TE := fun σ H Q => te σ H fun x H1 => ∃ a xs, x = .ref a ∧ SqT K H1 a xs ∧ ∀ p, H1 p = none → Q (.ref p) (upd H1 p (.tup xs.reverse))
theorem pe_revT {X : Cx} {e : Expr} {te : TE} {k : Nat} {p1 p2 p3 pos : Pos} (he : PE X e te) : PE X (.Subscript e (.Slice none none (some (.UnaryOp .USub (.Constant (.int 1) k p1) p2)) p3) pos) (tRevT X.K te) := by
  refine ⟨fun pins s σ H Q I h => ?_⟩
  refine Subscript_ (thn (he.run pins s σ H _ I h) fun v s1 ⟨x, H1, I1, r1, q1⟩ => ?_)
  obtain ⟨a, xs, ex, hx, q⟩ := q1
  subst ex
  cases r1
  have hst : PO X (some (.UnaryOp .USub (.Constant (.int 1) k p1) p2)) (tPart (tUn (rU fun i => .int (-i)) (tC (.int 1)))) := po_some (pe_un un_neg pe_int)
  refine wpAny_Slice (thn (po_none.run pins s1 σ H1 (fun o H2 => o = none ∧ H2 = H1) I1 ⟨rfl, rfl⟩) fun vl s2 ⟨l, H2, I2, pl, el, e2⟩ => ?_)
  subst el e2
  refine thn (po_none.run pins s2 σ H2 (fun o H3 => o = none ∧ H3 = H2) I2 ⟨rfl, rfl⟩) fun vu s3 ⟨u, H3, I3, pu, eu, e3⟩ => ?_
  subst eu e3
  refine thn (hst.run pins s3 σ H3 (fun o H4 => o = some (-1) ∧ H4 = H3) I3 ⟨1, rfl, -1, rfl, rfl, rfl⟩) fun vs s4 ⟨o, H4, I4, ps, eo, e4⟩ => ?_
  subst eo e4
  have I5 : Inv X pins σ H4 { s4 with heap := s4.heap.push { cls := .type "slice", data := .fields #[vl, vu, vs] } } := I4.kept (t' := s4.toks) fun b ob q => Heap.get?_push_of_some _ q
  obtain ⟨its, r, ht, hz⟩ := I5.tuple hx
  have hlen := r.length
  show wpAny (model X.prog X.w) X.A (subscriptTail e (.Slice none none (some (.UnaryOp .USub (.Constant (.int 1) k p1) p2)) p3) (.ref a) (.ref s4.heap.objs.size)) (EP X pins σ Q) X.xe { s4 with heap := s4.heap.push { cls := .type "slice", data := .fields #[vl, vu, vs] } }
  refine tail_any (ops := [.ref a, .ref s4.heap.objs.size]) ht.typeIs (PyProof.Rows.slot_tuple_getitem.lookup) ?_ (by with_unfolding_all rfl)
  refine getItem_tuple_rev ht (Heap.IsSliceOf.new _ vl vu vs) pl pu ps ?_ (by omega)
  refine ⟨.ref _, _, I5.laid (t' := s4.toks) (o := .tup xs.reverse) (fun b ob q => Heap.get?_push_of_some _ q) (Nat.le_refl _) ?_, rfl, q _ (I5.hok.fresh (Nat.le_refl _))⟩
  exact ⟨by rw [List.length_reverse]; exact hz, _, r.reverse, IsTup.new _ _⟩
section
variable {S : Sx} {a b : Expr} {ma mb : EM D} {x : Str} {p pos : Pos}
theorem se_rev {k : Nat} {p1 p2 p3 : Pos} (ha : SE S a ma) : SE S (.Subscript a (.Slice none none (some (.UnaryOp .USub (.Constant (.int 1) k p1) p2)) p3) pos) (mOp1 opRevT ma) := by
  obtain ⟨ta, pa, sa⟩ := ha.ex
  refine ⟨⟨tRevT S.K ta, fun X o => by
    have q := pe_revT (k := k) (p1 := p1) (p2 := p2) (p3 := p3) (pos := pos) (pa X o)
    rw [o.K] at q
    exact q, fun ρ ω σ H en h Q rl p => ?_⟩⟩
  refine sa ρ ω σ H en h _ rl (Post.bind p fun d h1 v H1 ρ1 ω1 s1 hr1 r1 p1 => ?_)
  obtain ⟨z, e, kk⟩ := Post.opt hr1 p1
  cases d with
  | tup ds =>
    obtain ⟨q, xs, rfl, h2, h3⟩ := r1
    have e3 : D.tup ds.reverse = z := Option.some.inj e
    subst e3
    exact ⟨q, xs, rfl, h2, fun t n => kk _ _ (.new n) (rep_tup hr1 n h3.reverse)⟩
  | _ => cases e
theorem se_revL {k : Nat} {p1 p2 p3 : Pos} (ha : SE S a ma) : SE S (.Subscript a (.Slice none none (some (.UnaryOp .USub (.Constant (.int 1) k p1) p2)) p3) pos) (mOp1 opRevL ma) := by
  obtain ⟨ta, pa, sa⟩ := ha.ex
  refine ⟨⟨tRevL S.K ta, fun X o => by
    have q := pe_revL (k := k) (p1 := p1) (p2 := p2) (p3 := p3) (pos := pos) (pa X o)
    rw [o.K] at q
    exact q, fun ρ ω σ H en h Q rl p => ?_⟩⟩
  refine sa ρ ω σ H en h _ rl (Post.bind p fun d h1 v H1 ρ1 ω1 s1 hr1 r1 p1 => ?_)
  obtain ⟨z, e, kk⟩ := Post.opt hr1 p1
  cases d with
  | lst ds =>
    obtain ⟨q, xs, rfl, h2, _, h3⟩ := r1
    have e3 : D.lst ds.reverse = z := Option.some.inj e
    subst e3
    exact ⟨q, xs, rfl, SqL.of h2, fun t n => kk _ _ (.new n) (rep_lst hr1 n h3.reverse)⟩
  | _ => cases e
theorem rng_rep {K : Fg} {ρ : List Addr} {ω : Addr → Prop} {H : Hp} (f : Nat → Int) : ∀ (l : List Nat), RepA K ρ ω H (l.map fun k => D.int (f k)) (l.map fun k => V.int (f k))
  | [] => RepA.nil
  | n :: l => RepA.cons rfl (rng_rep f l)
/-- list(range(a, b)) -/
theorem se_listRng2 {p2 pos2 : Pos} (ha : SE S a ma) (hb : SE S b mb) (hg : Glb S "list") (hm : S.mg "list" = none) (hg2 : Glb S "range") (hm2 : S.mg "range" = none)
    (hs : ∀ env, starEach [a, b] env = (false, eval a env) :: starEach [b] env := by intro _; rfl) (hs2 : ∀ env, starEach [b] env = (false, eval b env) :: starEach [] env := by intro _; rfl) (hpl : ∀ env, (backTo pos2 (starEach [b] env)).any (·.1) = false := by intro _; rfl)
    (hs3 : ∀ env, starEach [.Call (.Name "range" p2) [a, b] [] pos2] env = (false, eval (.Call (.Name "range" p2) [a, b] [] pos2) env) :: starEach [] env := by intro _; rfl) :
    SE S (.Call (.Name "list" p) [.Call (.Name "range" p2) [a, b] [] pos2] [] pos) (mListRng2 ma mb) := by
  obtain ⟨ta, pa, sa⟩ := ha.ex
  obtain ⟨tb, pb, sb⟩ := hb.ex
  refine ⟨⟨tLstRg (tRg2 ta tb), fun X o => pe_listRg o.calm (by show X.env.scope.names.lookup _ = _; rw [o.sc]; exact hg) (by rw [o.mg]; exact hm) (prg_2 (by show X.env.scope.names.lookup _ = _; rw [o.sc]; exact hg2) (by rw [o.mg]; exact hm2) (pa X o) (pb X o) (hs _) (hs2 _) (hpl _)) (hs3 _), fun ρ ω σ H en h Q rl p => ?_⟩⟩
  refine sa ρ ω σ H en h _ rl (Post.bind p fun d h1 v H1 ρ1 ω1 s1 hr1 r1 p1 => ?_)
  refine sb ρ1 ω1 σ H1 en h1 _ (rl.step s1 hr1) (Post.bind p1 fun d2 h2 v2 H2 ρ2 ω2 s2 hr2 r2 p2 => ?_)
  obtain ⟨z, e, kk⟩ := Post.opt hr2 p2
  cases d with
  | int i =>
    cases d2 with
    | int j =>
      have e' : (if smallR i && smallR j && decide ((j - i).toNat ≤ LINE) then some (D.lst (rngL i (j - i).toNat)) else none) = some z := e
      split at e'
      · rename_i hc
        simp only [Bool.and_eq_true, decide_eq_true_eq] at hc
        have e3 := Option.some.inj e'
        subst e3
        refine ⟨i, j, r1, r2, ⟨(smallR_ok hc.1.1).1, (smallR_ok hc.1.1).2, (smallR_ok hc.1.2).1, (smallR_ok hc.1.2).2, hc.2⟩, fun t n => kk _ _ (.new n) (rep_lst hr2 n ?_)⟩
        exact rng_rep (fun k => i + (k : Int)) _
      · cases e'
    | _ => cases e
  | _ => cases d2 <;> cases e

/-! ### dicts with text keys -/
def prs (ks : List Str) (is : List Int) : List (Key × V) := (ks.map Sum.inr).zip (is.map V.int)
structure SP (S : Sx) (keys : List (Option Expr)) (values : List Expr) (ks : List Str) (is : List Int) : Prop where
  ex : ∃ trs : List (TE × TE), (∀ X, S.Ok X → ∀ pos, PPs X pos keys values trs) ∧ ∀ σ H (Q : List (V × V) → Hp → Prop), Q ((prs ks is).map fun kv => (kV kv.1, kv.2)) H → tPairs trs σ H Q
theorem sp_nil : SP S [] [] [] [] := ⟨⟨[], fun _ _ _ => pps_nil, fun σ H Q q => q⟩⟩
theorem sp_cons {keys : List (Option Expr)} {values : List Expr} {ks : List Str} {is : List Int} {k : Str} {i : Int} {j j' : Nat} {p p' : Pos} (h : SP S keys values ks is) : SP S (some (.Constant (.str k) j p) :: keys) (.Constant (.int i) j' p' :: values) (k :: ks) (i :: is) := by
  obtain ⟨trs, pp, q⟩ := h.ex
  exact ⟨⟨(tC (.str k), tC (.int i)) :: trs, fun X o pos => pps_cons pe_str pe_int (pp X o pos), fun σ H Q w => q σ H _ w⟩⟩
theorem sp_consN {keys : List (Option Expr)} {values : List Expr} {ks : List Str} {is : List Int} {k : Str} {i : Int} {j j' : Nat} {p p' p2 : Pos} (h : SP S keys values ks is) : SP S (some (.Constant (.str k) j p) :: keys) (.UnaryOp .USub (.Constant (.int i) j' p') p2 :: values) (k :: ks) (-i :: is) := by
  obtain ⟨trs, pp, q⟩ := h.ex
  exact ⟨⟨(tC (.str k), tUn (rU fun i => .int (-i)) (tC (.int i))) :: trs, fun X o pos => pps_cons pe_str (pe_un un_neg pe_int) (pp X o pos), fun σ H Q w => ⟨i, rfl, q σ H _ w⟩⟩⟩
theorem ints_rep {K : Fg} {ρ : List Addr} {ω : Addr → Prop} {H : Hp} : ∀ (is : List Int), RepA K ρ ω H (is.map D.int) (is.map V.int)
  | [] => RepA.nil
  | i :: is => RepA.cons rfl (ints_rep is)
theorem se_dicC {keys : List (Option Expr)} {values : List Expr} {ks : List Str} {is : List Int} (h : SP S keys values ks is) (hall : keys.all (·.isSome) = true := by rfl) (hl : keys.length = values.length := by rfl) (h0 : keys ≠ [] := by simp) (h15 : keys.length ≤ 15 := by decide) (hk : (prs ks is).length ≤ 15 := by decide)
    (hm : mergeK [] (prs ks is) = prs ks is := by decide +kernel) (hn : ks.length = is.length := by rfl) : SE S (.Dict keys values pos) (mDicC ks is) := by
  obtain ⟨trs, pp, q⟩ := h.ex
  refine ⟨⟨tDisp trs, fun X o => pe_disp (pp X o pos) hall hl h0 h15, fun ρ ω σ H en hs Q rl p => ?_⟩⟩
  intro a n
  refine q σ _ _ ⟨upd_same, prs ks is, rfl, hk, ?_⟩
  rw [hm, upd_upd]
  refine p (.ref a) _ ρ ω (Grow.step (.new n)) (rl.hr.grow (.new n)) ⟨a, is.map V.int, rfl, upd_same, fresh_w rl.hr n, by rw [List.length_map]; exact hn, ints_rep is⟩
theorem dic_get {K : Fg} {ρ : List Addr} {ω : Addr → Prop} {H : Hp} : ∀ {ks : List Str} {ds : List D} {vs : List V} (x : Str), ks.length = ds.length → RepA K ρ ω H ds vs →
    (dicAt ks ds x = none ∧ valV ((ks.map (Sum.inr : Str → Key)).zip vs) (Sum.inr x) = none) ∨ ∃ d v, dicAt ks ds x = some d ∧ valV ((ks.map (Sum.inr : Str → Key)).zip vs) (Sum.inr x) = some v ∧ Rep K ρ ω H d v
  | [], ds, vs, x, hl, r => .inl ⟨rfl, rfl⟩
  | k :: ks, [], vs, x, hl, r => by cases hl
  | k :: ks, d :: ds, vs, x, hl, r => by
    obtain ⟨v, us, rfl, r1, r2⟩ := r
    have hl' : ks.length = ds.length := by simpa using hl
    by_cases e : k = x
    · subst e
      refine .inr ⟨d, v, by simp [dicAt], ?_, r1⟩
      unfold valV
      simp
    · have e2 : ¬ ((Sum.inr k : Key) = Sum.inr x) := fun z => e (Sum.inr.inj z)
      have e3 : valV (((k :: ks).map (Sum.inr : Str → Key)).zip (v :: us)) (Sum.inr x) = valV ((ks.map (Sum.inr : Str → Key)).zip us) (Sum.inr x) := by
        unfold valV
        simp [e]
      rw [e3]
      simp only [dicAt, if_neg e]
      exact dic_get x hl' r2
theorem se_get2 {o f : Expr} {mo mf : EM D} {p2 : Pos} (ho : SE S o mo) (ha : SE S a ma) (hf : SE S f mf)
    (hb : ∀ env, attributeBase o "get" env (eval o env) = eval o env := by intro _; rfl)
    (hfew : ∀ env, ((backTo pos (starEach [a, f] env)).all (fun x => !x.1) && (backToKw pos (keywordEach [] env)).all (fun x => x.1.isSome) && decide (([a, f] : List Expr).length + ([] : List Keyword).length + (if ([] : List Keyword).isEmpty then 0 else 1) < 30)) = true := by intro _; rfl)
    (hline : (p2.endLine == pos.line) = true := by rfl) (ht : ∀ env, backTo pos (starEach [a, f] env) = [(false, eval a env), (false, eval f env)] := by intro _; rfl) : SE S (.Call (.Attribute o "get" p2) [a, f] [] pos) (mGet2 mo ma mf) := by
  obtain ⟨to, po, so⟩ := ho.ex
  obtain ⟨ta, pa, sa⟩ := ha.ex
  obtain ⟨tf, pf, sf⟩ := hf.ex
  refine ⟨⟨tDGet2 to ta tf, fun X k => pe_dget2 (hu_of k.room) (po X k) (pa X k) (pf X k) ⟨hb _, hfew _, hline, ht _⟩, fun ρ ω σ H en h Q rl p => ?_⟩⟩
  refine so ρ ω σ H en h _ rl (Post.bind p fun d h1 v H1 ρ1 ω1 s1 hr1 r1 p1 => ?_)
  have rl1 := rl.step s1 hr1
  cases d with
  | dic ks ds =>
    obtain ⟨q, vs, rfl, g1, g2, g3, g4⟩ := r1
    refine ⟨q, rfl, .inl ⟨_, .inl g1⟩, ?_⟩
    refine sa ρ1 ω1 σ H1 en h1 _ rl1 (Post.bind p1 fun d2 h2 v2 H2 ρ2 ω2 s2 hr2 r2 p2 => ?_)
    refine sf ρ2 ω2 σ H2 en h2 _ (rl1.step s2 hr2) (Post.bind p2 fun d3 h3 v3 H3 ρ3 ω3 s3 hr3 r3 p3 => ?_)
    obtain ⟨z, e, kk⟩ := Post.opt hr3 p3
    have s23 := s2.trans s3
    cases d2 with
    | str x =>
      have e3 : (dicAt ks ds x).getD d3 = z := Option.some.inj e
      have g4' := s23.repA hr1 g4
      have g1' := s23.keep q _ g1 (fun z => g2 (hr1.ro q z))
      have r2' : v2 = .str x := r2
      subst r2'
      refine ⟨_, DGet.k (k := Sum.inr x) g1', ?_⟩
      rcases dic_get x g3 g4' with ⟨w1, w2⟩ | ⟨d', v', w1, w2, w3⟩
      · rw [w2]
        rw [w1] at e3
        have e4 : d3 = z := e3
        subst e4
        exact kk v3 H3 .same r3
      · rw [w2]
        rw [w1] at e3
        have e4 : d' = z := e3
        subst e4
        exact kk v' H3 .same w3
    | _ => cases e
  | _ => exact p1.elim

/-! ### a local list compared -/
theorem own_view {ρ : List Addr} {ω : Addr → Prop} {σ : L2.St} {H : Hp} {en : En} {h : Hs} {i : Nat} {ds : List D} (rl : Rel S.K S.B ρ ω σ H en h) (q : en[i]? = some (.own ds)) :
    ∃ a ω', σ[i]? = some (some (.ref a)) ∧ HRel S.K ρ ω' H h ∧ Rep S.K ρ ω' H (.lst ds) (.ref a) ∧ ∀ d v, Rep S.K ρ ω H d v → Rep S.K ρ ω' H d v := by
  obtain ⟨a, xs, e1, e2, e3, e4, e5, e6⟩ := rl.own i ds q
  obtain ⟨ω', rl', s⟩ := rl.freeze q
  refine ⟨a, ω', e1, rl'.hr, ?_, fun d v r => s.rep r⟩
  obtain ⟨v, f1, f2⟩ := rl'.val i (.lst ds) (by rw [List.getElem?_set_self (List.getElem?_eq_some_iff.mp q).1])
  rw [e1] at f1
  cases f1
  exact f2
theorem cmpOwn_run {r : R2} {f : Op2} {tb : TE} {i : Nat} (hf : Op2Ok S.K r f) (hz : ∀ h a b z, f h a b = some z → ∃ c, z = .bl c)
    (sb : ∀ ρ ω σ H en h Q, Rel S.K S.B ρ ω σ H en h → Post S (RD S) ρ ω σ H (mb en h) Q → tb σ H Q)
    {ρ : List Addr} {ω : Addr → Prop} {σ : L2.St} {H : Hp} {en : En} {h : Hs} {Q : VK} (rl : Rel S.K S.B ρ ω σ H en h) (p : Post S (RD S) ρ ω σ H (mOp2 f (mPeek i) mb en h) Q) : tOp r (tVar i) tb σ H Q := by
  obtain ⟨ds, a, xs, e0, e1, e2, e3, e4, p1⟩ := own_at rl p
  refine ⟨.ref a, e1, sb ρ ω σ H en h _ rl (Post.bind p1 fun d h1 v H1 ρ1 ω1 s1 hr1 r1 p2 => ?_)⟩
  obtain ⟨z, e, k⟩ := Post.opt hr1 p2
  have rl1 := rl.step s1 hr1
  obtain ⟨a', ω', f1, f2, f3, f4⟩ := own_view rl1 e0
  rw [e1] at f1
  cases f1
  obtain ⟨c, rfl⟩ := hz _ _ _ _ e
  exact hf ρ1 ω' H1 h1 (.lst ds) d (.ref a) v (.bl c) Q f2 f3 (f4 d v r1) e fun v' H' g r => k v' H' g r
theorem hz_eq : ∀ h a b z, opEq h a b = some z → ∃ c, z = .bl c := fun h a b z e => by
  unfold opEq at e
  cases q : opEqB a b with
  | none => rw [q] at e; cases e
  | some c => rw [q] at e; exact ⟨c, (Option.some.inj e).symm⟩
theorem hz_ne : ∀ h a b z, opNe h a b = some z → ∃ c, z = .bl c := fun h a b z e => by
  unfold opNe at e
  cases q : opEqB a b with
  | none => rw [q] at e; cases e
  | some c => rw [q] at e; exact ⟨!c, (Option.some.inj e).symm⟩
theorem se_cmpOwn {op : CmpOp} {r : R2} {f : Op2} {i : Nat} (hN : S.N[i]? = some x) (hv : Vis S.sc x) (ho : ∀ X, S.Ok X → OpR X (compareOp op) r) (hf : Op2Ok S.K r f) (hz : ∀ h a b z, f h a b = some z → ∃ c, z = .bl c) (hb : SE S b mb) (hm : behindInMarks op b = false := by rfl)
    (hd : (x == ("__debug__" : Str)) = false := by decide) (hcd : (x == ("__classdict__" : Str)) = false := by decide) : SE S (.Compare (.Name x p) [op] [b] pos) (mOp2 f (mPeek i) mb) := by
  obtain ⟨tb, pb, sb⟩ := hb.ex
  exact ⟨⟨tOp r (tVar i) tb, fun X o => pe_cmpR (ho X o) (pe_var (by rw [o.N]; exact hN) (by rw [o.sc]; exact hv) hd hcd) (pb X o) hm, fun ρ ω σ H en h Q rl p => cmpOwn_run hf hz sb rl p⟩⟩
theorem st_cmpOwn {op : CmpOp} {r : R2} {f : Op2} {i : Nat} (hN : S.N[i]? = some x) (hv : Vis S.sc x) (ho : ∀ X, S.Ok X → OpR X (compareOp op) r) (hf : Op2Ok S.K r f) (hz : ∀ h a b z, f h a b = some z → ∃ c, z = .bl c) (hb : SE S b mb) (hm : behindInMarks op b = false := by rfl)
    (hd : (x == ("__debug__" : Str)) = false := by decide) (hcd : (x == ("__classdict__" : Str)) = false := by decide) : STt S (.Compare (.Name x p) [op] [b] pos) (tVal (mOp2 f (mPeek i) mb)) := by
  obtain ⟨tb, pb, sb⟩ := hb.ex
  exact ⟨⟨tTest (tOp r (tVar i) tb), fun X o => pt_cmpR (ho X o) (pe_var (by rw [o.N]; exact hN) (by rw [o.sc]; exact hv) hd hcd) (pb X o) hm, fun ρ ω σ H en h Q rl p => val_run (t := tOp r (tVar i) tb) (fun ρ ω σ H en h Q rl p => cmpOwn_run hf hz sb rl p) rl p⟩⟩

/-- x = x + b, x a list of one's own -/
theorem Rel.newOwn {K : Fg} {B : Bs} {ρ : List Addr} {ω : Addr → Prop} {σ : L2.St} {H : Hp} {e : En} {h : Hs} (rl1 : Rel K B ρ ω σ H e h) {i : Nat} {ds : List D} {vs : List V} {q : Addr} (n : H q = none) (r1 : RepA K ρ ω H ds vs) :
    Rel K B ρ (fun a => ω a ∨ a = q) (σ.set i (some (.ref q))) (upd H q (.lst vs)) (e.set i (.own ds)) h ∧ StepW ρ ω H ρ (fun a => ω a ∨ a = q) (upd H q (.lst vs)) := by
  have hr1 := rl1.hr
  have ns : Step ρ ω H ρ (fun a => ω a ∨ a = q) (upd H q (.lst vs)) := by
    have w := new_step hr1 n (.lst vs)
    exact ⟨fun _ _ z => z, w.sub, w.new, fun _ z => .inl z, w.keep, w.tup, w.frz, w.more⟩
  have hr2 : HRel K ρ (fun a => ω a ∨ a = q) (upd H q (.lst vs)) h := by
    refine ⟨hr1.hlen, fun r c w => ?_, hr1.nd, fun a w => .inl (hr1.ro a w), fun a w => ?_⟩
    · obtain ⟨a, e1, c1⟩ := hr1.cell r c w
      exact ⟨a, e1, c1.mono ns hr1 fun o w => by rw [upd_ne (ne_of_none w n)]; exact w⟩
    · rcases w with w | w
      · exact ns.more a (hr1.oh a w)
      · subst w; rw [upd_same]; simp
  have rl2 := rl1.step ns hr2
  refine ⟨⟨rl2.hr, rl2.st, rl2.bo, by simp [rl2.len], fun j d w => ?_, fun j es' w => ?_, fun j j' es' fs w1 w2 w3 => ?_⟩, ns.weak hr1.ro⟩
  · rcases get_set w with ⟨rfl, f1, _⟩ | ⟨ne, w⟩
    · cases f1
    · obtain ⟨v, f1, f2⟩ := rl2.val j d w
      exact ⟨v, by rw [List.getElem?_set_ne ne]; exact f1, f2⟩
  · rcases get_set w with ⟨rfl, f1, hi⟩ | ⟨ne, w⟩
    · cases f1
      refine ⟨q, vs, by rw [List.getElem?_set_self (by rw [← rl1.len]; exact hi)], upd_same, .inr rfl, fun w => hr1.oh q (hr1.ro q w) n, rl1.fresh n, ns.repA hr1 r1⟩
    · obtain ⟨a, us, f1, f2⟩ := rl2.own j es' w
      exact ⟨a, us, by rw [List.getElem?_set_ne ne]; exact f1, f2⟩
  · rcases get_set w1 with ⟨rfl, f1, hi⟩ | ⟨ne, w1⟩
    · rcases get_set w2 with ⟨rfl, f2, hi2⟩ | ⟨ne2, w2⟩
      · rfl
      · rw [List.getElem?_set_self (by rw [← rl1.len]; exact hi), List.getElem?_set_ne ne2] at w3
        obtain ⟨a, us, g1, g2, _⟩ := rl1.own j' fs w2
        rw [g1] at w3
        cases w3
        rw [n] at g2
        cases g2
    · rcases get_set w2 with ⟨rfl, f2, hi2⟩ | ⟨ne2, w2⟩
      · rw [List.getElem?_set_self (by rw [← rl1.len]; exact hi2), List.getElem?_set_ne ne] at w3
        obtain ⟨a, us, g1, g2, _⟩ := rl1.own j es' w1
        rw [g1] at w3
        cases w3
        rw [n] at g2
        cases g2
      · rw [List.getElem?_set_ne ne, List.getElem?_set_ne ne2] at w3
        exact rl2.apart j j' es' fs w1 w2 w3
theorem ss_ownAdd {i : Nat} {p1 pos2 : Pos} (hnd : S.N.Nodup) (hN : S.N[i]? = some x) (hv : Loc S.sc x) (hf : S.fn x = true ∨ S.sc.names.lookup x = some .local) (hb : SE S b mb) (hd : (x == ("__debug__" : Str)) = false := by decide) (hcd : (x == ("__classdict__" : Str)) = false := by decide)
    (hs : ∀ env, swapsWith (.BinOp (.Name x p1) .Add b pos2) (some (.Name x p)) pos.line env = pure false := by intro _; rfl) : SS S (.Assign [.Name x p] (.BinOp (.Name x p1) .Add b pos2) pos) (sOwnAdd i mb) := by
  obtain ⟨tb, pb, sb⟩ := hb.ex
  have vis : Vis S.sc x := by
    rcases hv with z | z
    · exact .inl z
    · exact .inr (.inl z)
  refine ⟨⟨tAsg (tOp rCat (tVar i) tb) (L2.gName i), fun X o => ps_set (by rw [o.N]; exact hnd) (by rw [o.N]; exact hN) (by rw [o.sc]; exact hv) (pe_op op_cat (pe_var (by rw [o.N]; exact hN) (by rw [o.sc]; exact vis) hd hcd) (pb X o)) (hs _) (by rcases hf with z | z; exact .inl (o.fn x z); exact .inr (by rw [o.sc]; exact z)), fun ρ ω σ H en h Dn rl q => ?_⟩⟩
  unfold sOwnAdd at q
  cases z : en[i]? with
  | none => simp only [z] at q; exact q.elim
  | some sl =>
    cases sl with
    | no => simp only [z] at q; exact q.elim
    | val d => simp only [z] at q; exact q.elim
    | own ds =>
      simp only [z] at q
      obtain ⟨a0, xs, e1, e2, e3, e4, e5, e6⟩ := rl.own i ds z
      refine ⟨.ref a0, e1, ?_⟩
      refine sb ρ ω σ H en h _ rl (SPost.ofE rl q fun d h1 v H1 ρ1 ω1 s1 hr1 r1 q1 => ?_)
      cases d with
      | lst es =>
        have q2 : SPost S ρ1 ω1 H1 (if ds.length + es.length ≤ LINE then .nx (en.set i (.own (ds ++ es))) h1 else .stuck) Dn := q1
        by_cases hl : ds.length + es.length ≤ LINE
        · rw [if_pos hl] at q2
          obtain ⟨b0, ys, rfl, g1, g2, g3⟩ := r1
          have f2 := s1.keep a0 _ e2 e4
          have f6 := s1.repA rl.hr e6
          refine ⟨a0, b0, xs, ys, rfl, rfl, f2, g1, by rw [line_eq, ← f6.len, ← g3.len]; exact hl, fun t n => ?_⟩
          obtain ⟨w1, w2⟩ := (rl.step s1 hr1).newOwn (i := i) n (f6.append g3)
          exact q2 _ _ ρ1 _ w1 w2
        · rw [if_neg hl] at q2
          exact q2.elim
      | _ => exact q1.elim

/-! ### stores from the right -/
def envS (sc : Scope) : Env := { scope := sc, locals := 0, globals := 0, cells := [], qual := "", func := none, code := .none, frame := none, builtins := 0 }
theorem swap_env {sc : Scope} {ts : List Expr} {v : Expr} {r : Sem (Option (List Str))} (h : swappedStores ts v (envS sc) = r) (env : Env) (e : env.scope = sc) : swappedStores ts v env = r := by
  rw [← h]
  unfold swappedStores Env.blockKind Env.kindOf
  rw [e]
  rfl
end
end DS

set_option Elab.async false
set_option linter.all false
set_option maxRecDepth 100000
set_option maxHeartbeats 4000000
/-! DHead: a module's constants off the head; the end of a law. -/
namespace DS
open PySem PySem.Spec PyProof.Rows L2
mutual
def repB (K : Fg) : D → Value → Bool
  | .non, .none => true
  | .bl b, .bool c => b == c
  | .int i, .int j _ => decide (i = j)
  | .str s, .str t _ => decide (s = t)
  | .tup ds, .ref a =>
    (match K.lookup a with
    | some ⟨.type c, _, .seq its _, _⟩ => decide (c = "tuple") && (decide (its.size ≤ sizeLine) && repAB K ds its.toList)
    | _ => false)
  | _, _ => false
def repAB (K : Fg) : List D → List Value → Bool
  | [], [] => true
  | d :: ds, u :: us => repB K d u && repAB K ds us
  | _, _ => false
end
mutual
theorem repB_ok {K : Fg} : ∀ (d : D) (u : Value), repB K d u = true → ∃ v, RelV v u ∧ ∀ ρ ω H, Rep K ρ ω H d v
  | .non, u, h => by
    cases u with
    | none => exact ⟨.non, rfl, fun _ _ _ => rfl⟩
    | _ => simp [repB] at h
  | .bl b, u, h => by
    cases u with
    | bool c =>
      have e : b = c := by simpa [repB] using h
      subst e
      exact ⟨.bl b, rfl, fun _ _ _ => rfl⟩
    | _ => simp [repB] at h
  | .int i, u, h => by
    cases u with
    | int j t =>
      have e : i = j := by simpa [repB] using h
      subst e
      exact ⟨.int i, ⟨t, rfl⟩, fun _ _ _ => rfl⟩
    | _ => simp [repB] at h
  | .str s, u, h => by
    cases u with
    | str j t =>
      have e : s = j := by simpa [repB] using h
      subst e
      exact ⟨.str s, ⟨t, rfl⟩, fun _ _ _ => rfl⟩
    | _ => simp [repB] at h
  | .tup ds, u, h => by
    cases u with
    | ref a =>
      unfold repB at h
      cases q : K.lookup a with
      | none => rw [q] at h; cases h
      | some o =>
        obtain ⟨oc, od, dt, sl⟩ := o
        rw [q] at h
        cases oc with
        | type c =>
          cases dt with
          | seq its n =>
            have h' : (decide (c = "tuple") && (decide (its.size ≤ sizeLine) && repAB K ds its.toList)) = true := h
            simp only [Bool.and_eq_true, decide_eq_true_eq] at h'
            obtain ⟨e1, e2, e3⟩ := h'
            obtain ⟨xs, r1, r2⟩ := repAB_ok ds its.toList e3
            exact ⟨.ref a, rfl, fun ρ ω H => ⟨a, xs, rfl, .inr ⟨_, its, n, q, congrArg Value.type e1, rfl, e2, r1⟩, r2 ρ ω H⟩⟩
          | _ => cases h
        | _ => cases dt <;> cases h
    | _ => simp [repB] at h
  | .lst _, u, h => by cases u <;> simp [repB] at h
  | .ref _, u, h => by cases u <;> simp [repB] at h
  | .dic _ _, u, h => by cases u <;> simp [repB] at h
  | .scr _, u, h => by cases u <;> simp [repB] at h
theorem repAB_ok {K : Fg} : ∀ (ds : List D) (us : List Value), repAB K ds us = true → ∃ xs, Vals xs us ∧ ∀ ρ ω H, RepA K ρ ω H ds xs
  | [], us, h => by
    cases us with
    | nil => exact ⟨[], .nil, fun _ _ _ => rfl⟩
    | cons u us => simp [repAB] at h
  | d :: ds, us, h => by
    cases us with
    | nil => simp [repAB] at h
    | cons u us =>
      have h' : (repB K d u && repAB K ds us) = true := by simpa [repAB] using h
      simp only [Bool.and_eq_true] at h'
      obtain ⟨v, r1, r2⟩ := repB_ok d u h'.1
      obtain ⟨vs, r3, r4⟩ := repAB_ok ds us h'.2
      exact ⟨v :: vs, .cons r1 r3, fun ρ ω H => ⟨v, vs, rfl, r2 ρ ω H, r4 ρ ω H⟩⟩
end
def conB (K : Fg) (x : Str) (d : D) : Bool :=
  match PySem.W.nsIn K mainGlobals x with
  | some (some u) => repB K d u
  | _ => false
theorem conB_ok {K : Fg} {h : PySem.Heap} {mg : Str → Option Value} (X : K.In h) (G : h.Ns mainGlobals mg) {x : Str} {d : D} (c : conB K x d = true) : Con K mg x d := by
  unfold conB at c
  cases q : PySem.W.nsIn K mainGlobals x with
  | none => rw [q] at c; cases c
  | some o =>
    cases o with
    | none => rw [q] at c; cases c
    | some u =>
      rw [q] at c
      obtain ⟨v, r1, r2⟩ := repB_ok d u c
      exact ⟨⟨u, v, PySem.W.mg_of X G q, r1, r2⟩⟩
/-- the constants' facts -/
def consB (cs : List (Str × D)) (K : Fg) : Bool := cs.all fun q => conB K q.1 q.2
theorem consB_ok {K : Fg} {h : PySem.Heap} {mg : Str → Option Value} (X : K.In h) (G : h.Ns mainGlobals mg) {cs : List (Str × D)} (c : consB cs K = true) (i : Nat) {q : Str × D} (e : cs[i]? = some q) : Con K mg q.1 q.2 :=
  conB_ok X G (List.all_eq_true.mp c q (List.mem_of_getElem? e))

/-- a def that is never run -/
theorem sss_stuck {S : Sx} {sts : List Stmt} : SSs S sts sStuck := ⟨⟨tNever, fun _ _ => pss_never, fun ρ ω σ H en h Dn rl q => q⟩⟩

/-! ### the end -/
theorem sp_law {K : Fg} {mg : Str → Option Value} {f : DF} {H : Hp} {a : Addr} {ns : List Int} (hO : Only H) (hS : SqL K H a (ns.map V.int)) (hf : ∃ h, f [.scr ns] [] = .ok (.bl true) h) :
    spD K mg 1 f [.ref a] H (fun v _ => v = .bl true) fun _ _ _ => False := by
  obtain ⟨h, e⟩ := hf
  refine ⟨rfl, [], fun _ => False, [], [.scr ns], ⟨rfl, fun r c q => by simp at q, List.nodup_nil, fun a z => by simp at z, fun a z => z.elim⟩, ⟨.ref a, [], rfl, ⟨a, rfl, ?_⟩, rfl⟩, ?_⟩
  · rcases hS with (q | ⟨o, q⟩) | q
    · rcases hO a with z | ⟨o, xs, z⟩
      · rw [q] at z; cases z
      · rw [q] at z; cases z
    · exact .inl ⟨o, q⟩
    · exact .inr fun _ => .inr q
  · rw [e]
    intro v H' ρ' ω' _ _ r
    exact r
theorem end_law {l : PySem.W.OpenLaw} {n k : Nat} {q : Program} {loose : List Str} {XP : (Str → Option Value) → PySem.Heap → Prop} {YP : World → PySem.Heap → Prop} {d : DefRec} {x : Str} {f : DF}
    (hn : l.most = some n) (hn2 : n ≤ sizeLine) (hdf : d.params.defaults = []) (hr : Room k callerA) (hf : ∀ ns : List Int, ns.length ≤ n → ∃ h, f [.scr ns] [] = .ok (.bl true) h)
    (F : ∀ (w : World) (mg : Str → Option Value) (fa : Addr) (h : PySem.Heap), YP w h → h.Ns mainGlobals mg → mg d.name = some (.ref fa) →
      ∃ (K : PySem.W.Frag) (fd : FuncData), K.In h ∧ (∀ (s : Shared) (u : Value), BindsTo s fd ⟨[u], []⟩ [(x, u)]) ∧
        ∀ base : PySem.Heap, K.In base → base.Ns mainGlobals mg → FnOk l.prog w K mg base (L2.CX l.prog w) k fa fd [x] (spD K mg 1 f)) :
    PySem.W.WalkO q loose XP YP l.row.toRowW d [] (fun f vs => PySem.call f vs) := by
  refine Att.attach_call hn hdf fun w s₀ s₁ mg mb fa o pm cd doc a vs ns G Y ho hd hcd hmg hobj hints hlen hg => ?_
  obtain ⟨K, fd, KX, hb, hF⟩ := F w mg fa _ Y G.T.g hmg
  exact law_call KX G.T.g G.T.b G.T.builtins G.T.nolimit hg hobj hints (Nat.le_trans hlen hn2) hr hF hb (fun H hO hS => sp_law hO hS (hf ns hlen)) fun H e s' z => by
    obtain ⟨_, _, _, _, _, _, _, _, _, _, _, _, z⟩ := z
    exact z
end DS

set_option Elab.async false
set_option linter.all false
set_option maxRecDepth 100000
set_option maxHeartbeats 4000000
/-! DDict: dict(x) of a module's constant tuple of pairs; d[k]. -/
namespace DS
open PySem PySem.Spec PyProof.Rows L2
/-- the kept tuples are pairs of a text and a number -/
def KP (K : Fg) : List Value → List Str → List Int → List (Value × Value) → List Addr → Prop
  | [], [], [], [], [] => True
  | u :: us, k :: ks, i :: is, q :: ps, b :: bs => u = .ref b ∧ (∃ t, q.1 = .str k t) ∧ (∃ t, q.2 = .int i t) ∧ (∃ ob n, K.lookup b = some ob ∧ ob.cls = .type "tuple" ∧ ob.data = .seq #[q.1, q.2] n) ∧ KP K us ks is ps bs
  | _, _, _, _, _ => False
def KPairs (K : Fg) (a : Addr) (ks : List Str) (is : List Int) : Prop :=
  ∃ o items n ps bs, K.lookup a = some o ∧ o.cls = .type "tuple" ∧ o.dict = none ∧ o.data = .seq items n ∧ items.size ≤ sizeLine ∧ KP K items.toList ks is ps bs
theorem KP.len {K : Fg} : ∀ {us : List Value} {ks : List Str} {is : List Int} {ps : List (Value × Value)} {bs : List Addr}, KP K us ks is ps bs → us.length = ps.length ∧ ks.length = ps.length ∧ is.length = ps.length ∧ bs.length = ps.length
  | [], [], [], [], [], _ => ⟨rfl, rfl, rfl, rfl⟩
  | u :: us, k :: ks, i :: is, q :: ps, b :: bs, h => by
    obtain ⟨a, b, c, d⟩ := KP.len h.2.2.2.2
    exact ⟨by simp [a], by simp [b], by simp [c], by simp [d]⟩
theorem KP.at {K : Fg} : ∀ {us : List Value} {ks : List Str} {is : List Int} {ps : List (Value × Value)} {bs : List Addr}, KP K us ks is ps bs → ∀ (j : Nat) (x y : Value), ps[j]? = some (x, y) →
    ∃ b ob n k, us[j]? = some (.ref b) ∧ bs[j]? = some b ∧ K.lookup b = some ob ∧ ob.cls = .type "tuple" ∧ ob.data = .seq #[x, y] n ∧ ks[j]? = some k ∧ ∃ t, x = .str k t
  | [], [], [], [], [], h, j, x, y, e => by simp at e
  | u :: us, k :: ks, i :: is, q :: ps, b :: bs, h, j, x, y, e => by
    obtain ⟨h1, h2, h3, ⟨ob, n, h4, h5, h6⟩, h7⟩ := h
    cases j with
    | zero =>
      have e' : q = (x, y) := Option.some.inj e
      subst e'
      exact ⟨b, ob, n, k, by simp [h1], rfl, h4, h5, h6, rfl, h2⟩
    | succ j =>
      obtain ⟨b', ob', n', k', r⟩ := KP.at h7 j x y (by simpa using e)
      exact ⟨b', ob', n', k', by simpa using r⟩
def kvl (ks : List Str) (ps : List (Value × Value)) : List (Key × Value) := List.zipWith (fun k p => (Sum.inr k, p.2)) ks ps
theorem KP.kv {K : Fg} : ∀ {us : List Value} {ks : List Str} {is : List Int} {ps : List (Value × Value)} {bs : List Addr}, KP K us ks is ps bs → KV (prs ks is) (kvl ks ps)
  | [], [], [], [], [], _ => .nil
  | u :: us, k :: ks, i :: is, q :: ps, b :: bs, h => by
    obtain ⟨t, e⟩ := h.2.2.1
    refine .cons ⟨rfl, ?_⟩ (KP.kv h.2.2.2.2)
    exact ⟨t, e⟩
section
variable {X : Cx}
theorem call_dictK (hcalm : X.calm = true) (ks : List Str) (is : List Int) : CallR X (.type "dict") (fun xs H Q => ∃ a, xs = [.ref a] ∧ KPairs X.K a ks is ∧ ∀ p, H p = none → Q (.ref p) (upd H p (.dK (mergeK [] (prs ks is))))) := by
  intro pins s σ H xs us Q I r q
  obtain ⟨a, ex, ⟨o, items, n, ps, bs, k1, k2, k3, k4, k5, k6⟩, q⟩ := q
  subst ex
  obtain ⟨u, eu, rx⟩ := vals1 r
  subst eu
  cases rx
  obtain ⟨l1, l2, l3, l4⟩ := k6.len
  have ok : PySem.PlainSeq "tuple" s.heap a items ∧ PySem.PairItems s.heap items (fun j => (bs[j]?).getD 0) ps := by
    refine ⟨⟨o, n, I.kIn a o k1, k2, k3, k4⟩, by rw [← l1]; simp, fun j x y e => ?_⟩
    obtain ⟨b, ob, n', k, e1, e2, e3, e4, e5, e6, e7⟩ := k6.at j x y e
    refine ⟨?_, .inl ?_⟩
    · simp only [e2, Option.getD_some]
      simpa using e1
    · simp only [e2, Option.getD_some]
      exact ⟨ob, I.kIn b ob e3, e4, n', e5⟩
  have hsz : ps.length ≤ sizeLine := by rw [← l1]; simpa using k5
  refine PySem.call_dict_pairs (knd := mixKind X.prog X.w) (kvs := kvl ks ps) (PySem.PairArg.tuple a items (fun j => (bs[j]?).getD 0) ps) (I.ok.hd hcalm) ok ⟨by simp [kvl, l2], fun j x y e => ?_⟩ hsz fun h' tk hd' k => ?_
  · obtain ⟨b, ob, n', kk, e1, e2, e3, e4, e5, e6, t, e7⟩ := k6.at j x y e
    refine ⟨Sum.inr kk, ?_, ?_⟩
    · have e' : ps[j]? = some (x, y) := e
      simp [kvl, List.getElem?_zipWith, e6, e']
    · rw [e7]; exact mixKind_str _ _ _ _
  · have hm : (s.heap.objs.size == sysModules) = false := beq_eq_false_iff_ne.mpr (Nat.ne_of_gt I.big)
    have rel := k6.kv
    have hlen : (mergeK [] (prs ks is)).length ≤ sizeLine := by
      refine Nat.le_trans (length_mergeK (prs ks is) []) ?_
      have : (prs ks is).length = ps.length := by simp [prs, l2, l3]
      rw [List.length_nil, Nat.zero_add, this]
      exact hsz
    exact ⟨.ref s.heap.objs.size, upd H s.heap.objs.size (.dK (mergeK [] (prs ks is))), I.laid (t' := tk) (fun b o e => k b o (by simp) e) (Nat.le_refl _) (show ObjOk X.prog X.w _ _ _ (.dK (mergeK [] (prs ks is))) from ⟨hlen, hm, merged [] (kvl ks ps), KV.merge rel .nil, hd'⟩), rfl, q _ (I.hok.fresh (Nat.le_refl _))⟩
end
/-- the module's name x is a tuple of such pairs -/
structure DCon (K : Fg) (mg : Str → Option Value) (x : Str) (ks : List Str) (is : List Int) : Prop where
  ex : ∃ a, mg x = some (.ref a) ∧ KPairs K a ks is
variable {S : Sx} {x : Str} {p p2 pos : Pos}
theorem se_dictC {ks : List Str} {is : List Int} (c : DCon S.K S.mg x ks is) (hg : Glb S x) (hgd : Glb S "dict") (hmd : S.mg "dict" = none) (hd : (x == ("__debug__" : Str)) = false := by decide)
    (hm : mergeK [] (prs ks is) = prs ks is := by decide +kernel) (hn : ks.length = is.length := by rfl) (hv : bootBuiltins "dict" = some (.type "dict") := by decide +kernel)
    (he : ∀ env, starEach [.Name x p2] env = (false, eval (.Name x p2) env) :: starEach [] env := by intro _; rfl) (hpl : ∀ env, (backTo pos (starEach [] env)).any (·.1) = false := by intro _; rfl) : SE S (.Call (.Name "dict" p) [.Name x p2] [] pos) (mDicC ks is) := by
  obtain ⟨a, e, kp⟩ := c.ex
  refine ⟨⟨tCB (fun xs H Q => ∃ a, xs = [.ref a] ∧ KPairs S.K a ks is ∧ ∀ p, H p = none → Q (.ref p) (upd H p (.dK (mergeK [] (prs ks is))))) (tCons (tC (.ref a)) tNil), fun X o => ?_, fun ρ ω σ H en hs Q rl p => ?_⟩⟩
  · have := call_dictK (X := X) o.calm ks is
    rw [o.K] at this
    exact pe_callTy this (by show X.env.scope.names.lookup _ = _; rw [o.sc]; exact hgd) (by rw [o.mg]; exact hmd) hv (pa_cons (pe_glob (by show X.env.scope.names.lookup x = _; rw [o.sc]; exact hg) (by rw [o.mg]; exact e) rfl hd) pa_nil (he _)) (by decide) (by decide) (he _) (hpl _)
  · refine ⟨a, rfl, kp, fun q n => ?_⟩
    rw [hm]
    exact p (.ref q) _ ρ ω (Grow.step (.new n)) (rl.hr.grow (.new n)) ⟨q, is.map V.int, rfl, upd_same, fresh_w rl.hr n, by rw [List.length_map]; exact hn, ints_rep is⟩
theorem se_dicIx {o i : Expr} {mo mi : EM D} (ho : SE S o mo) (hi : SE S i mi) (hs : NoSl i := by rfl) : SE S (.Subscript o i pos) (mOp2 opDicIx mo mi) := by
  obtain ⟨to, po, so⟩ := ho.ex
  obtain ⟨ti, pi, si⟩ := hi.ex
  refine ⟨⟨tDGet to ti, fun X k => pe_dget (hu_of k.room) (po X k) (pi X k) hs, fun ρ ω σ H en h Q rl p => ?_⟩⟩
  refine so ρ ω σ H en h _ rl (Post.bind p fun d h1 v H1 ρ1 ω1 s1 hr1 r1 p1 => ?_)
  have rl1 := rl.step s1 hr1
  refine si ρ1 ω1 σ H1 en h1 _ rl1 (Post.bind p1 fun d2 h2 v2 H2 ρ2 ω2 s2 hr2 r2 p2 => ?_)
  obtain ⟨z, e, kk⟩ := Post.opt hr2 p2
  cases d with
  | dic ks ds =>
    obtain ⟨q, vs, rfl, g1, g2, g3, g4⟩ := r1
    cases d2 with
    | str x =>
      have e3 : dicAt ks ds x = some z := e
      have g4' := s2.repA hr1 g4
      have g1' := s2.keep q _ g1 (fun z => g2 (hr1.ro q z))
      have r2' : v2 = .str x := r2
      subst r2'
      rcases dic_get x g3 g4' with ⟨w1, w2⟩ | ⟨d', v', w1, w2, w3⟩
      · rw [w1] at e3; cases e3
      · rw [w1] at e3
        have e4 : d' = z := Option.some.inj e3
        subst e4
        refine ⟨q, v', rfl, ?_, kk v' H2 .same w3⟩
        have := DGet.k (k := Sum.inr x) g1'
        rw [w2] at this
        exact this
    | _ => cases e
  | _ => cases d2 <;> cases e

/-! ### the check of a constant -/
def pairB (K : Fg) (k : Str) (i : Int) : Value → Bool
  | .ref b =>
    (match K.lookup b with
    | some ⟨.type c, _, .seq its _, _⟩ => decide (c = "tuple") && (match its.toList with | [.str k' _, .int i' _] => decide (k' = k) && decide (i' = i) | _ => false)
    | _ => false)
  | _ => false
def pairsB (K : Fg) : List Value → List Str → List Int → Bool
  | [], [], [] => true
  | u :: us, k :: ks, i :: is => pairB K k i u && pairsB K us ks is
  | _, _, _ => false
theorem pairB_ok {K : Fg} {k : Str} {i : Int} {u : Value} (h : pairB K k i u = true) : ∃ b x y ob n, u = .ref b ∧ (∃ t, x = .str k t) ∧ (∃ t, y = .int i t) ∧ K.lookup b = some ob ∧ ob.cls = .type "tuple" ∧ ob.data = .seq #[x, y] n := by
  cases u with
  | ref b =>
    simp only [pairB] at h
    cases q : K.lookup b with
    | none => simp only [q] at h; cases h
    | some o =>
      obtain ⟨oc, od, dt, sl⟩ := o
      simp only [q] at h
      cases oc with
      | type c =>
        cases dt with
        | seq its n =>
          simp only [Bool.and_eq_true, decide_eq_true_eq] at h
          obtain ⟨e1, e2⟩ := h
          split at e2
          · rename_i k' t1 i' t2 e3
            simp only [Bool.and_eq_true, decide_eq_true_eq] at e2
            obtain ⟨rfl, rfl⟩ := e2
            refine ⟨b, _, _, _, n, rfl, ⟨t1, rfl⟩, ⟨t2, rfl⟩, q, congrArg Value.type e1, ?_⟩
            congr 1
            rw [← e3]
          · cases e2
        | _ => cases h
      | _ => cases dt <;> cases h
  | _ => cases h
theorem pairsB_ok {K : Fg} : ∀ {us : List Value} {ks : List Str} {is : List Int}, pairsB K us ks is = true → ∃ ps bs, KP K us ks is ps bs
  | [], [], [], _ => ⟨[], [], trivial⟩
  | u :: us, k :: ks, i :: is, h => by
    have h' : (pairB K k i u && pairsB K us ks is) = true := h
    simp only [Bool.and_eq_true] at h'
    obtain ⟨b, x, y, ob, n, e1, e2, e3, e4, e5, e6⟩ := pairB_ok h'.1
    obtain ⟨ps, bs, r⟩ := pairsB_ok h'.2
    exact ⟨(x, y) :: ps, b :: bs, e1, e2, e3, ⟨ob, n, e4, e5, e6⟩, r⟩
def dicI : List D → List Int
  | .int i :: ds => i :: dicI ds
  | _ :: ds => dicI ds
  | [] => []
def dconB (K : Fg) (x : Str) (ks : List Str) (is : List Int) : Bool :=
  match PySem.W.nsIn K mainGlobals x with
  | some (some (.ref a)) =>
    (match K.lookup a with
    | some ⟨.type c, none, .seq its _, _⟩ => decide (c = "tuple") && (decide (its.size ≤ sizeLine) && pairsB K its.toList ks is)
    | _ => false)
  | _ => false
theorem dconB_ok {K : Fg} {h : PySem.Heap} {mg : Str → Option Value} (X : K.In h) (G : h.Ns mainGlobals mg) {x : Str} {ks : List Str} {is : List Int} (c : dconB K x ks is = true) : DCon K mg x ks is := by
  unfold dconB at c
  cases q : PySem.W.nsIn K mainGlobals x with
  | none => rw [q] at c; cases c
  | some o =>
    cases o with
    | none => rw [q] at c; cases c
    | some u =>
      rw [q] at c
      cases u with
      | ref a =>
        cases q2 : K.lookup a with
        | none => simp only [q2] at c; cases c
        | some o =>
          obtain ⟨oc, od, dt, sl⟩ := o
          simp only [q2] at c
          cases oc with
          | type cl =>
            cases od with
            | none =>
              cases dt with
              | seq its n =>
                simp only [Bool.and_eq_true, decide_eq_true_eq] at c
                obtain ⟨ps, bs, r⟩ := pairsB_ok c.2.2
                exact ⟨⟨a, PySem.W.mg_of X G q, _, its, n, ps, bs, q2, congrArg Value.type c.1, rfl, rfl, c.2.1, r⟩⟩
              | _ => cases c
            | some _ => cases dt <;> cases c
          | _ => cases od <;> cases dt <;> cases c
      | _ => cases c
def conD (K : Fg) (x : Str) (d : D) : Bool :=
  match d with
  | .dic ks ds => dconB K x ks (dicI ds)
  | d => conB K x d
def consD (cs : List (Str × D)) (K : Fg) : Bool := cs.all fun q => conD K q.1 q.2
theorem consD_at {K : Fg} {cs : List (Str × D)} (c : consD cs K = true) (i : Nat) {q : Str × D} (e : cs[i]? = some q) : conD K q.1 q.2 = true := List.all_eq_true.mp c q (List.mem_of_getElem? e)
end DS

set_option Elab.async false
set_option linter.all false
set_option maxRecDepth 100000
set_option maxHeartbeats 4000000
/-! DShare: shared lists: appended to, made a tuple of. -/
namespace DS
open PySem PySem.Spec PyProof.Rows L2
section
variable {S : Sx} {x : Str} {p pos : Pos} {a b c : Expr} {ma mb mc : EM D}
theorem cell_lst {K : Fg} {ρ : List Addr} {ω : Addr → Prop} {H : Hp} {h : Hs} (hr : HRel K ρ ω H h) {r : Nat} {ds : List D} (z : h[r]? = some (.lst ds)) : ∃ a xs, ρ[r]? = some a ∧ H a = some (.lst xs) ∧ RepA K ρ ω H ds xs := by
  obtain ⟨a, e, xs, h1, h2⟩ := hr.cell r _ z
  exact ⟨a, xs, e, h1, h2⟩
/-- o.append(e), o a shared list -/
theorem ss_appendR {o : Expr} {mo : EM D} {p2 p3 : Pos} (ho : SE S o mo) (ha : SE S a ma) (hs' : ∀ env, starEach [a] env = (false, eval a env) :: starEach [] env := by intro _; rfl)
    (hbase : ∀ env, attributeBase o "append" env (eval o env) = eval o env := by intro _; rfl)
    (hfew : ∀ env, ((backTo p3 (starEach [a] env)).all (fun x => !x.1) && (backToKw p3 (keywordEach [] env)).all (fun x => x.1.isSome) && decide ([a].length + ([] : List Keyword).length + (if ([] : List Keyword).isEmpty then 0 else 1) < 30)) = true := by intro _; rfl)
    (hline : (p2.endLine == p3.line) = true := by rfl) (hsw : ∀ env, swapsWith (.Call (.Attribute o "append" p2) [a] [] p3) none pos.line env = pure false := by intro _; rfl) :
    SS S (.Expr (.Call (.Attribute o "append" p2) [a] [] p3) pos) (sAppendR mo ma) := by
  obtain ⟨ta, pa, sa⟩ := ha.ex
  obtain ⟨to, po, so⟩ := ho.ex
  refine ⟨⟨tDrop (tBM S.K "list" rAppend to (tCons ta tNil)), fun X o' => ?_, fun ρ ω σ H en h Dn rl q => ?_⟩⟩
  · have w := pe_bm (X := X) (apos := p2) (cpos := p3) PySem.F.plainAttrs_list PySem.F.slot_list_append PySem.F.type_list_append mt_append (po X o') (pa_cons (pa X o') pa_nil (hs' _)) (hbase _) (hfew _) hline (hs' _)
    rw [o'.K] at w
    exact ps_expr w (hsw _)
  · unfold sAppendR at q
    refine so ρ ω σ H en h _ rl (SPost.ofE rl q fun d h1 v H1 ρ1 ω1 s1 hr1 r1 q1 => ?_)
    have rl1 := rl.step s1 hr1
    cases d with
    | ref r =>
      simp only at q1
      cases z0 : h1[r]? with
      | none => simp only [z0] at q1; exact q1.elim
      | some c0 =>
        cases c0 with
        | lst ds0 =>
          simp only [z0] at q1
          obtain ⟨a0, rfl, e1⟩ := r1
          obtain ⟨a1, us0, f1, f2, f3⟩ := cell_lst hr1 z0
          rw [e1] at f1
          cases f1
          refine ⟨tyV_lst f2, ?_⟩
          refine sa ρ1 ω1 σ H1 en h1 _ rl1 (SPost.ofE rl1 q1 fun d2 h2 v2 H2 ρ2 ω2 s2 hr2 r2 q2 => ?_)
          have rl2 := rl1.step s2 hr2
          cases z : h2[r]? with
          | none => simp only [z] at q2; exact q2.elim
          | some c =>
            cases c with
            | lst xs =>
              simp only [z] at q2
              by_cases hl : xs.length < LINE
              · rw [if_pos hl] at q2
                obtain ⟨a2, us, g1, g2, g3⟩ := cell_lst hr2 z
                have e2 := s2.pre r _ e1
                rw [e2] at g1
                cases g1
                exact ⟨a0, us, v2, rfl, rfl, g2, by rw [← g3.len, line_eq]; exact hl, q2 σ _ ρ2 ω2 (rl2.put e2 z g2 (g3.append (RepA.one r2))) (step_wr g2 (hr2.ro a0 (List.mem_of_getElem? e2)))⟩
              · rw [if_neg hl] at q2
                exact q2.elim
    | _ => exact q1.elim
theorem hf_tupleR {K : Fg} : OpNOk K (fun xs H Q => ∃ p ys, xs = [.ref p] ∧ ((SqL K H p ys ∧ ∀ l, H l = none → Q (.ref l) (upd H l (.tup ys))) ∨ (SqT K H p ys ∧ Q (.ref p) H))) (op1N opTupleR) := Op1Ok.N (by
  intro ρ ω H h a x z Q hr ra e k
  cases a with
  | lst ds =>
    obtain ⟨p, xs, rfl, h1, _, h2⟩ := ra
    have e3 : D.tup ds = z := Option.some.inj e
    exact ⟨p, xs, rfl, .inl ⟨SqL.of h1, fun l n => k _ _ (.new n) (by rw [← e3]; exact rep_tup hr n h2)⟩⟩
  | tup ds =>
    obtain ⟨p, xs, rfl, h1, h2⟩ := ra
    have e3 : D.tup ds = z := Option.some.inj e
    exact ⟨p, xs, rfl, .inr ⟨h1, k _ H .same (by rw [← e3]; exact ⟨p, xs, rfl, h1, h2⟩)⟩⟩
  | ref r =>
    obtain ⟨p, rfl, e1⟩ := ra
    simp only [opTupleR] at e
    cases q : h[r]? with
    | none => rw [q] at e; cases e
    | some cl =>
      rw [q] at e
      cases cl with
      | lst ds =>
        obtain ⟨p', xs, e2, h1, h2⟩ := cell_lst hr q
        rw [e1] at e2
        cases e2
        have e3 : D.tup ds = z := Option.some.inj e
        exact ⟨p, xs, rfl, .inl ⟨SqL.of h1, fun l n => k _ _ (.new n) (by rw [← e3]; exact rep_tup hr n h2)⟩⟩
  | _ => cases e)
end
end DS

set_option Elab.async false
set_option linter.all false
set_option maxRecDepth 100000
/-! DLib: plain lemmas about the combinators: comprehensions, walks, equality. -/
namespace DS
open PySem (Str)
theorem LINE_eq : LINE = 16777216 := rfl
noncomputable instance : DecidableEq D := fun _ _ => Classical.propDecidable _

/-- a comprehension over encoded things -/
theorem lc_map {α : Type} {g : TM} {t : EM Bool} {a : EM D} {e : En} {h : Hs} {enc : α → D} {p : α → Bool} {q : α → D} : ∀ (xs : List α) (acc : List D),
    (∀ x ∈ xs, ∃ e1, g (enc x) e = some e1 ∧ t e1 h = .ok (p x) h ∧ (p x = true → a e1 h = .ok (q x) h)) → acc.length + xs.length ≤ LINE →
    lcLoop g t a e (xs.map enc) acc h = .ok (acc ++ (xs.filter p).map q) h := by
  intro xs
  induction xs with
  | nil => intro acc _ _; simp [lcLoop]
  | cons x xs ih =>
    intro acc H L
    obtain ⟨e1, h1, h2, h3⟩ := H x (by simp)
    simp only [List.length_cons] at L
    rw [List.map_cons]
    unfold lcLoop
    simp only [h1, h2, bind_ok]
    cases z : p x with
    | true =>
      rw [h3 z]
      simp only [if_true, bind_ok, if_pos (show acc.length < LINE by omega)]
      rw [ih (acc ++ [q x]) (fun y hy => H y (by simp [hy])) (by simp only [List.length_append, List.length_cons, List.length_nil]; omega)]
      simp [z]
    | false =>
      simp only [Bool.false_eq_true, if_false]
      rw [ih acc (fun y hy => H y (by simp [hy])) (by omega)]
      simp [z]
/-- a walk over encoded things that keeps a relation -/
theorem for_rel {α σ : Type} {g : TM} {b : SM} {h : Hs} {enc : α → D} {st : σ → α → σ} (R : σ → En → Prop) : ∀ (xs : List α) (s : σ) (e : En),
    (∀ s e x, x ∈ xs → R s e → ∃ e1 e2, g (enc x) e = some e1 ∧ (b e1 h = .nx e2 h ∨ b e1 h = .ct e2 h) ∧ R (st s x) e2) → R s e →
    ∃ e', forLoop g b (xs.map enc) e h = .nx e' h ∧ R (xs.foldl st s) e' := by
  intro xs
  induction xs with
  | nil => intro s e _ r; exact ⟨e, rfl, r⟩
  | cons x xs ih =>
    intro s e H r
    obtain ⟨e1, e2, h1, h2, r2⟩ := H s e x (by simp) r
    obtain ⟨e', q1, q2⟩ := ih (st s x) e2 (fun s e y hy => H s e y (by simp [hy])) r2
    refine ⟨e', ?_, by simpa using q2⟩
    rw [List.map_cons]
    unfold forLoop
    simp only [h1]
    rcases h2 with h2 | h2 <;> rw [h2] <;> simp [q1]
/-- a walk that may change the heap, of which only an invariant is kept -/
theorem for_inv {α : Type} {g : TM} {b : SM} {enc : α → D} (R : En → Hs → Prop) : ∀ (xs : List α) (e : En) (h : Hs),
    (∀ e h x, x ∈ xs → R e h → ∃ e1 e2 h2, g (enc x) e = some e1 ∧ (b e1 h = .nx e2 h2 ∨ b e1 h = .ct e2 h2) ∧ R e2 h2) → R e h →
    ∃ e' h', forLoop g b (xs.map enc) e h = .nx e' h' ∧ R e' h' := by
  intro xs
  induction xs with
  | nil => intro e h _ r; exact ⟨e, h, rfl, r⟩
  | cons x xs ih =>
    intro e h H r
    obtain ⟨e1, e2, h2, q1, q2, r2⟩ := H e h x (by simp) r
    obtain ⟨e', h', q3, q4⟩ := ih e2 h2 (fun e h y hy => H e h y (by simp [hy])) r2
    refine ⟨e', h', ?_, q4⟩
    rw [List.map_cons]
    unfold forLoop
    simp only [q1]
    rcases q2 with q2 | q2 <;> rw [q2] <;> simp [q3]
/-- a comprehension that may change the heap -/
theorem lc_inv {α : Type} {g : TM} {t : EM Bool} {a : EM D} {e : En} {enc : α → D} (R : Hs → Prop) (Q : D → Prop) : ∀ (xs : List α) (acc : List D) (h : Hs),
    (∀ h x, x ∈ xs → R h → ∃ e1 d h2, g (enc x) e = some e1 ∧ t e1 h = .ok true h ∧ a e1 h = .ok d h2 ∧ R h2 ∧ Q d) → R h → (∀ d ∈ acc, Q d) → acc.length + xs.length ≤ LINE →
    ∃ ds h', lcLoop g t a e (xs.map enc) acc h = .ok ds h' ∧ R h' ∧ (∀ d ∈ ds, Q d) ∧ ds.length = acc.length + xs.length := by
  intro xs
  induction xs with
  | nil => intro acc h _ r q _; exact ⟨acc, h, rfl, r, q, rfl⟩
  | cons x xs ih =>
    intro acc h H r q L
    obtain ⟨e1, d, h2, q1, q2, q3, q4, q5⟩ := H h x (by simp) r
    simp only [List.length_cons] at L
    obtain ⟨ds, h', z1, z2, z3, z4⟩ := ih (acc ++ [d]) h2 (fun h y hy => H h y (by simp [hy])) q4 (by
      intro d' hd'
      simp only [List.mem_append, List.mem_singleton] at hd'
      rcases hd' with k | k
      · exact q _ k
      · exact k ▸ q5) (by simp only [List.length_append, List.length_cons, List.length_nil]; omega)
    refine ⟨ds, h', ?_, z2, z3, by rw [z4]; simp only [List.length_append, List.length_cons, List.length_nil]; omega⟩
    rw [List.map_cons]
    unfold lcLoop
    simp only [q1, q2, q3, bind_ok, if_true, if_pos (show acc.length < LINE by omega)]
    exact z1

/-! ### shapes -/
def sh (n : Nat) (d : D) : Prop := clean d = true ∧ dep d ≤ n
theorem cleanA_all : ∀ ds : List D, cleanA ds = true ↔ ∀ d ∈ ds, clean d = true
  | [] => by simp [cleanA]
  | d :: ds => by simp [cleanA, cleanA_all ds]
theorem depA_le {n : Nat} : ∀ ds : List D, depA ds ≤ n ↔ ∀ d ∈ ds, dep d ≤ n
  | [] => by simp [depA]
  | d :: ds => by simp [depA, Nat.max_le, depA_le ds]
theorem sh_tup {n : Nat} {ds : List D} (H : ∀ d ∈ ds, sh n d) : sh (n + 1) (.tup ds) :=
  ⟨by simp only [clean]; exact (cleanA_all ds).2 fun d m => (H d m).1, by simp only [dep]; exact Nat.succ_le_succ ((depA_le ds).2 fun d m => (H d m).2)⟩
theorem sh_lst {n : Nat} {ds : List D} (H : ∀ d ∈ ds, sh n d) : sh (n + 1) (.lst ds) :=
  ⟨by simp only [clean]; exact (cleanA_all ds).2 fun d m => (H d m).1, by simp only [dep]; exact Nat.succ_le_succ ((depA_le ds).2 fun d m => (H d m).2)⟩
theorem sh_int {n : Nat} (i : Int) : sh n (.int i) := ⟨rfl, Nat.zero_le _⟩
theorem sh_bl {n : Nat} (i : Bool) : sh n (.bl i) := ⟨rfl, Nat.zero_le _⟩
theorem sh_non {n : Nat} : sh n .non := ⟨rfl, Nat.zero_le _⟩
theorem sh_str {n : Nat} {s : Str} (h : s.cps.all (· < 0x110000) = true) : sh n (.str s) := ⟨h, Nat.zero_le _⟩
theorem sh.mono {m n : Nat} {d : D} (s : sh m d) (h : m ≤ n) : sh n d := ⟨s.1, Nat.le_trans s.2 h⟩
theorem sh.shp {n : Nat} {d : D} (s : sh n d) (h : n ≤ 64) : shp d = true := by
  simp only [DS.shp, s.1, Bool.true_and, decide_eq_true_eq]; exact Nat.le_trans s.2 h
theorem eqvA_nil (ds : List D) : eqvA ds [] = ds.isEmpty := by cases ds <;> rfl
theorem nil_eqvA (ds : List D) : eqvA [] ds = ds.isEmpty := by cases ds <;> rfl
/-- x == [] -/
theorem eq_nil_l {n : Nat} {ds : List D} (s : sh n (.lst ds)) (h : n ≤ 64) (hs : Hs) : opEq hs (.lst ds) (.lst []) = some (.bl ds.isEmpty) := by
  have e1 : shp (.lst []) = true := rfl
  have e2 : shp (.tup []) = true := rfl
  simp [opEq, opEqB, s.shp h, eqv, eqvA_nil, scal, e1, e2]
theorem ne_nil_l {n : Nat} {ds : List D} (s : sh n (.lst ds)) (h : n ≤ 64) (hs : Hs) : opNe hs (.lst ds) (.lst []) = some (.bl (!ds.isEmpty)) := by
  have e1 : shp (.lst []) = true := rfl
  have e2 : shp (.tup []) = true := rfl
  simp [opNe, opEqB, s.shp h, eqv, eqvA_nil, scal, e1, e2]
theorem eq_nil_t {n : Nat} {ds : List D} (s : sh n (.tup ds)) (h : n ≤ 64) (hs : Hs) : opEq hs (.tup ds) (.tup []) = some (.bl ds.isEmpty) := by
  have e1 : shp (.lst []) = true := rfl
  have e2 : shp (.tup []) = true := rfl
  simp [opEq, opEqB, s.shp h, eqv, eqvA_nil, scal, e1, e2]
theorem ne_nil_t {n : Nat} {ds : List D} (s : sh n (.tup ds)) (h : n ≤ 64) (hs : Hs) : opNe hs (.tup ds) (.tup []) = some (.bl (!ds.isEmpty)) := by
  have e1 : shp (.lst []) = true := rfl
  have e2 : shp (.tup []) = true := rfl
  simp [opNe, opEqB, s.shp h, eqv, eqvA_nil, scal, e1, e2]

/-! ### neat data: no refs, at most so deep, no list too long -/
def nt : Nat → D → Bool
  | 0, d => flat d
  | n + 1, .tup ds => decide (ds.length ≤ LINE) && ds.all (nt n)
  | n + 1, .lst ds => decide (ds.length ≤ LINE) && ds.all (nt n)
  | _ + 1, d => flat d
theorem nt_flat {d : D} (h : flat d = true) : ∀ n, nt n d = true
  | 0 => h
  | n + 1 => by cases d <;> simp_all [nt, flat]
theorem nt_tup {n : Nat} {ds : List D} (h1 : ds.length ≤ LINE) (h : ∀ d ∈ ds, nt n d = true) : nt (n + 1) (.tup ds) = true := by simp [nt, h1]; exact h
theorem nt_lst {n : Nat} {ds : List D} (h1 : ds.length ≤ LINE) (h : ∀ d ∈ ds, nt n d = true) : nt (n + 1) (.lst ds) = true := by simp [nt, h1]; exact h
theorem nt_mono : ∀ {n m : Nat} {d : D}, nt n d = true → n ≤ m → nt m d = true
  | 0, m, d, h, _ => nt_flat h m
  | n + 1, 0, d, h, hm => by omega
  | n + 1, m + 1, d, h, hm => by
    cases d with
    | tup ds => simp only [nt, Bool.and_eq_true, decide_eq_true_eq, List.all_eq_true] at h ⊢; exact ⟨h.1, fun d hd => nt_mono (h.2 d hd) (by omega)⟩
    | lst ds => simp only [nt, Bool.and_eq_true, decide_eq_true_eq, List.all_eq_true] at h ⊢; exact ⟨h.1, fun d hd => nt_mono (h.2 d hd) (by omega)⟩
    | _ => simp_all [nt]
theorem eqv_nn : eqv .non .non = true := rfl
theorem eqv_bb (a b : Bool) : eqv (.bl a) (.bl b) = decide (a = b) := by simp [eqv, Bool.beq_eq_decide_eq]
theorem eqv_ii (a b : Int) : eqv (.int a) (.int b) = decide (a = b) := by simp [eqv, Bool.beq_eq_decide_eq]
theorem eqv_ss (a b : Str) : eqv (.str a) (.str b) = decide (a = b) := by simp [eqv, Bool.beq_eq_decide_eq]
theorem eqv_is (a : Int) (b : Str) : eqv (.int a) (.str b) = false := rfl
theorem opEq_ii (h : Hs) (a b : Int) : opEq h (.int a) (.int b) = some (.bl (decide (a = b))) := by simp [opEq, opEqB, scal, eqv_ii]
theorem opNe_ii (h : Hs) (a b : Int) : opNe h (.int a) (.int b) = some (.bl (!decide (a = b))) := by simp [opNe, opEqB, scal, eqv_ii]
theorem opEq_bb (h : Hs) (a b : Bool) : opEq h (.bl a) (.bl b) = some (.bl (decide (a = b))) := by simp [opEq, opEqB, scal, eqv_bb]
theorem opEq_ss (h : Hs) (a b : Str) : opEq h (.str a) (.str b) = some (.bl (decide (a = b))) := by simp [opEq, opEqB, scal, eqv_ss]
theorem opNe_ss (h : Hs) (a b : Str) : opNe h (.str a) (.str b) = some (.bl (!decide (a = b))) := by simp [opNe, opEqB, scal, eqv_ss]
theorem opEq_nn (h : Hs) : opEq h .non .non = some (.bl true) := rfl
theorem opAdd_ii (h : Hs) (a b : Int) : opAdd h (.int a) (.int b) = some (.int (a + b)) := rfl
theorem opAdd_tt (h : Hs) (xs ys : List D) (L : xs.length + ys.length ≤ LINE) : opAdd h (.tup xs) (.tup ys) = some (.tup (xs ++ ys)) := by simp [opAdd, L]
theorem opAdd_ll (h : Hs) (xs ys : List D) (L : xs.length + ys.length ≤ LINE) : opAdd h (.lst xs) (.lst ys) = some (.lst (xs ++ ys)) := by simp [opAdd, L]
theorem opSub_ii (h : Hs) (a b : Int) : opSub h (.int a) (.int b) = some (.int (a - b)) := rfl
theorem smallR_of {i : Int} (h : i.natAbs ≤ 4611686018427387903) : smallR i = true := Nat.ble_eq_true_of_le h
theorem smallI_of {i : Int} (h : i.natAbs ≤ 18446744073709551615) : smallI i = true := Nat.ble_eq_true_of_le h
theorem opMul_lb (h : Hs) (xs : List D) (b : Bool) (L : xs.length ≤ LINE) : opMul h (.lst xs) (.int (b2i b)) = some (.lst (if b then xs else [])) := by
  cases b <;> simp [opMul, b2i, L]
theorem opMul_ln (h : Hs) (xs : List D) (n : Nat) (L : xs.length * n ≤ LINE) (L2 : n ≤ LINE) : opMul h (.lst xs) (.int n) = some (.lst (List.replicate n xs).flatten) := by
  have e : Nat.ble (n : Int).natAbs 9223372036854775807 = true := Nat.ble_eq_true_of_le (by rw [LINE_eq] at L2; omega)
  simp only [opMul, e, Bool.true_and]
  simp [L]
theorem opLt_ii (h : Hs) (a b : Int) : opLt h (.int a) (.int b) = some (.bl (decide (a < b))) := rfl
theorem opLe_ii (h : Hs) (a b : Int) : opLe h (.int a) (.int b) = some (.bl (decide (a ≤ b))) := rfl
theorem opGt_ii (h : Hs) (a b : Int) : opGt h (.int a) (.int b) = some (.bl (decide (b < a))) := rfl
theorem opGe_ii (h : Hs) (a b : Int) : opGe h (.int a) (.int b) = some (.bl (decide (b ≤ a))) := rfl
theorem opInt_b (h : Hs) (b : Bool) : opInt h (.bl b) = some (.int (b2i b)) := rfl
theorem opInt_i (h : Hs) (b : Int) : opInt h (.int b) = some (.int b) := rfl
theorem opMax_ii (h : Hs) (a b : Int) : opMax h (.int a) (.int b) = some (.int (if b > a then b else a)) := rfl
theorem opMin_ii (h : Hs) (a b : Int) : opMin h (.int a) (.int b) = some (.int (if b < a then b else a)) := rfl
theorem opNeg_i (h : Hs) (a : Int) : opNeg h (.int a) = some (.int (-a)) := rfl
theorem opLen_t (h : Hs) (xs : List D) : opLen h (.tup xs) = some (.int xs.length) := rfl
theorem opLen_l (h : Hs) (xs : List D) : opLen h (.lst xs) = some (.int xs.length) := rfl
theorem opTuple_l (h : Hs) (xs : List D) : opTuple h (.lst xs) = some (.tup xs) := rfl
theorem opTuple_t (h : Hs) (xs : List D) : opTuple h (.tup xs) = some (.tup xs) := rfl
theorem opList_t (h : Hs) (xs : List D) : opList h (.tup xs) = some (.lst xs) := rfl
theorem asBls_map {α : Type} (b : α → Bool) : ∀ xs : List α, asBls (xs.map fun x => .bl (b x)) = some (xs.map b)
  | [] => rfl
  | x :: xs => by simp [asBls, asBls_map b xs]
theorem opAll_map {α : Type} (h : Hs) (b : α → Bool) (xs : List α) : opAll h (.lst (xs.map fun x => .bl (b x))) = some (.bl (xs.all b)) := by
  simp [opAll, asBls_map]
theorem opAny_map {α : Type} (h : Hs) (b : α → Bool) (xs : List α) : opAny h (.lst (xs.map fun x => .bl (b x))) = some (.bl (xs.any b)) := by
  simp [opAny, asBls_map]
theorem asInts_map {α : Type} (b : α → Int) : ∀ xs : List α, asInts (xs.map fun x => .int (b x)) = some (xs.map b)
  | [] => rfl
  | x :: xs => by simp [asInts, asInts_map b xs]
theorem opSum_map {α : Type} (h : Hs) (b : α → Int) (xs : List α) : opSum h (.lst (xs.map fun x => .int (b x))) = some (.int (xs.map b).sum) := by
  simp [opSum, asInts_map]
theorem opIn_ints (h : Hs) (i : Int) (xs : List Int) : opIn h (.int i) (.lst (xs.map .int)) = some (.bl (decide (i ∈ xs))) := by
  have : (xs.map D.int).all flat = true := by simp [flat]
  simp only [opIn, inB, flat, this, Bool.and_self, Bool.true_or, if_true, Option.map_some, Option.some.injEq, D.bl.injEq]
  rw [Bool.eq_iff_iff]
  simp [eqv_ii]
/-- the first of a list -/
theorem opIx_l0 (h : Hs) (x : D) (xs : List D) : opIx h (.lst (x :: xs)) (.int 0) = some x := by
  simp [opIx, atD, ixN]
theorem opIx_t0 (h : Hs) (x : D) (xs : List D) : opIx h (.tup (x :: xs)) (.int 0) = some x := by
  simp [opIx, atD, ixN]
/-- the last of a list -/
theorem opIx_lz (h : Hs) (x : D) (xs : List D) : opIx h (.lst (xs ++ [x])) (.int (-1)) = some x := by
  have e : (-1 + ((xs.length : Int) + 1)).toNat = xs.length := by omega
  have e2 : (1 : Int) ≤ (xs.length : Int) + 1 := by omega
  simp [opIx, atD, ixN, e, e2]
theorem opIx_tz (h : Hs) (x : D) (xs : List D) : opIx h (.tup (xs ++ [x])) (.int (-1)) = some x := by
  have e : (-1 + ((xs.length : Int) + 1)).toNat = xs.length := by omega
  have e2 : (1 : Int) ≤ (xs.length : Int) + 1 := by omega
  simp [opIx, atD, ixN, e, e2]
theorem opSl_tail (x : D) (xs : List D) : opSl (.tup (x :: xs)) (some 1) none = some (.tup xs) := by
  simp [opSl, cut, sIx]
theorem opSl_tail0 : opSl (.tup []) (some 1) none = some (.tup []) := by
  simp [opSl, cut, sIx]
theorem opSl_init (x : D) (xs : List D) : opSl (.tup (xs ++ [x])) none (some (-1)) = some (.tup xs) := by
  have e : (-1 + ((xs.length : Int) + 1)).toNat = xs.length := by omega
  simp [opSl, cut, sIx, e]
theorem opSl_initl (x : D) (xs : List D) : opSl (.lst (xs ++ [x])) none (some (-1)) = some (.lst xs) := by
  have e : (-1 + ((xs.length : Int) + 1)).toNat = xs.length := by omega
  simp [opSl, cut, sIx, e]
/-- a comprehension over data -/
theorem lc_all {g : TM} {t : EM Bool} {a : EM D} {e : En} {h : Hs} {p : D → Bool} {q : D → D} (xs : List D) (acc : List D)
    (H : ∀ x ∈ xs, ∃ e1, g x e = some e1 ∧ t e1 h = .ok (p x) h ∧ (p x = true → a e1 h = .ok (q x) h)) (L : acc.length + xs.length ≤ LINE) :
    lcLoop g t a e xs acc h = .ok (acc ++ (xs.filter p).map q) h := by
  have := lc_map (enc := id) (p := p) (q := q) xs acc H L
  rwa [List.map_id] at this
theorem lc_mapT {α : Type} {g : TM} {t : EM Bool} {a : EM D} {e : En} {h : Hs} {enc : α → D} {q : α → D} (xs : List α) (acc : List D)
    (H : ∀ x ∈ xs, ∃ e1, g (enc x) e = some e1 ∧ t e1 h = .ok true h ∧ a e1 h = .ok (q x) h) (L : acc.length + xs.length ≤ LINE) :
    lcLoop g t a e (xs.map enc) acc h = .ok (acc ++ xs.map q) h := by
  rw [lc_map (p := fun _ => true) (q := q) xs acc (fun x m => by obtain ⟨e1, h1, h2, h3⟩ := H x m; exact ⟨e1, h1, h2, fun _ => h3⟩) L]
  rw [List.filter_eq_self.2 (fun _ _ => rfl)]
theorem lc_allT {g : TM} {t : EM Bool} {a : EM D} {e : En} {h : Hs} {q : D → D} (xs : List D) (acc : List D)
    (H : ∀ x ∈ xs, ∃ e1, g x e = some e1 ∧ t e1 h = .ok true h ∧ a e1 h = .ok (q x) h) (L : acc.length + xs.length ≤ LINE) :
    lcLoop g t a e xs acc h = .ok (acc ++ xs.map q) h := by
  have := lc_mapT (enc := id) (q := q) xs acc H L
  rwa [List.map_id] at this
/-- a walk, by what of it has been walked -/
theorem for_pre {α : Type} {g : TM} {b : SM} {h : Hs} {enc : α → D} (R : List α → En → Prop) (xs : List α) (e : En)
    (H : ∀ pre x e, (pre ++ [x]) <+: xs → R pre e → ∃ e1 e2, g (enc x) e = some e1 ∧ (b e1 h = .nx e2 h ∨ b e1 h = .ct e2 h) ∧ R (pre ++ [x]) e2) (r : R [] e) :
    ∃ e', forLoop g b (xs.map enc) e h = .nx e' h ∧ R xs e' := by
  suffices K : ∀ (post pre : List α) (e : En), pre ++ post = xs → R pre e → ∃ e', forLoop g b (post.map enc) e h = .nx e' h ∧ R xs e' from K xs [] e rfl r
  intro post
  induction post with
  | nil => intro pre e h1 h2; simp at h1; subst h1; exact ⟨e, rfl, h2⟩
  | cons x post ih =>
    intro pre e h1 h2
    obtain ⟨e1, e2, q1, q2, r2⟩ := H pre x e ⟨post, by simp [h1]⟩ h2
    obtain ⟨e', z1, z2⟩ := ih (pre ++ [x]) e2 (by simp [h1]) r2
    refine ⟨e', ?_, z2⟩
    rw [List.map_cons]
    unfold forLoop
    simp only [q1]
    rcases q2 with q2 | q2 <;> rw [q2] <;> simp [z1]
theorem pre_lt {α : Type} {pre : List α} {x : α} {xs : List α} (h : (pre ++ [x]) <+: xs) : pre.length < xs.length := by
  have := h.length_le; simp at this; omega
theorem pre_mem {α : Type} {pre : List α} {x : α} {xs : List α} (h : (pre ++ [x]) <+: xs) : x ∈ xs := h.subset (by simp)
theorem pre_sub {α : Type} {pre : List α} {x : α} {xs : List α} (h : (pre ++ [x]) <+: xs) : ∀ y ∈ pre, y ∈ xs := fun y m => h.subset (by simp [m])
theorem snoc_ind {α : Type} {P : List α → Prop} (h0 : P []) (h1 : ∀ xs x, P xs → P (xs ++ [x])) (l : List α) : P l := by
  rw [← List.reverse_reverse l]
  induction l.reverse with
  | nil => exact h0
  | cons x xs ih => rw [List.reverse_cons]; exact h1 _ _ ih
theorem flat_len {α β : Type} {f : α → List β} {n : Nat} : ∀ (xs : List α), (∀ x ∈ xs, (f x).length ≤ n) → (xs.flatMap f).length ≤ n * xs.length
  | [], _ => by simp
  | x :: xs, h => by
    have := flat_len xs (fun y m => h y (by simp [m]))
    have := h x (by simp)
    rw [List.flatMap_cons, List.length_append, List.length_cons, Nat.mul_succ]
    omega
/-- a statement, then the rest -/
theorem seq_by {a b : SM} {e e1 : En} {h h1 : Hs} (ha : a e h = .nx e1 h1) : sSeq a b e h = b e1 h1 := by
  unfold sSeq; rw [ha]; rfl
theorem for_by {it : EM (List D)} {g : TM} {b : SM} {e : En} {h h1 : Hs} {ds : List D} (hi : it e h = .ok ds h1) : sFor it g b e h = forLoop g b ds e h1 := by
  unfold sFor; rw [hi]; rfl
end DS

set_option Elab.async false
set_option linter.all false
set_option maxRecDepth 100000
set_option maxHeartbeats 4000000
/-! the defs of law_k03_stands_of_any_kind as plain terms (printed by gen.py) -/
namespace KK
open DS
open PySem (Str)
def c_UP : D := (.str "up")
def c_DOWN : D := (.str "down")
def c_WAYS : D := (.tup [(.str "behind"), (.str "clock")])
def c_STEPS : D := (.tup [(.tup [(.str "back"), (.int (-1))]), (.tup [(.str "on"), (.int 1)]), (.tup [(.str "stay"), (.int 0)])])
def m__law_ground : SM :=
  (sRet (mListRng2 (mOp2 opAdd (mOp2 opSub (mOp2 opIx (mVar 0) (mVal (.int 0))) (mOpN (op2N opMax) [(mOp2 opIx (mVar 0) (mVal (.int 1))), (mVal (.int 1))])) (mVal (.int 1))) (mOp2 opAdd (mOp2 opIx (mVar 0) (mVal (.int 0))) (mVal (.int 1)))))
def f__law_ground : DF := defn 1 m__law_ground
def m__law_pick : SM :=
  (sSeq (sIf (tVal (mOp2 opGt (mOp2 opIx (mVar 0) (mVal (.int 0))) (mVal (.int 0))))
  (sSeq (sAsg (gName 2) (mOp2 opMod (mOpN (op1N opInt) [(mOp2 opIx (mVar 0) (mVal (.int 0)))]) (mVar 1)))
  (sSeq (sPut (mVar 0) (mVal (.int 0)) (mOp2 opFdiv (mOp2 opIx (mVar 0) (mVal (.int 0))) (mVar 1)))
  (sRet (mVar 2))))
  sNext)
  (sSeq (sPut (mVar 0) (mVal (.int 1)) (mOp2 opMod (mOpN (op1N opInt) [(mOp2 opAdd (mOp2 opMul (mOp2 opIx (mVar 0) (mVal (.int 1))) (mVal (.int 393555900739))) (mVal (.int 8191)))]) (mVal (.int 999999999989))))
  (sRet (mOp2 opMod (mOpN (op1N opInt) [(mOp2 opFdiv (mOp2 opIx (mVar 0) (mVal (.int 1))) (mVal (.int 4093)))]) (mVar 1)))))
def f__law_pick : DF := defn 3 m__law_pick
def fuel_law_any_stand_1 : En → Hs → Nat := fun _ _ => 10
def m__law_any_stand : SM :=
  (sSeq (sAsg (gTup [(gName 2), (gTup [(gName 3), (gName 4), (gName 5)]), (gTup [(gName 6), (gName 7), (gName 8), (gName 9)])]) (mVar 1))
  (sSeq (sAsg (gTup [gName 10, gName 11, gName 12]) (mTup [(mOp2 opAdd (mIf (tVal (mVar 9)) (mLst [(mVal (.int 0))]) (mLst [])) (mListRng2 (mVar 6) (mOp2 opAdd (mVar 7) (mVal (.int 1))))), (mNew []), (mVal (.int 5))]))
  (sSeq (sWhile fuel_law_any_stand_1 (tVal (mOp2 opGt (mVar 12) (mVal (.int 0))))
  (sSeq (sAsg (gName 13) (mOp2 opIx (mVar 10) (mCall f__law_pick [(mVar 0), (mOpN (op1N opLen) [(mVar 10)])])))
  (sSeq (sAsg (gName 12) (mOp2 opSub (mOp2 opSub (mVar 12) (mVal (.int 1))) (mCall f__law_pick [(mVar 0), (mVal (.int 3))])))
  (sIf (tVal (mOp2 opGe (mVar 12) (mVal (.int 0))))
  (sSeq (sAsg (gName 14) (mTup [(mVar 12), (mVar 13), (mOp2 opEq (mCall f__law_pick [(mVar 0), (mVal (.int 2))]) (mVal (.int 0)))]))
  (sIf (tVal (mOp2 opLe (mOp2 opIx (mCall f__law_ground [(mVar 14)]) (mVal (.int 0))) (mVal (.int 2))))
  (sSeq (sAppendR (mVar 11) (mVar 14))
  (sAsg (gName 12) (mOp2 opIx (mCall f__law_ground [(mVar 14)]) (mVal (.int 0)))))
  sNext))
  sNext))))
  (sSeq (sIf (tVal (mOp2 opEq (mCall f__law_pick [(mVar 0), (mVal (.int 2))]) (mVal (.int 0))))
  (sRet (mTup [(mOpN (op1N opTupleR) [(mVar 11)]), (mCall f__law_pick [(mVar 0), (mOp2 opAdd (mVar 2) (mVal (.int 1)))]), (mVal (.str "down")), (mVal (.int 0)), (mVal (.bl false))]))
  sNext)
  (sSeq (sAsg (gName 15) (mAnd (mOp2 opEq (mVar 3) (mVal (.str "behind"))) (mOp2 opEq (mCall f__law_pick [(mVar 0), (mVal (.int 2))]) (mVal (.int 0)))))
  (sSeq (sAsg (gName 16) (mOp2 opIx (mLst [(mVar 2), (mCall f__law_pick [(mVar 0), (mOp2 opAdd (mVar 2) (mVal (.int 1)))])]) (mCall f__law_pick [(mVar 0), (mVal (.int 2))])))
  (sRet (mTup [(mOpN (op1N opTupleR) [(mVar 11)]), (mVar 16), (mVal (.str "up")), (mCall f__law_pick [(mVar 0), (mOp2 opAdd (mVar 4) (mVal (.int 1)))]), (mVar 15)]))))))))
def f__law_any_stand : DF := defn 17 m__law_any_stand
def m__law_all_moves : SM :=
  (sSeq (sAsg (gName 1) (mLst [(mTup [])]))
  (sSeq (sFor (iRng1 (mVar 0)) (gName 2)
  (sSeq (sAsg (gName 3) (mLst []))
  (sSeq (sFor (iSeq (mVar 1)) (gName 4)
  (sAsg (gName 3) (mOp2 opAdd (mVar 3) (mLc [5] (iSeq (mLst [(mVal (.str "back")), (mVal (.str "on")), (mVal (.str "stay"))])) (gName 5) tYes (mOp2 opAdd (mVar 4) (mTup [(mVar 5)]))))))
  (sAsg (gName 1) (mVar 3)))))
  (sRet (mVar 1))))
def f__law_all_moves : DF := defn 6 m__law_all_moves
def m__law_left : SM :=
  (sRet (mLc [1] (iSeq (mVar 0)) (gName 1) (tAnd (tVal (mOp2 opGe (mOp2 opIx (mVar 1) (mVal (.int 0))) (mVal (.int 0)))) (tVal (mOp2 opLe (mOp2 opIx (mCall f__law_ground [(mVar 1)]) (mVal (.int 0))) (mVal (.int 2))))) (mVar 1)))
def f__law_left : DF := defn 2 m__law_left
def m__law_moved : SM :=
  (sSeq (sOwn 3 [])
  (sSeq (sFor (iZip (mOp2 opIx (mVar 1) (mVal (.int 0))) (mVar 2)) (gTup [(gName 4), (gName 5)])
  (sSeq (sAsg (gName 6) (mOp2 opAdd (mOp2 opIx (mVar 4) (mVal (.int 0))) (mGet2 (mDicC ["on", "back"] [1, -1]) (mVar 5) (mVal (.int 0)))))
  (sSeq (sAsg (gName 7) (mTup [(mVar 6), (mOp2 opIx (mVar 4) (mVal (.int 1))), (mOp2 opIx (mVar 4) (mVal (.int 2)))]))
  (sSeq (sIf (tAnd (tVal (mOp2 opEq (mVar 5) (mVal (.str "back")))) (tNot (tVal (mOp2 opIx (mOp2 opIx (mVar 0) (mVal (.int 2))) (mVal (.int 2))))))
  (sRet (mVal .non))
  sNext)
  (sSeq (sIf (tAnd (tVal (mOp2 opIn (mVal (.int 1)) (mCall f__law_ground [(mVar 7)]))) (tAnd (tVal (mOp2 opNotIn (mVal (.int 1)) (mCall f__law_ground [(mVar 4)]))) (tVal (mOp2 opLt (mOp2 opIx (mVar 1) (mVal (.int 1))) (mOp2 opIx (mVar 0) (mVal (.int 0)))))))
  (sRet (mVal .non))
  sNext)
  (sSeq (sIf (tAnd (tVal (mOp2 opNe (mPeek 3) (mLst []))) (tVal (mOp2 opLe (mOp2 opIx (mCall f__law_ground [(mOp2 opIx (mPeek 3) (mOp1 opNeg (mVal (.int 1))))]) (mVal (.int 0))) (mVar 6))))
  (sRet (mVal .non))
  sNext)
  (sAppend 3 (mVar 7))))))))
  (sSeq (sFreeze 3) (sRet (mVar 3)))))
def f__law_moved : DF := defn 8 m__law_moved
def m__law_choices : SM :=
  (sSeq (sAsg (gTup [(gName 2), (gName 3), (gName 4), (gName 5)]) (mOp2 opIx (mVar 0) (mVal (.int 2))))
  (sSeq (sAsg (gName 6) (mOp2 opAdd (mIf (tVal (mVar 5)) (mLst [(mVal (.int 0))]) (mLst [])) (mListRng2 (mVar 2) (mOp2 opAdd (mVar 3) (mVal (.int 1))))))
  (sSeq (sOwn 7 [])
  (sSeq (sFor (iSeq (mCall f__law_all_moves [(mOpN (op1N opLen) [(mOp2 opIx (mVar 1) (mVal (.int 0)))])])) (gName 8)
  (sSeq (sAsg (gName 9) (mCall f__law_moved [(mVar 0), (mVar 1), (mVar 8)]))
  (sIf (tVal (mOp2 opNotN (mVar 9) (mVal .non)))
  (sSeq (sAsg (gName 10) (mCall f__law_left [(mVar 9)]))
  (sSeq (sAppend 7 (mTup [(mVar 8), (mOp1 opNeg (mVal (.int 1))), (mVal (.bl false))]))
  (sSeq (sIf (tAnd (tVal (mOp2 opNe (mVar 10) (mLst []))) (tAnd (tVal (mOp2 opEq (mOp2 opIx (mOp2 opIx (mVar 10) (mOp1 opNeg (mVal (.int 1)))) (mVal (.int 0))) (mVal (.int 0)))) (tNot (tVal (mOp2 opIx (mOp2 opIx (mVar 10) (mOp1 opNeg (mVal (.int 1)))) (mVal (.int 2)))))))
  (sAppend 7 (mTup [(mVar 8), (mOp1 opNeg (mVal (.int 1))), (mVal (.bl true))]))
  sNext)
  (sIf (tVal (mOp2 opEq (mLc [12] (iSeq (mVar 10)) (gName 12) (tVal (mOp2 opIn (mVal (.int 0)) (mCall f__law_ground [(mVar 12)]))) (mVar 12)) (mLst [])))
  (sFor (iSeq (mVar 6)) (gName 11)
  (sOwnAdd 7 (mLst [(mTup [(mVar 8), (mVar 11), (mVal (.bl false))]), (mTup [(mVar 8), (mVar 11), (mVal (.bl true))])])))
  sNext))))
  sNext)))
  (sSeq (sFreeze 7) (sRet (mVar 7)))))))
def f__law_choices : DF := defn 13 m__law_choices
def m__law_program : SM :=
  (sSeq (sAsg (gName 1) (mOp2 opIx (mLst [(mVal (.str "behind")), (mVal (.str "behind")), (mVal (.str "clock"))]) (mCall f__law_pick [(mVar 0), (mVal (.int 3))])))
  (sRet (mTup [(mVar 1), (mOp2 opIx (mLst [(mVal (.int 0)), (mVal (.int 0)), (mVal (.int 1)), (mVal (.int 2)), (mVal (.int 3))]) (mCall f__law_pick [(mVar 0), (mVal (.int 5))])), (mOp2 opEq (mCall f__law_pick [(mVar 0), (mVal (.int 2))]) (mVal (.int 0)))])))
def f__law_program : DF := defn 2 m__law_program
def m__law_plan : SM :=
  (sSeq (sAsg (gName 1) (mOp2 opIx (mLst [(mVal (.int 1)), (mVal (.int 1)), (mVal (.int 2)), (mVal (.int 3))]) (mCall f__law_pick [(mVar 0), (mVal (.int 4))])))
  (sSeq (sAsg (gName 2) (mOpN (op2N opMin) [(mVal (.int 3)), (mOp2 opAdd (mVar 1) (mOp2 opIx (mLst [(mVal (.int 0)), (mVal (.int 0)), (mVal (.int 1)), (mVal (.int 2))]) (mCall f__law_pick [(mVar 0), (mVal (.int 4))])))]))
  (sSeq (sAsg (gName 3) (mTup [(mVar 1), (mVar 2), (mOp2 opEq (mCall f__law_pick [(mVar 0), (mVal (.int 3))]) (mVal (.int 0))), (mOp2 opEq (mCall f__law_pick [(mVar 0), (mVal (.int 3))]) (mVal (.int 0)))]))
  (sRet (mTup [(mOp2 opIx (mLst [(mVal (.int 1)), (mVal (.int 1)), (mVal (.int 2)), (mVal (.int 3))]) (mCall f__law_pick [(mVar 0), (mVal (.int 4))])), (mCall f__law_program [(mVar 0)]), (mVar 3)])))))
def f__law_plan : DF := defn 4 m__law_plan
def m__law_spring : SM :=
  (sSeq (sAsg (gName 2) (mVal (.int 7)))
  (sSeq (sIf (tVal (mOp2 opLt (mVar 1) (mOpN (op1N opLen) [(mVar 0)])))
  (sAsg (gName 2) (mOpN (op1N opAbs) [(mOp2 opIx (mVar 0) (mVar 1))]))
  sNext)
  (sSeq (sAsg (gName 3) (mOp2 opMod (mOpN (op1N opInt) [(mOp2 opAdd (mOp2 opAdd (mOp2 opMul (mVar 2) (mVal (.int 863))) (mOp2 opMul (mVal (.int 524287)) (mVar 1))) (mVal (.int 1)))]) (mVal (.int 999999999989))))
  (sRet (mNew [(mIf (tVal (mOp2 opGe (mVar 2) (mOp2 opPow (mVal (.int 10)) (mVal (.int 18))))) (mVar 2) (mVal (.int 0))), (mVar 3)])))))
def f__law_spring : DF := defn 4 m__law_spring
def m__law_feels : SM :=
  (sRet (mOp2 opNe (mLc [2] (iSeq (mVar 0)) (gName 2) (tAnd (tVal (mOp2 opNe (mOp2 opIx (mVar 2) (mVal (.int 1))) (mVal (.int 0)))) (tVal (mOp2 opIn (mVar 1) (mCall f__law_ground [(mVar 2)])))) (mVar 2)) (mLst [])))
def f__law_feels : DF := defn 3 m__law_feels
def m__law_ordered : SM :=
  (sSeq (sAsg (gTup [(gName 4), (gName 5), (gName 6)]) (mOp2 opIx (mVar 0) (mVal (.int 1))))
  (sSeq (sAsg (gTup [(gName 7), (gName 8), (gName 9), (gName 10), (gName 11)]) (mVar 1))
  (sSeq (sIf (tVal (mVar 3))
  (sRet (mTup [(mVal (.str "up")), (mVar 5), (mVal (.bl false))]))
  sNext)
  (sSeq (sIf (tAnd (tVal (mOp2 opEq (mVar 9) (mVal (.str "up")))) (tVal (mOp2 opLt (mVar 8) (mOp2 opIx (mVar 0) (mVal (.int 0))))))
  (sRet (mTup [(mVar 9), (mVar 10), (mVar 11)]))
  sNext)
  (sSeq (sIf (tVal (mOp2 opEq (mVar 9) (mVal (.str "up"))))
  (sSeq (sAsg (gName 12) (mCall f__law_feels [(mVar 2), (mVal (.int 2))]))
  (sSeq (sIf (tVal (mOp2 opEq (mVar 4) (mVal (.str "behind"))))
  (sAsg (gName 11) (mOr (mVar 11) (mVar 12)))
  sNext)
  (sSeq (sIf (tAnd (tVal (mOp2 opEq (mVar 4) (mVal (.str "behind")))) (tOr (tVal (mVar 12)) (tNot (tVal (mVar 11)))))
  (sRet (mTup [(mVar 9), (mVar 10), (mVar 11)]))
  sNext)
  (sIf (tVal (mOp2 opGt (mVar 10) (mVal (.int 0))))
  (sRet (mTup [(mVar 9), (mOp2 opSub (mVar 10) (mVal (.int 1))), (mVar 11)]))
  sNext))))
  sNext)
  (sSeq (sIf (tAnd (tVal (mVar 6)) (tAnd (tVal (mOp2 opGt (mVar 8) (mVal (.int 0)))) (tVal (mCall f__law_feels [(mVar 2), (mVal (.int 1))]))))
  (sRet (mTup [(mVal (.str "up")), (mVar 5), (mVal (.bl false))]))
  sNext)
  (sRet (mTup [(mVal (.str "down")), (mVal (.int 0)), (mVal (.bl false))]))))))))
def f__law_ordered : DF := defn 13 m__law_ordered
def m__law_tick : SM :=
  (sSeq (sAsg (gName 3) (mCall f__law_moved [(mVar 0), (mVar 1), (mOp2 opIx (mVar 2) (mVal (.int 0)))]))
  (sSeq (sAsg (gName 4) (mCall f__law_left [(mVar 3)]))
  (sSeq (sAsg (gName 5) (mOp2 opMul (mLst [(mVal (.str "counts"))]) (mOpN (op1N opInt) [(mAnd (mCall f__law_feels [(mOp2 opIx (mVar 1) (mVal (.int 0))), (mVal (.int 2))]) (mNot (mCall f__law_feels [(mVar 4), (mVal (.int 2))])))])))
  (sSeq (sIf (tVal (mOp2 opGt (mOp2 opIx (mVar 2) (mVal (.int 1))) (mOp1 opNeg (mVal (.int 1)))))
  (sAsg (gName 4) (mOp2 opAdd (mVar 4) (mLst [(mTup [(mVal (.int 0)), (mOp2 opIx (mVar 2) (mVal (.int 1))), (mVal (.bl false))])])))
  sNext)
  (sSeq (sIf (tVal (mOp2 opIx (mVar 2) (mVal (.int 2))))
  (sAsg (gName 4) (mOp2 opAdd (mSl (mVar 4) mNoPart (mPart (mOp1 opNeg (mVal (.int 1))))) (mLst [(mTup [(mOp2 opIx (mOp2 opIx (mVar 4) (mOp1 opNeg (mVal (.int 1)))) (mVal (.int 0))), (mOp2 opIx (mOp2 opIx (mVar 4) (mOp1 opNeg (mVal (.int 1)))) (mVal (.int 1))), (mVal (.bl true))])])))
  sNext)
  (sSeq (sAsg (gTup [(gName 6), (gName 7), (gName 8)]) (mCall f__law_ordered [(mVar 0), (mVar 1), (mVar 4), (mOp2 opIx (mVar 2) (mVal (.int 2)))]))
  (sSeq (sAsg (gName 9) (mIf (tVal (mOp2 opEq (mVar 6) (mVal (.str "up")))) (mOp2 opAdd (mOp2 opIx (mVar 1) (mVal (.int 1))) (mVal (.int 1))) (mOp2 opSub (mOp2 opIx (mVar 1) (mVal (.int 1))) (mVal (.int 1)))))
  (sSeq (sAsg (gName 9) (mOpN (op2N opMax) [(mVal (.int 0)), (mOpN (op2N opMin) [(mOp2 opIx (mVar 0) (mVal (.int 0))), (mVar 9)])]))
  (sSeq (sIf (tAnd (tVal (mOp2 opEq (mOp2 opIx (mVar 1) (mVal (.int 1))) (mVal (.int 1)))) (tAnd (tVal (mOp2 opEq (mVar 9) (mVal (.int 0)))) (tVal (mOp2 opNe (mLc [10] (iSeq (mVar 4)) (gName 10) (tVal (mOp2 opIn (mVal (.int 1)) (mCall f__law_ground [(mVar 10)]))) (mVar 10)) (mLst [])))))
  (sAsg (gName 5) (mOp2 opAdd (mVar 5) (mLst [(mVal (.str "hits"))])))
  sNext)
  (sSeq (sFor (iSeq (mVar 3)) (gName 10)
  (sIf (tVal (mOp2 opGt (mOp2 opIx (mCall f__law_ground [(mVar 10)]) (mVal (.int 0))) (mVal (.int 2))))
  (sAsg (gName 5) (mOp2 opAdd (mOp2 opAdd (mVar 5) (mLst [(mVal (.str "passes"))])) (mOp2 opMul (mLst [(mVal (.str "unpaid"))]) (mOpN (op1N opInt) [(mNot (mOp2 opIx (mVar 10) (mVal (.int 2))))]))))
  sNext))
  (sRet (mTup [(mTup [(mOpN (op1N opTuple) [(mVar 4)]), (mVar 9), (mVar 6), (mVar 7), (mVar 8)]), (mVar 5)]))))))))))))
def f__law_tick : DF := defn 11 m__law_tick
def m__law_kind : SM :=
  (sSeq (sIf (tOr (tVal (mOp2 opIsN (mVar 0) (mVal .non))) (tVal (mOp1 (opIs .tBool) (mVar 0))))
  (sRet (mIf (tVal (mOp2 opIsN (mVar 0) (mVal .non))) (mVal (.int 0)) (mVal (.int 1))))
  sNext)
  (sSeq (sIf (tVal (mOp1 (opIs2 .tList .tTuple) (mVar 0)))
  (sRet (mIf (tVal (mOp1 (opIs .tList) (mVar 0))) (mVal (.int 2)) (mVal (.int 3))))
  sNext)
  (sRet (mIf (tVal (mOp1 (opIs .tInt) (mVar 0))) (mVal (.int 4)) (mIf (tVal (mOp1 (opIs .tStr) (mVar 0))) (mVal (.int 5)) (mVal (.int 6)))))))
def f__law_kind : DF := defn 1 m__law_kind
def m__law_twins (rec : DF) : SM :=
  (sSeq (sIf (tVal (mOp2 opNe (mCall f__law_kind [(mVar 0)]) (mCall f__law_kind [(mVar 1)])))
  (sRet (mVal (.bl false)))
  sNext)
  (sSeq (sIf (tVal (mOp2 opIn (mCall f__law_kind [(mVar 0)]) (mLst [(mVal (.int 2)), (mVal (.int 3))])))
  (sRet (mAnd (mOp2 opEq (mOpN (op1N opLen) [(mVar 0)]) (mOpN (op1N opLen) [(mVar 1)])) (mOp2 opEq (mLc [2, 3] (iZip (mVar 0) (mVar 1)) (gTup [(gName 2), (gName 3)]) (tNot (tVal (mCall rec [(mVar 2), (mVar 3)]))) (mVal (.int 1))) (mLst []))))
  sNext)
  (sRet (mOp2 opEq (mVar 0) (mVar 1)))))
def f__law_twins : Nat → DF
  | 0 => defn 4 sStuck
  | n + 1 => defn 4 (m__law_twins (f__law_twins n))
def fu__law_twins : Nat := 12
def m_tail_of : SM :=
  (sRet (mOp2 opSub (mOp2 opAdd (mOp2 opIx (mVar 0) (mVal (.int 0))) (mVal (.int 1))) (mOpN (op2N opMax) [(mVal (.int 1)), (mOp2 opIx (mVar 0) (mVal (.int 1)))])))
def f_tail_of : DF := defn 1 m_tail_of
def m_in_lane : SM :=
  (sRet (mOpN (op1N opTuple) [(mLc [1] (iSeq (mVar 0)) (gName 1) (tAnd (tVal (mOp2 opGe (mOp2 opIx (mVar 1) (mVal (.int 0))) (mVal (.int 0)))) (tVal (mOp2 opLe (mCall f_tail_of [(mVar 1)]) (mVal (.int 2))))) (mVar 1))]))
def f_in_lane : DF := defn 2 m_in_lane
def m_is_on : SM :=
  (sRet (mChain opLe opLe (mCall f_tail_of [(mVar 0)]) (mVar 1) (mOp2 opIx (mVar 0) (mVal (.int 0)))))
def f_is_on : DF := defn 2 m_is_on
def m_lengths_of : SM :=
  (sSeq (sAsg (gTup [(gName 1), (gName 2), (gName 3), (gName 4)]) (mOp2 opIx (mVar 0) (mVal (.int 2))))
  (sRet (mOp2 opAdd (mOp2 opMul (mLst [(mVal (.int 0))]) (mOpN (op1N opInt) [(mVar 4)])) (mListRng2 (mVar 1) (mOp2 opAdd (mVar 2) (mVal (.int 1)))))))
def f_lengths_of : DF := defn 5 m_lengths_of
def m_moved : SM :=
  (sRet (mOp2 opAdd (mTup [(mOp2 opAdd (mOp2 opIx (mVar 0) (mVal (.int 0))) (mOp2 opDicIx (mDicC ["back", "on", "stay"] [-1, 1, 0]) (mVar 1)))]) (mSl (mVar 0) (mPart (mVal (.int 1))) mNoPart)))
def f_moved : DF := defn 2 m_moved
def m_rows_of : SM :=
  (sSeq (sAsg (gTup [(gName 2), (gName 3), (gName 4), (gName 5), (gName 6)]) (mVar 1))
  (sSeq (sAsg (gName 7) (mLst [(mTup [(mTup []), (mTup [])])]))
  (sSeq (sFor (iSeq (mVar 2)) (gName 8)
  (sSeq (sOwn 9 [])
  (sSeq (sFor (iSeq (mVar 7)) (gTup [(gName 10), (gName 11)])
  (sFor (iSeq (mVal c_STEPS)) (gTup [(gName 12), (gName 13)])
  (sSeq (sAsg (gName 14) (mCall f_moved [(mVar 8), (mVar 12)]))
  (sSeq (sAsg (gName 15) (mAnd (mCall f_is_on [(mVar 14), (mVal (.int 1))]) (mNot (mCall f_is_on [(mVar 8), (mVal (.int 1))]))))
  (sSeq (sAsg (gName 16) (mAnd (mOr (mOp2 opNe (mVar 12) (mVal (.str "back"))) (mOp2 opIx (mOp2 opIx (mVar 0) (mVal (.int 2))) (mVal (.int 2)))) (mOr (mNot (mVar 15)) (mOp2 opEq (mVar 3) (mOp2 opIx (mVar 0) (mVal (.int 0)))))))
  (sIf (tAnd (tVal (mVar 16)) (tOr (tVal (mOp2 opEq (mVar 11) (mTup []))) (tVal (mOp2 opGt (mCall f_tail_of [(mOp2 opIx (mVar 11) (mOp1 opNeg (mVal (.int 1))))]) (mOp2 opIx (mVar 14) (mVal (.int 0)))))))
  (sAppend 9 (mTup [(mOp2 opAdd (mVar 10) (mTup [(mVar 12)])), (mOp2 opAdd (mVar 11) (mTup [(mVar 14)]))]))
  sNext))))))
  (sSeq (sFreeze 9) (sAsg (gName 7) (mVar 9))))))
  (sRet (mVar 7)))))
def f_rows_of : DF := defn 17 m_rows_of
def m_choices_of : SM :=
  (sSeq (sAsg (gName 2) (mLst []))
  (sSeq (sFor (iSeq (mCall f_rows_of [(mVar 0), (mVar 1)])) (gTup [(gName 3), (gName 4)])
  (sSeq (sAsg (gName 5) (mCall f_in_lane [(mVar 4)]))
  (sSeq (sAsg (gName 6) (mNot (mOpN (op1N opAny) [(mLc [9] (iSeq (mVar 5)) (gName 9) tYes (mCall f_is_on [(mVar 9), (mVal (.int 0))]))])))
  (sSeq (sAsg (gName 7) (mAnd (mOp2 opNe (mVar 5) (mTup [])) (mAnd (mOp2 opEq (mOp2 opIx (mOp2 opIx (mVar 5) (mOp1 opNeg (mVal (.int 1)))) (mVal (.int 0))) (mVal (.int 0))) (mNot (mOp2 opIx (mOp2 opIx (mVar 5) (mOp1 opNeg (mVal (.int 1)))) (mVal (.int 2)))))))
  (sSeq (sAsg (gName 2) (mOp2 opAdd (mOp2 opAdd (mVar 2) (mLst [(mTup [(mVar 3), (mOp1 opNeg (mVal (.int 1))), (mVal (.bl false))])])) (mOp2 opMul (mLst [(mTup [(mVar 3), (mOp1 opNeg (mVal (.int 1))), (mVal (.bl true))])]) (mOpN (op1N opInt) [(mVar 7)]))))
  (sFor (iSeq (mIf (tVal (mVar 6)) (mCall f_lengths_of [(mVar 0)]) (mLst []))) (gName 8)
  (sAsg (gName 2) (mOp2 opAdd (mVar 2) (mLst [(mTup [(mVar 3), (mVar 8), (mVal (.bl false))]), (mTup [(mVar 3), (mVar 8), (mVal (.bl true))])])))))))))
  (sRet (mVar 2))))
def f_choices_of : DF := defn 10 m_choices_of
def m_is_within : SM :=
  (sRet (mAnd (mOp1 (opIs .tInt) (mVar 0)) (mAnd (mNot (mOp1 (opIs .tBool) (mVar 0))) (mChain opLe opLe (mVar 1) (mVar 0) (mVar 2)))))
def f_is_within : DF := defn 3 m_is_within
def m_is_like : SM :=
  (sSeq (sIf (tOr (tNot (tVal (mOp1 (opIs .tTuple) (mVar 0)))) (tOr (tVal (mOp2 opNe (mOpN (op1N opLen) [(mVar 0)]) (mVal (.int 3)))) (tNot (tVal (mOp1 (opIs .tTuple) (mOp2 opIx (mVar 0) (mVal (.int 0))))))))
  (sRet (mVal (.bl false)))
  sNext)
  (sSeq (sIf (tOr (tNot (tVal (mOpN (op1N opAll) [(mLc [2] (iSeq (mOp2 opIx (mVar 0) (mVal (.int 0)))) (gName 2) tYes (mOp1 (opIs .tStr) (mVar 2)))]))) (tNot (tVal (mCall f_is_within [(mOp2 opIx (mVar 0) (mVal (.int 1))), (mOp1 opNeg (mVal (.int 1))), (mVal (.int 3))]))))
  (sRet (mVal (.bl false)))
  sNext)
  (sRet (mAnd (mOp1 (opIs .tBool) (mOp2 opIx (mVar 0) (mVal (.int 2)))) (mOp2 opIn (mVar 0) (mVar 1))))))
def f_is_like : DF := defn 3 m_is_like
def m_is_wide : SM :=
  (sRet (mAnd (mOp1 (opIs .tTuple) (mVar 0)) (mOp2 opEq (mOpN (op1N opLen) [(mVar 0)]) (mVar 1))))
def f_is_wide : DF := defn 2 m_is_wide
def m_is_program : SM :=
  (sSeq (sIf (tOr (tNot (tVal (mCall f_is_wide [(mVar 0), (mVal (.int 3))]))) (tOr (tNot (tVal (mOp1 (opIs .tStr) (mOp2 opIx (mVar 0) (mVal (.int 0)))))) (tVal (mOp2 opNotIn (mOp2 opIx (mVar 0) (mVal (.int 0))) (mVal c_WAYS)))))
  (sRet (mVal (.bl false)))
  sNext)
  (sRet (mAnd (mCall f_is_within [(mOp2 opIx (mVar 0) (mVal (.int 1))), (mVal (.int 0)), (mVal (.int 3))]) (mOp1 (opIs .tBool) (mOp2 opIx (mVar 0) (mVal (.int 2)))))))
def f_is_program : DF := defn 1 m_is_program
def m_is_traffic : SM :=
  (sSeq (sIf (tOr (tNot (tVal (mCall f_is_wide [(mVar 0), (mVal (.int 4))]))) (tOr (tNot (tVal (mCall f_is_within [(mOp2 opIx (mVar 0) (mVal (.int 0))), (mVal (.int 1)), (mVal (.int 3))]))) (tNot (tVal (mCall f_is_within [(mOp2 opIx (mVar 0) (mVal (.int 1))), (mOp2 opIx (mVar 0) (mVal (.int 0))), (mVal (.int 3))])))))
  (sRet (mVal (.bl false)))
  sNext)
  (sRet (mAnd (mOp1 (opIs .tBool) (mOp2 opIx (mVar 0) (mVal (.int 2)))) (mOp1 (opIs .tBool) (mOp2 opIx (mVar 0) (mVal (.int 3)))))))
def f_is_traffic : DF := defn 1 m_is_traffic
def m_is_plan : SM :=
  (sRet (mAnd (mCall f_is_wide [(mVar 0), (mVal (.int 3))]) (mAnd (mCall f_is_within [(mOp2 opIx (mVar 0) (mVal (.int 0))), (mVal (.int 1)), (mVal (.int 3))]) (mAnd (mCall f_is_program [(mOp2 opIx (mVar 0) (mVal (.int 1)))]) (mCall f_is_traffic [(mOp2 opIx (mVar 0) (mVal (.int 2)))])))))
def f_is_plan : DF := defn 1 m_is_plan
def m_look_at_plan : SM :=
  (sIf (tNot (tVal (mCall f_is_plan [(mVar 0)])))
  sStuck
  sNext)
def f_look_at_plan : DF := defn 1 m_look_at_plan
def m_is_one : SM :=
  (sSeq (sIf (tOr (tNot (tVal (mCall f_is_wide [(mVar 1), (mVal (.int 3))]))) (tOr (tNot (tVal (mCall f_is_within [(mOp2 opIx (mVar 1) (mVal (.int 0))), (mVal (.int 0)), (mVal (.int 4))]))) (tNot (tVal (mCall f_is_within [(mOp2 opIx (mVar 1) (mVal (.int 1))), (mVal (.int 0)), (mVal (.int 3))])))))
  (sRet (mVal (.bl false)))
  sNext)
  (sRet (mAnd (mOp2 opIn (mOp2 opIx (mVar 1) (mVal (.int 1))) (mCall f_lengths_of [(mVar 0)])) (mAnd (mOp1 (opIs .tBool) (mOp2 opIx (mVar 1) (mVal (.int 2)))) (mOp2 opLe (mCall f_tail_of [(mVar 1)]) (mVal (.int 2)))))))
def f_is_one : DF := defn 2 m_is_one
def m_is_queue : SM :=
  (sSeq (sIf (tOr (tNot (tVal (mOp1 (opIs .tTuple) (mVar 1)))) (tNot (tVal (mOpN (op1N opAll) [(mLc [2] (iSeq (mVar 1)) (gName 2) tYes (mCall f_is_one [(mVar 0), (mVar 2)]))]))))
  (sRet (mVal (.bl false)))
  sNext)
  (sRet (mOpN (op1N opAll) [(mLc [2, 3] (iZip (mVar 1) (mSl (mVar 1) (mPart (mVal (.int 1))) mNoPart)) (gTup [(gName 2), (gName 3)]) tYes (mOp2 opGt (mCall f_tail_of [(mVar 2)]) (mOp2 opIx (mVar 3) (mVal (.int 0)))))])))
def f_is_queue : DF := defn 4 m_is_queue
def m_fits : SM :=
  (sSeq (sIf (tOr (tNot (tVal (mCall f_is_wide [(mVar 1), (mVal (.int 5))]))) (tOr (tNot (tVal (mCall f_is_queue [(mVar 0), (mOp2 opIx (mVar 1) (mVal (.int 0)))]))) (tNot (tVal (mCall f_is_within [(mOp2 opIx (mVar 1) (mVal (.int 1))), (mVal (.int 0)), (mOp2 opIx (mVar 0) (mVal (.int 0)))])))))
  (sRet (mVal (.bl false)))
  sNext)
  (sSeq (sIf (tOr (tNot (tVal (mOp1 (opIs .tStr) (mOp2 opIx (mVar 1) (mVal (.int 2)))))) (tOr (tVal (mOp2 opNotIn (mOp2 opIx (mVar 1) (mVal (.int 2))) (mTup [(mVal c_UP), (mVal c_DOWN)]))) (tNot (tVal (mOp1 (opIs .tBool) (mOp2 opIx (mVar 1) (mVal (.int 4))))))))
  (sRet (mVal (.bl false)))
  sNext)
  (sSeq (sIf (tNot (tVal (mCall f_is_within [(mOp2 opIx (mVar 1) (mVal (.int 3))), (mVal (.int 0)), (mIf (tVal (mOp2 opEq (mOp2 opIx (mVar 1) (mVal (.int 2))) (mVal c_UP))) (mOp2 opIx (mOp2 opIx (mVar 0) (mVal (.int 1))) (mVal (.int 1))) (mVal (.int 0)))])))
  (sRet (mVal (.bl false)))
  sNext)
  (sRet (mOr (mNot (mOp2 opIx (mVar 1) (mVal (.int 4)))) (mAnd (mOp2 opEq (mOp2 opIx (mVar 1) (mVal (.int 2))) (mVal c_UP)) (mOp2 opEq (mOp2 opIx (mOp2 opIx (mVar 0) (mVal (.int 1))) (mVal (.int 0))) (mVal (.str "behind")))))))))
def f_fits : DF := defn 2 m_fits
def m_look_at_stand : SM :=
  (sIf (tNot (tVal (mCall f_fits [(mVar 0), (mVar 1)])))
  sStuck
  sNext)
def f_look_at_stand : DF := defn 2 m_look_at_stand
def m_look_at_choice : SM :=
  (sSeq (sExpr (mCall f_look_at_plan [(mVar 0)]))
  (sSeq (sExpr (mCall f_look_at_stand [(mVar 0), (mVar 1)]))
  (sIf (tNot (tVal (mCall f_is_like [(mVar 2), (mCall f_choices_of [(mVar 0), (mVar 1)])])))
  sStuck
  sNext)))
def f_look_at_choice : DF := defn 3 m_look_at_choice
def m_is_felt : SM :=
  (sRet (mOpN (op1N opAny) [(mLc [2] (iSeq (mVar 0)) (gName 2) tYes (mAnd (mOp2 opGt (mOp2 opIx (mVar 2) (mVal (.int 1))) (mVal (.int 0))) (mCall f_is_on [(mVar 2), (mVar 1)])))]))
def f_is_felt : DF := defn 3 m_is_felt
def m_led_on : SM :=
  (sRet (mLc [2, 3] (iZip (mOp2 opIx (mVar 0) (mVal (.int 0))) (mVar 1)) (gTup [(gName 2), (gName 3)]) tYes (mCall f_moved [(mVar 2), (mVar 3)])))
def f_led_on : DF := defn 4 m_led_on
def m_programmed : SM :=
  (sSeq (sAsg (gTup [(gName 4), (gName 5), (gName 6)]) (mOp2 opIx (mVar 0) (mVal (.int 1))))
  (sSeq (sAsg (gTup [(gName 7), (gName 8), (gName 9), (gName 10)]) (mSl (mVar 1) (mPart (mVal (.int 1))) mNoPart))
  (sSeq (sIf (tVal (mVar 3))
  (sAsg (gTup [gName 8, gName 9, gName 10]) (mTup [(mVal c_UP), (mVar 5), (mVal (.bl false))]))
  (sIf (tAnd (tVal (mOp2 opEq (mVar 8) (mVal c_UP))) (tVal (mOp2 opEq (mVar 7) (mOp2 opIx (mVar 0) (mVal (.int 0))))))
  (sSeq (sAsg (gName 10) (mOr (mVar 10) (mAnd (mOp2 opEq (mVar 4) (mVal (.str "behind"))) (mCall f_is_felt [(mVar 2), (mVal (.int 2))]))))
  (sIf (tOr (tVal (mOp2 opEq (mVar 4) (mVal (.str "clock")))) (tAnd (tVal (mVar 10)) (tNot (tVal (mCall f_is_felt [(mVar 2), (mVal (.int 2))])))))
  (sAsg (gTup [(gName 8), (gName 9)]) (mIf (tVal (mOp2 opGt (mVar 9) (mVal (.int 0)))) (mTup [(mVal c_UP), (mOp2 opSub (mVar 9) (mVal (.int 1)))]) (mTup [(mVal c_DOWN), (mVal (.int 0))])))
  sNext))
  sNext))
  (sSeq (sIf (tVal (mOp2 opEq (mVar 8) (mVal c_DOWN)))
  (sSeq (sAsg (gName 10) (mVal (.bl false)))
  (sIf (tAnd (tVal (mOp2 opGt (mVar 7) (mVal (.int 0)))) (tAnd (tVal (mVar 6)) (tVal (mCall f_is_felt [(mVar 2), (mVal (.int 1))]))))
  (sAsg (gTup [gName 8, gName 9]) (mTup [(mVal c_UP), (mVar 5)]))
  sNext))
  sNext)
  (sRet (mTup [(mVar 8), (mVar 9), (mVar 10)]))))))
def f_programmed : DF := defn 11 m_programmed
def m_passed : SM :=
  (sSeq (sAsg (gTup [(gName 3), (gName 4), (gName 5)]) (mVar 2))
  (sSeq (sAsg (gName 6) (mCall f_led_on [(mVar 1), (mVar 3)]))
  (sSeq (sAsg (gTup [gName 7, gName 8]) (mTup [(mCall f_in_lane [(mVar 6)]), (mLc [14] (iSeq (mVar 6)) (gName 14) (tVal (mOp2 opGt (mCall f_tail_of [(mVar 14)]) (mVal (.int 2)))) (mVar 14))]))
  (sSeq (sAsg (gName 9) (mOp2 opMul (mLst [(mVal (.str "counts"))]) (mOpN (op1N opInt) [(mAnd (mCall f_is_felt [(mOp2 opIx (mVar 1) (mVal (.int 0))), (mVal (.int 2))]) (mNot (mCall f_is_felt [(mVar 7), (mVal (.int 2))])))])))
  (sSeq (sIf (tVal (mOp2 opGe (mVar 4) (mVal (.int 0))))
  (sAsg (gName 7) (mOp2 opAdd (mVar 7) (mTup [(mTup [(mVal (.int 0)), (mVar 4), (mVal (.bl false))])])))
  sNext)
  (sSeq (sIf (tVal (mVar 5))
  (sAsg (gName 7) (mOp2 opAdd (mSl (mVar 7) mNoPart (mPart (mOp1 opNeg (mVal (.int 1))))) (mTup [(mOp2 opAdd (mSl (mOp2 opIx (mVar 7) (mOp1 opNeg (mVal (.int 1)))) mNoPart (mPart (mVal (.int 2)))) (mTup [(mVal (.bl true))]))])))
  sNext)
  (sSeq (sAsg (gTup [(gName 10), (gName 11), (gName 12)]) (mCall f_programmed [(mVar 0), (mVar 1), (mVar 7), (mVar 5)]))
  (sSeq (sAsg (gName 13) (mIf (tVal (mOp2 opEq (mVar 10) (mVal c_UP))) (mOpN (op2N opMin) [(mOp2 opIx (mVar 0) (mVal (.int 0))), (mOp2 opAdd (mOp2 opIx (mVar 1) (mVal (.int 1))) (mVal (.int 1)))]) (mOpN (op2N opMax) [(mVal (.int 0)), (mOp2 opSub (mOp2 opIx (mVar 1) (mVal (.int 1))) (mVal (.int 1)))])))
  (sSeq (sAsg (gName 9) (mOp2 opAdd (mVar 9) (mOp2 opMul (mLst [(mVal (.str "hits"))]) (mOpN (op1N opInt) [(mAnd (mOp2 opEq (mVar 13) (mVal (.int 0))) (mAnd (mOp2 opGt (mOp2 opIx (mVar 1) (mVal (.int 1))) (mVal (.int 0))) (mOpN (op1N opAny) [(mLc [14] (iSeq (mVar 7)) (gName 14) tYes (mCall f_is_on [(mVar 14), (mVal (.int 1))]))])))]))))
  (sSeq (sAsg (gName 9) (mOp2 opAdd (mOp2 opAdd (mVar 9) (mOp2 opMul (mLst [(mVal (.str "passes"))]) (mOpN (op1N opLen) [(mVar 8)]))) (mOp2 opMul (mLst [(mVal (.str "unpaid"))]) (mOpN (op1N opLen) [(mLc [14] (iSeq (mVar 8)) (gName 14) (tNot (tVal (mOp2 opIx (mVar 14) (mVal (.int 2))))) (mVar 14))]))))
  (sRet (mTup [(mTup [(mVar 7), (mVar 13), (mVar 10), (mVar 11), (mVar 12)]), (mVar 9)]))))))))))))
def f_passed : DF := defn 15 m_passed
def m_after : SM :=
  (sSeq (sExpr (mCall f_look_at_choice [(mVar 0), (mVar 1), (mVar 2)]))
  (sRet (mOp2 opIx (mCall f_passed [(mVar 0), (mVar 1), (mVar 2)]) (mVal (.int 0)))))
def f_after : DF := defn 3 m_after
def m_choices_at : SM :=
  (sSeq (sExpr (mCall f_look_at_plan [(mVar 0)]))
  (sSeq (sExpr (mCall f_look_at_stand [(mVar 0), (mVar 1)]))
  (sRet (mCall f_choices_of [(mVar 0), (mVar 1)]))))
def f_choices_at : DF := defn 2 m_choices_at
def m_is_stand : SM :=
  (sSeq (sExpr (mCall f_look_at_plan [(mVar 0)]))
  (sRet (mCall f_fits [(mVar 0), (mVar 1)])))
def f_is_stand : DF := defn 2 m_is_stand
def m_told : SM :=
  (sSeq (sExpr (mCall f_look_at_choice [(mVar 0), (mVar 1), (mVar 2)]))
  (sRet (mOp2 opIx (mCall f_passed [(mVar 0), (mVar 1), (mVar 2)]) (mVal (.int 1)))))
def f_told : DF := defn 3 m_told
def m_law : SM :=
  (sSeq (sFor (iRng1 (mOp2 opAdd (mOpN (op2N opMin) [(mOpN (op1N opLen) [(mVar 0)]), (mVal (.int 6))]) (mVal (.int 1)))) (gName 1)
  (sSeq (sAsg (gName 2) (mCall f__law_spring [(mVar 0), (mVar 1)]))
  (sSeq (sAsg (gName 3) (mCall f__law_plan [(mVar 2)]))
  (sFor (iRng1 (mVal (.int 10))) (gName 4)
  (sSeq (sAsg (gName 5) (mCall f__law_any_stand [(mVar 2), (mVar 3)]))
  (sSeq (sAsg (gName 6) (mCall f__law_choices [(mVar 3), (mVar 5)]))
  (sSeq (sIf (tNot (tVal (mCall (f__law_twins fu__law_twins) [(mLst [(mCall f_is_stand [(mVar 3), (mVar 5)]), (mCall f_choices_at [(mVar 3), (mVar 5)])]), (mLst [(mVal (.bl true)), (mVar 6)])])))
  (sRet (mVal (.bl false)))
  sNext)
  (sFor (iSeq (mVar 6)) (gName 7)
  (sSeq (sAsg (gName 8) (mTup [(mCall f_after [(mVar 3), (mVar 5), (mVar 7)]), (mCall f_told [(mVar 3), (mVar 5), (mVar 7)])]))
  (sIf (tNot (tVal (mCall (f__law_twins fu__law_twins) [(mVar 8), (mCall f__law_tick [(mVar 3), (mVar 5), (mVar 7)])])))
  (sRet (mVal (.bl false)))
  sNext))))))))))
  (sRet (mVal (.bl true))))
def f_law : DF := defn 9 m_law
end KK

set_option Elab.async false
set_option linter.all false
set_option maxRecDepth 100000
set_option maxHeartbeats 1000000
namespace KK
open DS
open PySem (Str)
/-! PA: kinds, twins -/
def kindN : D → Int
  | .non => 0 | .bl _ => 1 | .lst _ => 2 | .ref _ => 2 | .scr _ => 2 | .tup _ => 3 | .int _ => 4 | .str _ => 5 | .dic _ _ => 6
theorem f__law_kind_eq (v : D) (h : Hs) : f__law_kind [v] h = .ok (.int (kindN v)) h := by
  cases v <;> simp [f__law_kind, m__law_kind, opIsN, isNon, opIs, opIs2, isTy, kindN]
theorem zip_all : ∀ (xs ys : List D), xs.length = ys.length → ((List.zip xs ys).all (fun p => decide (p.1 = p.2)) = true ↔ xs = ys) := by
  intro xs
  induction xs with
  | nil => intro ys h; cases ys <;> simp_all
  | cons x xs ih => intro ys h; cases ys <;> simp_all
theorem zipL_map (xs ys : List D) : zipL xs ys = (List.zip xs ys).map fun p => D.tup [p.1, p.2] := by
  simp [zipL, List.zip, List.map_zipWith]
theorem mem_zip {xs ys : List D} {p : D × D} (h : p ∈ List.zip xs ys) : p.1 ∈ xs ∧ p.2 ∈ ys := by
  obtain ⟨a, b⟩ := p
  exact ⟨List.of_mem_zip h |>.1, List.of_mem_zip h |>.2⟩
theorem sh_rep {α : Type} (xs : List α) : sh 1 (.lst (xs.map fun _ => D.int 1)) := sh_lst fun d hd => by
  simp only [List.mem_map] at hd
  obtain ⟨_, _, rfl⟩ := hd
  exact sh_int _
theorem twins_aux {rec : DF} {n : Nat} (H : ∀ x y h, nt n x = true → nt n y = true → rec [x, y] h = .ok (.bl (decide (x = y))) h) (xs ys : List D) (hx : ∀ d ∈ xs, nt n d = true) (hy : ∀ d ∈ ys, nt n d = true) (hl : xs.length = ys.length) (hL : xs.length ≤ LINE) (e : En) (h : Hs) (he : e.length = 4) :
    (lcLoop (gTup [gName 2, gName 3]) (tNot (tVal (mCall rec [(mVar 2), (mVar 3)]))) (mVal (.int 1)) e (zipL xs ys) [] h) = .ok (((List.zip xs ys).filter fun p => !decide (p.1 = p.2)).map fun _ => .int 1) h := by
  rw [zipL_map, lc_map (p := fun p => !decide (p.1 = p.2)) (q := fun _ => .int 1)]
  · simp
  · rintro ⟨a, b⟩ hm
    obtain ⟨m1, m2⟩ := mem_zip hm
    obtain ⟨e0, e1, e2, e3, rfl⟩ : ∃ e0 e1 e2 e3, e = [e0, e1, e2, e3] := by
      match e, he with
      | [a, b, c, d], _ => exact ⟨a, b, c, d, rfl⟩
    refine ⟨[e0, e1, .val a, .val b], ?_, ?_, ?_⟩
    · simp
    · simp [H a b h (hx a m1) (hy b m2)]
    · intro _; simp
  · simp [List.length_zip, hl]; omega
theorem filt_nil (xs ys : List D) (hl : xs.length = ys.length) : (((List.zip xs ys).filter fun p => !decide (p.1 = p.2)).map fun _ => D.int 1).isEmpty = decide (xs = ys) := by
  rw [Bool.eq_iff_iff]
  rw [List.isEmpty_iff, List.map_eq_nil_iff, List.filter_eq_nil_iff, decide_eq_true_iff, ← zip_all xs ys hl]
  simp
theorem twins_kind {n : Nat} {x y : D} {h : Hs} (hk : kindN x ≠ kindN y) : f__law_twins (n + 1) [x, y] h = .ok (.bl (decide (x = y))) h := by
  have : x ≠ y := fun e => hk (by rw [e])
  simp [f__law_twins, m__law_twins, f__law_kind_eq, opNe_ii, hk, this]
theorem twins_flat {n : Nat} {x y : D} {h : Hs} (hk : kindN x = kindN y) (fx : flat x = true) : f__law_twins (n + 1) [x, y] h = .ok (.bl (decide (x = y))) h := by
  cases x <;> simp only [flat, Bool.false_eq_true] at fx <;> cases y <;> simp [kindN] at hk <;>
    simp [f__law_twins, m__law_twins, f__law_kind_eq, kindN, opNe_ii, opEq_ii, opEq_bb, opEq_ss, opEq_nn, eqv_ii, opIn, inB, flat, LINE_eq]
theorem f__law_twins_eq : ∀ (n : Nat) (x y : D) (h : Hs), nt n x = true → nt n y = true → f__law_twins (n + 1) [x, y] h = .ok (.bl (decide (x = y))) h := by
  intro n
  induction n with
  | zero =>
    intro x y h hx hy
    by_cases hk : kindN x = kindN y
    · exact twins_flat hk hx
    · exact twins_kind hk
  | succ n ih =>
    intro x y h hx hy
    by_cases hk : kindN x = kindN y
    · by_cases fx : flat x = true
      · exact twins_flat hk fx
      · cases x with
        | tup xs =>
          cases y <;> simp [kindN] at hk <;> try (simp [nt, flat] at hy; done)
          rename_i ys
          simp only [nt, Bool.and_eq_true, decide_eq_true_eq, List.all_eq_true] at hx hy
          by_cases hl : xs.length = ys.length
          · have A := twins_aux ih xs ys hx.2 hy.2 hl hx.1 [.val (.tup xs), .val (.tup ys), .no, .no] h rfl
            have B := filt_nil xs ys hl
            have C := eq_nil_l (sh_rep ((List.zip xs ys).filter fun p => !decide (p.1 = p.2))) (by decide) h
            rw [B] at C
            rw [f__law_twins]
            simp [m__law_twins, f__law_kind_eq, kindN, opNe_ii, opEq_ii, eqv_ii, opIn, inB, flat, opLen, hl, LINE_eq]
            rw [A]
            simp [C]
          · rw [f__law_twins]
            simp [m__law_twins, f__law_kind_eq, kindN, opNe_ii, opEq_ii, eqv_ii, opIn, inB, flat, opLen, LINE_eq, Int.ofNat_inj, hl]
            intro h; exact hl (by rw [h])
        | lst xs =>
          cases y <;> simp [kindN] at hk <;> try (simp [nt, flat] at hy; done)
          rename_i ys
          simp only [nt, Bool.and_eq_true, decide_eq_true_eq, List.all_eq_true] at hx hy
          by_cases hl : xs.length = ys.length
          · have A := twins_aux ih xs ys hx.2 hy.2 hl hx.1 [.val (.lst xs), .val (.lst ys), .no, .no] h rfl
            have B := filt_nil xs ys hl
            have C := eq_nil_l (sh_rep ((List.zip xs ys).filter fun p => !decide (p.1 = p.2))) (by decide) h
            rw [B] at C
            rw [f__law_twins]
            simp [m__law_twins, f__law_kind_eq, kindN, opNe_ii, opEq_ii, eqv_ii, opIn, inB, flat, opLen, hl, LINE_eq]
            rw [A]
            simp [C]
          · rw [f__law_twins]
            simp [m__law_twins, f__law_kind_eq, kindN, opNe_ii, opEq_ii, eqv_ii, opIn, inB, flat, opLen, LINE_eq, Int.ofNat_inj, hl]
            intro h; exact hl (by rw [h])
        | _ => simp_all [nt, flat]
    · exact twins_kind hk
end KK

set_option Elab.async false
set_option linter.all false
set_option maxRecDepth 100000
set_option maxHeartbeats 1000000
namespace KK
open DS
open PySem (Str)
/-! PB: plans, at D -/
def isInB (a b : Int) : D → Bool
  | .int i => decide (a ≤ i) && decide (i ≤ b)
  | _ => false
def isB : D → Bool
  | .bl _ => true
  | _ => false
def isS : D → Bool
  | .str _ => true
  | _ => false
def isT : D → Bool
  | .tup _ => true
  | _ => false
def wideB (n : Nat) : D → Bool
  | .tup ds => decide (ds.length = n)
  | _ => false
def wayB : D → Bool
  | .str s => decide (s = "behind") || decide (s = "clock")
  | _ => false
theorem wide_ex3 {v : D} (h : wideB 3 v = true) : ∃ a b c, v = .tup [a, b, c] := by
  cases v <;> simp [wideB] at h
  rename_i ds
  match ds, h with
  | [a, b, c], _ => exact ⟨a, b, c, rfl⟩
theorem wide_ex4 {v : D} (h : wideB 4 v = true) : ∃ a b c d, v = .tup [a, b, c, d] := by
  cases v <;> simp [wideB] at h
  rename_i ds
  match ds, h with
  | [a, b, c, d], _ => exact ⟨a, b, c, d, rfl⟩
theorem wide_ex5 {v : D} (h : wideB 5 v = true) : ∃ a b c d e, v = .tup [a, b, c, d, e] := by
  cases v <;> simp [wideB] at h
  rename_i ds
  match ds, h with
  | [a, b, c, d, e], _ => exact ⟨a, b, c, d, e, rfl⟩
theorem f_is_wide_eq (v : D) (n : Nat) (h : Hs) : f_is_wide [v, .int n] h = .ok (.bl (wideB n v)) h := by
  cases v <;> simp [f_is_wide, m_is_wide, opIs, isTy, opLen, opEq_ii, wideB, Int.ofNat_inj]
theorem f_is_wide3 (v : D) (h : Hs) : f_is_wide [v, .int 3] h = .ok (.bl (wideB 3 v)) h := f_is_wide_eq v 3 h
theorem f_is_wide4 (v : D) (h : Hs) : f_is_wide [v, .int 4] h = .ok (.bl (wideB 4 v)) h := f_is_wide_eq v 4 h
theorem f_is_wide5 (v : D) (h : Hs) : f_is_wide [v, .int 5] h = .ok (.bl (wideB 5 v)) h := f_is_wide_eq v 5 h
theorem f_is_within_eq (v : D) (a b : Int) (h : Hs) : f_is_within [v, .int a, .int b] h = .ok (.bl (isInB a b v)) h := by
  cases v <;> simp [f_is_within, m_is_within, opIs, isTy, opLe, cmpI, isInB]
theorem opIsB_eq (v : D) (h : Hs) : opIs .tBool h v = some (.bl (isB v)) := by cases v <;> simp [opIs, isTy, isB]
theorem opIsS_eq (v : D) (h : Hs) : opIs .tStr h v = some (.bl (isS v)) := by cases v <;> simp [opIs, isTy, isS]
theorem opIsT_eq (v : D) (h : Hs) : opIs .tTuple h v = some (.bl (isT v)) := by cases v <;> simp [opIs, isTy, isT]
@[simp] theorem opIx3_0 (a b c : D) (h : Hs) : opIx h (.tup [a, b, c]) (.int 0) = some a := rfl
@[simp] theorem opIx3_1 (a b c : D) (h : Hs) : opIx h (.tup [a, b, c]) (.int 1) = some b := rfl
@[simp] theorem opIx3_2 (a b c : D) (h : Hs) : opIx h (.tup [a, b, c]) (.int 2) = some c := rfl
@[simp] theorem opIx4_0 (a b c d : D) (h : Hs) : opIx h (.tup [a, b, c, d]) (.int 0) = some a := rfl
@[simp] theorem opIx4_1 (a b c d : D) (h : Hs) : opIx h (.tup [a, b, c, d]) (.int 1) = some b := rfl
@[simp] theorem opIx4_2 (a b c d : D) (h : Hs) : opIx h (.tup [a, b, c, d]) (.int 2) = some c := rfl
@[simp] theorem opIx4_3 (a b c d : D) (h : Hs) : opIx h (.tup [a, b, c, d]) (.int 3) = some d := rfl
@[simp] theorem opIx5_0 (a b c d e : D) (h : Hs) : opIx h (.tup [a, b, c, d, e]) (.int 0) = some a := rfl
@[simp] theorem opIx5_1 (a b c d e : D) (h : Hs) : opIx h (.tup [a, b, c, d, e]) (.int 1) = some b := rfl
@[simp] theorem opIx5_2 (a b c d e : D) (h : Hs) : opIx h (.tup [a, b, c, d, e]) (.int 2) = some c := rfl
@[simp] theorem opIx5_3 (a b c d e : D) (h : Hs) : opIx h (.tup [a, b, c, d, e]) (.int 3) = some d := rfl
@[simp] theorem opIx5_4 (a b c d e : D) (h : Hs) : opIx h (.tup [a, b, c, d, e]) (.int 4) = some e := rfl
theorem notin_ways (s : Str) (h : Hs) : opNotIn h (.str s) c_WAYS = some (.bl (!wayB (.str s))) := by
  simp [opNotIn, inB, c_WAYS, flat, eqv_ss, wayB, eq_comm]
def progB : D → Bool
  | .tup [w, n, g] => wayB w && isInB 0 3 n && isB g
  | _ => false
theorem f_is_program_eq (v : D) (h : Hs) : f_is_program [v] h = .ok (.bl (progB v)) h := by
  by_cases w : wideB 3 v = true
  · obtain ⟨a, b, c, rfl⟩ := wide_ex3 w
    cases a <;> simp [f_is_program, m_is_program, f_is_wide3, w, opIsB_eq, opIsS_eq, isS, f_is_within_eq, notin_ways, progB, wayB]
    rw [Bool.and_assoc]
  · have : progB v = false := by
      unfold progB; split <;> simp_all [wideB]
    simp [f_is_program, m_is_program, f_is_wide3, w, this]
def trafB : D → Bool
  | .tup [.int a, .int b, .bl _, .bl _] => decide (1 ≤ a) && decide (a ≤ b) && decide (b ≤ 3)
  | _ => false
theorem f_is_traffic_eq (v : D) (h : Hs) : f_is_traffic [v] h = .ok (.bl (trafB v)) h := by
  by_cases w : wideB 4 v = true
  · obtain ⟨a, b, c, d, rfl⟩ := wide_ex4 w
    cases a <;> simp [f_is_traffic, m_is_traffic, f_is_wide4, w, opIsB_eq, f_is_within_eq, trafB, isInB]
    cases b <;> simp [isInB]
    cases c <;> simp [isB]
    cases d <;> simp [isB]
    rw [Bool.eq_iff_iff]
    simp
    omega
  · have : trafB v = false := by
      unfold trafB; split <;> simp_all [wideB]
    simp [f_is_traffic, m_is_traffic, f_is_wide4, w, this]
def planB : D → Bool
  | .tup [.int l, p, t] => decide (1 ≤ l) && decide (l ≤ 3) && progB p && trafB t
  | _ => false
theorem f_is_plan_eq (v : D) (h : Hs) : f_is_plan [v] h = .ok (.bl (planB v)) h := by
  by_cases w : wideB 3 v = true
  · obtain ⟨a, b, c, rfl⟩ := wide_ex3 w
    cases a <;> simp [f_is_plan, m_is_plan, f_is_wide3, w, f_is_within_eq, planB, isInB, f_is_program_eq, f_is_traffic_eq]
    rw [Bool.eq_iff_iff]
    simp [and_assoc]
  · have : planB v = false := by
      unfold planB; split <;> simp_all [wideB]
    simp [f_is_plan, m_is_plan, f_is_wide3, w, this]
end KK

set_option Elab.async false
set_option linter.all false
set_option maxRecDepth 100000
set_option maxHeartbeats 1000000
namespace KK
open DS
open PySem (Str)
/-! PC: plans, ones and stands, typed -/
structure One where
  f : Int
  l : Int
  p : Bool
structure Plan where
  lift : Int
  behind : Bool
  wait : Int
  guard : Bool
  least : Int
  greatest : Int
  backs : Bool
  bikes : Bool
structure Stand where
  q : List One
  height : Int
  up : Bool
  timer : Int
  seen : Bool
def wayS (b : Bool) : Str := if b then "behind" else "clock"
def upS (b : Bool) : Str := if b then "up" else "down"
def One.d (o : One) : D := .tup [.int o.f, .int o.l, .bl o.p]
def Plan.d (p : Plan) : D := .tup [.int p.lift, .tup [.str (wayS p.behind), .int p.wait, .bl p.guard], .tup [.int p.least, .int p.greatest, .bl p.backs, .bl p.bikes]]
def qd (q : List One) : D := .tup (q.map One.d)
def Stand.d (s : Stand) : D := .tup [qd s.q, .int s.height, .str (upS s.up), .int s.timer, .bl s.seen]
def One.tail (o : One) : Int := o.f + 1 - (if o.l > 1 then o.l else 1)
structure Plan.Ok (p : Plan) : Prop where
  l1 : 1 ≤ p.lift
  l2 : p.lift ≤ 3
  w1 : 0 ≤ p.wait
  w2 : p.wait ≤ 3
  g1 : 1 ≤ p.least
  g2 : p.least ≤ p.greatest
  g3 : p.greatest ≤ 3
theorem wayB_ex {v : D} (h : wayB v = true) : ∃ b, v = .str (wayS b) := by
  cases v <;> simp [wayB] at h
  rcases h with h | h
  · exact ⟨true, by rw [h]; rfl⟩
  · exact ⟨false, by rw [h]; rfl⟩
theorem planB_ex {v : D} (h : planB v = true) : ∃ p : Plan, p.Ok ∧ v = p.d := by
  unfold planB at h
  split at h <;> try (simp at h; done)
  rename_i l pr t
  unfold progB at h
  split at h <;> try (simp at h; done)
  rename_i w n g
  unfold trafB at h
  split at h <;> try (simp at h; done)
  rename_i a b c d
  simp at h
  obtain ⟨⟨⟨h1, h2⟩, ⟨hw, hn⟩, hg⟩, ⟨h3, h4⟩, h5⟩ := h
  obtain ⟨bh, rfl⟩ := wayB_ex hw
  cases n <;> simp [isInB] at hn
  cases g <;> simp [isB] at hg
  exact ⟨⟨l, bh, _, _, a, b, c, d⟩, ⟨h1, h2, hn.1, hn.2, h3, h4, h5⟩, rfl⟩
theorem wayB_wayS (b : Bool) : wayB (.str (wayS b)) = true := by cases b <;> simp [wayB, wayS]
theorem planB_d {p : Plan} (k : p.Ok) : planB p.d = true := by
  simp [planB, Plan.d, progB, trafB, wayB_wayS, isInB, isB, k.l1, k.l2, k.w1, k.w2, k.g1, k.g2, k.g3]
theorem f_look_at_plan_eq {p : Plan} (k : p.Ok) (h : Hs) : f_look_at_plan [p.d] h = .ok .non h := by
  simp [f_look_at_plan, m_look_at_plan, f_is_plan_eq, planB_d k]
/-! lengths -/
def Plan.lens (p : Plan) : List Int := (if p.bikes then [0] else []) ++ (List.range (p.greatest + 1 - p.least).toNat).map fun (k : Nat) => p.least + (k : Int)
theorem rngL_map (lo : Int) (n : Nat) : rngL lo n = ((List.range n).map fun (k : Nat) => lo + (k : Int)).map D.int := by simp [rngL]
theorem lens_len {p : Plan} (k : p.Ok) : p.lens.length ≤ 4 := by
  obtain ⟨_, _, _, _, h1, h2, h3⟩ := k
  unfold Plan.lens
  split <;> simp <;> omega
theorem mem_lens {p : Plan} {l : Int} : l ∈ p.lens ↔ (p.bikes = true ∧ l = 0) ∨ (p.least ≤ l ∧ l ≤ p.greatest) := by
  unfold Plan.lens
  cases p.bikes <;> simp
  · constructor
    · rintro ⟨k, h1, h2⟩; omega
    · rintro ⟨h1, h2⟩; exact ⟨(l - p.least).toNat, by omega, by omega⟩
  · constructor
    · rintro (h | ⟨k, h1, h2⟩)
      · exact .inl h
      · exact .inr (by omega)
    · rintro (h | ⟨h1, h2⟩)
      · exact .inl h
      · exact .inr ⟨(l - p.least).toNat, by omega, by omega⟩
theorem listRng2_eq {a b : Int} {h : Hs} (h1 : -100 ≤ a) (h2 : a ≤ 100) (h3 : -100 ≤ b) (h4 : b ≤ 100) : listRng2 h (.int a) (.int b) = some (.lst (rngL a (b - a).toNat)) := by
  simp only [listRng2, smallR_of (show a.natAbs ≤ 4611686018427387903 by omega), smallR_of (show b.natAbs ≤ 4611686018427387903 by omega), Bool.true_and]
  rw [if_pos (by rw [LINE_eq]; simp; omega)]
theorem f_lengths_of_eq {p : Plan} (k : p.Ok) (h : Hs) : f_lengths_of [p.d] h = .ok (.lst (p.lens.map .int)) h := by
  have L := lens_len k
  obtain ⟨k1, k2, k3, k4, h1, h2, h3⟩ := k
  have e : opAdd h (.lst (if p.bikes = true then [.int 0] else [])) (.lst (rngL p.least (p.greatest + 1 - p.least).toNat)) = some (.lst (p.lens.map .int)) := by
    rw [opAdd_ll]
    · simp only [Plan.lens, List.map_append, rngL_map]
      cases p.bikes <;> simp
    · cases p.bikes <;> simp [rngL, LINE_eq] <;> omega
  have e0 : opMul h (.lst [.int 0]) (.int (b2i p.bikes)) = some (.lst (if p.bikes = true then [.int 0] else [])) := opMul_lb h _ _ (by decide)
  simp [f_lengths_of, m_lengths_of, Plan.d, LINE_eq, opInt_b, e0, opAdd_ii, opMul_lb, listRng2_eq (h := h) (show -100 ≤ p.least by omega) (show p.least ≤ 100 by omega) (show -100 ≤ p.greatest + 1 by omega) (show p.greatest + 1 ≤ 100 by omega), e]
theorem f_tail_of_eq (o : One) (h : Hs) : f_tail_of [o.d] h = .ok (.int o.tail) h := by
  simp [f_tail_of, m_tail_of, One.d, One.tail, opAdd_ii, opSub_ii, opMax_ii]
def oneB (p : Plan) : D → Bool
  | .tup [.int f, .int l, .bl b] => decide (0 ≤ f) && decide (f ≤ 4) && decide (l ∈ p.lens) && decide ((One.mk f l b).tail ≤ 2)
  | _ => false
structure One.Ok (p : Plan) (o : One) : Prop where
  f0 : 0 ≤ o.f
  f4 : o.f ≤ 4
  l : o.l ∈ p.lens
  t : o.tail ≤ 2
theorem lens_in {p : Plan} (k : p.Ok) {l : Int} (h : l ∈ p.lens) : 0 ≤ l ∧ l ≤ 3 := by
  obtain ⟨_, _, _, _, h1, h2, h3⟩ := k
  rw [mem_lens] at h
  omega
theorem f_is_one_eq {p : Plan} (k : p.Ok) (v : D) (h : Hs) : f_is_one [p.d, v] h = .ok (.bl (oneB p v)) h := by
  by_cases w : wideB 3 v = true
  · obtain ⟨a, b, c, rfl⟩ := wide_ex3 w
    cases a <;> simp [f_is_one, m_is_one, f_is_wide3, w, f_is_within_eq, oneB, isInB, opIsB_eq]
    cases b <;> simp [oneB, isInB]
    simp [f_lengths_of_eq k, opIn_ints]
    rename_i f l
    cases c <;> simp [isB, oneB]
    rename_i b
    have T := f_tail_of_eq ⟨f, l, b⟩ h
    simp only [One.d] at T
    simp [T, opLe_ii]
    rw [Bool.eq_iff_iff]
    have := @lens_in p k l
    simp
    constructor
    · rintro ⟨⟨⟨h1, h2⟩, h3, h4⟩, h5, h6⟩; exact ⟨⟨⟨h1, h2⟩, h5⟩, h6⟩
    · rintro ⟨⟨⟨h1, h2⟩, h5⟩, h6⟩; exact ⟨⟨⟨h1, h2⟩, by have := this h5; omega, by have := this h5; omega⟩, h5, h6⟩
  · have : oneB p v = false := by
      unfold oneB; split <;> simp_all [wideB]
    simp [f_is_one, m_is_one, f_is_wide3, w, this]
theorem oneB_ex {p : Plan} {v : D} (h : oneB p v = true) : ∃ o : One, o.Ok p ∧ v = o.d := by
  unfold oneB at h
  split at h <;> try (simp at h; done)
  rename_i f l b
  simp at h
  exact ⟨⟨f, l, b⟩, ⟨h.1.1.1, h.1.1.2, h.1.2, h.2⟩, rfl⟩
theorem oneB_d {p : Plan} {o : One} (k : o.Ok p) : oneB p o.d = true := by
  simp [oneB, One.d, k.f0, k.f4, k.l, k.t]
theorem ones_ex {p : Plan} : ∀ {ds : List D}, ds.all (oneB p) = true → ∃ q : List One, (∀ o ∈ q, o.Ok p) ∧ ds = q.map One.d
  | [], _ => ⟨[], by simp, rfl⟩
  | d :: ds, h => by
    simp only [List.all_cons, Bool.and_eq_true] at h
    obtain ⟨o, k, rfl⟩ := oneB_ex h.1
    obtain ⟨q, kq, rfl⟩ := ones_ex h.2
    exact ⟨o :: q, by simp [k]; exact kq, rfl⟩
def chain : List One → Bool
  | a :: b :: q => decide (b.f < a.tail) && chain (b :: q)
  | _ => true
theorem chain_zip : ∀ q : List One, chain q = (List.zip q q.tail).all fun p => decide (p.2.f < p.1.tail)
  | [] => rfl
  | [a] => rfl
  | a :: b :: q => by simp [chain, chain_zip (b :: q)]
def queueB (p : Plan) : D → Bool
  | .tup ds => ds.all (oneB p) && (List.zip ds ds.tail).all fun x =>
    match x with
    | (.tup [.int f, .int l, .bl b], .tup [.int g, _, _]) => decide (g < (One.mk f l b).tail)
    | _ => false
  | _ => false
theorem queueB_d {p : Plan} {q : List One} (k : ∀ o ∈ q, o.Ok p) : queueB p (qd q) = chain q := by
  have : (q.map One.d).all (oneB p) = true := by simp only [List.all_map, List.all_eq_true]; exact fun o m => oneB_d (k o m)
  simp only [queueB, qd, this, Bool.true_and, chain_zip]
  rw [← List.map_tail, List.zip_map, List.all_map]
  rfl
def lenOk : D → Prop
  | .tup ds => ds.length ≤ LINE
  | _ => True
theorem f_is_queue_eq {p : Plan} (k : p.Ok) (v : D) (h : Hs) (hs : lenOk v) : f_is_queue [p.d, v] h = .ok (.bl (queueB p v)) h := by
  cases v <;> try (simp [f_is_queue, m_is_queue, opIsT_eq, isT, queueB]; done)
  rename_i ds
  simp only [lenOk] at hs
  have A : lcLoop (gName 2) tYes (mCall f_is_one [(mVar 0), (mVar 2)]) [.val p.d, .val (.tup ds), .no, .no] ds [] h = .ok ((ds.map fun d => .bl (oneB p d))) h := by
    rw [lc_allT (q := fun d => .bl (oneB p d)) ds []]
    · simp
    · intro x _
      exact ⟨[.val p.d, .val (.tup ds), .val x, .no], by simp, by simp, by simp [f_is_one_eq k]⟩
    · simpa using hs
  have A' := opAll_map h (oneB p) ds
  by_cases z : ds.all (oneB p) = true
  · obtain ⟨q, kq, hq⟩ := ones_ex z
    have B : lcLoop (gTup [(gName 2), (gName 3)]) tYes (mOp2 opGt (mCall f_tail_of [(mVar 2)]) (mOp2 opIx (mVar 3) (mVal (.int 0)))) [.val p.d, .val (.tup ds), .no, .no] (zipL ds ds.tail) [] h = .ok ((List.zip q q.tail).map fun x => .bl (decide (x.2.f < x.1.tail))) h := by
      rw [zipL_map]
      conv => lhs; arg 5; rw [hq]
      rw [← List.map_tail, List.zip_map, List.map_map, lc_mapT (q := fun x => .bl (decide (x.2.f < x.1.tail)))]
      · simp
      · rintro ⟨a, b⟩ _
        refine ⟨[.val p.d, .val (.tup ds), .val a.d, .val b.d], by simp, by simp, ?_⟩
        simp [f_tail_of_eq]
        simp [One.d, opGt_ii]
      · rw [hq] at hs; simp at hs ⊢; omega
    have C := opAll_map h (fun x : One × One => decide (x.2.f < x.1.tail)) (List.zip q q.tail)
    have S : opSl (.tup ds) (some 1) none = some (.tup ds.tail) := by
      cases ds
      · rfl
      · simp [opSl_tail]
    have E : queueB p (.tup ds) = chain q := by rw [hq]; exact queueB_d kq
    rw [E]
    rw [z] at A'
    simp [f_is_queue, m_is_queue, opIsT_eq, isT, A, A', S, B, C, chain_zip]
  · have E : queueB p (.tup ds) = false := by simp only [queueB]; simp only [Bool.not_eq_true] at z; rw [z]; rfl
    simp only [Bool.not_eq_true] at z
    rw [E]
    rw [z] at A'
    simp [f_is_queue, m_is_queue, opIsT_eq, isT, A, A']
theorem queueB_ex {p : Plan} {v : D} (h : queueB p v = true) : ∃ q : List One, (∀ o ∈ q, o.Ok p) ∧ chain q = true ∧ v = qd q := by
  cases v <;> try (simp [queueB] at h; done)
  rename_i ds
  have z : ds.all (oneB p) = true := by simp only [queueB, Bool.and_eq_true] at h; exact h.1
  obtain ⟨q, kq, rfl⟩ := ones_ex z
  have := queueB_d kq
  simp only [qd] at this
  rw [this] at h
  exact ⟨q, kq, h, rfl⟩
def ordB (p : Plan) : D → D → D → Bool
  | .str s, .int t, .bl b => (decide (s = "up") && (decide (0 ≤ t) && decide (t ≤ p.wait)) && (p.behind || !b)) || (decide (s = "down") && decide (t = 0) && !b)
  | _, _, _ => false
def standB (p : Plan) : D → Bool
  | .tup [q, i, s, t, b] => queueB p q && isInB 0 p.lift i && ordB p s t b
  | _ => false
structure Stand.Ok (p : Plan) (s : Stand) : Prop where
  q : ∀ o ∈ s.q, o.Ok p
  c : chain s.q = true
  h1 : 0 ≤ s.height
  h2 : s.height ≤ p.lift
  t1 : 0 ≤ s.timer
  t2 : s.timer ≤ (if s.up then p.wait else 0)
  b1 : s.seen = true → s.up = true ∧ p.behind = true
def qOk : D → Prop
  | .tup [q, _, _, _, _] => lenOk q
  | _ => True
theorem wayS_beq (b : Bool) : decide (wayS b = ("behind" : Str)) = b := by cases b <;> decide
theorem up_ne_down : ¬ (("down" : Str) = "up") := by decide
theorem up_ne_down' : ¬ (("up" : Str) = "down") := by decide
theorem isInB_i (a b i : Int) : isInB a b (.int i) = (decide (a ≤ i) && decide (i ≤ b)) := rfl
theorem isInB_n (a b : Int) : isInB a b .non = false := rfl
theorem isInB_s (a b : Int) (s : Str) : isInB a b (.str s) = false := rfl
theorem isInB_b (a b : Int) (s : Bool) : isInB a b (.bl s) = false := rfl
theorem isInB_t (a b : Int) (s : List D) : isInB a b (.tup s) = false := rfl
theorem isInB_l (a b : Int) (s : List D) : isInB a b (.lst s) = false := rfl
theorem isInB_r (a b : Int) (s : Nat) : isInB a b (.ref s) = false := rfl
theorem isInB_d (a b : Int) (s : List Str) (ds : List D) : isInB a b (.dic s ds) = false := rfl
theorem isInB_c (a b : Int) (s : List Int) : isInB a b (.scr s) = false := rfl
theorem in_ups (s : Str) (h : Hs) : opNotIn h (.str s) (.tup [c_UP, c_DOWN]) = some (.bl (!(decide (s = "up") || decide (s = "down")))) := by
  simp [opNotIn, inB, c_UP, c_DOWN, flat, eqv_ss, eq_comm]
theorem f_fits_eq {p : Plan} (k : p.Ok) (v : D) (h : Hs) (hs : qOk v) : f_fits [p.d, v] h = .ok (.bl (standB p v)) h := by
  by_cases w : wideB 5 v = true
  · obtain ⟨q, i, s, t, b, rfl⟩ := wide_ex5 w
    simp only [qOk, lenOk] at hs
    have Q := f_is_queue_eq k q h hs
    have P0 : opIx h p.d (.int 0) = some (.int p.lift) := rfl
    have P1 : opIx h p.d (.int 1) = some (.tup [.str (wayS p.behind), .int p.wait, .bl p.guard]) := rfl
    simp [f_fits, m_fits, f_is_wide5, w, Q, P0, P1, f_is_within_eq, standB, opIsS_eq, LINE_eq, opIsB_eq]
    cases s <;> first | (simp [isS, ordB]; done) | simp [isS]
    cases b <;> first | (simp [isB, ordB, in_ups]; done) | simp [isB, in_ups]
    rename_i s b
    by_cases h1 : queueB p q = false ∨ isInB 0 p.lift i = false
    · rw [if_pos h1]
      rcases h1 with h1 | h1 <;> simp [h1]
    · rw [if_neg h1]
      simp only [not_or, Bool.not_eq_false] at h1
      by_cases h2 : s = "up"
      · subst h2
        cases t <;> simp [c_UP, opEq_ss, f_is_within_eq, wayS_beq, P1, P0, h1, isInB_i, isInB_n, isInB_s, isInB_b, isInB_t, isInB_l, isInB_r, isInB_d, isInB_c, ordB]
        rename_i t
        cases b <;> cases hb : p.behind <;> simp [up_ne_down, up_ne_down'] <;> (try rw [Bool.eq_iff_iff]) <;> simp <;> omega
      · by_cases h3 : s = "down"
        · subst h3
          cases t <;> simp [c_UP, opEq_ss, f_is_within_eq, wayS_beq, P1, P0, h1, isInB_i, isInB_n, isInB_s, isInB_b, isInB_t, isInB_l, isInB_r, isInB_d, isInB_c, ordB, up_ne_down]
          rw [Bool.eq_iff_iff]
          simp
          omega
        · simp [h2, h3]
          intro _ _
          cases t <;> simp [ordB, h2, h3]
  · have : standB p v = false := by
      unfold standB; split <;> simp_all [wideB]
    simp [f_fits, m_fits, f_is_wide5, w, this]
end KK

set_option Elab.async false
set_option linter.all false
set_option maxRecDepth 100000
set_option maxHeartbeats 1000000
namespace KK
open DS
open PySem (Str)
/-! PD: grounds, good stands -/
structure One.Sm (o : One) : Prop where
  f1 : -20 ≤ o.f
  f2 : o.f ≤ 20
  l1 : 0 ≤ o.l
  l2 : o.l ≤ 20
def One.size (o : One) : Int := if o.l > 1 then o.l else 1
def gd (o : One) : List Int := (List.range o.size.toNat).map fun (k : Nat) => o.tail + (k : Int)
theorem One.tail_eq (o : One) : o.tail = o.f + 1 - o.size := rfl
theorem One.Sm.size {o : One} (s : o.Sm) : 1 ≤ o.size ∧ o.size ≤ 20 := by
  obtain ⟨_, _, h1, h2⟩ := s
  unfold One.size; split <;> omega
theorem f__law_ground_eq {o : One} (s : o.Sm) (h : Hs) : f__law_ground [o.d] h = .ok (.lst ((gd o).map .int)) h := by
  obtain ⟨z1, z2⟩ := s.size
  obtain ⟨h1, h2, h3, h4⟩ := s
  have e : (if (1 : Int) > o.l then (1 : Int) else o.l) = o.size := by unfold One.size; split <;> split <;> omega
  have t : o.f - o.size + 1 = o.tail := by rw [One.tail_eq]; omega
  have n : (o.f + 1 - o.tail).toNat = o.size.toNat := by rw [One.tail_eq]; congr 1; omega
  have R := listRng2_eq (a := o.tail) (b := o.f + 1) (h := h) (by rw [One.tail_eq]; omega) (by rw [One.tail_eq]; omega) (by omega) (by omega)
  simp only [gt_iff_lt] at e
  simp [f__law_ground, m__law_ground, One.d, opAdd_ii, opSub_ii, opMax_ii, e, t, R, n, rngL_map, gd]
theorem mem_gd {o : One} (s : o.Sm) (i : Int) : i ∈ gd o ↔ o.tail ≤ i ∧ i ≤ o.f := by
  obtain ⟨z1, z2⟩ := s.size
  simp only [gd, List.mem_map, List.mem_range, One.tail_eq]
  constructor
  · rintro ⟨k, h1, h2⟩; omega
  · rintro ⟨h1, h2⟩; exact ⟨(i - (o.f + 1 - o.size)).toNat, by omega, by omega⟩
theorem gd_head {o : One} (s : o.Sm) : ∃ xs, gd o = o.tail :: xs := by
  obtain ⟨z1, z2⟩ := s.size
  obtain ⟨n, hn⟩ : ∃ n, o.size.toNat = n + 1 := ⟨o.size.toNat - 1, by omega⟩
  unfold gd
  rw [hn, List.range_succ_eq_map]
  simp
theorem gd_ix {o : One} (s : o.Sm) (h : Hs) : opIx h (.lst ((gd o).map .int)) (.int 0) = some (.int o.tail) := by
  obtain ⟨xs, e⟩ := gd_head s
  rw [e]; exact opIx_l0 h _ _
theorem gd_in {o : One} (s : o.Sm) (i : Int) (h : Hs) : opIn h (.int i) (.lst ((gd o).map .int)) = some (.bl (decide (o.tail ≤ i) && decide (i ≤ o.f))) := by
  rw [opIn_ints]
  congr 2
  rw [Bool.eq_iff_iff]
  simp [mem_gd s]
end KK

set_option Elab.async false
set_option linter.all false
set_option maxRecDepth 100000
set_option maxHeartbeats 1000000
namespace KK
open DS
open PySem (Str)
/-! PE: what ticks do, typed -/
inductive Mv where
  | back | on | stay
  deriving DecidableEq
def Mv.s : Mv → Str
  | .back => "back" | .on => "on" | .stay => "stay"
def Mv.d (m : Mv) : D := .str m.s
def Mv.step : Mv → Int
  | .back => -1 | .on => 1 | .stay => 0
def Mvs : List Mv := [.back, .on, .stay]
structure Ch where
  moves : List Mv
  comes : Int
  ticket : Bool
def mvsd (ms : List Mv) : D := .tup (ms.map Mv.d)
def Ch.d (c : Ch) : D := .tup [mvsd c.moves, .int c.comes, .bl c.ticket]
def mv (o : One) (m : Mv) : One := { o with f := o.f + m.step }
def onP (o : One) (i : Int) : Bool := decide (o.tail ≤ i) && decide (i ≤ o.f)
def lastOk : Option One → Int → Bool
  | none, _ => true
  | some r, f => decide (f < r.tail)
def good (p : Plan) (height : Int) (row : List One) (o : One) (m : Mv) : Bool :=
  (!decide (m = .back) || p.backs) && (!(onP (mv o m) 1 && !onP o 1) || decide (p.lift ≤ height)) && lastOk row.getLast? (mv o m).f
def stepRow (p : Plan) (height : Int) : Option (List One) → One × Mv → Option (List One)
  | none, _ => none
  | some row, (o, m) => if good p height row o m then some (row ++ [mv o m]) else none
def moved (p : Plan) (height : Int) (q : List One) (ms : List Mv) : Option (List One) := (q.zip ms).foldl (stepRow p height) (some [])
def grow (p : Plan) (height : Int) (o : One) (x : List Mv × List One) : List (List Mv × List One) :=
  Mvs.filterMap fun m => if good p height x.2 o m then some (x.1 ++ [m], x.2 ++ [mv o m]) else none
def rowsOf (p : Plan) (height : Int) (q : List One) : List (List Mv × List One) := q.foldl (fun found o => found.flatMap (grow p height o)) [([], [])]
def allMoves : Nat → List (List Mv)
  | 0 => [[]]
  | n + 1 => (allMoves n).flatMap fun r => Mvs.map fun m => r ++ [m]
theorem allMoves_len : ∀ (n : Nat) (ms : List Mv), ms ∈ allMoves n → ms.length = n
  | 0, ms, h => by simp [allMoves] at h; simp [h]
  | n + 1, ms, h => by
    simp [allMoves, Mvs] at h
    obtain ⟨a, h1, h2⟩ := h
    have := allMoves_len n a h1
    rcases h2 with rfl | rfl | rfl <;> simp [this]
theorem moved_snoc (p : Plan) (height : Int) (q : List One) (o : One) (ms : List Mv) (m : Mv) (h : ms.length = q.length) : moved p height (q ++ [o]) (ms ++ [m]) = stepRow p height (moved p height q ms) (o, m) := by
  simp [moved, List.zip_append h.symm, List.foldl_append]
theorem flat_filt {α β γ : Type} {F : α → List γ} {g : α → Option β} {G : β → List γ} : ∀ (xs : List α), (∀ x ∈ xs, F x = match g x with | none => [] | some y => G y) → xs.flatMap F = (xs.filterMap g).flatMap G
  | [], _ => rfl
  | x :: xs, h => by
    have e := h x (by simp)
    have ih := flat_filt xs (fun y m => h y (by simp [m]))
    simp only [List.flatMap_cons, List.filterMap_cons, e, ih]
    cases g x <;> simp
theorem rows_eq (p : Plan) (height : Int) (q : List One) : rowsOf p height q = (allMoves q.length).filterMap fun ms => (moved p height q ms).map fun row => (ms, row) := by
  induction q using snoc_ind with
  | h0 => simp [rowsOf, allMoves, moved]
  | h1 q o ih =>
    have e : rowsOf p height (q ++ [o]) = (rowsOf p height q).flatMap (grow p height o) := by simp [rowsOf, List.foldl_append]
    rw [e, ih, List.length_append, List.length_singleton]
    simp only [allMoves, List.filterMap_flatMap]
    refine (flat_filt _ fun ms hm => ?_).symm
    have hl := allMoves_len _ _ hm
    simp only [Mvs, List.map_cons, List.map_nil, List.filterMap_cons, List.filterMap_nil, moved_snoc p height q o ms _ hl]
    cases c : moved p height q ms with
    | none => simp [stepRow]
    | some row =>
      simp only [stepRow, grow, Mvs, Option.map_some, List.filterMap_cons, List.filterMap_nil]
      by_cases c1 : good p height row o .back <;> by_cases c2 : good p height row o .on <;> by_cases c3 : good p height row o .stay <;> simp [c1, c2, c3]
theorem moved_some {p : Plan} {height : Int} {q : List One} {row : List One} : ∀ {ms : List Mv}, moved p height q ms = some row → row = List.zipWith mv q ms := by
  intro ms h
  have K : ∀ (l : List (One × Mv)) (r0 : List One), l.foldl (stepRow p height) (some r0) = some row → row = r0 ++ l.map fun x => mv x.1 x.2 := by
    intro l
    induction l with
    | nil => intro r0 h; simp at h; simp [h]
    | cons x l ih =>
      intro r0 h
      simp only [List.foldl_cons, stepRow] at h
      split at h
      · have := ih _ h
        simp [this]
      · have N : ∀ l : List (One × Mv), l.foldl (stepRow p height) none = none := fun l => by induction l with
          | nil => rfl
          | cons x l ih => simpa [stepRow] using ih
        rw [N] at h; simp at h
  have := K _ _ h
  rw [this]; simp [List.zip, List.map_zipWith]
def left (row : List One) : List One := row.filter fun o => decide (0 ≤ o.f) && decide (o.tail ≤ 2)
def gone (row : List One) : List One := row.filter fun o => decide (2 < o.tail)
def felt (q : List One) (i : Int) : Bool := q.any fun o => decide (0 < o.l) && onP o i
def free (q : List One) : Bool := !(q.any fun o => onP o 0)
def lastIs (q : List One) : Bool :=
  match q.getLast? with
  | none => false
  | some o => decide (o.f = 0) && !o.p
def choicesAt (p : Plan) (x : List Mv × List One) : List Ch :=
  [⟨x.1, -1, false⟩] ++ (if lastIs (left x.2) then [⟨x.1, -1, true⟩] else []) ++ (if free (left x.2) then p.lens.flatMap (fun l => [⟨x.1, l, false⟩, ⟨x.1, l, true⟩]) else [])
def choices (p : Plan) (s : Stand) : List Ch := (rowsOf p s.height s.q).flatMap (choicesAt p)
def comes (row : List One) (c : Ch) : List One :=
  let q := left row ++ (if c.comes ≥ 0 then [⟨0, c.comes, false⟩] else [])
  if c.ticket then q.dropLast ++ (match q.getLast? with | none => [] | some o => [{ o with p := true }]) else q
/-- order, timer, seen -/
def ordered (p : Plan) (s : Stand) (q : List One) (ticket : Bool) : Bool × Int × Bool :=
  if ticket then (true, p.wait, false)
  else if s.up && decide (s.height < p.lift) then (s.up, s.timer, s.seen)
  else if s.up && p.behind && (felt q 2 || !(s.seen || felt q 2)) then (s.up, s.timer, s.seen || felt q 2)
  else if s.up && decide (0 < s.timer) then (s.up, s.timer - 1, s.seen)
  else if p.guard && decide (0 < s.height) && felt q 1 then (true, p.wait, false)
  else (false, 0, false)
def newHeight (p : Plan) (s : Stand) (up : Bool) : Int := if up then (if s.height + 1 < p.lift then s.height + 1 else p.lift) else (if 0 < s.height - 1 then s.height - 1 else 0)
def wordsOf (p : Plan) (s : Stand) (row q : List One) (height : Int) : List Str :=
  (if felt s.q 2 && !felt (left row) 2 then [("counts" : Str)] else []) ++ (if decide (height = 0) && decide (0 < s.height) && q.any (fun o => onP o 1) then [("hits" : Str)] else [])
    ++ (gone row).map (fun _ => ("passes" : Str)) ++ ((gone row).filter fun o => !o.p).map (fun _ => ("unpaid" : Str))
def tick (p : Plan) (s : Stand) (c : Ch) : Stand × List Str :=
  let row := List.zipWith mv s.q c.moves
  let q := comes row c
  let o := ordered p s q c.ticket
  let height := newHeight p s o.1
  (⟨q, height, o.1, o.2.1, o.2.2⟩, wordsOf p s row q height)
/-! what holds of rows -/
structure RowOk (p : Plan) (row : List One) : Prop where
  a : ∀ o ∈ row, -1 ≤ o.f ∧ o.f ≤ 5 ∧ o.l ∈ p.lens ∧ o.tail ≤ 3
  c : chain row = true
theorem chain_snoc : ∀ (q : List One) (o : One), chain (q ++ [o]) = (chain q && lastOk q.getLast? o.f)
  | [], o => rfl
  | [a], o => by simp [chain, lastOk]
  | a :: b :: q, o => by
    have := chain_snoc (b :: q) o
    simp only [List.cons_append] at this ⊢
    simp only [chain, this, List.getLast?_cons_cons, Bool.and_assoc]
theorem mv_tail (o : One) (m : Mv) : (mv o m).tail = o.tail + m.step := by simp [mv, One.tail]; omega
theorem step_b (m : Mv) : -1 ≤ m.step ∧ m.step ≤ 1 := by cases m <;> simp [Mv.step]
theorem moved_ok {p : Plan} {height : Int} {q row : List One} {ms : List Mv} (k : ∀ o ∈ q, o.Ok p) (h : moved p height q ms = some row) : RowOk p row := by
  have K : ∀ (l : List (One × Mv)) (r0 : List One), (∀ x ∈ l, One.Ok p x.1) → RowOk p r0 → l.foldl (stepRow p height) (some r0) = some row → RowOk p row := by
    intro l
    induction l with
    | nil => intro r0 _ r h; simp at h; exact h ▸ r
    | cons x l ih =>
      intro r0 hk r h
      simp only [List.foldl_cons, stepRow] at h
      split at h
      · rename_i g
        refine ih _ (fun y m => hk y (by simp [m])) ⟨fun o ho => ?_, ?_⟩ h
        · simp only [List.mem_append, List.mem_singleton] at ho
          rcases ho with ho | rfl
          · exact r.a o ho
          · have := hk x (by simp)
            have b := step_b x.2
            have e := mv_tail x.1 x.2
            exact ⟨by simp only [mv]; have := this.f0; omega, by simp only [mv]; have := this.f4; omega, this.l, by have := this.t; omega⟩
        · rw [chain_snoc]
          simp only [good, Bool.and_eq_true] at g
          simp only [r.c, Bool.true_and]
          exact g.2
      · have N : ∀ l : List (One × Mv), l.foldl (stepRow p height) none = none := fun l => by induction l with
          | nil => rfl
          | cons x l ih => simpa [stepRow] using ih
        rw [N] at h; simp at h
  exact K _ _ (fun x m => k _ (List.of_mem_zip m).1) ⟨by simp, rfl⟩ h
theorem RowOk.sm {p : Plan} (k : p.Ok) {row : List One} (r : RowOk p row) {o : One} (m : o ∈ row) : o.Sm := by
  have := r.a o m
  have := lens_in k this.2.2.1
  exact ⟨by omega, by omega, by omega, by omega⟩
theorem tail_le (o : One) : o.tail ≤ o.f := by unfold One.tail; split <;> omega
theorem chain_cons {a : One} {q : List One} (h : chain (a :: q) = true) : chain q = true ∧ ∀ o ∈ q, o.f < a.tail := by
  induction q generalizing a with
  | nil => exact ⟨rfl, by simp⟩
  | cons b q ih =>
    simp only [chain, Bool.and_eq_true, decide_eq_true_eq] at h
    refine ⟨h.2, fun o ho => ?_⟩
    simp only [List.mem_cons] at ho
    rcases ho with rfl | ho
    · exact h.1
    · have := (ih h.2).2 o ho
      have := tail_le b
      omega
theorem chain_len : ∀ (q : List One) (n : Nat), chain q = true → (∀ o ∈ q, -1 ≤ o.f) → (∀ o ∈ q, o.f < n) → q.length ≤ n + 1
  | [], n, _, _, _ => by simp
  | a :: q, n, h, h1, h2 => by
    obtain ⟨c1, c2⟩ := chain_cons h
    have t := tail_le a
    have a1 := h1 a (by simp)
    have a2 := h2 a (by simp)
    match n with
    | 0 =>
      have : q = [] := by
        cases q with
        | nil => rfl
        | cons b q => have := c2 b (by simp); have := h1 b (by simp); omega
      simp [this]
    | n + 1 =>
      have := chain_len q n c1 (fun o m => h1 o (by simp [m])) (fun o m => by have := c2 o m; omega)
      simp; omega
theorem chain_sub : ∀ (q : List One) (f : One → Bool), chain q = true → chain (q.filter f) = true
  | [], f, _ => rfl
  | a :: q, f, h => by
    obtain ⟨c1, c2⟩ := chain_cons h
    have ih := chain_sub q f c1
    simp only [List.filter_cons]
    split
    · cases c : q.filter f with
      | nil => rfl
      | cons b r =>
        rw [c] at ih
        simp only [chain, ih, Bool.and_true, decide_eq_true_eq]
        exact c2 b (by have : b ∈ q.filter f := by rw [c]; simp
                       exact (List.mem_filter.1 this).1)
    · exact ih
end KK

set_option Elab.async false
set_option linter.all false
set_option maxRecDepth 100000
set_option maxHeartbeats 1000000
namespace KK
open DS
open PySem (Str)
/-! PF: the law's own ticks -/
theorem One.ix0 (o : One) (h : Hs) : opIx h o.d (.int 0) = some (.int o.f) := rfl
theorem One.ix1 (o : One) (h : Hs) : opIx h o.d (.int 1) = some (.int o.l) := rfl
theorem One.ix2 (o : One) (h : Hs) : opIx h o.d (.int 2) = some (.bl o.p) := rfl
theorem sh_one (o : One) : sh 1 o.d := sh_tup (by simp; exact ⟨sh_int _, sh_int _, sh_bl _⟩)
theorem sh_ones (q : List One) : sh 2 (.lst (q.map One.d)) := sh_lst fun d hd => by
  simp only [List.mem_map] at hd
  obtain ⟨o, _, rfl⟩ := hd
  exact sh_one o
theorem sh_onest (q : List One) : sh 2 (qd q) := sh_tup fun d hd => by
  simp only [List.mem_map] at hd
  obtain ⟨o, _, rfl⟩ := hd
  exact sh_one o
theorem map_isEmpty {α β : Type} (f : α → β) (q : List α) : (q.map f).isEmpty = q.isEmpty := by cases q <;> rfl
theorem ones_ne (q : List One) (h : Hs) : opNe h (.lst (q.map One.d)) (.lst []) = some (.bl (!q.isEmpty)) := by
  rw [ne_nil_l (sh_ones q) (by decide), map_isEmpty]
theorem ones_eq (q : List One) (h : Hs) : opEq h (.lst (q.map One.d)) (.lst []) = some (.bl q.isEmpty) := by
  rw [eq_nil_l (sh_ones q) (by decide), map_isEmpty]
theorem f__law_left_eq {row : List One} (k : ∀ o ∈ row, o.Sm) (L : row.length ≤ LINE) (h : Hs) : f__law_left [.lst (row.map One.d)] h = .ok (.lst ((left row).map One.d)) h := by
  have A : lcLoop (gName 1) (tAnd (tVal (mOp2 opGe (mOp2 opIx (mVar 1) (mVal (.int 0))) (mVal (.int 0)))) (tVal (mOp2 opLe (mOp2 opIx (mCall f__law_ground [(mVar 1)]) (mVal (.int 0))) (mVal (.int 2))))) (mVar 1) [.val (.lst (row.map One.d)), .no] (row.map One.d) [] h = .ok ((left row).map One.d) h := by
    rw [lc_map (p := fun o => decide (0 ≤ o.f) && decide (o.tail ≤ 2)) (q := One.d)]
    · rfl
    · intro o m
      refine ⟨[.val (.lst (row.map One.d)), .val o.d], by simp, ?_, fun _ => by simp⟩
      simp [One.ix0, opGe_ii, f__law_ground_eq (k o m), gd_ix (k o m), opLe_ii]
    · simpa using L
  simp [f__law_left, m__law_left, A]
theorem felt_aux {q : List One} (k : ∀ o ∈ q, o.Sm) (L : q.length ≤ LINE) (i : Int) (x : Slot) (h : Hs) :
    lcLoop (gName 2) (tAnd (tVal (mOp2 opNe (mOp2 opIx (mVar 2) (mVal (.int 1))) (mVal (.int 0)))) (tVal (mOp2 opIn (mVar 1) (mCall f__law_ground [(mVar 2)])))) (mVar 2) [x, .val (.int i), .no] (q.map One.d) [] h = .ok ((q.filter fun o => decide (0 < o.l) && onP o i).map One.d) h := by
  rw [lc_map (p := fun o => decide (0 < o.l) && onP o i) (q := One.d)]
  · rfl
  · intro o m
    refine ⟨[x, .val (.int i), .val o.d], by simp, ?_, fun _ => by simp⟩
    have := (k o m).l1
    simp [One.ix1, opNe_ii, f__law_ground_eq (k o m), gd_in (k o m), onP]
    by_cases c : o.l = 0
    · simp [c]
    · simp [c, show 0 < o.l by omega]
  · simpa using L
theorem filt_any {α : Type} (p : α → Bool) (q : List α) : (!(q.filter p).isEmpty) = q.any p := by
  induction q with
  | nil => rfl
  | cons a q ih => simp only [List.filter_cons, List.any_cons]; cases c : p a <;> simp [← ih]
theorem f__law_feels_l {q : List One} (k : ∀ o ∈ q, o.Sm) (L : q.length ≤ LINE) (i : Int) (h : Hs) : f__law_feels [.lst (q.map One.d), .int i] h = .ok (.bl (felt q i)) h := by
  have A := felt_aux k L i (.val (.lst (q.map One.d))) h
  have B := ones_ne (q.filter fun o => decide (0 < o.l) && onP o i) h
  rw [filt_any] at B
  simp [f__law_feels, m__law_feels, A, B, felt, LINE_eq]
theorem f__law_feels_t {q : List One} (k : ∀ o ∈ q, o.Sm) (L : q.length ≤ LINE) (i : Int) (h : Hs) : f__law_feels [qd q, .int i] h = .ok (.bl (felt q i)) h := by
  have A := felt_aux k L i (.val (qd q)) h
  have B := ones_ne (q.filter fun o => decide (0 < o.l) && onP o i) h
  rw [filt_any] at B
  simp only [qd] at A
  simp [f__law_feels, m__law_feels, A, B, felt, qd, LINE_eq]
/-! moves -/
theorem Mv.step_get (m : Mv) : opGet2 (.dic ["on", "back"] [.int 1, .int (-1)]) m.d (.int 0) = some (.int m.step) := by
  have h1 : ¬ (("on" : Str) = "back") := by decide
  have h2 : ¬ (("on" : Str) = "stay") := by decide
  have h3 : ¬ (("back" : Str) = "stay") := by decide
  cases m <;> simp [opGet2, Mv.d, Mv.s, dicAt, Mv.step, h1, h2, h3]
theorem Mv.back_eq (m : Mv) (h : Hs) : opEq h m.d (.str "back") = some (.bl (decide (m = .back))) := by
  cases m <;> simp [Mv.d, Mv.s, opEq_ss] <;> decide
theorem Plan.ix0 (p : Plan) (h : Hs) : opIx h p.d (.int 0) = some (.int p.lift) := rfl
theorem Plan.ix1 (p : Plan) (h : Hs) : opIx h p.d (.int 1) = some (.tup [.str (wayS p.behind), .int p.wait, .bl p.guard]) := rfl
theorem Plan.ix2 (p : Plan) (h : Hs) : opIx h p.d (.int 2) = some (.tup [.int p.least, .int p.greatest, .bl p.backs, .bl p.bikes]) := rfl
theorem Stand.ix0 (s : Stand) (h : Hs) : opIx h s.d (.int 0) = some (qd s.q) := rfl
theorem Stand.ix1 (s : Stand) (h : Hs) : opIx h s.d (.int 1) = some (.int s.height) := rfl
theorem Ch.ix0 (s : Ch) (h : Hs) : opIx h s.d (.int 0) = some (mvsd s.moves) := rfl
theorem Ch.ix1 (s : Ch) (h : Hs) : opIx h s.d (.int 1) = some (.int s.comes) := rfl
theorem Ch.ix2 (s : Ch) (h : Hs) : opIx h s.d (.int 2) = some (.bl s.ticket) := rfl
theorem last_split {α : Type} (l : List α) : l = [] ∨ ∃ r x, l = r ++ [x] := by
  induction l using snoc_ind with
  | h0 => exact .inl rfl
  | h1 r x _ => exact .inr ⟨r, x, rfl⟩
def mvB : SM := (sSeq (sAsg (gName 6) (mOp2 opAdd (mOp2 opIx (mVar 4) (mVal (.int 0))) (mGet2 (mDicC ["on", "back"] [1, -1]) (mVar 5) (mVal (.int 0)))))
  (sSeq (sAsg (gName 7) (mTup [(mVar 6), (mOp2 opIx (mVar 4) (mVal (.int 1))), (mOp2 opIx (mVar 4) (mVal (.int 2)))]))
  (sSeq (sIf (tAnd (tVal (mOp2 opEq (mVar 5) (mVal (.str "back")))) (tNot (tVal (mOp2 opIx (mOp2 opIx (mVar 0) (mVal (.int 2))) (mVal (.int 2))))))
  (sRet (mVal .non))
  sNext)
  (sSeq (sIf (tAnd (tVal (mOp2 opIn (mVal (.int 1)) (mCall f__law_ground [(mVar 7)]))) (tAnd (tVal (mOp2 opNotIn (mVal (.int 1)) (mCall f__law_ground [(mVar 4)]))) (tVal (mOp2 opLt (mOp2 opIx (mVar 1) (mVal (.int 1))) (mOp2 opIx (mVar 0) (mVal (.int 0)))))))
  (sRet (mVal .non))
  sNext)
  (sSeq (sIf (tAnd (tVal (mOp2 opNe (mPeek 3) (mLst []))) (tVal (mOp2 opLe (mOp2 opIx (mCall f__law_ground [(mOp2 opIx (mPeek 3) (mOp1 opNeg (mVal (.int 1))))]) (mVal (.int 0))) (mVar 6))))
  (sRet (mVal .non))
  sNext)
  (sAppend 3 (mVar 7)))))))
theorem opNotIn_not (h : Hs) (x y : D) (b : Bool) (e : opIn h x y = some (.bl b)) : opNotIn h x y = some (.bl (!b)) := by
  simp only [opIn, opNotIn] at e ⊢
  cases c : inB x y <;> simp_all
theorem mv_body {p : Plan} {s : Stand} {row : List One} {o : One} {m : Mv} (v2 a b c d : Slot) (h : Hs) (k1 : o.Sm) (k2 : (mv o m).Sm) (k3 : ∀ o ∈ row, o.Sm) (L : row.length < LINE) :
    (good p s.height row o m = true → mvB [.val p.d, .val s.d, v2, .own (row.map One.d), .val o.d, .val m.d, a, b] h = .nx [.val p.d, .val s.d, v2, .own ((row ++ [mv o m]).map One.d), .val o.d, .val m.d, .val (.int (mv o m).f), .val (mv o m).d] h) ∧
    (good p s.height row o m = false → mvB [.val p.d, .val s.d, v2, .own (row.map One.d), .val o.d, .val m.d, a, b] h = .rt .non h) := by
  have e : D.tup [.int (mv o m).f, .int o.l, .bl o.p] = (mv o m).d := rfl
  have e2 : o.f + m.step = (mv o m).f := rfl
  have N := opNotIn_not h _ _ _ (gd_in k1 1 h)
  have G1 := f__law_ground_eq k1 h
  have G2 := f__law_ground_eq k2 h
  have I2 := gd_in k2 1 h
  have R := ones_ne row h
  have step := m.step_get
  have L3 : (3 : Nat) ≤ LINE := by decide
  have L0 : (0 : Nat) ≤ LINE := by decide
  have LN : ¬ LINE = 0 := by decide
  by_cases A : m = Mv.back ∧ p.backs = false
  · have g : good p s.height row o m = false := by simp [good, A]
    obtain ⟨rfl, hb⟩ := A
    simp [g, mvB, One.ix0, One.ix1, One.ix2, opAdd_ii, step, e, e2, Mv.back_eq, Plan.ix2, Plan.ix0, Stand.ix1, G1, G2, I2, N, opLt_ii, opLe_ii, L3, L0, LN, L, opNeg_i, hb]
  by_cases B : ((mv o m).tail ≤ 1 ∧ 1 ≤ (mv o m).f) ∧ (1 < o.tail ∨ o.f < 1) ∧ s.height < p.lift
  · have g : good p s.height row o m = false := by
      have := B.2.1
      simp [good, onP, B]
      omega
    simp [g, mvB, One.ix0, One.ix1, One.ix2, opAdd_ii, step, e, e2, Mv.back_eq, Plan.ix2, Plan.ix0, Stand.ix1, G1, G2, I2, N, opLt_ii, opLe_ii, L3, L0, LN, L, opNeg_i, A, B]
  have gg : good p s.height row o m = lastOk row.getLast? (mv o m).f := by
    have a : (!decide (m = .back) || p.backs) = true := by
      simp only [not_and, Bool.not_eq_false] at A
      by_cases c : m = .back <;> simp [c, A]
    have b : (!(onP (mv o m) 1 && !onP o 1) || decide (p.lift ≤ s.height)) = true := by
      simp [onP]
      omega
    unfold good
    rw [a, b]; simp
  rcases last_split row with rfl | ⟨r, x, rfl⟩
  · have R : opNe h (.lst []) (.lst []) = some (.bl false) := ones_ne [] h
    have g : good p s.height [] o m = true := by rw [gg]; rfl
    simp [g, mvB, One.ix0, One.ix1, One.ix2, opAdd_ii, step, e, e2, Mv.back_eq, Plan.ix2, Plan.ix0, Stand.ix1, G1, G2, I2, N, opLt_ii, opLe_ii, L3, L0, LN, L, opNeg_i]
    rw [if_neg A, if_neg B]
    simp [mvB, One.ix0, One.ix1, One.ix2, opAdd_ii, step, e, e2, Mv.back_eq, Plan.ix2, Plan.ix0, Stand.ix1, G1, G2, I2, N, opLt_ii, opLe_ii, L3, L0, LN, L, opNeg_i, R]
  · have R : opNe h (.lst (r.map One.d ++ [x.d])) (.lst []) = some (.bl true) := by
      have := ones_ne (r ++ [x]) h
      rw [show (r ++ [x]).isEmpty = false by cases r <;> rfl] at this
      simpa using this
    have Z := opIx_lz h x.d (r.map One.d)
    have kx := k3 x (by simp)
    have G3 := f__law_ground_eq kx h
    have Z3 := gd_ix kx h
    have g : good p s.height (r ++ [x]) o m = decide ((mv o m).f < x.tail) := by rw [gg]; simp [lastOk]
    simp at L
    simp [g, mvB, One.ix0, One.ix1, One.ix2, opAdd_ii, step, e, e2, Mv.back_eq, Plan.ix2, Plan.ix0, Stand.ix1, G1, G2, I2, N, opLt_ii, opLe_ii, L3, L0, LN, L, opNeg_i]
    rw [if_neg A, if_neg B]
    by_cases C : (mv o m).f < x.tail
    · have C' : ¬ x.tail ≤ (mv o m).f := by omega
      simp [mvB, One.ix0, One.ix1, One.ix2, opAdd_ii, step, e, e2, Mv.back_eq, Plan.ix2, Plan.ix0, Stand.ix1, G1, G2, I2, N, opLt_ii, opLe_ii, L3, L0, LN, L, opNeg_i, R, Z, G3, Z3, C, C']
    · have C' : x.tail ≤ (mv o m).f := by omega
      simp [mvB, One.ix0, One.ix1, One.ix2, opAdd_ii, step, e, e2, Mv.back_eq, Plan.ix2, Plan.ix0, Stand.ix1, G1, G2, I2, N, opLt_ii, opLe_ii, L3, L0, LN, L, opNeg_i, R, Z, G3, Z3, C, C']
def vno : Slot := .no
def pd (x : One × Mv) : D := .tup [x.1.d, x.2.d]
theorem mv_loop {p : Plan} {s : Stand} (v2 : Slot) (h : Hs) : ∀ (xs : List (One × Mv)) (row : List One) (a b c d : Slot), (∀ x ∈ xs, x.1.Sm ∧ (mv x.1 x.2).Sm) → (∀ o ∈ row, o.Sm) → row.length + xs.length ≤ LINE →
    match xs.foldl (stepRow p s.height) (some row) with
    | some r => ∃ a' b' c' d', forLoop (gTup [(gName 4), (gName 5)]) mvB (xs.map pd) [.val p.d, .val s.d, v2, .own (row.map One.d), a, b, c, d] h = .nx [.val p.d, .val s.d, v2, .own (r.map One.d), a', b', c', d'] h
    | none => forLoop (gTup [(gName 4), (gName 5)]) mvB (xs.map pd) [.val p.d, .val s.d, v2, .own (row.map One.d), a, b, c, d] h = .rt .non h := by
  intro xs
  induction xs with
  | nil => intro row a b c d _ _ _; exact ⟨a, b, c, d, rfl⟩
  | cons x xs ih =>
    intro row a b c d K R L
    obtain ⟨o, m⟩ := x
    have Kx := K (o, m) (by simp)
    obtain ⟨M1, M2⟩ := mv_body (p := p) (s := s) (row := row) (o := o) (m := m) v2 c d vno vno h Kx.1 Kx.2 R (by simp at L; omega)
    simp only [List.map_cons, List.foldl_cons, stepRow]
    unfold forLoop
    have G : gTup [(gName 4), (gName 5)] (pd (o, m)) [.val p.d, .val s.d, v2, .own (row.map One.d), a, b, c, d] = some [.val p.d, .val s.d, v2, .own (row.map One.d), .val o.d, .val m.d, c, d] := by simp [pd]
    rw [G]
    simp only
    cases g : good p s.height row o m with
    | true =>
      rw [M1 g]
      simp only [if_true, turn_nx]
      exact ih (row ++ [mv o m]) _ _ _ _ (fun y hy => K y (by simp [hy])) (fun y hy => by
        simp only [List.mem_append, List.mem_singleton] at hy
        rcases hy with hy | rfl
        · exact R y hy
        · exact Kx.2) (by simp at L ⊢; omega)
    | false =>
      rw [M2 g]
      simp only [Bool.false_eq_true, if_false, turn_rt]
      have N : ∀ l : List (One × Mv), l.foldl (stepRow p s.height) none = none := fun l => by induction l with
        | nil => rfl
        | cons x l ih => simpa [stepRow] using ih
      rw [N]
      trivial
def optRow : Option (List One) → D
  | none => .non
  | some r => .lst (r.map One.d)
theorem zip_mvs (q : List One) (ms : List Mv) : zipL (q.map One.d) (ms.map Mv.d) = (q.zip ms).map pd := by
  rw [zipL_map, List.zip_map, List.map_map]; rfl
theorem f__law_moved_eq {p : Plan} {s : Stand} {ms : List Mv} (h : Hs) (K : ∀ x ∈ s.q.zip ms, x.1.Sm ∧ (mv x.1 x.2).Sm) (L : (s.q.zip ms).length ≤ LINE) : f__law_moved [p.d, s.d, mvsd ms] h = .ok (optRow (moved p s.height s.q ms)) h := by
  have A := mv_loop (p := p) (s := s) (.val (mvsd ms)) h (s.q.zip ms) [] .no .no .no .no K (by simp) (by simpa using L)
  rw [← zip_mvs] at A
  simp only [mvsd, qd, mvB] at A
  unfold moved
  split at A
  · rename_i r e
    obtain ⟨a, b, c, d, A⟩ := A
    simp at A
    rw [e]
    simp [f__law_moved, m__law_moved, LINE_eq, Stand.ix0, qd, mvsd, A, optRow]
  · rename_i e
    simp at A
    rw [e]
    simp [f__law_moved, m__law_moved, LINE_eq, Stand.ix0, qd, mvsd, A, optRow]
theorem upS_eq (b : Bool) (h : Hs) : opEq h (.str (upS b)) (.str "up") = some (.bl b) := by cases b <;> simp [upS, opEq_ss] <;> decide
theorem way_eq (b : Bool) (h : Hs) : opEq h (.str (wayS b)) (.str "behind") = some (.bl b) := by rw [opEq_ss, wayS_beq]
def ordD (o : Bool × Int × Bool) : D := .tup [.str (upS o.1), .int o.2.1, .bl o.2.2]
theorem f__law_ordered_eq {p : Plan} {s : Stand} {q : List One} (k : ∀ o ∈ q, o.Sm) (L : q.length ≤ LINE) (t : Bool) (h : Hs) : f__law_ordered [p.d, s.d, .lst (q.map One.d), .bl t] h = .ok (ordD (ordered p s q t)) h := by
  have F1 := f__law_feels_l k L 1 h
  have F2 := f__law_feels_l k L 2 h
  have L3 : (3 : Nat) ≤ LINE := by decide
  obtain ⟨sq, height, up, timer, seen⟩ := s
  obtain ⟨lift, behind, wait, guard, least, greatest, backs, bikes⟩ := p
  have U := upS_eq up h
  have W := way_eq behind h
  have E1 : ("up" : Str) = upS true := rfl
  have E2 : ("down" : Str) = upS false := rfl
  simp only [f__law_ordered, m__law_ordered, Plan.d, Stand.d, ordered, ordD]
  cases t
  · cases up
    · simp [F1, F2, U, W, L3, opLt_ii, opGt_ii, opSub_ii]
      cases guard <;> simp [F1, F2, U, W, L3, opLt_ii, opGt_ii, opSub_ii, upS]
      by_cases c : 0 < height <;> simp [c, F1, F2, L3]
      cases felt q 1 <;> simp
    · by_cases c1 : height < lift
      · simp [F1, F2, U, W, L3, opLt_ii, opGt_ii, opSub_ii, c1]
      · simp [F1, F2, U, W, L3, opLt_ii, opGt_ii, opSub_ii, c1]
        cases behind <;> cases hf : felt q 2 <;> cases seen <;> simp [F1, F2, U, W, L3, opLt_ii, opGt_ii, opSub_ii, c1, hf, wayS] <;>
        by_cases c2 : 0 < timer <;> simp [F1, F2, U, W, L3, opLt_ii, opGt_ii, opSub_ii, c2] <;>
        cases guard <;> simp [F1, F2, U, W, L3, opLt_ii, opGt_ii, opSub_ii, upS] <;>
        by_cases c3 : 0 < height <;> simp [F1, F2, U, W, L3, opLt_ii, opGt_ii, opSub_ii, upS, c3] <;> cases felt q 1 <;> simp [L3]
  · simp [L3, upS]
def Sw (ws : List Str) : D := .lst (ws.map D.str)
end KK

set_option Elab.async false
set_option linter.all false
set_option maxRecDepth 100000
set_option maxHeartbeats 1000000
namespace KK
open DS
open PySem (Str)
/-! PG: the law's own tick -/
def lawWords (row : List One) : List Str := row.flatMap fun o => if decide (2 < o.tail) then ("passes" : Str) :: (if !o.p then [("unpaid" : Str)] else []) else []
theorem lawWords_eq {p : Plan} {row : List One} (k : RowOk p row) : lawWords row = (gone row).map (fun _ => ("passes" : Str)) ++ ((gone row).filter fun o => !o.p).map (fun _ => ("unpaid" : Str)) := by
  cases row with
  | nil => rfl
  | cons a r =>
    obtain ⟨c1, c2⟩ := chain_cons k.c
    have ha := k.a a (by simp)
    have G : gone r = [] := by
      simp only [gone, List.filter_eq_nil_iff, decide_eq_true_eq]
      intro o ho
      have := c2 o ho
      have := tail_le o
      omega
    have W : ∀ l : List One, gone l = [] → lawWords l = [] := by
      intro l hl
      simp only [gone, List.filter_eq_nil_iff, decide_eq_true_eq] at hl
      simp only [lawWords, List.flatMap_eq_nil_iff]
      intro o ho
      simp [hl o ho]
    have W' := W r G
    simp only [lawWords, List.flatMap_cons] at W' ⊢
    rw [W']
    simp only [gone] at G ⊢
    rw [List.filter_cons, G]
    by_cases c : 2 < a.tail <;> cases hp : a.p <;> simp [c, hp]
def tB1 : SM := (sIf (tVal (mOp2 opGt (mOp2 opIx (mCall f__law_ground [(mVar 10)]) (mVal (.int 0))) (mVal (.int 2))))
  (sAsg (gName 5) (mOp2 opAdd (mOp2 opAdd (mVar 5) (mLst [(mVal (.str "passes"))])) (mOp2 opMul (mLst [(mVal (.str "unpaid"))]) (mOpN (op1N opInt) [(mNot (mOp2 opIx (mVar 10) (mVal (.int 2))))]))))
  sNext)
theorem lawWords_snoc (r : List One) (o : One) : lawWords (r ++ [o]) = lawWords r ++ (if decide (2 < o.tail) then ("passes" : Str) :: (if !o.p then [("unpaid" : Str)] else []) else []) := by
  simp [lawWords]
theorem lawWords_len (r : List One) : (lawWords r).length ≤ 2 * r.length := by
  apply flat_len
  intro o _
  by_cases c : 2 < o.tail <;> cases o.p <;> simp [c]
theorem words_loop {row : List One} (k : ∀ o ∈ row, o.Sm) (L : row.length ≤ 100) (w0 : List Str) (L0 : w0.length ≤ 100) (v0 v1 v2 v3 v4 v6 v7 v8 v9 v10 : Slot) (h : Hs) :
    ∃ v10', forLoop (gName 10) tB1 (row.map One.d) [v0, v1, v2, v3, v4, .val (Sw w0), v6, v7, v8, v9, v10] h = .nx [v0, v1, v2, v3, v4, .val (Sw (w0 ++ lawWords row)), v6, v7, v8, v9, v10'] h := by
  obtain ⟨e', h1, z, h2⟩ := for_pre (g := gName 10) (b := tB1) (h := h) (enc := One.d) (fun pre e => ∃ z, e = [v0, v1, v2, v3, v4, .val (Sw (w0 ++ lawWords pre)), v6, v7, v8, v9, z]) row [v0, v1, v2, v3, v4, .val (Sw w0), v6, v7, v8, v9, v10] (by
    rintro pre o e hp ⟨z, rfl⟩
    have sm := k o (pre_mem hp)
    have G := f__law_ground_eq sm h
    have X := gd_ix sm h
    have l1 := lawWords_len pre
    have l2 := pre_lt hp
    have A1 := opAdd_ll h ((w0 ++ lawWords pre).map D.str) [.str "passes"] (by simp [LINE_eq]; omega)
    have M1 := opMul_lb h [.str "unpaid"] (!o.p) (by decide)
    have A2 := opAdd_ll h ((w0 ++ lawWords pre).map D.str ++ [.str "passes"]) (if (!o.p) = true then [.str "unpaid"] else []) (by cases o.p <;> simp [LINE_eq] <;> omega)
    refine ⟨[v0, v1, v2, v3, v4, .val (Sw (w0 ++ lawWords pre)), v6, v7, v8, v9, .val o.d], [v0, v1, v2, v3, v4, .val (Sw (w0 ++ lawWords (pre ++ [o]))), v6, v7, v8, v9, .val o.d], by simp, .inl ?_, ⟨_, rfl⟩⟩
    by_cases c : 2 < o.tail
    · cases hp : o.p <;> simp [hp] at M1 A1 A2
      · simp [tB1, G, X, opGt_ii, c, One.ix2, opInt_b, A1, A2, M1, Sw, lawWords_snoc, LINE_eq, hp]
      · simp [tB1, G, X, opGt_ii, c, One.ix2, opInt_b, A1, A2, M1, Sw, lawWords_snoc, LINE_eq, hp]
    · simp [tB1, G, X, opGt_ii, c, lawWords_snoc]) ⟨v10, by simp [lawWords]⟩
  exact ⟨z, by rw [h1, h2]⟩
def tickTail : SM := (sSeq (sAsg (gTup [(gName 6), (gName 7), (gName 8)]) (mCall f__law_ordered [(mVar 0), (mVar 1), (mVar 4), (mOp2 opIx (mVar 2) (mVal (.int 2)))]))
  (sSeq (sAsg (gName 9) (mIf (tVal (mOp2 opEq (mVar 6) (mVal (.str "up")))) (mOp2 opAdd (mOp2 opIx (mVar 1) (mVal (.int 1))) (mVal (.int 1))) (mOp2 opSub (mOp2 opIx (mVar 1) (mVal (.int 1))) (mVal (.int 1)))))
  (sSeq (sAsg (gName 9) (mOpN (op2N opMax) [(mVal (.int 0)), (mOpN (op2N opMin) [(mOp2 opIx (mVar 0) (mVal (.int 0))), (mVar 9)])]))
  (sSeq (sIf (tAnd (tVal (mOp2 opEq (mOp2 opIx (mVar 1) (mVal (.int 1))) (mVal (.int 1)))) (tAnd (tVal (mOp2 opEq (mVar 9) (mVal (.int 0)))) (tVal (mOp2 opNe (mLc [10] (iSeq (mVar 4)) (gName 10) (tVal (mOp2 opIn (mVal (.int 1)) (mCall f__law_ground [(mVar 10)]))) (mVar 10)) (mLst [])))))
  (sAsg (gName 5) (mOp2 opAdd (mVar 5) (mLst [(mVal (.str "hits"))])))
  sNext)
  (sSeq (sFor (iSeq (mVar 3)) (gName 10) tB1)
  (sRet (mTup [(mTup [(mOpN (op1N opTuple) [(mVar 4)]), (mVar 9), (mVar 6), (mVar 7), (mVar 8)]), (mVar 5)])))))))
theorem any_lc {q : List One} (k : ∀ o ∈ q, o.Sm) (L : q.length ≤ LINE) (i : Int) (e : En) (h : Hs) (x : Nat) (he : (e.set x (.val .non)).length = 0 → False) (hg : ∀ d : D, (e.set x (.val d))[x]? = some (.val d)) :
    lcLoop (gName x) (tVal (mOp2 opIn (mVal (.int i)) (mCall f__law_ground [(mVar x)]))) (mVar x) e (q.map One.d) [] h = .ok ((q.filter fun o => onP o i).map One.d) h := by
  rw [lc_map (p := fun o => onP o i) (q := One.d)]
  · rfl
  · intro o m
    refine ⟨e.set x (.val o.d), rfl, ?_, fun _ => by simp [hg]⟩
    simp [hg, f__law_ground_eq (k o m), gd_in (k o m), onP]
  · simpa using L
theorem tickTail_eq {p : Plan} {s : Stand} {c : Ch} {row q : List One} {w0 : List Str} (kh : 0 ≤ s.height) (kh2 : s.height ≤ p.lift) (kl : 1 ≤ p.lift) (k1 : ∀ o ∈ row, o.Sm) (L1 : row.length ≤ 50) (k2 : ∀ o ∈ q, o.Sm) (L2 : q.length ≤ LINE) (L0 : w0.length ≤ 50) (h : Hs) :
    tickTail [.val p.d, .val s.d, .val c.d, .val (.lst (row.map One.d)), .val (.lst (q.map One.d)), .val (Sw w0), .no, .no, .no, .no, .no] h =
      .rt (.tup [(Stand.mk q (newHeight p s (ordered p s q c.ticket).1) (ordered p s q c.ticket).1 (ordered p s q c.ticket).2.1 (ordered p s q c.ticket).2.2).d,
        Sw (w0 ++ (if decide (newHeight p s (ordered p s q c.ticket).1 = 0) && decide (0 < s.height) && q.any (fun o => onP o 1) then [("hits" : Str)] else []) ++ lawWords row)]) h := by
  have O := f__law_ordered_eq (p := p) (s := s) k2 L2 c.ticket h
  generalize ordered p s q c.ticket = ord at O ⊢
  obtain ⟨up, timer, seen⟩ := ord
  simp only [ordD] at O
  have U := upS_eq up h
  have NH : (if (0 : Int) < (if (if up then s.height + 1 else s.height - 1) < p.lift then (if up then s.height + 1 else s.height - 1) else p.lift) then (if (if up then s.height + 1 else s.height - 1) < p.lift then (if up then s.height + 1 else s.height - 1) else p.lift) else 0) = newHeight p s up := by
    cases up <;> simp [newHeight] <;> (repeat' split) <;> omega
  have AL := any_lc k2 L2 1 [.val p.d, .val s.d, .val c.d, .val (.lst (row.map One.d)), .val (.lst (q.map One.d)), .val (Sw w0), .val (.str (upS up)), .val (.int timer), .val (.bl seen), .val (.int (newHeight p s up)), .no] h 10 (by simp) (by intro d; rfl)
  have NE := ones_ne (q.filter fun o => onP o 1) h
  rw [filt_any] at NE
  generalize (q.any fun o => onP o 1) = ha at NE ⊢
  have ADD := opAdd_ll h (w0.map D.str) [.str "hits"] (by simp [LINE_eq]; omega)
  have W1 := words_loop k1 (by omega) w0 (by omega) (.val p.d) (.val s.d) (.val c.d) (.val (.lst (row.map One.d))) (.val (.lst (q.map One.d))) (.val (.str (upS up))) (.val (.int timer)) (.val (.bl seen)) (.val (.int (newHeight p s up))) .no h
  have W2 := words_loop k1 (by omega) (w0 ++ [("hits" : Str)]) (by simp; omega) (.val p.d) (.val s.d) (.val c.d) (.val (.lst (row.map One.d))) (.val (.lst (q.map One.d))) (.val (.str (upS up))) (.val (.int timer)) (.val (.bl seen)) (.val (.int (newHeight p s up))) .no h
  obtain ⟨z1, W1⟩ := W1
  obtain ⟨z2, W2⟩ := W2
  have L5 : (5 : Nat) ≤ LINE := by decide
  have LN : ¬ LINE = 0 := by decide
  have L2' : (2 : Nat) ≤ LINE := by decide
  have L1' : (1 : Nat) ≤ LINE := by decide
  simp [tickTail, Ch.ix2, O, Plan.ix0, Stand.ix1, U, opAdd_ii, opSub_ii, opMax_ii, opMin_ii, opEq_ii, NH]
  have hh : newHeight p s up = 0 → 0 < s.height → s.height = 1 := by
    intro e1 e2
    unfold newHeight at e1
    cases up
    · simp only [Bool.false_eq_true, if_false] at e1; split at e1 <;> omega
    · simp only [if_true] at e1; split at e1 <;> omega
  have SD : ∀ i : Int, (Stand.mk q i up timer seen).d = .tup [.tup (q.map One.d), .int i, .str (upS up), .int timer, .bl seen] := fun _ => rfl
  by_cases c1 : s.height = 1
  · by_cases c2 : newHeight p s up = 0
    · cases ha
      · simp [c1, c2]
        simp only [c2] at AL W1
        rw [AL]
        simp [NE, W1, L5, L2', LINE_eq, opTuple_l, SD]
      · simp [c1, c2]
        simp only [c2] at AL W2
        rw [AL]
        simp [NE, L5, L2', L1', LINE_eq, opTuple_l, SD, Sw, ADD]
        have SW : Sw (w0 ++ [("hits" : Str)]) = .lst (w0.map .str ++ [.str "hits"]) := by simp [Sw]
        rw [SW] at W2
        rw [W2]
        simp [opTuple_l, Sw, LINE_eq]
    · simp [c1, c2, W1, opTuple_l, SD, LINE_eq]
  · by_cases c2 : newHeight p s up = 0 ∧ 0 < s.height
    · exact absurd (hh c2.1 c2.2) c1
    · simp [c1, c2, W1, opTuple_l, SD, LINE_eq]
theorem comes_sm {row : List One} {c : Ch} (ls : ∀ o ∈ left row, o.Sm) (cs : c.comes ≠ -1 → (One.mk 0 c.comes false).Sm) : ∀ o ∈ comes row c, o.Sm := by
  have K : ∀ o ∈ left row ++ (if c.comes ≥ 0 then [⟨0, c.comes, false⟩] else []), o.Sm := by
    intro o ho
    simp only [List.mem_append] at ho
    rcases ho with ho | ho
    · exact ls o ho
    · split at ho
      · simp only [List.mem_singleton] at ho
        exact ho ▸ cs (by omega)
      · simp at ho
  intro o ho
  simp only [comes] at ho
  split at ho
  · simp only [List.mem_append] at ho
    rcases ho with ho | ho
    · exact K o (List.dropLast_subset _ ho)
    · split at ho
      · simp at ho
      · rename_i x hx
        simp only [List.mem_singleton] at ho
        have := K x (List.mem_of_getLast? hx)
        rw [ho]
        exact ⟨this.f1, this.f2, this.l1, this.l2⟩
  · exact K o ho
theorem comes_len (row : List One) (c : Ch) : (comes row c).length ≤ (left row).length + 2 := by
  have K : (left row ++ (if c.comes ≥ 0 then [One.mk 0 c.comes false] else [])).length ≤ (left row).length + 1 := by
    split <;> simp
  simp only [comes]
  generalize left row ++ (if c.comes ≥ 0 then [One.mk 0 c.comes false] else []) = q at K ⊢
  split
  · rw [List.length_append, List.length_dropLast]
    cases q.getLast? <;> simp <;> omega
  · omega
structure Ch.Ok (p : Plan) (s : Stand) (c : Ch) : Prop where
  m : (moved p s.height s.q c.moves).isSome = true
  c1 : c.comes = -1 ∨ c.comes ∈ p.lens
  t : c.ticket = true → left (List.zipWith mv s.q c.moves) ≠ [] ∨ c.comes ≠ -1
theorem Stand.Ok.sm {p : Plan} (k : p.Ok) {s : Stand} (ks : s.Ok p) : ∀ o ∈ s.q, o.Sm := fun o m => by
  have := ks.q o m
  have l := lens_in k this.l
  have := this.f0
  have := (ks.q o m).f4
  exact ⟨by omega, by omega, by omega, by omega⟩
theorem Stand.Ok.len {p : Plan} {s : Stand} (ks : s.Ok p) : s.q.length ≤ 6 :=
  chain_len s.q 5 ks.c (fun o m => by have := (ks.q o m).f0; omega) (fun o m => by have := (ks.q o m).f4; omega)
theorem mv_sm {p : Plan} (k : p.Ok) {s : Stand} (ks : s.Ok p) {ms : List Mv} : ∀ x ∈ s.q.zip ms, x.1.Sm ∧ (mv x.1 x.2).Sm := fun x hx => by
  have m := (List.of_mem_zip hx).1
  have sm := ks.sm k _ m
  refine ⟨sm, ?_⟩
  have b := step_b x.2
  obtain ⟨a1, a2, a3, a4⟩ := sm
  have f := (ks.q _ m).f4
  have f0 := (ks.q _ m).f0
  exact ⟨by simp only [mv]; omega, by simp only [mv]; omega, a3, a4⟩
theorem RowOk.len {p : Plan} {row : List One} (k : RowOk p row) : row.length ≤ 7 :=
  chain_len row 6 k.c (fun o m => (k.a o m).1) (fun o m => by have := (k.a o m).2.1; omega)
theorem f__law_tick_eq {p : Plan} {s : Stand} {c : Ch} (k : p.Ok) (ks : s.Ok p) (kc : c.Ok p s) (h : Hs) : f__law_tick [p.d, s.d, c.d] h = .ok (.tup [(tick p s c).1.d, Sw (tick p s c).2]) h := by
  have sq := ks.sm k
  have len := ks.len
  have M := f__law_moved_eq (p := p) (s := s) (ms := c.moves) h (mv_sm k ks) (by rw [LINE_eq, List.length_zip]; omega)
  obtain ⟨row, hr⟩ := Option.isSome_iff_exists.1 kc.m
  have hz := moved_some hr
  have ro := moved_ok ks.q hr
  have rl := ro.len
  rw [hr] at M
  simp only [optRow] at M
  have rs : ∀ o ∈ row, o.Sm := fun o m => ro.sm k m
  have LF := f__law_left_eq rs (by rw [LINE_eq]; omega) h
  have ls : ∀ o ∈ left row, o.Sm := fun o m => rs o (List.mem_filter.1 m).1
  have ll : (left row).length ≤ 7 := by have := List.length_filter_le (fun o : One => decide (0 ≤ o.f) && decide (o.tail ≤ 2)) row; unfold left; omega
  have F1 := f__law_feels_t sq (by rw [LINE_eq]; omega) 2 h
  have F2 := f__law_feels_l ls (by rw [LINE_eq]; omega) 2 h
  have MU := opMul_lb h [.str "counts"] (felt s.q 2 && !felt (left row) 2) (by decide)
  have cs : c.comes ≠ -1 → (One.mk 0 c.comes false).Sm := fun e => by
    have := lens_in k (kc.c1.resolve_left e)
    exact ⟨by simp, by simp, by simp only; omega, by simp only; omega⟩
  have L3' : (3 : Nat) ≤ LINE := by decide
  have hq : ∀ o ∈ comes row c, o.Sm := comes_sm ls cs
  have hl : (comes row c).length ≤ 20 := by have := comes_len row c; omega
  have T := tickTail_eq (p := p) (s := s) (c := c) (row := row) (q := comes row c) (w0 := if felt s.q 2 && !felt (left row) 2 then [("counts" : Str)] else []) ks.h1 ks.h2 k.l1 rs (by omega) hq (by rw [LINE_eq]; omega) (by split <;> simp) h
  have L1' : (1 : Nat) ≤ LINE := by decide
  have E : (tick p s c) = (⟨comes row c, newHeight p s (ordered p s (comes row c) c.ticket).1, (ordered p s (comes row c) c.ticket).1, (ordered p s (comes row c) c.ticket).2.1, (ordered p s (comes row c) c.ticket).2.2⟩, wordsOf p s row (comes row c) (newHeight p s (ordered p s (comes row c) c.ticket).1)) := by
    simp only [tick, ← hz]
  have WE : wordsOf p s row (comes row c) (newHeight p s (ordered p s (comes row c) c.ticket).1) = ((if felt s.q 2 && !felt (left row) 2 then [("counts" : Str)] else []) ++ (if decide (newHeight p s (ordered p s (comes row c) c.ticket).1 = 0) && decide (0 < s.height) && (comes row c).any (fun o => onP o 1) then [("hits" : Str)] else []) ++ lawWords row) := by
    rw [lawWords_eq ro, wordsOf]; simp only [List.append_assoc]
  rw [E, WE]
  have body : f__law_tick [p.d, s.d, c.d] h = (tickTail [.val p.d, .val s.d, .val c.d, .val (.lst (row.map One.d)), .val (.lst ((comes row c).map One.d)), .val (Sw (if felt s.q 2 && !felt (left row) 2 then [("counts" : Str)] else [])), .no, .no, .no, .no, .no] h).fin := by
    have SW : ∀ b : Bool, Sw (if b then [("counts" : Str)] else []) = .lst (if b then [.str "counts"] else []) := fun b => by cases b <;> rfl
    rw [SW]
    simp only [f__law_tick, m__law_tick]
    by_cases c1 : c.comes = -1
    · cases ht : c.ticket
      · have C : comes row c = left row := by simp [comes, c1, ht]
        simp [Ch.ix0, Ch.ix1, Ch.ix2, M, LF, F1, F2, Stand.ix0, opInt_b, MU, c1, ht, opGt_ii, opNeg_i, L1', L3', C, tickTail, tB1]
      · obtain ⟨r, x, e⟩ := (last_split (left row)).resolve_left (by have := kc.t ht; rw [← hz] at this; exact this.resolve_right (by simp [c1]))
        have rl2 : (left row).length = r.length + 1 := by rw [e]; simp
        have C : comes row c = r ++ [{ x with p := true }] := by simp [comes, c1, ht, e]
        rw [e] at LF F2 MU
        rw [e]
        simp at LF
        have Z := opIx_lz h x.d (r.map One.d)
        have I := opSl_initl x.d (r.map One.d)
        have A := opAdd_ll h (r.map One.d) [.tup [.int x.f, .int x.l, .bl true]] (by simp [LINE_eq]; omega)
        have XD : (One.mk x.f x.l true).d = .tup [.int x.f, .int x.l, .bl true] := rfl
        simp at F2
        simp [Ch.ix0, Ch.ix1, Ch.ix2, M, LF, F1, F2, Stand.ix0, opInt_b, MU, ht, opGt_ii, opNeg_i, L1', L3', C, tickTail, tB1, c1, Z, I, One.ix0, One.ix1, A, XD]
    · have c2 : -1 < c.comes := by
        have := lens_in k (kc.c1.resolve_left c1); omega
      have c3 : 0 ≤ c.comes := by omega
      have A := opAdd_ll h ((left row).map One.d) [.tup [.int 0, .int c.comes, .bl false]] (by simp [LINE_eq]; omega)
      have A2 := opAdd_ll h ((left row).map One.d) [.tup [.int 0, .int c.comes, .bl true]] (by simp [LINE_eq]; omega)
      have XD : ∀ b : Bool, (One.mk 0 c.comes b).d = .tup [.int 0, .int c.comes, .bl b] := fun _ => rfl
      have Z := opIx_lz h (.tup [.int 0, .int c.comes, .bl false]) ((left row).map One.d)
      have I := opSl_initl (.tup [.int 0, .int c.comes, .bl false]) ((left row).map One.d)
      cases ht : c.ticket
      · have C : comes row c = left row ++ [⟨0, c.comes, false⟩] := by simp [comes, c3, ht]
        simp [Ch.ix0, Ch.ix1, Ch.ix2, M, LF, F1, F2, Stand.ix0, opInt_b, MU, ht, opGt_ii, opNeg_i, L1', L3', C, tickTail, tB1, c1, c2, A, XD]
      · have C : comes row c = left row ++ [⟨0, c.comes, true⟩] := by simp [comes, c3, ht]
        simp [Ch.ix0, Ch.ix1, Ch.ix2, M, LF, F1, F2, Stand.ix0, opInt_b, MU, ht, opGt_ii, opNeg_i, L1', L3', C, tickTail, tB1, c1, c2, A, A2, Z, I, XD]
  rw [body, T]
  rfl
end KK

set_option Elab.async false
set_option linter.all false
set_option maxRecDepth 100000
set_option maxHeartbeats 1000000
namespace KK
open DS
open PySem (Str)
/-! PH: the law's own choices -/
theorem allMoves_card : ∀ n, (allMoves n).length = 3 ^ n
  | 0 => rfl
  | n + 1 => by
    rw [allMoves, Nat.pow_succ, ← allMoves_card n]
    generalize allMoves n = l
    induction l with
    | nil => rfl
    | cons r l ih => rw [List.flatMap_cons, List.length_append, ih, List.length_cons]; simp [Mvs]; omega
theorem L0' : (0 : Nat) ≤ LINE := by decide
theorem L1' : (1 : Nat) ≤ LINE := by decide
theorem L2' : (2 : Nat) ≤ LINE := by decide
theorem L3' : (3 : Nat) ≤ LINE := by decide
theorem L5' : (5 : Nat) ≤ LINE := by decide
theorem Lg0' : (0 : Nat) < LINE := by decide
theorem Lg1' : (1 : Nat) < LINE := by decide
theorem Lg2' : (2 : Nat) < LINE := by decide
def amIn : SM := (sAsg (gName 3) (mOp2 opAdd (mVar 3) (mLc [5] (iSeq (mLst [(mVal (.str "back")), (mVal (.str "on")), (mVal (.str "stay"))])) (gName 5) tYes (mOp2 opAdd (mVar 4) (mTup [(mVar 5)])))))
def growM (r : List Mv) : List (List Mv) := Mvs.map fun m => r ++ [m]
theorem allMoves_succ (n : Nat) : allMoves (n + 1) = (allMoves n).flatMap growM := rfl
theorem am_inner {n : Nat} (hn : n ≤ 7) (v0 v1 v2 v4 v5 : Slot) (h : Hs) :
    ∃ a b, forLoop (gName 4) amIn ((allMoves n).map mvsd) [v0, v1, v2, .val (.lst []), v4, v5] h = .nx [v0, v1, v2, .val (.lst ((allMoves (n + 1)).map mvsd)), a, b] h := by
  have N3 : 3 ^ n ≤ 2187 := Nat.pow_le_pow_right (by decide) hn
  obtain ⟨e', h1, a, b, h2⟩ := for_pre (g := gName 4) (b := amIn) (h := h) (enc := mvsd) (fun pre e => ∃ a b, e = [v0, v1, v2, .val (.lst ((pre.flatMap growM).map mvsd)), a, b]) (allMoves n) [v0, v1, v2, .val (.lst []), v4, v5] (by
    rintro pre ms e hp ⟨a, b, rfl⟩
    have hl := allMoves_len n ms (pre_mem hp)
    have l2 := pre_lt hp
    rw [allMoves_card] at l2
    have l3 : (pre.flatMap growM).length ≤ 3 * pre.length := flat_len pre (fun x _ => by simp [growM, Mvs])
    have T : ∀ m : Mv, opAdd h (mvsd ms) (.tup [m.d]) = some (mvsd (ms ++ [m])) := fun m => by
      rw [mvsd, opAdd_tt _ _ _ (by simp [LINE_eq]; omega)]; simp [mvsd]
    have T1 := T .back
    have T2 := T .on
    have T3 := T .stay
    simp only [Mv.d, Mv.s] at T1 T2 T3
    have A := opAdd_ll h ((pre.flatMap growM).map mvsd) ((growM ms).map mvsd) (by simp only [List.length_map, growM, Mvs, List.length_cons, List.length_nil, LINE_eq]; omega)
    simp only [growM, Mvs, List.map_cons, List.map_nil] at A
    refine ⟨[v0, v1, v2, .val (.lst ((pre.flatMap growM).map mvsd)), .val (mvsd ms), b], [v0, v1, v2, .val (.lst (((pre ++ [ms]).flatMap growM).map mvsd)), .val (mvsd ms), b], by simp, .inl ?_, ⟨_, _, rfl⟩⟩
    simp [amIn, lcLoop, T1, T2, T3, L3', L2', L1', L0', Lg0', Lg1', Lg2']
    simp only [growM, Mvs, List.map_cons, List.map_nil, List.flatMap_append, List.map_append, List.flatMap_cons, List.flatMap_nil, List.append_nil] at A ⊢
    rw [A]
    simp) ⟨v4, v5, rfl⟩
  exact ⟨a, b, by rw [h1, h2, allMoves_succ]⟩
theorem iRng1_eq {a : EM D} {e : En} {h : Hs} {n : Nat} (ha : a e h = .ok (.int n) h) (hn : n ≤ 1000) : iRng1 a e h = .ok ((List.range n).map fun (k : Nat) => D.int (0 + (k : Int))) h := by
  have S : smallR (n : Int) = true := smallR_of (by omega)
  unfold iRng1
  rw [ha, bind_ok]
  simp only [S, if_true]
  rfl
theorem iRng1_eq' {a : EM D} {e : En} {h h1 : Hs} {n : Nat} (ha : a e h = .ok (.int n) h1) (hn : n ≤ 1000) : iRng1 a e h = .ok ((List.range n).map fun (k : Nat) => D.int (0 + (k : Int))) h1 := by
  have S : smallR (n : Int) = true := smallR_of (by omega)
  unfold iRng1
  rw [ha, bind_ok]
  simp only [S, if_true]
  rfl
theorem f__law_all_moves_eq {n : Nat} (hn : n ≤ 7) (h : Hs) : f__law_all_moves [.int n] h = .ok (.lst ((allMoves n).map mvsd)) h := by
  have B := for_pre (g := gName 2) (b := (sSeq (sAsg (gName 3) (mLst [])) (sSeq (sFor (iSeq (mVar 1)) (gName 4) amIn) (sAsg (gName 1) (mVar 3))))) (h := h) (enc := fun (k : Nat) => D.int (0 + (k : Int)))
    (fun pre e => ∃ a b c d, e = [.val (.int n), .val (.lst ((allMoves pre.length).map mvsd)), a, b, c, d]) (List.range n) [.val (.int n), .val (.lst [.tup []]), .no, .no, .no, .no] (by
    rintro pre k e hp ⟨a, b, c, d, rfl⟩
    have l2 := pre_lt hp
    simp only [List.length_range] at l2
    obtain ⟨x, y, I⟩ := am_inner (n := pre.length) (by omega) (.val (.int n)) (.val (.lst ((allMoves pre.length).map mvsd))) (.val (.int (0 + (k : Int)))) c d h
    rw [show (pre ++ [k]).length = pre.length + 1 by simp]
    generalize hA : (allMoves (pre.length + 1)).map mvsd = A at I ⊢
    generalize hB : (allMoves pre.length).map mvsd = B at I ⊢
    refine ⟨[.val (.int n), .val (.lst B), .val (.int (0 + (k : Int))), b, c, d], [.val (.int n), .val (.lst A), .val (.int (0 + (k : Int))), .val (.lst A), x, y], by simp, .inl ?_, ⟨_, _, _, _, rfl⟩⟩
    simp only [Int.zero_add] at I ⊢
    simp [I, L0']) ⟨.no, .no, .no, .no, by simp [allMoves, mvsd]⟩
  obtain ⟨e', h1, a, b, c, d, h2⟩ := B
  simp only [List.length_range] at h2
  have R := iRng1_eq (a := mVar 0) (e := [.val (.int n), .val (.lst [.tup []]), .no, .no, .no, .no]) (h := h) (n := n) rfl (by omega)
  rw [h2] at h1
  have s1 : sAsg (gName 1) (mLst [(mTup [])]) [.val (.int n), .no, .no, .no, .no, .no] h = .nx [.val (.int n), .val (.lst [.tup []]), .no, .no, .no, .no] h := by simp [L0', L1']
  have s2 := (for_by (g := gName 2) (b := (sSeq (sAsg (gName 3) (mLst [])) (sSeq (sFor (iSeq (mVar 1)) (gName 4) amIn) (sAsg (gName 1) (mVar 3))))) R).trans h1
  have s0 : m__law_all_moves [.val (.int n), .no, .no, .no, .no, .no] h = .rt (.lst ((allMoves n).map mvsd)) h := by
    unfold m__law_all_moves
    simp only [amIn] at s2
    rw [seq_by s1, seq_by s2]
    rfl
  have st : startE 6 [.int n] = [.val (.int n), .no, .no, .no, .no, .no] := rfl
  unfold f__law_all_moves
  simp only [defn, st, s0, fin_rt]
def chIn : SM := (sOwnAdd 7 (mLst [(mTup [(mVar 8), (mVar 11), (mVal (.bl false))]), (mTup [(mVar 8), (mVar 11), (mVal (.bl true))])]))
def chEnd : SM := (sIf (tVal (mOp2 opEq (mLc [12] (iSeq (mVar 10)) (gName 12) (tVal (mOp2 opIn (mVal (.int 0)) (mCall f__law_ground [(mVar 12)]))) (mVar 12)) (mLst [])))
  (sFor (iSeq (mVar 6)) (gName 11) chIn)
  sNext)
def chLast : SM := (sIf (tAnd (tVal (mOp2 opNe (mVar 10) (mLst []))) (tAnd (tVal (mOp2 opEq (mOp2 opIx (mOp2 opIx (mVar 10) (mOp1 opNeg (mVal (.int 1)))) (mVal (.int 0))) (mVal (.int 0)))) (tNot (tVal (mOp2 opIx (mOp2 opIx (mVar 10) (mOp1 opNeg (mVal (.int 1)))) (mVal (.int 2)))))))
  (sAppend 7 (mTup [(mVar 8), (mOp1 opNeg (mVal (.int 1))), (mVal (.bl true))]))
  sNext)
def chB : SM := (sSeq (sAsg (gName 9) (mCall f__law_moved [(mVar 0), (mVar 1), (mVar 8)]))
  (sIf (tVal (mOp2 opNotN (mVar 9) (mVal .non)))
  (sSeq (sAsg (gName 10) (mCall f__law_left [(mVar 9)]))
  (sSeq (sAppend 7 (mTup [(mVar 8), (mOp1 opNeg (mVal (.int 1))), (mVal (.bl false))]))
  (sSeq chLast chEnd)))
  sNext))
def lenCh (ms : List Mv) (l : Int) : List Ch := [⟨ms, l, false⟩, ⟨ms, l, true⟩]
def oset (f : List Ch) : Slot := .own (f.map Ch.d)
theorem ch_in {found : List Ch} {ms : List Mv} (lens : List Int) (hl : lens.length ≤ 10) (hf : found.length ≤ 100000) (v0 v1 v2 v3 v4 v5 v6 v9 v10 v11 v12 : Slot) (h : Hs) :
    ∃ a, forLoop (gName 11) chIn (lens.map .int) [v0, v1, v2, v3, v4, v5, v6, oset found, .val (mvsd ms), v9, v10, v11, v12] h = .nx [v0, v1, v2, v3, v4, v5, v6, oset (found ++ lens.flatMap (lenCh ms)), .val (mvsd ms), v9, v10, a, v12] h := by
  obtain ⟨e', h1, a, h2⟩ := for_pre (g := gName 11) (b := chIn) (h := h) (enc := D.int) (fun pre e => ∃ a, e = [v0, v1, v2, v3, v4, v5, v6, oset (found ++ pre.flatMap (lenCh ms)), .val (mvsd ms), v9, v10, a, v12]) lens [v0, v1, v2, v3, v4, v5, v6, oset found, .val (mvsd ms), v9, v10, v11, v12] (by
    rintro pre l e hp ⟨a, rfl⟩
    have l2 := pre_lt hp
    have l3 : (pre.flatMap (lenCh ms)).length ≤ 2 * pre.length := flat_len pre (fun x _ => by simp [lenCh])
    refine ⟨[v0, v1, v2, v3, v4, v5, v6, oset (found ++ pre.flatMap (lenCh ms)), .val (mvsd ms), v9, v10, .val (.int l), v12], [v0, v1, v2, v3, v4, v5, v6, oset (found ++ (pre ++ [l]).flatMap (lenCh ms)), .val (mvsd ms), v9, v10, .val (.int l), v12], by simp, .inl ?_, ⟨_, rfl⟩⟩
    have L : ((found ++ pre.flatMap (lenCh ms)).map Ch.d).length + 2 ≤ LINE := by simp only [List.length_map, List.length_append, LINE_eq]; omega
    generalize hX : (found ++ pre.flatMap (lenCh ms)) = X at L
    have E : found ++ (pre ++ [l]).flatMap (lenCh ms) = X ++ lenCh ms l := by rw [← hX]; simp
    rw [E]
    simp only [oset, List.map_append, lenCh, List.map_cons, List.map_nil]
    generalize hY : X.map Ch.d = Y at L
    simp [chIn, L3', L2', L, Ch.d]) ⟨v11, by simp [lenCh]⟩
  exact ⟨a, by rw [h1, h2]⟩
theorem ch_end {q : List One} {found : List Ch} {ms : List Mv} (k : ∀ o ∈ q, o.Sm) (L : q.length ≤ LINE) (lens : List Int) (hl : lens.length ≤ 10) (hf : found.length ≤ 100000) (v0 v1 v2 v3 v4 v5 v9 v11 v12 : Slot) (h : Hs) :
    ∃ a b, chEnd [v0, v1, v2, v3, v4, v5, .val (.lst (lens.map .int)), oset found, .val (mvsd ms), v9, .val (.lst (q.map One.d)), v11, v12] h = .nx [v0, v1, v2, v3, v4, v5, .val (.lst (lens.map .int)), oset (found ++ if free q then lens.flatMap (lenCh ms) else []), .val (mvsd ms), v9, .val (.lst (q.map One.d)), a, b] h := by
  obtain ⟨a, I⟩ := ch_in (found := found) (ms := ms) lens hl hf v0 v1 v2 v3 v4 v5 (.val (.lst (lens.map .int))) v9 (.val (.lst (q.map One.d))) v11 v12 h
  have A := any_lc k L 0 (noOwn (wipe [v0, v1, v2, v3, v4, v5, .val (.lst (lens.map .int)), oset found, .val (mvsd ms), v9, .val (.lst (q.map One.d)), v11, v12] [12])) h 12 (by simp) (by intro d; rfl)
  have NE := ones_eq (q.filter fun o => onP o 0) h
  have F : (q.filter fun o => onP o 0).isEmpty = free q := by have := filt_any (fun o => onP o 0) q; unfold free; rw [← this]; simp
  rw [F] at NE
  refine ⟨if free q then a else v11, v12, ?_⟩
  unfold chEnd
  simp only [sIf, tVal, mOp2, mLc, iSeq, mVar, mLst, mArgs, List.getElem?_cons_succ, List.getElem?_cons_zero, bind_ok]
  rw [A]
  simp only [nox_ok, bind_ok, List.length_nil, L0', if_true, NE, opt_some, asB, toS_ok]
  cases free q
  · simp
  · simp only [if_true]
    exact (for_by (by simp)).trans I
end KK

set_option Elab.async false
set_option linter.all false
set_option maxRecDepth 100000
set_option maxHeartbeats 1000000
namespace KK
open DS
open PySem (Str)
/-! PI: the law's own choices, whole -/
theorem ch_last {q : List One} {found : List Ch} {ms : List Mv} (hf : found.length ≤ 100000) (v0 v1 v2 v3 v4 v5 v6 v9 v11 v12 : Slot) (h : Hs) :
    chLast [v0, v1, v2, v3, v4, v5, v6, oset found, .val (mvsd ms), v9, .val (.lst (q.map One.d)), v11, v12] h = .nx [v0, v1, v2, v3, v4, v5, v6, oset (found ++ if lastIs q then [⟨ms, -1, true⟩] else []), .val (mvsd ms), v9, .val (.lst (q.map One.d)), v11, v12] h := by
  have NE := ones_ne q h
  have L : (found.map Ch.d).length < LINE := by simp only [List.length_map, LINE_eq]; omega
  have O : oset (found ++ [⟨ms, -1, true⟩]) = .own (found.map Ch.d ++ [.tup [mvsd ms, .int (-1), .bl true]]) := by simp [oset, Ch.d]
  rcases last_split q with rfl | ⟨r, x, rfl⟩
  · simp only [List.map_nil, List.isEmpty_nil] at NE
    simp [chLast, NE, lastIs, L0']
  · have Z := opIx_lz h x.d (r.map One.d)
    rw [show (r ++ [x]).isEmpty = false by cases r <;> rfl] at NE
    simp at NE
    have LI : lastIs (r ++ [x]) = (decide (x.f = 0) && !x.p) := by simp [lastIs]
    rw [LI]
    by_cases c1 : x.f = 0
    · cases c2 : x.p
      · simp only [c1, decide_true, Bool.not_false, Bool.and_self, if_true, O]
        simp only [oset]
        generalize found.map Ch.d = F at L ⊢
        simp [chLast, NE, L0', opNeg_i, Z, One.ix0, One.ix2, opEq_ii, c1, c2, L3', L]
      · simp [chLast, NE, L0', opNeg_i, Z, One.ix0, One.ix2, opEq_ii, c1, c2]
    · simp [chLast, NE, L0', opNeg_i, Z, One.ix0, One.ix2, opEq_ii, c1]
def choiceF (p : Plan) (s : Stand) (ms : List Mv) : List Ch :=
  match moved p s.height s.q ms with
  | none => []
  | some row => choicesAt p (ms, row)
theorem choices_F (p : Plan) (s : Stand) : choices p s = (allMoves s.q.length).flatMap (choiceF p s) := by
  unfold choices
  rw [rows_eq]
  symm
  apply flat_filt
  intro ms _
  unfold choiceF
  cases moved p s.height s.q ms <;> rfl
theorem choicesAt_len {p : Plan} (k : p.Ok) (x : List Mv × List One) : (choicesAt p x).length ≤ 10 := by
  have := lens_len k
  have l3 : (p.lens.flatMap (lenCh x.1)).length ≤ 2 * p.lens.length := flat_len _ (fun l _ => by simp [lenCh])
  unfold lenCh at l3
  unfold choicesAt
  split <;> split <;> simp only [List.length_append, List.length_cons, List.length_nil] <;> omega
theorem choiceF_len {p : Plan} (k : p.Ok) (s : Stand) (ms : List Mv) : (choiceF p s ms).length ≤ 10 := by
  unfold choiceF
  split
  · simp
  · exact choicesAt_len k _
theorem ch_body {p : Plan} {s : Stand} {found : List Ch} {ms : List Mv} (k : p.Ok) (ks : s.Ok p) (hf : found.length ≤ 90000) (x2 x3 x4 x5 : D) (a9 a10 a11 a12 : Slot) (h : Hs) :
    ∃ a b c d, chB [.val p.d, .val s.d, .val x2, .val x3, .val x4, .val x5, .val (.lst (p.lens.map .int)), oset found, .val (mvsd ms), a9, a10, a11, a12] h = .nx [.val p.d, .val s.d, .val x2, .val x3, .val x4, .val x5, .val (.lst (p.lens.map .int)), oset (found ++ choiceF p s ms), .val (mvsd ms), a, b, c, d] h := by
  have M := f__law_moved_eq (p := p) (s := s) (ms := ms) h (mv_sm k ks) (by have := ks.len; rw [LINE_eq, List.length_zip]; omega)
  unfold choiceF
  cases hr : moved p s.height s.q ms with
  | none =>
    rw [hr] at M
    simp only [optRow] at M
    refine ⟨.val .non, a10, a11, a12, ?_⟩
    simp [chB, M, opNotN, isNon]
  | some row =>
    rw [hr] at M
    simp only [optRow] at M
    have ro := moved_ok ks.q hr
    have rl := ro.len
    have rs : ∀ o ∈ row, o.Sm := fun o m => ro.sm k m
    have LF := f__law_left_eq rs (by rw [LINE_eq]; omega) h
    have ls : ∀ o ∈ left row, o.Sm := fun o m => rs o (List.mem_filter.1 m).1
    have ll : (left row).length ≤ 7 := by have := List.length_filter_le (fun o : One => decide (0 ≤ o.f) && decide (o.tail ≤ 2)) row; unfold left; omega
    have lens := lens_len k
    have E1 := ch_last (q := left row) (found := found ++ [⟨ms, -1, false⟩]) (ms := ms) (by simp; omega) (.val p.d) (.val s.d) (.val x2) (.val x3) (.val x4) (.val x5) (.val (.lst (p.lens.map .int))) (.val (.lst (row.map One.d))) a11 a12 h
    obtain ⟨a, b, E2⟩ := ch_end (found := found ++ [⟨ms, -1, false⟩] ++ if lastIs (left row) then [⟨ms, -1, true⟩] else []) (ms := ms) ls (by rw [LINE_eq]; omega) p.lens (by omega) (by split <;> simp <;> omega) (.val p.d) (.val s.d) (.val x2) (.val x3) (.val x4) (.val x5) (.val (.lst (row.map One.d))) a11 a12 h
    refine ⟨.val (.lst (row.map One.d)), .val (.lst ((left row).map One.d)), a, b, ?_⟩
    have O : oset (found ++ [⟨ms, -1, false⟩]) = .own (found.map Ch.d ++ [.tup [mvsd ms, .int (-1), .bl false]]) := by simp [oset, Ch.d]
    have L : (found.map Ch.d).length < LINE := by simp only [List.length_map, LINE_eq]; omega
    unfold chB
    have s1 : sAsg (gName 9) (mCall f__law_moved [(mVar 0), (mVar 1), (mVar 8)]) [.val p.d, .val s.d, .val x2, .val x3, .val x4, .val x5, .val (.lst (p.lens.map .int)), oset found, .val (mvsd ms), a9, a10, a11, a12] h = .nx [.val p.d, .val s.d, .val x2, .val x3, .val x4, .val x5, .val (.lst (p.lens.map .int)), oset found, .val (mvsd ms), .val (.lst (row.map One.d)), a10, a11, a12] h := by simp [M]
    rw [seq_by s1]
    have s2 : sAsg (gName 10) (mCall f__law_left [(mVar 9)]) [.val p.d, .val s.d, .val x2, .val x3, .val x4, .val x5, .val (.lst (p.lens.map .int)), oset found, .val (mvsd ms), .val (.lst (row.map One.d)), a10, a11, a12] h = .nx [.val p.d, .val s.d, .val x2, .val x3, .val x4, .val x5, .val (.lst (p.lens.map .int)), oset found, .val (mvsd ms), .val (.lst (row.map One.d)), .val (.lst ((left row).map One.d)), a11, a12] h := by simp [LF]
    have s3 : sAppend 7 (mTup [(mVar 8), (mOp1 opNeg (mVal (.int 1))), (mVal (.bl false))]) [.val p.d, .val s.d, .val x2, .val x3, .val x4, .val x5, .val (.lst (p.lens.map .int)), oset found, .val (mvsd ms), .val (.lst (row.map One.d)), .val (.lst ((left row).map One.d)), a11, a12] h = .nx [.val p.d, .val s.d, .val x2, .val x3, .val x4, .val x5, .val (.lst (p.lens.map .int)), oset (found ++ [⟨ms, -1, false⟩]), .val (mvsd ms), .val (.lst (row.map One.d)), .val (.lst ((left row).map One.d)), a11, a12] h := by
      rw [O]
      simp only [oset]
      generalize found.map Ch.d = F at L ⊢
      simp [opNeg_i, L3', L]
    have s0 : ∀ (A B : SM), sIf (tVal (mOp2 opNotN (mVar 9) (mVal .non))) A B [.val p.d, .val s.d, .val x2, .val x3, .val x4, .val x5, .val (.lst (p.lens.map .int)), oset found, .val (mvsd ms), .val (.lst (row.map One.d)), a10, a11, a12] h = A [.val p.d, .val s.d, .val x2, .val x3, .val x4, .val x5, .val (.lst (p.lens.map .int)), oset found, .val (mvsd ms), .val (.lst (row.map One.d)), a10, a11, a12] h := fun A B => by
      simp [opNotN, isNon]
    rw [s0, seq_by s2, seq_by s3, seq_by E1, E2]
    simp only [choicesAt, List.append_assoc]
    rfl
theorem f__law_choices_eq {p : Plan} {s : Stand} (k : p.Ok) (ks : s.Ok p) (h : Hs) : f__law_choices [p.d, s.d] h = .ok (.lst ((choices p s).map Ch.d)) h := by
  have sl := ks.len
  have lens := lens_len k
  have kk := k
  obtain ⟨k1, k2, k3, k4, h1, h2, h3⟩ := kk
  have B := for_pre (g := gName 8) (b := chB) (h := h) (enc := mvsd) (fun pre e => ∃ a8 a b c d, e = [.val p.d, .val s.d, .val (.int p.least), .val (.int p.greatest), .val (.bl p.backs), .val (.bl p.bikes), .val (.lst (p.lens.map .int)), oset (pre.flatMap (choiceF p s)), a8, a, b, c, d]) (allMoves s.q.length) [.val p.d, .val s.d, .val (.int p.least), .val (.int p.greatest), .val (.bl p.backs), .val (.bl p.bikes), .val (.lst (p.lens.map .int)), oset [], .no, .no, .no, .no, .no] (by
    rintro pre ms e hp ⟨a8, a, b, c, d, rfl⟩
    have l2 := pre_lt hp
    rw [allMoves_card] at l2
    have N3 : 3 ^ s.q.length ≤ 729 := Nat.pow_le_pow_right (by decide) sl
    have l3 : (pre.flatMap (choiceF p s)).length ≤ 10 * pre.length := flat_len pre (fun x _ => choiceF_len k s x)
    obtain ⟨x, y, z, w, B⟩ := ch_body (found := pre.flatMap (choiceF p s)) (ms := ms) k ks (by omega) (.int p.least) (.int p.greatest) (.bl p.backs) (.bl p.bikes) a b c d h
    refine ⟨[.val p.d, .val s.d, .val (.int p.least), .val (.int p.greatest), .val (.bl p.backs), .val (.bl p.bikes), .val (.lst (p.lens.map .int)), oset (pre.flatMap (choiceF p s)), .val (mvsd ms), a, b, c, d], _, by simp, .inl B, ⟨.val (mvsd ms), x, y, z, w, ?_⟩⟩
    simp) ⟨.no, .no, .no, .no, .no, by simp⟩
  obtain ⟨e', B1, a8, a, b, c, d, B2⟩ := B
  rw [B2, ← choices_F] at B1
  have A := f__law_all_moves_eq (n := s.q.length) (by omega) h
  have e : opAdd h (.lst (if p.bikes = true then [.int 0] else [])) (.lst (rngL p.least (p.greatest + 1 - p.least).toNat)) = some (.lst (p.lens.map .int)) := by
    rw [opAdd_ll]
    · simp only [Plan.lens, List.map_append, rngL_map]
      cases p.bikes <;> simp
    · cases p.bikes <;> simp [rngL, LINE_eq] <;> omega
  have R := listRng2_eq (h := h) (show -100 ≤ p.least by omega) (show p.least ≤ 100 by omega) (show -100 ≤ p.greatest + 1 by omega) (show p.greatest + 1 ≤ 100 by omega)
  have s1 : sAsg (gTup [(gName 2), (gName 3), (gName 4), (gName 5)]) (mOp2 opIx (mVar 0) (mVal (.int 2))) [.val p.d, .val s.d, .no, .no, .no, .no, .no, .no, .no, .no, .no, .no, .no] h = .nx [.val p.d, .val s.d, .val (.int p.least), .val (.int p.greatest), .val (.bl p.backs), .val (.bl p.bikes), .no, .no, .no, .no, .no, .no, .no] h := by simp [Plan.ix2]
  have s2 : sAsg (gName 6) (mOp2 opAdd (mIf (tVal (mVar 5)) (mLst [(mVal (.int 0))]) (mLst [])) (mListRng2 (mVar 2) (mOp2 opAdd (mVar 3) (mVal (.int 1))))) [.val p.d, .val s.d, .val (.int p.least), .val (.int p.greatest), .val (.bl p.backs), .val (.bl p.bikes), .no, .no, .no, .no, .no, .no, .no] h = .nx [.val p.d, .val s.d, .val (.int p.least), .val (.int p.greatest), .val (.bl p.backs), .val (.bl p.bikes), .val (.lst (p.lens.map .int)), .no, .no, .no, .no, .no, .no] h := by
    cases hb : p.bikes <;> simp [hb] at e <;> simp [L0', L1', opAdd_ii, R, e]
  have s3 : sOwn 7 [] [.val p.d, .val s.d, .val (.int p.least), .val (.int p.greatest), .val (.bl p.backs), .val (.bl p.bikes), .val (.lst (p.lens.map .int)), .no, .no, .no, .no, .no, .no] h = .nx [.val p.d, .val s.d, .val (.int p.least), .val (.int p.greatest), .val (.bl p.backs), .val (.bl p.bikes), .val (.lst (p.lens.map .int)), oset [], .no, .no, .no, .no, .no] h := by simp [L0', oset]
  have IT : iSeq (mCall f__law_all_moves [(mOpN (op1N opLen) [(mOp2 opIx (mVar 1) (mVal (.int 0)))])]) [.val p.d, .val s.d, .val (.int p.least), .val (.int p.greatest), .val (.bl p.backs), .val (.bl p.bikes), .val (.lst (p.lens.map .int)), oset [], .no, .no, .no, .no, .no] h = .ok ((allMoves s.q.length).map mvsd) h := by
    simp [Stand.ix0, qd, opLen_t, A]
  have s4 := (for_by (g := gName 8) (b := chB) IT).trans B1
  have s0 : m__law_choices [.val p.d, .val s.d, .no, .no, .no, .no, .no, .no, .no, .no, .no, .no, .no] h = .rt (.lst ((choices p s).map Ch.d)) h := by
    unfold m__law_choices
    simp only [chB, chLast, chEnd, chIn] at s4
    rw [seq_by s1, seq_by s2, seq_by s3, seq_by s4]
    simp [oset]
  have st : startE 13 [p.d, s.d] = [.val p.d, .val s.d, .no, .no, .no, .no, .no, .no, .no, .no, .no, .no, .no] := rfl
  unfold f__law_choices
  simp only [defn, st, s0, fin_rt]
end KK

set_option Elab.async false
set_option linter.all false
set_option maxRecDepth 100000
set_option maxHeartbeats 1000000
namespace KK
open DS
open PySem (Str)
/-! PJ: choices are good, ticks lead to stands -/
structure Legal (p : Plan) (s : Stand) (c : Ch) : Prop where
  row : ∃ row, moved p s.height s.q c.moves = some row
  comes : c.comes = -1 ∨ (c.comes ∈ p.lens ∧ free (left (List.zipWith mv s.q c.moves)) = true)
  t : c.ticket = true → left (List.zipWith mv s.q c.moves) ≠ [] ∨ c.comes ≠ -1
theorem choice_mem {p : Plan} (k : p.Ok) {s : Stand} {c : Ch} (h : c ∈ choices p s) : Legal p s c := by
  rw [choices_F, List.mem_flatMap] at h
  obtain ⟨ms, _, h⟩ := h
  unfold choiceF at h
  split at h
  · simp at h
  · rename_i row hr
    have hz := moved_some hr
    simp only [choicesAt, List.mem_append, List.mem_singleton] at h
    rcases h with (rfl | h) | h
    · exact ⟨⟨row, hr⟩, .inl rfl, by simp⟩
    · split at h
      · rename_i hl
        simp only [List.mem_singleton] at h
        subst h
        refine ⟨⟨row, hr⟩, .inl rfl, fun _ => .inl ?_⟩
        simp only
        rw [← hz]
        intro e
        simp [e, lastIs] at hl
      · simp at h
    · split at h
      · rename_i hf
        simp only [List.mem_flatMap, List.mem_cons, List.not_mem_nil, or_false] at h
        obtain ⟨l, hl, h⟩ := h
        have := lens_in k hl
        rcases h with rfl | rfl
        · exact ⟨⟨row, hr⟩, .inr ⟨hl, by simp only; rw [← hz]; exact hf⟩, by simp⟩
        · exact ⟨⟨row, hr⟩, .inr ⟨hl, by simp only; rw [← hz]; exact hf⟩, fun _ => .inr (by simp only; omega)⟩
      · simp at h
theorem Legal.ok {p : Plan} {s : Stand} {c : Ch} (l : Legal p s c) : c.Ok p s := by
  obtain ⟨⟨row, hr⟩, h2, h3⟩ := l
  exact ⟨by rw [hr]; rfl, h2.imp id (·.1), h3⟩
theorem left_ok {p : Plan} (k : p.Ok) {row : List One} (r : RowOk p row) : ∀ o ∈ left row, o.Ok p := fun o m => by
  obtain ⟨m, f⟩ := List.mem_filter.1 m
  simp only [Bool.and_eq_true, decide_eq_true_eq] at f
  have a := r.a o m
  have l := lens_in k a.2.2.1
  refine ⟨f.1, ?_, a.2.2.1, f.2⟩
  have t := f.2
  unfold One.tail at t
  split at t <;> omega
theorem new_ok {p : Plan} (k : p.Ok) {l : Int} (h : l ∈ p.lens) (b : Bool) : (One.mk 0 l b).Ok p := by
  have := lens_in k h
  refine ⟨by simp, by simp, h, ?_⟩
  unfold One.tail
  simp only
  split <;> omega
theorem lastOk_free {q : List One} {p : Plan} (k : ∀ o ∈ q, o.Ok p) (h : free q = true) : lastOk q.getLast? 0 = true := by
  rcases last_split q with rfl | ⟨r, x, rfl⟩
  · rfl
  · simp only [free, Bool.not_eq_true', List.any_eq_false] at h
    have := h x (by simp)
    have f0 := (k x (by simp)).f0
    simp [onP, f0] at this
    simp [lastOk]
    omega
theorem chain_p (q : List One) (o : One) (b : Bool) : chain (q ++ [{ o with p := b }]) = chain (q ++ [o]) := by
  rw [chain_snoc, chain_snoc]
theorem comes_ok {p : Plan} (k : p.Ok) {row : List One} (r : RowOk p row) {c : Ch} (hc : c.comes = -1 ∨ (c.comes ∈ p.lens ∧ free (left row) = true)) : (∀ o ∈ comes row c, o.Ok p) ∧ chain (comes row c) = true := by
  have lo := left_ok k r
  have lc : chain (left row) = true := chain_sub _ _ r.c
  have K : (∀ o ∈ (left row ++ (if c.comes ≥ 0 then [One.mk 0 c.comes false] else [])), o.Ok p) ∧ chain (left row ++ (if c.comes ≥ 0 then [One.mk 0 c.comes false] else [])) = true := by
    rcases hc with hc | ⟨hc, hf⟩
    · rw [if_neg (by omega)]
      simpa using ⟨lo, lc⟩
    · have := lens_in k hc
      rw [if_pos (by omega)]
      refine ⟨fun o ho => ?_, ?_⟩
      · simp only [List.mem_append, List.mem_singleton] at ho
        rcases ho with ho | rfl
        · exact lo o ho
        · exact new_ok k hc _
      · rw [chain_snoc, lc]
        simpa using lastOk_free lo hf
  simp only [comes]
  generalize left row ++ (if c.comes ≥ 0 then [One.mk 0 c.comes false] else []) = q at K ⊢
  split
  · rcases last_split q with rfl | ⟨t, x, rfl⟩
    · exact ⟨by simp, rfl⟩
    · simp only [List.dropLast_concat, List.getLast?_concat]
      refine ⟨fun o ho => ?_, by rw [chain_p]; exact K.2⟩
      simp only [List.mem_append, List.mem_singleton] at ho
      rcases ho with ho | rfl
      · exact K.1 o (by simp [ho])
      · have := K.1 x (by simp)
        exact ⟨this.f0, this.f4, this.l, this.t⟩
  · exact K
theorem ordered_ok {p : Plan} {s : Stand} (q : List One) (t : Bool) (k3 : 0 ≤ p.wait) (s5 : 0 ≤ s.timer) (s6 : s.timer ≤ if s.up then p.wait else 0) (s7 : s.seen = true → s.up = true ∧ p.behind = true) :
    0 ≤ (ordered p s q t).2.1 ∧ (ordered p s q t).2.1 ≤ (if (ordered p s q t).1 then p.wait else 0) ∧ ((ordered p s q t).2.2 = true → (ordered p s q t).1 = true ∧ p.behind = true) := by
  unfold ordered
  split
  · exact ⟨k3, by simp, by simp⟩
  split
  · rename_i c
    simp only [Bool.and_eq_true] at c
    exact ⟨s5, s6, s7⟩
  split
  · rename_i c
    simp only [Bool.and_eq_true] at c
    exact ⟨s5, s6, fun _ => c.1⟩
  split
  · rename_i c
    simp only [Bool.and_eq_true, decide_eq_true_eq] at c
    rw [c.1] at s6 s7 ⊢
    simp only [if_true] at s6 ⊢
    exact ⟨by omega, by omega, fun h => ⟨trivial, (s7 h).2⟩⟩
  split
  · exact ⟨k3, by simp, by simp⟩
  · simp
theorem tick_ok {p : Plan} (k : p.Ok) {s : Stand} (ks : s.Ok p) {c : Ch} (l : Legal p s c) : (tick p s c).1.Ok p := by
  obtain ⟨⟨row, hr⟩, hc, ht⟩ := l
  have hz := moved_some hr
  have ro := moved_ok ks.q hr
  obtain ⟨q1, q2⟩ := comes_ok k ro (c := c) (by rw [hz]; exact hc)
  obtain ⟨k1, k2, k3, k4, k5, k6, k7⟩ := k
  obtain ⟨s1, s2, s3, s4, s5, s6, s7⟩ := ks
  simp only [tick, ← hz]
  refine ⟨q1, q2, ?_, ?_, ?_, ?_, ?_⟩
  · simp only [newHeight]; split <;> split <;> omega
  · simp only [newHeight]; split <;> split <;> omega
  all_goals
    have O := ordered_ok (p := p) (s := s) (comes row c) c.ticket k3 s5 s6 s7
  · exact O.1
  · exact O.2.1
  · exact O.2.2
theorem moved_stay {p : Plan} {height : Int} : ∀ (q : List One), chain q = true → moved p height q (q.map fun _ => .stay) = some q := by
  intro q
  induction q using snoc_ind with
  | h0 => intro _; rfl
  | h1 q o ih =>
    intro h
    rw [chain_snoc, Bool.and_eq_true] at h
    rw [List.map_append, List.map_cons, List.map_nil, moved_snoc _ _ _ _ _ _ (by simp), ih h.1]
    have e : mv o .stay = o := by simp [mv, Mv.step]
    simp [stepRow, good, e, h.2]
theorem stay_mem : ∀ n, List.replicate n Mv.stay ∈ allMoves n
  | 0 => by simp [allMoves]
  | n + 1 => by
    simp only [allMoves, List.mem_flatMap]
    exact ⟨_, stay_mem n, List.mem_map.2 ⟨.stay, by simp [Mvs], by rw [List.replicate_succ']⟩⟩
theorem choices_ne {p : Plan} {s : Stand} (ks : s.Ok p) : choices p s ≠ [] := by
  intro h
  rw [choices_F, List.flatMap_eq_nil_iff] at h
  have := h _ (stay_mem s.q.length)
  unfold choiceF at this
  have e : s.q.map (fun _ => Mv.stay) = List.replicate s.q.length .stay := List.map_const' ..
  rw [← e, moved_stay _ ks.c] at this
  simp [choicesAt] at this
end KK

set_option Elab.async false
set_option linter.all false
set_option maxRecDepth 100000
set_option maxHeartbeats 1000000
namespace KK
open DS
open PySem (Str)
/-! PK: springs -/
def Spr (h : Hs) (r : Nat) : Prop := ∃ a b, h[r]? = some (.lst [.int a, .int b])
theorem ix_ref {h : Hs} {r : Nat} {a b : D} (hr : h[r]? = some (.lst [a, b])) : opIx h (.ref r) (.int 0) = some a ∧ opIx h (.ref r) (.int 1) = some b := by
  constructor <;> simp [opIx, hr, atD, ixN]
theorem set_get {h : Hs} {r : Nat} {c d : Cell} (hr : h[r]? = some c) : (h.set r d)[r]? = some d := by
  have : r < h.length := by
    rcases Nat.lt_or_ge r h.length with z | z
    · exact z
    · rw [List.getElem?_eq_none z] at hr; cases hr
  simp [this]
theorem opMod_p (h : Hs) (a b : Int) (hb : 0 < b) : opMod h (.int a) (.int b) = some (.int (a % b)) := by simp [opMod, hb]
theorem opFdiv_p (h : Hs) (a b : Int) (hb : 0 < b) (hb2 : b < 1073741824) : opFdiv h (.int a) (.int b) = some (.int (a / b)) := by simp [opFdiv, hb, hb2]
theorem opMul_s (h : Hs) (a b : Int) (hb : b.natAbs ≤ 18446744073709551615) : opMul h (.int a) (.int b) = some (.int (a * b)) := by
  simp [opMul, smallI_of hb]
theorem put_ref {h : Hs} {r : Nat} {a b x : D} {e : En} {i v : Nat} (hr : h[r]? = some (.lst [a, b])) : True := trivial
theorem f__law_pick_eq2 {h : Hs} {r : Nat} {many : Int} (S : Spr h r) (h1 : 0 < many) (h2 : many < 1000000) : ∃ d h', f__law_pick [.ref r, .int many] h = .ok (.int d) h' ∧ (0 ≤ d ∧ d < many ∧ Spr h' r) ∧ h'.length = h.length ∧ ∀ i, i ≠ r → h'[i]? = h[i]? := by
  have O : ∀ c : Cell, (h.set r c).length = h.length ∧ ∀ i, i ≠ r → (h.set r c)[i]? = h[i]? := fun c => ⟨by simp, fun i n => by rw [List.getElem?_set_ne (Ne.symm n)]⟩
  obtain ⟨a, b, hr⟩ := S
  obtain ⟨i0, i1⟩ := ix_ref hr
  by_cases c : 0 < a
  · refine ⟨a % many, h.set r (.lst [.int (a / many), .int b]), ?_, ⟨Int.emod_nonneg _ (by omega), Int.emod_lt_of_pos _ h1, ⟨_, _, set_get hr⟩⟩, O _⟩
    simp [f__law_pick, m__law_pick, i0, opGt_ii, c, opInt_i, opMod_p, opFdiv_p, h1, show many < 1073741824 by omega, hr, ixN]
  · obtain ⟨b2, hb2⟩ : ∃ b2, b2 = (b * 393555900739 + 8191) % 999999999989 := ⟨_, rfl⟩
    have hr2 : (h.set r (.lst [.int a, .int b2]))[r]? = some (.lst [.int a, .int b2]) := set_get hr
    obtain ⟨j0, j1⟩ := ix_ref hr2
    refine ⟨(b2 / 4093) % many, h.set r (.lst [.int a, .int b2]), ?_, ⟨Int.emod_nonneg _ (by omega), Int.emod_lt_of_pos _ h1, ⟨_, _, hr2⟩⟩, O _⟩
    have M := opMul_s h b 393555900739 (by decide)
    have D := opMod_p h (b * 393555900739 + 8191) 999999999989 (by decide)
    have F := opFdiv_p (h.set r (.lst [.int a, .int b2])) b2 4093 (by decide) (by decide)
    have G := opMod_p (h.set r (.lst [.int a, .int b2])) (b2 / 4093) many h1
    rw [← hb2] at D
    have s1 : sIf (tVal (mOp2 opGt (mOp2 opIx (mVar 0) (mVal (.int 0))) (mVal (.int 0)))) (sSeq (sAsg (gName 2) (mOp2 opMod (mOpN (op1N opInt) [(mOp2 opIx (mVar 0) (mVal (.int 0)))]) (mVar 1))) (sSeq (sPut (mVar 0) (mVal (.int 0)) (mOp2 opFdiv (mOp2 opIx (mVar 0) (mVal (.int 0))) (mVar 1))) (sRet (mVar 2)))) sNext [.val (.ref r), .val (.int many), .no] h = .nx [.val (.ref r), .val (.int many), .no] h := by
      simp [i0, opGt_ii, c]
    have s2 : sPut (mVar 0) (mVal (.int 1)) (mOp2 opMod (mOpN (op1N opInt) [(mOp2 opAdd (mOp2 opMul (mOp2 opIx (mVar 0) (mVal (.int 1))) (mVal (.int 393555900739))) (mVal (.int 8191)))]) (mVal (.int 999999999989))) [.val (.ref r), .val (.int many), .no] h = .nx [.val (.ref r), .val (.int many), .no] (h.set r (.lst [.int a, .int b2])) := by
      simp [i1, M, opAdd_ii, opInt_i, D, hr, ixN]
    have s3 : sRet (mOp2 opMod (mOpN (op1N opInt) [(mOp2 opFdiv (mOp2 opIx (mVar 0) (mVal (.int 1))) (mVal (.int 4093)))]) (mVar 1)) [.val (.ref r), .val (.int many), .no] (h.set r (.lst [.int a, .int b2])) = .rt (.int (b2 / 4093 % many)) (h.set r (.lst [.int a, .int b2])) := by
      simp [j1, F, opInt_i, G]
    have st : startE 3 [.ref r, .int many] = [.val (.ref r), .val (.int many), .no] := rfl
    unfold f__law_pick m__law_pick
    simp only [defn, st]
    rw [seq_by s1, seq_by s2, s3]
    rfl
theorem f__law_pick_eq {h : Hs} {r : Nat} {many : Int} (S : Spr h r) (h1 : 0 < many) (h2 : many < 1000000) : ∃ d h', f__law_pick [.ref r, .int many] h = .ok (.int d) h' ∧ 0 ≤ d ∧ d < many ∧ Spr h' r := by
  obtain ⟨d, h', e, ⟨a, b, c⟩, _⟩ := f__law_pick_eq2 S h1 h2
  exact ⟨d, h', e, a, b, c⟩
theorem f__law_spring_eq (ns : List Int) (at' : Nat) (hn : ns.length ≤ 63) (ha : at' ≤ 100) (h : Hs) : ∃ c, f__law_spring [.scr ns, .int at'] h = .ok (.ref h.length) (h ++ [c]) ∧ Spr (h ++ [c]) h.length := by
  have fin : ∀ x : Int, ∃ c, (sSeq (sAsg (gName 3) (mOp2 opMod (mOpN (op1N opInt) [(mOp2 opAdd (mOp2 opAdd (mOp2 opMul (mVar 2) (mVal (.int 863))) (mOp2 opMul (mVal (.int 524287)) (mVar 1))) (mVal (.int 1)))]) (mVal (.int 999999999989))))
  (sRet (mNew [(mIf (tVal (mOp2 opGe (mVar 2) (mOp2 opPow (mVal (.int 10)) (mVal (.int 18))))) (mVar 2) (mVal (.int 0))), (mVar 3)]))) [.val (.scr ns), .val (.int at'), .val (.int x), .no] h = .rt (.ref h.length) (h ++ [c]) ∧ Spr (h ++ [c]) h.length := by
    intro x
    have M := opMul_s h x 863 (by decide)
    have M2 := opMul_s h 524287 (at' : Int) (by omega)
    have D := opMod_p h (x * 863 + 524287 * (at' : Int) + 1) 999999999989 (by decide)
    have P : opPow h (.int 10) (.int 18) = some (.int 1000000000000000000) := by simp [opPow]
    refine ⟨.lst [.int (if 1000000000000000000 ≤ x then x else 0), .int ((x * 863 + 524287 * (at' : Int) + 1) % 999999999989)], ?_, ⟨(if 1000000000000000000 ≤ x then x else 0), ((x * 863 + 524287 * (at' : Int) + 1) % 999999999989), by simp⟩⟩
    have s1 : sAsg (gName 3) (mOp2 opMod (mOpN (op1N opInt) [(mOp2 opAdd (mOp2 opAdd (mOp2 opMul (mVar 2) (mVal (.int 863))) (mOp2 opMul (mVal (.int 524287)) (mVar 1))) (mVal (.int 1)))]) (mVal (.int 999999999989))) [.val (.scr ns), .val (.int at'), .val (.int x), .no] h = .nx [.val (.scr ns), .val (.int at'), .val (.int x), .val (.int ((x * 863 + 524287 * (at' : Int) + 1) % 999999999989))] h := by
      simp [M, M2, opAdd_ii, opInt_i, D]
    rw [seq_by s1]
    by_cases c : 1000000000000000000 ≤ x <;> simp [mNew, P, opGe_ii, c, L2']
  have st : startE 4 [.scr ns, .int at'] = [.val (.scr ns), .val (.int at'), .no, .no] := rfl
  have s1 : sAsg (gName 2) (mVal (.int 7)) [.val (.scr ns), .val (.int at'), .no, .no] h = .nx [.val (.scr ns), .val (.int at'), .val (.int 7), .no] h := by simp
  have LE : opLen h (.scr ns) = some (.int ns.length) := rfl
  have s2 : ∃ x, sIf (tVal (mOp2 opLt (mVar 1) (mOpN (op1N opLen) [(mVar 0)]))) (sAsg (gName 2) (mOpN (op1N opAbs) [(mOp2 opIx (mVar 0) (mVar 1))])) sNext [.val (.scr ns), .val (.int at'), .val (.int 7), .no] h = .nx [.val (.scr ns), .val (.int at'), .val (.int x), .no] h := by
    by_cases c : (at' : Int) < ns.length
    · obtain ⟨y, hy⟩ : ∃ y, opIx h (.scr ns) (.int at') = some (.int y) := by
        have : at' < ns.length := by omega
        refine ⟨ns[at'], ?_⟩
        simp only [opIx, atD, ixN]
        rw [if_pos (by omega), if_pos c]
        simp [this]
      refine ⟨if y < 0 then -y else y, ?_⟩
      simp only [sIf, tVal, mOp2, mVar, mOpN, mArgs, op1N, List.getElem?_cons_zero, List.getElem?_cons_succ, bind_ok, LE, opt_some, opLt_ii, asB, toS_ok, c, decide_true, if_true, sAsg, hy, opAbs, gName, List.set]
    · refine ⟨7, ?_⟩
      simp only [sIf, tVal, mOp2, mVar, mOpN, mArgs, op1N, List.getElem?_cons_zero, List.getElem?_cons_succ, bind_ok, LE, opt_some, opLt_ii, asB, toS_ok, c, decide_false, if_false, Bool.false_eq_true, sNext]
  obtain ⟨x, s2⟩ := s2
  obtain ⟨c, f1, f2⟩ := fin x
  refine ⟨c, ?_, f2⟩
  unfold f__law_spring m__law_spring
  simp only [defn, st]
  rw [seq_by s1, seq_by s2, f1]
  rfl
end KK

set_option Elab.async false
set_option linter.all false
set_option maxRecDepth 100000
set_option maxHeartbeats 1000000
namespace KK
open DS
open PySem (Str)
/-! PW: data with bounds -/
def wb (b : Nat) : Nat → D → Bool
  | 0, d => flat d && clean d
  | n + 1, .tup ds => decide (ds.length ≤ b) && ds.all (wb b n)
  | n + 1, .lst ds => decide (ds.length ≤ b) && ds.all (wb b n)
  | _ + 1, d => flat d && clean d
theorem wb_flat {b : Nat} {d : D} (h : (flat d && clean d) = true) : ∀ n, wb b n d = true
  | 0 => h
  | n + 1 => by cases d <;> simp_all [wb, flat]
theorem wb_mono {b c : Nat} (hb : b ≤ c) : ∀ {n m : Nat} {d : D}, wb b n d = true → n ≤ m → wb c m d = true
  | 0, m, d, h, _ => wb_flat h m
  | n + 1, 0, d, h, hm => by omega
  | n + 1, m + 1, d, h, hm => by
    cases d with
    | tup ds => simp only [wb, Bool.and_eq_true, decide_eq_true_eq, List.all_eq_true] at h ⊢; exact ⟨by omega, fun d hd => wb_mono hb (h.2 d hd) (by omega)⟩
    | lst ds => simp only [wb, Bool.and_eq_true, decide_eq_true_eq, List.all_eq_true] at h ⊢; exact ⟨by omega, fun d hd => wb_mono hb (h.2 d hd) (by omega)⟩
    | _ => simp_all [wb]
theorem wb_sh {b : Nat} : ∀ {n : Nat} {d : D}, wb b n d = true → sh n d
  | 0, d, h => by
    simp only [wb, Bool.and_eq_true] at h
    exact ⟨h.2, by cases d <;> simp_all [flat, dep]⟩
  | n + 1, d, h => by
    cases d with
    | tup ds =>
      simp only [wb, Bool.and_eq_true, decide_eq_true_eq, List.all_eq_true] at h
      exact sh_tup fun d hd => wb_sh (h.2 d hd)
    | lst ds =>
      simp only [wb, Bool.and_eq_true, decide_eq_true_eq, List.all_eq_true] at h
      exact sh_lst fun d hd => wb_sh (h.2 d hd)
    | _ =>
      simp only [wb, Bool.and_eq_true] at h
      exact ⟨h.2, by simp [dep]⟩
theorem wb_nt {b : Nat} (hb : b ≤ LINE) : ∀ {n : Nat} {d : D}, wb b n d = true → nt n d = true
  | 0, d, h => by simp only [wb, Bool.and_eq_true] at h; exact h.1
  | n + 1, d, h => by
    cases d with
    | tup ds =>
      simp only [wb, Bool.and_eq_true, decide_eq_true_eq, List.all_eq_true] at h
      exact nt_tup (by omega) fun d hd => wb_nt hb (h.2 d hd)
    | lst ds =>
      simp only [wb, Bool.and_eq_true, decide_eq_true_eq, List.all_eq_true] at h
      exact nt_lst (by omega) fun d hd => wb_nt hb (h.2 d hd)
    | _ => simp_all [wb, nt]
end KK

set_option Elab.async false
set_option linter.all false
set_option maxRecDepth 100000
set_option maxHeartbeats 1000000
namespace KK
open DS
open PySem (Str)
/-! PM: plans that are drawn -/
theorem ix_mem {xs : List D} {d : Int} (h : Hs) (h1 : 0 ≤ d) (h2 : d < xs.length) : ∃ y ∈ xs, opIx h (.lst xs) (.int d) = some y := by
  obtain ⟨k, rfl⟩ : ∃ k : Nat, d = k := ⟨d.toNat, by omega⟩
  have hk : k < xs.length := by omega
  refine ⟨xs[k], List.getElem_mem hk, ?_⟩
  simp only [opIx, atD, ixN]
  rw [if_pos (by omega), if_pos h2]
  simp [hk]
theorem ret_by {a : EM D} {e : En} {h h1 : Hs} {d : D} (ha : a e h = .ok d h1) : sRet a e h = .rt d h1 := by
  unfold sRet; rw [ha]; rfl
theorem asg_by {i : Nat} {a : EM D} {e : En} {h h1 : Hs} {d : D} (ha : a e h = .ok d h1) : sAsg (gName i) a e h = .nx (e.set i (.val d)) h1 := by
  unfold sAsg; rw [ha]; rfl
theorem lc_by {vs : List Nat} {it : EM (List D)} {g : TM} {t : EM Bool} {a : EM D} {e : En} {h h1 h2 : Hs} {ds xs : List D} (hi : it e h = .ok ds h1) (hl : lcLoop g t a (noOwn (wipe e vs)) ds [] h1 = .ok xs h2) : mLc vs it g t a e h = .ok (.lst xs) h2 := by
  unfold mLc; rw [hi, bind_ok, hl]; rfl
theorem op2_by {f : Op2} {a b : EM D} {e : En} {h h1 h2 : Hs} {x y z : D} (ha : a e h = .ok x h1) (hb : b e h1 = .ok y h2) (hf : f h2 x y = some z) : mOp2 f a b e h = .ok z h2 := by
  unfold mOp2; rw [ha, bind_ok, hb, bind_ok, hf]; rfl
theorem tw_same {n : Nat} {d : D} (h : Hs) (hd : nt n d = true) : f__law_twins (n + 1) [d, d] h = .ok (.bl true) h := by
  rw [f__law_twins_eq n _ _ h hd hd]; simp
theorem fu12 : fu__law_twins = 11 + 1 := rfl
theorem f__law_program_eq {h : Hs} {r : Nat} (S : Spr h r) : ∃ b w g h', f__law_program [.ref r] h = .ok (.tup [.str (wayS b), .int w, .bl g]) h' ∧ 0 ≤ w ∧ w ≤ 3 ∧ Spr h' r := by
  obtain ⟨d1, h1, P1, a1, a2, S1⟩ := f__law_pick_eq (many := 3) S (by omega) (by omega)
  obtain ⟨d2, h2, P2, b1, b2, S2⟩ := f__law_pick_eq (many := 5) S1 (by omega) (by omega)
  obtain ⟨d3, h3, P3, c1, c2, S3⟩ := f__law_pick_eq (many := 2) S2 (by omega) (by omega)
  obtain ⟨y, my, I1⟩ := ix_mem (xs := [.str "behind", .str "behind", .str "clock"]) h1 a1 (by simpa using a2)
  obtain ⟨z, mz, I2⟩ := ix_mem (xs := [.int 0, .int 0, .int 1, .int 2, .int 3]) h2 b1 (by simpa using b2)
  obtain ⟨b, hb⟩ : ∃ b, y = .str (wayS b) := by
    simp at my
    rcases my with rfl | rfl
    · exact ⟨true, rfl⟩
    · exact ⟨false, rfl⟩
  obtain ⟨w, hw, w1, w2⟩ : ∃ w : Int, z = .int w ∧ 0 ≤ w ∧ w ≤ 3 := by
    simp at mz
    rcases mz with rfl | rfl | rfl | rfl <;> exact ⟨_, rfl, by omega, by omega⟩
  subst hb hw
  refine ⟨b, w, decide (d3 = 0), h3, ?_, w1, w2, S3⟩
  have s1 : sAsg (gName 1) (mOp2 opIx (mLst [(mVal (.str "behind")), (mVal (.str "behind")), (mVal (.str "clock"))]) (mCall f__law_pick [(mVar 0), (mVal (.int 3))])) [.val (.ref r), .no] h = .nx [.val (.ref r), .val (.str (wayS b))] h1 := by
    simp [L3', P1, I1]
  have s2 : sRet (mTup [(mVar 1), (mOp2 opIx (mLst [(mVal (.int 0)), (mVal (.int 0)), (mVal (.int 1)), (mVal (.int 2)), (mVal (.int 3))]) (mCall f__law_pick [(mVar 0), (mVal (.int 5))])), (mOp2 opEq (mCall f__law_pick [(mVar 0), (mVal (.int 2))]) (mVal (.int 0)))]) [.val (.ref r), .val (.str (wayS b))] h1 = .rt (.tup [.str (wayS b), .int w, .bl (decide (d3 = 0))]) h3 := by
    simp [L5', L3', P2, I2, P3, opEq_ii]
  have st : startE 2 [.ref r] = [.val (.ref r), .no] := rfl
  unfold f__law_program m__law_program
  simp only [defn, st]
  rw [seq_by s1, s2]; rfl
theorem f__law_plan_eq {h : Hs} {r : Nat} (S : Spr h r) : ∃ (p : Plan) (h' : Hs), p.Ok ∧ f__law_plan [.ref r] h = .ok p.d h' ∧ Spr h' r := by
  have L4 : (4 : Nat) ≤ LINE := by decide
  have mem : ∀ z, z ∈ [D.int 1, .int 1, .int 2, .int 3] → ∃ w : Int, z = .int w ∧ 1 ≤ w ∧ w ≤ 3 := by
    intro z mz
    simp at mz
    rcases mz with rfl | rfl | rfl <;> exact ⟨_, rfl, by omega, by omega⟩
  have mem2 : ∀ z, z ∈ [D.int 0, .int 0, .int 1, .int 2] → ∃ w : Int, z = .int w ∧ 0 ≤ w ∧ w ≤ 2 := by
    intro z mz
    simp at mz
    rcases mz with rfl | rfl | rfl <;> exact ⟨_, rfl, by omega, by omega⟩
  obtain ⟨d1, h1, P1, a1, a2, S1⟩ := f__law_pick_eq (many := 4) S (by omega) (by omega)
  obtain ⟨y, my, I1⟩ := ix_mem (xs := [.int 1, .int 1, .int 2, .int 3]) h1 a1 (by simpa using a2)
  obtain ⟨le, rfl, l1, l2⟩ := mem y my
  obtain ⟨d2, h2, P2, b1, b2, S2⟩ := f__law_pick_eq (many := 4) S1 (by omega) (by omega)
  obtain ⟨y, my, I2⟩ := ix_mem (xs := [.int 0, .int 0, .int 1, .int 2]) h2 b1 (by simpa using b2)
  obtain ⟨ge, rfl, g1, g2⟩ := mem2 y my
  obtain ⟨d3, h3, P3, c1, c2, S3⟩ := f__law_pick_eq (many := 3) S2 (by omega) (by omega)
  obtain ⟨d4, h4, P4, _, _, S4⟩ := f__law_pick_eq (many := 3) S3 (by omega) (by omega)
  obtain ⟨d5, h5, P5, e1, e2, S5⟩ := f__law_pick_eq (many := 4) S4 (by omega) (by omega)
  obtain ⟨y, my, I5⟩ := ix_mem (xs := [.int 1, .int 1, .int 2, .int 3]) h5 e1 (by simpa using e2)
  obtain ⟨li, rfl, li1, li2⟩ := mem y my
  obtain ⟨b, w, g, h6, P6, w1, w2, S6⟩ := f__law_program_eq S5
  refine ⟨⟨li, b, w, g, le, if le + ge < 3 then le + ge else 3, decide (d3 = 0), decide (d4 = 0)⟩, h6, ⟨li1, li2, w1, w2, l1, by simp only; split <;> omega, by simp only; split <;> omega⟩, ?_, S6⟩
  have s1 : sAsg (gName 1) (mOp2 opIx (mLst [(mVal (.int 1)), (mVal (.int 1)), (mVal (.int 2)), (mVal (.int 3))]) (mCall f__law_pick [(mVar 0), (mVal (.int 4))])) [.val (.ref r), .no, .no, .no] h = .nx [.val (.ref r), .val (.int le), .no, .no] h1 := by
    simp [L4, P1, I1]
  have s2 : sAsg (gName 2) (mOpN (op2N opMin) [(mVal (.int 3)), (mOp2 opAdd (mVar 1) (mOp2 opIx (mLst [(mVal (.int 0)), (mVal (.int 0)), (mVal (.int 1)), (mVal (.int 2))]) (mCall f__law_pick [(mVar 0), (mVal (.int 4))])))]) [.val (.ref r), .val (.int le), .no, .no] h1 = .nx [.val (.ref r), .val (.int le), .val (.int (if le + ge < 3 then le + ge else 3)), .no] h2 := by
    simp [L4, P2, I2, opAdd_ii, opMin_ii]
  have s3 : sAsg (gName 3) (mTup [(mVar 1), (mVar 2), (mOp2 opEq (mCall f__law_pick [(mVar 0), (mVal (.int 3))]) (mVal (.int 0))), (mOp2 opEq (mCall f__law_pick [(mVar 0), (mVal (.int 3))]) (mVal (.int 0)))]) [.val (.ref r), .val (.int le), .val (.int (if le + ge < 3 then le + ge else 3)), .no] h2 = .nx [.val (.ref r), .val (.int le), .val (.int (if le + ge < 3 then le + ge else 3)), .val (.tup [.int le, .int (if le + ge < 3 then le + ge else 3), .bl (decide (d3 = 0)), .bl (decide (d4 = 0))])] h4 := by
    generalize (if le + ge < 3 then le + ge else 3) = gr
    simp [L4, P3, P4, opEq_ii]
  have s4 : sRet (mTup [(mOp2 opIx (mLst [(mVal (.int 1)), (mVal (.int 1)), (mVal (.int 2)), (mVal (.int 3))]) (mCall f__law_pick [(mVar 0), (mVal (.int 4))])), (mCall f__law_program [(mVar 0)]), (mVar 3)]) [.val (.ref r), .val (.int le), .val (.int (if le + ge < 3 then le + ge else 3)), .val (.tup [.int le, .int (if le + ge < 3 then le + ge else 3), .bl (decide (d3 = 0)), .bl (decide (d4 = 0))])] h4 = .rt (Plan.mk li b w g le (if le + ge < 3 then le + ge else 3) (decide (d3 = 0)) (decide (d4 = 0))).d h6 := by
    generalize (if le + ge < 3 then le + ge else 3) = gr
    simp [L4, L3', P5, I5, P6, Plan.d]
  have st : startE 4 [.ref r] = [.val (.ref r), .no, .no, .no] := rfl
  unfold f__law_plan m__law_plan
  simp only [defn, st]
  rw [seq_by s1, seq_by s2, seq_by s3, s4]; rfl
theorem clean_s (b : Bool) : clean (.str (wayS b)) = true ∧ clean (.str (upS b)) = true := by
  cases b <;> constructor <;> simp only [clean] <;> rw [← Array.all_toList] <;> decide
theorem plan_wb (p : Plan) : wb 50 3 p.d = true := by
  have i : ∀ i, clean (.int i) = true := fun _ => rfl
  have b : ∀ i, clean (.bl i) = true := fun _ => rfl
  simp [Plan.d, wb, flat, (clean_s p.behind).1, i, b]
theorem prog_wb (p : Plan) : wb 50 3 (.tup [.str (wayS p.behind), .int p.wait, .bl p.guard]) = true := by
  have i : ∀ i, clean (.int i) = true := fun _ => rfl
  have b : ∀ i, clean (.bl i) = true := fun _ => rfl
  simp [wb, flat, (clean_s p.behind).1, i, b]
theorem one_wb (o : One) : wb 50 1 o.d = true := by
  have i : ∀ i, clean (.int i) = true := fun _ => rfl
  have b : ∀ i, clean (.bl i) = true := fun _ => rfl
  simp [One.d, wb, flat, i, b]
theorem qd_wb {q : List One} (h : q.length ≤ 50) : wb 50 2 (qd q) = true := by
  simp only [qd, wb, List.length_map, Bool.and_eq_true, decide_eq_true_eq, List.all_map, List.all_eq_true]
  exact ⟨h, fun o _ => one_wb o⟩
theorem stand_wb {s : Stand} (h : s.q.length ≤ 50) : wb 50 3 s.d = true := by
  have i : ∀ i, clean (.int i) = true := fun _ => rfl
  have b : ∀ i, clean (.bl i) = true := fun _ => rfl
  have Q := qd_wb h
  have U : wb 50 2 (.str (upS s.up)) = true := wb_flat (by simp [flat, (clean_s s.up).2]) 2
  have I : ∀ i, wb 50 2 (.int i) = true := fun _ => rfl
  have B : ∀ i, wb 50 2 (.bl i) = true := fun _ => rfl
  rw [Stand.d, wb]
  simp [Q, U, I, B]
end KK

set_option Elab.async false
set_option linter.all false
set_option maxRecDepth 100000
set_option maxHeartbeats 1000000
namespace KK
open DS
open PySem (Str)
/-! PN of law_k03: any stands -/
def anyT : EM Bool := (tVal (mOp2 opGt (mVar 12) (mVal (.int 0))))
def anyB : SM := (sSeq (sAsg (gName 13) (mOp2 opIx (mVar 10) (mCall f__law_pick [(mVar 0), (mOpN (op1N opLen) [(mVar 10)])])))
  (sSeq (sAsg (gName 12) (mOp2 opSub (mOp2 opSub (mVar 12) (mVal (.int 1))) (mCall f__law_pick [(mVar 0), (mVal (.int 3))])))
  (sIf (tVal (mOp2 opGe (mVar 12) (mVal (.int 0))))
  (sSeq (sAsg (gName 14) (mTup [(mVar 12), (mVar 13), (mOp2 opEq (mCall f__law_pick [(mVar 0), (mVal (.int 2))]) (mVal (.int 0)))]))
  (sIf (tVal (mOp2 opLe (mOp2 opIx (mCall f__law_ground [(mVar 14)]) (mVal (.int 0))) (mVal (.int 2))))
  (sSeq (sAppendR (mVar 11) (mVar 14))
  (sAsg (gName 12) (mOp2 opIx (mCall f__law_ground [(mVar 14)]) (mVal (.int 0)))))
  sNext))
  sNext)))
theorem lens_pos {p : Plan} (k : p.Ok) : 0 < p.lens.length := by
  obtain ⟨k1, k2, k3, k4, h1, h2, h3⟩ := k
  simp only [Plan.lens, List.length_append, List.length_map, List.length_range]
  omega
/-- what is kept by the walk -/
structure Any (p : Plan) (r rq : Nat) (q : List One) (front : Int) (h : Hs) : Prop where
  s : Spr h r
  c : h[rq]? = some (.lst (q.map One.d))
  o : ∀ o ∈ q, o.Ok p
  ch : chain q = true
  l : ∀ f, f < front → lastOk q.getLast? f = true
  f5 : front ≤ 5
theorem chain_len6 : ∀ (q : List One) (p : Plan), (∀ o ∈ q, o.Ok p) → chain q = true → q.length ≤ 7 := fun q p k c => by
  have := (Stand.mk q 0 false 0 false)
  exact (RowOk.len ⟨fun o m => by
    have := k o m
    exact ⟨by have := this.f0; omega, by have := this.f4; omega, this.l, by have := this.t; omega⟩, c⟩)
theorem any_body {p : Plan} (k : p.Ok) {r rq : Nat} (ne : rq ≠ r) {q : List One} {front : Int} {h : Hs} (A : Any p r rq q front h) (hf : 0 < front) (w : List Slot) (hw : w.length = 8) (v13 v14 v15 v16 : Slot) :
    ∃ q' front' h' v13' v14', anyB ([.val (.ref r), .val p.d] ++ w ++ [.val (.lst (p.lens.map .int)), .val (.ref rq), .val (.int front), v13, v14, v15, v16]) h = .nx ([.val (.ref r), .val p.d] ++ w ++ [.val (.lst (p.lens.map .int)), .val (.ref rq), .val (.int front'), v13', v14', v15, v16]) h' ∧ Any p r rq q' front' h' ∧ front' < front := by
  match w, hw with
  | [w2, w3, w4, w5, w6, w7, w8, w9], _ =>
  have lp := lens_pos k
  have ll := lens_len k
  obtain ⟨d1, h1, P1, ⟨a1, a2, S1⟩, L1, O1⟩ := f__law_pick_eq2 (many := (p.lens.length : Nat)) A.s (by omega) (by omega)
  have LN : ∀ h, opLen h (.lst (p.lens.map D.int)) = some (.int (p.lens.length : Nat)) := fun h => by rw [opLen_l, List.length_map]
  obtain ⟨y, my, I1⟩ := ix_mem (xs := p.lens.map D.int) h1 a1 (by simpa using a2)
  obtain ⟨l, ml, rfl⟩ := List.mem_map.1 my
  have l03 := lens_in k ml
  obtain ⟨d2, h2, P2, ⟨b1, b2, S2⟩, L2, O2⟩ := f__law_pick_eq2 (many := 3) S1 (by omega) (by omega)
  have c2 : h2[rq]? = some (.lst (q.map One.d)) := by rw [O2 rq ne, O1 rq ne]; exact A.c
  generalize hf2 : front - 1 - d2 = f2
  have s1 : sAsg (gName 13) (mOp2 opIx (mVar 10) (mCall f__law_pick [(mVar 0), (mOpN (op1N opLen) [(mVar 10)])])) [.val (.ref r), .val p.d, w2, w3, w4, w5, w6, w7, w8, w9, .val (.lst (p.lens.map .int)), .val (.ref rq), .val (.int front), v13, v14, v15, v16] h = .nx [.val (.ref r), .val p.d, w2, w3, w4, w5, w6, w7, w8, w9, .val (.lst (p.lens.map .int)), .val (.ref rq), .val (.int front), .val (.int l), v14, v15, v16] h1 := by
    have := LN h
    generalize D.lst (p.lens.map D.int) = LE at this I1 ⊢
    simp [this, P1, I1]
  have s2 : sAsg (gName 12) (mOp2 opSub (mOp2 opSub (mVar 12) (mVal (.int 1))) (mCall f__law_pick [(mVar 0), (mVal (.int 3))])) [.val (.ref r), .val p.d, w2, w3, w4, w5, w6, w7, w8, w9, .val (.lst (p.lens.map .int)), .val (.ref rq), .val (.int front), .val (.int l), v14, v15, v16] h1 = .nx [.val (.ref r), .val p.d, w2, w3, w4, w5, w6, w7, w8, w9, .val (.lst (p.lens.map .int)), .val (.ref rq), .val (.int f2), .val (.int l), v14, v15, v16] h2 := by
    generalize D.lst (p.lens.map D.int) = LE
    simp [P2, opSub_ii, hf2]
  have A2 : Any p r rq q f2 h2 := ⟨S2, c2, A.o, A.ch, fun f hf => A.l f (by omega), by have := A.f5; omega⟩
  simp only [List.cons_append, List.nil_append]
  unfold anyB
  rw [seq_by s1, seq_by s2]
  by_cases c : 0 ≤ f2
  · obtain ⟨d3, h3, P3, ⟨e1, e2, S3⟩, L3, O3⟩ := f__law_pick_eq2 (many := 2) S2 (by omega) (by omega)
    have c3 : h3[rq]? = some (.lst (q.map One.d)) := by rw [O3 rq ne]; exact c2
    have A3 : Any p r rq q f2 h3 := ⟨S3, c3, A2.o, A2.ch, A2.l, A2.f5⟩
    generalize ho : One.mk f2 l (decide (d3 = 0)) = o
    have of : o.f = f2 := by rw [← ho]
    have ol : o.l = l := by rw [← ho]
    have f4 : f2 ≤ 4 := by have := A.f5; omega
    have sm : o.Sm := ⟨by omega, by omega, by omega, by omega⟩
    have G := f__law_ground_eq sm h3
    have GI := gd_ix sm h3
    have s3 : sAsg (gName 14) (mTup [(mVar 12), (mVar 13), (mOp2 opEq (mCall f__law_pick [(mVar 0), (mVal (.int 2))]) (mVal (.int 0)))]) [.val (.ref r), .val p.d, w2, w3, w4, w5, w6, w7, w8, w9, .val (.lst (p.lens.map .int)), .val (.ref rq), .val (.int f2), .val (.int l), v14, v15, v16] h2 = .nx [.val (.ref r), .val p.d, w2, w3, w4, w5, w6, w7, w8, w9, .val (.lst (p.lens.map .int)), .val (.ref rq), .val (.int f2), .val (.int l), .val o.d, v15, v16] h3 := by
      generalize D.lst (p.lens.map D.int) = LE
      have : o.d = .tup [.int f2, .int l, .bl (decide (d3 = 0))] := by rw [← ho]; rfl
      simp [P3, opEq_ii, L3', this]
    have T0 : ∀ (A B : SM), sIf (tVal (mOp2 opGe (mVar 12) (mVal (.int 0)))) A B [.val (.ref r), .val p.d, w2, w3, w4, w5, w6, w7, w8, w9, .val (.lst (p.lens.map .int)), .val (.ref rq), .val (.int f2), .val (.int l), v14, v15, v16] h2 = A [.val (.ref r), .val p.d, w2, w3, w4, w5, w6, w7, w8, w9, .val (.lst (p.lens.map .int)), .val (.ref rq), .val (.int f2), .val (.int l), v14, v15, v16] h2 := fun A B => by
      generalize D.lst (p.lens.map D.int) = LE
      simp [opGe_ii, c]
    rw [T0, seq_by s3]
    generalize hgd : D.lst ((gd o).map D.int) = GD at G GI
    by_cases t : o.tail ≤ 2
    · have ok : o.Ok p := ⟨by omega, by omega, by rw [ol]; exact ml, t⟩
      have CH : chain (q ++ [o]) = true := by rw [chain_snoc, A.ch, of, A.l f2 (by omega)]; rfl
      have tl := tail_le o
      have ql := chain_len6 q p A.o A.ch
      have LQ : (q.map One.d).length < LINE := by rw [LINE_eq]; simp; omega
      have c4 : (h3.set rq (.lst (q.map One.d ++ [o.d])))[rq]? = some (.lst ((q ++ [o]).map One.d)) := by rw [set_get c3]; simp
      have S4 : Spr (h3.set rq (.lst (q.map One.d ++ [o.d]))) r := by
        obtain ⟨x, y, e⟩ := S3
        exact ⟨x, y, by rw [List.getElem?_set_ne ne]; exact e⟩
      have G4 := f__law_ground_eq sm (h3.set rq (.lst (q.map One.d ++ [o.d])))
      have GI4 := gd_ix sm (h3.set rq (.lst (q.map One.d ++ [o.d])))
      rw [hgd] at G4 GI4
      refine ⟨q ++ [o], o.tail, _, .val (.int l), .val o.d, ?_, ⟨S4, c4, fun x m => ?_, CH, fun f hf => by simp [lastOk, hf], by omega⟩, by omega⟩
      · generalize D.lst (p.lens.map D.int) = LE
        generalize hqq : q.map One.d = QQ at c3 LQ G4 GI4 ⊢
        simp [G, GI, opLe_ii, t, c3, LQ, G4, GI4]
      · simp only [List.mem_append, List.mem_singleton] at m
        rcases m with m | rfl
        · exact A.o x m
        · exact ok
    · refine ⟨q, f2, h3, .val (.int l), .val o.d, ?_, A3, by omega⟩
      generalize D.lst (p.lens.map D.int) = LE
      simp [G, GI, opLe_ii, t]
  · refine ⟨q, f2, h2, .val (.int l), v14, ?_, A2, by omega⟩
    generalize D.lst (p.lens.map D.int) = LE
    simp [opGe_ii, c]
theorem any_loop {p : Plan} (k : p.Ok) {r rq : Nat} (ne : rq ≠ r) (w : List Slot) (hw : w.length = 8) (v15 v16 : Slot) : ∀ (n : Nat) (q : List One) (front : Int) (h : Hs) (v13 v14 : Slot), Any p r rq q front h → front.toNat < n →
    ∃ q' front' h' v13' v14', whileLoop anyT anyB n ([.val (.ref r), .val p.d] ++ w ++ [.val (.lst (p.lens.map .int)), .val (.ref rq), .val (.int front), v13, v14, v15, v16]) h = .nx ([.val (.ref r), .val p.d] ++ w ++ [.val (.lst (p.lens.map .int)), .val (.ref rq), .val (.int front'), v13', v14', v15, v16]) h' ∧ Any p r rq q' front' h' := by
  intro n
  induction n with
  | zero => intro q front h v13 v14 A hn; omega
  | succ n ih =>
    intro q front h v13 v14 A hn
    have T : anyT ([.val (.ref r), .val p.d] ++ w ++ [.val (.lst (p.lens.map .int)), .val (.ref rq), .val (.int front), v13, v14, v15, v16]) h = .ok (decide (0 < front)) h := by
      match w, hw with
      | [w2, w3, w4, w5, w6, w7, w8, w9], _ =>
      generalize D.lst (p.lens.map D.int) = LE
      simp [anyT, opGt_ii]
    unfold whileLoop
    rw [T, toS_ok]
    by_cases c : 0 < front
    · obtain ⟨q', f', h', x, y, B, A', lt⟩ := any_body k ne A c w hw v13 v14 v15 v16
      obtain ⟨q2, f2, h2, x2, y2, B2, A2⟩ := ih q' f' h' x y A' (by omega)
      refine ⟨q2, f2, h2, x2, y2, ?_, A2⟩
      simp only [c, decide_true, if_true]
      rw [B, turn_nx, B2]
    · refine ⟨q, front, h, v13, v14, ?_, A⟩
      simp only [c, decide_false, Bool.false_eq_true, if_false]
theorem f__law_any_stand_eq {p : Plan} (k : p.Ok) {h : Hs} {r : Nat} (S : Spr h r) : ∃ (s : Stand) (h' : Hs), s.Ok p ∧ f__law_any_stand [.ref r, p.d] h = .ok s.d h' ∧ Spr h' r := by
  have rl : r < h.length := by
    obtain ⟨x, y, e⟩ := S
    exact (List.getElem?_eq_some_iff.mp e).1
  have ne : h.length ≠ r := by omega
  have kk := k
  obtain ⟨k1, k2, k3, k4, g1, g2, g3⟩ := kk
  have A0 : Any p r h.length [] 5 (h ++ [.lst []]) := ⟨by
    obtain ⟨x, y, e⟩ := S
    exact ⟨x, y, by rw [List.getElem?_append_left rl]; exact e⟩, by simp, by simp, rfl, fun f _ => rfl, by omega⟩
  obtain ⟨q, front, h1, v13, v14, W, A⟩ := any_loop k ne [.val (.int p.lift), .val (.str (wayS p.behind)), .val (.int p.wait), .val (.bl p.guard), .val (.int p.least), .val (.int p.greatest), .val (.bl p.backs), .val (.bl p.bikes)] rfl .no .no 10 [] 5 (h ++ [.lst []]) .no .no A0 (by decide)
  simp only [List.cons_append, List.nil_append] at W
  have e : opAdd h (.lst (if p.bikes = true then [.int 0] else [])) (.lst (rngL p.least (p.greatest + 1 - p.least).toNat)) = some (.lst (p.lens.map .int)) := by
    rw [opAdd_ll]
    · simp only [Plan.lens, List.map_append, rngL_map]
      cases p.bikes <;> simp
    · cases p.bikes <;> simp [rngL, LINE_eq] <;> omega
  have R := listRng2_eq (h := h) (show -100 ≤ p.least by omega) (show p.least ≤ 100 by omega) (show -100 ≤ p.greatest + 1 by omega) (show p.greatest + 1 ≤ 100 by omega)
  have st : startE 17 [.ref r, p.d] = [.val (.ref r), .val p.d, .no, .no, .no, .no, .no, .no, .no, .no, .no, .no, .no, .no, .no, .no, .no] := rfl
  have s1 : sAsg (gTup [(gName 2), (gTup [(gName 3), (gName 4), (gName 5)]), (gTup [(gName 6), (gName 7), (gName 8), (gName 9)])]) (mVar 1) [.val (.ref r), .val p.d, .no, .no, .no, .no, .no, .no, .no, .no, .no, .no, .no, .no, .no, .no, .no] h = .nx [.val (.ref r), .val p.d, .val (.int p.lift), .val (.str (wayS p.behind)), .val (.int p.wait), .val (.bl p.guard), .val (.int p.least), .val (.int p.greatest), .val (.bl p.backs), .val (.bl p.bikes), .no, .no, .no, .no, .no, .no, .no] h := by
    simp [Plan.d]
  have s2 : sAsg (gTup [gName 10, gName 11, gName 12]) (mTup [(mOp2 opAdd (mIf (tVal (mVar 9)) (mLst [(mVal (.int 0))]) (mLst [])) (mListRng2 (mVar 6) (mOp2 opAdd (mVar 7) (mVal (.int 1))))), (mNew []), (mVal (.int 5))]) [.val (.ref r), .val p.d, .val (.int p.lift), .val (.str (wayS p.behind)), .val (.int p.wait), .val (.bl p.guard), .val (.int p.least), .val (.int p.greatest), .val (.bl p.backs), .val (.bl p.bikes), .no, .no, .no, .no, .no, .no, .no] h = .nx [.val (.ref r), .val p.d, .val (.int p.lift), .val (.str (wayS p.behind)), .val (.int p.wait), .val (.bl p.guard), .val (.int p.least), .val (.int p.greatest), .val (.bl p.backs), .val (.bl p.bikes), .val (.lst (p.lens.map .int)), .val (.ref h.length), .val (.int 5), .no, .no, .no, .no] (h ++ [.lst []]) := by
    generalize D.lst (p.lens.map D.int) = LE at e ⊢
    cases hb : p.bikes <;> simp [hb] at e <;> simp [mNew, L0', L1', L3', opAdd_ii, R, e]
  have s3 : ∀ (a : Bool), sWhile fuel_law_any_stand_1 anyT anyB [.val (.ref r), .val p.d, .val (.int p.lift), .val (.str (wayS p.behind)), .val (.int p.wait), .val (.bl p.guard), .val (.int p.least), .val (.int p.greatest), .val (.bl p.backs), .val (.bl p.bikes), .val (.lst (p.lens.map .int)), .val (.ref h.length), .val (.int 5), .no, .no, .no, .no] (h ++ [.lst []]) = _ := fun _ => W
  have s3 := s3 true
  have TQ : ∀ h', h'[h.length]? = some (.lst (q.map One.d)) → opTupleR h' (.ref h.length) = some (qd q) := fun h' e => by simp [opTupleR, e, qd]
  have fin : ∀ x, (∃ (s : Stand) (h' : Hs), s.Ok p ∧ x = SRes.rt s.d h' ∧ Spr h' r) → ∃ (s : Stand) (h' : Hs), s.Ok p ∧ x.fin = .ok s.d h' ∧ Spr h' r := by
    rintro x ⟨s, h', a, rfl, b⟩
    exact ⟨s, h', a, rfl, b⟩
  unfold f__law_any_stand m__law_any_stand
  simp only [defn, st]
  refine fin _ ?_
  rw [seq_by s1, seq_by s2]
  simp only [anyT, anyB] at s3
  rw [seq_by s3]
  have ql := chain_len6 q p A.o A.ch
  obtain ⟨d1, h2, P1, ⟨a1, a2, S1⟩, L1, O1⟩ := f__law_pick_eq2 (many := 2) A.s (by omega) (by omega)
  have c2 : h2[h.length]? = some (.lst (q.map One.d)) := by rw [O1 _ ne]; exact A.c
  by_cases c : d1 = 0
  · obtain ⟨d2, h3, P2, ⟨b1, b2, S2⟩, L2, O2⟩ := f__law_pick_eq2 (many := p.lift + 1) S1 (by omega) (by omega)
    have T := TQ h2 c2
    refine ⟨⟨q, d2, false, 0, false⟩, h3, ⟨A.o, A.ch, b1, by simp only; omega, by simp, by simp, by simp⟩, ?_, S2⟩
    generalize D.lst (p.lens.map D.int) = LE
    simp [P1, opEq_ii, c, L5', T, P2, opAdd_ii, Stand.d, upS]
  · -- up
    have fn := wayS_beq p.behind
    have seen : ∃ (b : Bool) (h3 : Hs), (mAnd (mOp2 opEq (mVar 3) (mVal (.str "behind"))) (mOp2 opEq (mCall f__law_pick [(mVar 0), (mVal (.int 2))]) (mVal (.int 0)))) [.val (.ref r), .val p.d, .val (.int p.lift), .val (.str (wayS p.behind)), .val (.int p.wait), .val (.bl p.guard), .val (.int p.least), .val (.int p.greatest), .val (.bl p.backs), .val (.bl p.bikes), .val (.lst (p.lens.map .int)), .val (.ref h.length), .val (.int front), v13, v14, .no, .no] h2 = .ok (.bl b) h3 ∧ (b = true → p.behind = true) ∧ Spr h3 r ∧ h3[h.length]? = some (.lst (q.map One.d)) := by
      obtain ⟨d2, h3, P2, ⟨b1, b2, S2⟩, L2, O2⟩ := f__law_pick_eq2 (many := 2) S1 (by omega) (by omega)
      cases hb : p.behind with
      | true =>
        refine ⟨decide (d2 = 0), h3, ?_, fun _ => rfl, S2, by rw [O2 _ ne]; exact c2⟩
        generalize D.lst (p.lens.map D.int) = LE
        have e := way_eq true h2
        simp [e, P2, opEq_ii]
      | false =>
        refine ⟨false, h2, ?_, by simp, S1, c2⟩
        generalize D.lst (p.lens.map D.int) = LE
        have e := way_eq false h2
        simp [e]
    obtain ⟨b, h3, SE, hb, S3, c3⟩ := seen
    obtain ⟨d4, h4, P4, ⟨u1, u2, S4⟩, L4, O4⟩ := f__law_pick_eq2 (many := p.lift + 1) S3 (by omega) (by omega)
    obtain ⟨d5, h5, P5, ⟨t1, t2, S5⟩, L5, O5⟩ := f__law_pick_eq2 (many := 2) S4 (by omega) (by omega)
    have c5 : h5[h.length]? = some (.lst (q.map One.d)) := by rw [O5 _ ne, O4 _ ne]; exact c3
    obtain ⟨y, my, I5⟩ := ix_mem (xs := [.int p.lift, .int d4]) h5 t1 (by simpa using t2)
    obtain ⟨he, rfl, he1, he2⟩ : ∃ he : Int, y = .int he ∧ 0 ≤ he ∧ he ≤ p.lift := by
      simp at my
      rcases my with rfl | rfl
      · exact ⟨_, rfl, by omega, by omega⟩
      · exact ⟨_, rfl, by omega, by omega⟩
    obtain ⟨d6, h6, P6, ⟨x1, x2, S6⟩, L6, O6⟩ := f__law_pick_eq2 (many := p.wait + 1) S5 (by omega) (by omega)
    have T := TQ h5 c5
    refine ⟨⟨q, he, true, d6, b⟩, h6, ⟨A.o, A.ch, he1, he2, x1, by simp; omega, fun e => ⟨rfl, hb e⟩⟩, ?_, S6⟩
    have s4 : ∀ A B : SM, sIf (tVal (mOp2 opEq (mCall f__law_pick [(mVar 0), (mVal (.int 2))]) (mVal (.int 0)))) A sNext [.val (.ref r), .val p.d, .val (.int p.lift), .val (.str (wayS p.behind)), .val (.int p.wait), .val (.bl p.guard), .val (.int p.least), .val (.int p.greatest), .val (.bl p.backs), .val (.bl p.bikes), .val (.lst (p.lens.map .int)), .val (.ref h.length), .val (.int front), v13, v14, .no, .no] h1 = .nx [.val (.ref r), .val p.d, .val (.int p.lift), .val (.str (wayS p.behind)), .val (.int p.wait), .val (.bl p.guard), .val (.int p.least), .val (.int p.greatest), .val (.bl p.backs), .val (.bl p.bikes), .val (.lst (p.lens.map .int)), .val (.ref h.length), .val (.int front), v13, v14, .no, .no] h2 := fun A B => by
      generalize D.lst (p.lens.map D.int) = LE
      simp [P1, opEq_ii, c]
    rw [seq_by (s4 _ sNext)]
    rw [seq_by (asg_by (i := 15) SE)]
    simp only [List.set]
    generalize D.lst (p.lens.map D.int) = LE
    simp [L2', P4, P5, opAdd_ii, I5, L5', T, P6, Stand.d, upS]
end KK

set_option Elab.async false
set_option linter.all false
set_option maxRecDepth 100000
set_option maxHeartbeats 1000000
namespace KK
open DS
open PySem (Str)
/-! PP: the program's ticks: places, moves, feeling -/
theorem f_is_on_eq (o : One) (i : Int) (h : Hs) : f_is_on [o.d, .int i] h = .ok (.bl (onP o i)) h := by
  by_cases c : o.tail ≤ i <;> simp [f_is_on, m_is_on, f_tail_of_eq, opLe_ii, c, One.ix0, onP]
theorem Mv.dic_ix (m : Mv) (h : Hs) : opDicIx h (.dic ["back", "on", "stay"] [.int (-1), .int 1, .int 0]) m.d = some (.int m.step) := by
  have h1 : ¬ (("back" : Str) = "on") := by decide
  have h2 : ¬ (("back" : Str) = "stay") := by decide
  have h3 : ¬ (("on" : Str) = "stay") := by decide
  cases m <;> simp [opDicIx, Mv.d, Mv.s, dicAt, Mv.step, h1, h2, h3]
theorem f_moved_eq (o : One) (m : Mv) (h : Hs) : f_moved [o.d, m.d] h = .ok (mv o m).d h := by
  have S : opSl o.d (some 1) none = some (.tup [.int o.l, .bl o.p]) := rfl
  have A := opAdd_tt h [.int (o.f + m.step)] [.int o.l, .bl o.p] (by simp [LINE_eq])
  have E : D.tup ([.int (o.f + m.step)] ++ [.int o.l, .bl o.p]) = (mv o m).d := rfl
  rw [E] at A
  simp [f_moved, m_moved, One.ix0, m.dic_ix, opAdd_ii, L1', S, A]
theorem qd_eq (q : List One) : qd q = .tup (q.map One.d) := rfl
theorem f_in_lane_eq {row : List One} (L : row.length ≤ LINE) (h : Hs) : f_in_lane [.lst (row.map One.d)] h = .ok (qd (left row)) h ∧ f_in_lane [qd row] h = .ok (qd (left row)) h := by
  have A : ∀ v, lcLoop (gName 1) (tAnd (tVal (mOp2 opGe (mOp2 opIx (mVar 1) (mVal (.int 0))) (mVal (.int 0)))) (tVal (mOp2 opLe (mCall f_tail_of [(mVar 1)]) (mVal (.int 2))))) (mVar 1) [v, .no] (row.map One.d) [] h = .ok ((left row).map One.d) h := fun v => by
    rw [lc_map (p := fun o => decide (0 ≤ o.f) && decide (o.tail ≤ 2)) (q := One.d)]
    · rfl
    · intro o m
      refine ⟨[v, .val o.d], by simp, ?_, fun _ => by simp⟩
      simp [One.ix0, opGe_ii, f_tail_of_eq, opLe_ii]
    · simpa using L
  have A1 := A (.val (.lst (row.map One.d)))
  have A2 := A (.val (qd row))
  simp only [qd] at A2
  constructor
  · simp [f_in_lane, m_in_lane, A1, opTuple_l, qd]
  · simp [f_in_lane, m_in_lane, A2, opTuple_l, qd]
theorem f_is_felt_eq {q : List One} (L : q.length ≤ LINE) (i : Int) (h : Hs) : f_is_felt [qd q, .int i] h = .ok (.bl (felt q i)) h := by
  have A : lcLoop (gName 2) tYes (mAnd (mOp2 opGt (mOp2 opIx (mVar 2) (mVal (.int 1))) (mVal (.int 0))) (mCall f_is_on [(mVar 2), (mVar 1)])) [.val (qd q), .val (.int i), .no] (q.map One.d) [] h = .ok (q.map fun o => .bl (decide (0 < o.l) && onP o i)) h := by
    rw [lc_mapT (q := fun o => .bl (decide (0 < o.l) && onP o i))]
    · rfl
    · intro o m
      refine ⟨[.val (qd q), .val (.int i), .val o.d], by simp, by simp, ?_⟩
      by_cases c : 0 < o.l <;> simp [One.ix1, opGt_ii, c, f_is_on_eq]
    · simpa using L
  have B := opAny_map h (fun o => decide (0 < o.l) && onP o i) q
  simp only [qd] at A
  generalize q.map (fun o => D.bl (decide (0 < o.l) && onP o i)) = X at A B
  simp [f_is_felt, m_is_felt, qd, A, B, felt]
theorem any_on {q : List One} (L : q.length ≤ LINE) (i : Int) (x : Nat) (e : En) (h : Hs) (hg : ∀ d : D, (e.set x (.val d))[x]? = some (.val d)) :
    lcLoop (gName x) tYes (mCall f_is_on [(mVar x), (mVal (.int i))]) e (q.map One.d) [] h = .ok (q.map fun o => .bl (onP o i)) h := by
  rw [lc_mapT (q := fun o => .bl (onP o i))]
  · rfl
  · intro o m
    exact ⟨e.set x (.val o.d), rfl, by simp, by simp [hg, f_is_on_eq]⟩
  · simpa using L
/-! rows -/
theorem mv_ix (x : List Mv) : mvsd x = .tup (x.map Mv.d) := rfl
def xd (x : List Mv × List One) : D := .tup [mvsd x.1, qd x.2]
def stepsD : List D := [.tup [.str "back", .int (-1)], .tup [.str "on", .int 1], .tup [.str "stay", .int 0]]
theorem steps_map : stepsD = Mvs.map fun m => .tup [m.d, .int m.step] := rfl
theorem steps_c : c_STEPS = .tup stepsD := rfl
def roC : SM := (sSeq (sAsg (gName 14) (mCall f_moved [(mVar 8), (mVar 12)]))
  (sSeq (sAsg (gName 15) (mAnd (mCall f_is_on [(mVar 14), (mVal (.int 1))]) (mNot (mCall f_is_on [(mVar 8), (mVal (.int 1))]))))
  (sSeq (sAsg (gName 16) (mAnd (mOr (mOp2 opNe (mVar 12) (mVal (.str "back"))) (mOp2 opIx (mOp2 opIx (mVar 0) (mVal (.int 2))) (mVal (.int 2)))) (mOr (mNot (mVar 15)) (mOp2 opEq (mVar 3) (mOp2 opIx (mVar 0) (mVal (.int 0)))))))
  (sIf (tAnd (tVal (mVar 16)) (tOr (tVal (mOp2 opEq (mVar 11) (mTup []))) (tVal (mOp2 opGt (mCall f_tail_of [(mOp2 opIx (mVar 11) (mOp1 opNeg (mVal (.int 1))))]) (mOp2 opIx (mVar 14) (mVal (.int 0)))))))
  (sAppend 9 (mTup [(mOp2 opAdd (mVar 10) (mTup [(mVar 12)])), (mOp2 opAdd (mVar 11) (mTup [(mVar 14)]))]))
  sNext))))
def xset (f : List (List Mv × List One)) : Slot := .own (f.map xd)
theorem Mv.ne_back (m : Mv) (h : Hs) : opNe h m.d (.str "back") = some (.bl (!decide (m = .back))) := by
  have h1 : ¬ (("on" : Str) = "back") := by decide
  have h2 : ¬ (("stay" : Str) = "back") := by decide
  cases m <;> simp [Mv.d, Mv.s, opNe_ss, h1, h2]
def goodB (p : Plan) (height : Int) (o : One) (m : Mv) : Bool := (!decide (m = .back) || p.backs) && (!(onP (mv o m) 1 && !onP o 1) || decide (p.lift ≤ height))
theorem good_split (p : Plan) (height : Int) (row : List One) (o : One) (m : Mv) : good p height row o m = (goodB p height o m && lastOk row.getLast? (mv o m).f) := rfl
theorem ro_body {p : Plan} {height : Int} {x : List Mv × List One} {o : One} {m : Mv} {found : List (List Mv × List One)} (kh : height ≤ p.lift) (hm : x.1.length < 100) (hr : x.2.length < 100) (hf : found.length < 100000) (v1 v2 v4 v5 v6 v7 a14 a15 a16 : Slot) (h : Hs) :
    ∃ b c d, roC [.val p.d, v1, v2, .val (.int height), v4, v5, v6, v7, .val o.d, xset found, .val (mvsd x.1), .val (qd x.2), .val m.d, .val (.int m.step), a14, a15, a16] h =
      .nx [.val p.d, v1, v2, .val (.int height), v4, v5, v6, v7, .val o.d, xset (found ++ if good p height x.2 o m then [(x.1 ++ [m], x.2 ++ [mv o m])] else []), .val (mvsd x.1), .val (qd x.2), .val m.d, .val (.int m.step), b, c, d] h := by
  obtain ⟨ms, row⟩ := x
  simp only at hm hr ⊢
  refine ⟨.val (mv o m).d, .val (.bl (onP (mv o m) 1 && !onP o 1)), .val (.bl (goodB p height o m)), ?_⟩
  have s1 : sAsg (gName 14) (mCall f_moved [(mVar 8), (mVar 12)]) [.val p.d, v1, v2, .val (.int height), v4, v5, v6, v7, .val o.d, xset found, .val (mvsd ms), .val (qd row), .val m.d, .val (.int m.step), a14, a15, a16] h = .nx [.val p.d, v1, v2, .val (.int height), v4, v5, v6, v7, .val o.d, xset found, .val (mvsd ms), .val (qd row), .val m.d, .val (.int m.step), .val (mv o m).d, a15, a16] h := by simp [f_moved_eq]
  have s2 : sAsg (gName 15) (mAnd (mCall f_is_on [(mVar 14), (mVal (.int 1))]) (mNot (mCall f_is_on [(mVar 8), (mVal (.int 1))]))) [.val p.d, v1, v2, .val (.int height), v4, v5, v6, v7, .val o.d, xset found, .val (mvsd ms), .val (qd row), .val m.d, .val (.int m.step), .val (mv o m).d, a15, a16] h = .nx [.val p.d, v1, v2, .val (.int height), v4, v5, v6, v7, .val o.d, xset found, .val (mvsd ms), .val (qd row), .val m.d, .val (.int m.step), .val (mv o m).d, .val (.bl (onP (mv o m) 1 && !onP o 1)), a16] h := by
    cases c : onP (mv o m) 1 <;> simp [f_is_on_eq, c]
  have s3 : sAsg (gName 16) (mAnd (mOr (mOp2 opNe (mVar 12) (mVal (.str "back"))) (mOp2 opIx (mOp2 opIx (mVar 0) (mVal (.int 2))) (mVal (.int 2)))) (mOr (mNot (mVar 15)) (mOp2 opEq (mVar 3) (mOp2 opIx (mVar 0) (mVal (.int 0)))))) [.val p.d, v1, v2, .val (.int height), v4, v5, v6, v7, .val o.d, xset found, .val (mvsd ms), .val (qd row), .val m.d, .val (.int m.step), .val (mv o m).d, .val (.bl (onP (mv o m) 1 && !onP o 1)), a16] h = .nx [.val p.d, v1, v2, .val (.int height), v4, v5, v6, v7, .val o.d, xset found, .val (mvsd ms), .val (qd row), .val m.d, .val (.int m.step), .val (mv o m).d, .val (.bl (onP (mv o m) 1 && !onP o 1)), .val (.bl (goodB p height o m))] h := by
    have E : decide (height = p.lift) = decide (p.lift ≤ height) := by rw [Bool.eq_iff_iff]; simp; omega
    unfold goodB
    generalize (onP (mv o m) 1 && !onP o 1) = en
    have NB := m.ne_back h
    by_cases c : m = .back
    · cases hb : p.backs <;> cases en <;> simp [NB, c, Plan.ix2, Plan.ix0, hb, opEq_ii, E]
      all_goals (subst c; simp [NB, Plan.ix2, Plan.ix0, hb, opEq_ii, E])
    · cases en <;> simp [NB, c, Plan.ix2, Plan.ix0, opEq_ii, E]
  unfold roC
  rw [seq_by s1, seq_by s2, seq_by s3, good_split]
  cases g : goodB p height o m with
  | false => simp
  | true =>
    have A1 := opAdd_tt h (ms.map Mv.d) [m.d] (by simp [LINE_eq]; omega)
    have A2 := opAdd_tt h (row.map One.d) [(mv o m).d] (by simp [LINE_eq]; omega)
    have XA : xset (found ++ [(ms ++ [m], row ++ [mv o m])]) = .own (found.map xd ++ [.tup [.tup (ms.map Mv.d ++ [m.d]), .tup (row.map One.d ++ [(mv o m).d])]]) := by simp [xset, xd, mvsd, qd]
    have L : (found.map xd).length < LINE := by simp [LINE_eq]; omega
    have EQ : opEq h (qd row) (.tup []) = some (.bl row.isEmpty) := by
      have := eq_nil_t (sh_onest row) (by decide) h
      rw [map_isEmpty] at this
      exact this
    simp only [Bool.true_and]
    rcases last_split row with rfl | ⟨r, z, rfl⟩
    · have lo : lastOk ([] : List One).getLast? (mv o m).f = true := rfl
      rw [lo]
      simp only [if_true]
      rw [XA]
      simp only [List.isEmpty_nil] at EQ
      simp only [xset]
      generalize found.map xd = F at L ⊢
      simp only [List.map_nil] at A2 ⊢
      have EQ' : opEq h (.tup []) (.tup []) = some (.bl true) := EQ
      simp [EQ', L0', L1', L2', mvsd, A1, qd, A2, L]
    · have lo : lastOk (r ++ [z]).getLast? (mv o m).f = decide ((mv o m).f < z.tail) := by simp [lastOk]
      rw [lo]
      have Z : opIx h (qd (r ++ [z])) (.int (-1)) = some z.d := by rw [qd, List.map_append]; exact opIx_tz h z.d (r.map One.d)
      rw [show (r ++ [z]).isEmpty = false by cases r <;> rfl] at EQ
      by_cases c : (mv o m).f < z.tail
      · simp only [c, decide_true, if_true]
        rw [XA]
        simp only [xset]
        generalize found.map xd = F at L ⊢
        have A2' : opAdd h (qd (r ++ [z])) (.tup [(mv o m).d]) = _ := A2
        have A1' : opAdd h (mvsd ms) (.tup [m.d]) = _ := A1
        generalize qd (r ++ [z]) = Q at EQ Z A2' ⊢
        generalize mvsd ms = MS at A1' ⊢
        simp [EQ, L0', L1', L2', opNeg_i, Z, f_tail_of_eq, One.ix0, opGt_ii, c, A1', A2', L]
      · simp only [c, decide_false, if_false, Bool.false_eq_true, List.append_nil]
        generalize qd (r ++ [z]) = Q at EQ Z ⊢
        simp [EQ, L0', opNeg_i, Z, f_tail_of_eq, One.ix0, opGt_ii, c]
def stC (m : Mv) : D := .tup [m.d, .int m.step]
theorem ro_steps {p : Plan} {height : Int} {x : List Mv × List One} {o : One} {found : List (List Mv × List One)} (kh : height ≤ p.lift) (hm : x.1.length < 100) (hr : x.2.length < 100) (hf : found.length < 90000) (v1 v2 v4 v5 v6 v7 a12 a13 a14 a15 a16 : Slot) (h : Hs) :
    ∃ b c d e f, forLoop (gTup [(gName 12), (gName 13)]) roC stepsD [.val p.d, v1, v2, .val (.int height), v4, v5, v6, v7, .val o.d, xset found, .val (mvsd x.1), .val (qd x.2), a12, a13, a14, a15, a16] h =
      .nx [.val p.d, v1, v2, .val (.int height), v4, v5, v6, v7, .val o.d, xset (found ++ grow p height o x), .val (mvsd x.1), .val (qd x.2), b, c, d, e, f] h := by
  obtain ⟨e', h1, b, c, d, e, f, h2⟩ := for_pre (g := gTup [(gName 12), (gName 13)]) (b := roC) (h := h) (enc := stC) (fun pre e => ∃ b c d f g, e = [.val p.d, v1, v2, .val (.int height), v4, v5, v6, v7, .val o.d, xset (found ++ pre.filterMap fun m => if good p height x.2 o m then some (x.1 ++ [m], x.2 ++ [mv o m]) else none), .val (mvsd x.1), .val (qd x.2), b, c, d, f, g]) Mvs [.val p.d, v1, v2, .val (.int height), v4, v5, v6, v7, .val o.d, xset found, .val (mvsd x.1), .val (qd x.2), a12, a13, a14, a15, a16] (by
    rintro pre m e hp ⟨b, c, d, f, g, rfl⟩
    have l2 := pre_lt hp
    have l3 := List.length_filterMap_le (fun m => if good p height x.2 o m then some (x.1 ++ [m], x.2 ++ [mv o m]) else none) pre
    simp only [Mvs, List.length_cons, List.length_nil] at l2
    obtain ⟨y, z, w, R⟩ := ro_body (p := p) (height := height) (x := x) (o := o) (m := m) (found := found ++ pre.filterMap fun m => if good p height x.2 o m then some (x.1 ++ [m], x.2 ++ [mv o m]) else none) kh hm hr (by rw [List.length_append]; omega) v1 v2 v4 v5 v6 v7 d f g h
    refine ⟨_, _, ?_, .inl R, .val m.d, .val (.int m.step), y, z, w, ?_⟩
    · simp [stC]
    · have E : List.filterMap (fun m => if good p height x.2 o m then some (x.1 ++ [m], x.2 ++ [mv o m]) else none) [m] = if good p height x.2 o m then [(x.1 ++ [m], x.2 ++ [mv o m])] else [] := by
        cases hg : good p height x.2 o m <;> simp [List.filterMap_cons, hg]
      rw [List.filterMap_append, E, List.append_assoc]) ⟨a12, a13, a14, a15, a16, by simp⟩
  exact ⟨b, c, d, e, f, by rw [show stepsD = Mvs.map stC from rfl, h1, h2]; rfl⟩
def roB : SM := (sFor (iSeq (mVal c_STEPS)) (gTup [(gName 12), (gName 13)]) roC)
theorem grow_len (p : Plan) (height : Int) (o : One) (x : List Mv × List One) : (grow p height o x).length ≤ 3 := by
  have := List.length_filterMap_le (fun m => if good p height x.2 o m then some (x.1 ++ [m], x.2 ++ [mv o m]) else none) Mvs
  simpa [grow, Mvs] using this
theorem ro_inner {p : Plan} {height : Int} {o : One} {F : List (List Mv × List One)} (kh : height ≤ p.lift) (hF : ∀ x ∈ F, x.1.length < 100 ∧ x.2.length < 100) (hl : F.length ≤ 20000) (v1 v2 v4 v5 v6 v7 a10 a11 a12 a13 a14 a15 a16 : Slot) (h : Hs) :
    ∃ b c d e f g i, forLoop (gTup [(gName 10), (gName 11)]) roB (F.map xd) [.val p.d, v1, v2, .val (.int height), v4, v5, v6, v7, .val o.d, .own [], a10, a11, a12, a13, a14, a15, a16] h =
      .nx [.val p.d, v1, v2, .val (.int height), v4, v5, v6, v7, .val o.d, xset (F.flatMap (grow p height o)), b, c, d, e, f, g, i] h := by
  obtain ⟨e', h1, b, c, d, e, f, g, i, h2⟩ := for_pre (g := gTup [(gName 10), (gName 11)]) (b := roB) (h := h) (enc := xd) (fun pre e => ∃ b c d f g i j, e = [.val p.d, v1, v2, .val (.int height), v4, v5, v6, v7, .val o.d, xset (pre.flatMap (grow p height o)), b, c, d, f, g, i, j]) F [.val p.d, v1, v2, .val (.int height), v4, v5, v6, v7, .val o.d, .own [], a10, a11, a12, a13, a14, a15, a16] (by
    rintro pre x e hp ⟨b, c, d, f, g, i, j, rfl⟩
    have l2 := pre_lt hp
    have l3 : (pre.flatMap (grow p height o)).length ≤ 3 * pre.length := flat_len pre (fun x _ => grow_len p height o x)
    have hx := hF x (pre_mem hp)
    obtain ⟨y1, y2, y3, y4, y5, R⟩ := ro_steps (p := p) (height := height) (x := x) (o := o) (found := pre.flatMap (grow p height o)) kh hx.1 hx.2 (by omega) v1 v2 v4 v5 v6 v7 d f g i j h
    refine ⟨[.val p.d, v1, v2, .val (.int height), v4, v5, v6, v7, .val o.d, xset (pre.flatMap (grow p height o)), .val (mvsd x.1), .val (qd x.2), d, f, g, i, j], _, by simp [xd], .inl ((for_by (ds := stepsD) (h1 := h) (by rfl)).trans R), .val (mvsd x.1), .val (qd x.2), y1, y2, y3, y4, y5, ?_⟩
    simp) ⟨a10, a11, a12, a13, a14, a15, a16, rfl⟩
  exact ⟨b, c, d, e, f, g, i, by rw [h1, h2]⟩
def roA : SM := (sSeq (sOwn 9 [])
  (sSeq (sFor (iSeq (mVar 7)) (gTup [(gName 10), (gName 11)]) roB)
  (sSeq (sFreeze 9) (sAsg (gName 7) (mVar 9)))))
theorem rows_snoc (p : Plan) (height : Int) (q : List One) (o : One) : rowsOf p height (q ++ [o]) = (rowsOf p height q).flatMap (grow p height o) := by simp [rowsOf, List.foldl_append]
theorem rows_mem {p : Plan} {height : Int} {q : List One} {x : List Mv × List One} (h : x ∈ rowsOf p height q) : x.1.length = q.length ∧ x.2.length = q.length ∧ moved p height q x.1 = some x.2 := by
  rw [rows_eq, List.mem_filterMap] at h
  obtain ⟨ms, h1, h2⟩ := h
  have l := allMoves_len _ _ h1
  cases c : moved p height q ms with
  | none => rw [c] at h2; simp at h2
  | some row =>
    rw [c] at h2
    simp at h2
    subst h2
    have := moved_some c
    exact ⟨l, by rw [this]; simp [l], c⟩
theorem rows_len (p : Plan) (height : Int) (q : List One) : (rowsOf p height q).length ≤ 3 ^ q.length := by
  rw [rows_eq, ← allMoves_card]
  exact List.length_filterMap_le ..
theorem f_rows_of_eq {p : Plan} {s : Stand} (kh : s.height ≤ p.lift) (hl : s.q.length ≤ 7) (h : Hs) : f_rows_of [p.d, s.d] h = .ok (.lst ((rowsOf p s.height s.q).map xd)) h := by
  obtain ⟨e', h1, b8, b9, b10, b11, b12, b13, b14, b15, b16, h2⟩ := for_pre (g := gName 8) (b := roA) (h := h) (enc := One.d) (fun pre e => ∃ b8 b9 b10 b11 b12 b13 b14 b15 b16, e = [.val p.d, .val s.d, .val (qd s.q), .val (.int s.height), .val (.str (upS s.up)), .val (.int s.timer), .val (.bl s.seen), .val (.lst ((rowsOf p s.height pre).map xd)), b8, b9, b10, b11, b12, b13, b14, b15, b16]) s.q [.val p.d, .val s.d, .val (qd s.q), .val (.int s.height), .val (.str (upS s.up)), .val (.int s.timer), .val (.bl s.seen), .val (.lst [xd ([], [])]), .no, .no, .no, .no, .no, .no, .no, .no, .no] (by
    rintro pre o e hp ⟨b8, b9, b10, b11, b12, b13, b14, b15, b16, rfl⟩
    have l2 := pre_lt hp
    have l3 := rows_len p s.height pre
    have N3 : 3 ^ pre.length ≤ 2187 := Nat.pow_le_pow_right (by decide) (show pre.length ≤ 7 by omega)
    obtain ⟨y1, y2, y3, y4, y5, y6, y7, R⟩ := ro_inner (p := p) (height := s.height) (o := o) (F := rowsOf p s.height pre) kh (fun x hx => by have := rows_mem hx; omega) (by omega) (.val s.d) (.val (qd s.q)) (.val (.str (upS s.up))) (.val (.int s.timer)) (.val (.bl s.seen)) (.val (.lst ((rowsOf p s.height pre).map xd))) b10 b11 b12 b13 b14 b15 b16 h
    rw [← rows_snoc] at R
    generalize (rowsOf p s.height pre).map xd = X at R ⊢
    refine ⟨[.val p.d, .val s.d, .val (qd s.q), .val (.int s.height), .val (.str (upS s.up)), .val (.int s.timer), .val (.bl s.seen), .val (.lst X), .val o.d, b9, b10, b11, b12, b13, b14, b15, b16], _, by simp, .inl ?_, .val o.d, .val (.lst ((rowsOf p s.height (pre ++ [o])).map xd)), y1, y2, y3, y4, y5, y6, y7, rfl⟩
    have s1 : sOwn 9 [] [.val p.d, .val s.d, .val (qd s.q), .val (.int s.height), .val (.str (upS s.up)), .val (.int s.timer), .val (.bl s.seen), .val (.lst X), .val o.d, b9, b10, b11, b12, b13, b14, b15, b16] h = .nx [.val p.d, .val s.d, .val (qd s.q), .val (.int s.height), .val (.str (upS s.up)), .val (.int s.timer), .val (.bl s.seen), .val (.lst X), .val o.d, .own [], b10, b11, b12, b13, b14, b15, b16] h := by simp [L0']
    have s2 := (for_by (it := iSeq (mVar 7)) (ds := X) (h1 := h) (h := h) (by rfl)).trans R
    unfold roA
    rw [seq_by s1, seq_by s2]
    simp [xset]) ⟨_, _, _, _, _, _, _, _, _, rfl⟩
  have s1 : sAsg (gTup [(gName 2), (gName 3), (gName 4), (gName 5), (gName 6)]) (mVar 1) [.val p.d, .val s.d, .no, .no, .no, .no, .no, .no, .no, .no, .no, .no, .no, .no, .no, .no, .no] h = .nx [.val p.d, .val s.d, .val (qd s.q), .val (.int s.height), .val (.str (upS s.up)), .val (.int s.timer), .val (.bl s.seen), .no, .no, .no, .no, .no, .no, .no, .no, .no, .no] h := by simp [Stand.d]
  have s2 : sAsg (gName 7) (mLst [(mTup [(mTup []), (mTup [])])]) [.val p.d, .val s.d, .val (qd s.q), .val (.int s.height), .val (.str (upS s.up)), .val (.int s.timer), .val (.bl s.seen), .no, .no, .no, .no, .no, .no, .no, .no, .no, .no] h = .nx [.val p.d, .val s.d, .val (qd s.q), .val (.int s.height), .val (.str (upS s.up)), .val (.int s.timer), .val (.bl s.seen), .val (.lst [xd ([], [])]), .no, .no, .no, .no, .no, .no, .no, .no, .no] h := by simp [L0', L1', L2', xd, mvsd, qd]
  rw [h2] at h1
  have s3 := (for_by (it := iSeq (mVar 2)) (g := gName 8) (b := roA) (ds := s.q.map One.d) (h1 := h) (h := h) (by simp [qd])).trans h1
  have st : startE 17 [p.d, s.d] = [.val p.d, .val s.d, .no, .no, .no, .no, .no, .no, .no, .no, .no, .no, .no, .no, .no, .no, .no] := rfl
  have s0 : m_rows_of [.val p.d, .val s.d, .no, .no, .no, .no, .no, .no, .no, .no, .no, .no, .no, .no, .no, .no, .no] h = .rt (.lst ((rowsOf p s.height s.q).map xd)) h := by
    unfold m_rows_of
    simp only [roA, roB, roC] at s3
    rw [seq_by s1, seq_by s2, seq_by s3]
    simp
  unfold f_rows_of
  simp only [defn, st, s0, fin_rt]
end KK

set_option Elab.async false
set_option linter.all false
set_option maxRecDepth 100000
set_option maxHeartbeats 1000000
namespace KK
open DS
open PySem (Str)
/-! PQ: the program's tick -/
theorem f_led_on_eq {s : Stand} {ms : List Mv} (L : (s.q.zip ms).length ≤ LINE) (h : Hs) : f_led_on [s.d, mvsd ms] h = .ok (.lst ((List.zipWith mv s.q ms).map One.d)) h := by
  have A : lcLoop (gTup [(gName 2), (gName 3)]) tYes (mCall f_moved [(mVar 2), (mVar 3)]) [.val s.d, .val (mvsd ms), .no, .no] ((s.q.zip ms).map pd) [] h = .ok ((s.q.zip ms).map fun x => (mv x.1 x.2).d) h := by
    rw [lc_mapT (q := fun x => (mv x.1 x.2).d)]
    · rfl
    · rintro ⟨o, m⟩ _
      exact ⟨[.val s.d, .val (mvsd ms), .val o.d, .val m.d], by simp [pd], by simp, by simp [f_moved_eq]⟩
    · simpa using L
  rw [← zip_mvs] at A
  have E : (s.q.zip ms).map (fun x => (mv x.1 x.2).d) = (List.zipWith mv s.q ms).map One.d := by simp [List.zip, List.map_zipWith]
  rw [E] at A
  simp only [mvsd] at A
  simp [f_led_on, m_led_on, Stand.ix0, qd, mvsd, A]
theorem c_UP_eq : c_UP = .str "up" := rfl
theorem c_DOWN_eq : c_DOWN = .str "down" := rfl
theorem upS_eqd (b : Bool) (h : Hs) : opEq h (.str (upS b)) (.str "down") = some (.bl (!b)) := by cases b <;> simp [upS, opEq_ss] <;> decide
theorem way_eqc (b : Bool) (h : Hs) : opEq h (.str (wayS b)) (.str "clock") = some (.bl (!b)) := by cases b <;> simp [wayS, opEq_ss] <;> decide
theorem f_programmed_eq {p : Plan} {s : Stand} {q : List One} (kh : s.height ≤ p.lift) (kt : s.up = false → s.timer = 0) (ks : s.seen = true → s.up = true ∧ p.behind = true) (L : q.length ≤ LINE) (t : Bool) (h : Hs) : f_programmed [p.d, s.d, qd q, .bl t] h = .ok (ordD (ordered p s q t)) h := by
  have F1 := f_is_felt_eq L 1 h
  have F2 := f_is_felt_eq L 2 h
  obtain ⟨sq, height, up, timer, seen⟩ := s
  obtain ⟨lift, behind, wait, guard, least, greatest, backs, bikes⟩ := p
  simp only at kh kt ks
  have U := fun b => upS_eq b h
  have UD := fun b => upS_eqd b h
  have W := way_eq behind h
  have WC := way_eqc behind h
  have S : opSl (Stand.mk sq height up timer seen).d (some 1) none = some (.tup [.int height, .str (upS up), .int timer, .bl seen]) := rfl
  have HE : decide (height = lift) = !decide (height < lift) := by rw [Bool.eq_iff_iff]; simp; omega
  have UT : upS true = ("up" : Str) := rfl
  have DT : upS false = ("down" : Str) := rfl
  have u1 := U true
  have u2 := U false
  have d1 := UD true
  have d2 := UD false
  rw [UT] at u1 d1
  rw [DT] at u2 d2
  simp only [f_programmed, m_programmed, Plan.d, ordered, ordD, c_UP_eq, c_DOWN_eq]
  cases t
  · cases up
    · have t0 := kt rfl
      subst t0
      have se : seen = false := by cases seen <;> simp_all
      subst se
      simp [S, F1, F2, u1, u2, d1, d2, W, WC, L3', L2', opGt_ii, opSub_ii, DT]
      by_cases c : 0 < height <;> cases guard <;> simp [c, F1, F2, L3', L2', UT, DT]
      cases felt q 1 <;> simp [L3', L2', UT, DT]
    · by_cases c1 : height < lift
      · have c1' : ¬ height = lift := by omega
        simp [S, F1, F2, u1, u2, d1, d2, W, WC, L3', L2', opGt_ii, opSub_ii, UT, opEq_ii, c1, c1']
      · have c1' : height = lift := by omega
        subst c1'
        cases behind
        · have se : seen = false := by cases seen <;> simp_all
          subst se
          by_cases c2 : 0 < timer
          · simp [S, F1, F2, u1, u2, d1, d2, W, WC, L3', L2', opGt_ii, opSub_ii, UT, DT, opEq_ii, c2]
          · by_cases c3 : 0 < height <;> cases guard <;> cases hf1 : felt q 1 <;> simp [S, F1, F2, u1, u2, d1, d2, W, WC, L3', L2', opGt_ii, opSub_ii, UT, DT, opEq_ii, c2, c3, hf1]
        · cases hf : felt q 2 <;> cases seen <;> simp [S, F1, F2, u1, u2, d1, d2, W, WC, L3', L2', opGt_ii, opSub_ii, UT, DT, opEq_ii, hf] <;>
          (by_cases c2 : 0 < timer
           · simp [S, F1, F2, u1, u2, d1, d2, W, WC, L3', L2', opGt_ii, opSub_ii, UT, DT, opEq_ii, c2, hf]
           · by_cases c3 : 0 < height <;> cases guard <;> cases hf1 : felt q 1 <;> simp [S, F1, F2, u1, u2, d1, d2, W, WC, L3', L2', opGt_ii, opSub_ii, UT, DT, opEq_ii, c2, c3, hf1, hf])
  · simp [S, F1, F2, u1, u2, d1, d2, L3', L2', UT]
def paTail : SM := (sSeq (sAsg (gTup [(gName 10), (gName 11), (gName 12)]) (mCall f_programmed [(mVar 0), (mVar 1), (mVar 7), (mVar 5)]))
  (sSeq (sAsg (gName 13) (mIf (tVal (mOp2 opEq (mVar 10) (mVal c_UP))) (mOpN (op2N opMin) [(mOp2 opIx (mVar 0) (mVal (.int 0))), (mOp2 opAdd (mOp2 opIx (mVar 1) (mVal (.int 1))) (mVal (.int 1)))]) (mOpN (op2N opMax) [(mVal (.int 0)), (mOp2 opSub (mOp2 opIx (mVar 1) (mVal (.int 1))) (mVal (.int 1)))])))
  (sSeq (sAsg (gName 9) (mOp2 opAdd (mVar 9) (mOp2 opMul (mLst [(mVal (.str "hits"))]) (mOpN (op1N opInt) [(mAnd (mOp2 opEq (mVar 13) (mVal (.int 0))) (mAnd (mOp2 opGt (mOp2 opIx (mVar 1) (mVal (.int 1))) (mVal (.int 0))) (mOpN (op1N opAny) [(mLc [14] (iSeq (mVar 7)) (gName 14) tYes (mCall f_is_on [(mVar 14), (mVal (.int 1))]))])))]))))
  (sSeq (sAsg (gName 9) (mOp2 opAdd (mOp2 opAdd (mVar 9) (mOp2 opMul (mLst [(mVal (.str "passes"))]) (mOpN (op1N opLen) [(mVar 8)]))) (mOp2 opMul (mLst [(mVal (.str "unpaid"))]) (mOpN (op1N opLen) [(mLc [14] (iSeq (mVar 8)) (gName 14) (tNot (tVal (mOp2 opIx (mVar 14) (mVal (.int 2))))) (mVar 14))]))))
  (sRet (mTup [(mTup [(mVar 7), (mVar 13), (mVar 10), (mVar 11), (mVar 12)]), (mVar 9)]))))))
theorem rep1 {x : D} {n : Nat} (h : Hs) (hn : n ≤ 1000) : opMul h (.lst [x]) (.int n) = some (.lst (List.replicate n x)) := by
  rw [opMul_ln h [x] n (by simp [LINE_eq]; omega) (by simp [LINE_eq]; omega)]
  congr 2
  induction n with
  | zero => rfl
  | succ n ih => rw [List.replicate_succ, List.flatten_cons, ih (by omega)]; rfl
theorem paTail_eq {p : Plan} {s : Stand} {c : Ch} {row q : List One} {w0 : List Str} (m6 : D) (mm mc mt : D) (kh0 : 0 ≤ s.height) (kh : s.height ≤ p.lift) (kl : 1 ≤ p.lift) (kt : s.up = false → s.timer = 0) (ks : s.seen = true → s.up = true ∧ p.behind = true) (L1 : row.length ≤ 50) (L2 : q.length ≤ LINE) (L0 : w0.length ≤ 50) (h : Hs) :
    paTail [.val p.d, .val s.d, .val c.d, .val mm, .val mc, .val (.bl c.ticket), .val m6, .val (qd q), .val (.lst ((gone row).map One.d)), .val (Sw w0), .no, .no, .no, .no, .no] h =
      .rt (.tup [(Stand.mk q (newHeight p s (ordered p s q c.ticket).1) (ordered p s q c.ticket).1 (ordered p s q c.ticket).2.1 (ordered p s q c.ticket).2.2).d,
        Sw (w0 ++ (if decide (newHeight p s (ordered p s q c.ticket).1 = 0) && decide (0 < s.height) && q.any (fun o => onP o 1) then [("hits" : Str)] else []) ++ (gone row).map (fun _ => ("passes" : Str)) ++ ((gone row).filter fun o => !o.p).map (fun _ => ("unpaid" : Str)))]) h := by
  have O := f_programmed_eq (p := p) (s := s) kh kt ks L2 c.ticket h
  generalize ordered p s q c.ticket = ord at O ⊢
  obtain ⟨up, timer, seen⟩ := ord
  simp only [ordD] at O ⊢
  have gl : (gone row).length ≤ 50 := by have := List.length_filter_le (fun o : One => decide (2 < o.tail)) row; unfold gone; omega
  generalize gone row = G at gl ⊢
  have U := upS_eq up h
  have s1 : sAsg (gTup [(gName 10), (gName 11), (gName 12)]) (mCall f_programmed [(mVar 0), (mVar 1), (mVar 7), (mVar 5)]) [.val p.d, .val s.d, .val c.d, .val mm, .val mc, .val (.bl c.ticket), .val m6, .val (qd q), .val (.lst (G.map One.d)), .val (Sw w0), .no, .no, .no, .no, .no] h = .nx [.val p.d, .val s.d, .val c.d, .val mm, .val mc, .val (.bl c.ticket), .val m6, .val (qd q), .val (.lst (G.map One.d)), .val (Sw w0), .val (.str (upS up)), .val (.int timer), .val (.bl seen), .no, .no] h := by
    simp [O]
  have NH : newHeight p s up = if up then (if s.height + 1 < p.lift then s.height + 1 else p.lift) else (if 0 < s.height - 1 then s.height - 1 else 0) := rfl
  have s2 : sAsg (gName 13) (mIf (tVal (mOp2 opEq (mVar 10) (mVal c_UP))) (mOpN (op2N opMin) [(mOp2 opIx (mVar 0) (mVal (.int 0))), (mOp2 opAdd (mOp2 opIx (mVar 1) (mVal (.int 1))) (mVal (.int 1)))]) (mOpN (op2N opMax) [(mVal (.int 0)), (mOp2 opSub (mOp2 opIx (mVar 1) (mVal (.int 1))) (mVal (.int 1)))])) [.val p.d, .val s.d, .val c.d, .val mm, .val mc, .val (.bl c.ticket), .val m6, .val (qd q), .val (.lst (G.map One.d)), .val (Sw w0), .val (.str (upS up)), .val (.int timer), .val (.bl seen), .no, .no] h = .nx [.val p.d, .val s.d, .val c.d, .val mm, .val mc, .val (.bl c.ticket), .val m6, .val (qd q), .val (.lst (G.map One.d)), .val (Sw w0), .val (.str (upS up)), .val (.int timer), .val (.bl seen), .val (.int (newHeight p s up)), .no] h := by
    cases up <;> simp [c_UP_eq, U, Plan.ix0, Stand.ix1, opAdd_ii, opSub_ii, opMax_ii, opMin_ii, NH]
  generalize newHeight p s up = nh at s2 ⊢
  obtain ⟨hb, hhb⟩ : ∃ hb, hb = (decide (nh = 0) && decide (0 < s.height) && q.any fun o => onP o 1) := ⟨_, rfl⟩
  rw [← hhb]
  have AN := any_on L2 1 14 [.val p.d, .val s.d, .val c.d, .val mm, .val mc, .val (.bl c.ticket), .val m6, .val (qd q), .val (.lst (G.map One.d)), .val (Sw w0), .val (.str (upS up)), .val (.int timer), .val (.bl seen), .val (.int nh), .no] h (by intro d; rfl)
  have OA := opAny_map h (fun o => onP o 1) q
  have M1 := opMul_lb h [.str "hits"] hb (by decide)
  have SWh : Sw (w0 ++ if hb then [("hits" : Str)] else []) = .lst (w0.map .str ++ if hb then [.str "hits"] else []) := by cases hb <;> simp [Sw]
  have A1 := opAdd_ll h (w0.map .str) (if hb then [.str "hits"] else []) (by cases hb <;> simp [LINE_eq] <;> omega)
  rw [← SWh] at A1
  have T : (mAnd (mOp2 opEq (mVar 13) (mVal (.int 0))) (mAnd (mOp2 opGt (mOp2 opIx (mVar 1) (mVal (.int 1))) (mVal (.int 0))) (mOpN (op1N opAny) [(mLc [14] (iSeq (mVar 7)) (gName 14) tYes (mCall f_is_on [(mVar 14), (mVal (.int 1))]))]))) [.val p.d, .val s.d, .val c.d, .val mm, .val mc, .val (.bl c.ticket), .val m6, .val (qd q), .val (.lst (G.map One.d)), .val (Sw w0), .val (.str (upS up)), .val (.int timer), .val (.bl seen), .val (.int nh), .no] h = .ok (.bl hb) h := by
    have LC : mLc [14] (iSeq (mVar 7)) (gName 14) tYes (mCall f_is_on [(mVar 14), (mVal (.int 1))]) [.val p.d, .val s.d, .val c.d, .val mm, .val mc, .val (.bl c.ticket), .val m6, .val (qd q), .val (.lst (G.map One.d)), .val (Sw w0), .val (.str (upS up)), .val (.int timer), .val (.bl seen), .val (.int nh), .no] h = .ok (.lst (q.map fun o => .bl (onP o 1))) h := by
      unfold mLc
      simp only [iSeq, mVar, qd, List.getElem?_cons_succ, List.getElem?_cons_zero, bind_ok]
      simp only [qd] at AN
      have W : (noOwn (wipe [.val p.d, .val s.d, .val c.d, .val mm, .val mc, .val (.bl c.ticket), .val m6, .val (.tup (q.map One.d)), .val (.lst (G.map One.d)), .val (Sw w0), .val (.str (upS up)), .val (.int timer), .val (.bl seen), .val (.int nh), .no] [14])) = [.val p.d, .val s.d, .val c.d, .val mm, .val mc, .val (.bl c.ticket), .val m6, .val (.tup (q.map One.d)), .val (.lst (G.map One.d)), .val (Sw w0), .val (.str (upS up)), .val (.int timer), .val (.bl seen), .val (.int nh), .no] := rfl
      rw [W, AN]
      rfl
    generalize mLc [14] (iSeq (mVar 7)) (gName 14) tYes (mCall f_is_on [(mVar 14), (mVal (.int 1))]) = LCM at LC ⊢
    rw [hhb]
    by_cases c1 : nh = 0
    · subst c1
      by_cases c2 : 0 < s.height
      · simp [opEq_ii, Stand.ix1, opGt_ii, c2, LC, OA]
      · simp [opEq_ii, Stand.ix1, opGt_ii, c2]
    · simp [opEq_ii, c1]
  have s3 : sAsg (gName 9) (mOp2 opAdd (mVar 9) (mOp2 opMul (mLst [(mVal (.str "hits"))]) (mOpN (op1N opInt) [(mAnd (mOp2 opEq (mVar 13) (mVal (.int 0))) (mAnd (mOp2 opGt (mOp2 opIx (mVar 1) (mVal (.int 1))) (mVal (.int 0))) (mOpN (op1N opAny) [(mLc [14] (iSeq (mVar 7)) (gName 14) tYes (mCall f_is_on [(mVar 14), (mVal (.int 1))]))])))]))) [.val p.d, .val s.d, .val c.d, .val mm, .val mc, .val (.bl c.ticket), .val m6, .val (qd q), .val (.lst (G.map One.d)), .val (Sw w0), .val (.str (upS up)), .val (.int timer), .val (.bl seen), .val (.int nh), .no] h = .nx [.val p.d, .val s.d, .val c.d, .val mm, .val mc, .val (.bl c.ticket), .val m6, .val (qd q), .val (.lst (G.map One.d)), .val (Sw (w0 ++ if hb then [("hits" : Str)] else [])), .val (.str (upS up)), .val (.int timer), .val (.bl seen), .val (.int nh), .no] h := by
    have A1' : opAdd h (Sw w0) (.lst (if hb = true then [.str "hits"] else [])) = some (Sw (w0 ++ if hb then [("hits" : Str)] else [])) := A1
    generalize (mAnd (mOp2 opEq (mVar 13) (mVal (.int 0))) (mAnd (mOp2 opGt (mOp2 opIx (mVar 1) (mVal (.int 1))) (mVal (.int 0))) (mOpN (op1N opAny) [(mLc [14] (iSeq (mVar 7)) (gName 14) tYes (mCall f_is_on [(mVar 14), (mVal (.int 1))]))]))) = TT at T ⊢
    generalize Sw (w0 ++ if hb then [("hits" : Str)] else []) = Y at A1' ⊢
    generalize Sw w0 = Z at A1' T ⊢
    simp [T, L1', opInt_b, M1, A1']
  have w1l : (w0 ++ if hb then [("hits" : Str)] else []).length ≤ 51 := by cases hb <;> simp <;> omega
  generalize (w0 ++ if hb then [("hits" : Str)] else []) = w1 at s3 w1l ⊢
  have R1 := rep1 (x := .str "passes") (n := G.length) h (by omega)
  have UL : ((G.filter fun o => !o.p)).length ≤ 50 := by have := List.length_filter_le (fun o : One => !o.p) G; omega
  have R2 := rep1 (x := .str "unpaid") (n := (G.filter fun o => !o.p).length) h (by omega)
  have LC2 : lcLoop (gName 14) (tNot (tVal (mOp2 opIx (mVar 14) (mVal (.int 2))))) (mVar 14) [.val p.d, .val s.d, .val c.d, .val mm, .val mc, .val (.bl c.ticket), .val m6, .val (qd q), .val (.lst (G.map One.d)), .val (Sw w1), .val (.str (upS up)), .val (.int timer), .val (.bl seen), .val (.int nh), .no] (G.map One.d) [] h = .ok ((G.filter fun o => !o.p).map One.d) h := by
    rw [lc_map (p := fun o => !o.p) (q := One.d)]
    · rfl
    · intro o m
      refine ⟨[.val p.d, .val s.d, .val c.d, .val mm, .val mc, .val (.bl c.ticket), .val m6, .val (qd q), .val (.lst (G.map One.d)), .val (Sw w1), .val (.str (upS up)), .val (.int timer), .val (.bl seen), .val (.int nh), .val o.d], by simp, ?_, fun _ => by simp⟩
      simp [One.ix2]
    · simp [LINE_eq]; omega
  have W1 : (w1.map D.str) ++ List.replicate G.length (.str "passes") = (w1 ++ G.map fun _ => ("passes" : Str)).map D.str := by simp [List.map_const']
  have W2 : ((w1 ++ G.map fun _ => ("passes" : Str)).map D.str) ++ List.replicate (G.filter fun o => !o.p).length (.str "unpaid") = (w1 ++ (G.map fun _ => ("passes" : Str)) ++ (G.filter fun o => !o.p).map fun _ => ("unpaid" : Str)).map D.str := by simp [List.map_const']
  have B1 := opAdd_ll h (w1.map D.str) (List.replicate G.length (.str "passes")) (by simp [LINE_eq]; omega)
  rw [W1] at B1
  have B2 := opAdd_ll h ((w1 ++ G.map fun _ => ("passes" : Str)).map D.str) (List.replicate (G.filter fun o => !o.p).length (.str "unpaid")) (by simp [LINE_eq]; omega)
  rw [W2] at B2
  have LG : opLen h (.lst (G.map One.d)) = some (.int (G.length : Nat)) := by rw [opLen_l, List.length_map]
  have LG2 : opLen h (.lst ((G.filter fun o => !o.p).map One.d)) = some (.int ((G.filter fun o => !o.p).length : Nat)) := by rw [opLen_l, List.length_map]
  have W : (noOwn (wipe [.val p.d, .val s.d, .val c.d, .val mm, .val mc, .val (.bl c.ticket), .val m6, .val (qd q), .val (.lst (G.map One.d)), .val (Sw w1), .val (.str (upS up)), .val (.int timer), .val (.bl seen), .val (.int nh), .no] [14])) = [.val p.d, .val s.d, .val c.d, .val mm, .val mc, .val (.bl c.ticket), .val m6, .val (qd q), .val (.lst (G.map One.d)), .val (Sw w1), .val (.str (upS up)), .val (.int timer), .val (.bl seen), .val (.int nh), .no] := rfl
  have LC3 : mLc [14] (iSeq (mVar 8)) (gName 14) (tNot (tVal (mOp2 opIx (mVar 14) (mVal (.int 2))))) (mVar 14) [.val p.d, .val s.d, .val c.d, .val mm, .val mc, .val (.bl c.ticket), .val m6, .val (qd q), .val (.lst (G.map One.d)), .val (Sw w1), .val (.str (upS up)), .val (.int timer), .val (.bl seen), .val (.int nh), .no] h = .ok (.lst ((G.filter fun o => !o.p).map One.d)) h := by
    unfold mLc
    have I : iSeq (mVar 8) [.val p.d, .val s.d, .val c.d, .val mm, .val mc, .val (.bl c.ticket), .val m6, .val (qd q), .val (.lst (G.map One.d)), .val (Sw w1), .val (.str (upS up)), .val (.int timer), .val (.bl seen), .val (.int nh), .no] h = .ok (G.map One.d) h := rfl
    rw [I, bind_ok, W, LC2]
    rfl
  have s4 : sAsg (gName 9) (mOp2 opAdd (mOp2 opAdd (mVar 9) (mOp2 opMul (mLst [(mVal (.str "passes"))]) (mOpN (op1N opLen) [(mVar 8)]))) (mOp2 opMul (mLst [(mVal (.str "unpaid"))]) (mOpN (op1N opLen) [(mLc [14] (iSeq (mVar 8)) (gName 14) (tNot (tVal (mOp2 opIx (mVar 14) (mVal (.int 2))))) (mVar 14))]))) [.val p.d, .val s.d, .val c.d, .val mm, .val mc, .val (.bl c.ticket), .val m6, .val (qd q), .val (.lst (G.map One.d)), .val (Sw w1), .val (.str (upS up)), .val (.int timer), .val (.bl seen), .val (.int nh), .no] h = .nx [.val p.d, .val s.d, .val c.d, .val mm, .val mc, .val (.bl c.ticket), .val m6, .val (qd q), .val (.lst (G.map One.d)), .val (Sw (w1 ++ (G.map fun _ => ("passes" : Str)) ++ (G.filter fun o => !o.p).map fun _ => ("unpaid" : Str))), .val (.str (upS up)), .val (.int timer), .val (.bl seen), .val (.int nh), .no] h := by
    generalize mLc [14] (iSeq (mVar 8)) (gName 14) (tNot (tVal (mOp2 opIx (mVar 14) (mVal (.int 2))))) (mVar 14) = LCM at LC3 ⊢
    unfold Sw at LC3 ⊢
    generalize ((w1 ++ (G.map fun _ => ("passes" : Str)) ++ (G.filter fun o => !o.p).map fun _ => ("unpaid" : Str))).map D.str = Y2 at B2 ⊢
    generalize ((w1 ++ G.map fun _ => ("passes" : Str))).map D.str = Y1 at B1 B2
    generalize w1.map D.str = Y0 at B1 LC3 ⊢
    generalize (G.filter fun o => !o.p) = G2 at LC3 LG2 R2 B2
    generalize G2.map One.d = GD2 at LC3 LG2
    generalize G.map One.d = GD at LC3 LG ⊢
    simp [L1', LG, R1, B1, LC3, LG2, R2, B2]
  unfold paTail
  rw [seq_by s1, seq_by s2, seq_by s3, seq_by s4]
  simp [L5', L2', Stand.d]
end KK

set_option Elab.async false
set_option linter.all false
set_option maxRecDepth 100000
set_option maxHeartbeats 1000000
namespace KK
open DS
open PySem (Str)
/-! PR: the program's tick, whole; its choices -/
theorem f_passed_eq {p : Plan} {s : Stand} {c : Ch} (k : p.Ok) (ks : s.Ok p) (kc : c.Ok p s) (h : Hs) : f_passed [p.d, s.d, c.d] h = .ok (.tup [(tick p s c).1.d, Sw (tick p s c).2]) h := by
  have len := ks.len
  obtain ⟨row, hr⟩ := Option.isSome_iff_exists.1 kc.m
  have hz := moved_some hr
  have ro := moved_ok ks.q hr
  have rl := ro.len
  have M := f_led_on_eq (s := s) (ms := c.moves) (by rw [LINE_eq, List.length_zip]; omega) h
  rw [← hz] at M
  have LF := (f_in_lane_eq (row := row) (by rw [LINE_eq]; omega) h).1
  have ll : (left row).length ≤ 7 := by have := List.length_filter_le (fun o : One => decide (0 ≤ o.f) && decide (o.tail ≤ 2)) row; unfold left; omega
  have F1 := f_is_felt_eq (q := s.q) (by rw [LINE_eq]; omega) 2 h
  have F2 := f_is_felt_eq (q := left row) (by rw [LINE_eq]; omega) 2 h
  have MU := opMul_lb h [.str "counts"] (felt s.q 2 && !felt (left row) 2) (by decide)
  have hl : (comes row c).length ≤ 20 := by have := comes_len row c; omega
  have t0 : s.up = false → s.timer = 0 := fun e => by
    have := ks.t1; have := ks.t2; rw [e] at this; simp at this; omega
  have LG : lcLoop (gName 14) (tVal (mOp2 opGt (mCall f_tail_of [(mVar 14)]) (mVal (.int 2)))) (mVar 14) [.val p.d, .val s.d, .val c.d, .val (mvsd c.moves), .val (.int c.comes), .val (.bl c.ticket), .val (.lst (row.map One.d)), .no, .no, .no, .no, .no, .no, .no, .no] (row.map One.d) [] h = .ok ((gone row).map One.d) h := by
    rw [lc_map (p := fun o => decide (2 < o.tail)) (q := One.d)]
    · rfl
    · intro o m
      refine ⟨[.val p.d, .val s.d, .val c.d, .val (mvsd c.moves), .val (.int c.comes), .val (.bl c.ticket), .val (.lst (row.map One.d)), .no, .no, .no, .no, .no, .no, .no, .val o.d], by simp, ?_, fun _ => by simp⟩
      simp [f_tail_of_eq, opGt_ii]
    · simp [LINE_eq]; omega
  have T := paTail_eq (p := p) (s := s) (c := c) (row := row) (q := comes row c) (w0 := if felt s.q 2 && !felt (left row) 2 then [("counts" : Str)] else []) (.lst (row.map One.d)) (mvsd c.moves) (.int c.comes) .non ks.h1 ks.h2 k.l1 t0 ks.b1 (by omega) (by rw [LINE_eq]; omega) (by split <;> simp) h
  have E : (tick p s c) = (⟨comes row c, newHeight p s (ordered p s (comes row c) c.ticket).1, (ordered p s (comes row c) c.ticket).1, (ordered p s (comes row c) c.ticket).2.1, (ordered p s (comes row c) c.ticket).2.2⟩, wordsOf p s row (comes row c) (newHeight p s (ordered p s (comes row c) c.ticket).1)) := by
    simp only [tick, ← hz]
  rw [E, wordsOf]
  have SW : ∀ b : Bool, Sw (if b then [("counts" : Str)] else []) = .lst (if b then [.str "counts"] else []) := fun b => by cases b <;> rfl
  have body : f_passed [p.d, s.d, c.d] h = (paTail [.val p.d, .val s.d, .val c.d, .val (mvsd c.moves), .val (.int c.comes), .val (.bl c.ticket), .val (.lst (row.map One.d)), .val (qd (comes row c)), .val (.lst ((gone row).map One.d)), .val (Sw (if felt s.q 2 && !felt (left row) 2 then [("counts" : Str)] else [])), .no, .no, .no, .no, .no] h).fin := by
    rw [SW]
    have s1 : sAsg (gTup [(gName 3), (gName 4), (gName 5)]) (mVar 2) [.val p.d, .val s.d, .val c.d, .no, .no, .no, .no, .no, .no, .no, .no, .no, .no, .no, .no] h = .nx [.val p.d, .val s.d, .val c.d, .val (mvsd c.moves), .val (.int c.comes), .val (.bl c.ticket), .no, .no, .no, .no, .no, .no, .no, .no, .no] h := by simp [Ch.d]
    have s2 : sAsg (gName 6) (mCall f_led_on [(mVar 1), (mVar 3)]) [.val p.d, .val s.d, .val c.d, .val (mvsd c.moves), .val (.int c.comes), .val (.bl c.ticket), .no, .no, .no, .no, .no, .no, .no, .no, .no] h = .nx [.val p.d, .val s.d, .val c.d, .val (mvsd c.moves), .val (.int c.comes), .val (.bl c.ticket), .val (.lst (row.map One.d)), .no, .no, .no, .no, .no, .no, .no, .no] h := by simp [M]
    have LG2 : mLc [14] (iSeq (mVar 6)) (gName 14) (tVal (mOp2 opGt (mCall f_tail_of [(mVar 14)]) (mVal (.int 2)))) (mVar 14) [.val p.d, .val s.d, .val c.d, .val (mvsd c.moves), .val (.int c.comes), .val (.bl c.ticket), .val (.lst (row.map One.d)), .no, .no, .no, .no, .no, .no, .no, .no] h = .ok (.lst ((gone row).map One.d)) h := by
      unfold mLc
      have I : iSeq (mVar 6) [.val p.d, .val s.d, .val c.d, .val (mvsd c.moves), .val (.int c.comes), .val (.bl c.ticket), .val (.lst (row.map One.d)), .no, .no, .no, .no, .no, .no, .no, .no] h = .ok (row.map One.d) h := rfl
      have W : noOwn (wipe [.val p.d, .val s.d, .val c.d, .val (mvsd c.moves), .val (.int c.comes), .val (.bl c.ticket), .val (.lst (row.map One.d)), .no, .no, .no, .no, .no, .no, .no, .no] [14]) = [.val p.d, .val s.d, .val c.d, .val (mvsd c.moves), .val (.int c.comes), .val (.bl c.ticket), .val (.lst (row.map One.d)), .no, .no, .no, .no, .no, .no, .no, .no] := rfl
      rw [I, bind_ok, W, LG]
      rfl
    have s3 : sAsg (gTup [gName 7, gName 8]) (mTup [(mCall f_in_lane [(mVar 6)]), (mLc [14] (iSeq (mVar 6)) (gName 14) (tVal (mOp2 opGt (mCall f_tail_of [(mVar 14)]) (mVal (.int 2)))) (mVar 14))]) [.val p.d, .val s.d, .val c.d, .val (mvsd c.moves), .val (.int c.comes), .val (.bl c.ticket), .val (.lst (row.map One.d)), .no, .no, .no, .no, .no, .no, .no, .no] h = .nx [.val p.d, .val s.d, .val c.d, .val (mvsd c.moves), .val (.int c.comes), .val (.bl c.ticket), .val (.lst (row.map One.d)), .val (qd (left row)), .val (.lst ((gone row).map One.d)), .no, .no, .no, .no, .no, .no] h := by
      generalize mLc [14] (iSeq (mVar 6)) (gName 14) (tVal (mOp2 opGt (mCall f_tail_of [(mVar 14)]) (mVal (.int 2)))) (mVar 14) = LCM at LG2 ⊢
      simp [LF, LG2, L2']
    have s4 : sAsg (gName 9) (mOp2 opMul (mLst [(mVal (.str "counts"))]) (mOpN (op1N opInt) [(mAnd (mCall f_is_felt [(mOp2 opIx (mVar 1) (mVal (.int 0))), (mVal (.int 2))]) (mNot (mCall f_is_felt [(mVar 7), (mVal (.int 2))])))])) [.val p.d, .val s.d, .val c.d, .val (mvsd c.moves), .val (.int c.comes), .val (.bl c.ticket), .val (.lst (row.map One.d)), .val (qd (left row)), .val (.lst ((gone row).map One.d)), .no, .no, .no, .no, .no, .no] h = .nx [.val p.d, .val s.d, .val c.d, .val (mvsd c.moves), .val (.int c.comes), .val (.bl c.ticket), .val (.lst (row.map One.d)), .val (qd (left row)), .val (.lst ((gone row).map One.d)), .val (.lst (if felt s.q 2 && !felt (left row) 2 then [.str "counts"] else [])), .no, .no, .no, .no, .no] h := by
      cases f1 : felt s.q 2 <;> simp [f1] at MU F1 <;> simp [Stand.ix0, F1, F2, L1', opInt_b, MU]
    generalize (D.lst (if felt s.q 2 && !felt (left row) 2 then [.str "counts"] else [])) = w0 at s4 ⊢
    have st : startE 15 [p.d, s.d, c.d] = [.val p.d, .val s.d, .val c.d, .no, .no, .no, .no, .no, .no, .no, .no, .no, .no, .no, .no] := rfl
    unfold f_passed m_passed
    simp only [defn, st]
    rw [seq_by s1, seq_by s2, seq_by s3, seq_by s4]
    generalize (gone row).map One.d = G
    by_cases c1 : c.comes = -1
    · have c1' : ¬ (0 ≤ c.comes) := by omega
      have s5 : ∀ v, sIf (tVal (mOp2 opGe (mVar 4) (mVal (.int 0)))) v sNext [.val p.d, .val s.d, .val c.d, .val (mvsd c.moves), .val (.int c.comes), .val (.bl c.ticket), .val (.lst (row.map One.d)), .val (qd (left row)), .val (.lst G), .val w0, .no, .no, .no, .no, .no] h = .nx [.val p.d, .val s.d, .val c.d, .val (mvsd c.moves), .val (.int c.comes), .val (.bl c.ticket), .val (.lst (row.map One.d)), .val (qd (left row)), .val (.lst G), .val w0, .no, .no, .no, .no, .no] h := fun v => by simp [opGe_ii, c1']
      rw [seq_by (s5 _)]
      cases ht : c.ticket
      · have C : comes row c = left row := by simp [comes, c1, ht]
        rw [C, paTail]
        congr 1
      · obtain ⟨r, x, e⟩ := (last_split (left row)).resolve_left (by have := kc.t ht; rw [← hz] at this; exact this.resolve_right (by simp [c1]))
        have rl2 : (left row).length = r.length + 1 := by rw [e]; simp
        have C : comes row c = r ++ [{ x with p := true }] := by simp [comes, c1, ht, e]
        have Z : opIx h (qd (left row)) (.int (-1)) = some x.d := by rw [e, qd, List.map_append]; exact opIx_tz h x.d (r.map One.d)
        have I : opSl (qd (left row)) none (some (-1)) = some (qd r) := by rw [e, qd, List.map_append]; exact opSl_init x.d (r.map One.d)
        have I2 : opSl x.d none (some 2) = some (.tup [.int x.f, .int x.l]) := rfl
        have A0 := opAdd_tt h [.int x.f, .int x.l] [.bl true] (by simp [LINE_eq])
        have A := opAdd_tt h (r.map One.d) [.tup [.int x.f, .int x.l, .bl true]] (by simp [LINE_eq]; omega)
        have CD : qd (r ++ [{ x with p := true }]) = .tup (r.map One.d ++ [.tup [.int x.f, .int x.l, .bl true]]) := by simp [qd, One.d]
        have s6 : sIf (tVal (mVar 5)) (sAsg (gName 7) (mOp2 opAdd (mSl (mVar 7) mNoPart (mPart (mOp1 opNeg (mVal (.int 1))))) (mTup [(mOp2 opAdd (mSl (mOp2 opIx (mVar 7) (mOp1 opNeg (mVal (.int 1)))) mNoPart (mPart (mVal (.int 2)))) (mTup [(mVal (.bl true))]))]))) sNext [.val p.d, .val s.d, .val c.d, .val (mvsd c.moves), .val (.int c.comes), .val (.bl true), .val (.lst (row.map One.d)), .val (qd (left row)), .val (.lst G), .val w0, .no, .no, .no, .no, .no] h = .nx [.val p.d, .val s.d, .val c.d, .val (mvsd c.moves), .val (.int c.comes), .val (.bl true), .val (.lst (row.map One.d)), .val (qd (r ++ [{ x with p := true }])), .val (.lst G), .val w0, .no, .no, .no, .no, .no] h := by
          rw [CD]
          have A' : opAdd h (qd r) (.tup [.tup [.int x.f, .int x.l, .bl true]]) = _ := A
          generalize qd (left row) = Q at Z I ⊢
          generalize qd r = R at I A' ⊢
          simp [opNeg_i, Z, I, I2, L1', A', A0]
        rw [seq_by s6, C, paTail]
    · have c2 : 0 ≤ c.comes := by
        have := lens_in k (kc.c1.resolve_left c1); omega
      have A := opAdd_tt h ((left row).map One.d) [.tup [.int 0, .int c.comes, .bl false]] (by simp [LINE_eq]; omega)
      have A2 := opAdd_tt h ((left row).map One.d) [.tup [.int 0, .int c.comes, .bl true]] (by simp [LINE_eq]; omega)
      have XD : ∀ b : Bool, qd (left row ++ [⟨0, c.comes, b⟩]) = .tup ((left row).map One.d ++ [.tup [.int 0, .int c.comes, .bl b]]) := fun b => by simp [qd, One.d]
      have s5 : sIf (tVal (mOp2 opGe (mVar 4) (mVal (.int 0)))) (sAsg (gName 7) (mOp2 opAdd (mVar 7) (mTup [(mTup [(mVal (.int 0)), (mVar 4), (mVal (.bl false))])]))) sNext [.val p.d, .val s.d, .val c.d, .val (mvsd c.moves), .val (.int c.comes), .val (.bl c.ticket), .val (.lst (row.map One.d)), .val (qd (left row)), .val (.lst G), .val w0, .no, .no, .no, .no, .no] h = .nx [.val p.d, .val s.d, .val c.d, .val (mvsd c.moves), .val (.int c.comes), .val (.bl c.ticket), .val (.lst (row.map One.d)), .val (qd (left row ++ [⟨0, c.comes, false⟩])), .val (.lst G), .val w0, .no, .no, .no, .no, .no] h := by
        rw [XD]
        have A' : opAdd h (qd (left row)) (.tup [.tup [.int 0, .int c.comes, .bl false]]) = _ := A
        generalize qd (left row) = Q at A' ⊢
        simp [opGe_ii, c2, L1', L3', A']
      rw [seq_by s5]
      cases ht : c.ticket
      · have C : comes row c = left row ++ [⟨0, c.comes, false⟩] := by simp [comes, c2, ht]
        rw [C, paTail]
        congr 1
      · have C : comes row c = left row ++ [⟨0, c.comes, true⟩] := by simp [comes, c2, ht]
        have Z : opIx h (qd (left row ++ [⟨0, c.comes, false⟩])) (.int (-1)) = some (One.mk 0 c.comes false).d := by rw [qd, List.map_append]; exact opIx_tz h _ ((left row).map One.d)
        have I : opSl (qd (left row ++ [⟨0, c.comes, false⟩])) none (some (-1)) = some (qd (left row)) := by rw [qd, List.map_append]; exact opSl_init _ ((left row).map One.d)
        have I2 : opSl (One.mk 0 c.comes false).d none (some 2) = some (.tup [.int 0, .int c.comes]) := rfl
        have A0 := opAdd_tt h [.int 0, .int c.comes] [.bl true] (by simp [LINE_eq])
        have s6 : sIf (tVal (mVar 5)) (sAsg (gName 7) (mOp2 opAdd (mSl (mVar 7) mNoPart (mPart (mOp1 opNeg (mVal (.int 1))))) (mTup [(mOp2 opAdd (mSl (mOp2 opIx (mVar 7) (mOp1 opNeg (mVal (.int 1)))) mNoPart (mPart (mVal (.int 2)))) (mTup [(mVal (.bl true))]))]))) sNext [.val p.d, .val s.d, .val c.d, .val (mvsd c.moves), .val (.int c.comes), .val (.bl true), .val (.lst (row.map One.d)), .val (qd (left row ++ [⟨0, c.comes, false⟩])), .val (.lst G), .val w0, .no, .no, .no, .no, .no] h = .nx [.val p.d, .val s.d, .val c.d, .val (mvsd c.moves), .val (.int c.comes), .val (.bl true), .val (.lst (row.map One.d)), .val (qd (left row ++ [⟨0, c.comes, true⟩])), .val (.lst G), .val w0, .no, .no, .no, .no, .no] h := by
          rw [XD true]
          have A' : opAdd h (qd (left row)) (.tup [.tup [.int 0, .int c.comes, .bl true]]) = _ := A2
          generalize qd (left row ++ [⟨0, c.comes, false⟩]) = Q at Z I ⊢
          generalize qd (left row) = R at I A' ⊢
          simp [opNeg_i, Z, I, I2, L1', A', A0]
        rw [seq_by s6, C, paTail]
  rw [body, T]
  rfl
def cset (f : List Ch) : Slot := .val (.lst (f.map Ch.d))
def coIn : SM := (sAsg (gName 2) (mOp2 opAdd (mVar 2) (mLst [(mTup [(mVar 3), (mVar 8), (mVal (.bl false))]), (mTup [(mVar 3), (mVar 8), (mVal (.bl true))])])))
theorem co_in {found : List Ch} {ms : List Mv} (lens : List Int) (hl : lens.length ≤ 10) (hf : found.length ≤ 100000) (v0 v1 v4 v5 v6 v7 v8 v9 : Slot) (h : Hs) :
    ∃ a, forLoop (gName 8) coIn (lens.map .int) [v0, v1, cset found, .val (mvsd ms), v4, v5, v6, v7, v8, v9] h = .nx [v0, v1, cset (found ++ lens.flatMap (lenCh ms)), .val (mvsd ms), v4, v5, v6, v7, a, v9] h := by
  obtain ⟨e', h1, a, h2⟩ := for_pre (g := gName 8) (b := coIn) (h := h) (enc := D.int) (fun pre e => ∃ a, e = [v0, v1, cset (found ++ pre.flatMap (lenCh ms)), .val (mvsd ms), v4, v5, v6, v7, a, v9]) lens [v0, v1, cset found, .val (mvsd ms), v4, v5, v6, v7, v8, v9] (by
    rintro pre l e hp ⟨a, rfl⟩
    have l2 := pre_lt hp
    have l3 : (pre.flatMap (lenCh ms)).length ≤ 2 * pre.length := flat_len pre (fun x _ => by simp [lenCh])
    refine ⟨[v0, v1, cset (found ++ pre.flatMap (lenCh ms)), .val (mvsd ms), v4, v5, v6, v7, .val (.int l), v9], [v0, v1, cset (found ++ (pre ++ [l]).flatMap (lenCh ms)), .val (mvsd ms), v4, v5, v6, v7, .val (.int l), v9], by simp, .inl ?_, ⟨_, rfl⟩⟩
    have A := opAdd_ll h ((found ++ pre.flatMap (lenCh ms)).map Ch.d) [.tup [mvsd ms, .int l, .bl false], .tup [mvsd ms, .int l, .bl true]] (by simp only [List.length_map, List.length_append, LINE_eq, List.length_cons, List.length_nil]; omega)
    have E : found ++ (pre ++ [l]).flatMap (lenCh ms) = (found ++ pre.flatMap (lenCh ms)) ++ lenCh ms l := by simp
    rw [E]
    generalize (found ++ pre.flatMap (lenCh ms)) = X at A ⊢
    have E2 : cset (X ++ lenCh ms l) = .val (.lst (X.map Ch.d ++ [.tup [mvsd ms, .int l, .bl false], .tup [mvsd ms, .int l, .bl true]])) := by simp [cset, lenCh, Ch.d]
    rw [E2]
    simp only [cset]
    generalize X.map Ch.d = Y at A ⊢
    simp [coIn, L3', L2', A]) ⟨v8, by simp [lenCh]⟩
  exact ⟨a, by rw [h1, h2]⟩
def coB : SM := (sSeq (sAsg (gName 5) (mCall f_in_lane [(mVar 4)]))
  (sSeq (sAsg (gName 6) (mNot (mOpN (op1N opAny) [(mLc [9] (iSeq (mVar 5)) (gName 9) tYes (mCall f_is_on [(mVar 9), (mVal (.int 0))]))])))
  (sSeq (sAsg (gName 7) (mAnd (mOp2 opNe (mVar 5) (mTup [])) (mAnd (mOp2 opEq (mOp2 opIx (mOp2 opIx (mVar 5) (mOp1 opNeg (mVal (.int 1)))) (mVal (.int 0))) (mVal (.int 0))) (mNot (mOp2 opIx (mOp2 opIx (mVar 5) (mOp1 opNeg (mVal (.int 1)))) (mVal (.int 2)))))))
  (sSeq (sAsg (gName 2) (mOp2 opAdd (mOp2 opAdd (mVar 2) (mLst [(mTup [(mVar 3), (mOp1 opNeg (mVal (.int 1))), (mVal (.bl false))])])) (mOp2 opMul (mLst [(mTup [(mVar 3), (mOp1 opNeg (mVal (.int 1))), (mVal (.bl true))])]) (mOpN (op1N opInt) [(mVar 7)]))))
  (sFor (iSeq (mIf (tVal (mVar 6)) (mCall f_lengths_of [(mVar 0)]) (mLst []))) (gName 8) coIn)))))
theorem ones_net (q : List One) (h : Hs) : opNe h (qd q) (.tup []) = some (.bl (!q.isEmpty)) := by
  have := ne_nil_t (sh_onest q) (by decide) h
  rw [map_isEmpty] at this
  exact this
theorem co_body {p : Plan} {x : List Mv × List One} {found : List Ch} (k : p.Ok) (hr : x.2.length ≤ 50) (hf : found.length ≤ 90000) (v1 a5 a6 a7 a8 a9 : Slot) (h : Hs) :
    ∃ b c d e f, coB [.val p.d, v1, cset found, .val (mvsd x.1), .val (qd x.2), a5, a6, a7, a8, a9] h = .nx [.val p.d, v1, cset (found ++ choicesAt p x), .val (mvsd x.1), .val (qd x.2), b, c, d, e, f] h := by
  obtain ⟨ms, row⟩ := x
  simp only at hr ⊢
  have LF := (f_in_lane_eq (row := row) (by rw [LINE_eq]; omega) h).2
  have ll : (left row).length ≤ 50 := by have := List.length_filter_le (fun o : One => decide (0 ≤ o.f) && decide (o.tail ≤ 2)) row; unfold left; omega
  have lens := lens_len k
  have s1 : sAsg (gName 5) (mCall f_in_lane [(mVar 4)]) [.val p.d, v1, cset found, .val (mvsd ms), .val (qd row), a5, a6, a7, a8, a9] h = .nx [.val p.d, v1, cset found, .val (mvsd ms), .val (qd row), .val (qd (left row)), a6, a7, a8, a9] h := by simp [LF]
  have CA : choicesAt p (ms, row) = [⟨ms, -1, false⟩] ++ (if lastIs (left row) then [⟨ms, -1, true⟩] else []) ++ (if free (left row) then p.lens.flatMap (lenCh ms) else []) := rfl
  rw [CA]
  generalize left row = q at s1 ll ⊢
  have OA := opAny_map h (fun o => onP o 0) q
  have LC : mLc [9] (iSeq (mVar 5)) (gName 9) tYes (mCall f_is_on [(mVar 9), (mVal (.int 0))]) [.val p.d, v1, cset found, .val (mvsd ms), .val (qd row), .val (qd q), a6, a7, a8, a9] h = .ok (.lst (q.map fun o => .bl (onP o 0))) h := by
    refine lc_by (ds := q.map One.d) (h1 := h) rfl ?_
    exact any_on (by rw [LINE_eq]; omega) 0 9 _ h (by intro d; rfl)
  have s2 : sAsg (gName 6) (mNot (mOpN (op1N opAny) [(mLc [9] (iSeq (mVar 5)) (gName 9) tYes (mCall f_is_on [(mVar 9), (mVal (.int 0))]))])) [.val p.d, v1, cset found, .val (mvsd ms), .val (qd row), .val (qd q), a6, a7, a8, a9] h = .nx [.val p.d, v1, cset found, .val (mvsd ms), .val (qd row), .val (qd q), .val (.bl (free q)), a7, a8, a9] h := by
    generalize mLc [9] (iSeq (mVar 5)) (gName 9) tYes (mCall f_is_on [(mVar 9), (mVal (.int 0))]) = LCM at LC ⊢
    generalize q.map (fun o => D.bl (onP o 0)) = Y at LC OA
    simp [LC, OA, free]
  have NE := ones_net q h
  have s3 : sAsg (gName 7) (mAnd (mOp2 opNe (mVar 5) (mTup [])) (mAnd (mOp2 opEq (mOp2 opIx (mOp2 opIx (mVar 5) (mOp1 opNeg (mVal (.int 1)))) (mVal (.int 0))) (mVal (.int 0))) (mNot (mOp2 opIx (mOp2 opIx (mVar 5) (mOp1 opNeg (mVal (.int 1)))) (mVal (.int 2)))))) [.val p.d, v1, cset found, .val (mvsd ms), .val (qd row), .val (qd q), .val (.bl (free q)), a7, a8, a9] h = .nx [.val p.d, v1, cset found, .val (mvsd ms), .val (qd row), .val (qd q), .val (.bl (free q)), .val (.bl (lastIs q)), a8, a9] h := by
    rcases last_split q with rfl | ⟨r, z, rfl⟩
    · simp only [List.isEmpty_nil] at NE
      simp [NE, L0', lastIs]
    · rw [show (r ++ [z]).isEmpty = false by cases r <;> rfl] at NE
      have Z : opIx h (qd (r ++ [z])) (.int (-1)) = some z.d := by rw [qd, List.map_append]; exact opIx_tz h z.d (r.map One.d)
      have LI : lastIs (r ++ [z]) = (decide (z.f = 0) && !z.p) := by simp [lastIs]
      rw [LI]
      generalize free (r ++ [z]) = fr
      generalize qd (r ++ [z]) = Q at NE Z ⊢
      by_cases c : z.f = 0 <;> simp [NE, L0', opNeg_i, Z, One.ix0, One.ix2, opEq_ii, c]
  obtain ⟨w1, hw1⟩ : ∃ w1, w1 = found ++ [⟨ms, -1, false⟩] ++ (if lastIs q then [⟨ms, -1, true⟩] else []) := ⟨_, rfl⟩
  have hw1l : w1.length ≤ 90002 := by rw [hw1]; split <;> simp <;> omega
  have A1 := opAdd_ll h (found.map Ch.d) [.tup [mvsd ms, .int (-1), .bl false]] (by simp [LINE_eq]; omega)
  have M := opMul_lb h [.tup [mvsd ms, .int (-1), .bl true]] (lastIs q) (by simp [LINE_eq])
  have A2 := opAdd_ll h (found.map Ch.d ++ [.tup [mvsd ms, .int (-1), .bl false]]) (if lastIs q = true then [.tup [mvsd ms, .int (-1), .bl true]] else []) (by split <;> simp [LINE_eq] <;> omega)
  have E1 : found.map Ch.d ++ [.tup [mvsd ms, .int (-1), .bl false]] ++ (if lastIs q = true then [.tup [mvsd ms, .int (-1), .bl true]] else []) = w1.map Ch.d := by
    rw [hw1]; split <;> simp [Ch.d]
  rw [E1] at A2
  have s4 : sAsg (gName 2) (mOp2 opAdd (mOp2 opAdd (mVar 2) (mLst [(mTup [(mVar 3), (mOp1 opNeg (mVal (.int 1))), (mVal (.bl false))])])) (mOp2 opMul (mLst [(mTup [(mVar 3), (mOp1 opNeg (mVal (.int 1))), (mVal (.bl true))])]) (mOpN (op1N opInt) [(mVar 7)]))) [.val p.d, v1, cset found, .val (mvsd ms), .val (qd row), .val (qd q), .val (.bl (free q)), .val (.bl (lastIs q)), a8, a9] h = .nx [.val p.d, v1, cset w1, .val (mvsd ms), .val (qd row), .val (qd q), .val (.bl (free q)), .val (.bl (lastIs q)), a8, a9] h := by
    simp only [cset]
    generalize w1.map Ch.d = W at A2 ⊢
    generalize found.map Ch.d ++ [.tup [mvsd ms, .int (-1), .bl false]] = V at A1 A2
    generalize found.map Ch.d = U at A1 ⊢
    simp [opNeg_i, L3', L1', A1, opInt_b, M, A2]
  have FL := f_lengths_of_eq k h
  cases hfr : free q with
  | true =>
    rw [hfr] at s2 s3 s4
    obtain ⟨a, I⟩ := co_in (found := w1) (ms := ms) p.lens (by omega) (by omega) (.val p.d) v1 (.val (qd row)) (.val (qd q)) (.val (.bl true)) (.val (.bl (lastIs q))) a8 a9 h
    refine ⟨.val (qd q), .val (.bl true), .val (.bl (lastIs q)), a, a9, ?_⟩
    · unfold coB
      rw [seq_by s1, seq_by s2, seq_by s3, seq_by s4, for_by (ds := p.lens.map .int) (h1 := h) (by simp [FL]), I, hw1]
      simp only [if_true, List.append_assoc]
  | false =>
    rw [hfr] at s2 s3 s4
    refine ⟨.val (qd q), .val (.bl false), .val (.bl (lastIs q)), a8, a9, ?_⟩
    unfold coB
    rw [seq_by s1, seq_by s2, seq_by s3, seq_by s4, for_by (ds := []) (h1 := h) (by simp [L0']), hw1]
    simp [forLoop]
theorem f_choices_of_eq {p : Plan} {s : Stand} (k : p.Ok) (ks : s.Ok p) (h : Hs) : f_choices_of [p.d, s.d] h = .ok (.lst ((choices p s).map Ch.d)) h := by
  have sl := ks.len
  have R := f_rows_of_eq (p := p) (s := s) ks.h2 (by omega) h
  have N3 : 3 ^ s.q.length ≤ 729 := Nat.pow_le_pow_right (by decide) sl
  have rl := rows_len p s.height s.q
  obtain ⟨e', h1, b3, b4, b5, b6, b7, b8, b9, h2⟩ := for_pre (g := gTup [(gName 3), (gName 4)]) (b := coB) (h := h) (enc := xd) (fun pre e => ∃ b3 b4 b5 b6 b7 b8 b9, e = [.val p.d, .val s.d, cset (pre.flatMap (choicesAt p)), b3, b4, b5, b6, b7, b8, b9]) (rowsOf p s.height s.q) [.val p.d, .val s.d, cset [], .no, .no, .no, .no, .no, .no, .no] (by
    rintro pre x e hp ⟨b3, b4, b5, b6, b7, b8, b9, rfl⟩
    have l2 := pre_lt hp
    have l3 : (pre.flatMap (choicesAt p)).length ≤ 10 * pre.length := flat_len pre (fun x _ => choicesAt_len k x)
    have hx := rows_mem (pre_mem hp)
    obtain ⟨y1, y2, y3, y4, y5, B⟩ := co_body (x := x) (found := pre.flatMap (choicesAt p)) k (by omega) (by omega) (.val s.d) b5 b6 b7 b8 b9 h
    refine ⟨[.val p.d, .val s.d, cset (pre.flatMap (choicesAt p)), .val (mvsd x.1), .val (qd x.2), b5, b6, b7, b8, b9], _, by simp [xd], .inl B, .val (mvsd x.1), .val (qd x.2), y1, y2, y3, y4, y5, ?_⟩
    simp) ⟨_, _, _, _, _, _, _, rfl⟩
  rw [h2] at h1
  have s1 : sAsg (gName 2) (mLst []) [.val p.d, .val s.d, .no, .no, .no, .no, .no, .no, .no, .no] h = .nx [.val p.d, .val s.d, cset [], .no, .no, .no, .no, .no, .no, .no] h := by simp [L0', cset]
  have s2 := (for_by (it := iSeq (mCall f_rows_of [(mVar 0), (mVar 1)])) (g := gTup [(gName 3), (gName 4)]) (b := coB) (ds := (rowsOf p s.height s.q).map xd) (h1 := h) (h := h) (by simp [R])).trans h1
  have st : startE 10 [p.d, s.d] = [.val p.d, .val s.d, .no, .no, .no, .no, .no, .no, .no, .no] := rfl
  unfold f_choices_of m_choices_of
  simp only [coB, coIn] at s2
  simp only [defn, st]
  rw [seq_by s1, seq_by s2]
  simp [cset, choices]
end KK

set_option Elab.async false
set_option linter.all false
set_option maxRecDepth 100000
set_option maxHeartbeats 1000000
namespace KK
open DS
open PySem (Str)
/-! PS: what is a choice -/
theorem mv_clean (m : Mv) : clean m.d = true := by
  cases m <;> simp only [Mv.d, Mv.s, clean] <;> rw [← Array.all_toList] <;> decide
theorem sh_mvs (ms : List Mv) : sh 1 (mvsd ms) := sh_tup fun d hd => by
  simp only [List.mem_map] at hd
  obtain ⟨m, _, rfl⟩ := hd
  exact ⟨mv_clean m, Nat.zero_le _⟩
theorem sh_ch (c : Ch) : sh 2 c.d := sh_tup (by
  intro d hd
  simp only [List.mem_cons, List.not_mem_nil, or_false] at hd
  rcases hd with rfl | rfl | rfl
  · exact sh_mvs _
  · exact sh_int _
  · exact sh_bl _)
theorem sh_chs (cs : List Ch) : sh 3 (.lst (cs.map Ch.d)) := sh_lst fun d hd => by
  simp only [List.mem_map] at hd
  obtain ⟨c, _, rfl⟩ := hd
  exact sh_ch c
theorem eqvA_mvs : ∀ (ms : List Mv) (ws : List D), ws.all isS = true → eqvA (ms.map Mv.d) ws = decide (ms.map Mv.d = ws)
  | [], [], _ => by simp [eqvA]
  | [], w :: ws, _ => by simp [eqvA]
  | m :: ms, [], _ => by simp [eqvA]
  | m :: ms, w :: ws, h => by
    simp only [List.all_cons, Bool.and_eq_true] at h
    obtain ⟨h1, h2⟩ := h
    cases w <;> first | (simp [isS] at h1; done) | skip
    rename_i s
    simp only [List.map_cons, eqvA, eqvA_mvs ms ws h2]
    simp only [Mv.d, eqv_ss]
    rw [Bool.eq_iff_iff]
    simp
theorem eqv_ch (c : Ch) (ws : List D) (i : Int) (b : Bool) (h : ws.all isS = true) : eqv c.d (.tup [.tup ws, .int i, .bl b]) = decide (c.d = .tup [.tup ws, .int i, .bl b]) := by
  have e := eqvA_mvs c.moves ws h
  simp only [Ch.d, mvsd, eqv, eqvA, e]
  rw [Bool.eq_iff_iff]
  simp
theorem all_isS_mvs (ms : List Mv) : (ms.map Mv.d).all isS = true := by simp [Mv.d, isS]
theorem f_is_like_eq {v : D} {cs : List Ch} (hv : sh 60 v) (hl : lenOk v) (hl2 : ∀ a b c, v = .tup [a, b, c] → lenOk a) (hc : ∀ c ∈ cs, -1 ≤ c.comes ∧ c.comes ≤ 3) (h : Hs) : f_is_like [v, .lst (cs.map Ch.d)] h = .ok (.bl (decide (v ∈ cs.map Ch.d))) h := by
  by_cases w : wideB 3 v = true
  · obtain ⟨a, b, c, rfl⟩ := wide_ex3 w
    have LN : ∀ h, opLen h (.tup [a, b, c]) = some (.int 3) := fun _ => rfl
    have hla := hl2 a b c rfl
    have notin : (∀ x ∈ cs, x.d ≠ .tup [a, b, c]) → decide (D.tup [a, b, c] ∈ cs.map Ch.d) = false := fun H => by
      simp only [decide_eq_false_iff_not, List.mem_map, not_exists, not_and]
      exact H
    cases a <;> try (
      rw [notin (fun x _ => by simp [Ch.d, mvsd])]
      simp [f_is_like, m_is_like, opIsT_eq, isT, LN, opNe_ii]
      done)
    rename_i ws
    simp only [lenOk] at hla
    have A : mLc [2] (iSeq (mOp2 opIx (mVar 0) (mVal (.int 0)))) (gName 2) tYes (mOp1 (opIs .tStr) (mVar 2)) [.val (.tup [.tup ws, b, c]), .val (.lst (cs.map Ch.d)), .no] h = .ok (.lst (ws.map fun d => .bl (isS d))) h := by
      refine lc_by (ds := ws) (h1 := h) (by simp) ?_
      rw [lc_allT (q := fun d => .bl (isS d)) ws []]
      · rfl
      · intro x _
        exact ⟨_, rfl, by simp, by simp [opIsS_eq]⟩
      · simpa using hla
    have AA := opAll_map h isS ws
    generalize hm : (mLc [2] (iSeq (mOp2 opIx (mVar 0) (mVal (.int 0)))) (gName 2) tYes (mOp1 (opIs .tStr) (mVar 2))) = LCM at A
    have e1 : f_is_like [.tup [.tup ws, b, c], .lst (cs.map Ch.d)] h = (if ws.all isS = true ∧ isInB (-1) 3 b = true then (if isB c = true then (Res.opt (opIn h (.tup [.tup ws, b, c]) (.lst (cs.map Ch.d))) h) else .ok (.bl false) h) else .ok (.bl false) h) := by
      unfold f_is_like m_is_like
      rw [hm]
      generalize ws.map (fun d => D.bl (isS d)) = Y at A AA
      generalize hcs : D.lst (cs.map Ch.d) = CL at A ⊢
      cases hs : ws.all isS <;> cases hi : isInB (-1) 3 b <;> cases hb : isB c <;> rw [hs] at AA <;> simp [opIsT_eq, isT, LN, opNe_ii, A, AA, f_is_within_eq, opNeg_i, hi, opIsB_eq, hb]
      cases opIn h (D.tup [D.tup ws, b, c]) CL <;> rfl
    rw [e1]
    by_cases c1 : ws.all isS = true ∧ isInB (-1) 3 b = true
    · rw [if_pos c1]
      obtain ⟨c1, c2⟩ := c1
      by_cases c3 : isB c = true
      · rw [if_pos c3]
        cases b <;> first | (simp [isInB] at c2; done) | skip
        cases c <;> first | (simp [isB] at c3; done) | skip
        rename_i i b
        have IN : opIn h (.tup [.tup ws, .int i, .bl b]) (.lst (cs.map Ch.d)) = some (.bl (decide (D.tup [.tup ws, .int i, .bl b] ∈ cs.map Ch.d))) := by
          have s1 := hv.shp (by omega)
          have s2 := (sh_chs cs).shp (by omega)
          simp only [opIn, inB, s1, s2, Bool.and_self, Bool.or_true, if_true, Option.map_some, Option.some.injEq, D.bl.injEq, List.any_map]
          rw [Bool.eq_iff_iff]
          simp only [List.any_eq_true, Function.comp, eqv_ch _ ws i b c1, decide_eq_true_eq, List.mem_map]
        rw [IN]; rfl
      · rw [if_neg c3, notin]
        intro x _ e
        simp only [Ch.d, D.tup.injEq, List.cons.injEq] at e
        exact c3 (by rw [← e.2.2.1]; rfl)
    · rw [if_neg c1, notin]
      intro x hx e
      simp only [Ch.d, mvsd, D.tup.injEq, List.cons.injEq] at e
      refine c1 ⟨by rw [← e.1]; exact all_isS_mvs _, ?_⟩
      rw [← e.2.1, isInB_i]
      have := hc x hx
      simp [this.1, this.2]
  · have LN : decide (v ∈ cs.map Ch.d) = false := by
      simp only [decide_eq_false_iff_not, List.mem_map, not_exists, not_and]
      rintro x _ rfl
      exact w (by simp [Ch.d, wideB])
    rw [LN]
    cases v <;> try (simp [f_is_like, m_is_like, opIsT_eq, isT]; done)
    rename_i ds
    have : ¬ ((ds.length : Int) = 3) := by simp [wideB] at w; omega
    simp [f_is_like, m_is_like, opIsT_eq, isT, opLen_t, opNe_ii, this]
/-! ### choices told -/
theorem standB_d {p : Plan} (k : p.Ok) {s : Stand} (ks : s.Ok p) : standB p s.d = true := by
  have Q : queueB p (qd s.q) = true := by rw [queueB_d ks.q]; exact ks.c
  have t2 := ks.t2
  have t1 := ks.t1
  have b1 := ks.b1
  simp only [Stand.d, standB, Q, isInB_i, ordB, ks.h1, ks.h2, decide_true, Bool.true_and]
  cases hu : s.up
  · rw [hu] at t2 b1
    simp at t2 b1
    have : s.timer = 0 := by omega
    simp [upS, up_ne_down, this, b1]
  · rw [hu] at t2 b1
    simp at t2 b1
    simp [upS, up_ne_down', t1, t2]
    cases hs : s.seen <;> simp_all
theorem qOk_stand {p : Plan} {s : Stand} (ks : s.Ok p) : qOk s.d := by
  have := ks.len
  simp only [Stand.d, qOk, qd, lenOk, List.length_map]
  rw [LINE_eq]; omega
theorem f_look_at_stand_eq {p : Plan} (k : p.Ok) {s : Stand} (ks : s.Ok p) (h : Hs) : f_look_at_stand [p.d, s.d] h = .ok .non h := by
  simp [f_look_at_stand, m_look_at_stand, f_fits_eq k s.d h (qOk_stand ks), standB_d k ks]
theorem f_choices_at_eq {p : Plan} (k : p.Ok) {s : Stand} (ks : s.Ok p) (h : Hs) : f_choices_at [p.d, s.d] h = .ok (.lst ((choices p s).map Ch.d)) h := by
  simp [f_choices_at, m_choices_at, f_look_at_plan_eq k, f_look_at_stand_eq k ks, f_choices_of_eq k ks]
theorem comes_in {p : Plan} (k : p.Ok) {s : Stand} : ∀ c ∈ choices p s, -1 ≤ c.comes ∧ c.comes ≤ 3 := fun c m => by
  rcases (choice_mem k m).comes with e | ⟨e, _⟩
  · omega
  · have := lens_in k e; omega
theorem moves_len {p : Plan} {s : Stand} (ks : s.Ok p) {c : Ch} (m : c ∈ choices p s) : c.moves.length ≤ 6 := by
  rw [choices_F, List.mem_flatMap] at m
  obtain ⟨ms, h1, h2⟩ := m
  have l := allMoves_len _ _ h1
  have := ks.len
  unfold choiceF at h2
  split at h2
  · simp at h2
  · simp only [choicesAt, List.mem_append, List.mem_singleton] at h2
    have : c.moves = ms := by
      rcases h2 with (rfl | h2) | h2
      · rfl
      · split at h2 <;> simp at h2
        rw [h2]
      · split at h2 <;> simp at h2
        obtain ⟨l, _, rfl | rfl⟩ := h2 <;> rfl
    rw [this, l]; omega
theorem like_legal {p : Plan} (k : p.Ok) {s : Stand} (ks : s.Ok p) {c : Ch} (m : c ∈ choices p s) (h : Hs) : f_is_like [c.d, .lst ((choices p s).map Ch.d)] h = .ok (.bl true) h := by
  have ml := moves_len ks m
  rw [f_is_like_eq ((sh_ch c).mono (by omega)) (by simp [Ch.d, lenOk, LINE_eq]) (fun a b d e => by
    simp only [Ch.d, D.tup.injEq, List.cons.injEq] at e
    rw [← e.1]
    simp only [mvsd, lenOk, List.length_map]
    rw [LINE_eq]; omega) (comes_in k) h]
  have : c.d ∈ (choices p s).map Ch.d := List.mem_map.2 ⟨c, m, rfl⟩
  simp [this]
theorem f_look_at_choice_eq {p : Plan} (k : p.Ok) {s : Stand} (ks : s.Ok p) {c : Ch} (m : c ∈ choices p s) (h : Hs) : f_look_at_choice [p.d, s.d, c.d] h = .ok .non h := by
  simp [f_look_at_choice, m_look_at_choice, f_look_at_plan_eq k, f_look_at_stand_eq k ks, f_choices_of_eq k ks, like_legal k ks m]
theorem f_after_eq {p : Plan} (k : p.Ok) {s : Stand} (ks : s.Ok p) {c : Ch} (m : c ∈ choices p s) (h : Hs) : f_after [p.d, s.d, c.d] h = .ok (tick p s c).1.d h := by
  have P := f_passed_eq k ks (choice_mem k m).ok h
  have I : ∀ a b : D, opIx h (.tup [a, b]) (.int 0) = some a := fun _ _ => rfl
  simp [f_after, m_after, f_look_at_choice_eq k ks m, P, I]
theorem f_told_eq {p : Plan} (k : p.Ok) {s : Stand} (ks : s.Ok p) {c : Ch} (m : c ∈ choices p s) (h : Hs) : f_told [p.d, s.d, c.d] h = .ok (Sw (tick p s c).2) h := by
  have P := f_passed_eq k ks (choice_mem k m).ok h
  have I : ∀ a b : D, opIx h (.tup [a, b]) (.int 1) = some b := fun _ _ => rfl
  simp [f_told, m_told, f_look_at_choice_eq k ks m, P, I]
end KK

set_option Elab.async false
set_option linter.all false
set_option maxRecDepth 100000
set_option maxHeartbeats 1000000
namespace KK
open DS
open PySem (Str)
/-! KP1 of law_k03: the law's turns -/
theorem choices_len {p : Plan} (k : p.Ok) {s : Stand} (ks : s.Ok p) : (choices p s).length ≤ 7290 := by
  rw [choices_F]
  have := flat_len (allMoves s.q.length) (f := choiceF p s) (n := 10) (fun x _ => choiceF_len k s x)
  rw [allMoves_card] at this
  have N3 : 3 ^ s.q.length ≤ 729 := Nat.pow_le_pow_right (by decide) ks.len
  omega
theorem nt_mvs (ms : List Mv) (h : ms.length ≤ LINE) : nt 1 (mvsd ms) = true := nt_tup (by simpa using h) fun d hd => by
  simp only [List.mem_map] at hd
  obtain ⟨m, _, rfl⟩ := hd
  rfl
theorem nt_ch {c : Ch} (h : c.moves.length ≤ 100) : nt 2 c.d = true := nt_tup L3' fun d hd => by
  simp only [List.mem_cons, List.not_mem_nil, or_false] at hd
  rcases hd with rfl | rfl | rfl
  · exact nt_mvs _ (by rw [LINE_eq]; omega)
  · rfl
  · rfl
theorem nt_chs {cs : List Ch} (h : ∀ c ∈ cs, c.moves.length ≤ 100) (L : cs.length ≤ LINE) : nt 3 (.lst (cs.map Ch.d)) = true := nt_lst (by simpa using L) fun d hd => by
  simp only [List.mem_map] at hd
  obtain ⟨c, m, rfl⟩ := hd
  exact nt_ch (h c m)
theorem nt_stand {s : Stand} (h : s.q.length ≤ 50) : nt 3 s.d = true := wb_nt (b := 50) (by rw [LINE_eq]; omega) (stand_wb h)
theorem nt_Sw {ws : List Str} (h : ws.length ≤ LINE) : nt 1 (Sw ws) = true := nt_lst (by simpa using h) fun d hd => by
  simp only [List.mem_map] at hd
  obtain ⟨m, _, rfl⟩ := hd
  rfl
theorem words_len {p : Plan} (k : p.Ok) {s : Stand} (ks : s.Ok p) {c : Ch} (m : c ∈ choices p s) : (tick p s c).2.length ≤ 100 := by
  obtain ⟨⟨row, hr⟩, _, _⟩ := choice_mem k m
  have hz := moved_some hr
  have rl := (moved_ok ks.q hr).len
  have g1 : (gone row).length ≤ row.length := List.length_filter_le ..
  have g2 : ((gone row).filter fun o => !o.p).length ≤ (gone row).length := List.length_filter_le ..
  simp only [tick, ← hz, wordsOf, List.length_append, List.length_map]
  split <;> split <;> simp <;> omega
def inB3 : SM := (sSeq (sAsg (gName 8) (mTup [(mCall f_after [(mVar 3), (mVar 5), (mVar 7)]), (mCall f_told [(mVar 3), (mVar 5), (mVar 7)])]))
  (sIf (tNot (tVal (mCall (f__law_twins fu__law_twins) [(mVar 8), (mCall f__law_tick [(mVar 3), (mVar 5), (mVar 7)])])))
  (sRet (mVal (.bl false)))
  sNext))
def turnB3 : SM := (sSeq (sAsg (gName 5) (mCall f__law_any_stand [(mVar 2), (mVar 3)]))
  (sSeq (sAsg (gName 6) (mCall f__law_choices [(mVar 3), (mVar 5)]))
  (sSeq (sIf (tNot (tVal (mCall (f__law_twins fu__law_twins) [(mLst [(mCall f_is_stand [(mVar 3), (mVar 5)]), (mCall f_choices_at [(mVar 3), (mVar 5)])]), (mLst [(mVal (.bl true)), (mVar 6)])])))
  (sRet (mVal (.bl false)))
  sNext)
  (sFor (iSeq (mVar 6)) (gName 7) inB3))))
theorem f_is_stand_eq {p : Plan} (k : p.Ok) {s : Stand} (ks : s.Ok p) (h : Hs) : f_is_stand [p.d, s.d] h = .ok (.bl true) h := by
  simp [f_is_stand, m_is_stand, f_look_at_plan_eq k, f_fits_eq k s.d h (qOk_stand ks), standB_d k ks]
theorem in_body {p : Plan} (k : p.Ok) {s : Stand} (ks : s.Ok p) {c : Ch} (m : c ∈ choices p s) (v0 v1 v2 v4 v6 v8 : Slot) (h : Hs) :
    inB3 [v0, v1, v2, .val p.d, v4, .val s.d, v6, .val c.d, v8] h = .nx [v0, v1, v2, .val p.d, v4, .val s.d, v6, .val c.d, .val (.tup [(tick p s c).1.d, Sw (tick p s c).2])] h := by
  have T := f__law_tick_eq k ks (choice_mem k m).ok h
  have tk := tick_ok k ks (choice_mem k m)
  have AF := f_after_eq k ks m h
  have TO := f_told_eq k ks m h
  have wl := words_len k ks m
  have tl := tk.len
  have N : nt 11 (.tup [(tick p s c).1.d, Sw (tick p s c).2]) = true := nt_tup L2' (by
    intro d hd
    simp only [List.mem_cons, List.not_mem_nil, or_false] at hd
    rcases hd with rfl | rfl
    · exact nt_mono (nt_stand (by omega)) (by omega)
    · exact nt_mono (nt_Sw (by rw [LINE_eq]; omega)) (by omega))
  have TW := tw_same (n := 11) h N
  unfold inB3
  generalize Sw (tick p s c).2 = SW at T TO TW ⊢
  generalize (tick p s c).1.d = TD at T AF TW ⊢
  generalize p.d = PD at T TO AF ⊢
  generalize s.d = SD at T TO AF ⊢
  generalize c.d = CD at T TO AF ⊢
  simp [AF, TO, L2', fu12, T, TW]
theorem turn_body {p : Plan} (k : p.Ok) {h : Hs} {r : Nat} (S : Spr h r) (v0 v1 v4 v5 v6 v7 v8 : Slot) :
    ∃ (w5 w6 w7 w8 : Slot) (h' : Hs), turnB3 [v0, v1, .val (.ref r), .val p.d, v4, v5, v6, v7, v8] h = .nx [v0, v1, .val (.ref r), .val p.d, v4, w5, w6, w7, w8] h' ∧ Spr h' r := by
  obtain ⟨s, h1, ks, P1, S1⟩ := f__law_any_stand_eq k S
  have C := f__law_choices_eq k ks h1
  have cl := choices_len k ks
  have IS := f_is_stand_eq k ks h1
  have CA := f_choices_at_eq k ks h1
  have cml : ∀ c ∈ choices p s, c.moves.length ≤ 100 := fun c m => by have := moves_len ks m; omega
  have N1 : nt 11 (.lst [.bl true, .lst ((choices p s).map Ch.d)]) = true := nt_lst L2' (by
    intro d hd
    simp only [List.mem_cons, List.not_mem_nil, or_false] at hd
    rcases hd with rfl | rfl
    · rfl
    · exact nt_mono (nt_chs cml (by rw [LINE_eq]; omega)) (by omega))
  have TW := tw_same (n := 11) h1 N1
  have L := for_pre (g := gName 7) (b := inB3) (h := h1) (enc := Ch.d) (fun _ e => ∃ a b, e = [v0, v1, .val (.ref r), .val p.d, v4, .val s.d, .val (.lst ((choices p s).map Ch.d)), a, b]) (choices p s) [v0, v1, .val (.ref r), .val p.d, v4, .val s.d, .val (.lst ((choices p s).map Ch.d)), v7, v8] (by
    rintro pre c e hp ⟨a, b, rfl⟩
    have B := in_body k ks (pre_mem hp) v0 v1 (.val (.ref r)) v4 (.val (.lst ((choices p s).map Ch.d))) b h1
    exact ⟨_, _, rfl, .inl B, _, _, rfl⟩) ⟨v7, v8, rfl⟩
  obtain ⟨e', L1, a, b, L2⟩ := L
  rw [L2] at L1
  refine ⟨.val s.d, .val (.lst ((choices p s).map Ch.d)), a, b, h1, ?_, S1⟩
  have s1 : sAsg (gName 5) (mCall f__law_any_stand [(mVar 2), (mVar 3)]) [v0, v1, .val (.ref r), .val p.d, v4, v5, v6, v7, v8] h = .nx [v0, v1, .val (.ref r), .val p.d, v4, .val s.d, v6, v7, v8] h1 := by
    generalize p.d = PD at P1 ⊢
    generalize s.d = SD at P1 ⊢
    simp [P1]
  have s2 : sAsg (gName 6) (mCall f__law_choices [(mVar 3), (mVar 5)]) [v0, v1, .val (.ref r), .val p.d, v4, .val s.d, v6, v7, v8] h1 = .nx [v0, v1, .val (.ref r), .val p.d, v4, .val s.d, .val (.lst ((choices p s).map Ch.d)), v7, v8] h1 := by
    generalize p.d = PD at C ⊢
    generalize s.d = SD at C ⊢
    generalize D.lst ((choices p s).map Ch.d) = CS at C ⊢
    simp [C]
  have s3 : sIf (tNot (tVal (mCall (f__law_twins fu__law_twins) [(mLst [(mCall f_is_stand [(mVar 3), (mVar 5)]), (mCall f_choices_at [(mVar 3), (mVar 5)])]), (mLst [(mVal (.bl true)), (mVar 6)])]))) (sRet (mVal (.bl false))) sNext [v0, v1, .val (.ref r), .val p.d, v4, .val s.d, .val (.lst ((choices p s).map Ch.d)), v7, v8] h1 = .nx [v0, v1, .val (.ref r), .val p.d, v4, .val s.d, .val (.lst ((choices p s).map Ch.d)), v7, v8] h1 := by
    generalize p.d = PD at IS CA ⊢
    generalize s.d = SD at IS CA ⊢
    generalize D.lst ((choices p s).map Ch.d) = CS at CA TW ⊢
    simp [IS, CA, L2', fu12, TW]
  unfold turnB3
  rw [seq_by s1, seq_by s2, seq_by s3]
  rw [for_by (ds := (choices p s).map Ch.d) (h1 := h1) (by rfl), L1]
end KK

set_option Elab.async false
set_option linter.all false
set_option maxRecDepth 100000
set_option maxHeartbeats 1000000
namespace KK
open DS
open PySem (Str)
/-! KP of law_k03: the law is true -/
def lawB3 : SM := (sSeq (sAsg (gName 2) (mCall f__law_spring [(mVar 0), (mVar 1)]))
  (sSeq (sAsg (gName 3) (mCall f__law_plan [(mVar 2)]))
  (sFor (iRng1 (mVal (.int 10))) (gName 4) turnB3)))
theorem law_body (ns : List Int) (hn : ns.length ≤ 63) (at' : Nat) (ha : at' ≤ 100) (h : Hs) (v2 v3 v4 v5 v6 v7 v8 : Slot) :
    ∃ (w2 w3 w4 w5 w6 w7 w8 : Slot) (h' : Hs), lawB3 [.val (.scr ns), .val (.int at'), v2, v3, v4, v5, v6, v7, v8] h = .nx [.val (.scr ns), .val (.int at'), w2, w3, w4, w5, w6, w7, w8] h' := by
  obtain ⟨c, P1, S⟩ := f__law_spring_eq ns at' hn ha h
  generalize h.length = r at P1 S
  generalize h ++ [c] = h1 at P1 S
  obtain ⟨p, h2, k, P2, S2⟩ := f__law_plan_eq S
  have s1 : sAsg (gName 2) (mCall f__law_spring [(mVar 0), (mVar 1)]) [.val (.scr ns), .val (.int at'), v2, v3, v4, v5, v6, v7, v8] h = .nx [.val (.scr ns), .val (.int at'), .val (.ref r), v3, v4, v5, v6, v7, v8] h1 := by simp [P1]
  have s2 : sAsg (gName 3) (mCall f__law_plan [(mVar 2)]) [.val (.scr ns), .val (.int at'), .val (.ref r), v3, v4, v5, v6, v7, v8] h1 = .nx [.val (.scr ns), .val (.int at'), .val (.ref r), .val p.d, v4, v5, v6, v7, v8] h2 := by
    generalize p.d = PD at P2 ⊢
    simp [P2]
  obtain ⟨e', h', H1, w4, w5, w6, w7, w8, H2, H3⟩ := for_inv (g := gName 4) (b := turnB3) (enc := fun (k : Nat) => D.int (0 + (k : Int))) (fun e h => ∃ w4 w5 w6 w7 w8, e = [.val (.scr ns), .val (.int at'), .val (.ref r), .val p.d, w4, w5, w6, w7, w8] ∧ Spr h r) (List.range 10) [.val (.scr ns), .val (.int at'), .val (.ref r), .val p.d, v4, v5, v6, v7, v8] h2 (by
    rintro e h i hi ⟨w4, w5, w6, w7, w8, rfl, S⟩
    obtain ⟨x5, x6, x7, x8, h', B, S'⟩ := turn_body k S (.val (.scr ns)) (.val (.int at')) (.val (.int (0 + (i : Int)))) w5 w6 w7 w8
    exact ⟨_, _, h', rfl, .inl B, _, _, _, _, _, rfl, S'⟩) ⟨_, _, _, _, _, rfl, S2⟩
  rw [H2] at H1
  have s3 := (for_by (it := iRng1 (mVal (.int 10))) (g := gName 4) (b := turnB3) (e := [.val (.scr ns), .val (.int at'), .val (.ref r), .val p.d, v4, v5, v6, v7, v8]) (iRng1_eq' (n := 10) (h := h2) (h1 := h2) rfl (by omega)))
  rw [H1] at s3
  refine ⟨.val (.ref r), .val p.d, w4, w5, w6, w7, w8, h', ?_⟩
  unfold lawB3
  rw [seq_by s1, seq_by s2, s3]
theorem law_true (ns : List Int) (hn : ns.length ≤ 63) : ∃ h, f_law [.scr ns] [] = .ok (.bl true) h := by
  have st : startE 9 [.scr ns] = [.val (.scr ns), .no, .no, .no, .no, .no, .no, .no, .no] := rfl
  obtain ⟨m, hm⟩ : ∃ m : Nat, m = min ns.length 6 + 1 := ⟨_, rfl⟩
  have LE : ∀ h, opLen h (.scr ns) = some (.int ns.length) := fun _ => rfl
  have hi : (if (6 : Int) < (ns.length : Int) then (6 : Int) else ns.length) + 1 = (m : Int) := by split <;> omega
  have IT : iRng1 (mOp2 opAdd (mOpN (op2N opMin) [(mOpN (op1N opLen) [(mVar 0)]), (mVal (.int 6))]) (mVal (.int 1))) [.val (.scr ns), .no, .no, .no, .no, .no, .no, .no, .no] [] = .ok ((List.range m).map fun (k : Nat) => D.int (0 + (k : Int))) [] := by
    refine iRng1_eq' (n := m) ?_ (by omega)
    simp [LE, opMin_ii, opAdd_ii, hi]
  obtain ⟨e', h', H1, w1, w2, w3, w4, w5, w6, w7, w8, H2⟩ := for_inv (g := gName 1) (b := lawB3) (enc := fun (k : Nat) => D.int (0 + (k : Int))) (fun e _ => ∃ w1 w2 w3 w4 w5 w6 w7 w8, e = [.val (.scr ns), w1, w2, w3, w4, w5, w6, w7, w8]) (List.range m) [.val (.scr ns), .no, .no, .no, .no, .no, .no, .no, .no] [] (by
    rintro e h i hi ⟨w1, w2, w3, w4, w5, w6, w7, w8, rfl⟩
    have : i ≤ 100 := by have := List.mem_range.1 hi; omega
    obtain ⟨x2, x3, x4, x5, x6, x7, x8, h', B⟩ := law_body ns hn i this h w2 w3 w4 w5 w6 w7 w8
    exact ⟨[.val (.scr ns), .val (.int i), w2, w3, w4, w5, w6, w7, w8], _, h', by simp, .inl B, _, _, _, _, _, _, _, _, rfl⟩) ⟨_, _, _, _, _, _, _, _, rfl⟩
  rw [H2] at H1
  have s1 := (for_by (g := gName 1) (b := lawB3) IT).trans H1
  refine ⟨h', ?_⟩
  unfold f_law m_law
  simp only [defn, st]
  simp only [lawB3, turnB3, inB3] at s1
  rw [seq_by s1]
  rfl
end KK

set_option Elab.async false
set_option linter.all false
set_option maxRecDepth 100000
set_option maxHeartbeats 4000000
namespace KK
open PySem PySem.Spec PyProof.Rows L2 DS
def top (i : Nat) : Stmt := PySem.Challenge.pw_loopedarm_k03_stands_of_any_kind.main.body.getD i (.Pass ⟨0, 0, 0, 0⟩)
/-! _law_ground -/
abbrev N__law_ground : List Str := ["one"]
theorem sc__law_ground : FnScope N__law_ground ["one"] (defScope (top 46)) := ⟨rfl, rfl, rfl, by decide +kernel, rfl, by decide +kernel, by decide +kernel⟩
theorem d__law_ground {P : Program} {w : World} {K : Fg} {mg : Str → Option Value} {base : PySem.Heap} {k : Nat} {W : WX} {B : Bs} (z_list : mg "list" = none) (z_max : mg "max" = none) (z_range : mg "range" = none) :
    SSs ⟨P, w, K, mg, base, N__law_ground, defScope (top 46), k, W, B, fun _ => true⟩ (defBody (top 46)) m__law_ground := by
  have nd : (N__law_ground).Nodup := by decide
  exact (sss_one (ss_ret (se_listRng2 (se_bin ho_add hf_add (se_bin ho_sub hf_sub (se_ix ho_ix hf_ix (se_var (i := 0) rfl (.inl rfl)) se_int) (se_callB ho_max hf_max rfl z_max (by decide +kernel) (sa_cons (se_ix ho_ix hf_ix (se_var (i := 0) rfl (.inl rfl)) se_int) (sa_cons se_int sa_nil)))) se_int) (se_bin ho_add hf_add (se_ix ho_ix hf_ix (se_var (i := 0) rfl (.inl rfl)) se_int) se_int) rfl z_list rfl z_range)))
/-! _law_pick -/
abbrev N__law_pick : List Str := ["spring", "many", "digit"]
theorem sc__law_pick : FnScope N__law_pick ["spring", "many"] (defScope (top 40)) := ⟨rfl, rfl, rfl, by decide +kernel, rfl, by decide +kernel, by decide +kernel⟩
theorem d__law_pick {P : Program} {w : World} {K : Fg} {mg : Str → Option Value} {base : PySem.Heap} {k : Nat} {W : WX} {B : Bs} (z_int : mg "int" = none) :
    SSs ⟨P, w, K, mg, base, N__law_pick, defScope (top 40), k, W, B, fun _ => true⟩ (defBody (top 40)) m__law_pick := by
  have nd : (N__law_pick).Nodup := by decide
  exact (sss_cons (ss_if (st_cmp ho_gt hf_gt (se_ix ho_ix hf_ix (se_var (i := 0) rfl (.inl rfl)) se_int) se_int)
  (sss_cons (ss_set (i := 2) nd rfl (.inl rfl) (.inr rfl) (se_bin ho_mod hf_mod (se_callTy ho_int hf_int rfl z_int (by decide +kernel) (sa_cons (se_ix ho_ix hf_ix (se_var (i := 0) rfl (.inl rfl)) se_int) sa_nil)) (se_var (i := 1) rfl (.inl rfl))))
  (sss_cons (ss_put (se_bin ho_fdiv hf_fdiv (se_ix ho_ix hf_ix (se_var (i := 0) rfl (.inl rfl)) se_int) (se_var (i := 1) rfl (.inl rfl))) (se_var (i := 0) rfl (.inl rfl)) se_int)
  (sss_one (ss_ret (se_var (i := 2) rfl (.inl rfl))))))
  sss_nil)
  (sss_cons (ss_put (se_bin ho_mod hf_mod (se_callTy ho_int hf_int rfl z_int (by decide +kernel) (sa_cons (se_bin ho_add hf_add (se_bin ho_mul hf_mul (se_ix ho_ix hf_ix (se_var (i := 0) rfl (.inl rfl)) se_int) se_int) se_int) sa_nil)) se_int) (se_var (i := 0) rfl (.inl rfl)) se_int)
  (sss_one (ss_ret (se_bin ho_mod hf_mod (se_callTy ho_int hf_int rfl z_int (by decide +kernel) (sa_cons (se_bin ho_fdiv hf_fdiv (se_ix ho_ix hf_ix (se_var (i := 0) rfl (.inl rfl)) se_int) se_int) sa_nil)) (se_var (i := 1) rfl (.inl rfl)))))))
/-! _law_any_stand -/
abbrev N__law_any_stand : List Str := ["spring", "plan", "lift", "way", "wait", "guard", "least", "greatest", "backs", "bikes", "lengths", "queue", "front", "length", "one", "seen", "height"]
theorem sc__law_any_stand : FnScope N__law_any_stand ["spring", "plan"] (defScope (top 54)) := ⟨rfl, rfl, rfl, by decide +kernel, rfl, by decide +kernel, by decide +kernel⟩
theorem d__law_any_stand {P : Program} {w : World} {K : Fg} {mg : Str → Option Value} {base : PySem.Heap} {k : Nat} {W : WX} {B : Bs} (z_len : mg "len" = none) (z_list : mg "list" = none) (z_range : mg "range" = none) (z_tuple : mg "tuple" = none) {l__law_ground : Nat} (h__law_ground : Cal P w K mg base l__law_ground "_law_ground" 1 f__law_ground) (hk__law_ground : l__law_ground ≤ k) {l__law_pick : Nat} (h__law_pick : Cal P w K mg base l__law_pick "_law_pick" 2 f__law_pick) (hk__law_pick : l__law_pick ≤ k) :
    SSs ⟨P, w, K, mg, base, N__law_any_stand, defScope (top 54), k, W, B, fun _ => true⟩ (defBody (top 54)) m__law_any_stand := by
  have nd : (N__law_any_stand).Nodup := by decide
  exact (sss_cons (ss_asg (sg_tup (sgs_cons (sg_name (i := 2) nd rfl (.inl rfl) (.inr rfl)) (sgs_cons (sg_tup (sgs_cons (sg_name (i := 3) nd rfl (.inl rfl) (.inr rfl)) (sgs_cons (sg_name (i := 4) nd rfl (.inl rfl) (.inr rfl)) (sgs_cons (sg_name (i := 5) nd rfl (.inl rfl) (.inr rfl)) sgs_nil)))) (sgs_cons (sg_tup (sgs_cons (sg_name (i := 6) nd rfl (.inl rfl) (.inr rfl)) (sgs_cons (sg_name (i := 7) nd rfl (.inl rfl) (.inr rfl)) (sgs_cons (sg_name (i := 8) nd rfl (.inl rfl) (.inr rfl)) (sgs_cons (sg_name (i := 9) nd rfl (.inl rfl) (.inr rfl)) sgs_nil))))) sgs_nil)))) (se_var (i := 1) rfl (.inl rfl)))
  (sss_cons (ss_par3 (i := 10) (j := 11) (l := 12) nd rfl rfl rfl (by decide) (by decide) (by decide) rfl rfl rfl (sa_cons (se_bin ho_add hf_add (se_if (st_val (se_var (i := 9) rfl (.inl rfl))) (se_lst (sa_cons se_int sa_nil)) (se_lst sa_nil)) (se_listRng2 (se_var (i := 6) rfl (.inl rfl)) (se_bin ho_add hf_add (se_var (i := 7) rfl (.inl rfl)) se_int) rfl z_list rfl z_range)) (sa_cons (se_new sa_nil) (sa_cons se_int sa_nil))) (swap_env rfl))
  (sss_cons (ss_while (st_cmp ho_gt hf_gt (se_var (i := 12) rfl (.inl rfl)) se_int)
  (sss_cons (ss_set (i := 13) nd rfl (.inl rfl) (.inr rfl) (se_ix ho_ix hf_ix (se_var (i := 10) rfl (.inl rfl)) (se_call h__law_pick hk__law_pick rfl (sa_cons (se_var (i := 0) rfl (.inl rfl)) (sa_cons (se_callB ho_len hf_len rfl z_len PySem.boot_len (sa_cons (se_var (i := 10) rfl (.inl rfl)) sa_nil)) sa_nil)))))
  (sss_cons (ss_set (i := 12) nd rfl (.inl rfl) (.inr rfl) (se_bin ho_sub hf_sub (se_bin ho_sub hf_sub (se_var (i := 12) rfl (.inl rfl)) se_int) (se_call h__law_pick hk__law_pick rfl (sa_cons (se_var (i := 0) rfl (.inl rfl)) (sa_cons se_int sa_nil)))))
  (sss_one (ss_if (st_cmp ho_ge hf_ge (se_var (i := 12) rfl (.inl rfl)) se_int)
  (sss_cons (ss_set (i := 14) nd rfl (.inl rfl) (.inr rfl) (se_tup (sa_cons (se_var (i := 12) rfl (.inl rfl)) (sa_cons (se_var (i := 13) rfl (.inl rfl)) (sa_cons (se_cmp ho_eq hf_eq (se_call h__law_pick hk__law_pick rfl (sa_cons (se_var (i := 0) rfl (.inl rfl)) (sa_cons se_int sa_nil))) se_int) sa_nil)))))
  (sss_one (ss_if (st_cmp ho_le hf_le (se_ix ho_ix hf_ix (se_call h__law_ground hk__law_ground rfl (sa_cons (se_var (i := 14) rfl (.inl rfl)) sa_nil)) se_int) se_int)
  (sss_cons (ss_appendR (se_var (i := 11) rfl (.inl rfl)) (se_var (i := 14) rfl (.inl rfl)))
  (sss_one (ss_set (i := 12) nd rfl (.inl rfl) (.inr rfl) (se_ix ho_ix hf_ix (se_call h__law_ground hk__law_ground rfl (sa_cons (se_var (i := 14) rfl (.inl rfl)) sa_nil)) se_int))))
  sss_nil)))
  sss_nil)))))
  (sss_cons (ss_if (st_cmp ho_eq hf_eq (se_call h__law_pick hk__law_pick rfl (sa_cons (se_var (i := 0) rfl (.inl rfl)) (sa_cons se_int sa_nil))) se_int)
  (sss_one (ss_ret (se_tup (sa_cons (se_callTy ho_tuple hf_tupleR rfl z_tuple (by decide +kernel) (sa_cons (se_var (i := 11) rfl (.inl rfl)) sa_nil)) (sa_cons (se_call h__law_pick hk__law_pick rfl (sa_cons (se_var (i := 0) rfl (.inl rfl)) (sa_cons (se_bin ho_add hf_add (se_var (i := 2) rfl (.inl rfl)) se_int) sa_nil))) (sa_cons se_str (sa_cons se_int (sa_cons se_bl sa_nil))))))))
  sss_nil)
  (sss_cons (ss_set (i := 15) nd rfl (.inl rfl) (.inr rfl) (se_and (se_cmp ho_eq hf_eq (se_var (i := 3) rfl (.inl rfl)) se_str) (se_one (se_cmp ho_eq hf_eq (se_call h__law_pick hk__law_pick rfl (sa_cons (se_var (i := 0) rfl (.inl rfl)) (sa_cons se_int sa_nil))) se_int))))
  (sss_cons (ss_set (i := 16) nd rfl (.inl rfl) (.inr rfl) (se_ix ho_ix hf_ix (se_lst (sa_cons (se_var (i := 2) rfl (.inl rfl)) (sa_cons (se_call h__law_pick hk__law_pick rfl (sa_cons (se_var (i := 0) rfl (.inl rfl)) (sa_cons (se_bin ho_add hf_add (se_var (i := 2) rfl (.inl rfl)) se_int) sa_nil))) sa_nil))) (se_call h__law_pick hk__law_pick rfl (sa_cons (se_var (i := 0) rfl (.inl rfl)) (sa_cons se_int sa_nil)))))
  (sss_one (ss_ret (se_tup (sa_cons (se_callTy ho_tuple hf_tupleR rfl z_tuple (by decide +kernel) (sa_cons (se_var (i := 11) rfl (.inl rfl)) sa_nil)) (sa_cons (se_var (i := 16) rfl (.inl rfl)) (sa_cons se_str (sa_cons (se_call h__law_pick hk__law_pick rfl (sa_cons (se_var (i := 0) rfl (.inl rfl)) (sa_cons (se_bin ho_add hf_add (se_var (i := 4) rfl (.inl rfl)) se_int) sa_nil))) (sa_cons (se_var (i := 15) rfl (.inl rfl)) sa_nil))))))))))))))
/-! _law_all_moves -/
abbrev N__law_all_moves : List Str := ["many", "found", "turn", "longer", "row", "word"]
theorem sc__law_all_moves : FnScope N__law_all_moves ["many"] (defScope (top 52)) := ⟨rfl, rfl, rfl, by decide +kernel, rfl, by decide +kernel, by decide +kernel⟩
theorem d__law_all_moves {P : Program} {w : World} {K : Fg} {mg : Str → Option Value} {base : PySem.Heap} {k : Nat} {W : WX} {B : Bs} (z_range : mg "range" = none) :
    SSs ⟨P, w, K, mg, base, N__law_all_moves, defScope (top 52), k, W, B, fun _ => true⟩ (defBody (top 52)) m__law_all_moves := by
  have nd : (N__law_all_moves).Nodup := by decide
  exact (sss_cons (ss_set (i := 1) nd rfl (.inl rfl) (.inr rfl) (se_lst (sa_cons (se_tup sa_nil) sa_nil)))
  (sss_cons (ss_for (si_rng1 (se_var (i := 0) rfl (.inl rfl)) rfl z_range) (sg_name (i := 2) nd rfl (.inl rfl) (.inr rfl))
  (sss_cons (ss_set (i := 3) nd rfl (.inl rfl) (.inr rfl) (se_lst sa_nil))
  (sss_cons (ss_for (si_seq (se_var (i := 1) rfl (.inl rfl))) (sg_name (i := 4) nd rfl (.inr rfl) (.inl rfl))
  (sss_one (ss_set (i := 3) nd rfl (.inl rfl) (.inr rfl) (se_bin ho_add hf_add (se_var (i := 3) rfl (.inl rfl)) (se_lc (own := [("word", 5)]) nd (si_seq (se_lst (sa_cons se_str (sa_cons se_str (sa_cons se_str sa_nil))))) (blkOk_by (show blkC N__law_all_moves (defScope (top 52)) _ _ = true by decide +kernel)) (sg_name (i := 5) nd rfl (.inl rfl) (.inr rfl)) sts_nil (se_bin ho_add hf_add (se_var (i := 4) rfl (.inr (.inl rfl))) (se_tup (sa_cons (se_var (i := 5) rfl (.inl rfl)) sa_nil))) (by decide))))))
  (sss_one (ss_set (i := 1) nd rfl (.inl rfl) (.inr rfl) (se_var (i := 3) rfl (.inl rfl)))))))
  (sss_one (ss_ret (se_var (i := 1) rfl (.inl rfl))))))
/-! _law_left -/
abbrev N__law_left : List Str := ["row", "one"]
theorem sc__law_left : FnScope N__law_left ["row"] (defScope (top 49)) := ⟨rfl, rfl, rfl, by decide +kernel, rfl, by decide +kernel, by decide +kernel⟩
theorem d__law_left {P : Program} {w : World} {K : Fg} {mg : Str → Option Value} {base : PySem.Heap} {k : Nat} {W : WX} {B : Bs} {l__law_ground : Nat} (h__law_ground : Cal P w K mg base l__law_ground "_law_ground" 1 f__law_ground) (hk__law_ground : l__law_ground ≤ k) :
    SSs ⟨P, w, K, mg, base, N__law_left, defScope (top 49), k, W, B, fun _ => true⟩ (defBody (top 49)) m__law_left := by
  have nd : (N__law_left).Nodup := by decide
  exact (sss_one (ss_ret (se_lc (own := [("one", 1)]) nd (si_seq (se_var (i := 0) rfl (.inl rfl))) (blkOk_by (show blkC N__law_left (defScope (top 49)) _ _ = true by decide +kernel)) (sg_name (i := 1) nd rfl (.inl rfl) (.inr rfl)) (sts_one (st_w (sw_and (st_cmp ho_ge hf_ge (se_ix ho_ix hf_ix (se_var (i := 1) rfl (.inl rfl)) se_int) se_int) (sw_and1 (st_cmp ho_le hf_le (se_ix ho_ix hf_ix (se_call h__law_ground hk__law_ground rfl (sa_cons (se_var (i := 1) rfl (.inl rfl)) sa_nil)) se_int) se_int))))) (se_var (i := 1) rfl (.inl rfl)) (by decide))))
/-! _law_moved -/
abbrev N__law_moved : List Str := ["plan", "stand", "moves", "row", "one", "word", "front", "there"]
theorem sc__law_moved : FnScope N__law_moved ["plan", "stand", "moves"] (defScope (top 48)) := ⟨rfl, rfl, rfl, by decide +kernel, rfl, by decide +kernel, by decide +kernel⟩
theorem d__law_moved {P : Program} {w : World} {K : Fg} {mg : Str → Option Value} {base : PySem.Heap} {k : Nat} {W : WX} {B : Bs} (z_zip : mg "zip" = none) {l__law_ground : Nat} (h__law_ground : Cal P w K mg base l__law_ground "_law_ground" 1 f__law_ground) (hk__law_ground : l__law_ground ≤ k) :
    SSs ⟨P, w, K, mg, base, N__law_moved, defScope (top 48), k, W, B, fun _ => true⟩ (defBody (top 48)) m__law_moved := by
  have nd : (N__law_moved).Nodup := by decide
  exact (sss_cons (ss_own (i := 3) nd rfl (.inl rfl) (.inr rfl) sa_nil)
  (sss_cons (ss_for (si_zip (se_ix ho_ix hf_ix (se_var (i := 1) rfl (.inl rfl)) se_int) (se_var (i := 2) rfl (.inl rfl)) rfl z_zip) (sg_tup (sgs_cons (sg_name (i := 4) nd rfl (.inl rfl) (.inr rfl)) (sgs_cons (sg_name (i := 5) nd rfl (.inl rfl) (.inr rfl)) sgs_nil)))
  (sss_cons (ss_set (i := 6) nd rfl (.inl rfl) (.inr rfl) (se_bin ho_add hf_add (se_ix ho_ix hf_ix (se_var (i := 4) rfl (.inl rfl)) se_int) (se_get2 (se_dicC (sp_cons (sp_consN sp_nil))) (se_var (i := 5) rfl (.inl rfl)) se_int)))
  (sss_cons (ss_set (i := 7) nd rfl (.inl rfl) (.inr rfl) (se_tup (sa_cons (se_var (i := 6) rfl (.inl rfl)) (sa_cons (se_ix ho_ix hf_ix (se_var (i := 4) rfl (.inl rfl)) se_int) (sa_cons (se_ix ho_ix hf_ix (se_var (i := 4) rfl (.inl rfl)) se_int) sa_nil)))))
  (sss_cons (ss_if (st_w (sw_and (st_cmp ho_eq hf_eq (se_var (i := 5) rfl (.inl rfl)) se_str) (sw_and1 (st_not (st_val (se_ix ho_ix hf_ix (se_ix ho_ix hf_ix (se_var (i := 0) rfl (.inl rfl)) se_int) se_int))))))
  (sss_one (ss_ret se_non))
  sss_nil)
  (sss_cons (ss_if (st_w (sw_and (st_cmp ho_in hf_in se_int (se_call h__law_ground hk__law_ground rfl (sa_cons (se_var (i := 7) rfl (.inl rfl)) sa_nil))) (sw_and (st_cmp ho_notIn hf_notIn se_int (se_call h__law_ground hk__law_ground rfl (sa_cons (se_var (i := 4) rfl (.inl rfl)) sa_nil))) (sw_and1 (st_cmp ho_lt hf_lt (se_ix ho_ix hf_ix (se_var (i := 1) rfl (.inl rfl)) se_int) (se_ix ho_ix hf_ix (se_var (i := 0) rfl (.inl rfl)) se_int))))))
  (sss_one (ss_ret se_non))
  sss_nil)
  (sss_cons (ss_if (st_w (sw_and (st_cmpOwn (i := 3) rfl (.inl rfl) ho_ne hf_ne hz_ne (se_lst sa_nil)) (sw_and1 (st_cmp ho_le hf_le (se_ix ho_ix hf_ix (se_call h__law_ground hk__law_ground rfl (sa_cons (se_ixOwn (i := 3) rfl (.inl rfl) (se_un ho_neg hf_neg se_int)) sa_nil)) se_int) (se_var (i := 6) rfl (.inl rfl))))))
  (sss_one (ss_ret se_non))
  sss_nil)
  (sss_one (ss_append (i := 3) rfl (.inl rfl) (se_var (i := 7) rfl (.inl rfl))))))))))
  (sss_freeze (i := 3) (sss_one (ss_ret (se_var (i := 3) rfl (.inl rfl)))))))
/-! _law_choices -/
abbrev N__law_choices : List Str := ["plan", "stand", "least", "greatest", "backs", "bikes", "lengths", "found", "moves", "row", "some", "length", "one"]
theorem sc__law_choices : FnScope N__law_choices ["plan", "stand"] (defScope (top 53)) := ⟨rfl, rfl, rfl, by decide +kernel, rfl, by decide +kernel, by decide +kernel⟩
theorem d__law_choices {P : Program} {w : World} {K : Fg} {mg : Str → Option Value} {base : PySem.Heap} {k : Nat} {W : WX} {B : Bs} (z_len : mg "len" = none) (z_list : mg "list" = none) (z_range : mg "range" = none) {l__law_all_moves : Nat} (h__law_all_moves : Cal P w K mg base l__law_all_moves "_law_all_moves" 1 f__law_all_moves) (hk__law_all_moves : l__law_all_moves ≤ k) {l__law_ground : Nat} (h__law_ground : Cal P w K mg base l__law_ground "_law_ground" 1 f__law_ground) (hk__law_ground : l__law_ground ≤ k) {l__law_left : Nat} (h__law_left : Cal P w K mg base l__law_left "_law_left" 1 f__law_left) (hk__law_left : l__law_left ≤ k) {l__law_moved : Nat} (h__law_moved : Cal P w K mg base l__law_moved "_law_moved" 3 f__law_moved) (hk__law_moved : l__law_moved ≤ k) :
    SSs ⟨P, w, K, mg, base, N__law_choices, defScope (top 53), k, W, B, fun _ => true⟩ (defBody (top 53)) m__law_choices := by
  have nd : (N__law_choices).Nodup := by decide
  exact (sss_cons (ss_asg (sg_tup (sgs_cons (sg_name (i := 2) nd rfl (.inl rfl) (.inr rfl)) (sgs_cons (sg_name (i := 3) nd rfl (.inl rfl) (.inr rfl)) (sgs_cons (sg_name (i := 4) nd rfl (.inl rfl) (.inr rfl)) (sgs_cons (sg_name (i := 5) nd rfl (.inl rfl) (.inr rfl)) sgs_nil))))) (se_ix ho_ix hf_ix (se_var (i := 0) rfl (.inl rfl)) se_int))
  (sss_cons (ss_set (i := 6) nd rfl (.inl rfl) (.inr rfl) (se_bin ho_add hf_add (se_if (st_val (se_var (i := 5) rfl (.inl rfl))) (se_lst (sa_cons se_int sa_nil)) (se_lst sa_nil)) (se_listRng2 (se_var (i := 2) rfl (.inl rfl)) (se_bin ho_add hf_add (se_var (i := 3) rfl (.inl rfl)) se_int) rfl z_list rfl z_range)))
  (sss_cons (ss_own (i := 7) nd rfl (.inl rfl) (.inr rfl) sa_nil)
  (sss_cons (ss_for (si_seq (se_call h__law_all_moves hk__law_all_moves rfl (sa_cons (se_callB ho_len hf_len rfl z_len PySem.boot_len (sa_cons (se_ix ho_ix hf_ix (se_var (i := 1) rfl (.inl rfl)) se_int) sa_nil)) sa_nil))) (sg_name (i := 8) nd rfl (.inl rfl) (.inr rfl))
  (sss_cons (ss_set (i := 9) nd rfl (.inl rfl) (.inr rfl) (se_call h__law_moved hk__law_moved rfl (sa_cons (se_var (i := 0) rfl (.inl rfl)) (sa_cons (se_var (i := 1) rfl (.inl rfl)) (sa_cons (se_var (i := 8) rfl (.inl rfl)) sa_nil)))))
  (sss_one (ss_if (st_cmp ho_notN hf_notN (se_var (i := 9) rfl (.inl rfl)) se_non)
  (sss_cons (ss_set (i := 10) nd rfl (.inl rfl) (.inr rfl) (se_call h__law_left hk__law_left rfl (sa_cons (se_var (i := 9) rfl (.inl rfl)) sa_nil)))
  (sss_cons (ss_append (i := 7) rfl (.inl rfl) (se_tup (sa_cons (se_var (i := 8) rfl (.inl rfl)) (sa_cons (se_un ho_neg hf_neg se_int) (sa_cons se_bl sa_nil)))))
  (sss_cons (ss_if (st_w (sw_and (st_cmp ho_ne hf_ne (se_var (i := 10) rfl (.inl rfl)) (se_lst sa_nil)) (sw_and (st_cmp ho_eq hf_eq (se_ix ho_ix hf_ix (se_ix ho_ix hf_ix (se_var (i := 10) rfl (.inl rfl)) (se_un ho_neg hf_neg se_int)) se_int) se_int) (sw_and1 (st_not (st_val (se_ix ho_ix hf_ix (se_ix ho_ix hf_ix (se_var (i := 10) rfl (.inl rfl)) (se_un ho_neg hf_neg se_int)) se_int)))))))
  (sss_one (ss_append (i := 7) rfl (.inl rfl) (se_tup (sa_cons (se_var (i := 8) rfl (.inl rfl)) (sa_cons (se_un ho_neg hf_neg se_int) (sa_cons se_bl sa_nil))))))
  sss_nil)
  (sss_one (ss_if (st_cmp ho_eq hf_eq (se_lc (own := [("one", 12)]) nd (si_seq (se_var (i := 10) rfl (.inl rfl))) (blkOk_by (show blkC N__law_choices (defScope (top 53)) _ _ = true by decide +kernel)) (sg_name (i := 12) nd rfl (.inl rfl) (.inr rfl)) (sts_one (st_cmp ho_in hf_in se_int (se_call h__law_ground hk__law_ground rfl (sa_cons (se_var (i := 12) rfl (.inl rfl)) sa_nil)))) (se_var (i := 12) rfl (.inl rfl)) (by decide)) (se_lst sa_nil))
  (sss_one (ss_for (si_seq (se_var (i := 6) rfl (.inl rfl))) (sg_name (i := 11) nd rfl (.inl rfl) (.inr rfl))
  (sss_one (ss_ownAdd (i := 7) nd rfl (.inl rfl) (.inr rfl) (se_lst (sa_cons (se_tup (sa_cons (se_var (i := 8) rfl (.inl rfl)) (sa_cons (se_var (i := 11) rfl (.inl rfl)) (sa_cons se_bl sa_nil)))) (sa_cons (se_tup (sa_cons (se_var (i := 8) rfl (.inl rfl)) (sa_cons (se_var (i := 11) rfl (.inl rfl)) (sa_cons se_bl sa_nil)))) sa_nil)))))))
  sss_nil)))))
  sss_nil))))
  (sss_freeze (i := 7) (sss_one (ss_ret (se_var (i := 7) rfl (.inl rfl)))))))))
/-! _law_program -/
abbrev N__law_program : List Str := ["spring", "way"]
theorem sc__law_program : FnScope N__law_program ["spring"] (defScope (top 43)) := ⟨rfl, rfl, rfl, by decide +kernel, rfl, by decide +kernel, by decide +kernel⟩
theorem d__law_program {P : Program} {w : World} {K : Fg} {mg : Str → Option Value} {base : PySem.Heap} {k : Nat} {W : WX} {B : Bs} {l__law_pick : Nat} (h__law_pick : Cal P w K mg base l__law_pick "_law_pick" 2 f__law_pick) (hk__law_pick : l__law_pick ≤ k) :
    SSs ⟨P, w, K, mg, base, N__law_program, defScope (top 43), k, W, B, fun _ => true⟩ (defBody (top 43)) m__law_program := by
  have nd : (N__law_program).Nodup := by decide
  exact (sss_cons (ss_set (i := 1) nd rfl (.inl rfl) (.inr rfl) (se_ix ho_ix hf_ix (se_lst (sa_cons se_str (sa_cons se_str (sa_cons se_str sa_nil)))) (se_call h__law_pick hk__law_pick rfl (sa_cons (se_var (i := 0) rfl (.inl rfl)) (sa_cons se_int sa_nil)))))
  (sss_one (ss_ret (se_tup (sa_cons (se_var (i := 1) rfl (.inl rfl)) (sa_cons (se_ix ho_ix hf_ix (se_lst (sa_cons se_int (sa_cons se_int (sa_cons se_int (sa_cons se_int (sa_cons se_int sa_nil)))))) (se_call h__law_pick hk__law_pick rfl (sa_cons (se_var (i := 0) rfl (.inl rfl)) (sa_cons se_int sa_nil)))) (sa_cons (se_cmp ho_eq hf_eq (se_call h__law_pick hk__law_pick rfl (sa_cons (se_var (i := 0) rfl (.inl rfl)) (sa_cons se_int sa_nil))) se_int) sa_nil)))))))
/-! _law_plan -/
abbrev N__law_plan : List Str := ["spring", "least", "greatest", "traffic"]
theorem sc__law_plan : FnScope N__law_plan ["spring"] (defScope (top 44)) := ⟨rfl, rfl, rfl, by decide +kernel, rfl, by decide +kernel, by decide +kernel⟩
theorem d__law_plan {P : Program} {w : World} {K : Fg} {mg : Str → Option Value} {base : PySem.Heap} {k : Nat} {W : WX} {B : Bs} (z_min : mg "min" = none) {l__law_pick : Nat} (h__law_pick : Cal P w K mg base l__law_pick "_law_pick" 2 f__law_pick) (hk__law_pick : l__law_pick ≤ k) {l__law_program : Nat} (h__law_program : Cal P w K mg base l__law_program "_law_program" 1 f__law_program) (hk__law_program : l__law_program ≤ k) :
    SSs ⟨P, w, K, mg, base, N__law_plan, defScope (top 44), k, W, B, fun _ => true⟩ (defBody (top 44)) m__law_plan := by
  have nd : (N__law_plan).Nodup := by decide
  exact (sss_cons (ss_set (i := 1) nd rfl (.inl rfl) (.inr rfl) (se_ix ho_ix hf_ix (se_lst (sa_cons se_int (sa_cons se_int (sa_cons se_int (sa_cons se_int sa_nil))))) (se_call h__law_pick hk__law_pick rfl (sa_cons (se_var (i := 0) rfl (.inl rfl)) (sa_cons se_int sa_nil)))))
  (sss_cons (ss_set (i := 2) nd rfl (.inl rfl) (.inr rfl) (se_callB ho_min hf_min rfl z_min (by decide +kernel) (sa_cons se_int (sa_cons (se_bin ho_add hf_add (se_var (i := 1) rfl (.inl rfl)) (se_ix ho_ix hf_ix (se_lst (sa_cons se_int (sa_cons se_int (sa_cons se_int (sa_cons se_int sa_nil))))) (se_call h__law_pick hk__law_pick rfl (sa_cons (se_var (i := 0) rfl (.inl rfl)) (sa_cons se_int sa_nil))))) sa_nil))))
  (sss_cons (ss_set (i := 3) nd rfl (.inl rfl) (.inr rfl) (se_tup (sa_cons (se_var (i := 1) rfl (.inl rfl)) (sa_cons (se_var (i := 2) rfl (.inl rfl)) (sa_cons (se_cmp ho_eq hf_eq (se_call h__law_pick hk__law_pick rfl (sa_cons (se_var (i := 0) rfl (.inl rfl)) (sa_cons se_int sa_nil))) se_int) (sa_cons (se_cmp ho_eq hf_eq (se_call h__law_pick hk__law_pick rfl (sa_cons (se_var (i := 0) rfl (.inl rfl)) (sa_cons se_int sa_nil))) se_int) sa_nil))))))
  (sss_one (ss_ret (se_tup (sa_cons (se_ix ho_ix hf_ix (se_lst (sa_cons se_int (sa_cons se_int (sa_cons se_int (sa_cons se_int sa_nil))))) (se_call h__law_pick hk__law_pick rfl (sa_cons (se_var (i := 0) rfl (.inl rfl)) (sa_cons se_int sa_nil)))) (sa_cons (se_call h__law_program hk__law_program rfl (sa_cons (se_var (i := 0) rfl (.inl rfl)) sa_nil)) (sa_cons (se_var (i := 3) rfl (.inl rfl)) sa_nil)))))))))
/-! _law_spring -/
abbrev N__law_spring : List Str := ["script", "at", "cell", "mixed"]
theorem sc__law_spring : FnScope N__law_spring ["script", "at"] (defScope (top 39)) := ⟨rfl, rfl, rfl, by decide +kernel, rfl, by decide +kernel, by decide +kernel⟩
theorem d__law_spring {P : Program} {w : World} {K : Fg} {mg : Str → Option Value} {base : PySem.Heap} {k : Nat} {W : WX} {B : Bs} (z_abs : mg "abs" = none) (z_int : mg "int" = none) (z_len : mg "len" = none) :
    SSs ⟨P, w, K, mg, base, N__law_spring, defScope (top 39), k, W, B, fun _ => true⟩ (defBody (top 39)) m__law_spring := by
  have nd : (N__law_spring).Nodup := by decide
  exact (sss_cons (ss_set (i := 2) nd rfl (.inl rfl) (.inr rfl) se_int)
  (sss_cons (ss_if (st_cmp ho_lt hf_lt (se_var (i := 1) rfl (.inl rfl)) (se_callB ho_len hf_len rfl z_len PySem.boot_len (sa_cons (se_var (i := 0) rfl (.inl rfl)) sa_nil)))
  (sss_one (ss_set (i := 2) nd rfl (.inl rfl) (.inr rfl) (se_callB ho_abs hf_abs rfl z_abs (by decide +kernel) (sa_cons (se_ix ho_ix hf_ix (se_var (i := 0) rfl (.inl rfl)) (se_var (i := 1) rfl (.inl rfl))) sa_nil))))
  sss_nil)
  (sss_cons (ss_set (i := 3) nd rfl (.inl rfl) (.inr rfl) (se_bin ho_mod hf_mod (se_callTy ho_int hf_int rfl z_int (by decide +kernel) (sa_cons (se_bin ho_add hf_add (se_bin ho_add hf_add (se_bin ho_mul hf_mul (se_var (i := 2) rfl (.inl rfl)) se_int) (se_bin ho_mul hf_mul se_int (se_var (i := 1) rfl (.inl rfl)))) se_int) sa_nil)) se_int))
  (sss_one (ss_ret (se_new (sa_cons (se_if (st_cmp ho_ge hf_ge (se_var (i := 2) rfl (.inl rfl)) (se_bin ho_pow hf_pow se_int se_int)) (se_var (i := 2) rfl (.inl rfl)) se_int) (sa_cons (se_var (i := 3) rfl (.inl rfl)) sa_nil))))))))
/-! _law_feels -/
abbrev N__law_feels : List Str := ["some", "place", "one"]
theorem sc__law_feels : FnScope N__law_feels ["some", "place"] (defScope (top 47)) := ⟨rfl, rfl, rfl, by decide +kernel, rfl, by decide +kernel, by decide +kernel⟩
theorem d__law_feels {P : Program} {w : World} {K : Fg} {mg : Str → Option Value} {base : PySem.Heap} {k : Nat} {W : WX} {B : Bs} {l__law_ground : Nat} (h__law_ground : Cal P w K mg base l__law_ground "_law_ground" 1 f__law_ground) (hk__law_ground : l__law_ground ≤ k) :
    SSs ⟨P, w, K, mg, base, N__law_feels, defScope (top 47), k, W, B, fun _ => true⟩ (defBody (top 47)) m__law_feels := by
  have nd : (N__law_feels).Nodup := by decide
  exact (sss_one (ss_ret (se_cmp ho_ne hf_ne (se_lc (own := [("one", 2)]) nd (si_seq (se_var (i := 0) rfl (.inl rfl))) (blkOk_by (show blkC N__law_feels (defScope (top 47)) _ _ = true by decide +kernel)) (sg_name (i := 2) nd rfl (.inl rfl) (.inr rfl)) (sts_one (st_w (sw_and (st_cmp ho_ne hf_ne (se_ix ho_ix hf_ix (se_var (i := 2) rfl (.inl rfl)) se_int) se_int) (sw_and1 (st_cmp ho_in hf_in (se_var (i := 1) rfl (.inr (.inl rfl))) (se_call h__law_ground hk__law_ground rfl (sa_cons (se_var (i := 2) rfl (.inl rfl)) sa_nil))))))) (se_var (i := 2) rfl (.inl rfl)) (by decide)) (se_lst sa_nil))))
/-! _law_ordered -/
abbrev N__law_ordered : List Str := ["plan", "stand", "some", "ticket", "way", "wait", "guard", "queue", "height", "order", "timer", "seen", "here"]
theorem sc__law_ordered : FnScope N__law_ordered ["plan", "stand", "some", "ticket"] (defScope (top 50)) := ⟨rfl, rfl, rfl, by decide +kernel, rfl, by decide +kernel, by decide +kernel⟩
theorem d__law_ordered {P : Program} {w : World} {K : Fg} {mg : Str → Option Value} {base : PySem.Heap} {k : Nat} {W : WX} {B : Bs} {l__law_feels : Nat} (h__law_feels : Cal P w K mg base l__law_feels "_law_feels" 2 f__law_feels) (hk__law_feels : l__law_feels ≤ k) :
    SSs ⟨P, w, K, mg, base, N__law_ordered, defScope (top 50), k, W, B, fun _ => true⟩ (defBody (top 50)) m__law_ordered := by
  have nd : (N__law_ordered).Nodup := by decide
  exact (sss_cons (ss_asg (sg_tup (sgs_cons (sg_name (i := 4) nd rfl (.inl rfl) (.inr rfl)) (sgs_cons (sg_name (i := 5) nd rfl (.inl rfl) (.inr rfl)) (sgs_cons (sg_name (i := 6) nd rfl (.inl rfl) (.inr rfl)) sgs_nil)))) (se_ix ho_ix hf_ix (se_var (i := 0) rfl (.inl rfl)) se_int))
  (sss_cons (ss_asg (sg_tup (sgs_cons (sg_name (i := 7) nd rfl (.inl rfl) (.inr rfl)) (sgs_cons (sg_name (i := 8) nd rfl (.inl rfl) (.inr rfl)) (sgs_cons (sg_name (i := 9) nd rfl (.inl rfl) (.inr rfl)) (sgs_cons (sg_name (i := 10) nd rfl (.inl rfl) (.inr rfl)) (sgs_cons (sg_name (i := 11) nd rfl (.inl rfl) (.inr rfl)) sgs_nil)))))) (se_var (i := 1) rfl (.inl rfl)))
  (sss_cons (ss_if (st_val (se_var (i := 3) rfl (.inl rfl)))
  (sss_one (ss_ret (se_tup (sa_cons se_str (sa_cons (se_var (i := 5) rfl (.inl rfl)) (sa_cons se_bl sa_nil))))))
  sss_nil)
  (sss_cons (ss_if (st_w (sw_and (st_cmp ho_eq hf_eq (se_var (i := 9) rfl (.inl rfl)) se_str) (sw_and1 (st_cmp ho_lt hf_lt (se_var (i := 8) rfl (.inl rfl)) (se_ix ho_ix hf_ix (se_var (i := 0) rfl (.inl rfl)) se_int)))))
  (sss_one (ss_ret (se_tup (sa_cons (se_var (i := 9) rfl (.inl rfl)) (sa_cons (se_var (i := 10) rfl (.inl rfl)) (sa_cons (se_var (i := 11) rfl (.inl rfl)) sa_nil))))))
  sss_nil)
  (sss_cons (ss_if (st_cmp ho_eq hf_eq (se_var (i := 9) rfl (.inl rfl)) se_str)
  (sss_cons (ss_set (i := 12) nd rfl (.inl rfl) (.inr rfl) (se_call h__law_feels hk__law_feels rfl (sa_cons (se_var (i := 2) rfl (.inl rfl)) (sa_cons se_int sa_nil))))
  (sss_cons (ss_if (st_cmp ho_eq hf_eq (se_var (i := 4) rfl (.inl rfl)) se_str)
  (sss_one (ss_set (i := 11) nd rfl (.inl rfl) (.inr rfl) (se_or (se_var (i := 11) rfl (.inl rfl)) (se_one (se_var (i := 12) rfl (.inl rfl))))))
  sss_nil)
  (sss_cons (ss_if (st_w (sw_and (st_cmp ho_eq hf_eq (se_var (i := 4) rfl (.inl rfl)) se_str) (sw_and1 (st_w (sw_or (st_val (se_var (i := 12) rfl (.inl rfl))) (sw_or1 (st_not (st_val (se_var (i := 11) rfl (.inl rfl))))))))))
  (sss_one (ss_ret (se_tup (sa_cons (se_var (i := 9) rfl (.inl rfl)) (sa_cons (se_var (i := 10) rfl (.inl rfl)) (sa_cons (se_var (i := 11) rfl (.inl rfl)) sa_nil))))))
  sss_nil)
  (sss_one (ss_if (st_cmp ho_gt hf_gt (se_var (i := 10) rfl (.inl rfl)) se_int)
  (sss_one (ss_ret (se_tup (sa_cons (se_var (i := 9) rfl (.inl rfl)) (sa_cons (se_bin ho_sub hf_sub (se_var (i := 10) rfl (.inl rfl)) se_int) (sa_cons (se_var (i := 11) rfl (.inl rfl)) sa_nil))))))
  sss_nil)))))
  sss_nil)
  (sss_cons (ss_if (st_w (sw_and (st_val (se_var (i := 6) rfl (.inl rfl))) (sw_and (st_cmp ho_gt hf_gt (se_var (i := 8) rfl (.inl rfl)) se_int) (sw_and1 (st_val (se_call h__law_feels hk__law_feels rfl (sa_cons (se_var (i := 2) rfl (.inl rfl)) (sa_cons se_int sa_nil))))))))
  (sss_one (ss_ret (se_tup (sa_cons se_str (sa_cons (se_var (i := 5) rfl (.inl rfl)) (sa_cons se_bl sa_nil))))))
  sss_nil)
  (sss_one (ss_ret (se_tup (sa_cons se_str (sa_cons se_int (sa_cons se_bl sa_nil))))))))))))
/-! _law_tick -/
abbrev N__law_tick : List Str := ["plan", "stand", "choice", "row", "some", "words_so", "order", "timer", "seen", "height", "one"]
theorem sc__law_tick : FnScope N__law_tick ["plan", "stand", "choice"] (defScope (top 51)) := ⟨rfl, rfl, rfl, by decide +kernel, rfl, by decide +kernel, by decide +kernel⟩
theorem d__law_tick {P : Program} {w : World} {K : Fg} {mg : Str → Option Value} {base : PySem.Heap} {k : Nat} {W : WX} {B : Bs} (z_int : mg "int" = none) (z_max : mg "max" = none) (z_min : mg "min" = none) (z_tuple : mg "tuple" = none) {l__law_feels : Nat} (h__law_feels : Cal P w K mg base l__law_feels "_law_feels" 2 f__law_feels) (hk__law_feels : l__law_feels ≤ k) {l__law_ground : Nat} (h__law_ground : Cal P w K mg base l__law_ground "_law_ground" 1 f__law_ground) (hk__law_ground : l__law_ground ≤ k) {l__law_left : Nat} (h__law_left : Cal P w K mg base l__law_left "_law_left" 1 f__law_left) (hk__law_left : l__law_left ≤ k) {l__law_moved : Nat} (h__law_moved : Cal P w K mg base l__law_moved "_law_moved" 3 f__law_moved) (hk__law_moved : l__law_moved ≤ k) {l__law_ordered : Nat} (h__law_ordered : Cal P w K mg base l__law_ordered "_law_ordered" 4 f__law_ordered) (hk__law_ordered : l__law_ordered ≤ k) :
    SSs ⟨P, w, K, mg, base, N__law_tick, defScope (top 51), k, W, B, fun _ => true⟩ (defBody (top 51)) m__law_tick := by
  have nd : (N__law_tick).Nodup := by decide
  exact (sss_cons (ss_set (i := 3) nd rfl (.inl rfl) (.inr rfl) (se_call h__law_moved hk__law_moved rfl (sa_cons (se_var (i := 0) rfl (.inl rfl)) (sa_cons (se_var (i := 1) rfl (.inl rfl)) (sa_cons (se_ix ho_ix hf_ix (se_var (i := 2) rfl (.inl rfl)) se_int) sa_nil)))))
  (sss_cons (ss_set (i := 4) nd rfl (.inl rfl) (.inr rfl) (se_call h__law_left hk__law_left rfl (sa_cons (se_var (i := 3) rfl (.inl rfl)) sa_nil)))
  (sss_cons (ss_set (i := 5) nd rfl (.inl rfl) (.inr rfl) (se_bin ho_mul hf_mul (se_lst (sa_cons se_str sa_nil)) (se_callTy ho_int hf_int rfl z_int (by decide +kernel) (sa_cons (se_and (se_call h__law_feels hk__law_feels rfl (sa_cons (se_ix ho_ix hf_ix (se_var (i := 1) rfl (.inl rfl)) se_int) (sa_cons se_int sa_nil))) (se_one (se_not (se_call h__law_feels hk__law_feels rfl (sa_cons (se_var (i := 4) rfl (.inl rfl)) (sa_cons se_int sa_nil)))))) sa_nil))))
  (sss_cons (ss_if (st_cmp ho_gt hf_gt (se_ix ho_ix hf_ix (se_var (i := 2) rfl (.inl rfl)) se_int) (se_un ho_neg hf_neg se_int))
  (sss_one (ss_set (i := 4) nd rfl (.inl rfl) (.inr rfl) (se_bin ho_add hf_add (se_var (i := 4) rfl (.inl rfl)) (se_lst (sa_cons (se_tup (sa_cons se_int (sa_cons (se_ix ho_ix hf_ix (se_var (i := 2) rfl (.inl rfl)) se_int) (sa_cons se_bl sa_nil)))) sa_nil)))))
  sss_nil)
  (sss_cons (ss_if (st_val (se_ix ho_ix hf_ix (se_var (i := 2) rfl (.inl rfl)) se_int))
  (sss_one (ss_set (i := 4) nd rfl (.inl rfl) (.inr rfl) (se_bin ho_add hf_add (se_slice (se_var (i := 4) rfl (.inl rfl)) so_none (so_some (se_un ho_neg hf_neg se_int))) (se_lst (sa_cons (se_tup (sa_cons (se_ix ho_ix hf_ix (se_ix ho_ix hf_ix (se_var (i := 4) rfl (.inl rfl)) (se_un ho_neg hf_neg se_int)) se_int) (sa_cons (se_ix ho_ix hf_ix (se_ix ho_ix hf_ix (se_var (i := 4) rfl (.inl rfl)) (se_un ho_neg hf_neg se_int)) se_int) (sa_cons se_bl sa_nil)))) sa_nil)))))
  sss_nil)
  (sss_cons (ss_asg (sg_tup (sgs_cons (sg_name (i := 6) nd rfl (.inl rfl) (.inr rfl)) (sgs_cons (sg_name (i := 7) nd rfl (.inl rfl) (.inr rfl)) (sgs_cons (sg_name (i := 8) nd rfl (.inl rfl) (.inr rfl)) sgs_nil)))) (se_call h__law_ordered hk__law_ordered rfl (sa_cons (se_var (i := 0) rfl (.inl rfl)) (sa_cons (se_var (i := 1) rfl (.inl rfl)) (sa_cons (se_var (i := 4) rfl (.inl rfl)) (sa_cons (se_ix ho_ix hf_ix (se_var (i := 2) rfl (.inl rfl)) se_int) sa_nil))))))
  (sss_cons (ss_set (i := 9) nd rfl (.inl rfl) (.inr rfl) (se_if (st_cmp ho_eq hf_eq (se_var (i := 6) rfl (.inl rfl)) se_str) (se_bin ho_add hf_add (se_ix ho_ix hf_ix (se_var (i := 1) rfl (.inl rfl)) se_int) se_int) (se_bin ho_sub hf_sub (se_ix ho_ix hf_ix (se_var (i := 1) rfl (.inl rfl)) se_int) se_int)))
  (sss_cons (ss_set (i := 9) nd rfl (.inl rfl) (.inr rfl) (se_callB ho_max hf_max rfl z_max (by decide +kernel) (sa_cons se_int (sa_cons (se_callB ho_min hf_min rfl z_min (by decide +kernel) (sa_cons (se_ix ho_ix hf_ix (se_var (i := 0) rfl (.inl rfl)) se_int) (sa_cons (se_var (i := 9) rfl (.inl rfl)) sa_nil))) sa_nil))))
  (sss_cons (ss_if (st_w (sw_and (st_cmp ho_eq hf_eq (se_ix ho_ix hf_ix (se_var (i := 1) rfl (.inl rfl)) se_int) se_int) (sw_and (st_cmp ho_eq hf_eq (se_var (i := 9) rfl (.inl rfl)) se_int) (sw_and1 (st_cmp ho_ne hf_ne (se_lc (own := [("one", 10)]) nd (si_seq (se_var (i := 4) rfl (.inl rfl))) (blkOk_by (show blkC N__law_tick (defScope (top 51)) _ _ = true by decide +kernel)) (sg_name (i := 10) nd rfl (.inl rfl) (.inr rfl)) (sts_one (st_cmp ho_in hf_in se_int (se_call h__law_ground hk__law_ground rfl (sa_cons (se_var (i := 10) rfl (.inl rfl)) sa_nil)))) (se_var (i := 10) rfl (.inl rfl)) (by decide)) (se_lst sa_nil))))))
  (sss_one (ss_set (i := 5) nd rfl (.inl rfl) (.inr rfl) (se_bin ho_add hf_add (se_var (i := 5) rfl (.inl rfl)) (se_lst (sa_cons se_str sa_nil)))))
  sss_nil)
  (sss_cons (ss_for (si_seq (se_var (i := 3) rfl (.inl rfl))) (sg_name (i := 10) nd rfl (.inl rfl) (.inr rfl))
  (sss_one (ss_if (st_cmp ho_gt hf_gt (se_ix ho_ix hf_ix (se_call h__law_ground hk__law_ground rfl (sa_cons (se_var (i := 10) rfl (.inl rfl)) sa_nil)) se_int) se_int)
  (sss_one (ss_set (i := 5) nd rfl (.inl rfl) (.inr rfl) (se_bin ho_add hf_add (se_bin ho_add hf_add (se_var (i := 5) rfl (.inl rfl)) (se_lst (sa_cons se_str sa_nil))) (se_bin ho_mul hf_mul (se_lst (sa_cons se_str sa_nil)) (se_callTy ho_int hf_int rfl z_int (by decide +kernel) (sa_cons (se_not (se_ix ho_ix hf_ix (se_var (i := 10) rfl (.inl rfl)) se_int)) sa_nil))))))
  sss_nil)))
  (sss_one (ss_ret (se_tup (sa_cons (se_tup (sa_cons (se_callTy ho_tuple hf_tuple rfl z_tuple (by decide +kernel) (sa_cons (se_var (i := 4) rfl (.inl rfl)) sa_nil)) (sa_cons (se_var (i := 9) rfl (.inl rfl)) (sa_cons (se_var (i := 6) rfl (.inl rfl)) (sa_cons (se_var (i := 7) rfl (.inl rfl)) (sa_cons (se_var (i := 8) rfl (.inl rfl)) sa_nil)))))) (sa_cons (se_var (i := 5) rfl (.inl rfl)) sa_nil)))))))))))))))
/-! _law_kind -/
abbrev N__law_kind : List Str := ["value"]
theorem sc__law_kind : FnScope N__law_kind ["value"] (defScope (top 41)) := ⟨rfl, rfl, rfl, by decide +kernel, rfl, by decide +kernel, by decide +kernel⟩
theorem d__law_kind {P : Program} {w : World} {K : Fg} {mg : Str → Option Value} {base : PySem.Heap} {k : Nat} {W : WX} {B : Bs} (z_bool : mg "bool" = none) (z_int : mg "int" = none) (z_isinstance : mg "isinstance" = none) (z_list : mg "list" = none) (z_str : mg "str" = none) (z_tuple : mg "tuple" = none) :
    SSs ⟨P, w, K, mg, base, N__law_kind, defScope (top 41), k, W, B, fun _ => true⟩ (defBody (top 41)) m__law_kind := by
  have nd : (N__law_kind).Nodup := by decide
  exact (sss_cons (ss_if (st_w (sw_or (st_cmp ho_isN hf_isN (se_var (i := 0) rfl (.inl rfl)) se_non) (sw_or1 (st_val (se_isi (t := .tBool) (se_var (i := 0) rfl (.inl rfl)) rfl z_isinstance rfl z_bool)))))
  (sss_one (ss_ret (se_if (st_cmp ho_isN hf_isN (se_var (i := 0) rfl (.inl rfl)) se_non) se_int se_int)))
  sss_nil)
  (sss_cons (ss_if (st_val (se_isi2 (t := .tList) (u := .tTuple) (se_var (i := 0) rfl (.inl rfl)) rfl z_isinstance rfl z_list rfl z_tuple))
  (sss_one (ss_ret (se_if (st_val (se_isi (t := .tList) (se_var (i := 0) rfl (.inl rfl)) rfl z_isinstance rfl z_list)) se_int se_int)))
  sss_nil)
  (sss_one (ss_ret (se_if (st_val (se_isi (t := .tInt) (se_var (i := 0) rfl (.inl rfl)) rfl z_isinstance rfl z_int)) se_int (se_if (st_val (se_isi (t := .tStr) (se_var (i := 0) rfl (.inl rfl)) rfl z_isinstance rfl z_str)) se_int se_int))))))
/-! _law_twins -/
abbrev N__law_twins : List Str := ["one", "other", "a", "b"]
theorem sc__law_twins : FnScope N__law_twins ["one", "other"] (defScope (top 42)) := ⟨rfl, rfl, rfl, by decide +kernel, rfl, by decide +kernel, by decide +kernel⟩
theorem d__law_twins {P : Program} {w : World} {K : Fg} {mg : Str → Option Value} {base : PySem.Heap} {k : Nat} {W : WX} {B : Bs} (rec : DF) (z_len : mg "len" = none) (z_zip : mg "zip" = none) {l__law_kind : Nat} (h__law_kind : Cal P w K mg base l__law_kind "_law_kind" 1 f__law_kind) (hk__law_kind : l__law_kind ≤ k) {l__law_twins : Nat} (h__law_twins : Cal P w K mg base l__law_twins "_law_twins" 2 rec) (hk__law_twins : l__law_twins ≤ k) :
    SSs ⟨P, w, K, mg, base, N__law_twins, defScope (top 42), k, W, B, fun _ => true⟩ (defBody (top 42)) (m__law_twins rec) := by
  have nd : (N__law_twins).Nodup := by decide
  exact (sss_cons (ss_if (st_cmp ho_ne hf_ne (se_call h__law_kind hk__law_kind rfl (sa_cons (se_var (i := 0) rfl (.inl rfl)) sa_nil)) (se_call h__law_kind hk__law_kind rfl (sa_cons (se_var (i := 1) rfl (.inl rfl)) sa_nil)))
  (sss_one (ss_ret se_bl))
  sss_nil)
  (sss_cons (ss_if (st_cmp ho_in hf_in (se_call h__law_kind hk__law_kind rfl (sa_cons (se_var (i := 0) rfl (.inl rfl)) sa_nil)) (se_lst (sa_cons se_int (sa_cons se_int sa_nil))))
  (sss_one (ss_ret (se_and (se_cmp ho_eq hf_eq (se_callB ho_len hf_len rfl z_len PySem.boot_len (sa_cons (se_var (i := 0) rfl (.inl rfl)) sa_nil)) (se_callB ho_len hf_len rfl z_len PySem.boot_len (sa_cons (se_var (i := 1) rfl (.inl rfl)) sa_nil))) (se_one (se_cmp ho_eq hf_eq (se_lc (own := [("a", 2), ("b", 3)]) nd (si_zip (se_var (i := 0) rfl (.inl rfl)) (se_var (i := 1) rfl (.inl rfl)) rfl z_zip) (blkOk_by (show blkC N__law_twins (defScope (top 42)) _ _ = true by decide +kernel)) (sg_tup (sgs_cons (sg_name (i := 2) nd rfl (.inl rfl) (.inr rfl)) (sgs_cons (sg_name (i := 3) nd rfl (.inl rfl) (.inr rfl)) sgs_nil))) (sts_one (st_not (st_val (se_call h__law_twins hk__law_twins rfl (sa_cons (se_var (i := 2) rfl (.inl rfl)) (sa_cons (se_var (i := 3) rfl (.inl rfl)) sa_nil)))))) se_int (by decide)) (se_lst sa_nil))))))
  sss_nil)
  (sss_one (ss_ret (se_cmp ho_eq hf_eq (se_var (i := 0) rfl (.inl rfl)) (se_var (i := 1) rfl (.inl rfl)))))))
/-! tail_of -/
abbrev N_tail_of : List Str := ["one"]
theorem sc_tail_of : FnScope N_tail_of ["one"] (defScope (top 15)) := ⟨rfl, rfl, rfl, by decide +kernel, rfl, by decide +kernel, by decide +kernel⟩
theorem d_tail_of {P : Program} {w : World} {K : Fg} {mg : Str → Option Value} {base : PySem.Heap} {k : Nat} {W : WX} {B : Bs} (z_max : mg "max" = none) :
    SSs ⟨P, w, K, mg, base, N_tail_of, defScope (top 15), k, W, B, fun _ => true⟩ (defBody (top 15)) m_tail_of := by
  have nd : (N_tail_of).Nodup := by decide
  exact (sss_one (ss_ret (se_bin ho_sub hf_sub (se_bin ho_add hf_add (se_ix ho_ix hf_ix (se_var (i := 0) rfl (.inl rfl)) se_int) se_int) (se_callB ho_max hf_max rfl z_max (by decide +kernel) (sa_cons se_int (sa_cons (se_ix ho_ix hf_ix (se_var (i := 0) rfl (.inl rfl)) se_int) sa_nil))))))
/-! in_lane -/
abbrev N_in_lane : List Str := ["row", "one"]
theorem sc_in_lane : FnScope N_in_lane ["row"] (defScope (top 29)) := ⟨rfl, rfl, rfl, by decide +kernel, rfl, by decide +kernel, by decide +kernel⟩
theorem d_in_lane {P : Program} {w : World} {K : Fg} {mg : Str → Option Value} {base : PySem.Heap} {k : Nat} {W : WX} {B : Bs} (z_tuple : mg "tuple" = none) {l_tail_of : Nat} (h_tail_of : Cal P w K mg base l_tail_of "tail_of" 1 f_tail_of) (hk_tail_of : l_tail_of ≤ k) :
    SSs ⟨P, w, K, mg, base, N_in_lane, defScope (top 29), k, W, B, fun _ => true⟩ (defBody (top 29)) m_in_lane := by
  have nd : (N_in_lane).Nodup := by decide
  exact (sss_one (ss_ret (se_callTy ho_tuple hf_tuple rfl z_tuple (by decide +kernel) (sa_cons (se_lc (own := [("one", 1)]) nd (si_seq (se_var (i := 0) rfl (.inl rfl))) (blkOk_by (show blkC N_in_lane (defScope (top 29)) _ _ = true by decide +kernel)) (sg_name (i := 1) nd rfl (.inl rfl) (.inr rfl)) (sts_one (st_w (sw_and (st_cmp ho_ge hf_ge (se_ix ho_ix hf_ix (se_var (i := 1) rfl (.inl rfl)) se_int) se_int) (sw_and1 (st_cmp ho_le hf_le (se_call h_tail_of hk_tail_of rfl (sa_cons (se_var (i := 1) rfl (.inl rfl)) sa_nil)) se_int))))) (se_var (i := 1) rfl (.inl rfl)) (by decide)) sa_nil))))
/-! is_on -/
abbrev N_is_on : List Str := ["one", "place"]
theorem sc_is_on : FnScope N_is_on ["one", "place"] (defScope (top 24)) := ⟨rfl, rfl, rfl, by decide +kernel, rfl, by decide +kernel, by decide +kernel⟩
theorem d_is_on {P : Program} {w : World} {K : Fg} {mg : Str → Option Value} {base : PySem.Heap} {k : Nat} {W : WX} {B : Bs} {l_tail_of : Nat} (h_tail_of : Cal P w K mg base l_tail_of "tail_of" 1 f_tail_of) (hk_tail_of : l_tail_of ≤ k) :
    SSs ⟨P, w, K, mg, base, N_is_on, defScope (top 24), k, W, B, fun _ => true⟩ (defBody (top 24)) m_is_on := by
  have nd : (N_is_on).Nodup := by decide
  exact (sss_one (ss_ret (se_chain ho_le ho_le hf_le hf_le (se_call h_tail_of hk_tail_of rfl (sa_cons (se_var (i := 0) rfl (.inl rfl)) sa_nil)) (se_var (i := 1) rfl (.inl rfl)) (se_ix ho_ix hf_ix (se_var (i := 0) rfl (.inl rfl)) se_int))))
/-! lengths_of -/
abbrev N_lengths_of : List Str := ["plan", "least", "greatest", "backs", "bikes"]
theorem sc_lengths_of : FnScope N_lengths_of ["plan"] (defScope (top 16)) := ⟨rfl, rfl, rfl, by decide +kernel, rfl, by decide +kernel, by decide +kernel⟩
theorem d_lengths_of {P : Program} {w : World} {K : Fg} {mg : Str → Option Value} {base : PySem.Heap} {k : Nat} {W : WX} {B : Bs} (z_int : mg "int" = none) (z_list : mg "list" = none) (z_range : mg "range" = none) :
    SSs ⟨P, w, K, mg, base, N_lengths_of, defScope (top 16), k, W, B, fun _ => true⟩ (defBody (top 16)) m_lengths_of := by
  have nd : (N_lengths_of).Nodup := by decide
  exact (sss_cons (ss_asg (sg_tup (sgs_cons (sg_name (i := 1) nd rfl (.inl rfl) (.inr rfl)) (sgs_cons (sg_name (i := 2) nd rfl (.inl rfl) (.inr rfl)) (sgs_cons (sg_name (i := 3) nd rfl (.inl rfl) (.inr rfl)) (sgs_cons (sg_name (i := 4) nd rfl (.inl rfl) (.inr rfl)) sgs_nil))))) (se_ix ho_ix hf_ix (se_var (i := 0) rfl (.inl rfl)) se_int))
  (sss_one (ss_ret (se_bin ho_add hf_add (se_bin ho_mul hf_mul (se_lst (sa_cons se_int sa_nil)) (se_callTy ho_int hf_int rfl z_int (by decide +kernel) (sa_cons (se_var (i := 4) rfl (.inl rfl)) sa_nil))) (se_listRng2 (se_var (i := 1) rfl (.inl rfl)) (se_bin ho_add hf_add (se_var (i := 2) rfl (.inl rfl)) se_int) rfl z_list rfl z_range)))))
/-! moved -/
abbrev N_moved : List Str := ["one", "word"]
theorem sc_moved : FnScope N_moved ["one", "word"] (defScope (top 26)) := ⟨rfl, rfl, rfl, by decide +kernel, rfl, by decide +kernel, by decide +kernel⟩
theorem d_moved {P : Program} {w : World} {K : Fg} {mg : Str → Option Value} {base : PySem.Heap} {k : Nat} {W : WX} {B : Bs} (q_STEPS : DCon K mg "STEPS" ["back", "on", "stay"] [-1, 1, 0]) (z_dict : mg "dict" = none) :
    SSs ⟨P, w, K, mg, base, N_moved, defScope (top 26), k, W, B, fun _ => true⟩ (defBody (top 26)) m_moved := by
  have nd : (N_moved).Nodup := by decide
  exact (sss_one (ss_ret (se_bin ho_add hf_add (se_tup (sa_cons (se_bin ho_add hf_add (se_ix ho_ix hf_ix (se_var (i := 0) rfl (.inl rfl)) se_int) (se_dicIx (se_dictC q_STEPS rfl rfl z_dict) (se_var (i := 1) rfl (.inl rfl)) (by intro _ _; rfl))) sa_nil)) (se_slice (se_var (i := 0) rfl (.inl rfl)) (so_some se_int) so_none))))
/-! rows_of -/
abbrev N_rows_of : List Str := ["plan", "stand", "queue", "height", "order", "timer", "seen", "found", "one", "longer", "words", "row", "word", "step", "there", "enters", "good"]
theorem sc_rows_of : FnScope N_rows_of ["plan", "stand"] (defScope (top 27)) := ⟨rfl, rfl, rfl, by decide +kernel, rfl, by decide +kernel, by decide +kernel⟩
theorem d_rows_of {P : Program} {w : World} {K : Fg} {mg : Str → Option Value} {base : PySem.Heap} {k : Nat} {W : WX} {B : Bs} (k_STEPS : Con K mg "STEPS" c_STEPS) {l_is_on : Nat} (h_is_on : Cal P w K mg base l_is_on "is_on" 2 f_is_on) (hk_is_on : l_is_on ≤ k) {l_moved : Nat} (h_moved : Cal P w K mg base l_moved "moved" 2 f_moved) (hk_moved : l_moved ≤ k) {l_tail_of : Nat} (h_tail_of : Cal P w K mg base l_tail_of "tail_of" 1 f_tail_of) (hk_tail_of : l_tail_of ≤ k) :
    SSs ⟨P, w, K, mg, base, N_rows_of, defScope (top 27), k, W, B, fun _ => true⟩ (defBody (top 27)) m_rows_of := by
  have nd : (N_rows_of).Nodup := by decide
  exact (sss_cons (ss_asg (sg_tup (sgs_cons (sg_name (i := 2) nd rfl (.inl rfl) (.inr rfl)) (sgs_cons (sg_name (i := 3) nd rfl (.inl rfl) (.inr rfl)) (sgs_cons (sg_name (i := 4) nd rfl (.inl rfl) (.inr rfl)) (sgs_cons (sg_name (i := 5) nd rfl (.inl rfl) (.inr rfl)) (sgs_cons (sg_name (i := 6) nd rfl (.inl rfl) (.inr rfl)) sgs_nil)))))) (se_var (i := 1) rfl (.inl rfl)))
  (sss_cons (ss_set (i := 7) nd rfl (.inl rfl) (.inr rfl) (se_lst (sa_cons (se_tup (sa_cons (se_tup sa_nil) (sa_cons (se_tup sa_nil) sa_nil))) sa_nil)))
  (sss_cons (ss_for (si_seq (se_var (i := 2) rfl (.inl rfl))) (sg_name (i := 8) nd rfl (.inl rfl) (.inr rfl))
  (sss_cons (ss_own (i := 9) nd rfl (.inl rfl) (.inr rfl) sa_nil)
  (sss_cons (ss_for (si_seq (se_var (i := 7) rfl (.inl rfl))) (sg_tup (sgs_cons (sg_name (i := 10) nd rfl (.inl rfl) (.inr rfl)) (sgs_cons (sg_name (i := 11) nd rfl (.inl rfl) (.inr rfl)) sgs_nil)))
  (sss_one (ss_for (si_seq (se_con k_STEPS rfl)) (sg_tup (sgs_cons (sg_name (i := 12) nd rfl (.inl rfl) (.inr rfl)) (sgs_cons (sg_name (i := 13) nd rfl (.inl rfl) (.inr rfl)) sgs_nil)))
  (sss_cons (ss_set (i := 14) nd rfl (.inl rfl) (.inr rfl) (se_call h_moved hk_moved rfl (sa_cons (se_var (i := 8) rfl (.inl rfl)) (sa_cons (se_var (i := 12) rfl (.inl rfl)) sa_nil))))
  (sss_cons (ss_set (i := 15) nd rfl (.inl rfl) (.inr rfl) (se_and (se_call h_is_on hk_is_on rfl (sa_cons (se_var (i := 14) rfl (.inl rfl)) (sa_cons se_int sa_nil))) (se_one (se_not (se_call h_is_on hk_is_on rfl (sa_cons (se_var (i := 8) rfl (.inl rfl)) (sa_cons se_int sa_nil)))))))
  (sss_cons (ss_set (i := 16) nd rfl (.inl rfl) (.inr rfl) (se_and (se_or (se_cmp ho_ne hf_ne (se_var (i := 12) rfl (.inl rfl)) se_str) (se_one (se_ix ho_ix hf_ix (se_ix ho_ix hf_ix (se_var (i := 0) rfl (.inl rfl)) se_int) se_int))) (se_one (se_or (se_not (se_var (i := 15) rfl (.inl rfl))) (se_one (se_cmp ho_eq hf_eq (se_var (i := 3) rfl (.inl rfl)) (se_ix ho_ix hf_ix (se_var (i := 0) rfl (.inl rfl)) se_int)))))))
  (sss_one (ss_if (st_w (sw_and (st_val (se_var (i := 16) rfl (.inl rfl))) (sw_and1 (st_w (sw_or (st_cmp ho_eq hf_eq (se_var (i := 11) rfl (.inl rfl)) (se_tup sa_nil)) (sw_or1 (st_cmp ho_gt hf_gt (se_call h_tail_of hk_tail_of rfl (sa_cons (se_ix ho_ix hf_ix (se_var (i := 11) rfl (.inl rfl)) (se_un ho_neg hf_neg se_int)) sa_nil)) (se_ix ho_ix hf_ix (se_var (i := 14) rfl (.inl rfl)) se_int))))))))
  (sss_one (ss_append (i := 9) rfl (.inl rfl) (se_tup (sa_cons (se_bin ho_add hf_add (se_var (i := 10) rfl (.inl rfl)) (se_tup (sa_cons (se_var (i := 12) rfl (.inl rfl)) sa_nil))) (sa_cons (se_bin ho_add hf_add (se_var (i := 11) rfl (.inl rfl)) (se_tup (sa_cons (se_var (i := 14) rfl (.inl rfl)) sa_nil))) sa_nil)))))
  sss_nil))))))))
  (sss_freeze (i := 9) (sss_one (ss_set (i := 7) nd rfl (.inl rfl) (.inr rfl) (se_var (i := 9) rfl (.inl rfl))))))))
  (sss_one (ss_ret (se_var (i := 7) rfl (.inl rfl)))))))
/-! choices_of -/
abbrev N_choices_of : List Str := ["plan", "stand", "found", "moves", "row", "queue", "free", "last", "length", "one"]
theorem sc_choices_of : FnScope N_choices_of ["plan", "stand"] (defScope (top 32)) := ⟨rfl, rfl, rfl, by decide +kernel, rfl, by decide +kernel, by decide +kernel⟩
theorem d_choices_of {P : Program} {w : World} {K : Fg} {mg : Str → Option Value} {base : PySem.Heap} {k : Nat} {W : WX} {B : Bs} (z_any : mg "any" = none) (z_int : mg "int" = none) {l_in_lane : Nat} (h_in_lane : Cal P w K mg base l_in_lane "in_lane" 1 f_in_lane) (hk_in_lane : l_in_lane ≤ k) {l_is_on : Nat} (h_is_on : Cal P w K mg base l_is_on "is_on" 2 f_is_on) (hk_is_on : l_is_on ≤ k) {l_lengths_of : Nat} (h_lengths_of : Cal P w K mg base l_lengths_of "lengths_of" 1 f_lengths_of) (hk_lengths_of : l_lengths_of ≤ k) {l_rows_of : Nat} (h_rows_of : Cal P w K mg base l_rows_of "rows_of" 2 f_rows_of) (hk_rows_of : l_rows_of ≤ k) :
    SSs ⟨P, w, K, mg, base, N_choices_of, defScope (top 32), k, W, B, fun _ => true⟩ (defBody (top 32)) m_choices_of := by
  have nd : (N_choices_of).Nodup := by decide
  exact (sss_cons (ss_set (i := 2) nd rfl (.inl rfl) (.inr rfl) (se_lst sa_nil))
  (sss_cons (ss_for (si_seq (se_call h_rows_of hk_rows_of rfl (sa_cons (se_var (i := 0) rfl (.inl rfl)) (sa_cons (se_var (i := 1) rfl (.inl rfl)) sa_nil)))) (sg_tup (sgs_cons (sg_name (i := 3) nd rfl (.inl rfl) (.inr rfl)) (sgs_cons (sg_name (i := 4) nd rfl (.inl rfl) (.inr rfl)) sgs_nil)))
  (sss_cons (ss_set (i := 5) nd rfl (.inl rfl) (.inr rfl) (se_call h_in_lane hk_in_lane rfl (sa_cons (se_var (i := 4) rfl (.inl rfl)) sa_nil)))
  (sss_cons (ss_set (i := 6) nd rfl (.inl rfl) (.inr rfl) (se_not (se_callB ho_any hf_any rfl z_any (by decide +kernel) (sa_cons (se_lc (own := [("one", 9)]) nd (si_seq (se_var (i := 5) rfl (.inl rfl))) (blkOk_by (show blkC N_choices_of (defScope (top 32)) _ _ = true by decide +kernel)) (sg_name (i := 9) nd rfl (.inl rfl) (.inr rfl)) sts_nil (se_call h_is_on hk_is_on rfl (sa_cons (se_var (i := 9) rfl (.inl rfl)) (sa_cons se_int sa_nil))) (by decide)) sa_nil))))
  (sss_cons (ss_set (i := 7) nd rfl (.inl rfl) (.inr rfl) (se_and (se_cmp ho_ne hf_ne (se_var (i := 5) rfl (.inl rfl)) (se_tup sa_nil)) (se_and (se_cmp ho_eq hf_eq (se_ix ho_ix hf_ix (se_ix ho_ix hf_ix (se_var (i := 5) rfl (.inl rfl)) (se_un ho_neg hf_neg se_int)) se_int) se_int) (se_one (se_not (se_ix ho_ix hf_ix (se_ix ho_ix hf_ix (se_var (i := 5) rfl (.inl rfl)) (se_un ho_neg hf_neg se_int)) se_int))))))
  (sss_cons (ss_set (i := 2) nd rfl (.inl rfl) (.inr rfl) (se_bin ho_add hf_add (se_bin ho_add hf_add (se_var (i := 2) rfl (.inl rfl)) (se_lst (sa_cons (se_tup (sa_cons (se_var (i := 3) rfl (.inl rfl)) (sa_cons (se_un ho_neg hf_neg se_int) (sa_cons se_bl sa_nil)))) sa_nil))) (se_bin ho_mul hf_mul (se_lst (sa_cons (se_tup (sa_cons (se_var (i := 3) rfl (.inl rfl)) (sa_cons (se_un ho_neg hf_neg se_int) (sa_cons se_bl sa_nil)))) sa_nil)) (se_callTy ho_int hf_int rfl z_int (by decide +kernel) (sa_cons (se_var (i := 7) rfl (.inl rfl)) sa_nil)))))
  (sss_one (ss_for (si_seq (se_if (st_val (se_var (i := 6) rfl (.inl rfl))) (se_call h_lengths_of hk_lengths_of rfl (sa_cons (se_var (i := 0) rfl (.inl rfl)) sa_nil)) (se_lst sa_nil))) (sg_name (i := 8) nd rfl (.inl rfl) (.inr rfl))
  (sss_one (ss_set (i := 2) nd rfl (.inl rfl) (.inr rfl) (se_bin ho_add hf_add (se_var (i := 2) rfl (.inl rfl)) (se_lst (sa_cons (se_tup (sa_cons (se_var (i := 3) rfl (.inl rfl)) (sa_cons (se_var (i := 8) rfl (.inl rfl)) (sa_cons se_bl sa_nil)))) (sa_cons (se_tup (sa_cons (se_var (i := 3) rfl (.inl rfl)) (sa_cons (se_var (i := 8) rfl (.inl rfl)) (sa_cons se_bl sa_nil)))) sa_nil)))))))))))))
  (sss_one (ss_ret (se_var (i := 2) rfl (.inl rfl))))))
/-! is_within -/
abbrev N_is_within : List Str := ["value", "low", "high"]
theorem sc_is_within : FnScope N_is_within ["value", "low", "high"] (defScope (top 9)) := ⟨rfl, rfl, rfl, by decide +kernel, rfl, by decide +kernel, by decide +kernel⟩
theorem d_is_within {P : Program} {w : World} {K : Fg} {mg : Str → Option Value} {base : PySem.Heap} {k : Nat} {W : WX} {B : Bs} (z_bool : mg "bool" = none) (z_int : mg "int" = none) (z_isinstance : mg "isinstance" = none) :
    SSs ⟨P, w, K, mg, base, N_is_within, defScope (top 9), k, W, B, fun _ => true⟩ (defBody (top 9)) m_is_within := by
  have nd : (N_is_within).Nodup := by decide
  exact (sss_one (ss_ret (se_and (se_isi (t := .tInt) (se_var (i := 0) rfl (.inl rfl)) rfl z_isinstance rfl z_int) (se_and (se_not (se_isi (t := .tBool) (se_var (i := 0) rfl (.inl rfl)) rfl z_isinstance rfl z_bool)) (se_one (se_chain ho_le ho_le hf_le hf_le (se_var (i := 1) rfl (.inl rfl)) (se_var (i := 0) rfl (.inl rfl)) (se_var (i := 2) rfl (.inl rfl))))))))
/-! is_like -/
abbrev N_is_like : List Str := ["value", "some", "word"]
theorem sc_is_like : FnScope N_is_like ["value", "some"] (defScope (top 33)) := ⟨rfl, rfl, rfl, by decide +kernel, rfl, by decide +kernel, by decide +kernel⟩
theorem d_is_like {P : Program} {w : World} {K : Fg} {mg : Str → Option Value} {base : PySem.Heap} {k : Nat} {W : WX} {B : Bs} (z_all : mg "all" = none) (z_bool : mg "bool" = none) (z_isinstance : mg "isinstance" = none) (z_len : mg "len" = none) (z_str : mg "str" = none) (z_tuple : mg "tuple" = none) {l_is_within : Nat} (h_is_within : Cal P w K mg base l_is_within "is_within" 3 f_is_within) (hk_is_within : l_is_within ≤ k) :
    SSs ⟨P, w, K, mg, base, N_is_like, defScope (top 33), k, W, B, fun _ => true⟩ (defBody (top 33)) m_is_like := by
  have nd : (N_is_like).Nodup := by decide
  exact (sss_cons (ss_if (st_w (sw_or (st_not (st_val (se_isi (t := .tTuple) (se_var (i := 0) rfl (.inl rfl)) rfl z_isinstance rfl z_tuple))) (sw_or (st_cmp ho_ne hf_ne (se_callB ho_len hf_len rfl z_len PySem.boot_len (sa_cons (se_var (i := 0) rfl (.inl rfl)) sa_nil)) se_int) (sw_or1 (st_not (st_val (se_isi (t := .tTuple) (se_ix ho_ix hf_ix (se_var (i := 0) rfl (.inl rfl)) se_int) rfl z_isinstance rfl z_tuple)))))))
  (sss_one (ss_ret se_bl))
  sss_nil)
  (sss_cons (ss_if (st_w (sw_or (st_not (st_val (se_callB ho_all hf_all rfl z_all (by decide +kernel) (sa_cons (se_lc (own := [("word", 2)]) nd (si_seq (se_ix ho_ix hf_ix (se_var (i := 0) rfl (.inl rfl)) se_int)) (blkOk_by (show blkC N_is_like (defScope (top 33)) _ _ = true by decide +kernel)) (sg_name (i := 2) nd rfl (.inl rfl) (.inr rfl)) sts_nil (se_isi (t := .tStr) (se_var (i := 2) rfl (.inl rfl)) rfl z_isinstance rfl z_str) (by decide)) sa_nil)))) (sw_or1 (st_not (st_val (se_call h_is_within hk_is_within rfl (sa_cons (se_ix ho_ix hf_ix (se_var (i := 0) rfl (.inl rfl)) se_int) (sa_cons (se_un ho_neg hf_neg se_int) (sa_cons se_int sa_nil)))))))))
  (sss_one (ss_ret se_bl))
  sss_nil)
  (sss_one (ss_ret (se_and (se_isi (t := .tBool) (se_ix ho_ix hf_ix (se_var (i := 0) rfl (.inl rfl)) se_int) rfl z_isinstance rfl z_bool) (se_one (se_cmp ho_in hf_in (se_var (i := 0) rfl (.inl rfl)) (se_var (i := 1) rfl (.inl rfl)))))))))
/-! is_wide -/
abbrev N_is_wide : List Str := ["value", "many"]
theorem sc_is_wide : FnScope N_is_wide ["value", "many"] (defScope (top 10)) := ⟨rfl, rfl, rfl, by decide +kernel, rfl, by decide +kernel, by decide +kernel⟩
theorem d_is_wide {P : Program} {w : World} {K : Fg} {mg : Str → Option Value} {base : PySem.Heap} {k : Nat} {W : WX} {B : Bs} (z_isinstance : mg "isinstance" = none) (z_len : mg "len" = none) (z_tuple : mg "tuple" = none) :
    SSs ⟨P, w, K, mg, base, N_is_wide, defScope (top 10), k, W, B, fun _ => true⟩ (defBody (top 10)) m_is_wide := by
  have nd : (N_is_wide).Nodup := by decide
  exact (sss_one (ss_ret (se_and (se_isi (t := .tTuple) (se_var (i := 0) rfl (.inl rfl)) rfl z_isinstance rfl z_tuple) (se_one (se_cmp ho_eq hf_eq (se_callB ho_len hf_len rfl z_len PySem.boot_len (sa_cons (se_var (i := 0) rfl (.inl rfl)) sa_nil)) (se_var (i := 1) rfl (.inl rfl)))))))
/-! is_program -/
abbrev N_is_program : List Str := ["value"]
theorem sc_is_program : FnScope N_is_program ["value"] (defScope (top 11)) := ⟨rfl, rfl, rfl, by decide +kernel, rfl, by decide +kernel, by decide +kernel⟩
theorem d_is_program {P : Program} {w : World} {K : Fg} {mg : Str → Option Value} {base : PySem.Heap} {k : Nat} {W : WX} {B : Bs} (k_WAYS : Con K mg "WAYS" c_WAYS) (z_bool : mg "bool" = none) (z_isinstance : mg "isinstance" = none) (z_str : mg "str" = none) {l_is_wide : Nat} (h_is_wide : Cal P w K mg base l_is_wide "is_wide" 2 f_is_wide) (hk_is_wide : l_is_wide ≤ k) {l_is_within : Nat} (h_is_within : Cal P w K mg base l_is_within "is_within" 3 f_is_within) (hk_is_within : l_is_within ≤ k) :
    SSs ⟨P, w, K, mg, base, N_is_program, defScope (top 11), k, W, B, fun _ => true⟩ (defBody (top 11)) m_is_program := by
  have nd : (N_is_program).Nodup := by decide
  exact (sss_cons (ss_if (st_w (sw_or (st_not (st_val (se_call h_is_wide hk_is_wide rfl (sa_cons (se_var (i := 0) rfl (.inl rfl)) (sa_cons se_int sa_nil))))) (sw_or (st_not (st_val (se_isi (t := .tStr) (se_ix ho_ix hf_ix (se_var (i := 0) rfl (.inl rfl)) se_int) rfl z_isinstance rfl z_str))) (sw_or1 (st_cmp ho_notIn hf_notIn (se_ix ho_ix hf_ix (se_var (i := 0) rfl (.inl rfl)) se_int) (se_con k_WAYS rfl))))))
  (sss_one (ss_ret se_bl))
  sss_nil)
  (sss_one (ss_ret (se_and (se_call h_is_within hk_is_within rfl (sa_cons (se_ix ho_ix hf_ix (se_var (i := 0) rfl (.inl rfl)) se_int) (sa_cons se_int (sa_cons se_int sa_nil)))) (se_one (se_isi (t := .tBool) (se_ix ho_ix hf_ix (se_var (i := 0) rfl (.inl rfl)) se_int) rfl z_isinstance rfl z_bool))))))
/-! is_traffic -/
abbrev N_is_traffic : List Str := ["value"]
theorem sc_is_traffic : FnScope N_is_traffic ["value"] (defScope (top 12)) := ⟨rfl, rfl, rfl, by decide +kernel, rfl, by decide +kernel, by decide +kernel⟩
theorem d_is_traffic {P : Program} {w : World} {K : Fg} {mg : Str → Option Value} {base : PySem.Heap} {k : Nat} {W : WX} {B : Bs} (z_bool : mg "bool" = none) (z_isinstance : mg "isinstance" = none) {l_is_wide : Nat} (h_is_wide : Cal P w K mg base l_is_wide "is_wide" 2 f_is_wide) (hk_is_wide : l_is_wide ≤ k) {l_is_within : Nat} (h_is_within : Cal P w K mg base l_is_within "is_within" 3 f_is_within) (hk_is_within : l_is_within ≤ k) :
    SSs ⟨P, w, K, mg, base, N_is_traffic, defScope (top 12), k, W, B, fun _ => true⟩ (defBody (top 12)) m_is_traffic := by
  have nd : (N_is_traffic).Nodup := by decide
  exact (sss_cons (ss_if (st_w (sw_or (st_not (st_val (se_call h_is_wide hk_is_wide rfl (sa_cons (se_var (i := 0) rfl (.inl rfl)) (sa_cons se_int sa_nil))))) (sw_or (st_not (st_val (se_call h_is_within hk_is_within rfl (sa_cons (se_ix ho_ix hf_ix (se_var (i := 0) rfl (.inl rfl)) se_int) (sa_cons se_int (sa_cons se_int sa_nil)))))) (sw_or1 (st_not (st_val (se_call h_is_within hk_is_within rfl (sa_cons (se_ix ho_ix hf_ix (se_var (i := 0) rfl (.inl rfl)) se_int) (sa_cons (se_ix ho_ix hf_ix (se_var (i := 0) rfl (.inl rfl)) se_int) (sa_cons se_int sa_nil))))))))))
  (sss_one (ss_ret se_bl))
  sss_nil)
  (sss_one (ss_ret (se_and (se_isi (t := .tBool) (se_ix ho_ix hf_ix (se_var (i := 0) rfl (.inl rfl)) se_int) rfl z_isinstance rfl z_bool) (se_one (se_isi (t := .tBool) (se_ix ho_ix hf_ix (se_var (i := 0) rfl (.inl rfl)) se_int) rfl z_isinstance rfl z_bool))))))
/-! is_plan -/
abbrev N_is_plan : List Str := ["value"]
theorem sc_is_plan : FnScope N_is_plan ["value"] (defScope (top 13)) := ⟨rfl, rfl, rfl, by decide +kernel, rfl, by decide +kernel, by decide +kernel⟩
theorem d_is_plan {P : Program} {w : World} {K : Fg} {mg : Str → Option Value} {base : PySem.Heap} {k : Nat} {W : WX} {B : Bs} {l_is_program : Nat} (h_is_program : Cal P w K mg base l_is_program "is_program" 1 f_is_program) (hk_is_program : l_is_program ≤ k) {l_is_traffic : Nat} (h_is_traffic : Cal P w K mg base l_is_traffic "is_traffic" 1 f_is_traffic) (hk_is_traffic : l_is_traffic ≤ k) {l_is_wide : Nat} (h_is_wide : Cal P w K mg base l_is_wide "is_wide" 2 f_is_wide) (hk_is_wide : l_is_wide ≤ k) {l_is_within : Nat} (h_is_within : Cal P w K mg base l_is_within "is_within" 3 f_is_within) (hk_is_within : l_is_within ≤ k) :
    SSs ⟨P, w, K, mg, base, N_is_plan, defScope (top 13), k, W, B, fun _ => true⟩ (defBody (top 13)) m_is_plan := by
  have nd : (N_is_plan).Nodup := by decide
  exact (sss_one (ss_ret (se_and (se_call h_is_wide hk_is_wide rfl (sa_cons (se_var (i := 0) rfl (.inl rfl)) (sa_cons se_int sa_nil))) (se_and (se_call h_is_within hk_is_within rfl (sa_cons (se_ix ho_ix hf_ix (se_var (i := 0) rfl (.inl rfl)) se_int) (sa_cons se_int (sa_cons se_int sa_nil)))) (se_and (se_call h_is_program hk_is_program rfl (sa_cons (se_ix ho_ix hf_ix (se_var (i := 0) rfl (.inl rfl)) se_int) sa_nil)) (se_one (se_call h_is_traffic hk_is_traffic rfl (sa_cons (se_ix ho_ix hf_ix (se_var (i := 0) rfl (.inl rfl)) se_int) sa_nil))))))))
/-! look_at_plan -/
abbrev N_look_at_plan : List Str := ["plan"]
theorem sc_look_at_plan : FnScope N_look_at_plan ["plan"] (defScope (top 14)) := ⟨rfl, rfl, rfl, by decide +kernel, rfl, by decide +kernel, by decide +kernel⟩
theorem d_look_at_plan {P : Program} {w : World} {K : Fg} {mg : Str → Option Value} {base : PySem.Heap} {k : Nat} {W : WX} {B : Bs} {l_is_plan : Nat} (h_is_plan : Cal P w K mg base l_is_plan "is_plan" 1 f_is_plan) (hk_is_plan : l_is_plan ≤ k) :
    SSs ⟨P, w, K, mg, base, N_look_at_plan, defScope (top 14), k, W, B, fun _ => true⟩ (defBody (top 14)) m_look_at_plan := by
  have nd : (N_look_at_plan).Nodup := by decide
  exact (sss_one (ss_if (st_not (st_val (se_call h_is_plan hk_is_plan rfl (sa_cons (se_var (i := 0) rfl (.inl rfl)) sa_nil))))
  (sss_one ss_stuck)
  sss_nil))
/-! is_one -/
abbrev N_is_one : List Str := ["plan", "value"]
theorem sc_is_one : FnScope N_is_one ["plan", "value"] (defScope (top 17)) := ⟨rfl, rfl, rfl, by decide +kernel, rfl, by decide +kernel, by decide +kernel⟩
theorem d_is_one {P : Program} {w : World} {K : Fg} {mg : Str → Option Value} {base : PySem.Heap} {k : Nat} {W : WX} {B : Bs} (z_bool : mg "bool" = none) (z_isinstance : mg "isinstance" = none) {l_is_wide : Nat} (h_is_wide : Cal P w K mg base l_is_wide "is_wide" 2 f_is_wide) (hk_is_wide : l_is_wide ≤ k) {l_is_within : Nat} (h_is_within : Cal P w K mg base l_is_within "is_within" 3 f_is_within) (hk_is_within : l_is_within ≤ k) {l_lengths_of : Nat} (h_lengths_of : Cal P w K mg base l_lengths_of "lengths_of" 1 f_lengths_of) (hk_lengths_of : l_lengths_of ≤ k) {l_tail_of : Nat} (h_tail_of : Cal P w K mg base l_tail_of "tail_of" 1 f_tail_of) (hk_tail_of : l_tail_of ≤ k) :
    SSs ⟨P, w, K, mg, base, N_is_one, defScope (top 17), k, W, B, fun _ => true⟩ (defBody (top 17)) m_is_one := by
  have nd : (N_is_one).Nodup := by decide
  exact (sss_cons (ss_if (st_w (sw_or (st_not (st_val (se_call h_is_wide hk_is_wide rfl (sa_cons (se_var (i := 1) rfl (.inl rfl)) (sa_cons se_int sa_nil))))) (sw_or (st_not (st_val (se_call h_is_within hk_is_within rfl (sa_cons (se_ix ho_ix hf_ix (se_var (i := 1) rfl (.inl rfl)) se_int) (sa_cons se_int (sa_cons se_int sa_nil)))))) (sw_or1 (st_not (st_val (se_call h_is_within hk_is_within rfl (sa_cons (se_ix ho_ix hf_ix (se_var (i := 1) rfl (.inl rfl)) se_int) (sa_cons se_int (sa_cons se_int sa_nil))))))))))
  (sss_one (ss_ret se_bl))
  sss_nil)
  (sss_one (ss_ret (se_and (se_cmp ho_in hf_in (se_ix ho_ix hf_ix (se_var (i := 1) rfl (.inl rfl)) se_int) (se_call h_lengths_of hk_lengths_of rfl (sa_cons (se_var (i := 0) rfl (.inl rfl)) sa_nil))) (se_and (se_isi (t := .tBool) (se_ix ho_ix hf_ix (se_var (i := 1) rfl (.inl rfl)) se_int) rfl z_isinstance rfl z_bool) (se_one (se_cmp ho_le hf_le (se_call h_tail_of hk_tail_of rfl (sa_cons (se_var (i := 1) rfl (.inl rfl)) sa_nil)) se_int)))))))
/-! is_queue -/
abbrev N_is_queue : List Str := ["plan", "value", "one", "other"]
theorem sc_is_queue : FnScope N_is_queue ["plan", "value"] (defScope (top 18)) := ⟨rfl, rfl, rfl, by decide +kernel, rfl, by decide +kernel, by decide +kernel⟩
theorem d_is_queue {P : Program} {w : World} {K : Fg} {mg : Str → Option Value} {base : PySem.Heap} {k : Nat} {W : WX} {B : Bs} (z_all : mg "all" = none) (z_isinstance : mg "isinstance" = none) (z_tuple : mg "tuple" = none) (z_zip : mg "zip" = none) {l_is_one : Nat} (h_is_one : Cal P w K mg base l_is_one "is_one" 2 f_is_one) (hk_is_one : l_is_one ≤ k) {l_tail_of : Nat} (h_tail_of : Cal P w K mg base l_tail_of "tail_of" 1 f_tail_of) (hk_tail_of : l_tail_of ≤ k) :
    SSs ⟨P, w, K, mg, base, N_is_queue, defScope (top 18), k, W, B, fun _ => true⟩ (defBody (top 18)) m_is_queue := by
  have nd : (N_is_queue).Nodup := by decide
  exact (sss_cons (ss_if (st_w (sw_or (st_not (st_val (se_isi (t := .tTuple) (se_var (i := 1) rfl (.inl rfl)) rfl z_isinstance rfl z_tuple))) (sw_or1 (st_not (st_val (se_callB ho_all hf_all rfl z_all (by decide +kernel) (sa_cons (se_lc (own := [("one", 2)]) nd (si_seq (se_var (i := 1) rfl (.inl rfl))) (blkOk_by (show blkC N_is_queue (defScope (top 18)) _ _ = true by decide +kernel)) (sg_name (i := 2) nd rfl (.inl rfl) (.inr rfl)) sts_nil (se_call h_is_one hk_is_one rfl (sa_cons (se_var (i := 0) rfl (.inr (.inl rfl))) (sa_cons (se_var (i := 2) rfl (.inl rfl)) sa_nil))) (by decide)) sa_nil)))))))
  (sss_one (ss_ret se_bl))
  sss_nil)
  (sss_one (ss_ret (se_callB ho_all hf_all rfl z_all (by decide +kernel) (sa_cons (se_lc (own := [("one", 2), ("other", 3)]) nd (si_zip (se_var (i := 1) rfl (.inl rfl)) (se_slice (se_var (i := 1) rfl (.inl rfl)) (so_some se_int) so_none) rfl z_zip) (blkOk_by (show blkC N_is_queue (defScope (top 18)) _ _ = true by decide +kernel)) (sg_tup (sgs_cons (sg_name (i := 2) nd rfl (.inl rfl) (.inr rfl)) (sgs_cons (sg_name (i := 3) nd rfl (.inl rfl) (.inr rfl)) sgs_nil))) sts_nil (se_cmp ho_gt hf_gt (se_call h_tail_of hk_tail_of rfl (sa_cons (se_var (i := 2) rfl (.inl rfl)) sa_nil)) (se_ix ho_ix hf_ix (se_var (i := 3) rfl (.inl rfl)) se_int)) (by decide)) sa_nil)))))
/-! fits -/
abbrev N_fits : List Str := ["plan", "value"]
theorem sc_fits : FnScope N_fits ["plan", "value"] (defScope (top 19)) := ⟨rfl, rfl, rfl, by decide +kernel, rfl, by decide +kernel, by decide +kernel⟩
theorem d_fits {P : Program} {w : World} {K : Fg} {mg : Str → Option Value} {base : PySem.Heap} {k : Nat} {W : WX} {B : Bs} (k_DOWN : Con K mg "DOWN" c_DOWN) (k_UP : Con K mg "UP" c_UP) (z_bool : mg "bool" = none) (z_isinstance : mg "isinstance" = none) (z_str : mg "str" = none) {l_is_queue : Nat} (h_is_queue : Cal P w K mg base l_is_queue "is_queue" 2 f_is_queue) (hk_is_queue : l_is_queue ≤ k) {l_is_wide : Nat} (h_is_wide : Cal P w K mg base l_is_wide "is_wide" 2 f_is_wide) (hk_is_wide : l_is_wide ≤ k) {l_is_within : Nat} (h_is_within : Cal P w K mg base l_is_within "is_within" 3 f_is_within) (hk_is_within : l_is_within ≤ k) :
    SSs ⟨P, w, K, mg, base, N_fits, defScope (top 19), k, W, B, fun _ => true⟩ (defBody (top 19)) m_fits := by
  have nd : (N_fits).Nodup := by decide
  exact (sss_cons (ss_if (st_w (sw_or (st_not (st_val (se_call h_is_wide hk_is_wide rfl (sa_cons (se_var (i := 1) rfl (.inl rfl)) (sa_cons se_int sa_nil))))) (sw_or (st_not (st_val (se_call h_is_queue hk_is_queue rfl (sa_cons (se_var (i := 0) rfl (.inl rfl)) (sa_cons (se_ix ho_ix hf_ix (se_var (i := 1) rfl (.inl rfl)) se_int) sa_nil))))) (sw_or1 (st_not (st_val (se_call h_is_within hk_is_within rfl (sa_cons (se_ix ho_ix hf_ix (se_var (i := 1) rfl (.inl rfl)) se_int) (sa_cons se_int (sa_cons (se_ix ho_ix hf_ix (se_var (i := 0) rfl (.inl rfl)) se_int) sa_nil))))))))))
  (sss_one (ss_ret se_bl))
  sss_nil)
  (sss_cons (ss_if (st_w (sw_or (st_not (st_val (se_isi (t := .tStr) (se_ix ho_ix hf_ix (se_var (i := 1) rfl (.inl rfl)) se_int) rfl z_isinstance rfl z_str))) (sw_or (st_cmp ho_notIn hf_notIn (se_ix ho_ix hf_ix (se_var (i := 1) rfl (.inl rfl)) se_int) (se_tup (sa_cons (se_con k_UP rfl) (sa_cons (se_con k_DOWN rfl) sa_nil)))) (sw_or1 (st_not (st_val (se_isi (t := .tBool) (se_ix ho_ix hf_ix (se_var (i := 1) rfl (.inl rfl)) se_int) rfl z_isinstance rfl z_bool)))))))
  (sss_one (ss_ret se_bl))
  sss_nil)
  (sss_cons (ss_if (st_not (st_val (se_call h_is_within hk_is_within rfl (sa_cons (se_ix ho_ix hf_ix (se_var (i := 1) rfl (.inl rfl)) se_int) (sa_cons se_int (sa_cons (se_if (st_cmp ho_eq hf_eq (se_ix ho_ix hf_ix (se_var (i := 1) rfl (.inl rfl)) se_int) (se_con k_UP rfl)) (se_ix ho_ix hf_ix (se_ix ho_ix hf_ix (se_var (i := 0) rfl (.inl rfl)) se_int) se_int) se_int) sa_nil))))))
  (sss_one (ss_ret se_bl))
  sss_nil)
  (sss_one (ss_ret (se_or (se_not (se_ix ho_ix hf_ix (se_var (i := 1) rfl (.inl rfl)) se_int)) (se_one (se_and (se_cmp ho_eq hf_eq (se_ix ho_ix hf_ix (se_var (i := 1) rfl (.inl rfl)) se_int) (se_con k_UP rfl)) (se_one (se_cmp ho_eq hf_eq (se_ix ho_ix hf_ix (se_ix ho_ix hf_ix (se_var (i := 0) rfl (.inl rfl)) se_int) se_int) se_str))))))))))
/-! look_at_stand -/
abbrev N_look_at_stand : List Str := ["plan", "stand"]
theorem sc_look_at_stand : FnScope N_look_at_stand ["plan", "stand"] (defScope (top 21)) := ⟨rfl, rfl, rfl, by decide +kernel, rfl, by decide +kernel, by decide +kernel⟩
theorem d_look_at_stand {P : Program} {w : World} {K : Fg} {mg : Str → Option Value} {base : PySem.Heap} {k : Nat} {W : WX} {B : Bs} {l_fits : Nat} (h_fits : Cal P w K mg base l_fits "fits" 2 f_fits) (hk_fits : l_fits ≤ k) :
    SSs ⟨P, w, K, mg, base, N_look_at_stand, defScope (top 21), k, W, B, fun _ => true⟩ (defBody (top 21)) m_look_at_stand := by
  have nd : (N_look_at_stand).Nodup := by decide
  exact (sss_one (ss_if (st_not (st_val (se_call h_fits hk_fits rfl (sa_cons (se_var (i := 0) rfl (.inl rfl)) (sa_cons (se_var (i := 1) rfl (.inl rfl)) sa_nil)))))
  (sss_one ss_stuck)
  sss_nil))
/-! look_at_choice -/
abbrev N_look_at_choice : List Str := ["plan", "stand", "choice"]
theorem sc_look_at_choice : FnScope N_look_at_choice ["plan", "stand", "choice"] (defScope (top 34)) := ⟨rfl, rfl, rfl, by decide +kernel, rfl, by decide +kernel, by decide +kernel⟩
theorem d_look_at_choice {P : Program} {w : World} {K : Fg} {mg : Str → Option Value} {base : PySem.Heap} {k : Nat} {W : WX} {B : Bs} {l_choices_of : Nat} (h_choices_of : Cal P w K mg base l_choices_of "choices_of" 2 f_choices_of) (hk_choices_of : l_choices_of ≤ k) {l_is_like : Nat} (h_is_like : Cal P w K mg base l_is_like "is_like" 2 f_is_like) (hk_is_like : l_is_like ≤ k) {l_look_at_plan : Nat} (h_look_at_plan : Cal P w K mg base l_look_at_plan "look_at_plan" 1 f_look_at_plan) (hk_look_at_plan : l_look_at_plan ≤ k) {l_look_at_stand : Nat} (h_look_at_stand : Cal P w K mg base l_look_at_stand "look_at_stand" 2 f_look_at_stand) (hk_look_at_stand : l_look_at_stand ≤ k) :
    SSs ⟨P, w, K, mg, base, N_look_at_choice, defScope (top 34), k, W, B, fun _ => true⟩ (defBody (top 34)) m_look_at_choice := by
  have nd : (N_look_at_choice).Nodup := by decide
  exact (sss_cons (ss_expr (se_call h_look_at_plan hk_look_at_plan rfl (sa_cons (se_var (i := 0) rfl (.inl rfl)) sa_nil)))
  (sss_cons (ss_expr (se_call h_look_at_stand hk_look_at_stand rfl (sa_cons (se_var (i := 0) rfl (.inl rfl)) (sa_cons (se_var (i := 1) rfl (.inl rfl)) sa_nil))))
  (sss_one (ss_if (st_not (st_val (se_call h_is_like hk_is_like rfl (sa_cons (se_var (i := 2) rfl (.inl rfl)) (sa_cons (se_call h_choices_of hk_choices_of rfl (sa_cons (se_var (i := 0) rfl (.inl rfl)) (sa_cons (se_var (i := 1) rfl (.inl rfl)) sa_nil))) sa_nil)))))
  (sss_one ss_stuck)
  sss_nil))))
/-! is_felt -/
abbrev N_is_felt : List Str := ["queue", "place", "one"]
theorem sc_is_felt : FnScope N_is_felt ["queue", "place"] (defScope (top 25)) := ⟨rfl, rfl, rfl, by decide +kernel, rfl, by decide +kernel, by decide +kernel⟩
theorem d_is_felt {P : Program} {w : World} {K : Fg} {mg : Str → Option Value} {base : PySem.Heap} {k : Nat} {W : WX} {B : Bs} (z_any : mg "any" = none) {l_is_on : Nat} (h_is_on : Cal P w K mg base l_is_on "is_on" 2 f_is_on) (hk_is_on : l_is_on ≤ k) :
    SSs ⟨P, w, K, mg, base, N_is_felt, defScope (top 25), k, W, B, fun _ => true⟩ (defBody (top 25)) m_is_felt := by
  have nd : (N_is_felt).Nodup := by decide
  exact (sss_one (ss_ret (se_callB ho_any hf_any rfl z_any (by decide +kernel) (sa_cons (se_lc (own := [("one", 2)]) nd (si_seq (se_var (i := 0) rfl (.inl rfl))) (blkOk_by (show blkC N_is_felt (defScope (top 25)) _ _ = true by decide +kernel)) (sg_name (i := 2) nd rfl (.inl rfl) (.inr rfl)) sts_nil (se_and (se_cmp ho_gt hf_gt (se_ix ho_ix hf_ix (se_var (i := 2) rfl (.inl rfl)) se_int) se_int) (se_one (se_call h_is_on hk_is_on rfl (sa_cons (se_var (i := 2) rfl (.inl rfl)) (sa_cons (se_var (i := 1) rfl (.inr (.inl rfl))) sa_nil))))) (by decide)) sa_nil))))
/-! led_on -/
abbrev N_led_on : List Str := ["stand", "moves", "one", "word"]
theorem sc_led_on : FnScope N_led_on ["stand", "moves"] (defScope (top 28)) := ⟨rfl, rfl, rfl, by decide +kernel, rfl, by decide +kernel, by decide +kernel⟩
theorem d_led_on {P : Program} {w : World} {K : Fg} {mg : Str → Option Value} {base : PySem.Heap} {k : Nat} {W : WX} {B : Bs} (z_zip : mg "zip" = none) {l_moved : Nat} (h_moved : Cal P w K mg base l_moved "moved" 2 f_moved) (hk_moved : l_moved ≤ k) :
    SSs ⟨P, w, K, mg, base, N_led_on, defScope (top 28), k, W, B, fun _ => true⟩ (defBody (top 28)) m_led_on := by
  have nd : (N_led_on).Nodup := by decide
  exact (sss_one (ss_ret (se_lc (own := [("one", 2), ("word", 3)]) nd (si_zip (se_ix ho_ix hf_ix (se_var (i := 0) rfl (.inl rfl)) se_int) (se_var (i := 1) rfl (.inl rfl)) rfl z_zip) (blkOk_by (show blkC N_led_on (defScope (top 28)) _ _ = true by decide +kernel)) (sg_tup (sgs_cons (sg_name (i := 2) nd rfl (.inl rfl) (.inr rfl)) (sgs_cons (sg_name (i := 3) nd rfl (.inl rfl) (.inr rfl)) sgs_nil))) sts_nil (se_call h_moved hk_moved rfl (sa_cons (se_var (i := 2) rfl (.inl rfl)) (sa_cons (se_var (i := 3) rfl (.inl rfl)) sa_nil))) (by decide))))
/-! programmed -/
abbrev N_programmed : List Str := ["plan", "stand", "queue", "ticket", "way", "wait", "guard", "height", "order", "timer", "seen"]
theorem sc_programmed : FnScope N_programmed ["plan", "stand", "queue", "ticket"] (defScope (top 30)) := ⟨rfl, rfl, rfl, by decide +kernel, rfl, by decide +kernel, by decide +kernel⟩
theorem d_programmed {P : Program} {w : World} {K : Fg} {mg : Str → Option Value} {base : PySem.Heap} {k : Nat} {W : WX} {B : Bs} (k_DOWN : Con K mg "DOWN" c_DOWN) (k_UP : Con K mg "UP" c_UP) {l_is_felt : Nat} (h_is_felt : Cal P w K mg base l_is_felt "is_felt" 2 f_is_felt) (hk_is_felt : l_is_felt ≤ k) :
    SSs ⟨P, w, K, mg, base, N_programmed, defScope (top 30), k, W, B, fun _ => true⟩ (defBody (top 30)) m_programmed := by
  have nd : (N_programmed).Nodup := by decide
  exact (sss_cons (ss_asg (sg_tup (sgs_cons (sg_name (i := 4) nd rfl (.inl rfl) (.inr rfl)) (sgs_cons (sg_name (i := 5) nd rfl (.inl rfl) (.inr rfl)) (sgs_cons (sg_name (i := 6) nd rfl (.inl rfl) (.inr rfl)) sgs_nil)))) (se_ix ho_ix hf_ix (se_var (i := 0) rfl (.inl rfl)) se_int))
  (sss_cons (ss_asg (sg_tup (sgs_cons (sg_name (i := 7) nd rfl (.inl rfl) (.inr rfl)) (sgs_cons (sg_name (i := 8) nd rfl (.inl rfl) (.inr rfl)) (sgs_cons (sg_name (i := 9) nd rfl (.inl rfl) (.inr rfl)) (sgs_cons (sg_name (i := 10) nd rfl (.inl rfl) (.inr rfl)) sgs_nil))))) (se_slice (se_var (i := 1) rfl (.inl rfl)) (so_some se_int) so_none))
  (sss_cons (ss_if (st_val (se_var (i := 3) rfl (.inl rfl)))
  (sss_one (ss_par3 (i := 8) (j := 9) (l := 10) nd rfl rfl rfl (by decide) (by decide) (by decide) rfl rfl rfl (sa_cons (se_con k_UP rfl) (sa_cons (se_var (i := 5) rfl (.inl rfl)) (sa_cons se_bl sa_nil))) (swap_env rfl)))
  (sss_one (ss_if (st_w (sw_and (st_cmp ho_eq hf_eq (se_var (i := 8) rfl (.inl rfl)) (se_con k_UP rfl)) (sw_and1 (st_cmp ho_eq hf_eq (se_var (i := 7) rfl (.inl rfl)) (se_ix ho_ix hf_ix (se_var (i := 0) rfl (.inl rfl)) se_int)))))
  (sss_cons (ss_set (i := 10) nd rfl (.inl rfl) (.inr rfl) (se_or (se_var (i := 10) rfl (.inl rfl)) (se_one (se_and (se_cmp ho_eq hf_eq (se_var (i := 4) rfl (.inl rfl)) se_str) (se_one (se_call h_is_felt hk_is_felt rfl (sa_cons (se_var (i := 2) rfl (.inl rfl)) (sa_cons se_int sa_nil))))))))
  (sss_one (ss_if (st_w (sw_or (st_cmp ho_eq hf_eq (se_var (i := 4) rfl (.inl rfl)) se_str) (sw_or1 (st_w (sw_and (st_val (se_var (i := 10) rfl (.inl rfl))) (sw_and1 (st_not (st_val (se_call h_is_felt hk_is_felt rfl (sa_cons (se_var (i := 2) rfl (.inl rfl)) (sa_cons se_int sa_nil)))))))))))
  (sss_one (ss_asg (sg_tup (sgs_cons (sg_name (i := 8) nd rfl (.inl rfl) (.inr rfl)) (sgs_cons (sg_name (i := 9) nd rfl (.inl rfl) (.inr rfl)) sgs_nil))) (se_if (st_cmp ho_gt hf_gt (se_var (i := 9) rfl (.inl rfl)) se_int) (se_tup (sa_cons (se_con k_UP rfl) (sa_cons (se_bin ho_sub hf_sub (se_var (i := 9) rfl (.inl rfl)) se_int) sa_nil))) (se_tup (sa_cons (se_con k_DOWN rfl) (sa_cons se_int sa_nil))))))
  sss_nil)))
  sss_nil)))
  (sss_cons (ss_if (st_cmp ho_eq hf_eq (se_var (i := 8) rfl (.inl rfl)) (se_con k_DOWN rfl))
  (sss_cons (ss_set (i := 10) nd rfl (.inl rfl) (.inr rfl) se_bl)
  (sss_one (ss_if (st_w (sw_and (st_cmp ho_gt hf_gt (se_var (i := 7) rfl (.inl rfl)) se_int) (sw_and (st_val (se_var (i := 6) rfl (.inl rfl))) (sw_and1 (st_val (se_call h_is_felt hk_is_felt rfl (sa_cons (se_var (i := 2) rfl (.inl rfl)) (sa_cons se_int sa_nil))))))))
  (sss_one (ss_par (i := 8) (j := 9) nd rfl rfl (by decide) rfl rfl (sa_cons (se_con k_UP rfl) (sa_cons (se_var (i := 5) rfl (.inl rfl)) sa_nil)) (swap_env rfl)))
  sss_nil)))
  sss_nil)
  (sss_one (ss_ret (se_tup (sa_cons (se_var (i := 8) rfl (.inl rfl)) (sa_cons (se_var (i := 9) rfl (.inl rfl)) (sa_cons (se_var (i := 10) rfl (.inl rfl)) sa_nil))))))))))
/-! passed -/
abbrev N_passed : List Str := ["plan", "stand", "choice", "moves", "comes", "ticket", "row", "queue", "gone", "words", "order", "timer", "seen", "height", "one"]
theorem sc_passed : FnScope N_passed ["plan", "stand", "choice"] (defScope (top 31)) := ⟨rfl, rfl, rfl, by decide +kernel, rfl, by decide +kernel, by decide +kernel⟩
theorem d_passed {P : Program} {w : World} {K : Fg} {mg : Str → Option Value} {base : PySem.Heap} {k : Nat} {W : WX} {B : Bs} (k_UP : Con K mg "UP" c_UP) (z_any : mg "any" = none) (z_int : mg "int" = none) (z_len : mg "len" = none) (z_max : mg "max" = none) (z_min : mg "min" = none) {l_in_lane : Nat} (h_in_lane : Cal P w K mg base l_in_lane "in_lane" 1 f_in_lane) (hk_in_lane : l_in_lane ≤ k) {l_is_felt : Nat} (h_is_felt : Cal P w K mg base l_is_felt "is_felt" 2 f_is_felt) (hk_is_felt : l_is_felt ≤ k) {l_is_on : Nat} (h_is_on : Cal P w K mg base l_is_on "is_on" 2 f_is_on) (hk_is_on : l_is_on ≤ k) {l_led_on : Nat} (h_led_on : Cal P w K mg base l_led_on "led_on" 2 f_led_on) (hk_led_on : l_led_on ≤ k) {l_programmed : Nat} (h_programmed : Cal P w K mg base l_programmed "programmed" 4 f_programmed) (hk_programmed : l_programmed ≤ k) {l_tail_of : Nat} (h_tail_of : Cal P w K mg base l_tail_of "tail_of" 1 f_tail_of) (hk_tail_of : l_tail_of ≤ k) :
    SSs ⟨P, w, K, mg, base, N_passed, defScope (top 31), k, W, B, fun _ => true⟩ (defBody (top 31)) m_passed := by
  have nd : (N_passed).Nodup := by decide
  exact (sss_cons (ss_asg (sg_tup (sgs_cons (sg_name (i := 3) nd rfl (.inl rfl) (.inr rfl)) (sgs_cons (sg_name (i := 4) nd rfl (.inl rfl) (.inr rfl)) (sgs_cons (sg_name (i := 5) nd rfl (.inl rfl) (.inr rfl)) sgs_nil)))) (se_var (i := 2) rfl (.inl rfl)))
  (sss_cons (ss_set (i := 6) nd rfl (.inl rfl) (.inr rfl) (se_call h_led_on hk_led_on rfl (sa_cons (se_var (i := 1) rfl (.inl rfl)) (sa_cons (se_var (i := 3) rfl (.inl rfl)) sa_nil))))
  (sss_cons (ss_par (i := 7) (j := 8) nd rfl rfl (by decide) rfl rfl (sa_cons (se_call h_in_lane hk_in_lane rfl (sa_cons (se_var (i := 6) rfl (.inl rfl)) sa_nil)) (sa_cons (se_lc (own := [("one", 14)]) nd (si_seq (se_var (i := 6) rfl (.inl rfl))) (blkOk_by (show blkC N_passed (defScope (top 31)) _ _ = true by decide +kernel)) (sg_name (i := 14) nd rfl (.inl rfl) (.inr rfl)) (sts_one (st_cmp ho_gt hf_gt (se_call h_tail_of hk_tail_of rfl (sa_cons (se_var (i := 14) rfl (.inl rfl)) sa_nil)) se_int)) (se_var (i := 14) rfl (.inl rfl)) (by decide)) sa_nil)) (swap_env rfl))
  (sss_cons (ss_set (i := 9) nd rfl (.inl rfl) (.inr rfl) (se_bin ho_mul hf_mul (se_lst (sa_cons se_str sa_nil)) (se_callTy ho_int hf_int rfl z_int (by decide +kernel) (sa_cons (se_and (se_call h_is_felt hk_is_felt rfl (sa_cons (se_ix ho_ix hf_ix (se_var (i := 1) rfl (.inl rfl)) se_int) (sa_cons se_int sa_nil))) (se_one (se_not (se_call h_is_felt hk_is_felt rfl (sa_cons (se_var (i := 7) rfl (.inl rfl)) (sa_cons se_int sa_nil)))))) sa_nil))))
  (sss_cons (ss_if (st_cmp ho_ge hf_ge (se_var (i := 4) rfl (.inl rfl)) se_int)
  (sss_one (ss_set (i := 7) nd rfl (.inl rfl) (.inr rfl) (se_bin ho_add hf_add (se_var (i := 7) rfl (.inl rfl)) (se_tup (sa_cons (se_tup (sa_cons se_int (sa_cons (se_var (i := 4) rfl (.inl rfl)) (sa_cons se_bl sa_nil)))) sa_nil)))))
  sss_nil)
  (sss_cons (ss_if (st_val (se_var (i := 5) rfl (.inl rfl)))
  (sss_one (ss_set (i := 7) nd rfl (.inl rfl) (.inr rfl) (se_bin ho_add hf_add (se_slice (se_var (i := 7) rfl (.inl rfl)) so_none (so_some (se_un ho_neg hf_neg se_int))) (se_tup (sa_cons (se_bin ho_add hf_add (se_slice (se_ix ho_ix hf_ix (se_var (i := 7) rfl (.inl rfl)) (se_un ho_neg hf_neg se_int)) so_none (so_some se_int)) (se_tup (sa_cons se_bl sa_nil))) sa_nil)))))
  sss_nil)
  (sss_cons (ss_asg (sg_tup (sgs_cons (sg_name (i := 10) nd rfl (.inl rfl) (.inr rfl)) (sgs_cons (sg_name (i := 11) nd rfl (.inl rfl) (.inr rfl)) (sgs_cons (sg_name (i := 12) nd rfl (.inl rfl) (.inr rfl)) sgs_nil)))) (se_call h_programmed hk_programmed rfl (sa_cons (se_var (i := 0) rfl (.inl rfl)) (sa_cons (se_var (i := 1) rfl (.inl rfl)) (sa_cons (se_var (i := 7) rfl (.inl rfl)) (sa_cons (se_var (i := 5) rfl (.inl rfl)) sa_nil))))))
  (sss_cons (ss_set (i := 13) nd rfl (.inl rfl) (.inr rfl) (se_if (st_cmp ho_eq hf_eq (se_var (i := 10) rfl (.inl rfl)) (se_con k_UP rfl)) (se_callB ho_min hf_min rfl z_min (by decide +kernel) (sa_cons (se_ix ho_ix hf_ix (se_var (i := 0) rfl (.inl rfl)) se_int) (sa_cons (se_bin ho_add hf_add (se_ix ho_ix hf_ix (se_var (i := 1) rfl (.inl rfl)) se_int) se_int) sa_nil))) (se_callB ho_max hf_max rfl z_max (by decide +kernel) (sa_cons se_int (sa_cons (se_bin ho_sub hf_sub (se_ix ho_ix hf_ix (se_var (i := 1) rfl (.inl rfl)) se_int) se_int) sa_nil)))))
  (sss_cons (ss_set (i := 9) nd rfl (.inl rfl) (.inr rfl) (se_bin ho_add hf_add (se_var (i := 9) rfl (.inl rfl)) (se_bin ho_mul hf_mul (se_lst (sa_cons se_str sa_nil)) (se_callTy ho_int hf_int rfl z_int (by decide +kernel) (sa_cons (se_and (se_cmp ho_eq hf_eq (se_var (i := 13) rfl (.inl rfl)) se_int) (se_and (se_cmp ho_gt hf_gt (se_ix ho_ix hf_ix (se_var (i := 1) rfl (.inl rfl)) se_int) se_int) (se_one (se_callB ho_any hf_any rfl z_any (by decide +kernel) (sa_cons (se_lc (own := [("one", 14)]) nd (si_seq (se_var (i := 7) rfl (.inl rfl))) (blkOk_by (show blkC N_passed (defScope (top 31)) _ _ = true by decide +kernel)) (sg_name (i := 14) nd rfl (.inl rfl) (.inr rfl)) sts_nil (se_call h_is_on hk_is_on rfl (sa_cons (se_var (i := 14) rfl (.inl rfl)) (sa_cons se_int sa_nil))) (by decide)) sa_nil))))) sa_nil)))))
  (sss_cons (ss_set (i := 9) nd rfl (.inl rfl) (.inr rfl) (se_bin ho_add hf_add (se_bin ho_add hf_add (se_var (i := 9) rfl (.inl rfl)) (se_bin ho_mul hf_mul (se_lst (sa_cons se_str sa_nil)) (se_callB ho_len hf_len rfl z_len PySem.boot_len (sa_cons (se_var (i := 8) rfl (.inl rfl)) sa_nil)))) (se_bin ho_mul hf_mul (se_lst (sa_cons se_str sa_nil)) (se_callB ho_len hf_len rfl z_len PySem.boot_len (sa_cons (se_lc (own := [("one", 14)]) nd (si_seq (se_var (i := 8) rfl (.inl rfl))) (blkOk_by (show blkC N_passed (defScope (top 31)) _ _ = true by decide +kernel)) (sg_name (i := 14) nd rfl (.inl rfl) (.inr rfl)) (sts_one (st_not (st_val (se_ix ho_ix hf_ix (se_var (i := 14) rfl (.inl rfl)) se_int)))) (se_var (i := 14) rfl (.inl rfl)) (by decide)) sa_nil)))))
  (sss_one (ss_ret (se_tup (sa_cons (se_tup (sa_cons (se_var (i := 7) rfl (.inl rfl)) (sa_cons (se_var (i := 13) rfl (.inl rfl)) (sa_cons (se_var (i := 10) rfl (.inl rfl)) (sa_cons (se_var (i := 11) rfl (.inl rfl)) (sa_cons (se_var (i := 12) rfl (.inl rfl)) sa_nil)))))) (sa_cons (se_var (i := 9) rfl (.inl rfl)) sa_nil)))))))))))))))
/-! after -/
abbrev N_after : List Str := ["plan", "stand", "choice"]
theorem sc_after : FnScope N_after ["plan", "stand", "choice"] (defScope (top 36)) := ⟨rfl, rfl, rfl, by decide +kernel, rfl, by decide +kernel, by decide +kernel⟩
theorem d_after {P : Program} {w : World} {K : Fg} {mg : Str → Option Value} {base : PySem.Heap} {k : Nat} {W : WX} {B : Bs} {l_look_at_choice : Nat} (h_look_at_choice : Cal P w K mg base l_look_at_choice "look_at_choice" 3 f_look_at_choice) (hk_look_at_choice : l_look_at_choice ≤ k) {l_passed : Nat} (h_passed : Cal P w K mg base l_passed "passed" 3 f_passed) (hk_passed : l_passed ≤ k) :
    SSs ⟨P, w, K, mg, base, N_after, defScope (top 36), k, W, B, fun _ => true⟩ (defBody (top 36)) m_after := by
  have nd : (N_after).Nodup := by decide
  exact (sss_cons (ss_expr (se_call h_look_at_choice hk_look_at_choice rfl (sa_cons (se_var (i := 0) rfl (.inl rfl)) (sa_cons (se_var (i := 1) rfl (.inl rfl)) (sa_cons (se_var (i := 2) rfl (.inl rfl)) sa_nil)))))
  (sss_one (ss_ret (se_ix ho_ix hf_ix (se_call h_passed hk_passed rfl (sa_cons (se_var (i := 0) rfl (.inl rfl)) (sa_cons (se_var (i := 1) rfl (.inl rfl)) (sa_cons (se_var (i := 2) rfl (.inl rfl)) sa_nil)))) se_int))))
/-! choices_at -/
abbrev N_choices_at : List Str := ["plan", "stand"]
theorem sc_choices_at : FnScope N_choices_at ["plan", "stand"] (defScope (top 35)) := ⟨rfl, rfl, rfl, by decide +kernel, rfl, by decide +kernel, by decide +kernel⟩
theorem d_choices_at {P : Program} {w : World} {K : Fg} {mg : Str → Option Value} {base : PySem.Heap} {k : Nat} {W : WX} {B : Bs} {l_choices_of : Nat} (h_choices_of : Cal P w K mg base l_choices_of "choices_of" 2 f_choices_of) (hk_choices_of : l_choices_of ≤ k) {l_look_at_plan : Nat} (h_look_at_plan : Cal P w K mg base l_look_at_plan "look_at_plan" 1 f_look_at_plan) (hk_look_at_plan : l_look_at_plan ≤ k) {l_look_at_stand : Nat} (h_look_at_stand : Cal P w K mg base l_look_at_stand "look_at_stand" 2 f_look_at_stand) (hk_look_at_stand : l_look_at_stand ≤ k) :
    SSs ⟨P, w, K, mg, base, N_choices_at, defScope (top 35), k, W, B, fun _ => true⟩ (defBody (top 35)) m_choices_at := by
  have nd : (N_choices_at).Nodup := by decide
  exact (sss_cons (ss_expr (se_call h_look_at_plan hk_look_at_plan rfl (sa_cons (se_var (i := 0) rfl (.inl rfl)) sa_nil)))
  (sss_cons (ss_expr (se_call h_look_at_stand hk_look_at_stand rfl (sa_cons (se_var (i := 0) rfl (.inl rfl)) (sa_cons (se_var (i := 1) rfl (.inl rfl)) sa_nil))))
  (sss_one (ss_ret (se_call h_choices_of hk_choices_of rfl (sa_cons (se_var (i := 0) rfl (.inl rfl)) (sa_cons (se_var (i := 1) rfl (.inl rfl)) sa_nil)))))))
/-! is_stand -/
abbrev N_is_stand : List Str := ["plan", "value"]
theorem sc_is_stand : FnScope N_is_stand ["plan", "value"] (defScope (top 20)) := ⟨rfl, rfl, rfl, by decide +kernel, rfl, by decide +kernel, by decide +kernel⟩
theorem d_is_stand {P : Program} {w : World} {K : Fg} {mg : Str → Option Value} {base : PySem.Heap} {k : Nat} {W : WX} {B : Bs} {l_fits : Nat} (h_fits : Cal P w K mg base l_fits "fits" 2 f_fits) (hk_fits : l_fits ≤ k) {l_look_at_plan : Nat} (h_look_at_plan : Cal P w K mg base l_look_at_plan "look_at_plan" 1 f_look_at_plan) (hk_look_at_plan : l_look_at_plan ≤ k) :
    SSs ⟨P, w, K, mg, base, N_is_stand, defScope (top 20), k, W, B, fun _ => true⟩ (defBody (top 20)) m_is_stand := by
  have nd : (N_is_stand).Nodup := by decide
  exact (sss_cons (ss_expr (se_call h_look_at_plan hk_look_at_plan rfl (sa_cons (se_var (i := 0) rfl (.inl rfl)) sa_nil)))
  (sss_one (ss_ret (se_call h_fits hk_fits rfl (sa_cons (se_var (i := 0) rfl (.inl rfl)) (sa_cons (se_var (i := 1) rfl (.inl rfl)) sa_nil))))))
/-! told -/
abbrev N_told : List Str := ["plan", "stand", "choice"]
theorem sc_told : FnScope N_told ["plan", "stand", "choice"] (defScope (top 37)) := ⟨rfl, rfl, rfl, by decide +kernel, rfl, by decide +kernel, by decide +kernel⟩
theorem d_told {P : Program} {w : World} {K : Fg} {mg : Str → Option Value} {base : PySem.Heap} {k : Nat} {W : WX} {B : Bs} {l_look_at_choice : Nat} (h_look_at_choice : Cal P w K mg base l_look_at_choice "look_at_choice" 3 f_look_at_choice) (hk_look_at_choice : l_look_at_choice ≤ k) {l_passed : Nat} (h_passed : Cal P w K mg base l_passed "passed" 3 f_passed) (hk_passed : l_passed ≤ k) :
    SSs ⟨P, w, K, mg, base, N_told, defScope (top 37), k, W, B, fun _ => true⟩ (defBody (top 37)) m_told := by
  have nd : (N_told).Nodup := by decide
  exact (sss_cons (ss_expr (se_call h_look_at_choice hk_look_at_choice rfl (sa_cons (se_var (i := 0) rfl (.inl rfl)) (sa_cons (se_var (i := 1) rfl (.inl rfl)) (sa_cons (se_var (i := 2) rfl (.inl rfl)) sa_nil)))))
  (sss_one (ss_ret (se_ix ho_ix hf_ix (se_call h_passed hk_passed rfl (sa_cons (se_var (i := 0) rfl (.inl rfl)) (sa_cons (se_var (i := 1) rfl (.inl rfl)) (sa_cons (se_var (i := 2) rfl (.inl rfl)) sa_nil)))) se_int))))
/-! law -/
abbrev N_law : List Str := ["script", "at", "spring", "plan", "turn", "stand", "rows", "choice", "seen_so"]
theorem sc_law : FnScope N_law ["script"] (defScope (top 55)) := ⟨rfl, rfl, rfl, by decide +kernel, rfl, by decide +kernel, by decide +kernel⟩
theorem d_law {P : Program} {w : World} {K : Fg} {mg : Str → Option Value} {base : PySem.Heap} {k : Nat} {W : WX} {B : Bs} (z_len : mg "len" = none) (z_min : mg "min" = none) (z_range : mg "range" = none) {l__law_any_stand : Nat} (h__law_any_stand : Cal P w K mg base l__law_any_stand "_law_any_stand" 2 f__law_any_stand) (hk__law_any_stand : l__law_any_stand ≤ k) {l__law_choices : Nat} (h__law_choices : Cal P w K mg base l__law_choices "_law_choices" 2 f__law_choices) (hk__law_choices : l__law_choices ≤ k) {l__law_plan : Nat} (h__law_plan : Cal P w K mg base l__law_plan "_law_plan" 1 f__law_plan) (hk__law_plan : l__law_plan ≤ k) {l__law_spring : Nat} (h__law_spring : Cal P w K mg base l__law_spring "_law_spring" 2 f__law_spring) (hk__law_spring : l__law_spring ≤ k) {l__law_tick : Nat} (h__law_tick : Cal P w K mg base l__law_tick "_law_tick" 3 f__law_tick) (hk__law_tick : l__law_tick ≤ k) {l__law_twins : Nat} (h__law_twins : Cal P w K mg base l__law_twins "_law_twins" 2 (f__law_twins fu__law_twins)) (hk__law_twins : l__law_twins ≤ k) {l_after : Nat} (h_after : Cal P w K mg base l_after "after" 3 f_after) (hk_after : l_after ≤ k) {l_choices_at : Nat} (h_choices_at : Cal P w K mg base l_choices_at "choices_at" 2 f_choices_at) (hk_choices_at : l_choices_at ≤ k) {l_is_stand : Nat} (h_is_stand : Cal P w K mg base l_is_stand "is_stand" 2 f_is_stand) (hk_is_stand : l_is_stand ≤ k) {l_told : Nat} (h_told : Cal P w K mg base l_told "told" 3 f_told) (hk_told : l_told ≤ k) :
    SSs ⟨P, w, K, mg, base, N_law, defScope (top 55), k, W, B, fun _ => true⟩ (defBody (top 55)) m_law := by
  have nd : (N_law).Nodup := by decide
  exact (sss_cons (ss_for (si_rng1 (se_bin ho_add hf_add (se_callB ho_min hf_min rfl z_min (by decide +kernel) (sa_cons (se_callB ho_len hf_len rfl z_len PySem.boot_len (sa_cons (se_var (i := 0) rfl (.inl rfl)) sa_nil)) (sa_cons se_int sa_nil))) se_int) rfl z_range) (sg_name (i := 1) nd rfl (.inl rfl) (.inr rfl))
  (sss_cons (ss_set (i := 2) nd rfl (.inl rfl) (.inr rfl) (se_call h__law_spring hk__law_spring rfl (sa_cons (se_var (i := 0) rfl (.inl rfl)) (sa_cons (se_var (i := 1) rfl (.inl rfl)) sa_nil))))
  (sss_cons (ss_set (i := 3) nd rfl (.inl rfl) (.inr rfl) (se_call h__law_plan hk__law_plan rfl (sa_cons (se_var (i := 2) rfl (.inl rfl)) sa_nil)))
  (sss_one (ss_for (si_rng1 se_int rfl z_range) (sg_name (i := 4) nd rfl (.inl rfl) (.inr rfl))
  (sss_cons (ss_set (i := 5) nd rfl (.inl rfl) (.inr rfl) (se_call h__law_any_stand hk__law_any_stand rfl (sa_cons (se_var (i := 2) rfl (.inl rfl)) (sa_cons (se_var (i := 3) rfl (.inl rfl)) sa_nil))))
  (sss_cons (ss_set (i := 6) nd rfl (.inl rfl) (.inr rfl) (se_call h__law_choices hk__law_choices rfl (sa_cons (se_var (i := 3) rfl (.inl rfl)) (sa_cons (se_var (i := 5) rfl (.inl rfl)) sa_nil))))
  (sss_cons (ss_if (st_not (st_val (se_call h__law_twins hk__law_twins rfl (sa_cons (se_lst (sa_cons (se_call h_is_stand hk_is_stand rfl (sa_cons (se_var (i := 3) rfl (.inl rfl)) (sa_cons (se_var (i := 5) rfl (.inl rfl)) sa_nil))) (sa_cons (se_call h_choices_at hk_choices_at rfl (sa_cons (se_var (i := 3) rfl (.inl rfl)) (sa_cons (se_var (i := 5) rfl (.inl rfl)) sa_nil))) sa_nil))) (sa_cons (se_lst (sa_cons se_bl (sa_cons (se_var (i := 6) rfl (.inl rfl)) sa_nil))) sa_nil)))))
  (sss_one (ss_ret se_bl))
  sss_nil)
  (sss_one (ss_for (si_seq (se_var (i := 6) rfl (.inl rfl))) (sg_name (i := 7) nd rfl (.inl rfl) (.inr rfl))
  (sss_cons (ss_set (i := 8) nd rfl (.inl rfl) (.inr rfl) (se_tup (sa_cons (se_call h_after hk_after rfl (sa_cons (se_var (i := 3) rfl (.inl rfl)) (sa_cons (se_var (i := 5) rfl (.inl rfl)) (sa_cons (se_var (i := 7) rfl (.inl rfl)) sa_nil)))) (sa_cons (se_call h_told hk_told rfl (sa_cons (se_var (i := 3) rfl (.inl rfl)) (sa_cons (se_var (i := 5) rfl (.inl rfl)) (sa_cons (se_var (i := 7) rfl (.inl rfl)) sa_nil)))) sa_nil))))
  (sss_one (ss_if (st_not (st_val (se_call h__law_twins hk__law_twins rfl (sa_cons (se_var (i := 8) rfl (.inl rfl)) (sa_cons (se_call h__law_tick hk__law_tick rfl (sa_cons (se_var (i := 3) rfl (.inl rfl)) (sa_cons (se_var (i := 5) rfl (.inl rfl)) (sa_cons (se_var (i := 7) rfl (.inl rfl)) sa_nil)))) sa_nil)))))
  (sss_one (ss_ret se_bl))
  sss_nil)))))))))))))
  (sss_one (ss_ret se_bl)))
end KK

set_option Elab.async false
set_option linter.all false
set_option maxRecDepth 100000
set_option maxHeartbeats 4000000
namespace KK
open PySem PySem.Spec PyProof.Rows L2 DS
def g__law_ground : He.DefD := ⟨("_law_ground", none), "_law_ground", "_law_ground", defArgs (top 46), defBody (top 46), defScope (top 46), [], []⟩
def g__law_pick : He.DefD := ⟨("_law_pick", none), "_law_pick", "_law_pick", defArgs (top 40), defBody (top 40), defScope (top 40), [], []⟩
def g__law_any_stand : He.DefD := ⟨("_law_any_stand", none), "_law_any_stand", "_law_any_stand", defArgs (top 54), defBody (top 54), defScope (top 54), [], []⟩
def g__law_all_moves : He.DefD := ⟨("_law_all_moves", none), "_law_all_moves", "_law_all_moves", defArgs (top 52), defBody (top 52), defScope (top 52), [], []⟩
def g__law_left : He.DefD := ⟨("_law_left", none), "_law_left", "_law_left", defArgs (top 49), defBody (top 49), defScope (top 49), [], []⟩
def g__law_moved : He.DefD := ⟨("_law_moved", none), "_law_moved", "_law_moved", defArgs (top 48), defBody (top 48), defScope (top 48), [], []⟩
def g__law_choices : He.DefD := ⟨("_law_choices", none), "_law_choices", "_law_choices", defArgs (top 53), defBody (top 53), defScope (top 53), [], []⟩
def g__law_program : He.DefD := ⟨("_law_program", none), "_law_program", "_law_program", defArgs (top 43), defBody (top 43), defScope (top 43), [], []⟩
def g__law_plan : He.DefD := ⟨("_law_plan", none), "_law_plan", "_law_plan", defArgs (top 44), defBody (top 44), defScope (top 44), [], []⟩
def g__law_spring : He.DefD := ⟨("_law_spring", none), "_law_spring", "_law_spring", defArgs (top 39), defBody (top 39), defScope (top 39), [], []⟩
def g__law_feels : He.DefD := ⟨("_law_feels", none), "_law_feels", "_law_feels", defArgs (top 47), defBody (top 47), defScope (top 47), [], []⟩
def g__law_ordered : He.DefD := ⟨("_law_ordered", none), "_law_ordered", "_law_ordered", defArgs (top 50), defBody (top 50), defScope (top 50), [], []⟩
def g__law_tick : He.DefD := ⟨("_law_tick", none), "_law_tick", "_law_tick", defArgs (top 51), defBody (top 51), defScope (top 51), [], []⟩
def g__law_kind : He.DefD := ⟨("_law_kind", none), "_law_kind", "_law_kind", defArgs (top 41), defBody (top 41), defScope (top 41), [], []⟩
def g__law_twins : He.DefD := ⟨("_law_twins", none), "_law_twins", "_law_twins", defArgs (top 42), defBody (top 42), defScope (top 42), [], []⟩
def g_tail_of : He.DefD := ⟨("tail_of", none), "tail_of", "tail_of", defArgs (top 15), defBody (top 15), defScope (top 15), [], []⟩
def g_in_lane : He.DefD := ⟨("in_lane", none), "in_lane", "in_lane", defArgs (top 29), defBody (top 29), defScope (top 29), [], []⟩
def g_is_on : He.DefD := ⟨("is_on", none), "is_on", "is_on", defArgs (top 24), defBody (top 24), defScope (top 24), [], []⟩
def g_lengths_of : He.DefD := ⟨("lengths_of", none), "lengths_of", "lengths_of", defArgs (top 16), defBody (top 16), defScope (top 16), [], []⟩
def g_moved : He.DefD := ⟨("moved", none), "moved", "moved", defArgs (top 26), defBody (top 26), defScope (top 26), [], []⟩
def g_rows_of : He.DefD := ⟨("rows_of", none), "rows_of", "rows_of", defArgs (top 27), defBody (top 27), defScope (top 27), [], []⟩
def g_choices_of : He.DefD := ⟨("choices_of", none), "choices_of", "choices_of", defArgs (top 32), defBody (top 32), defScope (top 32), [], []⟩
def g_is_within : He.DefD := ⟨("is_within", none), "is_within", "is_within", defArgs (top 9), defBody (top 9), defScope (top 9), [], []⟩
def g_is_like : He.DefD := ⟨("is_like", none), "is_like", "is_like", defArgs (top 33), defBody (top 33), defScope (top 33), [], []⟩
def g_is_wide : He.DefD := ⟨("is_wide", none), "is_wide", "is_wide", defArgs (top 10), defBody (top 10), defScope (top 10), [], []⟩
def g_is_program : He.DefD := ⟨("is_program", none), "is_program", "is_program", defArgs (top 11), defBody (top 11), defScope (top 11), [], []⟩
def g_is_traffic : He.DefD := ⟨("is_traffic", none), "is_traffic", "is_traffic", defArgs (top 12), defBody (top 12), defScope (top 12), [], []⟩
def g_is_plan : He.DefD := ⟨("is_plan", none), "is_plan", "is_plan", defArgs (top 13), defBody (top 13), defScope (top 13), [], []⟩
def g_look_at_plan : He.DefD := ⟨("look_at_plan", none), "look_at_plan", "look_at_plan", defArgs (top 14), defBody (top 14), defScope (top 14), [], []⟩
def g_is_one : He.DefD := ⟨("is_one", none), "is_one", "is_one", defArgs (top 17), defBody (top 17), defScope (top 17), [], []⟩
def g_is_queue : He.DefD := ⟨("is_queue", none), "is_queue", "is_queue", defArgs (top 18), defBody (top 18), defScope (top 18), [], []⟩
def g_fits : He.DefD := ⟨("fits", none), "fits", "fits", defArgs (top 19), defBody (top 19), defScope (top 19), [], []⟩
def g_look_at_stand : He.DefD := ⟨("look_at_stand", none), "look_at_stand", "look_at_stand", defArgs (top 21), defBody (top 21), defScope (top 21), [], []⟩
def g_look_at_choice : He.DefD := ⟨("look_at_choice", none), "look_at_choice", "look_at_choice", defArgs (top 34), defBody (top 34), defScope (top 34), [], []⟩
def g_is_felt : He.DefD := ⟨("is_felt", none), "is_felt", "is_felt", defArgs (top 25), defBody (top 25), defScope (top 25), [], []⟩
def g_led_on : He.DefD := ⟨("led_on", none), "led_on", "led_on", defArgs (top 28), defBody (top 28), defScope (top 28), [], []⟩
def g_programmed : He.DefD := ⟨("programmed", none), "programmed", "programmed", defArgs (top 30), defBody (top 30), defScope (top 30), [], []⟩
def g_passed : He.DefD := ⟨("passed", none), "passed", "passed", defArgs (top 31), defBody (top 31), defScope (top 31), [], []⟩
def g_after : He.DefD := ⟨("after", none), "after", "after", defArgs (top 36), defBody (top 36), defScope (top 36), [], []⟩
def g_choices_at : He.DefD := ⟨("choices_at", none), "choices_at", "choices_at", defArgs (top 35), defBody (top 35), defScope (top 35), [], []⟩
def g_is_stand : He.DefD := ⟨("is_stand", none), "is_stand", "is_stand", defArgs (top 20), defBody (top 20), defScope (top 20), [], []⟩
def g_told : He.DefD := ⟨("told", none), "told", "told", defArgs (top 37), defBody (top 37), defScope (top 37), [], []⟩
def g_law : He.DefD := ⟨("law", none), "law", "law", defArgs (top 55), defBody (top 55), defScope (top 55), [], []⟩
def fn : List He.DefD := [g__law_ground, g__law_pick, g__law_any_stand, g__law_all_moves, g__law_left, g__law_moved, g__law_choices, g__law_program, g__law_plan, g__law_spring, g__law_feels, g__law_ordered, g__law_tick, g__law_kind, g__law_twins, g_tail_of, g_in_lane, g_is_on, g_lengths_of, g_moved, g_rows_of, g_choices_of, g_is_within, g_is_like, g_is_wide, g_is_program, g_is_traffic, g_is_plan, g_look_at_plan, g_is_one, g_is_queue, g_fits, g_look_at_stand, g_look_at_choice, g_is_felt, g_led_on, g_programmed, g_passed, g_after, g_choices_at, g_is_stand, g_told, g_law]
def fa : List He.Fa := [.glo "_law_ground", .glo "_law_pick", .glo "_law_any_stand", .glo "_law_all_moves", .glo "_law_left", .glo "_law_moved", .glo "_law_choices", .glo "_law_program", .glo "_law_plan", .glo "_law_spring", .glo "_law_feels", .glo "_law_ordered", .glo "_law_tick", .glo "_law_kind", .glo "_law_twins", .glo "tail_of", .glo "in_lane", .glo "is_on", .glo "lengths_of", .glo "moved", .glo "rows_of", .glo "choices_of", .glo "is_within", .glo "is_like", .glo "is_wide", .glo "is_program", .glo "is_traffic", .glo "is_plan", .glo "look_at_plan", .glo "is_one", .glo "is_queue", .glo "fits", .glo "look_at_stand", .glo "look_at_choice", .glo "is_felt", .glo "led_on", .glo "programmed", .glo "passed", .glo "after", .glo "choices_at", .glo "is_stand", .glo "told", .glo "law", .free "abs", .free "all", .free "any", .free "bool", .free "dict", .free "int", .free "isinstance", .free "len", .free "list", .free "max", .free "min", .free "range", .free "str", .free "tuple", .free "zip"]
def cs : List (Str × D) := [("DOWN", c_DOWN), ("STEPS", c_STEPS), ("UP", c_UP), ("WAYS", c_WAYS), ("STEPS", .dic ["back", "on", "stay"] ([-1, 1, 0].map .int))]
abbrev R : PySem.W.OpenRow := PySem.W.OpenLaw.row PySem.Challenge.rw_loopedarm_k03_stands_of_any_kind
abbrev hk : PySem.W.Hook := He.hookX 5 fa fn [] [] (consD cs)
def ob (s : PySem.W.SharedT) : He.AlX := He.obsX 5 fa fn [] [] (consD cs) (HandSHeadRun.getT s)
theorem ob_eq (s : PySem.W.SharedT) : ob s = hk.obs s.abs := He.obsX_eq (HandSHeadRun.getT_eq s)
def loose : List PySem.Str := (["ArmError", "InvalidPlan", "InvalidStand", "InvalidChoice", "UP", "DOWN", "WAYS", "is_within", "is_wide", "is_program", "is_traffic", "is_plan", "look_at_plan", "tail_of", "lengths_of", "is_one", "is_queue", "fits", "is_stand", "look_at_stand", "STEPS", "is_on", "is_felt", "moved", "rows_of", "led_on", "in_lane", "programmed", "passed", "choices_of"] : List PySem.Str) ++ (["is_like", "look_at_choice", "choices_at", "after", "told", "_law_spring", "_law_pick", "_law_kind", "_law_twins", "_law_program", "_law_plan", "_law_begin", "_law_ground", "_law_feels", "_law_moved", "_law_left", "_law_ordered", "_law_tick", "_law_all_moves", "_law_choices", "_law_any_stand"] : List PySem.Str)
theorem run (w : World) : HandSHeadRun.RunEq R (PySem.W.view R.prog [55]) hk ob 8000 loose w := by
  intro os
  kernel_rfl
theorem facts {P : Program} {w : World} {K : PySem.W.Frag} {h : PySem.Heap} {mg : Str → Option Value} {f : Addr} (X : K.In h) (G : h.Ns mainGlobals mg) (hfa : mg ("law" : Str) = some (.ref f)) (c : He.SaysD fa fn K) (cc : consD cs K = true) :
    ∃ fd : FuncData, (∀ (s : Shared) (v : Value), BindsTo s fd ⟨[v], []⟩ [("script", v)]) ∧ ∀ base : PySem.Heap, K.In base → base.Ns mainGlobals mg → FnOk P w K mg base (L2.CX P w) 15 f fd ["script"] (spD K mg 1 f_law) := by
  have z_abs : mg "abs" = none := He.free_ok X G (c.fact 43 (f := .free "abs") rfl)
  have z_all : mg "all" = none := He.free_ok X G (c.fact 44 (f := .free "all") rfl)
  have z_any : mg "any" = none := He.free_ok X G (c.fact 45 (f := .free "any") rfl)
  have z_bool : mg "bool" = none := He.free_ok X G (c.fact 46 (f := .free "bool") rfl)
  have z_dict : mg "dict" = none := He.free_ok X G (c.fact 47 (f := .free "dict") rfl)
  have z_int : mg "int" = none := He.free_ok X G (c.fact 48 (f := .free "int") rfl)
  have z_isinstance : mg "isinstance" = none := He.free_ok X G (c.fact 49 (f := .free "isinstance") rfl)
  have z_len : mg "len" = none := He.free_ok X G (c.fact 50 (f := .free "len") rfl)
  have z_list : mg "list" = none := He.free_ok X G (c.fact 51 (f := .free "list") rfl)
  have z_max : mg "max" = none := He.free_ok X G (c.fact 52 (f := .free "max") rfl)
  have z_min : mg "min" = none := He.free_ok X G (c.fact 53 (f := .free "min") rfl)
  have z_range : mg "range" = none := He.free_ok X G (c.fact 54 (f := .free "range") rfl)
  have z_str : mg "str" = none := He.free_ok X G (c.fact 55 (f := .free "str") rfl)
  have z_tuple : mg "tuple" = none := He.free_ok X G (c.fact 56 (f := .free "tuple") rfl)
  have z_zip : mg "zip" = none := He.free_ok X G (c.fact 57 (f := .free "zip") rfl)
  have k_DOWN : Con K mg "DOWN" c_DOWN := conB_ok X G (show conB K "DOWN" c_DOWN = true from consD_at cc 0 rfl)
  have k_STEPS : Con K mg "STEPS" c_STEPS := conB_ok X G (show conB K "STEPS" c_STEPS = true from consD_at cc 1 rfl)
  have k_UP : Con K mg "UP" c_UP := conB_ok X G (show conB K "UP" c_UP = true from consD_at cc 2 rfl)
  have k_WAYS : Con K mg "WAYS" c_WAYS := conB_ok X G (show conB K "WAYS" c_WAYS = true from consD_at cc 3 rfl)
  have q_STEPS : DCon K mg "STEPS" ["back", "on", "stay"] [-1, 1, 0] := dconB_ok X G (show dconB K "STEPS" ["back", "on", "stay"] [-1, 1, 0] = true from consD_at cc 4 rfl)
  obtain ⟨fd__law_ground, F__law_ground⟩ := c.def_ 0 (d := g__law_ground) rfl
  have gl__law_ground : mg "_law_ground" = some (.ref (He.fAd K ("_law_ground", none))) := He.glo_ok X G (c.fact 0 (f := .glo "_law_ground") rfl)
  have b__law_ground := FunD.bindsN (ps := ["one"]) F__law_ground fun _ _ _ _ _ _ us hl => match us, hl with | [_], _ => rfl
  obtain ⟨fd__law_pick, F__law_pick⟩ := c.def_ 1 (d := g__law_pick) rfl
  have gl__law_pick : mg "_law_pick" = some (.ref (He.fAd K ("_law_pick", none))) := He.glo_ok X G (c.fact 1 (f := .glo "_law_pick") rfl)
  have b__law_pick := FunD.bindsN (ps := ["spring", "many"]) F__law_pick fun _ _ _ _ _ _ us hl => match us, hl with | [_, _], _ => rfl
  obtain ⟨fd__law_any_stand, F__law_any_stand⟩ := c.def_ 2 (d := g__law_any_stand) rfl
  have gl__law_any_stand : mg "_law_any_stand" = some (.ref (He.fAd K ("_law_any_stand", none))) := He.glo_ok X G (c.fact 2 (f := .glo "_law_any_stand") rfl)
  have b__law_any_stand := FunD.bindsN (ps := ["spring", "plan"]) F__law_any_stand fun _ _ _ _ _ _ us hl => match us, hl with | [_, _], _ => rfl
  obtain ⟨fd__law_all_moves, F__law_all_moves⟩ := c.def_ 3 (d := g__law_all_moves) rfl
  have gl__law_all_moves : mg "_law_all_moves" = some (.ref (He.fAd K ("_law_all_moves", none))) := He.glo_ok X G (c.fact 3 (f := .glo "_law_all_moves") rfl)
  have b__law_all_moves := FunD.bindsN (ps := ["many"]) F__law_all_moves fun _ _ _ _ _ _ us hl => match us, hl with | [_], _ => rfl
  obtain ⟨fd__law_left, F__law_left⟩ := c.def_ 4 (d := g__law_left) rfl
  have gl__law_left : mg "_law_left" = some (.ref (He.fAd K ("_law_left", none))) := He.glo_ok X G (c.fact 4 (f := .glo "_law_left") rfl)
  have b__law_left := FunD.bindsN (ps := ["row"]) F__law_left fun _ _ _ _ _ _ us hl => match us, hl with | [_], _ => rfl
  obtain ⟨fd__law_moved, F__law_moved⟩ := c.def_ 5 (d := g__law_moved) rfl
  have gl__law_moved : mg "_law_moved" = some (.ref (He.fAd K ("_law_moved", none))) := He.glo_ok X G (c.fact 5 (f := .glo "_law_moved") rfl)
  have b__law_moved := FunD.bindsN (ps := ["plan", "stand", "moves"]) F__law_moved fun _ _ _ _ _ _ us hl => match us, hl with | [_, _, _], _ => rfl
  obtain ⟨fd__law_choices, F__law_choices⟩ := c.def_ 6 (d := g__law_choices) rfl
  have gl__law_choices : mg "_law_choices" = some (.ref (He.fAd K ("_law_choices", none))) := He.glo_ok X G (c.fact 6 (f := .glo "_law_choices") rfl)
  have b__law_choices := FunD.bindsN (ps := ["plan", "stand"]) F__law_choices fun _ _ _ _ _ _ us hl => match us, hl with | [_, _], _ => rfl
  obtain ⟨fd__law_program, F__law_program⟩ := c.def_ 7 (d := g__law_program) rfl
  have gl__law_program : mg "_law_program" = some (.ref (He.fAd K ("_law_program", none))) := He.glo_ok X G (c.fact 7 (f := .glo "_law_program") rfl)
  have b__law_program := FunD.bindsN (ps := ["spring"]) F__law_program fun _ _ _ _ _ _ us hl => match us, hl with | [_], _ => rfl
  obtain ⟨fd__law_plan, F__law_plan⟩ := c.def_ 8 (d := g__law_plan) rfl
  have gl__law_plan : mg "_law_plan" = some (.ref (He.fAd K ("_law_plan", none))) := He.glo_ok X G (c.fact 8 (f := .glo "_law_plan") rfl)
  have b__law_plan := FunD.bindsN (ps := ["spring"]) F__law_plan fun _ _ _ _ _ _ us hl => match us, hl with | [_], _ => rfl
  obtain ⟨fd__law_spring, F__law_spring⟩ := c.def_ 9 (d := g__law_spring) rfl
  have gl__law_spring : mg "_law_spring" = some (.ref (He.fAd K ("_law_spring", none))) := He.glo_ok X G (c.fact 9 (f := .glo "_law_spring") rfl)
  have b__law_spring := FunD.bindsN (ps := ["script", "at"]) F__law_spring fun _ _ _ _ _ _ us hl => match us, hl with | [_, _], _ => rfl
  obtain ⟨fd__law_feels, F__law_feels⟩ := c.def_ 10 (d := g__law_feels) rfl
  have gl__law_feels : mg "_law_feels" = some (.ref (He.fAd K ("_law_feels", none))) := He.glo_ok X G (c.fact 10 (f := .glo "_law_feels") rfl)
  have b__law_feels := FunD.bindsN (ps := ["some", "place"]) F__law_feels fun _ _ _ _ _ _ us hl => match us, hl with | [_, _], _ => rfl
  obtain ⟨fd__law_ordered, F__law_ordered⟩ := c.def_ 11 (d := g__law_ordered) rfl
  have gl__law_ordered : mg "_law_ordered" = some (.ref (He.fAd K ("_law_ordered", none))) := He.glo_ok X G (c.fact 11 (f := .glo "_law_ordered") rfl)
  have b__law_ordered := FunD.bindsN (ps := ["plan", "stand", "some", "ticket"]) F__law_ordered fun _ _ _ _ _ _ us hl => match us, hl with | [_, _, _, _], _ => rfl
  obtain ⟨fd__law_tick, F__law_tick⟩ := c.def_ 12 (d := g__law_tick) rfl
  have gl__law_tick : mg "_law_tick" = some (.ref (He.fAd K ("_law_tick", none))) := He.glo_ok X G (c.fact 12 (f := .glo "_law_tick") rfl)
  have b__law_tick := FunD.bindsN (ps := ["plan", "stand", "choice"]) F__law_tick fun _ _ _ _ _ _ us hl => match us, hl with | [_, _, _], _ => rfl
  obtain ⟨fd__law_kind, F__law_kind⟩ := c.def_ 13 (d := g__law_kind) rfl
  have gl__law_kind : mg "_law_kind" = some (.ref (He.fAd K ("_law_kind", none))) := He.glo_ok X G (c.fact 13 (f := .glo "_law_kind") rfl)
  have b__law_kind := FunD.bindsN (ps := ["value"]) F__law_kind fun _ _ _ _ _ _ us hl => match us, hl with | [_], _ => rfl
  obtain ⟨fd__law_twins, F__law_twins⟩ := c.def_ 14 (d := g__law_twins) rfl
  have gl__law_twins : mg "_law_twins" = some (.ref (He.fAd K ("_law_twins", none))) := He.glo_ok X G (c.fact 14 (f := .glo "_law_twins") rfl)
  have b__law_twins := FunD.bindsN (ps := ["one", "other"]) F__law_twins fun _ _ _ _ _ _ us hl => match us, hl with | [_, _], _ => rfl
  obtain ⟨fd_tail_of, F_tail_of⟩ := c.def_ 15 (d := g_tail_of) rfl
  have gl_tail_of : mg "tail_of" = some (.ref (He.fAd K ("tail_of", none))) := He.glo_ok X G (c.fact 15 (f := .glo "tail_of") rfl)
  have b_tail_of := FunD.bindsN (ps := ["one"]) F_tail_of fun _ _ _ _ _ _ us hl => match us, hl with | [_], _ => rfl
  obtain ⟨fd_in_lane, F_in_lane⟩ := c.def_ 16 (d := g_in_lane) rfl
  have gl_in_lane : mg "in_lane" = some (.ref (He.fAd K ("in_lane", none))) := He.glo_ok X G (c.fact 16 (f := .glo "in_lane") rfl)
  have b_in_lane := FunD.bindsN (ps := ["row"]) F_in_lane fun _ _ _ _ _ _ us hl => match us, hl with | [_], _ => rfl
  obtain ⟨fd_is_on, F_is_on⟩ := c.def_ 17 (d := g_is_on) rfl
  have gl_is_on : mg "is_on" = some (.ref (He.fAd K ("is_on", none))) := He.glo_ok X G (c.fact 17 (f := .glo "is_on") rfl)
  have b_is_on := FunD.bindsN (ps := ["one", "place"]) F_is_on fun _ _ _ _ _ _ us hl => match us, hl with | [_, _], _ => rfl
  obtain ⟨fd_lengths_of, F_lengths_of⟩ := c.def_ 18 (d := g_lengths_of) rfl
  have gl_lengths_of : mg "lengths_of" = some (.ref (He.fAd K ("lengths_of", none))) := He.glo_ok X G (c.fact 18 (f := .glo "lengths_of") rfl)
  have b_lengths_of := FunD.bindsN (ps := ["plan"]) F_lengths_of fun _ _ _ _ _ _ us hl => match us, hl with | [_], _ => rfl
  obtain ⟨fd_moved, F_moved⟩ := c.def_ 19 (d := g_moved) rfl
  have gl_moved : mg "moved" = some (.ref (He.fAd K ("moved", none))) := He.glo_ok X G (c.fact 19 (f := .glo "moved") rfl)
  have b_moved := FunD.bindsN (ps := ["one", "word"]) F_moved fun _ _ _ _ _ _ us hl => match us, hl with | [_, _], _ => rfl
  obtain ⟨fd_rows_of, F_rows_of⟩ := c.def_ 20 (d := g_rows_of) rfl
  have gl_rows_of : mg "rows_of" = some (.ref (He.fAd K ("rows_of", none))) := He.glo_ok X G (c.fact 20 (f := .glo "rows_of") rfl)
  have b_rows_of := FunD.bindsN (ps := ["plan", "stand"]) F_rows_of fun _ _ _ _ _ _ us hl => match us, hl with | [_, _], _ => rfl
  obtain ⟨fd_choices_of, F_choices_of⟩ := c.def_ 21 (d := g_choices_of) rfl
  have gl_choices_of : mg "choices_of" = some (.ref (He.fAd K ("choices_of", none))) := He.glo_ok X G (c.fact 21 (f := .glo "choices_of") rfl)
  have b_choices_of := FunD.bindsN (ps := ["plan", "stand"]) F_choices_of fun _ _ _ _ _ _ us hl => match us, hl with | [_, _], _ => rfl
  obtain ⟨fd_is_within, F_is_within⟩ := c.def_ 22 (d := g_is_within) rfl
  have gl_is_within : mg "is_within" = some (.ref (He.fAd K ("is_within", none))) := He.glo_ok X G (c.fact 22 (f := .glo "is_within") rfl)
  have b_is_within := FunD.bindsN (ps := ["value", "low", "high"]) F_is_within fun _ _ _ _ _ _ us hl => match us, hl with | [_, _, _], _ => rfl
  obtain ⟨fd_is_like, F_is_like⟩ := c.def_ 23 (d := g_is_like) rfl
  have gl_is_like : mg "is_like" = some (.ref (He.fAd K ("is_like", none))) := He.glo_ok X G (c.fact 23 (f := .glo "is_like") rfl)
  have b_is_like := FunD.bindsN (ps := ["value", "some"]) F_is_like fun _ _ _ _ _ _ us hl => match us, hl with | [_, _], _ => rfl
  obtain ⟨fd_is_wide, F_is_wide⟩ := c.def_ 24 (d := g_is_wide) rfl
  have gl_is_wide : mg "is_wide" = some (.ref (He.fAd K ("is_wide", none))) := He.glo_ok X G (c.fact 24 (f := .glo "is_wide") rfl)
  have b_is_wide := FunD.bindsN (ps := ["value", "many"]) F_is_wide fun _ _ _ _ _ _ us hl => match us, hl with | [_, _], _ => rfl
  obtain ⟨fd_is_program, F_is_program⟩ := c.def_ 25 (d := g_is_program) rfl
  have gl_is_program : mg "is_program" = some (.ref (He.fAd K ("is_program", none))) := He.glo_ok X G (c.fact 25 (f := .glo "is_program") rfl)
  have b_is_program := FunD.bindsN (ps := ["value"]) F_is_program fun _ _ _ _ _ _ us hl => match us, hl with | [_], _ => rfl
  obtain ⟨fd_is_traffic, F_is_traffic⟩ := c.def_ 26 (d := g_is_traffic) rfl
  have gl_is_traffic : mg "is_traffic" = some (.ref (He.fAd K ("is_traffic", none))) := He.glo_ok X G (c.fact 26 (f := .glo "is_traffic") rfl)
  have b_is_traffic := FunD.bindsN (ps := ["value"]) F_is_traffic fun _ _ _ _ _ _ us hl => match us, hl with | [_], _ => rfl
  obtain ⟨fd_is_plan, F_is_plan⟩ := c.def_ 27 (d := g_is_plan) rfl
  have gl_is_plan : mg "is_plan" = some (.ref (He.fAd K ("is_plan", none))) := He.glo_ok X G (c.fact 27 (f := .glo "is_plan") rfl)
  have b_is_plan := FunD.bindsN (ps := ["value"]) F_is_plan fun _ _ _ _ _ _ us hl => match us, hl with | [_], _ => rfl
  obtain ⟨fd_look_at_plan, F_look_at_plan⟩ := c.def_ 28 (d := g_look_at_plan) rfl
  have gl_look_at_plan : mg "look_at_plan" = some (.ref (He.fAd K ("look_at_plan", none))) := He.glo_ok X G (c.fact 28 (f := .glo "look_at_plan") rfl)
  have b_look_at_plan := FunD.bindsN (ps := ["plan"]) F_look_at_plan fun _ _ _ _ _ _ us hl => match us, hl with | [_], _ => rfl
  obtain ⟨fd_is_one, F_is_one⟩ := c.def_ 29 (d := g_is_one) rfl
  have gl_is_one : mg "is_one" = some (.ref (He.fAd K ("is_one", none))) := He.glo_ok X G (c.fact 29 (f := .glo "is_one") rfl)
  have b_is_one := FunD.bindsN (ps := ["plan", "value"]) F_is_one fun _ _ _ _ _ _ us hl => match us, hl with | [_, _], _ => rfl
  obtain ⟨fd_is_queue, F_is_queue⟩ := c.def_ 30 (d := g_is_queue) rfl
  have gl_is_queue : mg "is_queue" = some (.ref (He.fAd K ("is_queue", none))) := He.glo_ok X G (c.fact 30 (f := .glo "is_queue") rfl)
  have b_is_queue := FunD.bindsN (ps := ["plan", "value"]) F_is_queue fun _ _ _ _ _ _ us hl => match us, hl with | [_, _], _ => rfl
  obtain ⟨fd_fits, F_fits⟩ := c.def_ 31 (d := g_fits) rfl
  have gl_fits : mg "fits" = some (.ref (He.fAd K ("fits", none))) := He.glo_ok X G (c.fact 31 (f := .glo "fits") rfl)
  have b_fits := FunD.bindsN (ps := ["plan", "value"]) F_fits fun _ _ _ _ _ _ us hl => match us, hl with | [_, _], _ => rfl
  obtain ⟨fd_look_at_stand, F_look_at_stand⟩ := c.def_ 32 (d := g_look_at_stand) rfl
  have gl_look_at_stand : mg "look_at_stand" = some (.ref (He.fAd K ("look_at_stand", none))) := He.glo_ok X G (c.fact 32 (f := .glo "look_at_stand") rfl)
  have b_look_at_stand := FunD.bindsN (ps := ["plan", "stand"]) F_look_at_stand fun _ _ _ _ _ _ us hl => match us, hl with | [_, _], _ => rfl
  obtain ⟨fd_look_at_choice, F_look_at_choice⟩ := c.def_ 33 (d := g_look_at_choice) rfl
  have gl_look_at_choice : mg "look_at_choice" = some (.ref (He.fAd K ("look_at_choice", none))) := He.glo_ok X G (c.fact 33 (f := .glo "look_at_choice") rfl)
  have b_look_at_choice := FunD.bindsN (ps := ["plan", "stand", "choice"]) F_look_at_choice fun _ _ _ _ _ _ us hl => match us, hl with | [_, _, _], _ => rfl
  obtain ⟨fd_is_felt, F_is_felt⟩ := c.def_ 34 (d := g_is_felt) rfl
  have gl_is_felt : mg "is_felt" = some (.ref (He.fAd K ("is_felt", none))) := He.glo_ok X G (c.fact 34 (f := .glo "is_felt") rfl)
  have b_is_felt := FunD.bindsN (ps := ["queue", "place"]) F_is_felt fun _ _ _ _ _ _ us hl => match us, hl with | [_, _], _ => rfl
  obtain ⟨fd_led_on, F_led_on⟩ := c.def_ 35 (d := g_led_on) rfl
  have gl_led_on : mg "led_on" = some (.ref (He.fAd K ("led_on", none))) := He.glo_ok X G (c.fact 35 (f := .glo "led_on") rfl)
  have b_led_on := FunD.bindsN (ps := ["stand", "moves"]) F_led_on fun _ _ _ _ _ _ us hl => match us, hl with | [_, _], _ => rfl
  obtain ⟨fd_programmed, F_programmed⟩ := c.def_ 36 (d := g_programmed) rfl
  have gl_programmed : mg "programmed" = some (.ref (He.fAd K ("programmed", none))) := He.glo_ok X G (c.fact 36 (f := .glo "programmed") rfl)
  have b_programmed := FunD.bindsN (ps := ["plan", "stand", "queue", "ticket"]) F_programmed fun _ _ _ _ _ _ us hl => match us, hl with | [_, _, _, _], _ => rfl
  obtain ⟨fd_passed, F_passed⟩ := c.def_ 37 (d := g_passed) rfl
  have gl_passed : mg "passed" = some (.ref (He.fAd K ("passed", none))) := He.glo_ok X G (c.fact 37 (f := .glo "passed") rfl)
  have b_passed := FunD.bindsN (ps := ["plan", "stand", "choice"]) F_passed fun _ _ _ _ _ _ us hl => match us, hl with | [_, _, _], _ => rfl
  obtain ⟨fd_after, F_after⟩ := c.def_ 38 (d := g_after) rfl
  have gl_after : mg "after" = some (.ref (He.fAd K ("after", none))) := He.glo_ok X G (c.fact 38 (f := .glo "after") rfl)
  have b_after := FunD.bindsN (ps := ["plan", "stand", "choice"]) F_after fun _ _ _ _ _ _ us hl => match us, hl with | [_, _, _], _ => rfl
  obtain ⟨fd_choices_at, F_choices_at⟩ := c.def_ 39 (d := g_choices_at) rfl
  have gl_choices_at : mg "choices_at" = some (.ref (He.fAd K ("choices_at", none))) := He.glo_ok X G (c.fact 39 (f := .glo "choices_at") rfl)
  have b_choices_at := FunD.bindsN (ps := ["plan", "stand"]) F_choices_at fun _ _ _ _ _ _ us hl => match us, hl with | [_, _], _ => rfl
  obtain ⟨fd_is_stand, F_is_stand⟩ := c.def_ 40 (d := g_is_stand) rfl
  have gl_is_stand : mg "is_stand" = some (.ref (He.fAd K ("is_stand", none))) := He.glo_ok X G (c.fact 40 (f := .glo "is_stand") rfl)
  have b_is_stand := FunD.bindsN (ps := ["plan", "value"]) F_is_stand fun _ _ _ _ _ _ us hl => match us, hl with | [_, _], _ => rfl
  obtain ⟨fd_told, F_told⟩ := c.def_ 41 (d := g_told) rfl
  have gl_told : mg "told" = some (.ref (He.fAd K ("told", none))) := He.glo_ok X G (c.fact 41 (f := .glo "told") rfl)
  have b_told := FunD.bindsN (ps := ["plan", "stand", "choice"]) F_told fun _ _ _ _ _ _ us hl => match us, hl with | [_, _, _], _ => rfl
  obtain ⟨fd_law, F_law⟩ := c.def_ 42 (d := g_law) rfl
  have gl_law : mg "law" = some (.ref (He.fAd K ("law", none))) := He.glo_ok X G (c.fact 42 (f := .glo "law") rfl)
  have b_law := FunD.bindsN (ps := ["script"]) F_law fun _ _ _ _ _ _ us hl => match us, hl with | [_], _ => rfl
  have e := hfa.symm.trans gl_law
  cases e
  have bA := FunD.bindsA (ps := ["script"]) F_law fun _ _ _ _ _ _ us hl => match us, hl with | [_], _ => rfl
  refine ⟨fd_law, fun s v => bA s [v] rfl, fun base _ _ => ?_⟩
  have q__law_ground : Cal P w K mg base 1 "_law_ground" 1 f__law_ground := cal_of (k := 0) F__law_ground sc__law_ground (fun W B => d__law_ground z_list z_max z_range) gl__law_ground b__law_ground rfl rfl
  have q__law_pick : Cal P w K mg base 1 "_law_pick" 2 f__law_pick := cal_of (k := 0) F__law_pick sc__law_pick (fun W B => d__law_pick z_int) gl__law_pick b__law_pick rfl rfl
  have q__law_any_stand : Cal P w K mg base 2 "_law_any_stand" 2 f__law_any_stand := cal_of (k := 1) F__law_any_stand sc__law_any_stand (fun W B => d__law_any_stand z_len z_list z_range z_tuple q__law_ground (by decide) q__law_pick (by decide)) gl__law_any_stand b__law_any_stand rfl rfl
  have q__law_all_moves : Cal P w K mg base 1 "_law_all_moves" 1 f__law_all_moves := cal_of (k := 0) F__law_all_moves sc__law_all_moves (fun W B => d__law_all_moves z_range) gl__law_all_moves b__law_all_moves rfl rfl
  have q__law_left : Cal P w K mg base 2 "_law_left" 1 f__law_left := cal_of (k := 1) F__law_left sc__law_left (fun W B => d__law_left q__law_ground (by decide)) gl__law_left b__law_left rfl rfl
  have q__law_moved : Cal P w K mg base 2 "_law_moved" 3 f__law_moved := cal_of (k := 1) F__law_moved sc__law_moved (fun W B => d__law_moved z_zip q__law_ground (by decide)) gl__law_moved b__law_moved rfl rfl
  have q__law_choices : Cal P w K mg base 3 "_law_choices" 2 f__law_choices := cal_of (k := 2) F__law_choices sc__law_choices (fun W B => d__law_choices z_len z_list z_range q__law_all_moves (by decide) q__law_ground (by decide) q__law_left (by decide) q__law_moved (by decide)) gl__law_choices b__law_choices rfl rfl
  have q__law_program : Cal P w K mg base 2 "_law_program" 1 f__law_program := cal_of (k := 1) F__law_program sc__law_program (fun W B => d__law_program q__law_pick (by decide)) gl__law_program b__law_program rfl rfl
  have q__law_plan : Cal P w K mg base 3 "_law_plan" 1 f__law_plan := cal_of (k := 2) F__law_plan sc__law_plan (fun W B => d__law_plan z_min q__law_pick (by decide) q__law_program (by decide)) gl__law_plan b__law_plan rfl rfl
  have q__law_spring : Cal P w K mg base 1 "_law_spring" 2 f__law_spring := cal_of (k := 0) F__law_spring sc__law_spring (fun W B => d__law_spring z_abs z_int z_len) gl__law_spring b__law_spring rfl rfl
  have q__law_feels : Cal P w K mg base 2 "_law_feels" 2 f__law_feels := cal_of (k := 1) F__law_feels sc__law_feels (fun W B => d__law_feels q__law_ground (by decide)) gl__law_feels b__law_feels rfl rfl
  have q__law_ordered : Cal P w K mg base 3 "_law_ordered" 4 f__law_ordered := cal_of (k := 2) F__law_ordered sc__law_ordered (fun W B => d__law_ordered q__law_feels (by decide)) gl__law_ordered b__law_ordered rfl rfl
  have q__law_tick : Cal P w K mg base 4 "_law_tick" 3 f__law_tick := cal_of (k := 3) F__law_tick sc__law_tick (fun W B => d__law_tick z_int z_max z_min z_tuple q__law_feels (by decide) q__law_ground (by decide) q__law_left (by decide) q__law_moved (by decide) q__law_ordered (by decide)) gl__law_tick b__law_tick rfl rfl
  have q__law_kind : Cal P w K mg base 1 "_law_kind" 1 f__law_kind := cal_of (k := 0) F__law_kind sc__law_kind (fun W B => d__law_kind z_bool z_int z_isinstance z_list z_str z_tuple) gl__law_kind b__law_kind rfl rfl
  have q__law_twins : Cal P w K mg base 14 "_law_twins" 2 (f__law_twins fu__law_twins) := by
    have all : ∀ n : Nat, Cal P w K mg base (2 + n) "_law_twins" 2 (f__law_twins n) := by
      intro n
      induction n with
      | zero => exact cal_of (k := 1) F__law_twins sc__law_twins (fun W B => sss_stuck) gl__law_twins b__law_twins rfl rfl
      | succ n ih => exact cal_of (k := 2 + n) F__law_twins sc__law_twins (fun W B => d__law_twins (rec := f__law_twins n) z_len z_zip q__law_kind (by omega) ih (by omega)) gl__law_twins b__law_twins rfl rfl
    exact all fu__law_twins
  have q_tail_of : Cal P w K mg base 1 "tail_of" 1 f_tail_of := cal_of (k := 0) F_tail_of sc_tail_of (fun W B => d_tail_of z_max) gl_tail_of b_tail_of rfl rfl
  have q_in_lane : Cal P w K mg base 2 "in_lane" 1 f_in_lane := cal_of (k := 1) F_in_lane sc_in_lane (fun W B => d_in_lane z_tuple q_tail_of (by decide)) gl_in_lane b_in_lane rfl rfl
  have q_is_on : Cal P w K mg base 2 "is_on" 2 f_is_on := cal_of (k := 1) F_is_on sc_is_on (fun W B => d_is_on q_tail_of (by decide)) gl_is_on b_is_on rfl rfl
  have q_lengths_of : Cal P w K mg base 1 "lengths_of" 1 f_lengths_of := cal_of (k := 0) F_lengths_of sc_lengths_of (fun W B => d_lengths_of z_int z_list z_range) gl_lengths_of b_lengths_of rfl rfl
  have q_moved : Cal P w K mg base 1 "moved" 2 f_moved := cal_of (k := 0) F_moved sc_moved (fun W B => d_moved q_STEPS z_dict) gl_moved b_moved rfl rfl
  have q_rows_of : Cal P w K mg base 3 "rows_of" 2 f_rows_of := cal_of (k := 2) F_rows_of sc_rows_of (fun W B => d_rows_of k_STEPS q_is_on (by decide) q_moved (by decide) q_tail_of (by decide)) gl_rows_of b_rows_of rfl rfl
  have q_choices_of : Cal P w K mg base 4 "choices_of" 2 f_choices_of := cal_of (k := 3) F_choices_of sc_choices_of (fun W B => d_choices_of z_any z_int q_in_lane (by decide) q_is_on (by decide) q_lengths_of (by decide) q_rows_of (by decide)) gl_choices_of b_choices_of rfl rfl
  have q_is_within : Cal P w K mg base 1 "is_within" 3 f_is_within := cal_of (k := 0) F_is_within sc_is_within (fun W B => d_is_within z_bool z_int z_isinstance) gl_is_within b_is_within rfl rfl
  have q_is_like : Cal P w K mg base 2 "is_like" 2 f_is_like := cal_of (k := 1) F_is_like sc_is_like (fun W B => d_is_like z_all z_bool z_isinstance z_len z_str z_tuple q_is_within (by decide)) gl_is_like b_is_like rfl rfl
  have q_is_wide : Cal P w K mg base 1 "is_wide" 2 f_is_wide := cal_of (k := 0) F_is_wide sc_is_wide (fun W B => d_is_wide z_isinstance z_len z_tuple) gl_is_wide b_is_wide rfl rfl
  have q_is_program : Cal P w K mg base 2 "is_program" 1 f_is_program := cal_of (k := 1) F_is_program sc_is_program (fun W B => d_is_program k_WAYS z_bool z_isinstance z_str q_is_wide (by decide) q_is_within (by decide)) gl_is_program b_is_program rfl rfl
  have q_is_traffic : Cal P w K mg base 2 "is_traffic" 1 f_is_traffic := cal_of (k := 1) F_is_traffic sc_is_traffic (fun W B => d_is_traffic z_bool z_isinstance q_is_wide (by decide) q_is_within (by decide)) gl_is_traffic b_is_traffic rfl rfl
  have q_is_plan : Cal P w K mg base 3 "is_plan" 1 f_is_plan := cal_of (k := 2) F_is_plan sc_is_plan (fun W B => d_is_plan q_is_program (by decide) q_is_traffic (by decide) q_is_wide (by decide) q_is_within (by decide)) gl_is_plan b_is_plan rfl rfl
  have q_look_at_plan : Cal P w K mg base 4 "look_at_plan" 1 f_look_at_plan := cal_of (k := 3) F_look_at_plan sc_look_at_plan (fun W B => d_look_at_plan q_is_plan (by decide)) gl_look_at_plan b_look_at_plan rfl rfl
  have q_is_one : Cal P w K mg base 2 "is_one" 2 f_is_one := cal_of (k := 1) F_is_one sc_is_one (fun W B => d_is_one z_bool z_isinstance q_is_wide (by decide) q_is_within (by decide) q_lengths_of (by decide) q_tail_of (by decide)) gl_is_one b_is_one rfl rfl
  have q_is_queue : Cal P w K mg base 3 "is_queue" 2 f_is_queue := cal_of (k := 2) F_is_queue sc_is_queue (fun W B => d_is_queue z_all z_isinstance z_tuple z_zip q_is_one (by decide) q_tail_of (by decide)) gl_is_queue b_is_queue rfl rfl
  have q_fits : Cal P w K mg base 4 "fits" 2 f_fits := cal_of (k := 3) F_fits sc_fits (fun W B => d_fits k_DOWN k_UP z_bool z_isinstance z_str q_is_queue (by decide) q_is_wide (by decide) q_is_within (by decide)) gl_fits b_fits rfl rfl
  have q_look_at_stand : Cal P w K mg base 5 "look_at_stand" 2 f_look_at_stand := cal_of (k := 4) F_look_at_stand sc_look_at_stand (fun W B => d_look_at_stand q_fits (by decide)) gl_look_at_stand b_look_at_stand rfl rfl
  have q_look_at_choice : Cal P w K mg base 6 "look_at_choice" 3 f_look_at_choice := cal_of (k := 5) F_look_at_choice sc_look_at_choice (fun W B => d_look_at_choice q_choices_of (by decide) q_is_like (by decide) q_look_at_plan (by decide) q_look_at_stand (by decide)) gl_look_at_choice b_look_at_choice rfl rfl
  have q_is_felt : Cal P w K mg base 3 "is_felt" 2 f_is_felt := cal_of (k := 2) F_is_felt sc_is_felt (fun W B => d_is_felt z_any q_is_on (by decide)) gl_is_felt b_is_felt rfl rfl
  have q_led_on : Cal P w K mg base 2 "led_on" 2 f_led_on := cal_of (k := 1) F_led_on sc_led_on (fun W B => d_led_on z_zip q_moved (by decide)) gl_led_on b_led_on rfl rfl
  have q_programmed : Cal P w K mg base 4 "programmed" 4 f_programmed := cal_of (k := 3) F_programmed sc_programmed (fun W B => d_programmed k_DOWN k_UP q_is_felt (by decide)) gl_programmed b_programmed rfl rfl
  have q_passed : Cal P w K mg base 5 "passed" 3 f_passed := cal_of (k := 4) F_passed sc_passed (fun W B => d_passed k_UP z_any z_int z_len z_max z_min q_in_lane (by decide) q_is_felt (by decide) q_is_on (by decide) q_led_on (by decide) q_programmed (by decide) q_tail_of (by decide)) gl_passed b_passed rfl rfl
  have q_after : Cal P w K mg base 7 "after" 3 f_after := cal_of (k := 6) F_after sc_after (fun W B => d_after q_look_at_choice (by decide) q_passed (by decide)) gl_after b_after rfl rfl
  have q_choices_at : Cal P w K mg base 6 "choices_at" 2 f_choices_at := cal_of (k := 5) F_choices_at sc_choices_at (fun W B => d_choices_at q_choices_of (by decide) q_look_at_plan (by decide) q_look_at_stand (by decide)) gl_choices_at b_choices_at rfl rfl
  have q_is_stand : Cal P w K mg base 5 "is_stand" 2 f_is_stand := cal_of (k := 4) F_is_stand sc_is_stand (fun W B => d_is_stand q_fits (by decide) q_look_at_plan (by decide)) gl_is_stand b_is_stand rfl rfl
  have q_told : Cal P w K mg base 7 "told" 3 f_told := cal_of (k := 6) F_told sc_told (fun W B => d_told q_look_at_choice (by decide) q_passed (by decide)) gl_told b_told rfl rfl
  exact fn_ok (k := 14) (N := N_law) (ps := ["script"]) F_law sc_law (fun W B => d_law z_len z_min z_range q__law_any_stand (by decide) q__law_choices (by decide) q__law_plan (by decide) q__law_spring (by decide) q__law_tick (by decide) q__law_twins (by decide) q_after (by decide) q_choices_at (by decide) q_is_stand (by decide) q_told (by decide))
end KK
open PySem PySem.W PySem.Calls PyProof.Rows
set_option maxHeartbeats 0 in
theorem PySem.Challenge.cw_loopedarm_k03_stands_of_any_kind_holds : PySem.Challenge.rw_loopedarm_k03_stands_of_any_kind.Holds := by
  w_on; o_law
  refine HandSHeadRun.head_any (r := OpenLaw.row PySem.Challenge.rw_loopedarm_k03_stands_of_any_kind) (q := view (OpenLaw.row PySem.Challenge.rw_loopedarm_k03_stands_of_any_kind).prog [55]) (H := KK.hk) (ob := KK.ob) (M := 8000) (loose := KK.loose) (d := HandSHeadRun.topDef (OpenLaw.row PySem.Challenge.rw_loopedarm_k03_stands_of_any_kind).prog 55) (kwd := []) KK.ob_eq
    (by kernel_rfl) (fun s => by kernel_rfl) KK.run (by kernel_rfl) (by kernel_rfl) (by kernel_rfl) (by rfl) (by first | assumption | decide +kernel) (by decide +kernel) ⟨rfl, rfl, rfl, rfl, rfl, by decide +kernel⟩ ?hw ?hc
  case hw => w_witness2
  case hc =>
    refine DS.end_law (l := PySem.Challenge.rw_loopedarm_k03_stands_of_any_kind) (n := 63) (k := 15) (x := "script") (f := KK.f_law) rfl (by decide) (by kernel_rfl) ⟨rfl, by decide, by decide⟩ KK.law_true ?F
    intro w mg fa h Y G hmg0
    obtain ⟨K, KX, c⟩ := Y
    have hmg : mg ("law" : PySem.Str) = some (.ref fa) := by
      have e : (HandSHeadRun.topDef (OpenLaw.row PySem.Challenge.rw_loopedarm_k03_stands_of_any_kind).prog 55).name = ("law" : PySem.Str) := by kernel_rfl
      rw [← e]
      exact hmg0
    obtain ⟨fd, hb, hF⟩ := KK.facts (P := (PySem.Challenge.rw_loopedarm_k03_stands_of_any_kind).prog) (w := w) KX G hmg c.t.d c.more
    exact ⟨K, fd, KX, hb, hF⟩

