import PyProof.Rows.All
import Wide.All
import OpenK.AllK
import Wide.FinOn
import HandS.ForMost
import HandS.ForExc
import HandS.Wide
import HandS.WideBits
import HandS.Gcd
import HandS.FStr
import HandS.IsInst
import HandS.Flow
import HandS.Style
import HandS.AnyAll
import HandS.TupAny
import HandS.ExcIs
import HandS.Zip
import KE.GoesEnum
import HandS.Defaults
import HandS.ExcCtx
import HandS.HeadHook4
import HandS.RevTup
import HandS.Rev
import HandS.Hot
import HandS.HotCalls
import KE.HD3
import HandS.Head2
import HandS.HeadWalk
import HandS.NestedK
import PyProof.ExcBaseAll.ValueError
import HandS.Text
import KE.IntTextLaws
import KE.KIntText
import PyProof.Rows.ReprOcc
import PySem.Challenge.RW_paidallways_k04_whole_parts_and_their_te
set_option Elab.async false
set_option linter.all false
set_option maxRecDepth 100000
set_option maxHeartbeats 0
set_option exponentiation.threshold 20000
namespace Pz
open PySem
abbrev D := PyData
/-- what a slot that nobody else holds may hold -/
inductive Box where
  | l (xs : List D)
/-- a value: frozen data; a fresh box; the box of the slot i, looked at; an exception of the class c -/
inductive Val where
  | fz (d : D) | bx (b : Box) | vw (i : Nat) | xc (c : Nat)
/-- a slot: unset; frozen data; a box (io: the caller's; lk: locked); an exception -/
inductive Slot where
  | un | fz (d : D) | bx (b : Box) (io lk : Bool) | xc (c : Nat)
abbrev Env := List Slot
inductive Res (α : Type) where
  | ok (a : α) (ρ : Env) | ex (c : Nat) (ρ : Env) | st
abbrev M (α : Type) := Env → Res α
namespace M
def pure {α : Type} (a : α) : M α := fun ρ => .ok a ρ
def stuck {α : Type} : M α := fun _ => .st
def bind {α β : Type} (x : M α) (f : α → M β) : M β := fun ρ => match x ρ with
  | .ok a ρ1 => f a ρ1
  | .ex c ρ1 => .ex c ρ1
  | .st => .st
def ofO {α : Type} : Option α → M α
  | some a => pure a
  | none => stuck
/-- what may not raise -/
def calm {α : Type} (x : M α) : M α := fun ρ => match x ρ with
  | .ok a ρ1 => .ok a ρ1
  | _ => .st
end M
def Box.d : Box → D
  | .l xs => .list xs
/-- data of a value that is kept -/
def Val.keep : Val → Option D
  | .fz d => some d
  | .bx b => some b.d
  | .vw _ => none
  | .xc _ => none
/-- a value that goes into a call -/
def Val.slot : Val → Option Slot
  | .fz d => some (.fz d)
  | .bx b => some (.fz b.d)
  | .vw _ => none
  | .xc c => some (.xc c)
/-- the longest list -/
def lim : Nat := 16000000
mutual
def imm : D → Bool
  | .none => true
  | .bool _ => true
  | .int _ => true
  | .str _ => true
  | .list _ => false
  | .tuple xs => immAll xs
  | .dict _ => false
def immAll : List D → Bool
  | [] => true
  | d :: ds => imm d && immAll ds
end

inductive Bo where
  | add | sub | mul | fdiv | mod | pow
  deriving DecidableEq
inductive Co where
  | lt | le | gt | ge | eq | ne | is_ | nis | in_ | nin
  deriving DecidableEq
def wideOk (i j : Int) : Bool := decide (Builtin.Int.intBits i + Builtin.Int.intBits j ≤ 134217728)
def opI : Bo → Int → Int → Option Int
  | .add, i, j => some (i + j)
  | .sub, i, j => some (i - j)
  | .mul, i, j => if wideOk i j then some (i * j) else none
  | .fdiv, i, j => if j ≠ 0 ∧ j.natAbs.log2 < 9000 then some (Int.fdiv i j) else none
  | .mod, i, j => if j ≠ 0 then some (Int.fmod i j) else none
  | .pow, i, j => if 0 ≤ j ∧ j ≤ 1000 ∧ i.natAbs < 1000 then some (i ^ j.toNat) else none
def opV : Bo → D → D → Option Val
  | o, .int i, .int j => (opI o i j).map fun k => .fz (.int k)
  | .add, .str x, .str y => if x.length + y.length ≤ lim then some (.fz (.str (x ++ y))) else none
  | .add, .list xs, .list ys => if xs.length + ys.length ≤ lim then some (.bx (.l (xs ++ ys))) else none
  | .mul, .str x, .int k => if x.length ≤ 16 ∧ -1000000 ≤ k ∧ k ≤ 1000000 then some (.fz (.str (PySem.Txt.mul x k))) else none
  | _, _, _ => none
/-- a written list times an int -/
def repV : Bo → Val → D → Option Val
  | .mul, .bx (.l xs), .int k => if -1000000 ≤ k ∧ k ≤ 1000000 ∧ xs.length * k.toNat ≤ lim then some (.bx (.l (List.replicate k.toNat xs).flatten)) else none
  | _, _, _ => none
def isNone : D → Bool
  | .none => true
  | _ => false
def flat : D → Bool
  | .none => true
  | .bool _ => true
  | .int _ => true
  | .str _ => true
  | _ => false
def seqOf : D → Option (List D)
  | .list xs => some xs
  | .tuple xs => some xs
  | _ => none
def isSub (x y : Str) : Bool := !(Builtin.Str.occurrences y x 0 y.length 1).isEmpty
def inD : D → D → Option Bool
  | .str x, .str y => some (isSub x y)
  | x, .list ys => if x.depth ≤ 150 then some (ys.any fun z => PyData.eqv z x) else none
  | x, .tuple ys => if x.depth ≤ 150 then some (ys.any fun z => PyData.eqv z x) else none
  | _, _ => none
def cmpD : Co → D → D → Option Bool
  | .lt, .int i, .int j => some (decide (i < j))
  | .le, .int i, .int j => some (decide (i ≤ j))
  | .gt, .int i, .int j => some (decide (j < i))
  | .ge, .int i, .int j => some (decide (j ≤ i))
  | .eq, x, y => if min x.depth y.depth ≤ 150 then some (PyData.eqv x y) else none
  | .ne, x, y => if min x.depth y.depth ≤ 150 then some (!PyData.eqv x y) else none
  | .is_, x, .none => some (isNone x)
  | .nis, x, .none => some (!isNone x)
  | .in_, x, y => inD x y
  | .nin, x, y => (inD x y).map (!·)
  | _, _, _ => none
def truth : D → Option Bool
  | .none => some false
  | .bool b => some b
  | .int i => some (i != 0)
  | .str x => if x.length ≤ lim then some ((x.length : Int) != 0) else none
  | .list xs => some !xs.isEmpty
  | .tuple xs => some !xs.isEmpty
  | .dict _ => none
/-- the item at an index of any sign -/
def at_ {α : Type} (xs : List α) (i : Int) : Option α := L2.atI xs i
def ixD : D → D → Option D
  | .list xs, .int i => at_ xs i
  | .tuple xs, .int i => at_ xs i
  | .str x, .int i => if x.length ≤ lim then (at_ x.cps.toList i).map fun c => .str ⟨#[c]⟩ else none
  | _, _ => none
def cutL {α : Type} (xs : List α) (lo hi : Option Int) : List α := (xs.drop (HT.sIx xs.length 0 lo)).take (HT.sIx xs.length xs.length hi - HT.sIx xs.length 0 lo)
def slV : D → Option Int → Option Int → Option Val
  | .list xs, lo, hi => some (.bx (.l (cutL xs lo hi)))
  | .tuple xs, lo, hi => some (.fz (.tuple (cutL xs lo hi)))
  | .str x, lo, hi => if x.length ≤ lim then some (.fz (.str (L2.cutS x lo hi))) else none
  | _, _, _ => none

inductive Ty where
  | int | bool | str | list | tuple
  deriving DecidableEq
def tyD : D → Ty → Bool
  | .int _, .int => true
  | .bool _, .int => true
  | .bool _, .bool => true
  | .str _, .str => true
  | .list _, .list => true
  | .tuple _, .tuple => true
  | _, _ => false
inductive Bi where
  | len | abs | int | str | list | tuple | gcd | lrev
  deriving DecidableEq
inductive Mt where
  | index | partition
  deriving DecidableEq
mutual
inductive Tm where
  | c (d : D)
  | v (i : Nat)
  | g (i : Nat)
  | bin (o : Bo) (a b : Tm)
  | neg (a : Tm)
  | cmp (o : Co) (a b : Tm)
  | cmp2 (o o' : Co) (a b c : Tm)
  | nt (a : Tm)
  | an (a b : Tm)
  | or (a b : Tm)
  | ie (t a b : Tm)
  | tup (l : Tms)
  | lst (l : Tms)
  | ix (a i : Tm)
  | slL (a lo : Tm)
  | slH (a hi : Tm)
  | slB (a lo hi : Tm)
  | call (f : Nat) (l : Ags)
  | bi (f : Bi) (l : Tms)
  | isi (a : Tm) (T : Ty)
  | mt (m : Mt) (a : Tm) (l : Tms)
  | pop (i : Nat)
  | cmp0 (own : List Nat) (t : Tgt) (it : It) (e : Tm)
  | cmp1 (own : List Nat) (t : Tgt) (it : It) (w e : Tm)
  | fst (l : Tms)
  | alls (s : Tm) (g : Nat)
  | q (e : Tm)
inductive Tms where
  | nil | cons (a : Tm) (l : Tms)
/-- arguments: the caller's box in slot i, or data -/
inductive Ags where
  | nil | io (i : Nat) (l : Ags) | cons (a : Tm) (l : Ags)
inductive Tgt where
  | n (i : Nat) | t (l : List Nat)
inductive It where
  | el (a : Tm) | r1 (a : Tm) | r2 (a b : Tm) | zip (a b : Tm)
end
mutual
inductive Sm where
  | asg (b : List Nat) (i : Nat) (e : Tm)
  | unp (b : List Nat) (l : List Nat) (e : Tm)
  | par2 (b : List Nat) (i j : Nat) (x y : Tm)
  | aug (b : List Nat) (i : Nat) (o : Bo) (e : Tm)
  | app (b : List Nat) (i : Nat) (e : Tm)
  | ex (b : List Nat) (e : Tm)
  | ret (b : List Nat) (e : Tm)
  | retv (i : Nat)
  | retN
  | ifs (b : List Nat) (t : Tm) (p q : Sms)
  | for_ (b : List Nat) (t : Tgt) (it : It) (p : Sms)
  | whl (b : List Nat) (t : Tm) (p : Sms)
  | rais (c : Nat)
  | try_ (c : Nat) (i : Nat) (p : Sms)
  | brk | cont | pass
inductive Sms where
  | nil | cons (a : Sm) (l : Sms)
end
inductive Fl where
  | nx | bk | ct | rt (v : Val)
/-- a def: how many parameters, how many names, which parameters are the caller's boxes, the body -/
structure Fd where
  np : Nat
  ns : Nat
  io : List Nat
  body : Sms
inductive FR where
  | ok (v : Val) (outs : List Box) | ex (c : Nat) (outs : List Box) | st
abbrev Call := Nat → List Slot → FR
/-- what stands around: the calls, the module's constants, which exception class is below which, how many turns a while may take -/
structure G0 where
  call : Call
  con : List D
  sub : Nat → Nat → Bool
  word : Nat → Option Str
  turns : Nat

def getV (i : Nat) : M Val := fun ρ => match ρ[i]? with
  | some (.fz d) => .ok (.fz d) ρ
  | some (.bx _ _ _) => .ok (.vw i) ρ
  | some (.xc c) => .ok (.xc c) ρ
  | _ => .st
def setS (i : Nat) (s : Slot) : M Unit := fun ρ => if i < ρ.length then .ok () (ρ.set i s) else .st
/-- data of a value that is looked at, not kept -/
def look : Val → M D
  | .fz d => M.pure d
  | .bx b => M.pure b.d
  | .vw i => fun ρ => match ρ[i]? with
    | some (.bx b _ _) => .ok b.d ρ
    | _ => .st
  | .xc _ => M.stuck
def keep (x : Val) : M D := M.ofO x.keep
/-- a value into a slot -/
def putV (i : Nat) : Val → M Unit
  | .fz d => setS i (.fz d)
  | .bx b => setS i (.bx b false false)
  | .vw _ => M.stuck
  | .xc c => setS i (.xc c)
def immV : Val → Bool
  | .fz d => imm d
  | _ => false
/-- every box as data; the caller's out of sight -/
def calmS : Slot → Slot
  | .bx bx false _ => .fz bx.d
  | .bx _ true _ => .un
  | s => s
/-- x while all boxes are data: what it gives is no list, and all is as before -/
def quiet (x : M Val) : M Val := fun ρ => match x (ρ.map calmS) with
  | .ok v _ => if immV v then .ok v ρ else .st
  | .ex c _ => .ex c ρ
  | .st => .st
/-- the boxes at b are data from now on -/
def frz : List Nat → M Unit
  | [] => M.pure ()
  | i :: is => fun ρ => match ρ[i]? with
    | some (.bx bx false _) => frz is (ρ.set i (.fz bx.d))
    | some (.bx _ true _) => .st
    | some _ => frz is ρ
    | none => .st
def noBox (b : List Nat) (ρ : Env) : Bool := b.all fun i => match ρ[i]? with
  | some (.bx _ _ _) => false
  | some _ => true
  | none => false
def popAt (i : Nat) : M Val := fun ρ => match ρ[i]? with
  | some (.bx (.l xs) io false) => (match xs.getLast? with
    | some d => .ok (.fz d) (ρ.set i (.bx (.l xs.dropLast) io false))
    | none => .st)
  | _ => .st
def appAt (i : Nat) (d : D) : M Unit := fun ρ => match ρ[i]? with
  | some (.bx (.l xs) io false) => if xs.length < lim then .ok () (ρ.set i (.bx (.l (xs ++ [d])) io false)) else .st
  | _ => .st
def wipe (own : List Nat) (ρ : Env) : Env := own.foldl (fun r i => r.set i .un) ρ
/-- the slots own as they stood in ρ0 -/
def back (own : List Nat) (ρ0 ρ : Env) : Env := own.foldl (fun r i => r.set i (ρ0.getD i .un)) ρ
def putL : List Nat → List D → M Unit
  | [], [] => M.pure ()
  | i :: is, d :: ds => M.bind (setS i (.fz d)) fun _ => putL is ds
  | _, _ => M.stuck
def Tgt.put : Tgt → D → M Unit
  | .n i, d => setS i (.fz d)
  | .t l, .tuple ds => putL l ds
  | .t _, _ => M.stuck
/-- a turn for each item, the data that come -/
def comps (own : List Nat) (turn : D → M (Option D)) : List D → List D → M (List D)
  | [], acc => M.pure acc
  | d :: ds, acc => M.bind (fun ρ => turn d (wipe own ρ)) fun r => match r with
    | some y => if acc.length < lim then comps own turn ds (acc ++ [y]) else M.stuck
    | none => comps own turn ds acc
/-- a turn for each item of a for -/
def loop (turn : D → M Fl) : List D → M Fl
  | [] => M.pure .nx
  | d :: ds => M.bind (turn d) fun r => match r with
    | .nx => loop turn ds
    | .ct => loop turn ds
    | .bk => M.pure .nx
    | .rt v => M.pure (.rt v)
def whiles (test : M Bool) (body : M Fl) : Nat → M Fl
  | 0 => M.stuck
  | n + 1 => M.bind test fun b => if b then M.bind body fun r => match r with
      | .nx => whiles test body n
      | .ct => whiles test body n
      | .bk => M.pure .nx
      | .rt v => M.pure (.rt v)
    else M.pure .nx

/-- the slots' boxes as they stand when the call begins -/
def fillA (ρ : Env) : List (Slot ⊕ Nat) → Option (List Slot)
  | [] => some []
  | .inl s :: r => (fillA ρ r).map (s :: ·)
  | .inr i :: r => match ρ[i]? with
    | some (.bx b _ false) => (fillA ρ r).map (.bx b true false :: ·)
    | _ => none
def iosA : List (Slot ⊕ Nat) → List Nat
  | [] => []
  | .inl _ :: r => iosA r
  | .inr i :: r => i :: iosA r
/-- what the call leaves in the boxes -/
def outsA (is : List Nat) (outs : List Box) (ρ : Env) : Env := (is.zip outs).foldl (fun (r : Env) (p : Nat × Box) => match r[p.1]? with
  | some (Slot.bx _ io lk) => r.set p.1 (.bx p.2 io lk)
  | _ => r) ρ
def callM (C : Call) (f : Nat) (as : List (Slot ⊕ Nat)) : M Val := fun ρ => match fillA ρ as with
  | some ss => if (iosA as).Nodup then (match C f ss with
    | .ok v outs => if outs.length = (iosA as).length then .ok v (outsA (iosA as) outs ρ) else .st
    | .ex c outs => if outs.length = (iosA as).length then .ex c (outsA (iosA as) outs ρ) else .st
    | .st => .st) else .st
  | none => .st

def lenV : List D → Option Val
  | [.list xs] => some (.fz (.int xs.length))
  | [.tuple xs] => some (.fz (.int xs.length))
  | [.str x] => if x.length ≤ lim then some (.fz (.int x.length)) else none
  | _ => none
def absV : List D → Option Val
  | [.int i] => some (.fz (.int (if i < 0 then -i else i)))
  | _ => none
def intV : List D → Option Val
  | [.int i] => some (.fz (.int i))
  | [.str x] => if x.length ≤ 640 then (intText? x).map fun n => .fz (.int n) else none
  | _ => none
def strV : List D → Option Val
  | [.int i] => if i.natAbs.log2 < 1920 then some (.fz (.str (Str.ofString (toString i)))) else none
  | _ => none
def listV : List D → Option Val
  | [.list xs] => some (.bx (.l xs))
  | [.tuple xs] => some (.bx (.l xs))
  | _ => none
def tupleV : List D → Option Val
  | [.list xs] => some (.fz (.tuple xs))
  | [.tuple xs] => some (.fz (.tuple xs))
  | _ => none
def gcdV : List D → Option Val
  | [.int i, .int j] => some (.fz (.int ((Nat.gcd i.natAbs j.natAbs : Nat) : Int)))
  | _ => none
def lrevV : List D → Option Val
  | [.list xs] => some (.bx (.l xs.reverse))
  | _ => none
def biV : Bi → List D → Option Val
  | .len => lenV
  | .abs => absV
  | .int => intV
  | .str => strV
  | .list => listV
  | .tuple => tupleV
  | .gcd => gcdV
  | .lrev => lrevV
def indexV : D → List D → Option Val
  | .list ys, [x] => if flat x && ys.all flat && ys.any (fun z => PyData.eqv z x) then some (.fz (.int (ys.findIdx fun z => PyData.eqv z x))) else none
  | _, _ => none
def partV : D → List D → Option Val
  | .str a, [.str b] => if b.length ≠ 0 ∧ a.length ≤ lim then some (.fz (.tuple [.str (Txt.partition a b).1, .str (Txt.partition a b).2.1, .str (Txt.partition a b).2.2])) else none
  | _, _ => none
def mtV : Mt → D → List D → Option Val
  | .index => indexV
  | .partition => partV
/-- the receiver is of the method's type -/
def mtKind : Mt → D → Option Unit
  | .index, .list _ => some ()
  | .partition, .str _ => some ()
  | _, _ => none
def strOf : D → Option Str
  | .str x => some x
  | .int i => if i.natAbs.log2 < 1920 then some (Str.ofString (toString i)) else none
  | _ => none
def asInt : D → Option Int
  | .int i => some i
  | _ => none
def asBool : Val → Option Bool
  | .fz (.bool b) => some b
  | _ => none

def asVw : Val → Option Nat
  | .vw i => some i
  | _ => none
def asIntV : Val → Option Int
  | .fz (.int i) => some i
  | _ => none
def looks : List Val → M (List D)
  | [] => M.pure []
  | x :: xs => M.bind (look x) fun d => M.bind (looks xs) fun ds => M.pure (d :: ds)
/-- as a value, as a test -/
def both (x : M Val) : M Val × M Bool := (x, M.bind x fun v => M.bind (look v) fun d => M.ofO (truth d))
def zipD : D → D → Option (List D)
  | .list xs, .list ys => some ((xs.zip ys).map fun p => .tuple [p.1, p.2])
  | .tuple xs, .tuple ys => some ((xs.zip ys).map fun p => .tuple [p.1, p.2])
  | _, _ => none
mutual
def ev2 (G : G0) : Tm → M Val × M Bool
  | .c d => both (M.pure (.fz d))
  | .v i => both (getV i)
  | .g i => both (M.ofO (G.con[i]?.map .fz))
  | .bin o a b => both (M.bind ((ev2 G a).1) fun x => M.bind ((ev2 G b).1) fun y => M.bind (look x) fun d => M.bind (look y) fun e => M.ofO ((opV o d e).or (repV o x e)))
  | .neg a => both (M.bind ((ev2 G a).1) fun x => M.bind (look x) fun d => M.bind (M.ofO (asInt d)) fun i => M.pure (.fz (.int (-i))))
  | .cmp o a b => both (M.bind ((ev2 G a).1) fun x => M.bind ((ev2 G b).1) fun y => M.bind (look x) fun d => M.bind (look y) fun e => M.bind (M.ofO (cmpD o d e)) fun k => M.pure (.fz (.bool k)))
  | .cmp2 o o' a b c => both (M.bind ((ev2 G a).1) fun x => M.bind ((ev2 G b).1) fun y => M.bind (look x) fun d => M.bind (look y) fun e => M.bind (M.ofO (cmpD o d e)) fun k =>
      if k then M.bind ((ev2 G c).1) fun z => M.bind (look y) fun e => M.bind (look z) fun u => M.bind (M.ofO (cmpD o' e u)) fun k2 => M.pure (.fz (.bool k2)) else M.pure (.fz (.bool false)))
  | .nt a => (M.bind ((ev2 G a).1) fun x => M.bind (M.ofO (asBool x)) fun k => M.pure (.fz (.bool !k)), M.bind (ev2 G a).2 fun k => M.pure !k)
  | .an a b => (M.bind ((ev2 G a).1) fun x => M.bind (M.ofO (asBool x)) fun k => if k then (ev2 G b).1 else M.pure (.fz (.bool false)), M.bind (ev2 G a).2 fun k => if k then (ev2 G b).2 else M.pure false)
  | .or a b => (M.bind ((ev2 G a).1) fun x => M.bind (M.ofO (asBool x)) fun k => if k then M.pure (.fz (.bool true)) else (ev2 G b).1, M.bind (ev2 G a).2 fun k => if k then M.pure true else (ev2 G b).2)
  | .ie t a b => (M.bind (ev2 G t).2 fun k => if k then (ev2 G a).1 else (ev2 G b).1, M.bind (ev2 G t).2 fun k => if k then (ev2 G a).2 else (ev2 G b).2)
  | .tup l => both (M.bind (evs G l) fun ds => M.pure (.fz (.tuple ds)))
  | .lst l => both (M.bind (evs G l) fun ds => M.pure (.bx (.l ds)))
  | .ix a i => both (M.bind ((ev2 G a).1) fun x => M.bind ((ev2 G i).1) fun y => M.bind (look x) fun d => M.bind (look y) fun e => M.bind (M.ofO (ixD d e)) fun r => M.pure (.fz r))
  | .slL a lo => both (M.bind ((ev2 G a).1) fun x => M.bind ((ev2 G lo).1) fun y => M.bind (look y) fun e => M.bind (M.ofO (asInt e)) fun i => M.bind (look x) fun d => M.ofO (slV d (some i) none))
  | .slH a hi => both (M.bind ((ev2 G a).1) fun x => M.bind ((ev2 G hi).1) fun y => M.bind (look y) fun e => M.bind (M.ofO (asInt e)) fun i => M.bind (look x) fun d => M.ofO (slV d none (some i)))
  | .slB a lo hi => both (M.bind ((ev2 G a).1) fun x => M.bind ((ev2 G lo).1) fun y => M.bind (look y) fun e => M.bind (M.ofO (asInt e)) fun i => M.bind ((ev2 G hi).1) fun z => M.bind (look z) fun u => M.bind (M.ofO (asInt u)) fun j =>
      M.bind (look x) fun d => M.ofO (slV d (some i) (some j)))
  | .call f l => both (M.bind (evg G l) fun as => callM G.call f as)
  | .bi f l => both (M.bind (evl G l) fun xs => M.bind (looks xs) fun ds => M.ofO (biV f ds))
  | .isi a T => both (M.bind ((ev2 G a).1) fun x => M.bind (look x) fun d => M.pure (.fz (.bool (tyD d T))))
  | .mt m a l => both (M.bind ((ev2 G a).1) fun x => M.bind (look x) fun d0 => M.bind (M.ofO (mtKind m d0)) fun _ => M.bind (evl G l) fun xs => M.bind (look x) fun d => M.bind (looks xs) fun ds => M.ofO (mtV m d ds))
  | .pop i => both (popAt i)
  | .cmp0 own t it e => both (M.bind (evi G it) fun ds => fun ρ0 => if noBox own ρ0 = false then .st else M.bind (M.calm (comps own (fun d => M.bind (t.put d) fun _ => M.bind ((ev2 G e).1) fun x => M.bind (keep x) fun y => M.pure (some y)) ds [])) (fun ys ρ => .ok (.bx (.l ys)) (back own ρ0 ρ)) ρ0)
  | .cmp1 own t it w e => both (M.bind (evi G it) fun ds => fun ρ0 => if noBox own ρ0 = false then .st else M.bind (M.calm (comps own (fun d => M.bind (t.put d) fun _ => M.bind ((ev2 G w).2) fun k => if k then M.bind ((ev2 G e).1) fun x => M.bind (keep x) fun y => M.pure (some y) else M.pure none) ds [])) (fun ys ρ => .ok (.bx (.l ys)) (back own ρ0 ρ)) ρ0)
  | .fst l => both (M.bind (evf G l Str.empty) fun x => M.pure (.fz (.str x)))
  | .alls s g => both (M.bind ((ev2 G s).1) fun x => M.bind (look x) fun d => M.ofO (match d, G.con[g]? with
      | .str z, some (.str L) => some (.fz (.bool (z.cps.toList.all fun c => isSub ⟨#[c]⟩ L)))
      | _, _ => none))
  | .q e => both (quiet (ev2 G e).1)
/-- the parts of a text, from the left -/
def evf (G : G0) : Tms → Str → M Str
  | .nil, acc => M.pure acc
  | .cons a l, acc => M.bind ((ev2 G a).1) fun x => M.bind (look x) fun d => M.bind (M.ofO (strOf d)) fun y => if acc.length + y.length ≤ lim then evf G l (acc ++ y) else M.stuck
/-- kept data, from the left -/
def evs (G : G0) : Tms → M (List D)
  | .nil => M.pure []
  | .cons a l => M.bind ((ev2 G a).1) fun x => M.bind (keep x) fun d => M.bind (evs G l) fun ds => M.pure (d :: ds)
/-- values, from the left -/
def evl (G : G0) : Tms → M (List Val)
  | .nil => M.pure []
  | .cons a l => M.bind ((ev2 G a).1) fun x => M.bind (evl G l) fun xs => M.pure (x :: xs)
def evg (G : G0) : Ags → M (List (Slot ⊕ Nat))
  | .nil => M.pure []
  | .io i l => M.bind (getV i) fun x => M.bind (M.ofO (asVw x)) fun j => M.bind (evg G l) fun r => M.pure (.inr j :: r)
  | .cons a l => M.bind ((ev2 G a).1) fun x => M.bind (M.ofO x.slot) fun s => M.bind (evg G l) fun r => M.pure (.inl s :: r)
/-- what is walked -/
def evi (G : G0) : It → M (List D)
  | .el a => M.bind ((ev2 G a).1) fun x => M.bind (keep x) fun d => M.ofO (seqOf d)
  | .r1 a => M.bind ((ev2 G a).1) fun x => M.bind (look x) fun d => M.bind (M.ofO (asInt d)) fun i => if -1000000 ≤ i ∧ i ≤ 1000000 then M.pure ((List.range i.toNat).map fun (k : Nat) => .int k) else M.stuck
  | .r2 a b => M.bind ((ev2 G a).1) fun x => M.bind ((ev2 G b).1) fun y => M.bind (look x) fun d => M.bind (look y) fun e => M.bind (M.ofO (asInt d)) fun i => M.bind (M.ofO (asInt e)) fun j =>
      if -1000000 ≤ i ∧ i ≤ 1000000 ∧ -1000000 ≤ j ∧ j ≤ 1000000 then M.pure ((List.range (j - i).toNat).map fun (k : Nat) => .int (i + k)) else M.stuck
  | .zip a b => M.bind ((ev2 G a).1) fun x => M.bind ((ev2 G b).1) fun y => M.bind (keep x) fun d => M.bind (keep y) fun e => M.bind (M.ofO (zipD d e)) fun ps => M.pure ps
end
def ev (G : G0) (t : Tm) : M Val := (ev2 G t).1
def evT (G : G0) (t : Tm) : M Bool := (ev2 G t).2

mutual
def exec (G : G0) : Sm → M Fl
  | .asg b i e => M.bind (frz b) fun _ => M.bind (ev G e) fun x => M.bind (putV i x) fun _ => M.pure .nx
  | .unp b l e => M.bind (frz b) fun _ => M.bind (ev G e) fun x => match x with
      | .fz (.tuple ds) => M.bind (putL l ds) fun _ => M.pure .nx
      | _ => M.stuck
  | .par2 b i j x y => M.bind (frz b) fun _ => M.bind (evs G (.cons x (.cons y .nil))) fun x => match x with
      | [d, e] => M.bind (setS i (.fz d)) fun _ => M.bind (setS j (.fz e)) fun _ => M.pure .nx
      | _ => M.stuck
  | .aug b i o e => M.bind (frz b) fun _ => M.bind (getV i) fun x => M.bind (M.ofO (asIntV x)) fun a => M.bind (ev G e) fun y => M.bind (look y) fun d => M.bind (M.ofO (asInt d)) fun j => M.bind (M.ofO (opI o a j)) fun k => M.bind (setS i (.fz (.int k))) fun _ => M.pure .nx
  | .app b i e => M.bind (frz b) fun _ => M.bind (getV i) fun z => M.bind (M.ofO (asVw z)) fun _ => M.bind (ev G e) fun x => M.bind (keep x) fun d => M.bind (appAt i d) fun _ => M.pure .nx
  | .ex b e => M.bind (frz b) fun _ => M.bind (ev G e) fun _ => M.pure .nx
  | .ret b e => M.bind (frz b) fun _ => M.bind (ev G e) fun x => match x with
      | .vw _ => M.stuck
      | x => M.pure (.rt x)
  | .retv i => fun ρ => match ρ[i]? with
      | some (.fz d) => .ok (.rt (.fz d)) ρ
      | some (.bx b false _) => .ok (.rt (.bx b)) (ρ.set i .un)
      | some (.xc c) => .ok (.rt (.xc c)) ρ
      | _ => .st
  | .retN => M.pure (.rt (.fz .none))
  | .ifs b t p q => M.bind (frz b) fun _ => M.bind (evT G t) fun k => if k then execs G p else execs G q
  | .for_ b t it p => M.bind (frz b) fun _ => M.bind (evi G it) fun ds => loop (fun d => M.bind (t.put d) fun _ => execs G p) ds
  | .whl b t p => M.bind (frz b) fun _ => whiles (evT G t) (execs G p) G.turns
  | .rais c => fun ρ => .ex c ρ
  | .try_ c i p => fun ρ => match execs G p ρ with
      | .ok r ρ1 => .ok r ρ1
      | .ex k ρ1 => if G.sub k c then (match G.word k with
          | some z => if i < ρ1.length then .ok (.rt (.fz (.str z))) (ρ1.set i .un) else .st
          | none => .st) else .ex k ρ1
      | .st => .st
  | .brk => M.pure .bk
  | .cont => M.pure .ct
  | .pass => M.pure .nx
def execs (G : G0) : Sms → M Fl
  | .nil => M.pure .nx
  | .cons a l => M.bind (exec G a) fun r => match r with
      | .nx => execs G l
      | r => M.pure r
end
def outsOf : List Nat → Env → Option (List Box)
  | [], _ => some []
  | i :: is, ρ => match ρ[i]? with
    | some (.bx b true _) => (outsOf is ρ).map (b :: ·)
    | _ => none
/-- where the caller's boxes stand -/
def ioPos : Nat → List Slot → List Nat
  | _, [] => []
  | n, .bx _ _ _ :: r => n :: ioPos (n + 1) r
  | n, _ :: r => ioPos (n + 1) r
def okArg : Slot → Bool
  | .un => false
  | .bx _ io lk => io && !lk
  | _ => true
def endOf (io : List Nat) : Res Fl → FR
  | .ok (.rt (.vw _)) _ => .st
  | .ok (.rt v) ρ => (match outsOf io ρ with
    | some o => .ok v o
    | none => .st)
  | .ok .nx ρ => (match outsOf io ρ with
    | some o => .ok (.fz .none) o
    | none => .st)
  | .ex c ρ => (match outsOf io ρ with
    | some o => .ex c o
    | none => .st)
  | _ => .st
def callN (T : List Fd) (con : List D) (sub : Nat → Nat → Bool) (word : Nat → Option Str) (turns : Nat) : Nat → Call
  | 0 => fun _ _ => .st
  | n + 1 => fun f ss => match T[f]? with
    | some fd => if ss.length = fd.np ∧ ioPos 0 ss = fd.io ∧ ss.all okArg = true then endOf fd.io (execs ⟨callN T con sub word turns n, con, sub, word, turns⟩ fd.body (ss ++ List.replicate (fd.ns - fd.np) .un)) else .st
    | none => .st
end Pz

namespace Pz
open PySem PySem.Spec PyProof.Rows L2
open Classical in
/-- the heap without the addresses at O -/
noncomputable def hide (O : Addr → Prop) (H : Hp) : Hp := fun b => if O b then none else H b
theorem hide_some {O : Addr → Prop} {H : Hp} {b : Addr} {o : HO} : hide O H b = some o ↔ (¬ O b ∧ H b = some o) := by
  by_cases h : O b
  · have e : hide O H b = none := by
      unfold hide
      exact if_pos h
    rw [e]
    constructor
    · intro z
      cases z
    · intro z
      exact absurd h z.1
  · have e : hide O H b = H b := by
      unfold hide
      exact if_neg h
    rw [e]
    exact ⟨fun z => ⟨h, z⟩, fun z => z.2⟩
/-- no code object's table -/
def NoTbl (o : HO) : Prop := ∀ ps, o ≠ .tbl ps
/-- what is seen in G is seen in G', tables aside -/
def Sub (G G' : Hp) : Prop := ∀ b o, G b = some o → NoTbl o → G' b = some o
theorem Sub.refl (G : Hp) : Sub G G := fun _ _ h _ => h
theorem Sub.trans {G G' G'' : Hp} (a : Sub G G') (b : Sub G' G'') : Sub G G'' := fun c o h n => b c o (a c o h n) n
theorem hide_sub {O : Addr → Prop} {H : Hp} : Sub (hide O H) H := fun _ _ h _ => (hide_some.mp h).2
theorem nt_lst {xs : List V} : NoTbl (.lst xs) := fun _ z => by cases z
theorem nt_tup {xs : List V} : NoTbl (.tup xs) := fun _ z => by cases z
theorem nt_frz {o : Obj} {u : HO} : NoTbl (.frz o u) := fun _ z => by cases z
theorem nt_ext {φ : Heap → Prop} : NoTbl (.ext φ) := fun _ z => by cases z
theorem Sub.sql {K : PySem.W.Frag} {G G' : Hp} (s : Sub G G') {a : Addr} {xs : List V} (h : SqL K G a xs) : SqL K G' a xs := by
  rcases h with (h | ⟨o, h⟩) | h
  · exact .inl (.inl (s _ _ h nt_lst))
  · exact .inl (.inr ⟨o, s _ _ h nt_frz⟩)
  · exact .inr h
theorem Sub.sqt {K : PySem.W.Frag} {G G' : Hp} (s : Sub G G') {a : Addr} {xs : List V} (h : SqT K G a xs) : SqT K G' a xs := by
  rcases h with (h | ⟨o, h⟩) | h
  · exact .inl (.inl (s _ _ h nt_tup))
  · exact .inl (.inr ⟨o, s _ _ h nt_frz⟩)
  · exact .inr h
mutual
theorem dp_mono {K : PySem.W.Frag} {G G' : Hp} (s : Sub G G') : ∀ (d : PyData) (v : V), Dp K G v d → Dp K G' v d
  | .none, _, h => by cases h; exact .non
  | .bool b, _, h => by cases h; exact .bl b
  | .int i, _, h => by cases h; exact .int i
  | .str x, _, h => by cases h; exact .str x
  | .list ds, _, h => by
    cases h with
    | lst a b => exact .lst (s.sql a) (dpAll_mono s ds _ b)
  | .tuple ds, _, h => by
    cases h with
    | tup a b => exact .tup (s.sqt a) (dpAll_mono s ds _ b)
  | .dict _, _, h => by cases h
theorem dpAll_mono {K : PySem.W.Frag} {G G' : Hp} (s : Sub G G') : ∀ (ds : List PyData) (vs : List V), DpAll K G vs ds → DpAll K G' vs ds
  | [], _, h => by cases h; exact .nil
  | d :: ds, _, h => by
    cases h with
    | cons a b => exact .cons (dp_mono s d _ a) (dpAll_mono s ds _ b)
end
theorem dpAll_length {K : PySem.W.Frag} {G : Hp} : ∀ {vs : List V} {ds : List PyData}, DpAll K G vs ds → vs.length = ds.length
  | _, _, .nil => rfl
  | _, _, .cons _ t => congrArg Nat.succ (dpAll_length t)
theorem dpAll_get {K : PySem.W.Frag} {G : Hp} : ∀ {vs : List V} {ds : List PyData} (i : Nat) {d : PyData}, DpAll K G vs ds → ds[i]? = some d → ∃ v, vs[i]? = some v ∧ Dp K G v d
  | _, _, _, _, .nil, h => by simp at h
  | _, _, 0, _, .cons a _, h => by simp at h; subst h; exact ⟨_, rfl, a⟩
  | _, _, i + 1, _, .cons _ t, h => by
    obtain ⟨v, e, q⟩ := dpAll_get i t (by simpa using h)
    exact ⟨v, by simpa using e, q⟩
theorem dpAll_get' {K : PySem.W.Frag} {G : Hp} : ∀ {vs : List V} {ds : List PyData} (i : Nat) {v : V}, DpAll K G vs ds → vs[i]? = some v → ∃ d, ds[i]? = some d ∧ Dp K G v d
  | _, _, _, _, .nil, h => by simp at h
  | _, _, 0, _, .cons a _, h => by simp at h; subst h; exact ⟨_, rfl, a⟩
  | _, _, i + 1, _, .cons _ t, h => by
    obtain ⟨v, e, q⟩ := dpAll_get' i t (by simpa using h)
    exact ⟨v, by simpa using e, q⟩
theorem dpAll_append {K : PySem.W.Frag} {G : Hp} : ∀ {vs ws : List V} {ds es : List PyData}, DpAll K G vs ds → DpAll K G ws es → DpAll K G (vs ++ ws) (ds ++ es)
  | _, _, _, _, .nil, h => h
  | _, _, _, _, .cons a t, h => .cons a (dpAll_append t h)
theorem dpAll_drop {K : PySem.W.Frag} {G : Hp} : ∀ {vs : List V} {ds : List PyData} (n : Nat), DpAll K G vs ds → DpAll K G (vs.drop n) (ds.drop n)
  | _, _, 0, h => h
  | _, _, _ + 1, .nil => .nil
  | _, _, n + 1, .cons _ t => dpAll_drop n t
theorem dpAll_take {K : PySem.W.Frag} {G : Hp} : ∀ {vs : List V} {ds : List PyData} (n : Nat), DpAll K G vs ds → DpAll K G (vs.take n) (ds.take n)
  | _, _, 0, _ => .nil
  | _, _, _ + 1, .nil => .nil
  | _, _, n + 1, .cons a t => .cons a (dpAll_take n t)
theorem dpAll_dropLast {K : PySem.W.Frag} {G : Hp} : ∀ {vs : List V} {ds : List PyData}, DpAll K G vs ds → DpAll K G vs.dropLast ds.dropLast := fun {vs ds} h => by
  rw [List.dropLast_eq_take, List.dropLast_eq_take, dpAll_length h]
  exact dpAll_take _ h
theorem dpAll_rev {K : PySem.W.Frag} {G : Hp} : ∀ {vs : List V} {ds : List PyData}, DpAll K G vs ds → DpAll K G vs.reverse ds.reverse
  | _, _, .nil => .nil
  | _, _, .cons a t => by
    rw [List.reverse_cons, List.reverse_cons]
    exact dpAll_append (dpAll_rev t) (.cons a .nil)
theorem dpAll_rep {K : PySem.W.Frag} {G : Hp} {vs : List V} {ds : List PyData} (h : DpAll K G vs ds) : ∀ k : Nat, DpAll K G (List.replicate k vs).flatten (List.replicate k ds).flatten
  | 0 => .nil
  | k + 1 => by
    rw [List.replicate_succ, List.replicate_succ, List.flatten_cons, List.flatten_cons]
    exact dpAll_append h (dpAll_rep h k)
mutual
theorem dp_imm {K : PySem.W.Frag} {G G' : Hp} (s : ∀ a u, G a = some u → (∀ xs, u ≠ .lst xs) → G' a = some u) : ∀ (d : PyData) (v : V), imm d = true → Dp K G v d → Dp K G' v d
  | .none, _, _, h => by cases h; exact .non
  | .bool b, _, _, h => by cases h; exact .bl b
  | .int i, _, _, h => by cases h; exact .int i
  | .str x, _, _, h => by cases h; exact .str x
  | .list ds, _, i, h => by simp [imm] at i
  | .tuple ds, _, i, h => by
    cases h with
    | tup a b =>
      refine .tup ?_ (dpAll_imm s ds _ (by simpa [imm] using i) b)
      rcases a with (a | ⟨o, a⟩) | a
      · exact .inl (.inl (s _ _ a fun xs z => by cases z))
      · exact .inl (.inr ⟨o, s _ _ a fun xs z => by cases z⟩)
      · exact .inr a
  | .dict _, _, _, h => by cases h
theorem dpAll_imm {K : PySem.W.Frag} {G G' : Hp} (s : ∀ a u, G a = some u → (∀ xs, u ≠ .lst xs) → G' a = some u) : ∀ (ds : List PyData) (vs : List V), immAll ds = true → DpAll K G vs ds → DpAll K G' vs ds
  | [], _, _, h => by cases h; exact .nil
  | d :: ds, _, i, h => by
    have i' : imm d = true ∧ immAll ds = true := by simpa [immAll] using i
    cases h with
    | cons a b => exact .cons (dp_imm s d _ i'.1 a) (dpAll_imm s ds _ i'.2 b)
end

/-- K, the heap at the entry, which slot holds which box of the caller's, the addresses that belong to others, the exceptions' classes, the defs' tables -/
structure Wd where
  K : PySem.W.Frag
  H0 : Hp
  ia : Nat → Addr → Prop
  O0 : Addr → Prop
  C : Nat → Addr
  T : Addr → Prop
def Wd.IO (W : Wd) (a : Addr) : Prop := ∃ i, W.ia i a
def OwnAt (σ : L2.St) (ρ : Env) (i : Nat) (a : Addr) : Prop := (∃ b io lk, ρ[i]? = some (.bx b io lk)) ∧ σ[i]? = some (some (.ref a))
def Own (σ : L2.St) (ρ : Env) (a : Addr) : Prop := ∃ i, OwnAt σ ρ i a
def Oc (W : Wd) (σ : L2.St) (ρ : Env) (a : Addr) : Prop := W.O0 a ∨ Own σ ρ a
def BoxAt (K : PySem.W.Frag) (G H : Hp) (a : Addr) : Box → Prop
  | .l ds => ∃ vs, H a = some (.lst vs) ∧ DpAll K G vs ds
def XcAt (G : Hp) (a C : Addr) : Prop := ∃ φ, G a = some (.ext φ) ∧ ∀ h : Heap, φ h → ∃ o, h.get? a = some o ∧ o.cls = .ref C ∧ o.dict = none ∧ ∃ vs, o.data = .fields vs
def SlotOk (W : Wd) (G H : Hp) (v : Option V) : Slot → Prop
  | .un => True
  | .fz d => ∃ x, v = some x ∧ Dp W.K G x d
  | .bx b _ _ => ∃ a, v = some (.ref a) ∧ BoxAt W.K G H a b
  | .xc c => ∃ a, v = some (.ref a) ∧ XcAt G a (W.C c)
structure EnvOk (W : Wd) (σ : L2.St) (H : Hp) (ρ : Env) : Prop where
  len : ρ.length = σ.length
  fr : ∀ b o, W.H0 b = some o → ¬ W.IO b → NoTbl o → H b = some o
  th : ∀ b o, W.H0 b = some o → ∃ o', H b = some o'
  sl : ∀ (i : Nat) (s : Slot), ρ[i]? = some s → SlotOk W (hide (Oc W σ ρ) H) H (σ[i]?.join) s
  own : ∀ a, Own σ ρ a → W.IO a ∨ W.H0 a = none
  io : ∀ (i : Nat) (b : Box) (lk : Bool) (a : Addr), ρ[i]? = some (.bx b true lk) → σ[i]? = some (some (.ref a)) → W.ia i a
  nio : ∀ (i : Nat) (b : Box) (lk : Bool) (a : Addr), ρ[i]? = some (.bx b false lk) → σ[i]? = some (some (.ref a)) → ¬ W.O0 a
  inj : ∀ i j a, OwnAt σ ρ i a → OwnAt σ ρ j a → i = j
  tr : ∀ a, W.O0 a → ∃ o, H a = some o
  sub : ∀ a, W.IO a → W.O0 a
  tb : ∀ P, W.T P → GxR.TabG H P
/-- all but the boxes and the tables is as it was -/
structure Ext (σ : L2.St) (ρ : Env) (H H' : Hp) : Prop where
  cell : ∀ b o, H b = some o → ¬ Own σ ρ b → NoTbl o → H' b = some o
  there : ∀ b o, H b = some o → ∃ o', H' b = some o'
/-- a slot that holds a box holds one on -/
def Keeps (ρ ρ' : Env) : Prop := ∀ (i : Nat) (b : Box) (io lk : Bool), ρ[i]? = some (Slot.bx b io lk) → ∃ b', ρ'[i]? = some (Slot.bx b' io lk)
theorem Keeps.refl (ρ : Env) : Keeps ρ ρ := fun _ b _ _ h => ⟨b, h⟩
theorem Keeps.trans {ρ ρ1 ρ2 : Env} (a : Keeps ρ ρ1) (b : Keeps ρ1 ρ2) : Keeps ρ ρ2 := fun i x io lk h => by
  obtain ⟨y, h1⟩ := a i x io lk h
  exact b i y io lk h1
structure Eff (W : Wd) (σ : L2.St) (ρ : Env) (H : Hp) (ρ' : Env) (H' : Hp) : Prop where
  ext : Ext σ ρ H H'
  env : EnvOk W σ H' ρ'
  own : ∀ a, Own σ ρ' a → Own σ ρ a
  kp : Keeps ρ ρ'
theorem Eff.refl {W : Wd} {σ : L2.St} {ρ : Env} {H : Hp} (e : EnvOk W σ H ρ) : Eff W σ ρ H ρ H := ⟨⟨fun _ _ h _ _ => h, fun _ o h => ⟨o, h⟩⟩, e, fun _ h => h, .refl ρ⟩
theorem Eff.trans {W : Wd} {σ : L2.St} {ρ ρ1 ρ2 : Env} {H H1 H2 : Hp} (a : Eff W σ ρ H ρ1 H1) (b : Eff W σ ρ1 H1 ρ2 H2) : Eff W σ ρ H ρ2 H2 :=
  ⟨⟨fun c o h n t => b.ext.cell c o (a.ext.cell c o h n t) (fun z => n (a.own c z)) t, fun c o h => by
    obtain ⟨o', h'⟩ := a.ext.there c o h
    exact b.ext.there c o' h'⟩, b.env, fun c h => a.own c (b.own c h), a.kp.trans b.kp⟩
theorem Eff.sub {W : Wd} {σ : L2.St} {ρ ρ' : Env} {H H' : Hp} (e : Eff W σ ρ H ρ' H') : Sub (hide (Oc W σ ρ) H) (hide (Oc W σ ρ') H') := fun b o h t => by
  obtain ⟨n, h⟩ := hide_some.mp h
  refine hide_some.mpr ⟨fun z => n ?_, e.ext.cell b o h (fun z => n (.inr z)) t⟩
  rcases z with z | z
  · exact .inl z
  · exact .inr (e.own b z)
def ValOk (W : Wd) (σ : L2.St) (ρ : Env) (H : Hp) (v : V) : Val → Prop
  | .fz d => Dp W.K (hide (Oc W σ ρ) H) v d
  | .bx b => ∃ p, v = .ref p ∧ W.H0 p = none ∧ ¬ Oc W σ ρ p ∧ BoxAt W.K (hide (fun a => Oc W σ ρ a ∨ a = p) H) H p b
  | .vw i => σ[i]? = some (some v) ∧ ∃ b io lk, ρ[i]? = some (.bx b io lk)
  | .xc c => ∃ a, v = .ref a ∧ XcAt (hide (Oc W σ ρ) H) a (W.C c)
/-- the slots do not lean on p -/
def Free (W : Wd) (σ : L2.St) (ρ : Env) (H : Hp) (p : Addr) : Prop := ∀ (i : Nat) (s : Slot), ρ[i]? = some s → SlotOk W (hide (fun a => Oc W σ ρ a ∨ a = p) H) H (σ[i]?.join) s
/-- a value that has just come -/
def ValOkS (W : Wd) (σ : L2.St) (ρ : Env) (H : Hp) (v : V) (x : Val) : Prop := ValOk W σ ρ H v x ∧ ∀ b, x = .bx b → ∀ p, v = .ref p → Free W σ ρ H p
theorem BoxAt.mono {K : PySem.W.Frag} {G G' H H' : Hp} {a : Addr} {b : Box} (h : BoxAt K G H a b) (s : Sub G G') (k : ∀ o, H a = some o → NoTbl o → H' a = some o) : BoxAt K G' H' a b := by
  cases b with
  | l ds =>
    obtain ⟨vs, e, d⟩ := h
    exact ⟨vs, k _ e nt_lst, dpAll_mono s _ _ d⟩
theorem ValOk.eff {W : Wd} {σ : L2.St} {ρ ρ' : Env} {H H' : Hp} {v : V} {x : Val} (e : Eff W σ ρ H ρ' H') (h : ValOk W σ ρ H v x) : ValOk W σ ρ' H' v x := by
  cases x with
  | fz d => exact dp_mono e.sub _ _ h
  | bx b =>
    obtain ⟨p, rfl, h0, n, q⟩ := h
    refine ⟨p, rfl, h0, fun z => n ?_, q.mono (fun c o z t => ?_) fun o z t => e.ext.cell _ _ z (fun y => n (.inr y)) t⟩
    · rcases z with z | z
      · exact .inl z
      · exact .inr (e.own p z)
    · obtain ⟨n1, z⟩ := hide_some.mp z
      refine hide_some.mpr ⟨fun y => n1 ?_, e.ext.cell c o z (fun y => n1 (.inl (.inr y))) t⟩
      rcases y with (y | y) | y
      · exact .inl (.inl y)
      · exact .inl (.inr (e.own c y))
      · exact .inr y
  | vw i =>
    obtain ⟨h1, b, io, lk, h2⟩ := h
    obtain ⟨b', h3⟩ := e.kp i b io lk h2
    exact ⟨h1, b', io, lk, h3⟩
  | xc c =>
    obtain ⟨a, rfl, φ, q, r⟩ := h
    exact ⟨a, rfl, φ, e.sub _ _ q nt_ext, r⟩
/-- what is wanted behind a run -/
def Post (W : Wd) (Wx : WX) (σ : L2.St) (ρ : Env) (H : Hp) {α : Type} (r : Res α) (Q : α → Env → Hp → Prop) : Prop := match r with
  | .ok a ρ' => ∀ H', Eff W σ ρ H ρ' H' → Q a ρ' H'
  | .ex c ρ' => ∀ H', Eff W σ ρ H ρ' H' → Wx (.ref (W.C c)) none σ H'
  | .st => False
section
variable {W : Wd} {Wx : WX} {σ : L2.St} {ρ ρ' ρ1 : Env} {H H' H1 : Hp} {α β : Type}
theorem Post.mono {r : Res α} {Q Q' : α → Env → Hp → Prop} (h : Post W Wx σ ρ H r Q) (f : ∀ a ρ' H', Eff W σ ρ H ρ' H' → Q a ρ' H' → Q' a ρ' H') : Post W Wx σ ρ H r Q' := by
  cases r with
  | ok a ρ' => exact fun H' e => f a ρ' H' e (h H' e)
  | ex c ρ' => exact h
  | st => exact h
theorem Post.shift {r : Res α} {Q : α → Env → Hp → Prop} (h : Post W Wx σ ρ H r Q) (e : Eff W σ ρ H ρ1 H1) : Post W Wx σ ρ1 H1 r Q := by
  cases r with
  | ok a ρ' => exact fun H' e' => h H' (e.trans e')
  | ex c ρ' => exact fun H' e' => h H' (e.trans e')
  | st => exact h
theorem Post.bind {x : M α} {f : α → M β} {Q : β → Env → Hp → Prop} (h : Post W Wx σ ρ H (M.bind x f ρ) Q) : Post W Wx σ ρ H (x ρ) (fun a ρ1 H1 => Post W Wx σ ρ1 H1 (f a ρ1) Q) := by
  unfold M.bind at h
  cases e : x ρ with
  | ok a ρ1 =>
    rw [e] at h
    exact fun H1 e1 => h.shift e1
  | ex c ρ1 =>
    rw [e] at h
    exact h
  | st =>
    rw [e] at h
    exact h
/-- x run, its end known by t -/
theorem Post.run {x : M α} {f : α → M β} {Q : β → Env → Hp → Prop} {Q' : α → Env → Hp → Prop} (h : Post W Wx σ ρ H (M.bind x f ρ) Q) (k : ∀ a ρ1 H1, Eff W σ ρ H ρ1 H1 → Post W Wx σ ρ1 H1 (f a ρ1) Q → Q' a ρ1 H1) : Post W Wx σ ρ H (x ρ) Q' :=
  h.bind.mono k
theorem Post.ofO {o : Option α} {f : α → M β} {Q : β → Env → Hp → Prop} (h : Post W Wx σ ρ H (M.bind (M.ofO o) f ρ) Q) : ∃ a, o = some a ∧ Post W Wx σ ρ H (f a ρ) Q := by
  cases o with
  | none => exact h.elim
  | some a => exact ⟨a, rfl, h⟩
theorem Post.endO {o : Option α} {Q : α → Env → Hp → Prop} (h : Post W Wx σ ρ H (M.ofO o ρ) Q) : ∃ a, o = some a ∧ ∀ H', Eff W σ ρ H ρ H' → Q a ρ H' := by
  cases o with
  | none => exact h.elim
  | some a => exact ⟨a, rfl, h⟩
/-- a value that is looked at: its data, or a box that stands there -/
def Lk (K : PySem.W.Frag) (G H : Hp) (v : V) (d : D) : Prop := Dp K G v d ∨ ∃ a vs ds, v = .ref a ∧ d = .list ds ∧ H a = some (.lst vs) ∧ DpAll K G vs ds
theorem Lk.int {K : PySem.W.Frag} {G H : Hp} {v : V} {i : Int} (h : Lk K G H v (.int i)) : v = .int i := by
  rcases h with h | ⟨_, _, _, _, z, _⟩
  · cases h; rfl
  · cases z
theorem Lk.bool {K : PySem.W.Frag} {G H : Hp} {v : V} {b : Bool} (h : Lk K G H v (.bool b)) : v = .bl b := by
  rcases h with h | ⟨_, _, _, _, z, _⟩
  · cases h; rfl
  · cases z
theorem Lk.none {K : PySem.W.Frag} {G H : Hp} {v : V} (h : Lk K G H v .none) : v = .non := by
  rcases h with h | ⟨_, _, _, _, z, _⟩
  · cases h; rfl
  · cases z
theorem Lk.str {K : PySem.W.Frag} {G H : Hp} {v : V} {x : Str} (h : Lk K G H v (.str x)) : v = .str x := by
  rcases h with h | ⟨_, _, _, _, z, _⟩
  · cases h; rfl
  · cases z
theorem Lk.list {K : PySem.W.Frag} {O : Addr → Prop} {H : Hp} {v : V} {ds : List D} (h : Lk K (hide O H) H v (.list ds)) : ∃ a vs, v = .ref a ∧ SqL K H a vs ∧ DpAll K (hide O H) vs ds := by
  rcases h with h | ⟨a, vs, es, rfl, z, h, q⟩
  · cases h with
    | lst a b => exact ⟨_, _, rfl, hide_sub.sql a, b⟩
  · cases z
    exact ⟨a, vs, rfl, .of h, q⟩
theorem Lk.tuple {K : PySem.W.Frag} {O : Addr → Prop} {H : Hp} {v : V} {ds : List D} (h : Lk K (hide O H) H v (.tuple ds)) : ∃ a vs, v = .ref a ∧ SqT K H a vs ∧ DpAll K (hide O H) vs ds := by
  rcases h with h | ⟨a, vs, es, rfl, z, h, q⟩
  · cases h with
    | tup a b => exact ⟨_, _, rfl, hide_sub.sqt a, b⟩
  · cases z
theorem EnvOk.slot (e : EnvOk W σ H ρ) {i : Nat} {s : Slot} (h : ρ[i]? = some s) : SlotOk W (hide (Oc W σ ρ) H) H (σ[i]?.join) s := e.sl i s h
theorem join_some {α : Type} {o : Option (Option α)} {x : α} (h : o.join = some x) : o = some (some x) := by
  cases o with
  | none => cases h
  | some o => exact congrArg some h
theorem look_ok (e : EnvOk W σ H ρ) {v : V} {x : Val} (h : ValOk W σ ρ H v x) : look x ρ = .st ∨ ∃ d, look x ρ = .ok d ρ ∧ Lk W.K (hide (Oc W σ ρ) H) H v d := by
  cases x with
  | fz d => exact .inr ⟨d, rfl, .inl h⟩
  | bx b =>
    obtain ⟨p, rfl, _, n, q⟩ := h
    cases b with
    | l ds =>
      obtain ⟨vs, e1, q⟩ := q
      refine .inr ⟨_, rfl, .inr ⟨p, vs, ds, rfl, rfl, e1, dpAll_mono (fun c o z _ => ?_) _ _ q⟩⟩
      obtain ⟨n1, z⟩ := hide_some.mp z
      exact hide_some.mpr ⟨fun y => n1 (.inl y), z⟩
  | vw i =>
    obtain ⟨h1, b, io, lk, h2⟩ := h
    obtain ⟨a, ha, q⟩ := e.slot h2
    rw [h1] at ha
    have ev : v = .ref a := Option.some.inj ha
    refine .inr ⟨b.d, ?_, ?_⟩
    · show (match ρ[i]? with | some (.bx b _ _) => Res.ok b.d ρ | _ => .st) = _
      rw [h2]
    · cases b with
      | l ds =>
        obtain ⟨vs, e1, q⟩ := q
        exact .inr ⟨a, vs, ds, ev, rfl, e1, q⟩
  | xc c => exact .inl rfl
theorem Post.look (e : EnvOk W σ H ρ) {v : V} {x : Val} {f : D → M β} {Q : β → Env → Hp → Prop} (h : Post W Wx σ ρ H (M.bind (look x) f ρ) Q) (hv : ValOk W σ ρ H v x) : ∃ d, Lk W.K (hide (Oc W σ ρ) H) H v d ∧ Post W Wx σ ρ H (f d ρ) Q := by
  unfold M.bind at h
  rcases look_ok e hv with z | ⟨d, z, q⟩
  · rw [z] at h
    exact h.elim
  · rw [z] at h
    exact ⟨d, q, h⟩
theorem keep_ok {v : V} {x : Val} {d : D} (h : ValOk W σ ρ H v x) (k : x.keep = some d) : Dp W.K (hide (Oc W σ ρ) H) v d := by
  cases x with
  | fz d' => cases k; exact h
  | bx b =>
    cases k
    obtain ⟨p, rfl, _, n, q⟩ := h
    cases b with
    | l ds =>
      obtain ⟨vs, e1, q⟩ := q
      refine .lst (.of (hide_some.mpr ⟨n, e1⟩)) (dpAll_mono (fun c o z _ => ?_) _ _ q)
      obtain ⟨n1, z⟩ := hide_some.mp z
      exact hide_some.mpr ⟨fun y => n1 (.inl y), z⟩
  | vw i => cases k
  | xc c => cases k
theorem Post.keep {v : V} {x : Val} {f : D → M β} {Q : β → Env → Hp → Prop} (h : Post W Wx σ ρ H (M.bind (keep x) f ρ) Q) (hv : ValOk W σ ρ H v x) : ∃ d, Dp W.K (hide (Oc W σ ρ) H) v d ∧ Post W Wx σ ρ H (f d ρ) Q := by
  obtain ⟨d, e, q⟩ := Post.ofO h
  exact ⟨d, keep_ok hv e, q⟩
/-- the heap grows, tables aside -/
structure Grow (W : Wd) (H H' : Hp) : Prop where
  sub : Sub H H'
  there : ∀ b o, H b = some o → ∃ o', H' b = some o'
  tb : ∀ P, W.T P → GxR.TabG H P → GxR.TabG H' P
theorem EnvOk.grow (e : EnvOk W σ H ρ) (s : Grow W H H') : EnvOk W σ H' ρ := by
  have hs : Sub (hide (Oc W σ ρ) H) (hide (Oc W σ ρ) H') := fun b o h t => by
    obtain ⟨n, h⟩ := hide_some.mp h
    exact hide_some.mpr ⟨n, s.sub _ _ h t⟩
  refine ⟨e.len, fun b o h n t => s.sub _ _ (e.fr b o h n t) t, fun b o h => ?_, fun i sl h => ?_, e.own, e.io, e.nio, e.inj, fun a h => ?_, e.sub, fun P h => s.tb P h (e.tb P h)⟩
  · obtain ⟨o', h'⟩ := e.th b o h
    exact s.there b o' h'
  · have q := e.sl i sl h
    cases sl with
    | un => trivial
    | fz d =>
      obtain ⟨x, h1, h2⟩ := q
      exact ⟨x, h1, dp_mono hs _ _ h2⟩
    | bx b io lk =>
      obtain ⟨a, h1, h2⟩ := q
      exact ⟨a, h1, h2.mono hs fun o z t => s.sub _ _ z t⟩
    | xc c =>
      obtain ⟨a, h1, φ, h2, h3⟩ := q
      exact ⟨a, h1, φ, hs _ _ h2 nt_ext, h3⟩
  · obtain ⟨o, z⟩ := e.tr a h
    exact s.there a o z
theorem Eff.grow (e : EnvOk W σ H ρ) (s : Grow W H H') : Eff W σ ρ H ρ H' := ⟨⟨fun b o h _ t => s.sub b o h t, s.there⟩, e.grow s, fun _ h => h, .refl ρ⟩
theorem sub_upd {p : Addr} {o : HO} (h : H p = none) : Sub H (upd H p o) := fun b u e _ => by
  rw [upd_ne (ne_of_none e h)]
  exact e
theorem grow_upd {p : Addr} {o : HO} (h : H p = none) : Grow W H (upd H p o) := ⟨sub_upd h, fun b u e => ⟨u, by rw [upd_ne (ne_of_none e h)]; exact e⟩, fun P _ ⟨ps, e, t⟩ => ⟨ps, by rw [upd_ne (ne_of_none e h)]; exact e, t⟩⟩
theorem EnvOk.fresh (e : EnvOk W σ H ρ) {p : Addr} (h : H p = none) : W.H0 p = none ∧ ¬ Oc W σ ρ p := by
  have n0 : ¬ W.O0 p := fun z => by
    obtain ⟨o, q⟩ := e.tr p z
    rw [h] at q
    cases q
  constructor
  · cases q : W.H0 p with
    | none => rfl
    | some o =>
      obtain ⟨o', z⟩ := e.th p o q
      rw [h] at z
      cases z
  · rintro (z | ⟨i, ⟨b, io, lk, z⟩, y⟩)
    · exact n0 z
    · obtain ⟨a, ha, q⟩ := e.slot z
      rw [y] at ha
      have ea : V.ref p = V.ref a := Option.some.inj ha
      injection ea with ea
      subst ea
      cases b with
      | l ds =>
        obtain ⟨vs, e1, _⟩ := q
        rw [h] at e1
        cases e1
theorem Free.new (e : EnvOk W σ H ρ) {p : Addr} {o : HO} (h : H p = none) : Free W σ ρ (upd H p o) p := fun i s hs => by
  have q := e.sl i s hs
  have g : Sub (hide (Oc W σ ρ) H) (hide (fun a => Oc W σ ρ a ∨ a = p) (upd H p o)) := fun b u z _ => by
    obtain ⟨n, z⟩ := hide_some.mp z
    have hb : b ≠ p := ne_of_none z h
    exact hide_some.mpr ⟨fun y => y.elim n hb, by rw [upd_ne hb]; exact z⟩
  cases s with
  | un => trivial
  | fz d =>
    obtain ⟨x, h1, h2⟩ := q
    exact ⟨x, h1, dp_mono g _ _ h2⟩
  | bx b io lk =>
    obtain ⟨a, h1, h2⟩ := q
    exact ⟨a, h1, h2.mono g fun o z t => by rw [upd_ne (ne_of_none z h)]; exact z⟩
  | xc c =>
    obtain ⟨a, h1, φ, h2, h3⟩ := q
    exact ⟨a, h1, φ, g _ _ h2 nt_ext, h3⟩
/-- a new list -/
theorem newL (e : EnvOk W σ H ρ) {p : Addr} {vs : List V} {ds : List D} (h : H p = none) (q : DpAll W.K (hide (Oc W σ ρ) H) vs ds) : ValOk W σ ρ (upd H p (.lst vs)) (.ref p) (.bx (.l ds)) := by
  obtain ⟨h0, n⟩ := e.fresh h
  refine ⟨p, rfl, h0, n, vs, upd_same, dpAll_mono (fun c o z _ => ?_) _ _ q⟩
  obtain ⟨n1, z⟩ := hide_some.mp z
  have hc : c ≠ p := ne_of_none z h
  exact hide_some.mpr ⟨fun y => y.elim n1 hc, by rw [upd_ne hc]; exact z⟩
/-- a new tuple -/
theorem newT (e : EnvOk W σ H ρ) {p : Addr} {vs : List V} {ds : List D} (h : H p = none) (q : DpAll W.K (hide (Oc W σ ρ) H) vs ds) : ValOk W σ ρ (upd H p (.tup vs)) (.ref p) (.fz (.tuple ds)) := by
  obtain ⟨h0, n⟩ := e.fresh h
  refine .tup (.of (hide_some.mpr ⟨n, upd_same⟩)) (dpAll_mono (fun c o z _ => ?_) _ _ q)
  obtain ⟨n1, z⟩ := hide_some.mp z
  have hc : c ≠ p := ne_of_none z h
  exact hide_some.mpr ⟨n1, by rw [upd_ne hc]; exact z⟩
end
def tD (W : Wd) (Wx : WX) (x : M Val) : TE := fun σ H Q => ∃ ρ, EnvOk W σ H ρ ∧ Post W Wx σ ρ H (x ρ) fun a ρ' H' => ∀ v, ValOkS W σ ρ' H' v a → Q v H'
def tT (W : Wd) (Wx : WX) (x : M Bool) : TT := fun σ H Q => ∃ ρ, EnvOk W σ H ρ ∧ Post W Wx σ ρ H (x ρ) fun a ρ' H' => Q a H'
inductive ValsOk (W : Wd) (σ : L2.St) (ρ : Env) (H : Hp) : List V → List Val → Prop where
  | nil : ValsOk W σ ρ H [] []
  | cons {v : V} {vs : List V} {x : Val} {xs : List Val} : ValOk W σ ρ H v x → ValsOk W σ ρ H vs xs → ValsOk W σ ρ H (v :: vs) (x :: xs)
theorem ValsOk.eff {W : Wd} {σ : L2.St} {ρ ρ' : Env} {H H' : Hp} {vs : List V} {xs : List Val} (e : Eff W σ ρ H ρ' H') (h : ValsOk W σ ρ H vs xs) : ValsOk W σ ρ' H' vs xs := by
  induction h with
  | nil => exact .nil
  | cons a _ ih => exact .cons (a.eff e) ih
def tL (W : Wd) (Wx : WX) (x : M (List Val)) : TA := fun σ H Q => ∃ ρ, EnvOk W σ H ρ ∧ Post W Wx σ ρ H (x ρ) fun a ρ' H' => ∀ vs, ValsOk W σ ρ' H' vs a → Q vs H'
/-- kept data -/
def tS (W : Wd) (Wx : WX) (x : M (List D)) : TA := fun σ H Q => ∃ ρ, EnvOk W σ H ρ ∧ Post W Wx σ ρ H (x ρ) fun a ρ' H' => ∀ vs, DpAll W.K (hide (Oc W σ ρ') H') vs a → Q vs H'
theorem PE.weak {X : Cx} {e : Expr} {t t' : TE} (h : PE X e t) (f : ∀ σ H Q, t' σ H Q → t σ H Q) : PE X e t' := ⟨fun pins s σ H Q I q => h.run pins s σ H Q I (f σ H Q q)⟩
theorem PT.weak {X : Cx} {e : Expr} {t t' : TT} (h : PT X e t) (f : ∀ σ H Q, t' σ H Q → t σ H Q) : PT X e t' := ⟨fun pins s σ H Q I q => h.run pins s σ H Q I (f σ H Q q)⟩
theorem PW.weak {X : Cx} {e : Expr} {t t' : TT} (h : PW X e t) (f : ∀ σ H Q, t' σ H Q → t σ H Q) : PW X e t' := ⟨fun wh pins s σ H Q I q => h.run wh pins s σ H Q I (f σ H Q q)⟩
theorem PA.weak {X : Cx} {es : List Expr} {t t' : TA} (h : PA X es t) (f : ∀ σ H Q, t' σ H Q → t σ H Q) : PA X es t' := ⟨fun pos pins s σ H Q I q => h.run pos pins s σ H Q I (f σ H Q q)⟩
theorem PS.weak {X : Cx} {st : Stmt} {t t' : TS} (h : PS X st t) (f : ∀ D σ H, t' D σ H → t D σ H) : PS X st t' := ⟨fun pins s σ H D I q => h.run pins s σ H D I (f D σ H q)⟩
theorem PSs.weak {X : Cx} {st : List Stmt} {t t' : TS} (h : PSs X st t) (f : ∀ D σ H, t' D σ H → t D σ H) : PSs X st t' := ⟨fun pins s σ H D I q => h.run pins s σ H D I (f D σ H q)⟩
theorem PG.weak {X : Cx} {e : Expr} {t t' : TG} (h : PG X e t) (f : ∀ v σ H Q, t' v σ H Q → t v σ H Q) : PG X e t' := ⟨fun pins s σ H v u Q I r q => h.run pins s σ H v u Q I r (f v σ H Q q)⟩
theorem PI.weak {X : Cx} {tg e : Expr} {t t' : TI} (h : PI X tg e t) (f : ∀ σ H R, t' σ H R → t σ H R) : PI X tg e t' := ⟨fun pins s σ H R I q => h.run pins s σ H R I (f σ H R q)⟩
end Pz

namespace Pz
open PySem PySem.Spec PyProof.Rows L2
section
variable {X : Cx} {pins : List (Addr × Obj)} {σ : L2.St} {H : Hp} {s : Shared}
theorem inL (I : Inv X pins σ H s) {a : Addr} {xs : List V} (h : SqL X.K H a xs) : ∃ its : List Value, Vals xs its ∧ s.heap.IsList a its.toArray := by
  obtain ⟨its, r, p, _⟩ := I.list h
  exact ⟨its, r, p.isList⟩
theorem inT (I : Inv X pins σ H s) {a : Addr} {xs : List V} (h : SqT X.K H a xs) : ∃ its : List Value, Vals xs its ∧ s.heap.IsTuple a its.toArray := by
  obtain ⟨its, r, p, _⟩ := I.tuple h
  exact ⟨its, r, p⟩
mutual
def noDict : D → Bool
  | .list xs => noDictAll xs
  | .tuple xs => noDictAll xs
  | .dict _ => false
  | _ => true
def noDictAll : List D → Bool
  | [] => true
  | d :: ds => noDict d && noDictAll ds
end
mutual
theorem dp_noDict {K : PySem.W.Frag} {G : Hp} : ∀ (d : D) (v : V), Dp K G v d → noDict d = true
  | .none, _, _ => rfl
  | .bool _, _, _ => rfl
  | .int _, _, _ => rfl
  | .str _, _, _ => rfl
  | .list ds, _, h => by
    cases h with
    | lst _ b => exact dpAll_noDict ds _ b
  | .tuple ds, _, h => by
    cases h with
    | tup _ b => exact dpAll_noDict ds _ b
  | .dict _, _, h => by cases h
theorem dpAll_noDict {K : PySem.W.Frag} {G : Hp} : ∀ (ds : List D) (vs : List V), DpAll K G vs ds → noDictAll ds = true
  | [], _, _ => rfl
  | d :: ds, _, h => by
    cases h with
    | cons a b =>
      show (noDict d && noDictAll ds) = true
      rw [dp_noDict d _ a, dpAll_noDict ds _ b]
      rfl
end
mutual
/-- data at a place are told once -/
theorem dp_one (I : Inv X pins σ H s) : ∀ (d e : D) (v : V), Dp X.K H v d → Dp X.K H v e → d = e
  | .none, _, _, a, b => by cases a; cases b; rfl
  | .bool _, _, _, a, b => by cases a; cases b; rfl
  | .int _, _, _, a, b => by cases a; cases b; rfl
  | .str _, _, _, a, b => by cases a; cases b; rfl
  | .list ds, e, _, a, b => by
    cases a with
    | lst a1 a2 =>
      cases b with
      | lst b1 b2 =>
        have q := I.list_inj a1 b1
        subst q
        rw [dpAll_one I ds _ _ a2 b2]
      | tup b1 b2 =>
        obtain ⟨_, _, o, e1, c1, _⟩ := inL I a1
        obtain ⟨_, _, o2, e2, c2, _⟩ := inT I b1
        rw [e1] at e2
        cases e2
        rw [c1] at c2
        injection c2 with c2
        exact absurd c2 (by decide)
  | .tuple ds, e, _, a, b => by
    cases a with
    | tup a1 a2 =>
      cases b with
      | tup b1 b2 =>
        have q := I.tuple_inj a1 b1
        subst q
        rw [dpAll_one I ds _ _ a2 b2]
      | lst b1 b2 =>
        obtain ⟨_, _, o, e1, c1, _⟩ := inT I a1
        obtain ⟨_, _, o2, e2, c2, _⟩ := inL I b1
        rw [e1] at e2
        cases e2
        rw [c1] at c2
        injection c2 with c2
        exact absurd c2 (by decide)
  | .dict _, _, _, a, _ => by cases a
theorem dpAll_one (I : Inv X pins σ H s) : ∀ (ds es : List D) (vs : List V), DpAll X.K H vs ds → DpAll X.K H vs es → ds = es
  | [], _, _, a, b => by cases a; cases b; rfl
  | d :: ds, _, _, a, b => by
    cases a with
    | cons a1 a2 =>
      cases b with
      | cons b1 b2 => rw [dp_one I d _ _ a1 b1, dpAll_one I ds _ _ a2 b2]
end
mutual
theorem eqv_same : ∀ d : D, noDict d = true → PyData.eqv d d = true
  | .none, _ => rfl
  | .bool b, _ => by simp [PyData.eqv]
  | .int i, _ => by simp [PyData.eqv]
  | .str x, _ => by simp [PyData.eqv]
  | .list xs, h => eqv_sameAll xs h
  | .tuple xs, h => eqv_sameAll xs h
  | .dict _, h => nomatch h
theorem eqv_sameAll : ∀ xs : List D, noDictAll xs = true → PyData.eqvAll xs xs = true
  | [], _ => rfl
  | x :: xs, h => by
    have h' : noDict x = true ∧ noDictAll xs = true := by simpa [noDictAll] using h
    show (PyData.eqv x x && PyData.eqvAll xs xs) = true
    rw [eqv_same x h'.1, eqv_sameAll xs h'.2]
    rfl
end

theorem dp_list {K : PySem.W.Frag} {G : Hp} {v : V} {ds : List D} (h : Dp K G v (.list ds)) : ∃ a vs, v = .ref a ∧ SqL K G a vs ∧ DpAll K G vs ds := by
  cases h with
  | lst a b => exact ⟨_, _, rfl, a, b⟩
theorem dp_tuple {K : PySem.W.Frag} {G : Hp} {v : V} {ds : List D} (h : Dp K G v (.tuple ds)) : ∃ a vs, v = .ref a ∧ SqT K G a vs ∧ DpAll K G vs ds := by
  cases h with
  | tup a b => exact ⟨_, _, rfl, a, b⟩
abbrev Pairs (A : Around) (s : Shared) (its1 its2 : List Value) (ds es : List D) : Prop := ∀ j (h1 : j < its1.length) (h2 : j < its2.length), SeqAt.EqAt A s its1[j] its2[j] (SeqAt.pairEq ds es j)
section
variable {A : Around} {a1 a2 : Addr} {vs1 vs2 : List V} {its1 its2 : List Value} {ds es : List D}
theorem all_len {xs ys : List D} (h : xs.length = ys.length) : (List.range xs.length).all (SeqAt.pairEq xs ys) = PyData.eqvAll xs ys := SeqAt.eqvAll_same_length h
theorem rc_list (I : Inv X pins σ H s) (L1 : s.heap.IsList a1 its1.toArray) (L2 : s.heap.IsList a2 its2.toArray) (V1 : Vals vs1 its1) (V2 : Vals vs2 its2) (D1 : DpAll X.K H vs1 ds) (D2 : DpAll X.K H vs2 es)
    (hu : A.units + min (PyData.depth (.list ds)) (PyData.depth (.list es)) < cLine) (k : Pairs A.in1 s its1 its2 ds es) : SeqAt.RcAt A s (.ref a1) (.ref a2) (PyData.eqvAll ds es) := by
  have n1 : its1.length = ds.length := by rw [← V1.length, dpAll_length D1]
  have n2 : its2.length = es.length := by rw [← V2.length, dpAll_length D2]
  by_cases hs : its1.length = its2.length
  · rw [← all_len (by omega : ds.length = es.length), ← n1]
    have := SeqAt.RcAt.lists (e := SeqAt.pairEq ds es) L1 L2 (by simpa using hs) (SeqAt.room_here hu) fun j j1 j2 => by simpa using k j (by simpa using j1) (by simpa using j2)
    simpa using this
  · rw [SeqAt.eqvAll_other_length (by omega : ds.length ≠ es.length)]
    exact SeqAt.RcAt.lists_lengths L1 L2 (by simpa using hs) (SeqAt.room_here hu)
theorem rc_tuple (I : Inv X pins σ H s) (L1 : s.heap.IsTuple a1 its1.toArray) (L2 : s.heap.IsTuple a2 its2.toArray) (V1 : Vals vs1 its1) (V2 : Vals vs2 its2) (D1 : DpAll X.K H vs1 ds) (D2 : DpAll X.K H vs2 es)
    (hu : A.units + min (PyData.depth (.tuple ds)) (PyData.depth (.tuple es)) < cLine) (k : Pairs A.in1 s its1 its2 ds es) : SeqAt.RcAt A s (.ref a1) (.ref a2) (PyData.eqvAll ds es) := by
  have n1 : its1.length = ds.length := by rw [← V1.length, dpAll_length D1]
  have n2 : its2.length = es.length := by rw [← V2.length, dpAll_length D2]
  rw [← SeqAt.eqvAll_eq ds es, ← n1, ← n2]
  have := SeqAt.RcAt.tuples (e := SeqAt.pairEq ds es) L1 L2 (SeqAt.room_here hu) fun j j1 j2 => by simpa using k j (by simpa using j1) (by simpa using j2)
  simpa using this
theorem eq_seq_list (I : Inv X pins σ H s) (L1 : s.heap.IsList a1 its1.toArray) (L2 : s.heap.IsList a2 its2.toArray) (V1 : Vals vs1 its1) (V2 : Vals vs2 its2) (D1 : DpAll X.K H vs1 ds) (D2 : DpAll X.K H vs2 es)
    (hu : A.units + min (PyData.depth (.list ds)) (PyData.depth (.list es)) < cLine) (k : Pairs A.in1 s its1 its2 ds es) : SeqAt.EqAt A s (.ref a1) (.ref a2) (PyData.eqv (.list ds) (.list es)) := by
  show SeqAt.EqAt A s (.ref a1) (.ref a2) (PyData.eqvAll ds es)
  by_cases e : a1 = a2
  · subst e
    obtain ⟨o, e1, _, _, d1⟩ := L1
    obtain ⟨o2, e2, _, _, d2⟩ := L2
    rw [e1] at e2
    cases e2
    rw [d1] at d2
    injection d2 with d2 _
    have d2 : its1 = its2 := by simpa using congrArg Array.toList d2
    subst d2
    have ev := Vals.inj V1 V2
    subst ev
    have ed := dpAll_one I ds es _ D1 D2
    subst ed
    rw [eqv_sameAll ds (dpAll_noDict ds _ D1)]
    exact SeqAt.EqAt.same _
  · exact SeqAt.EqAt.of_refs e (rc_list I L1 L2 V1 V2 D1 D2 hu k)
theorem eq_seq_tuple (I : Inv X pins σ H s) (L1 : s.heap.IsTuple a1 its1.toArray) (L2 : s.heap.IsTuple a2 its2.toArray) (V1 : Vals vs1 its1) (V2 : Vals vs2 its2) (D1 : DpAll X.K H vs1 ds) (D2 : DpAll X.K H vs2 es)
    (hu : A.units + min (PyData.depth (.tuple ds)) (PyData.depth (.tuple es)) < cLine) (k : Pairs A.in1 s its1 its2 ds es) : SeqAt.EqAt A s (.ref a1) (.ref a2) (PyData.eqv (.tuple ds) (.tuple es)) := by
  show SeqAt.EqAt A s (.ref a1) (.ref a2) (PyData.eqvAll ds es)
  by_cases e : a1 = a2
  · subst e
    obtain ⟨o, e1, _, _, d1⟩ := L1
    obtain ⟨o2, e2, _, _, d2⟩ := L2
    rw [e1] at e2
    cases e2
    rw [d1] at d2
    injection d2 with d2 _
    have d2 : its1 = its2 := by simpa using congrArg Array.toList d2
    subst d2
    have ev := Vals.inj V1 V2
    subst ev
    have ed := dpAll_one I ds es _ D1 D2
    subst ed
    rw [eqv_sameAll ds (dpAll_noDict ds _ D1)]
    exact SeqAt.EqAt.same _
  · exact SeqAt.EqAt.of_refs e (rc_tuple I L1 L2 V1 V2 D1 D2 hu k)
theorem rc_seq_list (I : Inv X pins σ H s) (L1 : s.heap.IsList a1 its1.toArray) (L2 : s.heap.IsList a2 its2.toArray) (V1 : Vals vs1 its1) (V2 : Vals vs2 its2) (D1 : DpAll X.K H vs1 ds) (D2 : DpAll X.K H vs2 es)
    (hu : A.units + min (PyData.depth (.list ds)) (PyData.depth (.list es)) < cLine) (k : Pairs A.in1 s its1 its2 ds es) : SeqAt.RcAt A s (.ref a1) (.ref a2) (PyData.eqv (.list ds) (.list es)) := rc_list I L1 L2 V1 V2 D1 D2 hu k
theorem rc_seq_tuple (I : Inv X pins σ H s) (L1 : s.heap.IsTuple a1 its1.toArray) (L2 : s.heap.IsTuple a2 its2.toArray) (V1 : Vals vs1 its1) (V2 : Vals vs2 its2) (D1 : DpAll X.K H vs1 ds) (D2 : DpAll X.K H vs2 es)
    (hu : A.units + min (PyData.depth (.tuple ds)) (PyData.depth (.tuple es)) < cLine) (k : Pairs A.in1 s its1 its2 ds es) : SeqAt.RcAt A s (.ref a1) (.ref a2) (PyData.eqv (.tuple ds) (.tuple es)) := rc_tuple I L1 L2 V1 V2 D1 D2 hu k
theorem ne_seq_list (I : Inv X pins σ H s) (L1 : s.heap.IsList a1 its1.toArray) (L2 : s.heap.IsList a2 its2.toArray) (V1 : Vals vs1 its1) (V2 : Vals vs2 its2) (D1 : DpAll X.K H vs1 ds) (D2 : DpAll X.K H vs2 es)
    (hu : A.units + min (PyData.depth (.list ds)) (PyData.depth (.list es)) < cLine) (k : Pairs A.in1 s its1 its2 ds es) : SeqAt.RcNeAt A s (.ref a1) (.ref a2) (!PyData.eqv (.list ds) (.list es)) := by
  show SeqAt.RcNeAt A s (.ref a1) (.ref a2) (!PyData.eqvAll ds es)
  have n1 : its1.length = ds.length := by rw [← V1.length, dpAll_length D1]
  have n2 : its2.length = es.length := by rw [← V2.length, dpAll_length D2]
  by_cases hs : its1.length = its2.length
  · rw [← all_len (by omega : ds.length = es.length), ← n1]
    have := SeqAt.RcNeAt.lists (e := SeqAt.pairEq ds es) L1 L2 (by simpa using hs) (SeqAt.room_here hu) fun j j1 j2 => by simpa using k j (by simpa using j1) (by simpa using j2)
    simpa using this
  · rw [SeqAt.eqvAll_other_length (by omega : ds.length ≠ es.length)]
    exact SeqAt.RcNeAt.lists_lengths L1 L2 (by simpa using hs) (SeqAt.room_here hu)
theorem ne_seq_tuple (I : Inv X pins σ H s) (L1 : s.heap.IsTuple a1 its1.toArray) (L2 : s.heap.IsTuple a2 its2.toArray) (V1 : Vals vs1 its1) (V2 : Vals vs2 its2) (D1 : DpAll X.K H vs1 ds) (D2 : DpAll X.K H vs2 es)
    (hu : A.units + min (PyData.depth (.tuple ds)) (PyData.depth (.tuple es)) < cLine) (k : Pairs A.in1 s its1 its2 ds es) : SeqAt.RcNeAt A s (.ref a1) (.ref a2) (!PyData.eqv (.tuple ds) (.tuple es)) := by
  show SeqAt.RcNeAt A s (.ref a1) (.ref a2) (!PyData.eqvAll ds es)
  have n1 : its1.length = ds.length := by rw [← V1.length, dpAll_length D1]
  have n2 : its2.length = es.length := by rw [← V2.length, dpAll_length D2]
  rw [← SeqAt.eqvAll_eq ds es, ← n1, ← n2]
  have := SeqAt.RcNeAt.tuples (e := SeqAt.pairEq ds es) L1 L2 (SeqAt.room_here hu) fun j j1 j2 => by simpa using k j (by simpa using j1) (by simpa using j2)
  simpa using this
end
theorem pair_all : ∀ xs ys : List D, ((List.range (min xs.length ys.length)).all (SeqAt.pairEq xs ys) && xs.length == ys.length) = PyData.eqvAll xs ys := SeqAt.eqvAll_eq
theorem pair_cons (x y : D) (xs ys : List D) (j : Nat) : SeqAt.pairEq (x :: xs) (y :: ys) (j + 1) = SeqAt.pairEq xs ys j := rfl
mutual
/-- == of data that stand in the heap -/
theorem eq_dp (I : Inv X pins σ H s) : ∀ (d e : D) (A : Around) (v w : V) (u z : Value), Dp X.K H v d → Dp X.K H w e → RelV v u → RelV w z → A.units + min d.depth e.depth < cLine → SeqAt.EqAt A s u z (PyData.eqv d e)
  | .none, .none, A, v, w, u, z, h1, h2, r1, r2, hu => by
    cases h1; cases r1
    cases h2; cases r2
    exact SeqAt.EqAt.same _
  | .none, .bool b2, A, v, w, u, z, h1, h2, r1, r2, hu => by
    cases h1; cases r1
    cases h2; cases r2
    exact SeqAt.EqAt.none_bool b2
  | .none, .int i2, A, v, w, u, z, h1, h2, r1, r2, hu => by
    cases h1; cases r1
    cases h2; obtain ⟨t2, q2⟩ := r2; cases q2
    exact SeqAt.EqAt.none_int i2 t2
  | .none, .str x2, A, v, w, u, z, h1, h2, r1, r2, hu => by
    cases h1; cases r1
    cases h2; obtain ⟨t2, q2⟩ := r2; cases q2
    exact SeqAt.EqAt.none_str x2 t2
  | .none, .list xs2, A, v, w, u, z, h1, h2, r1, r2, hu => by
    cases h1; cases r1
    obtain ⟨a2, vs2, ev2, S2, D2⟩ := dp_list h2; subst ev2; cases r2; obtain ⟨its2, V2, L2⟩ := inL I S2
    exact SeqAt.EqAt.none_list L2 (SeqAt.room_here hu)
  | .none, .tuple xs2, A, v, w, u, z, h1, h2, r1, r2, hu => by
    cases h1; cases r1
    obtain ⟨a2, vs2, ev2, S2, D2⟩ := dp_tuple h2; subst ev2; cases r2; obtain ⟨its2, V2, L2⟩ := inT I S2
    exact SeqAt.EqAt.none_tuple L2 (SeqAt.room_here hu)
  | .none, .dict _, _, _, _, _, _, _, h, _, _, _ => by cases h
  | .bool b1, .none, A, v, w, u, z, h1, h2, r1, r2, hu => by
    cases h1; cases r1
    cases h2; cases r2
    exact SeqAt.EqAt.bool_none b1
  | .bool b1, .bool b2, A, v, w, u, z, h1, h2, r1, r2, hu => by
    cases h1; cases r1
    cases h2; cases r2
    exact SeqAt.EqAt.bool_bool b1 b2
  | .bool b1, .int i2, A, v, w, u, z, h1, h2, r1, r2, hu => by
    cases h1; cases r1
    cases h2; obtain ⟨t2, q2⟩ := r2; cases q2
    exact SeqAt.EqAt.bool_int b1 i2 t2
  | .bool b1, .str x2, A, v, w, u, z, h1, h2, r1, r2, hu => by
    cases h1; cases r1
    cases h2; obtain ⟨t2, q2⟩ := r2; cases q2
    exact SeqAt.EqAt.bool_str b1 x2 t2
  | .bool b1, .list xs2, A, v, w, u, z, h1, h2, r1, r2, hu => by
    cases h1; cases r1
    obtain ⟨a2, vs2, ev2, S2, D2⟩ := dp_list h2; subst ev2; cases r2; obtain ⟨its2, V2, L2⟩ := inL I S2
    exact SeqAt.EqAt.bool_list b1 L2 (SeqAt.room_here hu)
  | .bool b1, .tuple xs2, A, v, w, u, z, h1, h2, r1, r2, hu => by
    cases h1; cases r1
    obtain ⟨a2, vs2, ev2, S2, D2⟩ := dp_tuple h2; subst ev2; cases r2; obtain ⟨its2, V2, L2⟩ := inT I S2
    exact SeqAt.EqAt.bool_tuple b1 L2 (SeqAt.room_here hu)
  | .bool b1, .dict _, _, _, _, _, _, _, h, _, _, _ => by cases h
  | .int i1, .none, A, v, w, u, z, h1, h2, r1, r2, hu => by
    cases h1; obtain ⟨t1, q1⟩ := r1; cases q1
    cases h2; cases r2
    exact SeqAt.EqAt.int_none i1 t1
  | .int i1, .bool b2, A, v, w, u, z, h1, h2, r1, r2, hu => by
    cases h1; obtain ⟨t1, q1⟩ := r1; cases q1
    cases h2; cases r2
    exact SeqAt.EqAt.int_bool i1 t1 b2
  | .int i1, .int i2, A, v, w, u, z, h1, h2, r1, r2, hu => by
    cases h1; obtain ⟨t1, q1⟩ := r1; cases q1
    cases h2; obtain ⟨t2, q2⟩ := r2; cases q2
    exact SeqAt.EqAt.int_int i1 t1 i2 t2
  | .int i1, .str x2, A, v, w, u, z, h1, h2, r1, r2, hu => by
    cases h1; obtain ⟨t1, q1⟩ := r1; cases q1
    cases h2; obtain ⟨t2, q2⟩ := r2; cases q2
    exact SeqAt.EqAt.int_str i1 t1 x2 t2
  | .int i1, .list xs2, A, v, w, u, z, h1, h2, r1, r2, hu => by
    cases h1; obtain ⟨t1, q1⟩ := r1; cases q1
    obtain ⟨a2, vs2, ev2, S2, D2⟩ := dp_list h2; subst ev2; cases r2; obtain ⟨its2, V2, L2⟩ := inL I S2
    exact SeqAt.EqAt.int_list i1 t1 L2 (SeqAt.room_here hu)
  | .int i1, .tuple xs2, A, v, w, u, z, h1, h2, r1, r2, hu => by
    cases h1; obtain ⟨t1, q1⟩ := r1; cases q1
    obtain ⟨a2, vs2, ev2, S2, D2⟩ := dp_tuple h2; subst ev2; cases r2; obtain ⟨its2, V2, L2⟩ := inT I S2
    exact SeqAt.EqAt.int_tuple i1 t1 L2 (SeqAt.room_here hu)
  | .int i1, .dict _, _, _, _, _, _, _, h, _, _, _ => by cases h
  | .str x1, .none, A, v, w, u, z, h1, h2, r1, r2, hu => by
    cases h1; obtain ⟨t1, q1⟩ := r1; cases q1
    cases h2; cases r2
    exact SeqAt.EqAt.str_none x1 t1
  | .str x1, .bool b2, A, v, w, u, z, h1, h2, r1, r2, hu => by
    cases h1; obtain ⟨t1, q1⟩ := r1; cases q1
    cases h2; cases r2
    exact SeqAt.EqAt.str_bool x1 t1 b2
  | .str x1, .int i2, A, v, w, u, z, h1, h2, r1, r2, hu => by
    cases h1; obtain ⟨t1, q1⟩ := r1; cases q1
    cases h2; obtain ⟨t2, q2⟩ := r2; cases q2
    exact SeqAt.EqAt.str_int x1 t1 i2 t2
  | .str x1, .str x2, A, v, w, u, z, h1, h2, r1, r2, hu => by
    cases h1; obtain ⟨t1, q1⟩ := r1; cases q1
    cases h2; obtain ⟨t2, q2⟩ := r2; cases q2
    exact SeqAt.EqAt.str_str x1 t1 x2 t2
  | .str x1, .list xs2, A, v, w, u, z, h1, h2, r1, r2, hu => by
    cases h1; obtain ⟨t1, q1⟩ := r1; cases q1
    obtain ⟨a2, vs2, ev2, S2, D2⟩ := dp_list h2; subst ev2; cases r2; obtain ⟨its2, V2, L2⟩ := inL I S2
    exact SeqAt.EqAt.str_list x1 t1 L2 (SeqAt.room_here hu)
  | .str x1, .tuple xs2, A, v, w, u, z, h1, h2, r1, r2, hu => by
    cases h1; obtain ⟨t1, q1⟩ := r1; cases q1
    obtain ⟨a2, vs2, ev2, S2, D2⟩ := dp_tuple h2; subst ev2; cases r2; obtain ⟨its2, V2, L2⟩ := inT I S2
    exact SeqAt.EqAt.str_tuple x1 t1 L2 (SeqAt.room_here hu)
  | .str x1, .dict _, _, _, _, _, _, _, h, _, _, _ => by cases h
  | .list xs1, .none, A, v, w, u, z, h1, h2, r1, r2, hu => by
    obtain ⟨a1, vs1, ev1, S1, D1⟩ := dp_list h1; subst ev1; cases r1; obtain ⟨its1, V1, L1⟩ := inL I S1
    cases h2; cases r2
    exact SeqAt.EqAt.list_none L1 (SeqAt.room_here hu)
  | .list xs1, .bool b2, A, v, w, u, z, h1, h2, r1, r2, hu => by
    obtain ⟨a1, vs1, ev1, S1, D1⟩ := dp_list h1; subst ev1; cases r1; obtain ⟨its1, V1, L1⟩ := inL I S1
    cases h2; cases r2
    exact SeqAt.EqAt.list_bool b2 L1 (SeqAt.room_here hu)
  | .list xs1, .int i2, A, v, w, u, z, h1, h2, r1, r2, hu => by
    obtain ⟨a1, vs1, ev1, S1, D1⟩ := dp_list h1; subst ev1; cases r1; obtain ⟨its1, V1, L1⟩ := inL I S1
    cases h2; obtain ⟨t2, q2⟩ := r2; cases q2
    exact SeqAt.EqAt.list_int i2 t2 L1 (SeqAt.room_here hu)
  | .list xs1, .str x2, A, v, w, u, z, h1, h2, r1, r2, hu => by
    obtain ⟨a1, vs1, ev1, S1, D1⟩ := dp_list h1; subst ev1; cases r1; obtain ⟨its1, V1, L1⟩ := inL I S1
    cases h2; obtain ⟨t2, q2⟩ := r2; cases q2
    exact SeqAt.EqAt.list_str x2 t2 L1 (SeqAt.room_here hu)
  | .list xs1, .list xs2, A, v, w, u, z, h1, h2, r1, r2, hu => by
    obtain ⟨a1, vs1, ev1, S1, D1⟩ := dp_list h1; subst ev1; cases r1; obtain ⟨its1, V1, L1⟩ := inL I S1
    obtain ⟨a2, vs2, ev2, S2, D2⟩ := dp_list h2; subst ev2; cases r2; obtain ⟨its2, V2, L2⟩ := inL I S2
    exact eq_seq_list I L1 L2 V1 V2 D1 D2 hu (eq_all I xs1 xs2 A.in1 vs1 vs2 its1 its2 D1 D2 V1 V2 (SeqAt.room_in hu))
  | .list xs1, .tuple xs2, A, v, w, u, z, h1, h2, r1, r2, hu => by
    obtain ⟨a1, vs1, ev1, S1, D1⟩ := dp_list h1; subst ev1; cases r1; obtain ⟨its1, V1, L1⟩ := inL I S1
    obtain ⟨a2, vs2, ev2, S2, D2⟩ := dp_tuple h2; subst ev2; cases r2; obtain ⟨its2, V2, L2⟩ := inT I S2
    exact SeqAt.EqAt.list_tuple L1 L2 (SeqAt.room_here hu)
  | .list xs1, .dict _, _, _, _, _, _, _, h, _, _, _ => by cases h
  | .tuple xs1, .none, A, v, w, u, z, h1, h2, r1, r2, hu => by
    obtain ⟨a1, vs1, ev1, S1, D1⟩ := dp_tuple h1; subst ev1; cases r1; obtain ⟨its1, V1, L1⟩ := inT I S1
    cases h2; cases r2
    exact SeqAt.EqAt.tuple_none L1 (SeqAt.room_here hu)
  | .tuple xs1, .bool b2, A, v, w, u, z, h1, h2, r1, r2, hu => by
    obtain ⟨a1, vs1, ev1, S1, D1⟩ := dp_tuple h1; subst ev1; cases r1; obtain ⟨its1, V1, L1⟩ := inT I S1
    cases h2; cases r2
    exact SeqAt.EqAt.tuple_bool b2 L1 (SeqAt.room_here hu)
  | .tuple xs1, .int i2, A, v, w, u, z, h1, h2, r1, r2, hu => by
    obtain ⟨a1, vs1, ev1, S1, D1⟩ := dp_tuple h1; subst ev1; cases r1; obtain ⟨its1, V1, L1⟩ := inT I S1
    cases h2; obtain ⟨t2, q2⟩ := r2; cases q2
    exact SeqAt.EqAt.tuple_int i2 t2 L1 (SeqAt.room_here hu)
  | .tuple xs1, .str x2, A, v, w, u, z, h1, h2, r1, r2, hu => by
    obtain ⟨a1, vs1, ev1, S1, D1⟩ := dp_tuple h1; subst ev1; cases r1; obtain ⟨its1, V1, L1⟩ := inT I S1
    cases h2; obtain ⟨t2, q2⟩ := r2; cases q2
    exact SeqAt.EqAt.tuple_str x2 t2 L1 (SeqAt.room_here hu)
  | .tuple xs1, .list xs2, A, v, w, u, z, h1, h2, r1, r2, hu => by
    obtain ⟨a1, vs1, ev1, S1, D1⟩ := dp_tuple h1; subst ev1; cases r1; obtain ⟨its1, V1, L1⟩ := inT I S1
    obtain ⟨a2, vs2, ev2, S2, D2⟩ := dp_list h2; subst ev2; cases r2; obtain ⟨its2, V2, L2⟩ := inL I S2
    exact SeqAt.EqAt.tuple_list L1 L2 (SeqAt.room_here hu)
  | .tuple xs1, .tuple xs2, A, v, w, u, z, h1, h2, r1, r2, hu => by
    obtain ⟨a1, vs1, ev1, S1, D1⟩ := dp_tuple h1; subst ev1; cases r1; obtain ⟨its1, V1, L1⟩ := inT I S1
    obtain ⟨a2, vs2, ev2, S2, D2⟩ := dp_tuple h2; subst ev2; cases r2; obtain ⟨its2, V2, L2⟩ := inT I S2
    exact eq_seq_tuple I L1 L2 V1 V2 D1 D2 hu (eq_all I xs1 xs2 A.in1 vs1 vs2 its1 its2 D1 D2 V1 V2 (SeqAt.room_in hu))
  | .tuple xs1, .dict _, _, _, _, _, _, _, h, _, _, _ => by cases h
  | .dict _, _, _, _, _, _, _, h, _, _, _, _ => by cases h
theorem eq_all (I : Inv X pins σ H s) : ∀ (ds es : List D) (A : Around) (vs ws : List V) (us zs : List Value), DpAll X.K H vs ds → DpAll X.K H ws es → Vals vs us → Vals ws zs → A.units + min (PyData.depthAll ds) (PyData.depthAll es) < cLine →
    ∀ j (h1 : j < us.length) (h2 : j < zs.length), SeqAt.EqAt A s us[j] zs[j] (SeqAt.pairEq ds es j)
  | [], _, _, _, _, _, _, a, _, r, _, _, j, h1, _ => by
    cases a
    cases r
    exact absurd h1 (Nat.not_lt_zero _)
  | _ :: _, [], _, _, _, _, _, _, b, _, r, _, j, _, h2 => by
    cases b
    cases r
    exact absurd h2 (Nat.not_lt_zero _)
  | d :: ds, e :: es, A, vs, ws, us, zs, a, b, r, q, hu, j, h1, h2 => by
    cases a with
    | cons a1 a2 =>
      cases b with
      | cons b1 b2 =>
        cases r with
        | cons r1 r2 =>
          cases q with
          | cons q1 q2 =>
            cases j with
            | zero => exact eq_dp I d e A _ _ _ _ a1 b1 r1 q1 (SeqAt.room_head hu)
            | succ j => exact eq_all I ds es A _ _ _ _ a2 b2 r2 q2 (SeqAt.room_tail hu) j (Nat.lt_of_succ_lt_succ h1) (Nat.lt_of_succ_lt_succ h2)
end
/-- == asked of such data -/
theorem rc_dp (I : Inv X pins σ H s) : ∀ (d e : D) (A : Around) (v w : V) (u z : Value), Dp X.K H v d → Dp X.K H w e → RelV v u → RelV w z → A.units + min d.depth e.depth < cLine → SeqAt.RcAt A s u z (PyData.eqv d e)
  | .none, .none, A, v, w, u, z, h1, h2, r1, r2, hu => by
    cases h1; cases r1
    cases h2; cases r2
    exact SeqAt.RcAt.none_none
  | .none, .bool b2, A, v, w, u, z, h1, h2, r1, r2, hu => by
    cases h1; cases r1
    cases h2; cases r2
    exact SeqAt.RcAt.none_bool b2
  | .none, .int i2, A, v, w, u, z, h1, h2, r1, r2, hu => by
    cases h1; cases r1
    cases h2; obtain ⟨t2, q2⟩ := r2; cases q2
    exact SeqAt.RcAt.none_int i2 t2
  | .none, .str x2, A, v, w, u, z, h1, h2, r1, r2, hu => by
    cases h1; cases r1
    cases h2; obtain ⟨t2, q2⟩ := r2; cases q2
    exact SeqAt.RcAt.none_str x2 t2
  | .none, .list xs2, A, v, w, u, z, h1, h2, r1, r2, hu => by
    cases h1; cases r1
    obtain ⟨a2, vs2, ev2, S2, D2⟩ := dp_list h2; subst ev2; cases r2; obtain ⟨its2, V2, L2⟩ := inL I S2
    exact SeqAt.RcAt.none_list L2 (SeqAt.room_here hu)
  | .none, .tuple xs2, A, v, w, u, z, h1, h2, r1, r2, hu => by
    cases h1; cases r1
    obtain ⟨a2, vs2, ev2, S2, D2⟩ := dp_tuple h2; subst ev2; cases r2; obtain ⟨its2, V2, L2⟩ := inT I S2
    exact SeqAt.RcAt.none_tuple L2 (SeqAt.room_here hu)
  | .none, .dict _, _, _, _, _, _, _, h, _, _, _ => by cases h
  | .bool b1, .none, A, v, w, u, z, h1, h2, r1, r2, hu => by
    cases h1; cases r1
    cases h2; cases r2
    exact SeqAt.RcAt.bool_none b1
  | .bool b1, .bool b2, A, v, w, u, z, h1, h2, r1, r2, hu => by
    cases h1; cases r1
    cases h2; cases r2
    exact SeqAt.RcAt.bool_bool b1 b2
  | .bool b1, .int i2, A, v, w, u, z, h1, h2, r1, r2, hu => by
    cases h1; cases r1
    cases h2; obtain ⟨t2, q2⟩ := r2; cases q2
    exact SeqAt.RcAt.bool_int b1 i2 t2
  | .bool b1, .str x2, A, v, w, u, z, h1, h2, r1, r2, hu => by
    cases h1; cases r1
    cases h2; obtain ⟨t2, q2⟩ := r2; cases q2
    exact SeqAt.RcAt.bool_str b1 x2 t2
  | .bool b1, .list xs2, A, v, w, u, z, h1, h2, r1, r2, hu => by
    cases h1; cases r1
    obtain ⟨a2, vs2, ev2, S2, D2⟩ := dp_list h2; subst ev2; cases r2; obtain ⟨its2, V2, L2⟩ := inL I S2
    exact SeqAt.RcAt.bool_list b1 L2 (SeqAt.room_here hu)
  | .bool b1, .tuple xs2, A, v, w, u, z, h1, h2, r1, r2, hu => by
    cases h1; cases r1
    obtain ⟨a2, vs2, ev2, S2, D2⟩ := dp_tuple h2; subst ev2; cases r2; obtain ⟨its2, V2, L2⟩ := inT I S2
    exact SeqAt.RcAt.bool_tuple b1 L2 (SeqAt.room_here hu)
  | .bool b1, .dict _, _, _, _, _, _, _, h, _, _, _ => by cases h
  | .int i1, .none, A, v, w, u, z, h1, h2, r1, r2, hu => by
    cases h1; obtain ⟨t1, q1⟩ := r1; cases q1
    cases h2; cases r2
    exact SeqAt.RcAt.int_none i1 t1
  | .int i1, .bool b2, A, v, w, u, z, h1, h2, r1, r2, hu => by
    cases h1; obtain ⟨t1, q1⟩ := r1; cases q1
    cases h2; cases r2
    exact SeqAt.RcAt.int_bool i1 t1 b2
  | .int i1, .int i2, A, v, w, u, z, h1, h2, r1, r2, hu => by
    cases h1; obtain ⟨t1, q1⟩ := r1; cases q1
    cases h2; obtain ⟨t2, q2⟩ := r2; cases q2
    exact SeqAt.RcAt.int_int i1 t1 i2 t2
  | .int i1, .str x2, A, v, w, u, z, h1, h2, r1, r2, hu => by
    cases h1; obtain ⟨t1, q1⟩ := r1; cases q1
    cases h2; obtain ⟨t2, q2⟩ := r2; cases q2
    exact SeqAt.RcAt.int_str i1 t1 x2 t2
  | .int i1, .list xs2, A, v, w, u, z, h1, h2, r1, r2, hu => by
    cases h1; obtain ⟨t1, q1⟩ := r1; cases q1
    obtain ⟨a2, vs2, ev2, S2, D2⟩ := dp_list h2; subst ev2; cases r2; obtain ⟨its2, V2, L2⟩ := inL I S2
    exact SeqAt.RcAt.int_list i1 t1 L2 (SeqAt.room_here hu)
  | .int i1, .tuple xs2, A, v, w, u, z, h1, h2, r1, r2, hu => by
    cases h1; obtain ⟨t1, q1⟩ := r1; cases q1
    obtain ⟨a2, vs2, ev2, S2, D2⟩ := dp_tuple h2; subst ev2; cases r2; obtain ⟨its2, V2, L2⟩ := inT I S2
    exact SeqAt.RcAt.int_tuple i1 t1 L2 (SeqAt.room_here hu)
  | .int i1, .dict _, _, _, _, _, _, _, h, _, _, _ => by cases h
  | .str x1, .none, A, v, w, u, z, h1, h2, r1, r2, hu => by
    cases h1; obtain ⟨t1, q1⟩ := r1; cases q1
    cases h2; cases r2
    exact SeqAt.RcAt.str_none x1 t1
  | .str x1, .bool b2, A, v, w, u, z, h1, h2, r1, r2, hu => by
    cases h1; obtain ⟨t1, q1⟩ := r1; cases q1
    cases h2; cases r2
    exact SeqAt.RcAt.str_bool x1 t1 b2
  | .str x1, .int i2, A, v, w, u, z, h1, h2, r1, r2, hu => by
    cases h1; obtain ⟨t1, q1⟩ := r1; cases q1
    cases h2; obtain ⟨t2, q2⟩ := r2; cases q2
    exact SeqAt.RcAt.str_int x1 t1 i2 t2
  | .str x1, .str x2, A, v, w, u, z, h1, h2, r1, r2, hu => by
    cases h1; obtain ⟨t1, q1⟩ := r1; cases q1
    cases h2; obtain ⟨t2, q2⟩ := r2; cases q2
    exact SeqAt.RcAt.str_str x1 t1 x2 t2
  | .str x1, .list xs2, A, v, w, u, z, h1, h2, r1, r2, hu => by
    cases h1; obtain ⟨t1, q1⟩ := r1; cases q1
    obtain ⟨a2, vs2, ev2, S2, D2⟩ := dp_list h2; subst ev2; cases r2; obtain ⟨its2, V2, L2⟩ := inL I S2
    exact SeqAt.RcAt.str_list x1 t1 L2 (SeqAt.room_here hu)
  | .str x1, .tuple xs2, A, v, w, u, z, h1, h2, r1, r2, hu => by
    cases h1; obtain ⟨t1, q1⟩ := r1; cases q1
    obtain ⟨a2, vs2, ev2, S2, D2⟩ := dp_tuple h2; subst ev2; cases r2; obtain ⟨its2, V2, L2⟩ := inT I S2
    exact SeqAt.RcAt.str_tuple x1 t1 L2 (SeqAt.room_here hu)
  | .str x1, .dict _, _, _, _, _, _, _, h, _, _, _ => by cases h
  | .list xs1, .none, A, v, w, u, z, h1, h2, r1, r2, hu => by
    obtain ⟨a1, vs1, ev1, S1, D1⟩ := dp_list h1; subst ev1; cases r1; obtain ⟨its1, V1, L1⟩ := inL I S1
    cases h2; cases r2
    exact SeqAt.RcAt.list_none L1 (SeqAt.room_here hu)
  | .list xs1, .bool b2, A, v, w, u, z, h1, h2, r1, r2, hu => by
    obtain ⟨a1, vs1, ev1, S1, D1⟩ := dp_list h1; subst ev1; cases r1; obtain ⟨its1, V1, L1⟩ := inL I S1
    cases h2; cases r2
    exact SeqAt.RcAt.list_bool b2 L1 (SeqAt.room_here hu)
  | .list xs1, .int i2, A, v, w, u, z, h1, h2, r1, r2, hu => by
    obtain ⟨a1, vs1, ev1, S1, D1⟩ := dp_list h1; subst ev1; cases r1; obtain ⟨its1, V1, L1⟩ := inL I S1
    cases h2; obtain ⟨t2, q2⟩ := r2; cases q2
    exact SeqAt.RcAt.list_int i2 t2 L1 (SeqAt.room_here hu)
  | .list xs1, .str x2, A, v, w, u, z, h1, h2, r1, r2, hu => by
    obtain ⟨a1, vs1, ev1, S1, D1⟩ := dp_list h1; subst ev1; cases r1; obtain ⟨its1, V1, L1⟩ := inL I S1
    cases h2; obtain ⟨t2, q2⟩ := r2; cases q2
    exact SeqAt.RcAt.list_str x2 t2 L1 (SeqAt.room_here hu)
  | .list xs1, .list xs2, A, v, w, u, z, h1, h2, r1, r2, hu => by
    obtain ⟨a1, vs1, ev1, S1, D1⟩ := dp_list h1; subst ev1; cases r1; obtain ⟨its1, V1, L1⟩ := inL I S1
    obtain ⟨a2, vs2, ev2, S2, D2⟩ := dp_list h2; subst ev2; cases r2; obtain ⟨its2, V2, L2⟩ := inL I S2
    exact rc_seq_list I L1 L2 V1 V2 D1 D2 hu (eq_all I xs1 xs2 A.in1 vs1 vs2 its1 its2 D1 D2 V1 V2 (SeqAt.room_in hu))
  | .list xs1, .tuple xs2, A, v, w, u, z, h1, h2, r1, r2, hu => by
    obtain ⟨a1, vs1, ev1, S1, D1⟩ := dp_list h1; subst ev1; cases r1; obtain ⟨its1, V1, L1⟩ := inL I S1
    obtain ⟨a2, vs2, ev2, S2, D2⟩ := dp_tuple h2; subst ev2; cases r2; obtain ⟨its2, V2, L2⟩ := inT I S2
    exact SeqAt.RcAt.list_tuple L1 L2 (SeqAt.room_here hu)
  | .list xs1, .dict _, _, _, _, _, _, _, h, _, _, _ => by cases h
  | .tuple xs1, .none, A, v, w, u, z, h1, h2, r1, r2, hu => by
    obtain ⟨a1, vs1, ev1, S1, D1⟩ := dp_tuple h1; subst ev1; cases r1; obtain ⟨its1, V1, L1⟩ := inT I S1
    cases h2; cases r2
    exact SeqAt.RcAt.tuple_none L1 (SeqAt.room_here hu)
  | .tuple xs1, .bool b2, A, v, w, u, z, h1, h2, r1, r2, hu => by
    obtain ⟨a1, vs1, ev1, S1, D1⟩ := dp_tuple h1; subst ev1; cases r1; obtain ⟨its1, V1, L1⟩ := inT I S1
    cases h2; cases r2
    exact SeqAt.RcAt.tuple_bool b2 L1 (SeqAt.room_here hu)
  | .tuple xs1, .int i2, A, v, w, u, z, h1, h2, r1, r2, hu => by
    obtain ⟨a1, vs1, ev1, S1, D1⟩ := dp_tuple h1; subst ev1; cases r1; obtain ⟨its1, V1, L1⟩ := inT I S1
    cases h2; obtain ⟨t2, q2⟩ := r2; cases q2
    exact SeqAt.RcAt.tuple_int i2 t2 L1 (SeqAt.room_here hu)
  | .tuple xs1, .str x2, A, v, w, u, z, h1, h2, r1, r2, hu => by
    obtain ⟨a1, vs1, ev1, S1, D1⟩ := dp_tuple h1; subst ev1; cases r1; obtain ⟨its1, V1, L1⟩ := inT I S1
    cases h2; obtain ⟨t2, q2⟩ := r2; cases q2
    exact SeqAt.RcAt.tuple_str x2 t2 L1 (SeqAt.room_here hu)
  | .tuple xs1, .list xs2, A, v, w, u, z, h1, h2, r1, r2, hu => by
    obtain ⟨a1, vs1, ev1, S1, D1⟩ := dp_tuple h1; subst ev1; cases r1; obtain ⟨its1, V1, L1⟩ := inT I S1
    obtain ⟨a2, vs2, ev2, S2, D2⟩ := dp_list h2; subst ev2; cases r2; obtain ⟨its2, V2, L2⟩ := inL I S2
    exact SeqAt.RcAt.tuple_list L1 L2 (SeqAt.room_here hu)
  | .tuple xs1, .tuple xs2, A, v, w, u, z, h1, h2, r1, r2, hu => by
    obtain ⟨a1, vs1, ev1, S1, D1⟩ := dp_tuple h1; subst ev1; cases r1; obtain ⟨its1, V1, L1⟩ := inT I S1
    obtain ⟨a2, vs2, ev2, S2, D2⟩ := dp_tuple h2; subst ev2; cases r2; obtain ⟨its2, V2, L2⟩ := inT I S2
    exact rc_seq_tuple I L1 L2 V1 V2 D1 D2 hu (eq_all I xs1 xs2 A.in1 vs1 vs2 its1 its2 D1 D2 V1 V2 (SeqAt.room_in hu))
  | .tuple xs1, .dict _, _, _, _, _, _, _, h, _, _, _ => by cases h
  | .dict _, _, _, _, _, _, _, h, _, _, _, _ => by cases h
/-- != asked of such data -/
theorem ne_dp (I : Inv X pins σ H s) : ∀ (d e : D) (A : Around) (v w : V) (u z : Value), Dp X.K H v d → Dp X.K H w e → RelV v u → RelV w z → A.units + min d.depth e.depth < cLine → SeqAt.RcNeAt A s u z (!PyData.eqv d e)
  | .none, .none, A, v, w, u, z, h1, h2, r1, r2, hu => by
    cases h1; cases r1
    cases h2; cases r2
    exact SeqAt.RcNeAt.none_none
  | .none, .bool b2, A, v, w, u, z, h1, h2, r1, r2, hu => by
    cases h1; cases r1
    cases h2; cases r2
    exact SeqAt.RcNeAt.none_bool b2
  | .none, .int i2, A, v, w, u, z, h1, h2, r1, r2, hu => by
    cases h1; cases r1
    cases h2; obtain ⟨t2, q2⟩ := r2; cases q2
    exact SeqAt.RcNeAt.none_int i2 t2
  | .none, .str x2, A, v, w, u, z, h1, h2, r1, r2, hu => by
    cases h1; cases r1
    cases h2; obtain ⟨t2, q2⟩ := r2; cases q2
    exact SeqAt.RcNeAt.none_str x2 t2
  | .none, .list xs2, A, v, w, u, z, h1, h2, r1, r2, hu => by
    cases h1; cases r1
    obtain ⟨a2, vs2, ev2, S2, D2⟩ := dp_list h2; subst ev2; cases r2; obtain ⟨its2, V2, L2⟩ := inL I S2
    exact SeqAt.RcNeAt.none_list L2 (SeqAt.room_here hu)
  | .none, .tuple xs2, A, v, w, u, z, h1, h2, r1, r2, hu => by
    cases h1; cases r1
    obtain ⟨a2, vs2, ev2, S2, D2⟩ := dp_tuple h2; subst ev2; cases r2; obtain ⟨its2, V2, L2⟩ := inT I S2
    exact SeqAt.RcNeAt.none_tuple L2 (SeqAt.room_here hu)
  | .none, .dict _, _, _, _, _, _, _, h, _, _, _ => by cases h
  | .bool b1, .none, A, v, w, u, z, h1, h2, r1, r2, hu => by
    cases h1; cases r1
    cases h2; cases r2
    exact SeqAt.RcNeAt.bool_none b1
  | .bool b1, .bool b2, A, v, w, u, z, h1, h2, r1, r2, hu => by
    cases h1; cases r1
    cases h2; cases r2
    exact SeqAt.RcNeAt.bool_bool b1 b2
  | .bool b1, .int i2, A, v, w, u, z, h1, h2, r1, r2, hu => by
    cases h1; cases r1
    cases h2; obtain ⟨t2, q2⟩ := r2; cases q2
    exact SeqAt.RcNeAt.bool_int b1 i2 t2
  | .bool b1, .str x2, A, v, w, u, z, h1, h2, r1, r2, hu => by
    cases h1; cases r1
    cases h2; obtain ⟨t2, q2⟩ := r2; cases q2
    exact SeqAt.RcNeAt.bool_str b1 x2 t2
  | .bool b1, .list xs2, A, v, w, u, z, h1, h2, r1, r2, hu => by
    cases h1; cases r1
    obtain ⟨a2, vs2, ev2, S2, D2⟩ := dp_list h2; subst ev2; cases r2; obtain ⟨its2, V2, L2⟩ := inL I S2
    exact SeqAt.RcNeAt.bool_list b1 L2 (SeqAt.room_here hu)
  | .bool b1, .tuple xs2, A, v, w, u, z, h1, h2, r1, r2, hu => by
    cases h1; cases r1
    obtain ⟨a2, vs2, ev2, S2, D2⟩ := dp_tuple h2; subst ev2; cases r2; obtain ⟨its2, V2, L2⟩ := inT I S2
    exact SeqAt.RcNeAt.bool_tuple b1 L2 (SeqAt.room_here hu)
  | .bool b1, .dict _, _, _, _, _, _, _, h, _, _, _ => by cases h
  | .int i1, .none, A, v, w, u, z, h1, h2, r1, r2, hu => by
    cases h1; obtain ⟨t1, q1⟩ := r1; cases q1
    cases h2; cases r2
    exact SeqAt.RcNeAt.int_none i1 t1
  | .int i1, .bool b2, A, v, w, u, z, h1, h2, r1, r2, hu => by
    cases h1; obtain ⟨t1, q1⟩ := r1; cases q1
    cases h2; cases r2
    exact SeqAt.RcNeAt.int_bool i1 t1 b2
  | .int i1, .int i2, A, v, w, u, z, h1, h2, r1, r2, hu => by
    cases h1; obtain ⟨t1, q1⟩ := r1; cases q1
    cases h2; obtain ⟨t2, q2⟩ := r2; cases q2
    exact SeqAt.RcNeAt.int_int i1 t1 i2 t2
  | .int i1, .str x2, A, v, w, u, z, h1, h2, r1, r2, hu => by
    cases h1; obtain ⟨t1, q1⟩ := r1; cases q1
    cases h2; obtain ⟨t2, q2⟩ := r2; cases q2
    exact SeqAt.RcNeAt.int_str i1 t1 x2 t2
  | .int i1, .list xs2, A, v, w, u, z, h1, h2, r1, r2, hu => by
    cases h1; obtain ⟨t1, q1⟩ := r1; cases q1
    obtain ⟨a2, vs2, ev2, S2, D2⟩ := dp_list h2; subst ev2; cases r2; obtain ⟨its2, V2, L2⟩ := inL I S2
    exact SeqAt.RcNeAt.int_list i1 t1 L2 (SeqAt.room_here hu)
  | .int i1, .tuple xs2, A, v, w, u, z, h1, h2, r1, r2, hu => by
    cases h1; obtain ⟨t1, q1⟩ := r1; cases q1
    obtain ⟨a2, vs2, ev2, S2, D2⟩ := dp_tuple h2; subst ev2; cases r2; obtain ⟨its2, V2, L2⟩ := inT I S2
    exact SeqAt.RcNeAt.int_tuple i1 t1 L2 (SeqAt.room_here hu)
  | .int i1, .dict _, _, _, _, _, _, _, h, _, _, _ => by cases h
  | .str x1, .none, A, v, w, u, z, h1, h2, r1, r2, hu => by
    cases h1; obtain ⟨t1, q1⟩ := r1; cases q1
    cases h2; cases r2
    exact SeqAt.RcNeAt.str_none x1 t1
  | .str x1, .bool b2, A, v, w, u, z, h1, h2, r1, r2, hu => by
    cases h1; obtain ⟨t1, q1⟩ := r1; cases q1
    cases h2; cases r2
    exact SeqAt.RcNeAt.str_bool x1 t1 b2
  | .str x1, .int i2, A, v, w, u, z, h1, h2, r1, r2, hu => by
    cases h1; obtain ⟨t1, q1⟩ := r1; cases q1
    cases h2; obtain ⟨t2, q2⟩ := r2; cases q2
    exact SeqAt.RcNeAt.str_int x1 t1 i2 t2
  | .str x1, .str x2, A, v, w, u, z, h1, h2, r1, r2, hu => by
    cases h1; obtain ⟨t1, q1⟩ := r1; cases q1
    cases h2; obtain ⟨t2, q2⟩ := r2; cases q2
    exact SeqAt.RcNeAt.str_str x1 t1 x2 t2
  | .str x1, .list xs2, A, v, w, u, z, h1, h2, r1, r2, hu => by
    cases h1; obtain ⟨t1, q1⟩ := r1; cases q1
    obtain ⟨a2, vs2, ev2, S2, D2⟩ := dp_list h2; subst ev2; cases r2; obtain ⟨its2, V2, L2⟩ := inL I S2
    exact SeqAt.RcNeAt.str_list x1 t1 L2 (SeqAt.room_here hu)
  | .str x1, .tuple xs2, A, v, w, u, z, h1, h2, r1, r2, hu => by
    cases h1; obtain ⟨t1, q1⟩ := r1; cases q1
    obtain ⟨a2, vs2, ev2, S2, D2⟩ := dp_tuple h2; subst ev2; cases r2; obtain ⟨its2, V2, L2⟩ := inT I S2
    exact SeqAt.RcNeAt.str_tuple x1 t1 L2 (SeqAt.room_here hu)
  | .str x1, .dict _, _, _, _, _, _, _, h, _, _, _ => by cases h
  | .list xs1, .none, A, v, w, u, z, h1, h2, r1, r2, hu => by
    obtain ⟨a1, vs1, ev1, S1, D1⟩ := dp_list h1; subst ev1; cases r1; obtain ⟨its1, V1, L1⟩ := inL I S1
    cases h2; cases r2
    exact SeqAt.RcNeAt.list_none L1 (SeqAt.room_here hu)
  | .list xs1, .bool b2, A, v, w, u, z, h1, h2, r1, r2, hu => by
    obtain ⟨a1, vs1, ev1, S1, D1⟩ := dp_list h1; subst ev1; cases r1; obtain ⟨its1, V1, L1⟩ := inL I S1
    cases h2; cases r2
    exact SeqAt.RcNeAt.list_bool b2 L1 (SeqAt.room_here hu)
  | .list xs1, .int i2, A, v, w, u, z, h1, h2, r1, r2, hu => by
    obtain ⟨a1, vs1, ev1, S1, D1⟩ := dp_list h1; subst ev1; cases r1; obtain ⟨its1, V1, L1⟩ := inL I S1
    cases h2; obtain ⟨t2, q2⟩ := r2; cases q2
    exact SeqAt.RcNeAt.list_int i2 t2 L1 (SeqAt.room_here hu)
  | .list xs1, .str x2, A, v, w, u, z, h1, h2, r1, r2, hu => by
    obtain ⟨a1, vs1, ev1, S1, D1⟩ := dp_list h1; subst ev1; cases r1; obtain ⟨its1, V1, L1⟩ := inL I S1
    cases h2; obtain ⟨t2, q2⟩ := r2; cases q2
    exact SeqAt.RcNeAt.list_str x2 t2 L1 (SeqAt.room_here hu)
  | .list xs1, .list xs2, A, v, w, u, z, h1, h2, r1, r2, hu => by
    obtain ⟨a1, vs1, ev1, S1, D1⟩ := dp_list h1; subst ev1; cases r1; obtain ⟨its1, V1, L1⟩ := inL I S1
    obtain ⟨a2, vs2, ev2, S2, D2⟩ := dp_list h2; subst ev2; cases r2; obtain ⟨its2, V2, L2⟩ := inL I S2
    exact ne_seq_list I L1 L2 V1 V2 D1 D2 hu (eq_all I xs1 xs2 A.in1 vs1 vs2 its1 its2 D1 D2 V1 V2 (SeqAt.room_in hu))
  | .list xs1, .tuple xs2, A, v, w, u, z, h1, h2, r1, r2, hu => by
    obtain ⟨a1, vs1, ev1, S1, D1⟩ := dp_list h1; subst ev1; cases r1; obtain ⟨its1, V1, L1⟩ := inL I S1
    obtain ⟨a2, vs2, ev2, S2, D2⟩ := dp_tuple h2; subst ev2; cases r2; obtain ⟨its2, V2, L2⟩ := inT I S2
    exact SeqAt.RcNeAt.list_tuple L1 L2 (SeqAt.room_here hu)
  | .list xs1, .dict _, _, _, _, _, _, _, h, _, _, _ => by cases h
  | .tuple xs1, .none, A, v, w, u, z, h1, h2, r1, r2, hu => by
    obtain ⟨a1, vs1, ev1, S1, D1⟩ := dp_tuple h1; subst ev1; cases r1; obtain ⟨its1, V1, L1⟩ := inT I S1
    cases h2; cases r2
    exact SeqAt.RcNeAt.tuple_none L1 (SeqAt.room_here hu)
  | .tuple xs1, .bool b2, A, v, w, u, z, h1, h2, r1, r2, hu => by
    obtain ⟨a1, vs1, ev1, S1, D1⟩ := dp_tuple h1; subst ev1; cases r1; obtain ⟨its1, V1, L1⟩ := inT I S1
    cases h2; cases r2
    exact SeqAt.RcNeAt.tuple_bool b2 L1 (SeqAt.room_here hu)
  | .tuple xs1, .int i2, A, v, w, u, z, h1, h2, r1, r2, hu => by
    obtain ⟨a1, vs1, ev1, S1, D1⟩ := dp_tuple h1; subst ev1; cases r1; obtain ⟨its1, V1, L1⟩ := inT I S1
    cases h2; obtain ⟨t2, q2⟩ := r2; cases q2
    exact SeqAt.RcNeAt.tuple_int i2 t2 L1 (SeqAt.room_here hu)
  | .tuple xs1, .str x2, A, v, w, u, z, h1, h2, r1, r2, hu => by
    obtain ⟨a1, vs1, ev1, S1, D1⟩ := dp_tuple h1; subst ev1; cases r1; obtain ⟨its1, V1, L1⟩ := inT I S1
    cases h2; obtain ⟨t2, q2⟩ := r2; cases q2
    exact SeqAt.RcNeAt.tuple_str x2 t2 L1 (SeqAt.room_here hu)
  | .tuple xs1, .list xs2, A, v, w, u, z, h1, h2, r1, r2, hu => by
    obtain ⟨a1, vs1, ev1, S1, D1⟩ := dp_tuple h1; subst ev1; cases r1; obtain ⟨its1, V1, L1⟩ := inT I S1
    obtain ⟨a2, vs2, ev2, S2, D2⟩ := dp_list h2; subst ev2; cases r2; obtain ⟨its2, V2, L2⟩ := inL I S2
    exact SeqAt.RcNeAt.tuple_list L1 L2 (SeqAt.room_here hu)
  | .tuple xs1, .tuple xs2, A, v, w, u, z, h1, h2, r1, r2, hu => by
    obtain ⟨a1, vs1, ev1, S1, D1⟩ := dp_tuple h1; subst ev1; cases r1; obtain ⟨its1, V1, L1⟩ := inT I S1
    obtain ⟨a2, vs2, ev2, S2, D2⟩ := dp_tuple h2; subst ev2; cases r2; obtain ⟨its2, V2, L2⟩ := inT I S2
    exact ne_seq_tuple I L1 L2 V1 V2 D1 D2 hu (eq_all I xs1 xs2 A.in1 vs1 vs2 its1 its2 D1 D2 V1 V2 (SeqAt.room_in hu))
  | .tuple xs1, .dict _, _, _, _, _, _, _, h, _, _, _ => by cases h
  | .dict _, _, _, _, _, _, _, h, _, _, _, _ => by cases h
end
section
variable {X : Cx}
def rEqG (K : PySem.W.Frag) : R2 := fun x y H Q => ∃ d e, Dp K H x d ∧ Dp K H y e ∧ min d.depth e.depth ≤ 150 ∧ Q (.bl (PyData.eqv d e)) H
def rNeG (K : PySem.W.Frag) : R2 := fun x y H Q => ∃ d e, Dp K H x d ∧ Dp K H y e ∧ min d.depth e.depth ≤ 150 ∧ Q (.bl (!PyData.eqv d e)) H
theorem op_eqG (hu : X.A.units + 160 < cLine) : OpR X (compareOp .Eq) (rEqG X.K) := by
  intro pins s σ H x y v u Q I rx ry h
  obtain ⟨d, e, h1, h2, l, q⟩ := h
  exact rc_dp I d e X.A x y v u h1 h2 rx ry (by omega) X.prog X.w X.xe _ ⟨.bl _, H, I, rfl, q⟩
theorem op_neG (hu : X.A.units + 160 < cLine) : OpR X (compareOp .NotEq) (rNeG X.K) := by
  intro pins s σ H x y v u Q I rx ry h
  obtain ⟨d, e, h1, h2, l, q⟩ := h
  exact ne_dp I d e X.A x y v u h1 h2 rx ry (by omega) X.prog X.w X.xe _ ⟨.bl _, H, I, rfl, q⟩
end
end Pz

namespace Pz
open PySem PySem.Spec PyProof.Rows L2
section
variable {X : Cx} {pins : List (Addr × Obj)} {σ : L2.St} {H : Hp} {s : Shared}
theorem notIn_listAt {prog : Program} {w : World} {A : Around} {E : Value → Shared → Prop} {l : Addr} {items : Array Value} {x : Value} {Q : Value → Shared → Prop} (e : Value → Bool) (hl : s.heap.IsList l items) (he : ∀ y ∈ items, SeqAt.EqAt A.in1 s y x (e y)) (q : Q (.bool !(items.any e)) s) :
    wpAny (model prog w) A (compareOp .NotIn x (.ref l)) Q E s := by
  obtain ⟨⟨oc, od, dt, sl⟩, h1, h2, n, h3⟩ := hl
  simp only at h2 h3
  subst h2 h3
  exact SeqRoads2.notIn_meets ⟨_, h1, rfl⟩ PySem.F.slot_list_contains PySem.F.entry_list_contains (PySem.F.args_list_contains_2 _ _) (SeqAt.list_containsAt l items n od sl x e) ⟨h1, he, _, rfl, q⟩
theorem notIn_tupleAt {prog : Program} {w : World} {A : Around} {E : Value → Shared → Prop} {l : Addr} {items : Array Value} {x : Value} {Q : Value → Shared → Prop} (e : Value → Bool) (hl : s.heap.IsTuple l items) (he : ∀ y ∈ items, SeqAt.EqAt A.in1 s y x (e y)) (q : Q (.bool !(items.any e)) s) :
    wpAny (model prog w) A (compareOp .NotIn x (.ref l)) Q E s := by
  obtain ⟨⟨oc, od, dt, sl⟩, h1, h2, n, h3⟩ := hl
  simp only at h2 h3
  subst h2 h3
  exact SeqRoads2.notIn_meets ⟨_, h1, rfl⟩ PySem.F.slot_tuple_contains PySem.F.entry_tuple_contains (PySem.F.args_tuple_contains_2 _ _) (SeqAt.tuple_containsAt l items n od sl x e) ⟨h1, he, _, rfl, q⟩
theorem rel_inj {v w : V} {u : Value} (a : L2.RelV v u) (b : L2.RelV w u) : v = w := by
  cases v <;> cases w <;> first
    | (obtain ⟨t, rfl⟩ := a; obtain ⟨t', b⟩ := b; cases b; rfl)
    | (obtain ⟨t, rfl⟩ := a; obtain ⟨t', b⟩ := b; cases b; done)
    | (obtain ⟨t, rfl⟩ := a; cases (b : _ = _); done)
    | (have a : u = _ := a; subst a; obtain ⟨t', b⟩ := b; cases b; done)
    | (have a : u = _ := a; subst a; cases (b : _ = _); rfl)
    | (have a : u = _ := a; subst a; cases (b : _ = _); done)
open Classical in
/-- which items are equal to the datum d -/
noncomputable def eqIt (vs : List V) (ds : List D) (d : D) (its : List Value) (y : Value) : Bool :=
  decide (∃ (i : Nat) (z : D), its[i]? = some y ∧ ds[i]? = some z ∧ PyData.eqv z d = true)
open Classical in
theorem eqIt_at (I : Inv X pins σ H s) {vs : List V} {ds : List D} {its : List Value} {d : D} (V1 : Vals vs its) (D1 : DpAll X.K H vs ds) {i : Nat} {y : Value} {z : D} (hi : its[i]? = some y) (hz : ds[i]? = some z) : eqIt vs ds d its y = PyData.eqv z d := by
  unfold eqIt
  cases e : PyData.eqv z d with
  | true => exact decide_eq_true ⟨i, z, hi, hz, e⟩
  | false =>
    refine decide_eq_false ?_
    rintro ⟨j, z', hj, hz', e'⟩
    obtain ⟨v, hv, dv⟩ := dpAll_get i D1 hz
    obtain ⟨v', hv', dv'⟩ := dpAll_get j D1 hz'
    obtain ⟨u, hu, ru⟩ := V1.get hv
    obtain ⟨u', hu', ru'⟩ := V1.get hv'
    rw [hi] at hu
    rw [hj] at hu'
    cases hu
    cases hu'
    have := rel_inj ru ru'
    subst this
    have := dp_one I z z' v dv dv'
    subst this
    rw [e] at e'
    cases e'
theorem any_eqIt (I : Inv X pins σ H s) {vs : List V} {ds : List D} {its : List Value} {d : D} (V1 : Vals vs its) (D1 : DpAll X.K H vs ds) : its.toArray.any (eqIt vs ds d its) = ds.any fun z => PyData.eqv z d := by
  rw [List.any_toArray]
  have len : its.length = ds.length := by rw [← V1.length, dpAll_length D1]
  have : its.map (eqIt vs ds d its) = ds.map fun z => PyData.eqv z d := by
    apply List.ext_getElem?
    intro i
    rw [List.getElem?_map, List.getElem?_map]
    by_cases l : i < its.length
    · have l2 : i < ds.length := by omega
      rw [List.getElem?_eq_getElem l, List.getElem?_eq_getElem l2]
      exact congrArg some (eqIt_at I V1 D1 (List.getElem?_eq_getElem l) (List.getElem?_eq_getElem l2))
    · rw [List.getElem?_eq_none (by omega), List.getElem?_eq_none (by omega)]
      rfl
  have a := List.any_map (f := eqIt vs ds d its) (l := its) (p := id)
  have b := List.any_map (f := fun z => PyData.eqv z d) (l := ds) (p := id)
  rw [this] at a
  rw [a] at b
  exact b
/-- what x in y asks of nested data, and gives -/
def rInG (K : PySem.W.Frag) (g : Bool → Bool) : R2 := fun x y H Q => ∃ d ds, Dp K H x d ∧ (Dp K H y (.list ds) ∨ Dp K H y (.tuple ds)) ∧ d.depth ≤ 150 ∧ Q (.bl (g (ds.any fun z => PyData.eqv z d))) H
theorem eqs_of (hu : X.A.units + 160 < cLine) (I : Inv X pins σ H s) {vs : List V} {ds : List D} {its : List Value} {d : D} {x : V} {v : Value} (V1 : Vals vs its) (D1 : DpAll X.K H vs ds) (hd : Dp X.K H x d) (rx : L2.RelV x v) (l : d.depth ≤ 150) : ∀ y ∈ its.toArray, SeqAt.EqAt X.A.in1 s y v (eqIt vs ds d its y) := fun y hy => by
  have hy : y ∈ its := by simpa using hy
  obtain ⟨i, hi⟩ := List.mem_iff_getElem?.mp hy
  have li : i < its.length := (List.getElem?_eq_some_iff.mp hi).1
  have len : its.length = ds.length := by rw [← V1.length, dpAll_length D1]
  have hz : ds[i]? = some ds[i] := List.getElem?_eq_getElem (by omega)
  rw [eqIt_at I V1 D1 hi hz]
  obtain ⟨v', hv', dv'⟩ := dpAll_get i D1 hz
  obtain ⟨u, hu', ru⟩ := V1.get hv'
  rw [hi] at hu'
  cases hu'
  refine eq_dp I _ d X.A.in1 v' x y v dv' hd ru rx ?_
  show X.A.units + 1 + _ < cLine
  omega
theorem op_inG (hu : X.A.units + 160 < cLine) : OpR X (compareOp .In) (rInG X.K id) := by
  intro pins s σ H x y v u Q I rx ry h
  obtain ⟨d, ds, h1, h2, l, q⟩ := h
  rcases h2 with h2 | h2
  · cases h2 with
    | lst S D1 =>
      cases ry
      obtain ⟨its, V1, L⟩ := inL I S
      refine SeqAt.in_listAt (eqIt _ ds d its) L (eqs_of hu I V1 D1 h1 rx l) ?_
      rw [any_eqIt I V1 D1]
      exact ⟨.bl _, H, I, rfl, q⟩
  · cases h2 with
    | tup S D1 =>
      cases ry
      obtain ⟨its, V1, L⟩ := inT I S
      refine SeqAt.in_tupleAt (eqIt _ ds d its) L (eqs_of hu I V1 D1 h1 rx l) ?_
      rw [any_eqIt I V1 D1]
      exact ⟨.bl _, H, I, rfl, q⟩
theorem op_ninG (hu : X.A.units + 160 < cLine) : OpR X (compareOp .NotIn) (rInG X.K not) := by
  intro pins s σ H x y v u Q I rx ry h
  obtain ⟨d, ds, h1, h2, l, q⟩ := h
  rcases h2 with h2 | h2
  · cases h2 with
    | lst S D1 =>
      cases ry
      obtain ⟨its, V1, L⟩ := inL I S
      refine notIn_listAt (eqIt _ ds d its) L (eqs_of hu I V1 D1 h1 rx l) ?_
      rw [any_eqIt I V1 D1]
      exact ⟨.bl _, H, I, rfl, q⟩
  · cases h2 with
    | tup S D1 =>
      cases ry
      obtain ⟨its, V1, L⟩ := inT I S
      refine notIn_tupleAt (eqIt _ ds d its) L (eqs_of hu I V1 D1 h1 rx l) ?_
      rw [any_eqIt I V1 D1]
      exact ⟨.bl _, H, I, rfl, q⟩
end
end Pz

namespace Pz
open PySem PySem.Spec PyProof.Rows L2
section
variable {W : Wd} {Wx : WX} {σ : L2.St} {ρ : Env} {H : Hp} {α β : Type} {X : Cx}
abbrev Fin_ (W : Wd) (σ : L2.St) (Q : VK) : Val → Env → Hp → Prop := fun a ρ' H' => ∀ v, ValOkS W σ ρ' H' v a → Q v H'
theorem tD_two {x y : M Val} {f : Val → Val → M Val} {r : R2} {Q : VK} (h : tD W Wx (M.bind x fun a => M.bind y fun b => f a b) σ H Q)
    (k : ∀ ρ v w a b H', EnvOk W σ H' ρ → ValOk W σ ρ H' v a → ValOk W σ ρ H' w b → Post W Wx σ ρ H' (f a b ρ) (Fin_ W σ Q) → r v w H' Q) : tOp r (tD W Wx x) (tD W Wx y) σ H Q := by
  obtain ⟨ρ, e, h⟩ := h
  refine ⟨ρ, e, h.run fun a ρ1 H1 e1 h1 v ⟨hv, _⟩ => ?_⟩
  exact ⟨ρ1, e1.env, h1.run fun b ρ2 H2 e2 h2 w ⟨hw, _⟩ => k ρ2 v w a b H2 e2.env (hv.eff e2) hw h2⟩
theorem tD_one {x : M Val} {f : Val → M Val} {r : V → Hp → VK → Prop} {Q : VK} (h : tD W Wx (M.bind x f) σ H Q)
    (k : ∀ ρ v a H', EnvOk W σ H' ρ → ValOk W σ ρ H' v a → Post W Wx σ ρ H' (f a ρ) (Fin_ W σ Q) → r v H' Q) : tUn r (tD W Wx x) σ H Q := by
  obtain ⟨ρ, e, h⟩ := h
  exact ⟨ρ, e, h.run fun a ρ1 H1 e1 h1 v ⟨hv, _⟩ => k ρ1 v a H1 e1.env hv h1⟩
/-- a run that ends with a value that is made of nothing new -/
theorem fin_same {r : Val} {Q : VK} {v : V} (e : EnvOk W σ H ρ) (h : ∀ H', Eff W σ ρ H ρ H' → Fin_ W σ Q r ρ H') (hv : ValOk W σ ρ H v r) (hn : ∀ b, r ≠ .bx b := by intro b z; cases z) : Q v H := h H (Eff.refl e) v ⟨hv, fun b z => absurd z (hn b)⟩
theorem fin_new {r : Val} {Q : VK} {p : Addr} {o : HO} (e : EnvOk W σ H ρ) (hp : H p = none) (h : ∀ H', Eff W σ ρ H ρ H' → Fin_ W σ Q r ρ H') (hv : ValOk W σ ρ (upd H p o) (.ref p) r) : Q (.ref p) (upd H p o) :=
  h _ (Eff.grow e (grow_upd hp)) _ ⟨hv, fun _ _ q z => by cases z; exact Free.new e hp⟩
theorem dp_int {K : PySem.W.Frag} {G : Hp} {i : Int} : Dp K G (.int i) (.int i) := .int i

theorem d_const {d : D} {v : V} (hv : ∀ G, Dp W.K G v d) {Q : VK} (h : tD W Wx (M.pure (.fz d)) σ H Q) : tC v σ H Q := by
  obtain ⟨ρ, e, h⟩ := h
  exact fin_same e h (hv _)
theorem s_int {i : Int} {j : Nat} {pos : Pos} {G : G0} : PE X (.Constant (.int i) j pos) (tD W Wx (ev G (.c (.int i)))) := PE.weak pe_int fun _ _ _ h => d_const (fun _ => .int i) h
theorem s_bool {b : Bool} {j : Nat} {pos : Pos} {G : G0} : PE X (.Constant (.bool b) j pos) (tD W Wx (ev G (.c (.bool b)))) := PE.weak pe_bl fun _ _ _ h => d_const (fun _ => .bl b) h
theorem s_none {j : Nat} {pos : Pos} {G : G0} : PE X (.Constant .none j pos) (tD W Wx (ev G (.c .none))) := PE.weak pe_non fun _ _ _ h => d_const (fun _ => .non) h
theorem s_str {x : Str} {j : Nat} {pos : Pos} {G : G0} : PE X (.Constant (.str x) j pos) (tD W Wx (ev G (.c (.str x)))) := PE.weak pe_str fun _ _ _ h => d_const (fun _ => .str x) h
theorem s_var {i : Nat} {x : Str} {pos : Pos} {G : G0} (hN : X.N[i]? = some x) (hv : Vis X.env.scope x) (hd : (x == ("__debug__" : Str)) = false) (hcd : (x == ("__classdict__" : Str)) = false) : PE X (.Name x pos) (tD W Wx (ev G (.v i))) := by
  refine PE.weak (pe_var hN hv hd hcd) fun σ H Q h => ?_
  obtain ⟨ρ, e, h⟩ := h
  have h : Post W Wx σ ρ H (getV i ρ) (Fin_ W σ Q) := h
  unfold getV at h
  cases q : ρ[i]? with
  | none =>
    rw [q] at h
    exact h.elim
  | some s =>
    rw [q] at h
    have s' := e.slot q
    cases s with
    | un => exact h.elim
    | fz d =>
      obtain ⟨v, h1, h2⟩ := s'
      exact ⟨v, join_some h1, fin_same e h h2⟩
    | bx b io lk =>
      obtain ⟨a, h1, h2⟩ := s'
      exact ⟨.ref a, join_some h1, fin_same e h ⟨join_some h1, b, io, lk, q⟩⟩
    | xc c =>
      obtain ⟨a, h1, h2⟩ := s'
      exact ⟨.ref a, join_some h1, fin_same e h ⟨a, rfl, h2⟩⟩

theorem bin_case {o : Bo} {a : Val} {d e : D} {r : Val} (h : (opV o d e).or (repV o a e) = some r) :
    (∃ i j k, d = .int i ∧ e = .int j ∧ opI o i j = some k ∧ r = .fz (.int k)) ∨
    (o = .add ∧ ∃ x y, d = .str x ∧ e = .str y ∧ x.length + y.length ≤ lim ∧ r = .fz (.str (x ++ y))) ∨
    (o = .add ∧ ∃ xs ys, d = .list xs ∧ e = .list ys ∧ xs.length + ys.length ≤ lim ∧ r = .bx (.l (xs ++ ys))) ∨
    (o = .mul ∧ ∃ xs k, a = .bx (.l xs) ∧ e = .int k ∧ (-1000000 ≤ k ∧ k ≤ 1000000 ∧ xs.length * k.toNat ≤ lim) ∧ r = .bx (.l (List.replicate k.toNat xs).flatten)) ∨
    (o = .mul ∧ ∃ x k, d = .str x ∧ e = .int k ∧ (x.length ≤ 16 ∧ -1000000 ≤ k ∧ k ≤ 1000000) ∧ r = .fz (.str (PySem.Txt.mul x k))) := by
  cases h1 : opV o d e with
  | some r' =>
    rw [h1] at h
    have h2 : r' = r := Option.some.inj h
    subst h2
    unfold opV at h1
    split at h1
    · cases h3 : opI o _ _ with
      | none => rw [h3] at h1; cases h1
      | some k =>
        rw [h3] at h1
        exact .inl ⟨_, _, k, rfl, rfl, h3, (Option.some.inj h1).symm⟩
    · split at h1
      · rename_i hl
        exact .inr (.inl ⟨rfl, _, _, rfl, rfl, hl, (Option.some.inj h1).symm⟩)
      · cases h1
    · split at h1
      · rename_i hl
        exact .inr (.inr (.inl ⟨rfl, _, _, rfl, rfl, hl, (Option.some.inj h1).symm⟩))
      · cases h1
    · split at h1
      · rename_i hl
        exact .inr (.inr (.inr (.inr ⟨rfl, _, _, rfl, rfl, hl, (Option.some.inj h1).symm⟩)))
      · cases h1
    · cases h1
  | none =>
    rw [h1] at h
    have h : repV o a e = some r := h
    unfold repV at h
    split at h
    · split at h
      · rename_i hl
        exact .inr (.inr (.inr (.inl ⟨rfl, _, _, rfl, rfl, hl, (Option.some.inj h).symm⟩)))
      · cases h
    · cases h
theorem lim_line {n : Nat} (h : n ≤ lim) : n ≤ sizeLine := Nat.le_trans h (by decide)
/-- list + list, of whatever is read as lists -/
def rCatG (K : PySem.W.Frag) : R2 := fun x y H Q => ∃ l b xs zs, x = .ref l ∧ y = .ref b ∧ SqL K H l xs ∧ SqL K H b zs ∧ xs.length + zs.length ≤ sizeLine ∧ ∀ p, H p = none → Q (.ref p) (upd H p (.lst (xs ++ zs)))
theorem op_catG : OpR X (binaryOp .Add) (rCatG X.K) := by
  intro pins s σ H x y v u Q I rx ry h
  obtain ⟨l, b, xs, zs, rfl, rfl, hH, hB, hz, q⟩ := h
  cases rx
  cases ry
  obtain ⟨its, r, ⟨⟨oc, od, dt, sl⟩, n, e, c, d, t⟩, z⟩ := I.list hH
  obtain ⟨its2, r2, ⟨⟨oc2, od2, dt2, sl2⟩, n2, e2, c2, d2, t2⟩, z2⟩ := I.list hB
  simp only at c d t c2 d2 t2
  subst c d t c2 d2 t2
  have l1 := r.length
  have l2 := r2.length
  have ea : its.toArray ++ its2.toArray = (its ++ its2).toArray := by simp
  refine concat_meets ⟨_, e, rfl⟩ ⟨_, e2, rfl⟩ noFill_list_add seq_list_add PySem.F.slot_list_add PySem.F.entry_list_add (PySem.F.args_list_add_2 _ _) (list_addW l b its.toArray its2.toArray n n2 _ _ sl sl2 (by simp only [List.size_toArray]; omega)) ⟨e, e2, ?_⟩
  rw [ea]
  exact ⟨.ref _, _, I.lnew (t' := s.toks) (r.append r2) (by rw [List.length_append]; omega), rfl, q _ I.fresh⟩
theorem log_pow {i : Int} (h : i.natAbs < 1000) : i.natAbs < 2 ^ 64 := Nat.lt_of_lt_of_le h (by decide)
theorem Lk.dp {K : PySem.W.Frag} {O : Addr → Prop} {H : Hp} {v : V} {d : D} (h : Lk K (hide O H) H v d) : Dp K H v d := by
  rcases h with h | ⟨a, vs, es, rfl, rfl, e, q⟩
  · exact dp_mono hide_sub _ _ h
  · exact .lst (.of e) (dpAll_mono hide_sub _ _ q)
theorem wide_of {i j : Int} (h : wideOk i j = true) : CMulX i j := by
  unfold wideOk at h
  have h' := of_decide_eq_true h
  unfold CMulX
  omega
theorem op_fdivG : OpR X (binaryOp .FloorDiv) (rI (fun _ j => j ≠ 0 ∧ j.natAbs.log2 < 9000) fun i j => V.int (Int.fdiv i j)) := L2.opI (g := Int.fdiv) fun i j t u s Q E c q => PyProof.Rows.floordiv_int c.1 q (.inl (by
  unfold Builtin.divisionGoesByPylong
  have h : ¬ ((fun n : Int => if (n == 0) = true then 0 else n.natAbs.log2 / 30 + 1) j > 300) := by
    simp only
    split
    · omega
    · have := c.2
      omega
  exact Bool.and_eq_false_imp.mpr fun z => absurd (of_decide_eq_true z) h))
theorem op_modG : OpR X (binaryOp .Mod) (rI (fun _ j => j ≠ 0) fun i j => V.int (Int.fmod i j)) := L2.opI (g := Int.fmod) fun i j t u s Q E c q => PyProof.Rows.mod_int c q
/-- a short text times an int -/
theorem op_mulS : OpR X (binaryOp .Mult) (fun x y H Q => ∃ i k, x = .str i ∧ y = .int k ∧ (i.length ≤ 16 ∧ -1000000 ≤ k ∧ k ≤ 1000000) ∧ Q (.str (PySem.Txt.mul i k)) H) := by
  intro pins s σ H x y v u Q I rx ry h
  obtain ⟨i, k, rfl, rfl, ⟨h1, h2, h3⟩, q⟩ := h
  obtain ⟨t, rfl⟩ := rx
  obtain ⟨t', rfl⟩ := ry
  exact PySem.SB.mul (PyProof.Rows.mulOk_of 16 1000000 h1 (by omega) (by omega) (by omega) (by omega)) fun t' tk => ⟨.str (PySem.Txt.mul i k), H, I.tok _, ⟨_, rfl⟩, q⟩
theorem s_bin {o : Bo} {op : Operator} {a b : Expr} {ta tb : Tm} {pos : Pos} {G : G0} (ho : op = (match o with | .add => .Add | .sub => .Sub | .mul => .Mult | .fdiv => .FloorDiv | .mod => .Mod | .pow => .Pow))
    (ha : PE X a (tD W Wx (ev G ta))) (hb : PE X b (tD W Wx (ev G tb))) (hK : W.K = X.K) : PE X (.BinOp a op b pos) (tD W Wx (ev G (.bin o ta tb))) := by
  subst ho
  have key : ∀ {σ : L2.St} {H : Hp} {Q : VK} {r : R2}, tD W Wx (ev G (.bin o ta tb)) σ H Q →
      (∀ ρ v w x d e res H', EnvOk W σ H' ρ → ValOk W σ ρ H' v x → Lk W.K (hide (Oc W σ ρ) H') H' v d → Lk W.K (hide (Oc W σ ρ) H') H' w e → (opV o d e).or (repV o x e) = some res → (∀ H2, Eff W σ ρ H' ρ H2 → Fin_ W σ Q res ρ H2) → r v w H' Q) →
      tOp r (tD W Wx (ev G ta)) (tD W Wx (ev G tb)) σ H Q := fun h k => tD_two h fun ρ v w x y H' e0 hx hy hp => by
    obtain ⟨d, ld, hp⟩ := hp.look e0 hx
    obtain ⟨e, le, hp⟩ := hp.look e0 hy
    obtain ⟨res, hr, hq⟩ := hp.endO
    exact k ρ v w x d e res H' e0 hx ld le hr hq
  cases o with
  | add =>
    refine PE.weak (pe_op (op_add.or (op_add_str.or op_catG)) ha hb) fun σ H Q h => key h fun ρ v w x d e res H' e0 hx ld le hr hq => ?_
    rcases bin_case hr with ⟨i, j, k, rfl, rfl, hk, rfl⟩ | ⟨_, y, z, rfl, rfl, hl, rfl⟩ | ⟨_, xs, ys, rfl, rfl, hl, rfl⟩ | ⟨z, _⟩ | ⟨z, _⟩
    · have hk : i + j = k := Option.some.inj hk
      subst hk
      rw [ld.int, le.int]
      exact .inl ⟨i, j, rfl, rfl, fin_same e0 hq (.int (i + j))⟩
    · rw [ld.str, le.str]
      exact .inr (.inl ⟨y, z, rfl, rfl, lim_line hl, fin_same e0 hq (.str (y ++ z))⟩)
    · obtain ⟨a1, vs1, rfl, S1, D1⟩ := ld.list
      obtain ⟨a2, vs2, rfl, S2, D2⟩ := le.list
      rw [hK] at S1 S2
      refine .inr (.inr ⟨a1, a2, vs1, vs2, rfl, rfl, S1, S2, ?_, fun p hp => fin_new e0 hp hq (newL e0 hp (dpAll_append D1 D2))⟩)
      rw [dpAll_length D1, dpAll_length D2]
      exact lim_line hl
    · cases z
    · cases z
  | sub =>
    refine PE.weak (pe_op op_sub ha hb) fun σ H Q h => key h fun ρ v w x d e res H' e0 hx ld le hr hq => ?_
    rcases bin_case hr with ⟨i, j, k, rfl, rfl, hk, rfl⟩ | ⟨z, _⟩ | ⟨z, _⟩ | ⟨z, _⟩ | ⟨z, _⟩
    · have hk : i - j = k := Option.some.inj hk
      subst hk
      rw [ld.int, le.int]
      exact ⟨i, j, rfl, rfl, fin_same e0 hq (.int (i - j))⟩
    all_goals cases z
  | mul =>
    refine PE.weak (pe_op (op_mulX.or (op_rep.or op_mulS)) ha hb) fun σ H Q h => key h fun ρ v w x d e res H' e0 hx ld le hr hq => ?_
    rcases bin_case hr with ⟨i, j, k, rfl, rfl, hk, rfl⟩ | ⟨z, _⟩ | ⟨z, _⟩ | ⟨_, xs, k, rfl, rfl, ⟨l1, l2, l3⟩, rfl⟩ | ⟨_, y, k, rfl, rfl, hl, rfl⟩
    · unfold opI at hk
      simp only at hk
      split at hk
      · rename_i hw
        have hk : i * j = k := Option.some.inj hk
        subst hk
        rw [ld.int, le.int]
        exact .inl ⟨i, j, rfl, rfl, wide_of hw, fin_same e0 hq (.int (i * j))⟩
      · cases hk
    · cases z
    · cases z
    · obtain ⟨p, rfl, h0, n, vs, e1, D1⟩ := hx
      rw [le.int]
      have D2 : DpAll W.K (hide (Oc W σ ρ) H') vs xs := dpAll_mono (fun c o z _ => by
        obtain ⟨n1, z⟩ := hide_some.mp z
        exact hide_some.mpr ⟨fun y => n1 (.inl y), z⟩) _ _ D1
      refine .inr (.inl ⟨p, k, vs, rfl, rfl, e1, by omega, by omega, ?_, fun p2 hp => fin_new e0 hp hq (newL e0 hp (dpAll_rep D2 _))⟩)
      rw [dpAll_length D1]
      exact lim_line l3
    · rw [ld.str, le.int]
      exact .inr (.inr ⟨y, k, rfl, rfl, hl, fin_same e0 hq (.str (PySem.Txt.mul y k))⟩)
  | fdiv =>
    refine PE.weak (pe_op op_fdivG ha hb) fun σ H Q h => key h fun ρ v w x d e res H' e0 hx ld le hr hq => ?_
    rcases bin_case hr with ⟨i, j, k, rfl, rfl, hk, rfl⟩ | ⟨z, _⟩ | ⟨z, _⟩ | ⟨z, _⟩ | ⟨z, _⟩
    · unfold opI at hk
      simp only at hk
      split at hk
      · rename_i hw
        have hk : Int.fdiv i j = k := Option.some.inj hk
        subst hk
        rw [ld.int, le.int]
        exact ⟨i, j, rfl, rfl, hw, fin_same e0 hq (.int (Int.fdiv i j))⟩
      · cases hk
    all_goals cases z
  | mod =>
    refine PE.weak (pe_op op_modG ha hb) fun σ H Q h => key h fun ρ v w x d e res H' e0 hx ld le hr hq => ?_
    rcases bin_case hr with ⟨i, j, k, rfl, rfl, hk, rfl⟩ | ⟨z, _⟩ | ⟨z, _⟩ | ⟨z, _⟩ | ⟨z, _⟩
    · unfold opI at hk
      simp only at hk
      split at hk
      · rename_i hw
        have hk : Int.fmod i j = k := Option.some.inj hk
        subst hk
        rw [ld.int, le.int]
        exact ⟨i, j, rfl, rfl, hw, fin_same e0 hq (.int (Int.fmod i j))⟩
      · cases hk
    all_goals cases z
  | pow =>
    refine PE.weak (pe_op op_pow ha hb) fun σ H Q h => key h fun ρ v w x d e res H' e0 hx ld le hr hq => ?_
    rcases bin_case hr with ⟨i, j, k, rfl, rfl, hk, rfl⟩ | ⟨z, _⟩ | ⟨z, _⟩ | ⟨z, _⟩ | ⟨z, _⟩
    · unfold opI at hk
      simp only at hk
      split at hk
      · rename_i hw
        have hk : i ^ j.toNat = k := Option.some.inj hk
        subst hk
        rw [ld.int, le.int]
        exact ⟨i, j, rfl, rfl, ⟨hw.1, by omega, log_pow hw.2.2⟩, fin_same e0 hq (.int (i ^ j.toNat))⟩
      · cases hk
    all_goals cases z
theorem s_neg {a : Expr} {ta : Tm} {pos : Pos} {G : G0} (ha : PE X a (tD W Wx (ev G ta))) : PE X (.UnaryOp .USub a pos) (tD W Wx (ev G (.neg ta))) := by
  refine PE.weak (pe_un un_neg ha) fun σ H Q h => tD_one h fun ρ v x H' e0 hx hp => ?_
  obtain ⟨d, ld, hp⟩ := hp.look e0 hx
  obtain ⟨i, hi, hp⟩ := hp.ofO
  cases d <;> cases hi
  exact ⟨_, ld.int, fin_same e0 hp (.int _)⟩

def coOp : Co → CmpOp
  | .lt => .Lt | .le => .LtE | .gt => .Gt | .ge => .GtE | .eq => .Eq | .ne => .NotEq | .is_ => .Is | .nis => .IsNot | .in_ => .In | .nin => .NotIn
/-- what a comparison by data asks and gives -/
def rCo (W : Wd) (o : Co) : R2 := fun x y H Q => ∃ d e k, Dp W.K H x d ∧ Dp W.K H y e ∧ cmpD o d e = some k ∧ Q (.bl k) H
theorem dpi {K : PySem.W.Frag} {G : Hp} {v : V} {i : Int} (h : Dp K G v (.int i)) : v = .int i := by cases h; rfl
theorem dpn {K : PySem.W.Frag} {G : Hp} {v : V} (h : Dp K G v .none) : v = .non := by cases h; rfl
theorem isNone_eq {K : PySem.W.Frag} {G : Hp} {v : V} {d : D} (h : Dp K G v d) : decide (v = .non) = isNone d := by
  cases h with
  | non => rfl
  | bl b => rfl
  | int i => rfl
  | str x => rfl
  | lst a b => rfl
  | tup a b => rfl
theorem cmp_ints {o : Co} {p : Int → Int → Bool} {f : Value → Value → Sem Value} (hf : OpR X f (rI0 fun i j => .bl (p i j))) (hp : ∀ d e k, cmpD o d e = some k → ∃ i j, d = .int i ∧ e = .int j ∧ k = p i j) : OpR X f (rCo W o) := by
  intro pins s σ H x y v u Q I rx ry h
  obtain ⟨d, e, k, h1, h2, hk, q⟩ := h
  obtain ⟨i, j, rfl, rfl, rfl⟩ := hp d e k hk
  exact hf pins s σ H x y v u Q I rx ry ⟨i, j, dpi h1, dpi h2, q⟩
theorem flat_V {K : PySem.W.Frag} {G : Hp} {v : V} {d : D} (h : Dp K G v d) (f : flat d = true) : flatV v = true := by
  cases h with
  | non => rfl
  | bl b => rfl
  | int i => rfl
  | str x => rfl
  | lst a b => cases f
  | tup a b => cases f
theorem flat_all {K : PySem.W.Frag} {G : Hp} : ∀ {vs : List V} {ds : List D}, DpAll K G vs ds → ds.all flat = true → vs.all flatV = true
  | _, _, .nil, _ => rfl
  | _, _, .cons a t, f => by
    rw [List.all_cons, Bool.and_eq_true] at f ⊢
    exact ⟨flat_V a f.1, flat_all t f.2⟩
theorem eqV_eqv {K : PySem.W.Frag} {G : Hp} {v w : V} {d e : D} (h : Dp K G v d) (g : Dp K G w e) (f1 : flat d = true) (f2 : flat e = true) : eqV v w = PyData.eqv d e := by
  cases h <;> cases g <;> first | rfl | cases f1 | cases f2
theorem inV_eq {K : PySem.W.Frag} {G : Hp} {w : V} {e : D} (g : Dp K G w e) (f2 : flat e = true) : ∀ {vs : List V} {ds : List D}, DpAll K G vs ds → ds.all flat = true → inV w vs = ds.any fun z => PyData.eqv z e
  | _, _, .nil, _ => rfl
  | _, _, .cons a t, f => by
    rw [List.all_cons, Bool.and_eq_true] at f
    show ((_ : List V).any _) = _
    rw [List.any_cons, List.any_cons, eqV_eqv a g f.1 f2]
    exact congrArg _ (inV_eq g f2 t f.2)
theorem inD_seq {d e : D} {k : Bool} (h : inD d e = some k) : (∃ x y, d = .str x ∧ e = .str y ∧ k = isSub x y) ∨ ∃ ys, (e = .list ys ∨ e = .tuple ys) ∧ d.depth ≤ 150 ∧ k = ys.any fun z => PyData.eqv z d := by
  unfold inD at h
  split at h
  · exact .inl ⟨_, _, rfl, rfl, (Option.some.inj h).symm⟩
  · split at h
    · rename_i f
      exact .inr ⟨_, .inl rfl, f, (Option.some.inj h).symm⟩
    · cases h
  · split at h
    · rename_i f
      exact .inr ⟨_, .inr rfl, f, (Option.some.inj h).symm⟩
    · cases h
  · cases h
theorem op_co (o : Co) (hK : W.K = X.K) (hu : X.A.units + 160 < cLine) : OpR X (compareOp (coOp o)) (rCo W o) := by
  have ii : ∀ {p : Int → Int → Bool} (d e : D) (k : Bool), (match d, e with | .int i, .int j => some (p i j) | _, _ => none) = some k → ∃ i j, d = .int i ∧ e = .int j ∧ k = p i j := fun d e k h => by
    split at h
    · exact ⟨_, _, rfl, rfl, (Option.some.inj h).symm⟩
    · cases h
  cases o with
  | lt => exact cmp_ints op_lt fun d e k h => ii (p := fun i j => decide (i < j)) d e k (by cases d <;> cases e <;> first | exact h | cases h)
  | le => exact cmp_ints op_le fun d e k h => ii (p := fun i j => decide (i ≤ j)) d e k (by cases d <;> cases e <;> first | exact h | cases h)
  | gt => exact cmp_ints op_gt fun d e k h => ii (p := fun i j => decide (j < i)) d e k (by cases d <;> cases e <;> first | exact h | cases h)
  | ge => exact cmp_ints op_ge fun d e k h => ii (p := fun i j => decide (j ≤ i)) d e k (by cases d <;> cases e <;> first | exact h | cases h)
  | eq =>
    intro pins s σ H x y v u Q I rx ry h
    obtain ⟨d, e, k, h1, h2, hk, q⟩ := h
    have hk : (if min d.depth e.depth ≤ 150 then some (PyData.eqv d e) else none) = some k := by cases d <;> exact hk
    split at hk
    · rename_i l
      cases hk
      rw [hK] at h1 h2
      exact op_eqG hu pins s σ H x y v u Q I rx ry ⟨d, e, h1, h2, l, q⟩
    · cases hk
  | ne =>
    intro pins s σ H x y v u Q I rx ry h
    obtain ⟨d, e, k, h1, h2, hk, q⟩ := h
    have hk : (if min d.depth e.depth ≤ 150 then some (!PyData.eqv d e) else none) = some k := by cases d <;> exact hk
    split at hk
    · rename_i l
      cases hk
      rw [hK] at h1 h2
      exact op_neG hu pins s σ H x y v u Q I rx ry ⟨d, e, h1, h2, l, q⟩
    · cases hk
  | is_ =>
    intro pins s σ H x y v u Q I rx ry h
    obtain ⟨d, e, k, h1, h2, hk, q⟩ := h
    cases e with
    | none =>
      have hk : isNone d = k := by cases d <;> exact Option.some.inj hk
      rw [← hk, ← isNone_eq h1] at q
      exact op_isN pins s σ H x y v u Q I rx ry ⟨dpn h2, q⟩
    | _ => cases d <;> cases hk
  | nis =>
    intro pins s σ H x y v u Q I rx ry h
    obtain ⟨d, e, k, h1, h2, hk, q⟩ := h
    cases e with
    | none =>
      have hk : (!isNone d) = k := by cases d <;> exact Option.some.inj hk
      rw [← hk, ← isNone_eq h1] at q
      exact op_notN pins s σ H x y v u Q I rx ry ⟨dpn h2, q⟩
    | _ => cases d <;> cases hk
  | in_ =>
    intro pins s σ H x y v u Q I rx ry h
    obtain ⟨d, e, k, h1, h2, hk, q⟩ := h
    have hk : inD d e = some k := by cases d <;> exact hk
    rw [hK] at h1 h2
    rcases inD_seq hk with ⟨z, t, rfl, rfl, rfl⟩ | ⟨ys, he, f1, rfl⟩
    · cases h1
      cases h2
      exact op_in_str pins s σ H _ _ v u Q I rx ry ⟨z, t, rfl, rfl, q⟩
    · refine op_inG hu pins s σ H x y v u Q I rx ry ⟨d, ys, h1, ?_, f1, q⟩
      rcases he with rfl | rfl
      · exact .inl h2
      · exact .inr h2
  | nin =>
    intro pins s σ H x y v u Q I rx ry h
    obtain ⟨d, e, k, h1, h2, hk, q⟩ := h
    have hk : (inD d e).map (!·) = some k := by cases d <;> exact hk
    rw [hK] at h1 h2
    cases hi : inD d e with
    | none => rw [hi] at hk; cases hk
    | some k' =>
      rw [hi] at hk
      have hk : (!k') = k := Option.some.inj hk
      subst hk
      rcases inD_seq hi with ⟨z, t, rfl, rfl, rfl⟩ | ⟨ys, he, f1, rfl⟩
      · cases h1
        cases h2
        exact op_notIn_str pins s σ H _ _ v u Q I rx ry ⟨z, t, rfl, rfl, q⟩
      · refine op_ninG hu pins s σ H x y v u Q I rx ry ⟨d, ys, h1, ?_, f1, q⟩
        rcases he with rfl | rfl
        · exact .inl h2
        · exact .inr h2
theorem look2 {x y : Val} {v w : V} {f : D → D → M Val} {Q : Val → Env → Hp → Prop} (e0 : EnvOk W σ H ρ) (hx : ValOk W σ ρ H v x) (hy : ValOk W σ ρ H w y)
    (h : Post W Wx σ ρ H (M.bind (look x) (fun d => M.bind (look y) fun e => f d e) ρ) Q) : ∃ d e, Dp W.K H v d ∧ Dp W.K H w e ∧ Post W Wx σ ρ H (f d e ρ) Q := by
  obtain ⟨d, ld, h⟩ := h.look e0 hx
  obtain ⟨e, le, h⟩ := h.look e0 hy
  exact ⟨d, e, ld.dp, le.dp, h⟩
theorem fin_bool {k : Bool} {Q : VK} (e : EnvOk W σ H ρ) (h : Post W Wx σ ρ H (M.pure (.fz (.bool k)) ρ) (Fin_ W σ Q)) : Q (.bl k) H := fin_same e h (.bl k)
theorem d_cmp {o : Co} {ta tb : Tm} {Q : VK} {G : G0} (h : tD W Wx (ev G (.cmp o ta tb)) σ H Q) : tOp (rCo W o) (tD W Wx (ev G ta)) (tD W Wx (ev G tb)) σ H Q := tD_two h fun ρ v w x y H' e0 hx hy hp => by
  obtain ⟨d, e, ld, le, hp⟩ := look2 e0 hx hy hp
  obtain ⟨k, hk, hp⟩ := hp.ofO
  exact ⟨d, e, k, ld, le, hk, fin_bool e0 hp⟩
theorem s_cmp {o : Co} {a b : Expr} {ta tb : Tm} {pos : Pos} {G : G0} (ha : PE X a (tD W Wx (ev G ta))) (hb : PE X b (tD W Wx (ev G tb))) (hK : W.K = X.K) (hu : X.A.units + 160 < cLine) (hm : behindInMarks (coOp o) b = false) :
    PE X (.Compare a [coOp o] [b] pos) (tD W Wx (ev G (.cmp o ta tb))) := PE.weak (pe_cmpR (op_co o hK hu) ha hb hm) fun _ _ _ h => d_cmp h
/-- a test by a value's truth -/
theorem tru_dp {K : PySem.W.Frag} {v : V} {d : D} {k : Bool} (h : Dp K H v d) (t : truth d = some k) : TruV K v H k := by
  cases h with
  | non => exact (Option.some.inj t).symm
  | bl b => exact (Option.some.inj t).symm
  | int i => exact (Option.some.inj t).symm
  | str x =>
    unfold truth at t
    simp only at t
    split at t
    · rename_i l
      exact ⟨lim_line l, (Option.some.inj t).symm⟩
    · cases t
  | @lst a xs ds S D =>
    refine .inl ⟨xs, S, ?_⟩
    have e := dpAll_length D
    have t' : (!ds.isEmpty) = k := Option.some.inj t
    rw [← t']
    cases xs <;> cases ds <;> first | rfl | cases e
  | @tup a xs ds S D =>
    refine .inr (.inl ⟨xs, S, ?_⟩)
    have e := dpAll_length D
    have t' : (!ds.isEmpty) = k := Option.some.inj t
    rw [← t']
    cases xs <;> cases ds <;> first | rfl | cases e
/-- the test that a value's run tells -/
def tst (x : M Val) : M Bool := M.bind x fun v => M.bind (look v) fun d => M.ofO (truth d)
theorem t_truth {a : Expr} {x : M Val} (ha : PE X a (tD W Wx x)) (hK : W.K = X.K) (he : ∀ whole, isTrue a X.env whole = (do let v ← whole; standAt a.pos; holding [v] (truthy v))) : PT X a (tT W Wx (tst x)) := by
  refine PT.weak (pt_truth ha he) fun σ H Q h => ?_
  obtain ⟨ρ, e, h⟩ := h
  refine ⟨ρ, e, h.run fun y ρ1 H1 e1 h1 v ⟨hv, _⟩ => ?_⟩
  obtain ⟨d, ld, h1⟩ := h1.look e1.env hv
  obtain ⟨k, hk, hq⟩ := h1.endO
  have z := tru_dp ld.dp hk
  rw [hK] at z
  exact ⟨k, z, hq H1 (Eff.refl e1.env)⟩
theorem bind_assoc {γ : Type} (x : M α) (f : α → M β) (g : β → M γ) : M.bind (M.bind x f) g = M.bind x fun a => M.bind (f a) g := by
  funext ρ
  unfold M.bind
  cases x ρ <;> rfl
theorem bind_pure {γ : Type} (a : α) (f : α → M γ) : M.bind (M.pure a) f = f a := rfl
theorem tT_two {x y : M Val} {f : Val → Val → M Bool} {r : R2} {Q : Bool → Hp → Prop} (h : tT W Wx (M.bind x fun a => M.bind y fun b => f a b) σ H Q)
    (k : ∀ ρ v w a b H', EnvOk W σ H' ρ → ValOk W σ ρ H' v a → ValOk W σ ρ H' w b → Post W Wx σ ρ H' (f a b ρ) (fun k ρ' H2 => Q k H2) → r v w H' fun z H2 => ∃ k, z = .bl k ∧ Q k H2) : tTest (tOp r (tD W Wx x) (tD W Wx y)) σ H Q := by
  obtain ⟨ρ, e, h⟩ := h
  refine ⟨ρ, e, h.run fun a ρ1 H1 e1 h1 v ⟨hv, _⟩ => ?_⟩
  exact ⟨ρ1, e1.env, h1.run fun b ρ2 H2 e2 h2 w ⟨hw, _⟩ => k ρ2 v w a b H2 e2.env (hv.eff e2) hw h2⟩
theorem endB {k : Bool} {Q : Bool → Hp → Prop} (e : EnvOk W σ H ρ) (h : Post W Wx σ ρ H (M.pure k ρ) (fun k ρ' H2 => Q k H2)) : Q k H := h H (Eff.refl e)
theorem t_cmp {o : Co} {a b : Expr} {ta tb : Tm} {pos : Pos} {G : G0} (ha : PE X a (tD W Wx (ev G ta))) (hb : PE X b (tD W Wx (ev G tb))) (hK : W.K = X.K) (hu : X.A.units + 160 < cLine) (hm : behindInMarks (coOp o) b = false) :
    PT X (.Compare a [coOp o] [b] pos) (tT W Wx (evT G (.cmp o ta tb))) := by
  refine PT.weak (pt_cmpR (op_co o hK hu) ha hb hm) fun σ H Q h => ?_
  have h : tT W Wx (M.bind (ev G ta) fun x => M.bind (ev G tb) fun y => M.bind (look x) fun d => M.bind (look y) fun e => M.bind (M.ofO (cmpD o d e)) fun k => M.pure k) σ H Q := by
    have e : evT G (.cmp o ta tb) = (M.bind (ev G ta) fun x => M.bind (ev G tb) fun y => M.bind (look x) fun d => M.bind (look y) fun e => M.bind (M.ofO (cmpD o d e)) fun k => M.pure k) := by
      show M.bind (M.bind (ev G ta) fun x => M.bind (ev G tb) fun y => M.bind (look x) fun d => M.bind (look y) fun e => M.bind (M.ofO (cmpD o d e)) fun k => M.pure (Val.fz (.bool k))) (fun v => M.bind (look v) fun d => M.ofO (truth d)) = _
      simp only [bind_assoc]
      rfl
    rw [← e]
    exact h
  refine tT_two h fun ρ v w x y H' e0 hx hy hp => ?_
  obtain ⟨d, ld, hp⟩ := hp.look e0 hx
  obtain ⟨e, le, hp⟩ := hp.look e0 hy
  obtain ⟨k, hk, hp⟩ := hp.ofO
  exact ⟨d, e, k, ld.dp, le.dp, hk, k, rfl, endB e0 hp⟩
theorem d_chain {o o' : Co} {ta tb tc : Tm} {Q : VK} {G : G0} (h : tD W Wx (ev G (.cmp2 o o' ta tb tc)) σ H Q) : tChain (rCo W o) (rCo W o') (tD W Wx (ev G ta)) (tD W Wx (ev G tb)) (tD W Wx (ev G tc)) σ H Q := by
  obtain ⟨ρ, e, h⟩ := h
  refine ⟨ρ, e, Post.run (x := ev G ta) h fun x ρ1 H1 e1 h1 v ⟨hv, _⟩ => ?_⟩
  refine ⟨ρ1, e1.env, Post.run (x := ev G tb) h1 fun y ρ2 H2 e2 h2 w ⟨hw, _⟩ => ?_⟩
  obtain ⟨d, ld, h2⟩ := h2.look e2.env (hv.eff e2)
  obtain ⟨u, lu, h2⟩ := h2.look e2.env hw
  obtain ⟨k, hk, h2⟩ := h2.ofO
  refine ⟨d, u, k, ld.dp, lu.dp, hk, k, rfl, ?_⟩
  cases k with
  | false =>
    refine iteF ?_
    exact fin_bool e2.env h2
  | true =>
    refine iteT ?_
    refine ⟨ρ2, e2.env, Post.run (x := ev G tc) h2 fun z ρ3 H3 e3 h3 t ⟨ht, _⟩ => ?_⟩
    obtain ⟨d3, ld3, h3⟩ := h3.look e3.env (hw.eff e3)
    obtain ⟨u3, lu3, h3⟩ := h3.look e3.env ht
    obtain ⟨k3, hk3, h3⟩ := h3.ofO
    exact ⟨d3, u3, k3, ld3.dp, lu3.dp, hk3, fin_bool e3.env h3⟩
theorem Post.runE {x : M α} {f : α → M β} {Q : β → Env → Hp → Prop} {Q' : α → Env → Hp → Prop} (h : Post W Wx σ ρ H (M.bind x f ρ) Q) (k : ∀ a ρ1 H1, x ρ = .ok a ρ1 → Eff W σ ρ H ρ1 H1 → Post W Wx σ ρ1 H1 (f a ρ1) Q → Q' a ρ1 H1) : Post W Wx σ ρ H (x ρ) Q' := by
  have h' := h.bind
  cases e : x ρ with
  | ok a ρ1 =>
    rw [e] at h'
    exact fun H1 e1 => k a ρ1 H1 e e1 (h' H1 e1)
  | ex c ρ1 =>
    rw [e] at h'
    exact h'
  | st =>
    rw [e] at h'
    exact h'
/-- its values are True and False alone -/
def BoolV (x : M Val) : Prop := ∀ ρ a ρ', x ρ = .ok a ρ' → ∃ k, a = .fz (.bool k)
theorem BoolV.bind {x : M α} {f : α → M Val} (h : ∀ a, BoolV (f a)) : BoolV (M.bind x f) := fun ρ a ρ' e => by
  unfold M.bind at e
  cases q : x ρ with
  | ok b ρ1 =>
    rw [q] at e
    exact h b ρ1 a ρ' e
  | ex c ρ1 => rw [q] at e; cases e
  | st => rw [q] at e; cases e
theorem BoolV.pure {k : Bool} : BoolV (M.pure (.fz (.bool k))) := fun ρ a ρ' e => by
  cases e
  exact ⟨k, rfl⟩
theorem BoolV.ite {c : Prop} [Decidable c] {x y : M Val} (a : BoolV x) (b : BoolV y) : BoolV (if c then x else y) := by
  split
  · exact a
  · exact b
theorem bool_test {x : M Val} {t : TE} {Q : Bool → Hp → Prop} (bv : BoolV x) (hw : ∀ Q, tD W Wx x σ H Q → t σ H Q) (h : tT W Wx (tst x) σ H Q) : t σ H fun x H' => ∃ k, x = .bl k ∧ Q k H' := by
  obtain ⟨ρ, e, h⟩ := h
  refine hw _ ⟨ρ, e, Post.runE (x := x) h fun a ρ1 H1 q e1 h1 v ⟨hv, _⟩ => ?_⟩
  obtain ⟨k, rfl⟩ := bv _ _ _ q
  cases hv
  exact ⟨k, rfl, endB e1.env h1⟩
theorem boolV_cmp2 {o o' : Co} {ta tb tc : Tm} {G : G0} : BoolV (ev G (.cmp2 o o' ta tb tc)) :=
  .bind fun _ => .bind fun _ => .bind fun _ => .bind fun _ => .bind fun _ => .ite (.bind fun _ => .bind fun _ => .bind fun _ => .bind fun _ => .pure) .pure
theorem s_cmp2 {o o' : Co} {a b c : Expr} {ta tb tc : Tm} {pos : Pos} {G : G0} (ha : PE X a (tD W Wx (ev G ta))) (hb : PE X b (tD W Wx (ev G tb))) (hc : PE X c (tD W Wx (ev G tc))) (hK : W.K = X.K) (hu : X.A.units + 160 < cLine) (hm : lastMarks [coOp o, coOp o'] [b, c] = false) :
    PE X (.Compare a [coOp o, coOp o'] [b, c] pos) (tD W Wx (ev G (.cmp2 o o' ta tb tc))) := PE.weak (pe_chain (op_co o hK hu) (op_co o' hK hu) ha hb hc hm) fun _ _ _ h => d_chain h
theorem t_cmp2 {o o' : Co} {a b c : Expr} {ta tb tc : Tm} {pos : Pos} {G : G0} (ha : PE X a (tD W Wx (ev G ta))) (hb : PE X b (tD W Wx (ev G tb))) (hc : PE X c (tD W Wx (ev G tc))) (hK : W.K = X.K) (hu : X.A.units + 160 < cLine) (hm : lastMarks [coOp o, coOp o'] [b, c] = false) :
    PT X (.Compare a [coOp o, coOp o'] [b, c] pos) (tT W Wx (evT G (.cmp2 o o' ta tb tc))) := PT.weak (pt_chain (op_co o hK hu) (op_co o' hK hu) ha hb hc hm) fun _ _ _ h => bool_test boolV_cmp2 (fun _ => d_chain) h

theorem asBool_ok {x : Val} {k : Bool} (h : asBool x = some k) : x = .fz (.bool k) := by
  unfold asBool at h
  split at h
  · cases h; rfl
  · cases h
theorem s_not {a : Expr} {ta : Tm} {pos : Pos} {G : G0} (ha : PE X a (tD W Wx (ev G ta))) : PE X (.UnaryOp .Not a pos) (tD W Wx (ev G (.nt ta))) := by
  refine PE.weak (pe_not ha) fun σ H Q h => ?_
  obtain ⟨ρ, e, h⟩ := h
  refine ⟨ρ, e, Post.run (x := ev G ta) h fun x ρ1 H1 e1 h1 v ⟨hv, _⟩ => ?_⟩
  obtain ⟨k, hk, h1⟩ := h1.ofO
  cases asBool_ok hk
  cases hv
  exact ⟨k, rfl, fin_bool e1.env h1⟩
theorem s_and {a b : Expr} {r : List Expr} {ta tb : Tm} {pos : Pos} {G : G0} (ha : PE X a (tD W Wx (ev G ta))) (hb : PE X (.BoolOp .And (b :: r) pos) (tD W Wx (ev G tb))) : PE X (.BoolOp .And (a :: b :: r) pos) (tD W Wx (ev G (.an ta tb))) := by
  refine PE.weak (pe_and ha hb) fun σ H Q h => ?_
  obtain ⟨ρ, e, h⟩ := h
  refine ⟨ρ, e, Post.run (x := ev G ta) h fun x ρ1 H1 e1 h1 v ⟨hv, _⟩ => ?_⟩
  obtain ⟨k, hk, h1⟩ := h1.ofO
  cases asBool_ok hk
  cases hv
  refine ⟨k, rfl, ?_⟩
  cases k with
  | true => exact iteT ⟨ρ1, e1.env, h1⟩
  | false => exact iteF (fin_bool e1.env h1)
theorem s_or {a b : Expr} {r : List Expr} {ta tb : Tm} {pos : Pos} {G : G0} (ha : PE X a (tD W Wx (ev G ta))) (hb : PE X (.BoolOp .Or (b :: r) pos) (tD W Wx (ev G tb))) : PE X (.BoolOp .Or (a :: b :: r) pos) (tD W Wx (ev G (.or ta tb))) := by
  refine PE.weak (pe_or ha hb) fun σ H Q h => ?_
  obtain ⟨ρ, e, h⟩ := h
  refine ⟨ρ, e, Post.run (x := ev G ta) h fun x ρ1 H1 e1 h1 v ⟨hv, _⟩ => ?_⟩
  obtain ⟨k, hk, h1⟩ := h1.ofO
  cases asBool_ok hk
  cases hv
  refine ⟨k, rfl, ?_⟩
  cases k with
  | true => exact iteT (fin_bool e1.env h1)
  | false => exact iteF ⟨ρ1, e1.env, h1⟩
theorem s_one {a : Expr} {op : BoolOp} {x : M Val} {pos : Pos} (ha : PE X a (tD W Wx x)) : PE X (.BoolOp op [a] pos) (tD W Wx x) := pe_one ha
theorem w_and1 {a : Expr} {x : M Bool} {pos : Pos} (ha : PT X a (tT W Wx x)) : PW X (.BoolOp .And [a] pos) (tT W Wx x) := pw_and1 ha
theorem w_or1 {a : Expr} {x : M Bool} {pos : Pos} (ha : PT X a (tT W Wx x)) : PW X (.BoolOp .Or [a] pos) (tT W Wx x) := pw_or1 ha
theorem w_and {a b : Expr} {r : List Expr} {ta tb : Tm} {pos : Pos} {G : G0} (ha : PT X a (tT W Wx (evT G ta))) (hb : PW X (.BoolOp .And (b :: r) pos) (tT W Wx (evT G tb))) : PW X (.BoolOp .And (a :: b :: r) pos) (tT W Wx (evT G (.an ta tb))) := by
  refine PW.weak (pw_and ha hb) fun σ H Q h => ?_
  obtain ⟨ρ, e, h⟩ := h
  refine ⟨ρ, e, Post.run (x := evT G ta) h fun k ρ1 H1 e1 h1 => ?_⟩
  cases k with
  | true => exact iteT ⟨ρ1, e1.env, h1⟩
  | false => exact iteF (endB e1.env h1)
theorem w_or {a b : Expr} {r : List Expr} {ta tb : Tm} {pos : Pos} {G : G0} (ha : PT X a (tT W Wx (evT G ta))) (hb : PW X (.BoolOp .Or (b :: r) pos) (tT W Wx (evT G tb))) : PW X (.BoolOp .Or (a :: b :: r) pos) (tT W Wx (evT G (.or ta tb))) := by
  refine PW.weak (pw_or ha hb) fun σ H Q h => ?_
  obtain ⟨ρ, e, h⟩ := h
  refine ⟨ρ, e, Post.run (x := evT G ta) h fun k ρ1 H1 e1 h1 => ?_⟩
  cases k with
  | true => exact iteT (endB e1.env h1)
  | false => exact iteF ⟨ρ1, e1.env, h1⟩
theorem t_not {a : Expr} {ta : Tm} {pos : Pos} {G : G0} (ha : PT X a (tT W Wx (evT G ta))) : PT X (.UnaryOp .Not a pos) (tT W Wx (evT G (.nt ta))) := by
  refine PT.weak (pt_not ha) fun σ H Q h => ?_
  obtain ⟨ρ, e, h⟩ := h
  exact ⟨ρ, e, Post.run (x := evT G ta) h fun k ρ1 H1 e1 h1 => endB e1.env h1⟩
theorem s_ie {c a b : Expr} {tc ta tb : Tm} {pos : Pos} {G : G0} (hc : PT X c (tT W Wx (evT G tc))) (ha : PE X a (tD W Wx (ev G ta))) (hb : PE X b (tD W Wx (ev G tb))) : PE X (.IfExp c a b pos) (tD W Wx (ev G (.ie tc ta tb))) := by
  refine PE.weak (pe_ifExp hc ha hb) fun σ H Q h => ?_
  obtain ⟨ρ, e, h⟩ := h
  refine ⟨ρ, e, Post.run (x := evT G tc) h fun k ρ1 H1 e1 h1 => ?_⟩
  cases k with
  | true => exact iteT ⟨ρ1, e1.env, h1⟩
  | false => exact iteF ⟨ρ1, e1.env, h1⟩

theorem a_nilS {G : G0} : PA X [] (tS W Wx (evs G .nil)) := PA.weak pa_nil fun σ H Q h => by
  obtain ⟨ρ, e, h⟩ := h
  exact h H (Eff.refl e) [] .nil
theorem a_consS {e : Expr} {es : List Expr} {te : Tm} {l : Tms} {G : G0} (he : PE X e (tD W Wx (ev G te))) (hl : PA X es (tS W Wx (evs G l))) (hs : starEach (e :: es) X.env = (false, eval e X.env) :: starEach es X.env) : PA X (e :: es) (tS W Wx (evs G (.cons te l))) := by
  refine PA.weak (pa_cons he hl hs) fun σ H Q h => ?_
  obtain ⟨ρ, e, h⟩ := h
  refine ⟨ρ, e, Post.run (x := ev G te) h fun x ρ1 H1 e1 h1 v ⟨hv, _⟩ => ?_⟩
  obtain ⟨d, hd, h1⟩ := h1.keep hv
  refine ⟨ρ1, e1.env, Post.run (x := evs G l) h1 fun ds ρ2 H2 e2 h2 vs hvs => ?_⟩
  exact h2 H2 (Eff.refl e2.env) (v :: vs) (.cons (dp_mono e2.sub _ _ hd) hvs)
theorem a_nilL {G : G0} : PA X [] (tL W Wx (evl G .nil)) := PA.weak pa_nil fun σ H Q h => by
  obtain ⟨ρ, e, h⟩ := h
  exact h H (Eff.refl e) [] .nil
theorem a_consL {e : Expr} {es : List Expr} {te : Tm} {l : Tms} {G : G0} (he : PE X e (tD W Wx (ev G te))) (hl : PA X es (tL W Wx (evl G l))) (hs : starEach (e :: es) X.env = (false, eval e X.env) :: starEach es X.env) : PA X (e :: es) (tL W Wx (evl G (.cons te l))) := by
  refine PA.weak (pa_cons he hl hs) fun σ H Q h => ?_
  obtain ⟨ρ, e, h⟩ := h
  refine ⟨ρ, e, Post.run (x := ev G te) h fun x ρ1 H1 e1 h1 v ⟨hv, _⟩ => ?_⟩
  refine ⟨ρ1, e1.env, Post.run (x := evl G l) h1 fun xs ρ2 H2 e2 h2 vs hvs => ?_⟩
  exact h2 H2 (Eff.refl e2.env) (v :: vs) (.cons (hv.eff e2) hvs)
def Tms.len : Tms → Nat
  | .nil => 0
  | .cons _ l => l.len + 1
theorem evs_len {G : G0} : ∀ (l : Tms) (ρ : Env) (ds : List D) (ρ' : Env), evs G l ρ = .ok ds ρ' → ds.length = l.len
  | .nil, ρ, ds, ρ', h => by
    cases h
    rfl
  | .cons a l, ρ, ds, ρ', h => by
    have h : M.bind (ev G a) (fun x => M.bind (keep x) fun d => M.bind (evs G l) fun ds => M.pure (d :: ds)) ρ = .ok ds ρ' := h
    unfold M.bind at h
    cases q : ev G a ρ with
    | ok x ρ1 =>
      rw [q] at h
      simp only at h
      cases q2 : keep x ρ1 with
      | ok d ρ2 =>
        rw [q2] at h
        simp only at h
        cases q3 : evs G l ρ2 with
        | ok es ρ3 =>
          rw [q3] at h
          cases h
          exact congrArg Nat.succ (evs_len l _ _ _ q3)
        | ex c ρ3 => rw [q3] at h; cases h
        | st => rw [q3] at h; cases h
      | ex c ρ2 => rw [q2] at h; cases h
      | st => rw [q2] at h; cases h
    | ex c ρ1 => rw [q] at h; cases h
    | st => rw [q] at h; cases h
theorem s_tup {es : List Expr} {l : Tms} {k : Nat} {pos : Pos} {G : G0} (h : PA X es (tS W Wx (evs G l))) (hn : l.len ≤ 1000) : PE X (.Tuple es k pos) (tD W Wx (ev G (.tup l))) := by
  refine PE.weak (pe_tup h) fun σ H Q h => ?_
  obtain ⟨ρ, e, h⟩ := h
  refine ⟨ρ, e, Post.runE (x := evs G l) h fun ds ρ1 H1 q e1 h1 vs hvs => ⟨?_, fun p hp => fin_new e1.env hp h1 (newT e1.env hp hvs)⟩⟩
  rw [dpAll_length hvs, evs_len l _ _ _ q]
  exact Nat.le_trans hn (by decide)
theorem s_lst {es : List Expr} {l : Tms} {pos : Pos} {G : G0} (h : PA X es (tS W Wx (evs G l))) (hn : l.len ≤ 1000) : PE X (.List es pos) (tD W Wx (ev G (.lst l))) := by
  refine PE.weak (pe_lst h) fun σ H Q h => ?_
  obtain ⟨ρ, e, h⟩ := h
  refine ⟨ρ, e, Post.runE (x := evs G l) h fun ds ρ1 H1 q e1 h1 vs hvs => ⟨?_, fun p hp => fin_new e1.env hp h1 (newL e1.env hp hvs)⟩⟩
  rw [dpAll_length hvs, evs_len l _ _ _ q]
  exact Nat.le_trans hn (by decide)

theorem at_map {K : PySem.W.Frag} {G : Hp} {vs : List V} {ds : List D} (h : DpAll K G vs ds) {i : Int} {d : D} (q : atI ds i = some d) : ∃ v, atI vs i = some v ∧ Dp K G v d := by
  unfold atI at q ⊢
  rw [dpAll_length h]
  cases e : ixN ds.length i with
  | none => rw [e] at q; cases q
  | some j =>
    rw [e] at q
    exact dpAll_get j h q
theorem ixD_case {d e r : D} (h : ixD d e = some r) : (∃ xs i, d = .list xs ∧ e = .int i ∧ atI xs i = some r) ∨ (∃ xs i, d = .tuple xs ∧ e = .int i ∧ atI xs i = some r) ∨
    ∃ x i c, d = .str x ∧ e = .int i ∧ x.length ≤ lim ∧ atI x.cps.toList i = some c ∧ r = .str ⟨#[c]⟩ := by
  unfold ixD at h
  split at h
  · exact .inl ⟨_, _, rfl, rfl, h⟩
  · exact .inr (.inl ⟨_, _, rfl, rfl, h⟩)
  · split at h
    · rename_i x i l
      refine .inr (.inr ?_)
      cases q : at_ x.cps.toList i with
      | none => rw [q] at h; cases h
      | some c =>
        rw [q] at h
        exact ⟨x, i, c, rfl, rfl, l, q, (Option.some.inj h).symm⟩
    · cases h
  · cases h
theorem s_ix {a b : Expr} {ta tb : Tm} {pos : Pos} {G : G0} (ha : PE X a (tD W Wx (ev G ta))) (hb : PE X b (tD W Wx (ev G tb))) (hs : PlainIx b) (hK : W.K = X.K) : PE X (.Subscript a b pos) (tD W Wx (ev G (.ix ta tb))) := by
  refine PE.weak (pe_ix ix_seq ha hb hs) fun σ H Q h => tD_two h fun ρ v w x y H' e0 hx hy hp => ?_
  obtain ⟨d, ld, hp⟩ := hp.look e0 hx
  obtain ⟨e, le, hp⟩ := hp.look e0 hy
  obtain ⟨r, hr, hq⟩ := hp.ofO
  rcases ixD_case hr with ⟨xs, i, rfl, rfl, q⟩ | ⟨xs, i, rfl, rfl, q⟩ | ⟨x, i, c, rfl, rfl, l, q, rfl⟩
  · obtain ⟨a1, vs, rfl, S, D⟩ := ld.list
    obtain ⟨z, hz, dz⟩ := at_map D q
    rw [hK] at S
    exact .inl ⟨a1, vs, i, z, rfl, le.int, S, hz, fin_same e0 hq dz⟩
  · obtain ⟨a1, vs, rfl, S, D⟩ := ld.tuple
    obtain ⟨z, hz, dz⟩ := at_map D q
    rw [hK] at S
    exact .inr (.inl ⟨a1, vs, i, z, rfl, le.int, S, hz, fin_same e0 hq dz⟩)
  · exact .inr (.inr ⟨x, i, c, ld.str, le.int, lim_line l, q, fin_same e0 hq (.str _)⟩)
/-- a slice by values -/
theorem cut_map {K : PySem.W.Frag} {G : Hp} {vs : List V} {ds : List D} (h : DpAll K G vs ds) (lo hi : Option Int) : DpAll K G (cutV vs lo hi) (cutL ds lo hi) := by
  unfold cutV cutL
  rw [dpAll_length h]
  exact dpAll_take _ (dpAll_drop _ h)
theorem slV_case {d : D} {lo hi : Option Int} {r : Val} (h : slV d lo hi = some r) : (∃ xs, d = .list xs ∧ r = .bx (.l (cutL xs lo hi))) ∨ (∃ xs, d = .tuple xs ∧ r = .fz (.tuple (cutL xs lo hi))) ∨
    ∃ x, d = .str x ∧ x.length ≤ lim ∧ r = .fz (.str (cutS x lo hi)) := by
  unfold slV at h
  split at h
  · exact .inl ⟨_, rfl, (Option.some.inj h).symm⟩
  · exact .inr (.inl ⟨_, rfl, (Option.some.inj h).symm⟩)
  · split at h
    · rename_i l
      exact .inr (.inr ⟨_, rfl, l, (Option.some.inj h).symm⟩)
    · cases h
  · cases h
theorem slice_ok {d : D} {lo hi : Option Int} {r : Val} {v : V} {Q : VK} (e0 : EnvOk W σ H ρ) (hK : W.K = X.K) (ld : Lk W.K (hide (Oc W σ ρ) H) H v d) (hr : slV d lo hi = some r) (hq : ∀ H', Eff W σ ρ H ρ H' → Fin_ W σ Q r ρ H') :
    rSlL X.K v lo hi H Q ∨ rSlA X.K v lo hi H Q ∨ rSlS v lo hi H Q := by
  rcases slV_case hr with ⟨xs, rfl, rfl⟩ | ⟨xs, rfl, rfl⟩ | ⟨x, rfl, l, rfl⟩
  · obtain ⟨a, vs, rfl, S, D⟩ := ld.list
    rw [hK] at S
    exact .inl ⟨a, vs, rfl, S, fun p hp => fin_new e0 hp hq (newL e0 hp (cut_map D lo hi))⟩
  · have ld' := ld
    obtain ⟨a, vs, rfl, S, D⟩ := ld.tuple
    rw [hK] at S
    refine .inr (.inl ⟨a, vs, rfl, S, fun hz => ?_, fun _ p hp => fin_new e0 hp hq (newT e0 hp (cut_map D lo hi))⟩)
    have e : cutL xs lo hi = xs := by
      unfold cutL
      rw [dpAll_length D] at hz
      rw [hz.1, hz.2, List.drop_zero, Nat.sub_zero, List.take_length]
    rw [e] at hq
    rcases ld' with h | ⟨_, _, _, _, z, _⟩
    · exact fin_same e0 hq h
    · cases z
  · exact .inr (.inr ⟨x, ld.str, lim_line l, fin_same e0 hq (.str _)⟩)
theorem asInt_ok {d : D} {i : Int} (h : asInt d = some i) : d = .int i := by
  cases d <;> cases h <;> rfl
theorem s_slL {a lo : Expr} {ta tl : Tm} {p2 pos : Pos} {G : G0} (ha : PE X a (tD W Wx (ev G ta))) (hl : PE X lo (tD W Wx (ev G tl))) (hK : W.K = X.K) : PE X (.Subscript a (.Slice (some lo) none none p2) pos) (tD W Wx (ev G (.slL ta tl))) := by
  refine PE.weak (pe_slice (sl_list.or (sl_tupA.or sl_str)) ha (po_some hl) po_none) fun σ H Q h => ?_
  obtain ⟨ρ, e, h⟩ := h
  refine ⟨ρ, e, Post.run (x := ev G ta) h fun x ρ1 H1 e1 h1 v ⟨hv, _⟩ => ?_⟩
  refine ⟨ρ1, e1.env, Post.run (x := ev G tl) h1 fun y ρ2 H2 e2 h2 w ⟨hw, _⟩ => ?_⟩
  obtain ⟨u, lu, h2⟩ := h2.look e2.env hw
  obtain ⟨i, hi, h2⟩ := h2.ofO
  cases asInt_ok hi
  obtain ⟨d, ld, h2⟩ := h2.look e2.env (hv.eff e2)
  obtain ⟨r, hr, hq⟩ := h2.endO
  exact ⟨i, lu.int, slice_ok e2.env hK ld hr hq⟩
theorem s_slH {a hi : Expr} {ta th : Tm} {p2 pos : Pos} {G : G0} (ha : PE X a (tD W Wx (ev G ta))) (hh : PE X hi (tD W Wx (ev G th))) (hK : W.K = X.K) : PE X (.Subscript a (.Slice none (some hi) none p2) pos) (tD W Wx (ev G (.slH ta th))) := by
  refine PE.weak (pe_slice (sl_list.or (sl_tupA.or sl_str)) ha po_none (po_some hh)) fun σ H Q h => ?_
  obtain ⟨ρ, e, h⟩ := h
  refine ⟨ρ, e, Post.run (x := ev G ta) h fun x ρ1 H1 e1 h1 v ⟨hv, _⟩ => ?_⟩
  refine ⟨ρ1, e1.env, Post.run (x := ev G th) h1 fun y ρ2 H2 e2 h2 w ⟨hw, _⟩ => ?_⟩
  obtain ⟨u, lu, h2⟩ := h2.look e2.env hw
  obtain ⟨i, hi, h2⟩ := h2.ofO
  cases asInt_ok hi
  obtain ⟨d, ld, h2⟩ := h2.look e2.env (hv.eff e2)
  obtain ⟨r, hr, hq⟩ := h2.endO
  exact ⟨i, lu.int, slice_ok e2.env hK ld hr hq⟩
theorem s_slB {a lo hi : Expr} {ta tl th : Tm} {p2 pos : Pos} {G : G0} (ha : PE X a (tD W Wx (ev G ta))) (hl : PE X lo (tD W Wx (ev G tl))) (hh : PE X hi (tD W Wx (ev G th))) (hK : W.K = X.K) : PE X (.Subscript a (.Slice (some lo) (some hi) none p2) pos) (tD W Wx (ev G (.slB ta tl th))) := by
  refine PE.weak (pe_slice (sl_list.or (sl_tupA.or sl_str)) ha (po_some hl) (po_some hh)) fun σ H Q h => ?_
  obtain ⟨ρ, e, h⟩ := h
  refine ⟨ρ, e, Post.run (x := ev G ta) h fun x ρ1 H1 e1 h1 v ⟨hv, _⟩ => ?_⟩
  refine ⟨ρ1, e1.env, Post.run (x := ev G tl) h1 fun y ρ2 H2 e2 h2 w ⟨hw, _⟩ => ?_⟩
  obtain ⟨u, lu, h2⟩ := h2.look e2.env hw
  obtain ⟨i, hi, h2⟩ := h2.ofO
  cases asInt_ok hi
  refine ⟨i, lu.int, ρ2, e2.env, Post.run (x := ev G th) h2 fun z ρ3 H3 e3 h3 t ⟨ht, _⟩ => ?_⟩
  obtain ⟨u3, lu3, h3⟩ := h3.look e3.env ht
  obtain ⟨j, hj, h3⟩ := h3.ofO
  cases asInt_ok hj
  obtain ⟨d, ld, h3⟩ := h3.look e3.env ((hv.eff e2).eff e3)
  obtain ⟨r, hr, hq⟩ := h3.endO
  exact ⟨j, lu3.int, slice_ok e3.env hK ld hr hq⟩

theorem looks_ok (e : EnvOk W σ H ρ) {f : List D → M β} {Q : β → Env → Hp → Prop} : ∀ {vs : List V} {xs : List Val}, ValsOk W σ ρ H vs xs → Post W Wx σ ρ H (M.bind (looks xs) f ρ) Q →
    ∃ ds, Paired (Lk W.K (hide (Oc W σ ρ) H) H) vs ds ∧ Post W Wx σ ρ H (f ds ρ) Q
  | _, _, .nil, h => ⟨[], .nil, h⟩
  | _, _, .cons (x := x) (xs := xs) a t, h => by
    have h : Post W Wx σ ρ H (M.bind (look x) (fun d => M.bind (looks xs) fun ds => f (d :: ds)) ρ) Q := by
      have e2 : M.bind (looks (x :: xs)) f = M.bind (look x) (fun d => M.bind (looks xs) fun ds => f (d :: ds)) := by
        show M.bind (M.bind (look x) fun d => M.bind (looks xs) fun ds => M.pure (d :: ds)) f = _
        simp only [bind_assoc]
        rfl
      rw [← e2]
      exact h
    obtain ⟨d, ld, h⟩ := h.look e a
    obtain ⟨ds, lds, h⟩ := looks_ok e t h
    exact ⟨d :: ds, .cons ld lds, h⟩
theorem d_bi {f : Bi} {l : Tms} {r : List V → Hp → VK → Prop} {Q : VK} {G : G0} (h : tD W Wx (ev G (.bi f l)) σ H Q)
    (k : ∀ ρ vs ds res H', EnvOk W σ H' ρ → Paired (Lk W.K (hide (Oc W σ ρ) H') H') vs ds → biV f ds = some res → (∀ H2, Eff W σ ρ H' ρ H2 → Fin_ W σ Q res ρ H2) → r vs H' Q) : tCB r (tL W Wx (evl G l)) σ H Q := by
  obtain ⟨ρ, e, h⟩ := h
  refine ⟨ρ, e, Post.run (x := evl G l) h fun xs ρ1 H1 e1 h1 vs hvs => ?_⟩
  obtain ⟨ds, p, h1⟩ := looks_ok e1.env hvs h1
  obtain ⟨res, hr, hq⟩ := h1.endO
  exact k ρ1 vs ds res H1 e1.env p hr hq
theorem pair1 {α β : Type} {R : α → β → Prop} {vs : List α} {d : β} (p : Paired R vs [d]) : ∃ v, vs = [v] ∧ R v d := by
  cases p with
  | cons a t =>
    cases t
    exact ⟨_, rfl, a⟩
theorem pair2 {α β : Type} {R : α → β → Prop} {vs : List α} {d e : β} (p : Paired R vs [d, e]) : ∃ v w, vs = [v, w] ∧ R v d ∧ R w e := by
  cases p with
  | cons a t =>
    cases t with
    | cons b t =>
      cases t
      exact ⟨_, _, rfl, a, b⟩
/-- what each built-in asks and gives -/
def CallRs (X : Cx) (W : Wd) (f : Bi) (c : Value) : Prop := ∃ r, CallR X c r ∧ ∀ (σ : L2.St) (ρ : Env) (H : Hp) (Q : VK) (vs : List V) (ds : List D) (res : Val), EnvOk W σ H ρ → Paired (Lk W.K (hide (Oc W σ ρ) H) H) vs ds → biV f ds = some res → (∀ H2, Eff W σ ρ H ρ H2 → Fin_ W σ Q res ρ H2) → r vs H Q
theorem c_len (hK : W.K = X.K) : CallRs X W .len (.builtin "len") := ⟨_, call_len, fun σ ρ H Q vs ds res e p hr hq => by
  have hr : lenV ds = some res := hr
  unfold lenV at hr
  split at hr
  · obtain ⟨v, rfl, l⟩ := pair1 p
    cases Option.some.inj hr
    obtain ⟨a, ws, rfl, S, D⟩ := l.list
    rw [hK] at S
    exact ⟨_, _, rfl, .inl ⟨ws, S, (dpAll_length D).symm⟩, fin_same e hq (.int _)⟩
  · obtain ⟨v, rfl, l⟩ := pair1 p
    cases Option.some.inj hr
    obtain ⟨a, ws, rfl, S, D⟩ := l.tuple
    rw [hK] at S
    exact ⟨_, _, rfl, .inr ⟨ws, S, (dpAll_length D).symm⟩, fin_same e hq (.int _)⟩
  · split at hr
    · rename_i x _ hl
      obtain ⟨v, rfl, l⟩ := pair1 p
      cases Option.some.inj hr
      cases l.str
      exact ⟨_, _, rfl, ⟨lim_line hl, rfl⟩, fin_same e hq (.int _)⟩
    · cases hr
  · cases hr⟩
theorem c_abs : CallRs X W .abs (.builtin "abs") := ⟨_, call_abs, fun σ ρ H Q vs ds res e p hr hq => by
  have hr : absV ds = some res := hr
  unfold absV at hr
  split at hr
  · obtain ⟨v, rfl, l⟩ := pair1 p
    cases Option.some.inj hr
    cases l.int
    exact ⟨_, rfl, fin_same e hq (.int _)⟩
  · cases hr⟩
theorem c_int : CallRs X W .int (.type "int") := ⟨_, call_int1.or call_int_str, fun σ ρ H Q vs ds res e p hr hq => by
  have hr : intV ds = some res := hr
  unfold intV at hr
  split at hr
  · obtain ⟨v, rfl, l⟩ := pair1 p
    cases Option.some.inj hr
    cases l.int
    exact .inl (.inl ⟨_, rfl, fin_same e hq (.int _)⟩)
  · split at hr
    · rename_i x _ hl
      obtain ⟨v, rfl, l⟩ := pair1 p
      cases q : intText? x with
      | none => rw [q] at hr; cases hr
      | some n =>
        rw [q] at hr
        cases Option.some.inj hr
        cases l.str
        exact .inr ⟨x, n, rfl, q, hl, fin_same e hq (.int _)⟩
    · cases hr
  · cases hr⟩
theorem c_str : CallRs X W .str (.type "str") := ⟨_, call_str_int, fun σ ρ H Q vs ds res e p hr hq => by
  have hr : strV ds = some res := hr
  unfold strV at hr
  split at hr
  · split at hr
    · rename_i i _ hl
      obtain ⟨v, rfl, l⟩ := pair1 p
      cases Option.some.inj hr
      cases l.int
      exact ⟨i, rfl, hl, fin_same e hq (.str _)⟩
    · cases hr
  · cases hr⟩
theorem c_list (hK : W.K = X.K) : CallRs X W .list (.type "list") := ⟨_, call_list_of, fun σ ρ H Q vs ds res e p hr hq => by
  have hr : listV ds = some res := hr
  unfold listV at hr
  split at hr
  · obtain ⟨v, rfl, l⟩ := pair1 p
    cases Option.some.inj hr
    obtain ⟨a, ws, rfl, S, D⟩ := l.list
    rw [hK] at S
    exact ⟨a, ws, rfl, .inl S, fun l hl => fin_new e hl hq (newL e hl D)⟩
  · obtain ⟨v, rfl, l⟩ := pair1 p
    cases Option.some.inj hr
    obtain ⟨a, ws, rfl, S, D⟩ := l.tuple
    rw [hK] at S
    exact ⟨a, ws, rfl, .inr S, fun l hl => fin_new e hl hq (newL e hl D)⟩
  · cases hr⟩
theorem c_tuple (hK : W.K = X.K) : CallRs X W .tuple (.type "tuple") := ⟨_, call_tuple_of, fun σ ρ H Q vs ds res e p hr hq => by
  have hr : tupleV ds = some res := hr
  unfold tupleV at hr
  split at hr
  · obtain ⟨v, rfl, l⟩ := pair1 p
    cases Option.some.inj hr
    obtain ⟨a, ws, rfl, S, D⟩ := l.list
    rw [hK] at S
    exact ⟨a, ws, rfl, .inl ⟨S, fun l hl => fin_new e hl hq (newT e hl D)⟩⟩
  · obtain ⟨v, rfl, l⟩ := pair1 p
    cases Option.some.inj hr
    have l' := l
    obtain ⟨a, ws, rfl, S, D⟩ := l.tuple
    rw [hK] at S
    refine ⟨a, ws, rfl, .inr ⟨S, ?_⟩⟩
    rcases l' with h | ⟨_, _, _, _, z, _⟩
    · exact fin_same e hq h
    · cases z
  · cases hr⟩
theorem c_gcd : CallRs X W .gcd (.builtin "math.gcd") := ⟨_, cr_gcd, fun σ ρ H Q vs ds res e p hr hq => by
  have hr : gcdV ds = some res := hr
  unfold gcdV at hr
  split at hr
  · obtain ⟨v, w, rfl, l, m⟩ := pair2 p
    cases Option.some.inj hr
    cases l.int
    cases m.int
    exact ⟨_, _, rfl, fin_same e hq (.int _)⟩
  · cases hr⟩
theorem s_biB {f : Bi} {id : String} {x : Str} {p pos : Pos} {e : Expr} {es : List Expr} {l : Tms} {G : G0} (hc : CallRs X W f (.builtin id)) (hg : Gl X x) (hm : X.mg x = none) (hv : bootBuiltins x = some (.builtin id)) (ha : PA X (e :: es) (tL W Wx (evl G l)))
    (hn : x ≠ "__name__") (hdb : (x == ("__debug__" : Str)) = false) (he : starEach (e :: es) X.env = (false, eval e X.env) :: starEach es X.env) (hpl : (backTo pos (starEach es X.env)).any (·.1) = false) :
    PE X (.Call (.Name x p) (e :: es) [] pos) (tD W Wx (ev G (.bi f l))) := by
  obtain ⟨r, hc, k⟩ := hc
  exact PE.weak (pe_callB hc hg hm hv ha hn hdb he hpl) fun σ H Q h => d_bi h fun ρ vs ds res H' e0 pr hr hq => k σ ρ H' Q vs ds res e0 pr hr hq
theorem s_biT {f : Bi} {id : String} {x : Str} {p pos : Pos} {e : Expr} {es : List Expr} {l : Tms} {G : G0} (hc : CallRs X W f (.type id)) (hg : Gl X x) (hm : X.mg x = none) (hv : bootBuiltins x = some (.type id)) (ha : PA X (e :: es) (tL W Wx (evl G l)))
    (hn : x ≠ "__name__") (hdb : (x == ("__debug__" : Str)) = false) (he : starEach (e :: es) X.env = (false, eval e X.env) :: starEach es X.env) (hpl : (backTo pos (starEach es X.env)).any (·.1) = false) :
    PE X (.Call (.Name x p) (e :: es) [] pos) (tD W Wx (ev G (.bi f l))) := by
  obtain ⟨r, hc, k⟩ := hc
  exact PE.weak (pe_callTy hc hg hm hv ha hn hdb he hpl) fun σ H Q h => d_bi h fun ρ vs ds res H' e0 pr hr hq => k σ ρ H' Q vs ds res e0 pr hr hq
theorem s_biG {f : Bi} {id : String} {x : Str} {p pos : Pos} {e : Expr} {es : List Expr} {l : Tms} {G : G0} (hc : CallRs X W f (.builtin id)) (hg : Gl X x) (hm : X.mg x = some (.builtin id)) (ha : PA X (e :: es) (tL W Wx (evl G l)))
    (hdb : (x == ("__debug__" : Str)) = false) (he : starEach (e :: es) X.env = (false, eval e X.env) :: starEach es X.env) (hpl : (backTo pos (starEach es X.env)).any (·.1) = false) :
    PE X (.Call (.Name x p) (e :: es) [] pos) (tD W Wx (ev G (.bi f l))) := by
  obtain ⟨r, hc, k⟩ := hc
  exact PE.weak (pe_callBfun hc hg hm ha hdb he hpl) fun σ H Q h => d_bi h fun ρ vs ds res H' e0 pr hr hq => k σ ρ H' Q vs ds res e0 pr hr hq
end
end Pz

namespace Pz
open PySem PySem.Spec PyProof.Rows L2
def noStar : Expr → Bool
  | .Starred _ _ => false
  | _ => true
theorem star_cons {e : Expr} {es : List Expr} {env : PySem.Env} (h : noStar e = true) : starEach (e :: es) env = (false, eval e env) :: starEach es env := by
  cases e <;> first | rfl | cases h
theorem star_all {env : PySem.Env} {pos : Pos} : ∀ {es : List Expr}, es.all noStar = true → (backTo pos (starEach es env)).any (·.1) = false
  | [], _ => rfl
  | e :: es, h => by
    rw [List.all_cons, Bool.and_eq_true] at h
    rw [star_cons h.1]
    show (false || (backTo pos (starEach es env)).any (·.1)) = false
    rw [star_all h.2]
    rfl
theorem star_none {env : PySem.Env} {pos : Pos} : ∀ {es : List Expr}, es.all noStar = true → (backTo pos (starEach es env)).all (fun x => !x.1) = true
  | [], _ => rfl
  | e :: es, h => by
    rw [List.all_cons, Bool.and_eq_true] at h
    rw [star_cons h.1]
    show (true && (backTo pos (starEach es env)).all (fun x => !x.1)) = true
    rw [star_none h.2]
    rfl
/-- a receiver that is no call -/
def plainRecv : Expr → Bool
  | .Call _ _ _ _ => false
  | _ => true
theorem base_ok {o : Expr} {f : Str} {env : PySem.Env} (h : plainRecv o = true) : attributeBase o f env (eval o env) = eval o env := by
  cases o <;> first | rfl | cases h
section
variable {W : Wd} {Wx : WX} {σ : L2.St} {ρ : Env} {H : Hp} {α β : Type} {X : Cx}
def MtRs (X : Cx) (W : Wd) (m : Mt) (T : String) (id : String) : Prop := (∀ v O H d, mtKind m d = some () → Lk W.K (hide O H) H v d → L2.tyV X.K T v H) ∧
  ∃ r, MtR X id r ∧ ∀ (σ : L2.St) (ρ : Env) (H : Hp) (Q : VK) (v : V) (d : D) (vs : List V) (ds : List D) (res : Val), EnvOk W σ H ρ → Lk W.K (hide (Oc W σ ρ) H) H v d → Paired (Lk W.K (hide (Oc W σ ρ) H) H) vs ds → mtV m d ds = some res → (∀ H2, Eff W σ ρ H ρ H2 → Fin_ W σ Q res ρ H2) → r v vs H Q
theorem findIdx_spec {p : D → Bool} : ∀ {ys : List D}, ys.any p = true → ∃ z, ys[ys.findIdx p]? = some z ∧ p z = true ∧ ∀ m y, m < ys.findIdx p → ys[m]? = some y → p y = false := fun {ys} h => by
  have hl : ys.findIdx p < ys.length := List.findIdx_lt_length.mpr (by
    obtain ⟨z, hz, pz⟩ := List.any_eq_true.mp h
    exact ⟨z, hz, pz⟩)
  refine ⟨ys[ys.findIdx p], List.getElem?_eq_getElem hl, List.findIdx_getElem, fun m y hm e => ?_⟩
  have := List.not_of_lt_findIdx hm
  obtain ⟨hm', e'⟩ := List.getElem?_eq_some_iff.mp e
  rw [e'] at this
  simpa using this
theorem m_index (hK : W.K = X.K) : MtRs X W .index "list" "list.index" := by
  have inv : ∀ {d ds r}, mtV .index d ds = some r → ∃ ys x, d = .list ys ∧ ds = [x] ∧ flat x = true ∧ ys.all flat = true ∧ ys.any (fun z => PyData.eqv z x) = true ∧ r = .fz (.int (ys.findIdx fun z => PyData.eqv z x)) := fun {d ds r} h => by
    have h : indexV d ds = some r := h
    unfold indexV at h
    split at h
    · split at h
      · rename_i c
        simp only [Bool.and_eq_true] at c
        exact ⟨_, _, rfl, rfl, c.1.1, c.1.2, c.2, (Option.some.inj h).symm⟩
      · cases h
    · cases h
  refine ⟨fun v O H d hr ld => ?_, _, mt_index, fun σ ρ H Q v d vs ds res e ld p hr hq => ?_⟩
  · cases d <;> cases hr
    obtain ⟨a, ws, rfl, S, D⟩ := ld.list
    rw [hK] at S
    exact .inl ⟨rfl, ws, S⟩
  · obtain ⟨ys, y, rfl, rfl, f1, f2, an, rfl⟩ := inv hr
    obtain ⟨a, ws, rfl, S, D⟩ := ld.list
    obtain ⟨w, rfl, lw⟩ := pair1 p
    obtain ⟨z, hz, pz, hno⟩ := findIdx_spec an
    obtain ⟨vz, hvz, dz⟩ := dpAll_get _ D hz
    have dw := lw.dp
    have fz : flat z = true := by
      have := List.all_eq_true.mp f2 z (List.mem_of_getElem? hz)
      exact this
    rw [hK] at S
    refine ⟨a, ws, w, _, vz, rfl, rfl, S, flat_V dw f1, flat_all D f2, hvz, ?_, fun m z' hm hz' => ?_, fin_same e hq (.int _)⟩
    · rw [eqV_eqv (dp_mono hide_sub _ _ dz) dw fz f1]
      exact pz
    · obtain ⟨dm, hdm, qm⟩ := dpAll_get' m D hz'
      rw [eqV_eqv (dp_mono hide_sub _ _ qm) dw (List.all_eq_true.mp f2 dm (List.mem_of_getElem? hdm)) f1]
      exact hno m dm hm hdm
theorem m_partition : MtRs X W .partition "str" "str.partition" := by
  have inv : ∀ {d ds r}, mtV .partition d ds = some r → ∃ a b, d = .str a ∧ ds = [.str b] ∧ b.length ≠ 0 ∧ a.length ≤ lim ∧ r = .fz (.tuple [.str (Txt.partition a b).1, .str (Txt.partition a b).2.1, .str (Txt.partition a b).2.2]) := fun {d ds r} h => by
    have h : partV d ds = some r := h
    unfold partV at h
    split at h
    · split at h
      · rename_i c
        exact ⟨_, _, rfl, rfl, c.1, c.2, (Option.some.inj h).symm⟩
      · cases h
    · cases h
  refine ⟨fun v O H d hr ld => ?_, _, mt_partition, fun σ ρ H Q v d vs ds res e ld p hr hq => ?_⟩
  · cases d <;> cases hr
    cases ld.str
    rfl
  · obtain ⟨a, b, rfl, rfl, l1, l2, rfl⟩ := inv hr
    cases ld.str
    obtain ⟨w, rfl, lw⟩ := pair1 p
    cases lw.str
    exact ⟨a, b, rfl, rfl, by simpa using l1, lim_line l2, fun p hp => fin_new e hp hq (newT e hp (.cons (.str _) (.cons (.str _) (.cons (.str _) .nil))))⟩
theorem s_mt {m : Mt} {T id : String} {o e : Expr} {es : List Expr} {to : Tm} {l : Tms} {name : Str} {apos cpos : Pos} {G : G0} (hm : MtRs X W m T id) (pa : PlainAttrs T) (slot : PySem.Slot T name id) (hty : typeOf (.builtin id) = pure (.type "method_descriptor")) (ho : PE X o (tD W Wx (ev G to)))
    (ha : PA X (e :: es) (tL W Wx (evl G l))) (hr : plainRecv o = true) (hn : (e :: es).all noStar = true) (hl : (e :: es).length < 20) (hline : (apos.endLine == cpos.line) = true) : PE X (.Call (.Attribute o name apos) (e :: es) [] cpos) (tD W Wx (ev G (.mt m to l))) := by
  obtain ⟨ht, r, hm, k⟩ := hm
  have hn' := hn
  rw [List.all_cons, Bool.and_eq_true] at hn'
  have hfew : ((backTo cpos (starEach (e :: es) X.env)).all (fun x => !x.1) && (backToKw cpos (keywordEach [] X.env)).all (fun x => x.1.isSome)
      && decide ((e :: es).length + ([] : List Keyword).length + (if ([] : List Keyword).isEmpty then 0 else 1) < 30)) = true := by
    rw [star_none hn]
    have : (e :: es).length + ([] : List Keyword).length + (if ([] : List Keyword).isEmpty then 0 else 1) < 30 := by
      show (e :: es).length + 0 + 0 < 30
      omega
    rw [decide_eq_true this]
    rfl
  refine PE.weak (pe_bm pa slot hty hm ho ha (base_ok hr) hfew hline (star_cons hn'.1) (star_all hn'.2)) fun σ H Q h => ?_
  obtain ⟨ρ, e, h⟩ := h
  refine ⟨ρ, e, Post.run (x := ev G to) h fun x ρ1 H1 e1 h1 v ⟨hv, _⟩ => ?_⟩
  obtain ⟨d0, ld0, h1⟩ := h1.look e1.env hv
  obtain ⟨u, hu, h1⟩ := h1.ofO
  refine ⟨ht v _ H1 d0 hu ld0, ρ1, e1.env, Post.run (x := evl G l) h1 fun xs ρ2 H2 e2 h2 vs hvs => ?_⟩
  obtain ⟨d, ld, h2⟩ := h2.look e2.env (hv.eff e2)
  obtain ⟨ds, pr, h2⟩ := looks_ok e2.env hvs h2
  obtain ⟨res, hr2, hq⟩ := h2.endO
  exact k σ ρ2 H2 Q v d vs ds res e2.env ld pr hr2 hq

def tName : D → String
  | .none => "NoneType" | .bool _ => "bool" | .int _ => "int" | .str _ => "str" | .list _ => "list" | .tuple _ => "tuple" | .dict _ => "dict"
def Ty.name : Ty → String
  | .int => "int" | .bool => "bool" | .str => "str" | .list => "list" | .tuple => "tuple"
theorem tyx_of {K : PySem.W.Frag} {v : V} {d : D} (h : Dp K H v d) : TyX K H v (.type (tName d)) := by
  cases h with
  | non => exact .base .non
  | bl b => exact .base (.bl b)
  | int i => exact .base (.int i)
  | str x => exact .base (.str x)
  | lst S _ =>
    rcases S with (S | ⟨o, S⟩) | ⟨o, its, n, k, c, _⟩
    · exact .base (.lst S)
    · exact .base (.frz S)
    · exact .kList k c
  | tup S _ =>
    rcases S with (S | ⟨o, S⟩) | ⟨o, its, n, k, c, _⟩
    · exact .base (.tup S)
    · exact .fTuple S
    · exact .kTuple k c
theorem kit_tab (K : PySem.W.Frag) (d : D) (T : Ty) (n : noDict d = true) : PySem.W.kitOne K (.type (tName d)) (.type T.name) = some (tyD d T) := by
  refine kit_ty ?_
  cases d with
  | dict _ => cases n
  | _ => cases T <;> simp only [tName, Ty.name, tyD] <;> decide +kernel
theorem s_isi {a : Expr} {ta : Tm} {T : Ty} {xi xT : Str} {p pT pos : Pos} {G : G0} (hg : Gl X xi) (hxi : xi = "isinstance") (hm : X.mg xi = none) (ha : PE X a (tD W Wx (ev G ta))) (hK : W.K = X.K)
    (gT : Gl X xT) (mT : X.mg xT = none) (vT : bootBuiltins xT = some (.type T.name)) (nT : xT ≠ "__name__") (dT : (xT == ("__debug__" : Str)) = false) (hs : noStar a = true) :
    PE X (.Call (.Name xi p) [a, .Name xT pT] [] pos) (tD W Wx (ev G (.isi ta T))) := by
  subst hxi
  have hT : PE X (.Name xT pT) (tC (.ty T.name)) := pe_bltn gT mT vT rfl nT dT
  refine PE.weak (pe_callB call_isi hg hm (by decide +kernel) (pa_cons ha (pa_cons hT pa_nil rfl) (star_cons hs)) (by decide) (by decide) (star_cons hs) (star_all rfl)) fun σ H Q h => ?_
  obtain ⟨ρ, e, h⟩ := h
  refine ⟨ρ, e, Post.run (x := ev G ta) h fun x ρ1 H1 e1 h1 v ⟨hv, _⟩ => ?_⟩
  obtain ⟨d, ld, h1⟩ := h1.look e1.env hv
  have q := ld.dp
  have n := dp_noDict d v q
  rw [hK] at q
  exact ⟨v, .ty T.name, _, .type T.name, _, rfl, .ty _, tyx_of q, kit_tab X.K d T n, fin_bool e1.env h1⟩

theorem setE_get {ρ : Env} {i j : Nat} {s : Slot} : (ρ.set i s)[j]? = if i = j then (if i < ρ.length then some s else none) else ρ[j]? := by
  by_cases h : i = j
  · subst h
    rw [if_pos rfl]
    by_cases l : i < ρ.length
    · rw [if_pos l, List.getElem?_set_self l]
    · rw [if_neg l, List.getElem?_eq_none (by simpa using l)]
  · rw [if_neg h, List.getElem?_set_ne h]
theorem own_set {i : Nat} {b b' : Box} {io lk lk' : Bool} (h : ρ[i]? = some (.bx b io lk)) (a : Addr) : Own σ (ρ.set i (.bx b' io lk')) a ↔ Own σ ρ a := by
  have l : i < ρ.length := by
    obtain ⟨l, _⟩ := List.getElem?_eq_some_iff.mp h
    exact l
  constructor
  · rintro ⟨j, ⟨c, io2, lk2, e⟩, q⟩
    by_cases hj : i = j
    · subst hj
      exact ⟨i, ⟨b, io, lk, h⟩, q⟩
    · rw [setE_get, if_neg hj] at e
      exact ⟨j, ⟨c, io2, lk2, e⟩, q⟩
  · rintro ⟨j, ⟨c, io2, lk2, e⟩, q⟩
    by_cases hj : i = j
    · subst hj
      exact ⟨i, ⟨b', io, lk', by rw [setE_get, if_pos rfl, if_pos l]⟩, q⟩
    · exact ⟨j, ⟨c, io2, lk2, by rw [setE_get, if_neg hj]; exact e⟩, q⟩
theorem oc_set {i : Nat} {b b' : Box} {io lk lk' : Bool} (h : ρ[i]? = some (.bx b io lk)) : Oc W σ (ρ.set i (.bx b' io lk')) = Oc W σ ρ := by
  funext a
  exact propext ⟨fun z => z.elim .inl fun y => .inr ((own_set h a).mp y), fun z => z.elim .inl fun y => .inr ((own_set h a).mpr y)⟩
theorem hide_upd {O : Addr → Prop} {a : Addr} {o : HO} (h : O a) : hide O (upd H a o) = hide O H := by
  funext b
  by_cases hb : O b
  · have e1 : ∀ H' : Hp, hide O H' b = none := fun H' => by
      unfold hide
      exact if_pos hb
    rw [e1, e1]
  · have e1 : ∀ H' : Hp, hide O H' b = H' b := fun H' => by
      unfold hide
      exact if_neg hb
    rw [e1, e1, upd_ne (fun z => hb (by rw [z]; exact h))]
/-- the box at slot i is b' now, its list vs' -/
theorem EnvOk.setBox (e : EnvOk W σ H ρ) {i : Nat} {b : Box} {io lk : Bool} {a : Addr} {vs' : List V} {ds' : List D} (h : ρ[i]? = some (.bx b io lk)) (ha : σ[i]? = some (some (.ref a))) (q : DpAll W.K (hide (Oc W σ ρ) H) vs' ds') :
    EnvOk W σ (upd H a (.lst vs')) (ρ.set i (.bx (.l ds') io lk)) ∧ hide (Oc W σ (ρ.set i (.bx (.l ds') io lk))) (upd H a (.lst vs')) = hide (Oc W σ ρ) H := by
  have l : i < ρ.length := by
    obtain ⟨l, _⟩ := List.getElem?_eq_some_iff.mp h
    exact l
  have hO : Own σ ρ a := ⟨i, ⟨b, io, lk, h⟩, ha⟩
  have eO : Oc W σ (ρ.set i (.bx (.l ds') io lk)) = Oc W σ ρ := oc_set h
  have eH : hide (Oc W σ (ρ.set i (.bx (.l ds') io lk))) (upd H a (.lst vs')) = hide (Oc W σ ρ) H := by
    rw [eO]
    exact hide_upd (.inr hO)
  refine ⟨⟨by rw [List.length_set]; exact e.len, fun c o z n t => ?_, fun c o z => ?_, fun j s hj => ?_, fun c z => e.own c ((own_set h c).mp z), fun j c lk2 d hj hd => ?_, fun j c lk2 d hj hd => ?_, fun j k c hj hk => ?_, fun c z => ?_, e.sub, fun P hP => ?_⟩, eH⟩
  · by_cases hc : c = a
    · subst hc
      rcases e.own c hO with y | y
      · exact absurd y n
      · rw [y] at z
        cases z
    · rw [upd_ne hc]
      exact e.fr c o z n t
  · by_cases hc : c = a
    · subst hc
      exact ⟨_, upd_same⟩
    · rw [upd_ne hc]
      exact e.th c o z
  · rw [eH]
    by_cases hij : i = j
    · subst hij
      rw [setE_get, if_pos rfl, if_pos l] at hj
      cases hj
      exact ⟨a, by rw [ha]; rfl, vs', upd_same, q⟩
    · rw [setE_get, if_neg hij] at hj
      have z := e.sl j s hj
      cases s with
      | un => trivial
      | fz d => exact z
      | bx c io2 lk2 =>
        obtain ⟨a2, h1, h2⟩ := z
        refine ⟨a2, h1, ?_⟩
        have ne : a2 ≠ a := fun y => by
          subst y
          exact hij (e.inj i j a2 ⟨⟨b, io, lk, h⟩, ha⟩ ⟨⟨c, io2, lk2, hj⟩, join_some h1⟩)
        exact h2.mono (.refl _) fun o y _ => by
          rw [upd_ne ne]
          exact y
      | xc c => exact z
  · by_cases hij : i = j
    · subst hij
      rw [setE_get, if_pos rfl, if_pos l] at hj
      cases hj
      exact e.io i b lk d h hd
    · rw [setE_get, if_neg hij] at hj
      exact e.io j c lk2 d hj hd
  · by_cases hij : i = j
    · subst hij
      rw [setE_get, if_pos rfl, if_pos l] at hj
      cases hj
      exact e.nio i b lk d h hd
    · rw [setE_get, if_neg hij] at hj
      exact e.nio j c lk2 d hj hd
  · have f : ∀ j, OwnAt σ (ρ.set i (.bx (.l ds') io lk)) j c → OwnAt σ ρ j c := fun j ⟨⟨d, io2, lk2, y⟩, z⟩ => by
      by_cases hij : i = j
      · subst hij
        exact ⟨⟨b, io, lk, h⟩, z⟩
      · rw [setE_get, if_neg hij] at y
        exact ⟨⟨d, io2, lk2, y⟩, z⟩
    exact e.inj j k c (f j hj) (f k hk)
  · by_cases hc : c = a
    · subst hc
      exact ⟨_, upd_same⟩
    · obtain ⟨o, y⟩ := e.tr c z
      exact ⟨o, by rw [upd_ne hc]; exact y⟩
  · obtain ⟨ps, z, t⟩ := e.tb P hP
    obtain ⟨b2, vs2, z2⟩ : ∃ b2 : Unit, ∃ vs2, H a = some (.lst vs2) := by
      obtain ⟨a2, h1, h2⟩ := e.slot h
      rw [ha] at h1
      have h1 : V.ref a = V.ref a2 := Option.some.inj h1
      injection h1 with h1
      subst h1
      cases b with
      | l ds =>
        obtain ⟨vs2, z2, _⟩ := h2
        exact ⟨(), vs2, z2⟩
    have hc : P ≠ a := fun y => by
      rw [y, z2] at z
      cases z
    exact ⟨ps, by rw [upd_ne hc]; exact z, t⟩
theorem Eff.setBox (e : EnvOk W σ H ρ) {i : Nat} {b : Box} {io lk : Bool} {a : Addr} {vs' : List V} {ds' : List D} (h : ρ[i]? = some (.bx b io lk)) (ha : σ[i]? = some (some (.ref a))) (q : DpAll W.K (hide (Oc W σ ρ) H) vs' ds') :
    Eff W σ ρ H (ρ.set i (.bx (.l ds') io lk)) (upd H a (.lst vs')) := by
  have l : i < ρ.length := by
    obtain ⟨l, _⟩ := List.getElem?_eq_some_iff.mp h
    exact l
  refine ⟨⟨fun c o z n _ => ?_, fun c o z => ?_⟩, (e.setBox h ha q).1, fun c z => (own_set h c).mp z, fun j c io2 lk2 hj => ?_⟩
  · have hc : c ≠ a := fun y => n (y ▸ ⟨i, ⟨b, io, lk, h⟩, ha⟩)
    rw [upd_ne hc]
    exact z
  · by_cases hc : c = a
    · subst hc
      exact ⟨_, upd_same⟩
    · exact ⟨o, by rw [upd_ne hc]; exact z⟩
  · by_cases hij : i = j
    · subst hij
      rw [h] at hj
      cases hj
      exact ⟨_, by rw [setE_get, if_pos rfl, if_pos l]⟩
    · exact ⟨c, by rw [setE_get, if_neg hij]; exact hj⟩
theorem last_dp {K : PySem.W.Frag} {G : Hp} {vs : List V} {ds : List D} {d : D} (h : DpAll K G vs ds) (q : ds.getLast? = some d) : ∃ v, vs[vs.length - 1]? = some v ∧ Dp K G v d := by
  rw [List.getLast?_eq_getElem?] at q
  rw [dpAll_length h]
  exact dpAll_get _ h q
theorem box_at (e : EnvOk W σ H ρ) {i : Nat} {xs : List D} {io lk : Bool} (h : ρ[i]? = some (.bx (.l xs) io lk)) : ∃ a vs, σ[i]? = some (some (.ref a)) ∧ H a = some (.lst vs) ∧ DpAll W.K (hide (Oc W σ ρ) H) vs xs := by
  obtain ⟨a, h1, vs, h2, h3⟩ := e.slot h
  exact ⟨a, vs, join_some h1, h2, h3⟩
theorem s_pop {i : Nat} {x : Str} {p apos cpos : Pos} {G : G0} (hN : X.N[i]? = some x) (hv : Vis X.env.scope x) (hd : (x == ("__debug__" : Str)) = false) (hcd : (x == ("__classdict__" : Str)) = false) (hline : (apos.endLine == cpos.line) = true) :
    PE X (.Call (.Attribute (.Name x p) "pop" apos) [] [] cpos) (tD W Wx (ev G (.pop i))) := by
  refine PE.weak (pe_bm0 PySem.F.plainAttrs_list PySem.F.slot_list_pop PySem.F.type_list_pop mt_pop (pe_var hN hv hd hcd) (base_ok rfl) hline) fun σ H Q h => ?_
  obtain ⟨ρ, e, h⟩ := h
  have h : Post W Wx σ ρ H (popAt i ρ) (Fin_ W σ Q) := h
  unfold popAt at h
  split at h
  · rename_i xs io hs
    cases q : xs.getLast? with
    | none => rw [q] at h; exact h.elim
    | some d =>
      rw [q] at h
      obtain ⟨a, vs, ha, hH, hD⟩ := box_at e hs
      obtain ⟨y, hy, dy⟩ := last_dp hD q
      refine ⟨.ref a, ha, .inl ⟨rfl, vs, .of hH⟩, a, vs, y, rfl, rfl, hH, hy, ?_⟩
      have ef := Eff.setBox e hs ha (dpAll_dropLast hD)
      refine h _ ef y ⟨?_, fun _ z => by cases z⟩
      show Dp _ _ _ _
      rw [(e.setBox hs ha (dpAll_dropLast hD)).2]
      exact dy
  · exact h.elim
end
end Pz

namespace Pz
open PySem PySem.Spec PyProof.Rows L2
section
variable {W : Wd} {Wx : WX} {σ σ' : L2.St} {ρ ρ' : Env} {H H' : Hp} {α β : Type} {X : Cx}
theorem stE_get {σ : L2.St} {i j : Nat} {s : Option V} : (σ.set i s)[j]? = if i = j then (if i < σ.length then some s else none) else σ[j]? := by
  by_cases h : i = j
  · subst h
    rw [if_pos rfl]
    by_cases l : i < σ.length
    · rw [if_pos l, List.getElem?_set_self l]
    · rw [if_neg l, List.getElem?_eq_none (by simpa using l)]
  · rw [if_neg h, List.getElem?_set_ne h]
theorem hide_mono {O O' : Addr → Prop} (h : ∀ a, O' a → O a) : Sub (hide O H) (hide O' H) := fun b o z _ => by
  obtain ⟨n, z⟩ := hide_some.mp z
  exact hide_some.mpr ⟨fun y => n (h b y), z⟩
theorem oc_mono (h : ∀ a, Own σ' ρ' a → Own σ ρ a) (a : Addr) (z : Oc W σ' ρ' a) : Oc W σ ρ a := z.elim .inl fun y => .inr (h a y)
theorem SlotOk.mono {G G' : Hp} {v : Option V} {s : Slot} (h : SlotOk W G H v s) (g : Sub G G') (k : ∀ b io lk, s = .bx b io lk → ∀ a o, v = some (.ref a) → H a = some o → NoTbl o → H' a = some o) : SlotOk W G' H' v s := by
  cases s with
  | un => trivial
  | fz d =>
    obtain ⟨x, h1, h2⟩ := h
    exact ⟨x, h1, dp_mono g _ _ h2⟩
  | bx b io lk =>
    obtain ⟨a, h1, h2⟩ := h
    exact ⟨a, h1, h2.mono g fun o z t => k b io lk rfl a o h1 z t⟩
  | xc c =>
    obtain ⟨a, h1, φ, h2, h3⟩ := h
    exact ⟨a, h1, φ, g _ _ h2 nt_ext, h3⟩
/-- another state of the slots over the same heap, which owns no more -/
theorem EnvOk.re (e : EnvOk W σ H ρ) (len : ρ'.length = σ'.length) (ow : ∀ i a, OwnAt σ' ρ' i a → OwnAt σ ρ i a ∧ ρ'[i]? = ρ[i]?)
    (sl : ∀ (i : Nat) (s : Slot), ρ'[i]? = some s → SlotOk W (hide (Oc W σ ρ) H) H (σ'[i]?.join) s) : EnvOk W σ' H ρ' := by
  have on : ∀ a, Own σ' ρ' a → Own σ ρ a := fun a ⟨i, h⟩ => ⟨i, (ow i a h).1⟩
  refine ⟨len, e.fr, e.th, fun i s h => (sl i s h).mono (hide_mono (oc_mono on)) (fun _ _ _ _ _ _ _ z _ => z), fun a h => e.own a (on a h), fun i b lk a h1 h2 => ?_, fun i b lk a h1 h2 => ?_, fun i j a h1 h2 => e.inj i j a (ow i a h1).1 (ow j a h2).1, e.tr, e.sub, e.tb⟩
  · obtain ⟨⟨_, h4⟩, h3⟩ := ow i a ⟨⟨b, true, lk, h1⟩, h2⟩
    rw [h1] at h3
    exact e.io i b lk a h3.symm h4
  · obtain ⟨⟨_, h4⟩, h3⟩ := ow i a ⟨⟨b, false, lk, h1⟩, h2⟩
    rw [h1] at h3
    exact e.nio i b lk a h3.symm h4
/-- a slot gets what is no box -/
def plainS : Slot → Bool
  | .bx _ _ _ => false
  | _ => true
theorem EnvOk.set (e : EnvOk W σ H ρ) {i : Nat} {s : Slot} {v : Option V} (l : i < ρ.length) (p : plainS s = true) (h : SlotOk W (hide (Oc W σ ρ) H) H v s) : EnvOk W (σ.set i v) H (ρ.set i s) := by
  have l2 : i < σ.length := e.len ▸ l
  refine e.re (by rw [List.length_set, List.length_set]; exact e.len) (fun j a h => ?_) fun j t h => ?_
  · obtain ⟨⟨b, io, lk, h1⟩, h2⟩ := h
    by_cases q : i = j
    · subst q
      rw [setE_get, if_pos rfl, if_pos l] at h1
      cases h1
      cases p
    · rw [setE_get, if_neg q] at h1
      rw [stE_get, if_neg q] at h2
      exact ⟨⟨⟨b, io, lk, h1⟩, h2⟩, by rw [setE_get, if_neg q]⟩
  · by_cases q : i = j
    · subst q
      rw [setE_get, if_pos rfl, if_pos l] at h
      cases h
      rw [stE_get, if_pos rfl, if_pos l2]
      exact h
    · rw [setE_get, if_neg q] at h
      rw [stE_get, if_neg q]
      exact e.sl j t h
theorem own_plain {i : Nat} {s : Slot} {v : Option V} (p : plainS s = true) {a : Addr} (h : Own (σ.set i v) (ρ.set i s) a) : Own σ ρ a := by
  obtain ⟨j, ⟨b, io, lk, h1⟩, h2⟩ := h
  by_cases q : i = j
  · subst q
    rw [setE_get, if_pos rfl] at h1
    split at h1
    · cases h1
      cases p
    · cases h1
  · rw [setE_get, if_neg q] at h1
    rw [stE_get, if_neg q] at h2
    exact ⟨j, ⟨b, io, lk, h1⟩, h2⟩
/-- a slot gets a fresh box -/
theorem EnvOk.setB (e : EnvOk W σ H ρ) {i : Nat} {b : Box} {v : V} (l : i < ρ.length) (h : ValOkS W σ ρ H v (.bx b)) : EnvOk W (σ.set i (some v)) H (ρ.set i (.bx b false false)) := by
  obtain ⟨⟨p, rfl, h0, n, q⟩, fr⟩ := h
  have fr := fr b rfl p rfl
  have l2 : i < σ.length := e.len ▸ l
  have ow : ∀ j a, OwnAt (σ.set i (some (.ref p))) (ρ.set i (.bx b false false)) j a → (j = i ∧ a = p) ∨ (j ≠ i ∧ OwnAt σ ρ j a) := fun j a ⟨⟨c, io, lk, h1⟩, h2⟩ => by
    by_cases z : i = j
    · subst z
      rw [stE_get, if_pos rfl, if_pos l2] at h2
      cases h2
      exact .inl ⟨rfl, rfl⟩
    · rw [setE_get, if_neg z] at h1
      rw [stE_get, if_neg z] at h2
      exact .inr ⟨fun y => z y.symm, ⟨c, io, lk, h1⟩, h2⟩
  have hs : Sub (hide (fun a => Oc W σ ρ a ∨ a = p) H) (hide (Oc W (σ.set i (some (.ref p))) (ρ.set i (.bx b false false))) H) := hide_mono fun a z => by
    rcases z with z | ⟨j, z⟩
    · exact .inl (.inl z)
    · rcases ow j a z with ⟨_, z⟩ | ⟨_, z⟩
      · exact .inr z
      · exact .inl (.inr ⟨j, z⟩)
  -- what is seen without p is seen still: data that stand there do not lean on p
  refine ⟨by rw [List.length_set, List.length_set]; exact e.len, e.fr, e.th, fun j s hj => ?_, fun a z => ?_, fun j c lk a h1 h2 => ?_, fun j c lk a h1 h2 => ?_, fun j k a h1 h2 => ?_, e.tr, e.sub, e.tb⟩
  · by_cases z : i = j
    · subst z
      rw [setE_get, if_pos rfl, if_pos l] at hj
      cases hj
      rw [stE_get, if_pos rfl, if_pos l2]
      exact ⟨p, rfl, q.mono hs fun _ y _ => y⟩
    · rw [setE_get, if_neg z] at hj
      rw [stE_get, if_neg z]
      exact (fr j s hj).mono hs fun _ _ _ _ _ _ _ y _ => y
  · obtain ⟨j, z⟩ := z
    rcases ow j a z with ⟨_, rfl⟩ | ⟨_, z⟩
    · exact .inr h0
    · exact e.own a ⟨j, z⟩
  · by_cases z : i = j
    · subst z
      rw [setE_get, if_pos rfl, if_pos l] at h1
      cases h1
    · rw [setE_get, if_neg z] at h1
      rw [stE_get, if_neg z] at h2
      exact e.io j c lk a h1 h2
  · by_cases z : i = j
    · subst z
      rw [stE_get, if_pos rfl, if_pos l2] at h2
      cases h2
      exact fun y => n (.inl y)
    · rw [setE_get, if_neg z] at h1
      rw [stE_get, if_neg z] at h2
      exact e.nio j c lk a h1 h2
  · rcases ow j a h1 with ⟨rfl, rfl⟩ | ⟨nj, y1⟩
    · rcases ow k a h2 with ⟨rfl, _⟩ | ⟨nk, y2⟩
      · rfl
      · exact absurd (.inr ⟨k, y2⟩) n
    · rcases ow k a h2 with ⟨rfl, rfl⟩ | ⟨nk, y2⟩
      · exact absurd (.inr ⟨j, y1⟩) n
      · exact e.inj j k a y1 y2
/-- a value into a slot -/
theorem put_ok (e : EnvOk W σ H ρ) {i : Nat} {v : V} {x : Val} (h : ValOkS W σ ρ H v x) : putV i x ρ = .st ∨ ∃ ρ2, putV i x ρ = .ok () ρ2 ∧ EnvOk W (σ.set i (some v)) H ρ2 := by
  have key : ∀ s, (setS i s ρ = .st) ∨ (i < ρ.length ∧ setS i s ρ = .ok () (ρ.set i s)) := fun s => by
    unfold setS
    by_cases l : i < ρ.length
    · rw [if_pos l]
      exact .inr ⟨l, rfl⟩
    · rw [if_neg l]
      exact .inl rfl
  cases x with
  | fz d =>
    rcases key (.fz d) with q | ⟨l, q⟩
    · exact .inl q
    · exact .inr ⟨_, q, e.set l rfl ⟨v, rfl, h.1⟩⟩
  | bx b =>
    rcases key (.bx b false false) with q | ⟨l, q⟩
    · exact .inl q
    · exact .inr ⟨_, q, e.setB l h⟩
  | vw j => exact .inl rfl
  | xc c =>
    rcases key (.xc c) with q | ⟨l, q⟩
    · exact .inl q
    · obtain ⟨a, rfl, z⟩ := h.1
      exact .inr ⟨_, q, e.set l rfl ⟨a, rfl, z⟩⟩
theorem calmS_plain (s : Slot) : plainS (calmS s) = true := by
  cases s with
  | bx b io lk => cases io <;> rfl
  | _ => rfl
theorem calm_get (ρ : Env) (i : Nat) : (ρ.map calmS)[i]? = (ρ[i]?).map calmS := by simp
theorem own_calm (a : Addr) : ¬ Own σ (ρ.map calmS) a := fun ⟨i, ⟨b, io, lk, h⟩, _⟩ => by
  rw [calm_get] at h
  cases q : ρ[i]? with
  | none => rw [q] at h; cases h
  | some s =>
    rw [q] at h
    have h : calmS s = .bx b io lk := Option.some.inj h
    have p := calmS_plain s
    rw [h] at p
    cases p
theorem EnvOk.calm (e : EnvOk W σ H ρ) : EnvOk W σ H (ρ.map calmS) := by
  have hO : Sub (hide (Oc W σ ρ) H) (hide (Oc W σ (ρ.map calmS)) H) := hide_mono (oc_mono fun a z => absurd z (own_calm a))
  refine ⟨by rw [List.length_map]; exact e.len, e.fr, e.th, fun i s h => ?_, fun a z => absurd z (own_calm a), fun i b lk a h1 h2 => absurd ⟨i, ⟨b, true, lk, h1⟩, h2⟩ (own_calm a), fun i b lk a h1 h2 => absurd ⟨i, ⟨b, false, lk, h1⟩, h2⟩ (own_calm a),
    fun i j a h1 _ => absurd ⟨i, h1⟩ (own_calm a), e.tr, e.sub, e.tb⟩
  rw [calm_get] at h
  cases q : ρ[i]? with
  | none => rw [q] at h; cases h
  | some t =>
    rw [q] at h
    have h : calmS t = s := Option.some.inj h
    subst h
    have z := e.sl i t q
    cases t with
    | un => trivial
    | fz d =>
      obtain ⟨x, h1, h2⟩ := z
      exact ⟨x, h1, dp_mono hO _ _ h2⟩
    | bx b io lk =>
      cases io with
      | true => trivial
      | false =>
        obtain ⟨a, h1, h2⟩ := z
        cases b with
        | l ds =>
          obtain ⟨vs, h3, h4⟩ := h2
          refine ⟨.ref a, h1, .lst (.of (hide_some.mpr ⟨fun y => ?_, h3⟩)) (dpAll_mono hO _ _ h4)⟩
          rcases y with y | y
          · exact e.nio i _ lk a q (join_some h1) y
          · exact own_calm a y
    | xc c =>
      obtain ⟨a, h1, φ, h2, h3⟩ := z
      exact ⟨a, h1, φ, hO _ _ h2 nt_ext, h3⟩
theorem Eff.quiet (e : EnvOk W σ H ρ) {ρ1 : Env} (f : Eff W σ (ρ.map calmS) H ρ1 H') : Eff W σ ρ H ρ H' := by
  have s : Grow W H H' := ⟨fun b o h t => f.ext.cell b o h (own_calm b) t, f.ext.there, fun P hP _ => f.env.tb P hP⟩
  exact Eff.grow e s
theorem quiet_ok {x : M Val} {Q : VK} (e : EnvOk W σ H ρ) (h : Post W Wx σ ρ H (quiet x ρ) (Fin_ W σ Q)) : Post W Wx σ (ρ.map calmS) H (x (ρ.map calmS)) (Fin_ W σ Q) := by
  unfold quiet at h
  cases q : x (ρ.map calmS) with
  | st => rw [q] at h; exact h.elim
  | ex c ρ1 =>
    rw [q] at h
    exact fun H' f => h H' (f.quiet e)
  | ok v ρ1 =>
    rw [q] at h
    simp only at h
    by_cases im : immV v = true
    · rw [if_pos im] at h
      intro H' f w hw
      refine h H' (f.quiet e) w ⟨?_, fun b z => by rw [z] at im; cases im⟩
      cases v with
      | fz d =>
        have g := f.quiet e
        refine dp_imm (fun a u hu nl => ?_) _ _ im hw.1
        obtain ⟨n, hu⟩ := hide_some.mp hu
        refine hide_some.mpr ⟨fun y => ?_, hu⟩
        rcases y with y | ⟨i, y⟩
        · exact n (.inl y)
        · obtain ⟨⟨b, io, lk, y1⟩, y2⟩ := y
          obtain ⟨a2, z1, z2⟩ := g.env.slot y1
          rw [y2] at z1
          have z1 : V.ref a = V.ref a2 := Option.some.inj z1
          injection z1 with z1
          subst z1
          cases b with
          | l ds =>
            obtain ⟨vs, z3, _⟩ := z2
            rw [hu] at z3
            cases z3
            exact nl vs rfl
      | bx b => cases im
      | vw i => cases im
      | xc c => cases im
    · rw [if_neg im] at h
      exact h.elim
theorem s_q {a : Expr} {ta : Tm} {G : G0} (ha : PE X a (tD W Wx (ev G ta))) : PE X a (tD W Wx (ev G (.q ta))) := PE.weak ha fun σ H Q ⟨ρ, e, h⟩ => ⟨ρ.map calmS, e.calm, quiet_ok e h⟩
/-- boxes that are data from now on -/
theorem frz_ok : ∀ {b : List Nat} {ρ : Env}, EnvOk W σ H ρ → frz b ρ = .st ∨ ∃ ρ2, frz b ρ = .ok () ρ2 ∧ EnvOk W σ H ρ2
  | [], ρ, e => .inr ⟨ρ, rfl, e⟩
  | i :: is, ρ, e => by
    unfold frz
    cases q : ρ[i]? with
    | none => exact .inl rfl
    | some s =>
      cases s with
      | un => exact frz_ok e
      | fz d => exact frz_ok e
      | xc c => exact frz_ok e
      | bx b io lk =>
        cases io with
        | true => exact .inl rfl
        | false =>
          obtain ⟨l, _⟩ := List.getElem?_eq_some_iff.mp q
          obtain ⟨a, h1, h2⟩ := e.slot q
          have hs : σ.set i (σ[i]?.join) = σ := by
            rw [h1]
            have := join_some h1
            apply List.ext_getElem?
            intro j
            rw [stE_get]
            by_cases z : i = j
            · subst z
              rw [if_pos rfl, if_pos (e.len ▸ l), this]
            · rw [if_neg z]
          have ow : ∀ j c, OwnAt σ (ρ.set i (.fz b.d)) j c → j ≠ i ∧ OwnAt σ ρ j c := fun j c ⟨⟨b2, io2, lk2, y⟩, z⟩ => by
            by_cases ij : i = j
            · subst ij
              rw [setE_get, if_pos rfl, if_pos l] at y
              cases y
            · rw [setE_get, if_neg ij] at y
              exact ⟨fun z => ij z.symm, ⟨b2, io2, lk2, y⟩, z⟩
          have hO : Sub (hide (Oc W σ ρ) H) (hide (Oc W σ (ρ.set i (.fz b.d))) H) := hide_mono (oc_mono fun c ⟨j, z⟩ => ⟨j, (ow j c z).2⟩)
          have ha : ¬ Oc W σ (ρ.set i (.fz b.d)) a := fun y => by
            rcases y with y | ⟨j, y⟩
            · exact e.nio i b lk a q (join_some h1) y
            · exact (ow j a y).1 (e.inj j i a (ow j a y).2 ⟨⟨b, false, lk, q⟩, join_some h1⟩)
          have e2 : EnvOk W σ H (ρ.set i (.fz b.d)) := by
            refine ⟨by rw [List.length_set]; exact e.len, e.fr, e.th, fun j s hj => ?_, fun c ⟨j, z⟩ => e.own c ⟨j, (ow j c z).2⟩, fun j b2 lk2 c y1 y2 => ?_, fun j b2 lk2 c y1 y2 => ?_, fun j k c y1 y2 => e.inj j k c (ow j c y1).2 (ow k c y2).2, e.tr, e.sub, e.tb⟩
            · by_cases ij : i = j
              · subst ij
                rw [setE_get, if_pos rfl, if_pos l] at hj
                cases hj
                cases b with
                | l ds =>
                  obtain ⟨vs, h3, h4⟩ := h2
                  exact ⟨.ref a, h1, .lst (.of (hide_some.mpr ⟨ha, h3⟩)) (dpAll_mono hO _ _ h4)⟩
              · rw [setE_get, if_neg ij] at hj
                exact (e.sl j s hj).mono hO fun _ _ _ _ _ _ _ y _ => y
            · by_cases ij : i = j
              · subst ij
                rw [setE_get, if_pos rfl, if_pos l] at y1
                cases y1
              · rw [setE_get, if_neg ij] at y1
                exact e.io j b2 lk2 c y1 y2
            · by_cases ij : i = j
              · subst ij
                rw [setE_get, if_pos rfl, if_pos l] at y1
                cases y1
              · rw [setE_get, if_neg ij] at y1
                exact e.nio j b2 lk2 c y1 y2
          exact frz_ok e2
end
end Pz

namespace Pz
open PySem PySem.Spec PyProof.Rows L2
theorem PI.or {X : Cx} {tg e : Expr} {t u : TI} (a : PI X tg e t) (b : PI X tg e u) : PI X tg e (fun σ H R => t σ H R ∨ u σ H R) := ⟨fun pins s σ H R I h => h.elim (a.run pins s σ H R I) (b.run pins s σ H R I)⟩
/-- what a walk J gives: the data ds, one by one, whatever the heap has become, as long as G is seen in it -/
structure Walk (K : PySem.W.Frag) (G : Hp) (J : L2.It) (ds : List D) : Prop where
  go : ∀ i H, Sub G H → i < ds.length → J.go i H
  stop : ∀ i H, Sub G H → ds.length ≤ i → J.stop i H
  yld : ∀ i d H x H', Sub G H → ds[i]? = some d → J.yld i H x H' → (H' = H ∧ Dp K G x d) ∨ ∃ T vs es, H T = none ∧ H' = upd H T (.tup vs) ∧ x = .ref T ∧ d = .tuple es ∧ DpAll K G vs es
def tI (W : Wd) (Wx : WX) (x : M (List D)) : TI := fun σ H R => ∃ ρ, EnvOk W σ H ρ ∧ Post W Wx σ ρ H (x ρ) fun ds ρ' H' => ∀ J : L2.It, Walk W.K (hide (Oc W σ ρ') H') J ds → R J H'
section
variable {W : Wd} {Wx : WX} {σ σ' : L2.St} {ρ ρ' : Env} {H H' : Hp} {α β : Type} {X : Cx}
theorem walk_list {K : PySem.W.Frag} {G : Hp} {a : Addr} {ds : List D} (h : Dp K G (.ref a) (.list ds)) : Walk K G (Itl K a) ds := by
  cases h with
  | @lst _ vs _ S D =>
    have len := dpAll_length D
    refine ⟨fun i H s l => ?_, fun i H s l => ⟨vs, s.sql S, by omega⟩, fun i d H x H' s hd hy => ?_⟩
    · obtain ⟨v, hv⟩ : ∃ v, vs[i]? = some v := ⟨vs[i]'(by omega), List.getElem?_eq_getElem (by omega)⟩
      exact ⟨vs, v, s.sql S, hv⟩
    · obtain ⟨rfl, hx⟩ := hy
      obtain ⟨v, hv, q⟩ := dpAll_get i D hd
      have := hx vs (s.sql S)
      rw [hv] at this
      cases this
      exact .inl ⟨rfl, q⟩
theorem walk_tup {K : PySem.W.Frag} {G : Hp} {a : Addr} {ds : List D} (h : Dp K G (.ref a) (.tuple ds)) : Walk K G (Itt K a) ds := by
  cases h with
  | @tup _ vs _ S D =>
    have len := dpAll_length D
    refine ⟨fun i H s l => ?_, fun i H s l => ⟨vs, s.sqt S, by omega⟩, fun i d H x H' s hd hy => ?_⟩
    · obtain ⟨v, hv⟩ : ∃ v, vs[i]? = some v := ⟨vs[i]'(by omega), List.getElem?_eq_getElem (by omega)⟩
      exact ⟨vs, v, s.sqt S, hv⟩
    · obtain ⟨rfl, hx⟩ := hy
      obtain ⟨v, hv, q⟩ := dpAll_get i D hd
      have := hx vs (s.sqt S)
      rw [hv] at this
      cases this
      exact .inl ⟨rfl, q⟩
theorem walk_rng {K : PySem.W.Frag} {G : Hp} {lo : Int} {n : Nat} : Walk K G (Itr lo n) ((List.range n).map fun (k : Nat) => .int (lo + k)) := by
  refine ⟨fun i H s l => (by simpa using l : i < n), fun i H s l => (by simpa using l : n ≤ i), fun i d H x H' s hd hy => ?_⟩
  obtain ⟨rfl, rfl⟩ := hy
  refine .inl ⟨rfl, ?_⟩
  simp only [List.getElem?_map, Option.map_eq_some_iff] at hd
  obtain ⟨k, hk, rfl⟩ := hd
  rw [List.getElem?_range] at hk
  · cases hk
    exact .int _
  · by_cases l : i < n
    · exact l
    · rw [List.getElem?_eq_none (by simp; omega)] at hk
      cases hk
theorem zip_get {γ δ : Type} : ∀ {xs : List γ} {ys : List δ} {i : Nat} {p : γ × δ}, (xs.zip ys)[i]? = some p → xs[i]? = some p.1 ∧ ys[i]? = some p.2 := fun {xs ys i p} h => by
  rw [List.getElem?_zip_eq_some] at h
  exact h
theorem walk_zipL {K : PySem.W.Frag} {G : Hp} {a b : Addr} {xs ys : List D} (h : Dp K G (.ref a) (.list xs)) (g : Dp K G (.ref b) (.list ys)) : Walk K G (Itz K a b) ((xs.zip ys).map fun p => .tuple [p.1, p.2]) := by
  cases h with
  | @lst _ vs _ S D =>
    cases g with
    | @lst _ ws _ S2 D2 =>
      have l1 := dpAll_length D
      have l2 := dpAll_length D2
      refine ⟨fun i H s l => ?_, fun i H s l => ⟨vs, ws, s.sql S, s.sql S2, by simp at l; omega⟩, fun i d H x H' s hd hy => ?_⟩
      · simp at l
        exact ⟨vs, ws, vs[i]'(by omega), ws[i]'(by omega), s.sql S, s.sql S2, List.getElem?_eq_getElem (by omega), List.getElem?_eq_getElem (by omega)⟩
      · obtain ⟨T, x1, y1, rfl, hT, rfl, hx, hy⟩ := hy
        simp only [List.getElem?_map, Option.map_eq_some_iff] at hd
        obtain ⟨p, hp, rfl⟩ := hd
        obtain ⟨p1, p2⟩ := zip_get hp
        obtain ⟨v, hv, q⟩ := dpAll_get i D p1
        obtain ⟨w, hw, r⟩ := dpAll_get i D2 p2
        have z := hx vs (s.sql S)
        rw [hv] at z
        cases z
        have z := hy ws (s.sql S2)
        rw [hw] at z
        cases z
        exact .inr ⟨T, _, _, hT, rfl, rfl, rfl, .cons q (.cons r .nil)⟩
theorem walk_zipT {K : PySem.W.Frag} {G : Hp} {a b : Addr} {xs ys : List D} (h : Dp K G (.ref a) (.tuple xs)) (g : Dp K G (.ref b) (.tuple ys)) : Walk K G (RZ.ItzT K a b) ((xs.zip ys).map fun p => .tuple [p.1, p.2]) := by
  cases h with
  | @tup _ vs _ S D =>
    cases g with
    | @tup _ ws _ S2 D2 =>
      have l1 := dpAll_length D
      have l2 := dpAll_length D2
      refine ⟨fun i H s l => ?_, fun i H s l => ⟨vs, ws, s.sqt S, s.sqt S2, by simp at l; omega⟩, fun i d H x H' s hd hy => ?_⟩
      · simp at l
        exact ⟨vs, ws, vs[i]'(by omega), ws[i]'(by omega), s.sqt S, s.sqt S2, List.getElem?_eq_getElem (by omega), List.getElem?_eq_getElem (by omega)⟩
      · obtain ⟨T, x1, y1, rfl, hT, rfl, hx, hy⟩ := hy
        simp only [List.getElem?_map, Option.map_eq_some_iff] at hd
        obtain ⟨p, hp, rfl⟩ := hd
        obtain ⟨p1, p2⟩ := zip_get hp
        obtain ⟨v, hv, q⟩ := dpAll_get i D p1
        obtain ⟨w, hw, r⟩ := dpAll_get i D2 p2
        have z := hx vs (s.sqt S)
        rw [hv] at z
        cases z
        have z := hy ws (s.sqt S2)
        rw [hw] at z
        cases z
        exact .inr ⟨T, _, _, hT, rfl, rfl, rfl, .cons q (.cons r .nil)⟩
theorem i_el {tg e : Expr} {te : Tm} {G : G0} (h : PE X e (tD W Wx (ev G te))) (hK : W.K = X.K) : PI X tg e (tI W Wx (evi G (.el te))) := by
  refine PI.weak (PI.or (pi_list h) (pi_tup h)) fun σ H R q => ?_
  obtain ⟨ρ, e0, q⟩ := q
  have q : Post W Wx σ ρ H (M.bind (ev G te) (fun x => M.bind (keep x) fun d => M.ofO (seqOf d)) ρ) _ := q
  -- which it is, is known from the run alone
  unfold M.bind at q
  cases r : ev G te ρ with
  | st => rw [r] at q; exact q.elim
  | ex c ρ1 =>
    refine .inl ⟨ρ, e0, ?_⟩
    rw [r] at q ⊢
    exact q
  | ok x ρ1 =>
    rw [r] at q
    simp only at q
    cases k : x.keep with
    | none =>
      have : keep x ρ1 = .st := by unfold keep; rw [k]; rfl
      rw [this] at q
      exact q.elim
    | some d =>
      have hk : keep x ρ1 = .ok d ρ1 := by unfold keep; rw [k]; rfl
      rw [hk] at q
      simp only at q
      cases d with
      | list ds =>
        refine .inl ⟨ρ, e0, ?_⟩
        rw [r]
        intro H' f v ⟨hv, _⟩
        have dp := keep_ok hv k
        have q := q H' f
        cases dp with
        | lst S D =>
          have S' := hide_sub.sql S
          rw [hK] at S'
          refine ⟨_, rfl, ⟨_, S'⟩, q _ ?_⟩
          rw [← hK]
          exact walk_list (.lst S D)
      | tuple ds =>
        refine .inr ⟨ρ, e0, ?_⟩
        rw [r]
        intro H' f v ⟨hv, _⟩
        have dp := keep_ok hv k
        have q := q H' f
        cases dp with
        | tup S D =>
          have S' := hide_sub.sqt S
          rw [hK] at S'
          refine ⟨_, rfl, ⟨_, S'⟩, q _ ?_⟩
          rw [← hK]
          exact walk_tup (.tup S D)
      | _ => exact q.elim
theorem i_r1 {tg a : Expr} {ta : Tm} {p pos : Pos} {G : G0} (hg : Gl X "range") (hm : X.mg "range" = none) (ha : PE X a (tD W Wx (ev G ta))) (hs : noStar a = true) : PI X tg (.Call (.Name "range" p) [a] [] pos) (tI W Wx (evi G (.r1 ta))) := by
  refine PI.weak (pi_range1 hg hm (a_consL ha a_nilL (star_cons hs)) (star_cons hs)) fun σ H R q => ?_
  obtain ⟨ρ, e0, q⟩ := q
  have q : Post W Wx σ ρ H (M.bind (ev G ta) (fun x => M.bind (look x) fun d => M.bind (M.ofO (asInt d)) fun i => if -1000000 ≤ i ∧ i ≤ 1000000 then M.pure ((List.range i.toNat).map fun (k : Nat) => PyData.int k) else M.stuck) ρ) _ := q
  refine ⟨ρ, e0, ?_⟩
  have e1 : evl G (.cons ta .nil) = M.bind (ev G ta) fun x => M.pure [x] := rfl
  rw [e1]
  unfold M.bind at q ⊢
  cases r : ev G ta ρ with
  | st => rw [r] at q; exact q.elim
  | ex c ρ1 => rw [r] at q; exact q
  | ok x ρ1 =>
    rw [r] at q
    simp only at q ⊢
    intro H' f vs hvs
    cases hvs with
    | cons hv t =>
      cases t
      have q : Post W Wx σ ρ1 H' (M.bind (look x) (fun d => M.bind (M.ofO (asInt d)) fun i => if -1000000 ≤ i ∧ i ≤ 1000000 then M.pure ((List.range i.toNat).map fun (k : Nat) => PyData.int k) else M.stuck) ρ1) _ := Post.shift q f
      obtain ⟨d, ld, q⟩ := q.look f.env hv
      obtain ⟨i, hi, q9⟩ := q.ofO
      cases asInt_ok hi
      by_cases l : -1000000 ≤ i ∧ i ≤ 1000000
      · rw [if_pos l] at q9
        refine ⟨i, by rw [ld.int], by omega, by omega, q9 H' (Eff.refl f.env) _ ?_⟩
        have := walk_rng (K := W.K) (G := hide (Oc W σ ρ1) H') (lo := 0) (n := i.toNat)
        simp only [Int.zero_add] at this
        exact this
      · rw [if_neg l] at q9
        exact q9.elim
theorem two_post {γ : Type} {x y : M Val} {f : Val → Val → M γ} {Q : γ → Env → Hp → Prop} {Q' : List Val → Env → Hp → Prop} (h : Post W Wx σ ρ H (M.bind x (fun a => M.bind y fun b => f a b) ρ) Q)
    (k : ∀ a b ρ2 H2, Eff W σ ρ H ρ2 H2 → Post W Wx σ ρ2 H2 (f a b ρ2) Q → Q' [a, b] ρ2 H2) : Post W Wx σ ρ H (M.bind x (fun a => M.bind (M.bind y fun b => M.pure [b]) fun l => M.pure (a :: l)) ρ) Q' := by
  unfold M.bind at h ⊢
  cases r : x ρ with
  | st => rw [r] at h; exact h.elim
  | ex c ρ1 => rw [r] at h; exact h
  | ok a ρ1 =>
    rw [r] at h
    simp only at h ⊢
    cases r2 : y ρ1 with
    | st => rw [r2] at h; exact h.elim
    | ex c ρ2 => rw [r2] at h; exact h
    | ok b ρ2 =>
      rw [r2] at h
      exact fun H' f => k a b ρ2 H' f (Post.shift h f)
theorem vals2 {vs : List V} {a b : Val} (h : ValsOk W σ ρ H vs [a, b]) : ∃ v w, vs = [v, w] ∧ ValOk W σ ρ H v a ∧ ValOk W σ ρ H w b := by
  cases h with
  | cons h t =>
    cases t with
    | cons h2 t =>
      cases t
      exact ⟨_, _, rfl, h, h2⟩
theorem i_r2 {tg a b : Expr} {ta tb : Tm} {p pos : Pos} {G : G0} (hg : Gl X "range") (hm : X.mg "range" = none) (ha : PE X a (tD W Wx (ev G ta))) (hb : PE X b (tD W Wx (ev G tb))) (hs : noStar a = true) (hs2 : noStar b = true) : PI X tg (.Call (.Name "range" p) [a, b] [] pos) (tI W Wx (evi G (.r2 ta tb))) := by
  have s1 : starEach [a, b] X.env = [(false, eval a X.env), (false, eval b X.env)] := by rw [star_cons hs, star_cons hs2]; rfl
  refine PI.weak (pi_range2 hg hm (a_consL ha (a_consL hb a_nilL (star_cons hs2)) (star_cons hs)) s1 (star_cons hs2)) fun σ H R q => ?_
  obtain ⟨ρ, e0, q⟩ := q
  refine ⟨ρ, e0, two_post (x := ev G ta) (y := ev G tb) q fun x y ρ2 H2 f q vs hvs => ?_⟩
  obtain ⟨v, w, rfl, hv, hw⟩ := vals2 hvs
  obtain ⟨d, ld, q⟩ := q.look f.env hv
  obtain ⟨d2, ld2, q⟩ := q.look f.env hw
  obtain ⟨i, hi, q⟩ := q.ofO
  rw [asInt_ok hi] at ld
  obtain ⟨j, hj, q⟩ := q.ofO
  rw [asInt_ok hj] at ld2
  by_cases l : -1000000 ≤ i ∧ i ≤ 1000000 ∧ -1000000 ≤ j ∧ j ≤ 1000000
  · rw [if_pos l] at q
    exact ⟨i, j, by rw [ld.int, ld2.int], by omega, q H2 (Eff.refl f.env) _ walk_rng⟩
  · rw [if_neg l] at q
    exact q.elim
theorem i_zip {a b : Expr} {ta tb : Tm} {p pos tpos : Pos} {elts : List Expr} {kk : Nat} {G : G0} (hg : Gl X "zip") (hm : X.mg "zip" = none) (ha : PE X a (tD W Wx (ev G ta))) (hb : PE X b (tD W Wx (ev G tb))) (hs : noStar a = true) (hs2 : noStar b = true) (hK : W.K = X.K) :
    PI X (.Tuple elts kk tpos) (.Call (.Name "zip" p) [a, b] [] pos) (tI W Wx (evi G (.zip ta tb))) := by
  have s2 : (backTo pos (starEach [b] X.env)).any (·.1) = false := star_all (by rw [List.all_cons, hs2]; rfl)
  refine PI.weak (RZ.pi_zipA hg hm (a_consL ha (a_consL hb a_nilL (star_cons hs2)) (star_cons hs)) (star_cons hs) s2) fun σ H R q => ?_
  obtain ⟨ρ, e0, q⟩ := q
  refine ⟨ρ, e0, two_post (x := ev G ta) (y := ev G tb) q fun x y ρ2 H2 f q vs hvs => ?_⟩
  obtain ⟨v, w, rfl, hv, hw⟩ := vals2 hvs
  obtain ⟨d, ld, q⟩ := q.keep hv
  obtain ⟨d2, ld2, q⟩ := q.keep hw
  obtain ⟨ps, hi, q⟩ := q.ofO
  have q := q H2 (Eff.refl f.env)
  unfold zipD at hi
  split at hi
  · cases hi
    cases ld with
    | lst S D =>
      cases ld2 with
      | lst S2 D2 =>
        have S' := hide_sub.sql S
        have S2' := hide_sub.sql S2
        rw [hK] at S' S2'
        refine ⟨_, _, _, _, rfl, .inl ⟨S', S2', q _ ?_⟩⟩
        rw [← hK]
        exact walk_zipL (.lst S D) (.lst S2 D2)
  · cases hi
    cases ld with
    | tup S D =>
      cases ld2 with
      | tup S2 D2 =>
        have S' := hide_sub.sqt S
        have S2' := hide_sub.sqt S2
        rw [hK] at S' S2'
        refine ⟨_, _, _, _, rfl, .inr ⟨S', S2', q _ ?_⟩⟩
        rw [← hK]
        exact walk_zipT (.tup S D) (.tup S2 D2)
  · cases hi
def gL : List Nat → TGs
  | [] => gNil
  | i :: l => gCons (gName i) (gL l)
def gT (K : PySem.W.Frag) : Tgt → TG
  | .n i => gName i
  | .t l => gTup K l.length (gL l)
/-- the slots that a target sets -/
def Tgt.sets : Tgt → List Nat
  | .n i => [i]
  | .t l => l
/-- σ with the slots at l set -/
def stL (σ : L2.St) : List Nat → List V → L2.St
  | i :: l, v :: vs => stL (σ.set i (some v)) l vs
  | _, _ => σ
theorem putL_ok : ∀ {l : List Nat} {ds : List D} {vs : List V} {σ : L2.St} {ρ ρ2 : Env}, EnvOk W σ H ρ → DpAll W.K (hide (Oc W σ ρ) H) vs ds → putL l ds ρ = .ok () ρ2 →
    EnvOk W (stL σ l vs) H ρ2 ∧ (∀ Q, Q (stL σ l vs) H → gL l vs σ H Q) ∧ (∀ a, Own (stL σ l vs) ρ2 a → Own σ ρ a)
  | [], [], _, σ, ρ, ρ2, e, D, h => by
    cases D
    cases h
    exact ⟨e, fun Q q => ⟨rfl, q⟩, fun _ z => z⟩
  | i :: l, d :: ds, [], σ, ρ, ρ2, e, D, h => by cases D
  | i :: l, d :: ds, v :: vs, σ, ρ, ρ2, e, D, h => by
    cases D with
    | cons a b =>
      have h : M.bind (setS i (.fz d)) (fun _ => putL l ds) ρ = .ok () ρ2 := h
      unfold M.bind setS at h
      by_cases li : i < ρ.length
      · rw [if_pos li] at h
        have e2 := e.set li (s := .fz d) (v := some v) rfl ⟨v, rfl, a⟩
        have ow : ∀ c, Own (σ.set i (some v)) (ρ.set i (.fz d)) c → Own σ ρ c := fun c z => own_plain rfl z
        obtain ⟨p1, p2, p3⟩ := putL_ok e2 (dpAll_mono (hide_mono (oc_mono ow)) _ _ b) h
        exact ⟨p1, fun Q q => ⟨v, vs, rfl, p2 Q q⟩, fun c z => ow c (p3 c z)⟩
      · rw [if_neg li] at h
        cases h
  | [], _ :: _, _, _, _, _, _, _, h => by cases h
  | _ :: _, [], _, _, _, _, _, _, h => by cases h
end
end Pz

namespace Pz
open PySem PySem.Spec PyProof.Rows L2
section
variable {W : Wd} {Wx : WX} {σ σ' : L2.St} {ρ ρ' : Env} {H H' : Hp} {α β : Type} {X : Cx}
theorem sqt_dp {K : PySem.W.Frag} {O : Addr → Prop} {v : V} {ds : List D} (h : Dp K (hide O H) v (.tuple ds)) : ∃ a vs, v = .ref a ∧ SqT K H a vs ∧ DpAll K (hide O H) vs ds := by
  cases h with
  | tup S D => exact ⟨_, _, rfl, hide_sub.sqt S, D⟩
theorem putL_len : ∀ {l : List Nat} {ds : List D} {ρ ρ2 : Env}, putL l ds ρ = .ok () ρ2 → ds.length = l.length
  | [], [], _, _, _ => rfl
  | i :: l, d :: ds, ρ, ρ2, h => by
    have h : M.bind (setS i (.fz d)) (fun _ => putL l ds) ρ = .ok () ρ2 := h
    unfold M.bind setS at h
    by_cases li : i < ρ.length
    · rw [if_pos li] at h
      exact congrArg Nat.succ (putL_len h)
    · rw [if_neg li] at h
      cases h
  | [], _ :: _, _, _, h => by cases h
  | _ :: _, [], _, _, h => by cases h
/-- σ as a target leaves it -/
def stT (σ : L2.St) : Tgt → V → List V → L2.St
  | .n i, v, _ => σ.set i (some v)
  | .t l, _, vs => stL σ l vs
theorem tgt_ok {t : Tgt} {d : D} {v : V} {ρ2 : Env} (e : EnvOk W σ H ρ) (h : Dp W.K (hide (Oc W σ ρ) H) v d) (q : t.put d ρ = .ok () ρ2) :
    ∃ vs, EnvOk W (stT σ t v vs) H ρ2 ∧ (∀ Q, Q (stT σ t v vs) H → gT W.K t v σ H Q) ∧ (∀ a, Own (stT σ t v vs) ρ2 a → Own σ ρ a) := by
  cases t with
  | n i =>
    have q : setS i (.fz d) ρ = .ok () ρ2 := q
    unfold setS at q
    by_cases li : i < ρ.length
    · rw [if_pos li] at q
      cases q
      exact ⟨[], e.set li (s := .fz d) (v := some v) rfl ⟨v, rfl, h⟩, fun Q z => z, fun c z => own_plain rfl z⟩
    · rw [if_neg li] at q
      cases q
  | t l =>
    cases d with
    | tuple ds =>
      obtain ⟨a, vs, rfl, S, D⟩ := sqt_dp h
      obtain ⟨p1, p2, p3⟩ := putL_ok e D q
      exact ⟨vs, p1, fun Q z => ⟨a, vs, rfl, S, (dpAll_length D).trans (putL_len q), p2 Q z⟩, p3⟩
    | _ => cases q
theorem wipe_get : ∀ (vs : List Nat) (σ : L2.St) (j : Nat), (L2.wipe σ vs)[j]? = if j ∈ vs then (if j < σ.length then some none else none) else σ[j]?
  | [], σ, j => by
    rw [if_neg (by simp)]
    rfl
  | v :: vs, σ, j => by
    have e : L2.wipe σ (v :: vs) = (L2.wipe σ vs).set v none := rfl
    have len : (L2.wipe σ vs).length = σ.length := by
      clear e
      induction vs with
      | nil => rfl
      | cons a t ih =>
        have : L2.wipe σ (a :: t) = (L2.wipe σ t).set a none := rfl
        rw [this, List.length_set, ih]
    rw [e, stE_get, len]
    by_cases h : v = j
    · subst h
      rw [if_pos rfl, if_pos (List.mem_cons_self ..)]
    · rw [if_neg h, wipe_get vs σ j]
      have : (j ∈ v :: vs) ↔ j ∈ vs := by
        rw [List.mem_cons]
        exact ⟨fun z => z.resolve_left fun y => h y.symm, .inr⟩
      by_cases z : j ∈ vs
      · rw [if_pos z, if_pos (this.mpr z)]
      · rw [if_neg z, if_neg (fun y => z (this.mp y))]
theorem wipeE_get : ∀ (vs : List Nat) (ρ : Env) (j : Nat), (wipe vs ρ)[j]? = if j ∈ vs then (if j < ρ.length then some .un else none) else ρ[j]?
  | [], ρ, j => by
    rw [if_neg (by simp)]
    rfl
  | v :: vs, ρ, j => by
    have e : wipe (v :: vs) ρ = wipe vs (ρ.set v .un) := rfl
    rw [e, wipeE_get vs _ j, List.length_set, setE_get]
    by_cases z : j ∈ vs
    · rw [if_pos z, if_pos (List.mem_cons_of_mem _ z)]
    · rw [if_neg z]
      by_cases h : v = j
      · subst h
        rw [if_pos rfl, if_pos (List.mem_cons_self ..)]
      · rw [if_neg h, if_neg (fun y => by
          rcases List.mem_cons.mp y with y | y
          · exact h y.symm
          · exact z y)]
theorem wipe_len (vs : List Nat) (σ : L2.St) : (L2.wipe σ vs).length = σ.length := by
  induction vs with
  | nil => rfl
  | cons a t ih =>
    have : L2.wipe σ (a :: t) = (L2.wipe σ t).set a none := rfl
    rw [this, List.length_set, ih]
theorem wipeE_len : ∀ (vs : List Nat) (ρ : Env), (wipe vs ρ).length = ρ.length
  | [], _ => rfl
  | v :: vs, ρ => by
    show (wipe vs (ρ.set v .un)).length = _
    rw [wipeE_len, List.length_set]
theorem wipe_stL : ∀ {l : List Nat} {vs : List V} {σ : L2.St} {own : List Nat}, (∀ i ∈ l, i ∈ own) → L2.wipe (stL σ l vs) own = L2.wipe σ own
  | [], _, _, _, _ => rfl
  | _ :: _, [], _, _, _ => rfl
  | i :: l, v :: vs, σ, own, h => by
    show L2.wipe (stL (σ.set i (some v)) l vs) own = _
    rw [wipe_stL fun j z => h j (List.mem_cons_of_mem _ z)]
    apply List.ext_getElem?
    intro j
    rw [wipe_get, wipe_get, List.length_set, stE_get]
    by_cases z : j ∈ own
    · rw [if_pos z, if_pos z]
    · rw [if_neg z, if_neg z, if_neg fun (y : i = j) => z (y ▸ h i (List.mem_cons_self ..))]
theorem wipe_stT {t : Tgt} {v : V} {vs : List V} {own : List Nat} (h : ∀ i ∈ t.sets, i ∈ own) : L2.wipe (stT σ t v vs) own = L2.wipe σ own := by
  cases t with
  | n i => exact wipe_stL (l := [i]) (vs := [v]) h
  | t l => exact wipe_stL h
theorem wipe_wipe (own : List Nat) (σ : L2.St) : L2.wipe (L2.wipe σ own) own = L2.wipe σ own := by
  apply List.ext_getElem?
  intro j
  rw [wipe_get, wipe_get, wipe_len]
  by_cases z : j ∈ own
  · rw [if_pos z, if_pos z]
  · rw [if_neg z]
theorem own_wipe {own : List Nat} {i : Nat} {a : Addr} (h : OwnAt (L2.wipe σ own) (wipe own ρ) i a) : i ∉ own ∧ OwnAt σ ρ i a := by
  obtain ⟨⟨b, io, lk, h1⟩, h2⟩ := h
  by_cases z : i ∈ own
  · rw [wipeE_get, if_pos z] at h1
    split at h1 <;> cases h1
  · rw [wipeE_get, if_neg z] at h1
    rw [wipe_get, if_neg z] at h2
    exact ⟨z, ⟨b, io, lk, h1⟩, h2⟩
theorem EnvOk.wipe (e : EnvOk W σ H ρ) (own : List Nat) : EnvOk W (L2.wipe σ own) H (wipe own ρ) := by
  refine e.re (by rw [wipeE_len, wipe_len]; exact e.len) (fun i a h => ?_) fun i s h => ?_
  · obtain ⟨n, q⟩ := own_wipe h
    exact ⟨q, by rw [wipeE_get, if_neg n]⟩
  · by_cases z : i ∈ own
    · rw [wipeE_get, if_pos z] at h
      split at h
      · cases h
        trivial
      · cases h
    · rw [wipeE_get, if_neg z] at h
      rw [wipe_get, if_neg z]
      exact e.sl i s h
theorem backE_get : ∀ (vs : List Nat) (ρ0 ρ : Env) (j : Nat), (back vs ρ0 ρ)[j]? = if j ∈ vs then (if j < ρ.length then some (ρ0.getD j .un) else none) else ρ[j]?
  | [], ρ0, ρ, j => by
    rw [if_neg (by simp)]
    rfl
  | v :: vs, ρ0, ρ, j => by
    have e : back (v :: vs) ρ0 ρ = back vs ρ0 (ρ.set v (ρ0.getD v .un)) := rfl
    rw [e, backE_get vs _ _ j, List.length_set, setE_get]
    by_cases z : j ∈ vs
    · rw [if_pos z, if_pos (List.mem_cons_of_mem _ z)]
    · rw [if_neg z]
      by_cases h : v = j
      · subst h
        rw [if_pos rfl, if_pos (List.mem_cons_self ..)]
      · rw [if_neg h, if_neg (fun y => by
          rcases List.mem_cons.mp y with y | y
          · exact h y.symm
          · exact z y)]
theorem backE_len : ∀ (vs : List Nat) (ρ0 ρ : Env), (back vs ρ0 ρ).length = ρ.length
  | [], _, _ => rfl
  | v :: vs, ρ0, ρ => by
    show (back vs ρ0 (ρ.set v _)).length = _
    rw [backE_len, List.length_set]
theorem noBox_at {own : List Nat} (h : noBox own ρ = true) {i : Nat} (hi : i ∈ own) : ∃ s, ρ[i]? = some s ∧ plainS s = true := by
  have := List.all_eq_true.mp h i hi
  cases q : ρ[i]? with
  | none => rw [q] at this; cases this
  | some s =>
    rw [q] at this
    cases s with
    | bx b io lk => cases this
    | _ => exact ⟨_, rfl, rfl⟩
/-- the world in which D belongs to another -/
def Wd.plus (W : Wd) (D : Addr) : Wd := { W with O0 := fun a => W.O0 a ∨ a = D }
/-- what a comprehension keeps from turn to turn: ρ1, H1 as it began, D its list -/
structure LcInv (W : Wd) (σ : L2.St) (ow : List Nat) (ρ1 : Env) (H1 : Hp) (D : Addr) (ys : List PyData) (ρk : Env) (Hk : Hp) : Prop where
  env : EnvOk (W.plus D) (L2.wipe σ ow) Hk (wipe ow ρk)
  box : ∃ acc, Hk D = some (.lst acc) ∧ DpAll W.K (hide (Oc (W.plus D) (L2.wipe σ ow) (wipe ow ρk)) Hk) acc ys
  cell : ∀ b o, H1 b = some o → ¬ Own σ ρ1 b → NoTbl o → Hk b = some o
  there : ∀ b o, H1 b = some o → ∃ o', Hk b = some o'
  own : ∀ a, Own (L2.wipe σ ow) (wipe ow ρk) a → Own σ ρ1 a
  kp : Keeps (wipe ow ρ1) (wipe ow ρk)
/-- a list that belongs to another is changed -/
theorem EnvOk.updO (e : EnvOk W σ H ρ) {a : Addr} {xs ys : List V} (ha : W.O0 a) (h0 : W.H0 a = none) (no : ¬ Own σ ρ a) (hx : H a = some (.lst xs)) : EnvOk W σ (upd H a (.lst ys)) ρ := by
  have eH : hide (Oc W σ ρ) (upd H a (.lst ys)) = hide (Oc W σ ρ) H := hide_upd (.inl ha)
  have ne : ∀ {b : Addr} {o : HO}, W.H0 b = some o → b ≠ a := fun z y => by rw [y, h0] at z; cases z
  refine ⟨e.len, fun b o z n t => by rw [upd_ne (ne z)]; exact e.fr b o z n t, fun b o z => by rw [upd_ne (ne z)]; exact e.th b o z, fun i s h => ?_, e.own, e.io, e.nio, e.inj, fun b z => ?_, e.sub, fun P hP => ?_⟩
  · rw [eH]
    cases s with
    | bx b io lk =>
      obtain ⟨a2, h1, h2⟩ := e.sl i _ h
      refine ⟨a2, h1, h2.mono (.refl _) fun o z t => ?_⟩
      have : a2 ≠ a := fun y => no (y ▸ ⟨i, ⟨b, io, lk, h⟩, join_some h1⟩)
      rw [upd_ne this]
      exact z
    | un => trivial
    | fz d => exact e.sl i _ h
    | xc c => exact e.sl i _ h
  · by_cases y : b = a
    · subst y
      exact ⟨_, upd_same⟩
    · rw [upd_ne y]
      exact e.tr b z
  · obtain ⟨ps, z, t⟩ := e.tb P hP
    have : P ≠ a := fun y => by rw [y, hx] at z; cases z
    exact ⟨ps, by rw [upd_ne this]; exact z, t⟩
theorem setS_off {i : Nat} {s : Slot} {ρ2 : Env} (h : setS i s ρ = .ok () ρ2) {j : Nat} (n : j ≠ i) : ρ2[j]? = ρ[j]? := by
  unfold setS at h
  by_cases l : i < ρ.length
  · rw [if_pos l] at h
    cases h
    rw [setE_get, if_neg fun y => n y.symm]
  · rw [if_neg l] at h
    cases h
theorem putL_off : ∀ {l : List Nat} {ds : List PyData} {ρ ρ2 : Env}, putL l ds ρ = .ok () ρ2 → ∀ j, j ∉ l → ρ2[j]? = ρ[j]?
  | [], [], _, _, h, j, _ => by cases h; rfl
  | i :: l, d :: ds, ρ, ρ2, h, j, n => by
    have h : M.bind (setS i (.fz d)) (fun _ => putL l ds) ρ = .ok () ρ2 := h
    unfold M.bind at h
    cases q : setS i (.fz d) ρ with
    | ok u ρ1 =>
      rw [q] at h
      rw [putL_off h j fun z => n (List.mem_cons_of_mem _ z), setS_off q fun z => n (z ▸ List.mem_cons_self ..)]
    | ex c ρ1 => rw [q] at h; cases h
    | st => rw [q] at h; cases h
  | [], _ :: _, _, _, h, _, _ => by cases h
  | _ :: _, [], _, _, h, _, _ => by cases h
theorem put_off {t : Tgt} {d : PyData} {ρ2 : Env} (h : t.put d ρ = .ok () ρ2) (j : Nat) (n : j ∉ t.sets) : ρ2[j]? = ρ[j]? := by
  cases t with
  | n i => exact setS_off h fun z => n (z ▸ List.mem_cons_self ..)
  | t l =>
    cases d with
    | tuple ds => exact putL_off h j n
    | _ => cases h
theorem keeps_wipe {ow : List Nat} (h : Keeps ρ ρ') : Keeps (wipe ow ρ) (wipe ow ρ') := fun i b io lk q => by
  by_cases z : i ∈ ow
  · rw [wipeE_get, if_pos z] at q
    split at q <;> cases q
  · rw [wipeE_get, if_neg z] at q
    obtain ⟨b', h'⟩ := h i b io lk q
    exact ⟨b', by rw [wipeE_get, if_neg z]; exact h'⟩
theorem own_wipe' {ow : List Nat} {a : Addr} (h : Own (L2.wipe σ ow) (wipe ow ρ) a) : Own σ ρ a := by
  obtain ⟨i, h⟩ := h
  exact ⟨i, (own_wipe h).2⟩
/-- a comprehension is done -/
theorem LcInv.done {ow : List Nat} {ρ1 ρk : Env} {H1 Hk : Hp} {D : Addr} {ys : List PyData} (I : LcInv W σ ow ρ1 H1 D ys ρk Hk) (e : EnvOk W σ H1 ρ1) (hD : H1 D = none) (nb : noBox ow ρ1 = true) (hl : ρk.length = ρ1.length) :
    Eff W σ ρ1 H1 (back ow ρ1 ρk) Hk ∧ ValOkS W σ (back ow ρ1 ρk) Hk (.ref D) (.bx (.l ys)) := by
  obtain ⟨f0, f1⟩ := e.fresh hD
  have own1 : ∀ i a, OwnAt σ (back ow ρ1 ρk) i a → i ∉ ow ∧ OwnAt (L2.wipe σ ow) (wipe ow ρk) i a := fun i a ⟨⟨b, io, lk, h1⟩, h2⟩ => by
    by_cases z : i ∈ ow
    · rw [backE_get, if_pos z] at h1
      split at h1
      · obtain ⟨s, hs, p⟩ := noBox_at nb z
        have h1 := Option.some.inj h1
        rw [List.getD_eq_getElem?_getD, hs] at h1
        have h1 : s = .bx b io lk := h1
        rw [h1] at p
        cases p
      · cases h1
    · rw [backE_get, if_neg z] at h1
      exact ⟨z, ⟨⟨b, io, lk, by rw [wipeE_get, if_neg z]; exact h1⟩, by rw [wipe_get, if_neg z]; exact h2⟩⟩
  have own2 : ∀ a, Own σ (back ow ρ1 ρk) a → Own (L2.wipe σ ow) (wipe ow ρk) a := fun a ⟨i, h⟩ => ⟨i, (own1 i a h).2⟩
  have own3 : ∀ a, Own σ (back ow ρ1 ρk) a → Own σ ρ1 a := fun a h => I.own a (own2 a h)
  have oc : ∀ a, Oc W σ (back ow ρ1 ρk) a ∨ a = D → Oc (W.plus D) (L2.wipe σ ow) (wipe ow ρk) a := fun a h => by
    rcases h with (h | h) | h
    · exact .inl (.inl h)
    · exact .inr (own2 a h)
    · exact .inl (.inr h)
  have sb : Sub (hide (Oc W σ ρ1) H1) (hide (fun a => Oc W σ (back ow ρ1 ρk) a ∨ a = D) Hk) := fun b o h t => by
    obtain ⟨n, h⟩ := hide_some.mp h
    refine hide_some.mpr ⟨fun z => ?_, I.cell b o h (fun y => n (.inr y)) t⟩
    rcases z with (z | z) | z
    · exact n (.inl z)
    · exact n (.inr (own3 b z))
    · rw [z, hD] at h
      cases h
  have slots : ∀ (i : Nat) (s : Slot), (back ow ρ1 ρk)[i]? = some s → SlotOk W (hide (fun a => Oc W σ (back ow ρ1 ρk) a ∨ a = D) Hk) Hk (σ[i]?.join) s := fun i s h => by
    by_cases z : i ∈ ow
    · rw [backE_get, if_pos z] at h
      split at h
      · obtain ⟨s', hs, p⟩ := noBox_at nb z
        have h := Option.some.inj h
        rw [List.getD_eq_getElem?_getD, hs] at h
        have h : s' = s := h
        subst h
        exact (e.sl i s' hs).mono sb fun b io lk y => by rw [y] at p; cases p
      · cases h
    · rw [backE_get, if_neg z] at h
      have q := I.env.sl i s (by rw [wipeE_get, if_neg z]; exact h)
      rw [wipe_get, if_neg z] at q
      exact q.mono (hide_mono oc) fun _ _ _ _ _ _ _ y _ => y
  have weak : Sub (hide (fun a => Oc W σ (back ow ρ1 ρk) a ∨ a = D) Hk) (hide (Oc W σ (back ow ρ1 ρk)) Hk) := hide_mono fun a z => .inl z
  refine ⟨⟨⟨I.cell, I.there⟩, ⟨by rw [backE_len]; exact hl.trans e.len, I.env.fr, I.env.th, fun i s h => (slots i s h).mono weak fun _ _ _ _ _ _ _ y _ => y, fun a h => I.env.own a (own2 a h), fun i b lk a h1 h2 => ?_, fun i b lk a h1 h2 => ?_,
    fun i j a h1 h2 => I.env.inj i j a (own1 i a h1).2 (own1 j a h2).2, fun a h => I.env.tr a (.inl h), e.sub, I.env.tb⟩, own3, fun i b io lk h => ?_⟩, ⟨D, rfl, f0, ?_, ?_⟩, ?_⟩
  · obtain ⟨n, ⟨_, h3⟩⟩ := own1 i a ⟨⟨b, true, lk, h1⟩, h2⟩
    rw [backE_get, if_neg n] at h1
    exact I.env.io i b lk a (by rw [wipeE_get, if_neg n]; exact h1) h3
  · obtain ⟨n, ⟨_, h3⟩⟩ := own1 i a ⟨⟨b, false, lk, h1⟩, h2⟩
    rw [backE_get, if_neg n] at h1
    exact fun y => I.env.nio i b lk a (by rw [wipeE_get, if_neg n]; exact h1) h3 (.inl y)
  · by_cases z : i ∈ ow
    · obtain ⟨s, hs, p⟩ := noBox_at nb z
      rw [hs] at h
      cases h
      cases p
    · obtain ⟨b', h'⟩ := I.kp i b io lk (by rw [wipeE_get, if_neg z]; exact h)
      rw [wipeE_get, if_neg z] at h'
      exact ⟨b', by rw [backE_get, if_neg z]; exact h'⟩
  · rintro (z | z)
    · exact f1 (.inl z)
    · exact f1 (.inr (own3 D z))
  · obtain ⟨acc, h1, h2⟩ := I.box
    exact ⟨acc, h1, dpAll_mono (hide_mono oc) _ _ h2⟩
  · intro b hb p hp
    cases hp
    exact slots
/-- a comprehension begins -/
theorem LcInv.start {ow : List Nat} {ρ1 : Env} {H1 : Hp} {D : Addr} (e : EnvOk W σ H1 ρ1) (hD : H1 D = none) : LcInv W σ ow ρ1 H1 D [] ρ1 (upd H1 D (.lst [])) := by
  have e1 := (e.grow (grow_upd (o := .lst []) hD)).wipe ow
  obtain ⟨f0, f1⟩ := e.fresh hD
  have sb : ∀ a, Oc (W.plus D) (L2.wipe σ ow) (wipe ow ρ1) a → Oc W σ ρ1 a ∨ a = D := fun a z => by
    rcases z with (z | z) | z
    · exact .inl (.inl z)
    · exact .inr z
    · exact .inl (.inr (own_wipe' z))
  have g : Sub (hide (Oc W σ ρ1) H1) (hide (Oc (W.plus D) (L2.wipe σ ow) (wipe ow ρ1)) (upd H1 D (.lst []))) := fun b o h t => by
    obtain ⟨n, h⟩ := hide_some.mp h
    have hb : b ≠ D := ne_of_none h hD
    exact hide_some.mpr ⟨fun z => (sb b z).elim n hb, by rw [upd_ne hb]; exact h⟩
  refine ⟨⟨e1.len, e1.fr, e1.th, fun i s h => ?_, e1.own, e1.io, fun i b lk a h1 h2 z => ?_, e1.inj, fun a z => ?_, fun a z => .inl (e1.sub a z), e1.tb⟩, ⟨[], upd_same, .nil⟩, fun b o h _ _ => ?_, fun b o h => ⟨o, ?_⟩, fun a h => own_wipe' h, .refl _⟩
  · by_cases z : i ∈ ow
    · rw [wipeE_get, if_pos z] at h
      split at h
      · cases h
        trivial
      · cases h
    · rw [wipeE_get, if_neg z] at h
      rw [wipe_get, if_neg z]
      refine (e.sl i s h).mono (W := W) g fun b io lk _ a o _ y _ => ?_
      rw [upd_ne (ne_of_none y hD)]
      exact y
  · rcases z with z | z
    · exact e1.nio i b lk a h1 h2 z
    · subst z
      exact f1 (.inr (own_wipe' ⟨i, ⟨b, false, lk, h1⟩, h2⟩))
  · rcases z with z | z
    · exact e1.tr a z
    · subst z
      exact ⟨_, upd_same⟩
  · rw [upd_ne (ne_of_none h hD)]
    exact h
  · rw [upd_ne (ne_of_none h hD)]
    exact h
/-- a turn -/
def turnOf (t : Tgt) (wt : M Bool) (x : M Val) (d : PyData) : M (Option PyData) := M.bind (t.put d) fun _ => M.bind wt fun k => if k then M.bind x fun v => M.bind (keep v) fun y => M.pure (some y) else M.pure none
/-- the worlds that are alike but for what belongs to others -/
def Wd.like (W W' : Wd) : Prop := W'.K = W.K ∧ W'.C = W.C ∧ W'.T = W.T
def noX : WX := fun _ _ _ _ => False
def teA (W : Wd) (x : M Val) : TE := fun σ H Q => ∃ W', W.like W' ∧ tD W' noX x σ H Q
def ttA (W : Wd) (x : M Bool) : TT := fun σ H Q => ∃ W', W.like W' ∧ tT W' noX x σ H Q
theorem bind_ok {γ δ : Type} {x : M γ} {f : γ → M δ} {b : δ} {ρ ρ2 : Env} (h : M.bind x f ρ = .ok b ρ2) : ∃ a ρ1, x ρ = .ok a ρ1 ∧ f a ρ1 = .ok b ρ2 := by
  unfold M.bind at h
  cases q : x ρ with
  | ok a ρ1 => rw [q] at h; exact ⟨a, ρ1, rfl, h⟩
  | ex c ρ1 => rw [q] at h; cases h
  | st => rw [q] at h; cases h
theorem keep_eq {x : Val} {d : PyData} {ρ1 : Env} (h : keep x ρ = .ok d ρ1) : x.keep = some d ∧ ρ1 = ρ := by
  unfold keep at h
  cases q : x.keep with
  | none => rw [q] at h; cases h
  | some y => rw [q] at h; cases h; exact ⟨rfl, rfl⟩
theorem lc_turns {ow : List Nat} {t : Tgt} {wt : M Bool} {x : M Val} {ρ1 ρe : Env} {H1 : Hp} {D : Addr} {ds zs : List PyData} {J : L2.It} {Q : Hp → Prop} (e : EnvOk W σ H1 ρ1) (hD : H1 D = none) (hl : ds.length ≤ ds.length)
    (wk : Walk W.K (hide (Oc W σ ρ1) H1) J ds) (ht : ∀ i ∈ t.sets, i ∈ ow) (hr : comps ow (turnOf t wt x) ds [] ρ1 = .ok zs ρe)
    (hq : ∀ Hk, LcInv W σ ow ρ1 H1 D zs ρe Hk → Q Hk) :
    ∃ Wm : Nat → Nat → Hp → Prop, (∃ m, Wm 0 m (upd H1 D (.lst []))) ∧ ∀ i m H, Wm i m H → (J.stop i H ∧ Q H) ∨ (J.go i H ∧ ∃ Nx : Hp → Prop, (∀ H', Nx H' → ∃ m', m' < m ∧ Wm (i + 1) m' H') ∧
      ∀ v H', J.yld i H v H' → gT W.K t v (L2.wipe σ ow) H' fun σ2 H2 => L2.wipe σ2 ow = L2.wipe σ ow ∧ ttA W wt σ2 H2 fun b H3 => if b = true then teA W x σ2 H3 fun y H4 => ∃ acc, H4 D = some (.lst acc) ∧ acc.length < sizeLine ∧ Nx (upd H4 D (.lst (acc ++ [y]))) else Nx H3) := by
  refine ⟨fun i m H => m = ds.length - i ∧ i ≤ ds.length ∧ ∃ ys ρk, LcInv W σ ow ρ1 H1 D ys ρk H ∧ comps ow (turnOf t wt x) (ds.drop i) ys ρk = .ok zs ρe, ⟨_, rfl, Nat.zero_le _, [], ρ1, LcInv.start e hD, hr⟩, fun i m H ⟨hm, hi, ys, ρk, I, hc⟩ => ?_⟩
  obtain ⟨f0, f1⟩ := e.fresh hD
  have sb : Sub (hide (Oc W σ ρ1) H1) H := fun b o h t => by
    obtain ⟨n, h⟩ := hide_some.mp h
    exact I.cell b o h (fun y => n (.inr y)) t
  have sb2 : Sub (hide (Oc W σ ρ1) H1) (hide (Oc (W.plus D) (L2.wipe σ ow) (wipe ow ρk)) H) := fun b o h t => by
    obtain ⟨n, h⟩ := hide_some.mp h
    refine hide_some.mpr ⟨fun z => ?_, I.cell b o h (fun y => n (.inr y)) t⟩
    rcases z with (z | z) | z
    · exact n (.inl z)
    · rw [z, hD] at h
      cases h
    · exact n (.inr (I.own b z))
  by_cases li : i < ds.length
  · refine .inr ⟨wk.go i H sb li, fun H' => ∃ ys ρk, LcInv W σ ow ρ1 H1 D ys ρk H' ∧ comps ow (turnOf t wt x) (ds.drop (i + 1)) ys ρk = .ok zs ρe, fun H' ⟨ys', ρk', I', hc'⟩ => ⟨ds.length - (i + 1), by omega, rfl, li, ys', ρk', I', hc'⟩, fun v H' hy => ?_⟩
    obtain ⟨d, hd⟩ : ∃ d, ds[i]? = some d := ⟨ds[i], List.getElem?_eq_getElem li⟩
    have hdr : ds.drop i = d :: ds.drop (i + 1) := by
      rw [List.drop_eq_getElem_cons li]
      congr 1
      rw [List.getElem?_eq_getElem li] at hd
      exact Option.some.inj hd
    rw [hdr] at hc
    obtain ⟨r, ρ3, h1, hc⟩ := bind_ok (x := fun ρ => turnOf t wt x d (wipe ow ρ)) hc
    obtain ⟨u, ρ2, hput, h1⟩ := bind_ok (x := t.put d) h1
    obtain ⟨k, ρ2', hwt, h1⟩ := bind_ok (x := wt) h1
    -- the item comes
    have key : ∃ o, EnvOk (W.plus D) (L2.wipe σ ow) H' (wipe ow ρk) ∧ Dp W.K (hide (Oc (W.plus D) (L2.wipe σ ow) (wipe ow ρk)) H') v d ∧ Grow (W.plus D) H H' ∧ o = () := by
      rcases wk.yld i d H v H' sb hd hy with ⟨rfl, q⟩ | ⟨T, vs, es, hT, rfl, rfl, rfl, q⟩
      · exact ⟨(), I.env, dp_mono sb2 _ _ q, ⟨.refl _, fun b o h => ⟨o, h⟩, fun P _ h => h⟩, rfl⟩
      · exact ⟨(), I.env.grow (grow_upd hT), newT I.env hT (dpAll_mono sb2 _ _ q), grow_upd hT, rfl⟩
    obtain ⟨_, e1, hv, gr, _⟩ := key
    obtain ⟨vs, e2, hg, ho⟩ := tgt_ok e1 hv hput
    have hw : L2.wipe (stT (L2.wipe σ ow) t v vs) ow = L2.wipe σ ow := by rw [wipe_stT ht, wipe_wipe]
    have nD : ¬ Own (stT (L2.wipe σ ow) t v vs) ρ2 D := fun z => f1 (.inr (I.own D (ho D z)))
    have kp2 : Keeps (wipe ow ρk) ρ2 := fun j b io lk h => by
      have nj : j ∉ ow := fun z => by
        rw [wipeE_get, if_pos z] at h
        split at h <;> cases h
      exact ⟨b, by rw [put_off hput j fun z => nj (ht j z)]; exact h⟩
    obtain ⟨acc, hacc, hda⟩ := I.box
    -- the invariant behind a turn
    have nxt : ∀ (ρ4 : Env) (H4 : Hp), Eff (W.plus D) (stT (L2.wipe σ ow) t v vs) ρ2 H' ρ4 H4 → LcInv W σ ow ρ1 H1 D ys ρ4 H4 := fun ρ4 H4 f => by
      have ea := f.env.wipe ow
      rw [hw] at ea
      have ow4 : ∀ a, Own (L2.wipe σ ow) (wipe ow ρ4) a → Own (stT (L2.wipe σ ow) t v vs) ρ4 a := fun a h => by
        rw [← hw] at h
        exact own_wipe' h
      have ow5 : ∀ a, Own (L2.wipe σ ow) (wipe ow ρ4) a → Own (L2.wipe σ ow) (wipe ow ρk) a := fun a h => ho a (f.own a (ow4 a h))
      have cl : ∀ b o, H b = some o → ¬ Own (L2.wipe σ ow) (wipe ow ρk) b → NoTbl o → H4 b = some o := fun b o h n t => f.ext.cell b o (gr.sub b o h t) (fun z => n (ho b z)) t
      refine ⟨ea, ⟨acc, cl D _ hacc (fun z => f1 (.inr (I.own D z))) nt_lst, dpAll_mono (fun b o h t => ?_) _ _ hda⟩, fun b o h n t => cl b o (I.cell b o h n t) (fun z => n (I.own b z)) t, fun b o h => ?_, fun a h => I.own a (ow5 a h), I.kp.trans ?_⟩
      · obtain ⟨n, h⟩ := hide_some.mp h
        refine hide_some.mpr ⟨fun z => n ?_, cl b o h (fun y => n (.inr y)) t⟩
        rcases z with z | z
        · exact .inl z
        · exact .inr (ow5 b z)
      · obtain ⟨o1, h1⟩ := I.there b o h
        obtain ⟨o2, h2⟩ := gr.there b o1 h1
        exact f.ext.there b o2 h2
      · have := keeps_wipe (ow := ow) (kp2.trans f.kp)
        intro j b io lk h
        have nj : j ∉ ow := fun z => by
          rw [wipeE_get, if_pos z] at h
          split at h <;> cases h
        exact this j b io lk (by rw [wipeE_get, if_neg nj]; exact h)
    refine hg _ ⟨hw, W.plus D, ⟨rfl, rfl, rfl⟩, ρ2, e2, ?_⟩
    rw [hwt]
    intro H3 f3
    cases k with
    | false =>
      rw [if_neg Bool.false_ne_true] at h1 ⊢
      cases h1
      exact ⟨ys, _, nxt _ _ f3, hc⟩
    | true =>
      rw [if_pos rfl] at h1 ⊢
      obtain ⟨y, ρ4, hx, h1⟩ := bind_ok (x := x) h1
      obtain ⟨yd, ρ5, hk, h9⟩ := bind_ok (x := keep y) h1
      obtain ⟨hk7, hk5⟩ := keep_eq hk
      rw [hk5] at h9
      cases h9
      refine ⟨W.plus D, ⟨rfl, rfl, rfl⟩, ρ2', f3.env, ?_⟩
      rw [hx]
      intro H4 f4 w ⟨hw4, _⟩
      have f := f3.trans f4
      have I4 := nxt _ _ f
      obtain ⟨acc4, ha4, hd4⟩ := I4.box
      have len : acc4.length = ys.length := dpAll_length hd4
      simp only at hc
      by_cases ll : ys.length < lim
      · rw [if_pos ll] at hc
        refine ⟨acc4, ha4, by rw [len]; exact Nat.lt_of_lt_of_le ll (by decide), ys ++ [yd], ρ3, ?_, hc⟩
        have eH : hide (Oc (W.plus D) (L2.wipe σ ow) (wipe ow ρ3)) (upd H4 D (.lst (acc4 ++ [w]))) = hide (Oc (W.plus D) (L2.wipe σ ow) (wipe ow ρ3)) H4 := hide_upd (.inl (.inr rfl))
        have ne : ∀ {b : Addr} {o : HO}, H1 b = some o → b ≠ D := fun z y => by rw [y, hD] at z; cases z
        refine ⟨I4.env.updO (.inr rfl) f0 (fun z => f1 (.inr (I4.own D z))) ha4, ⟨_, upd_same, ?_⟩, fun b o h n t => by rw [upd_ne (ne h)]; exact I4.cell b o h n t, fun b o h => by rw [upd_ne (ne h)]; exact I4.there b o h, I4.own, I4.kp⟩
        rw [eH]
        have kd := keep_ok (W := W.plus D) hw4 hk7
        have kd2 : Dp W.K (hide (Oc (W.plus D) (L2.wipe σ ow) (wipe ow ρ3)) H4) w yd := dp_mono (hide_mono fun a z => by
          rcases z with z | z
          · exact .inl z
          · rw [← hw] at z
            exact .inr (own_wipe' z)) _ _ kd
        exact dpAll_append hd4 (.cons kd2 .nil)
      · rw [if_neg ll] at hc
        cases hc
  · have hdr : ds.drop i = [] := List.drop_eq_nil_of_le (by omega)
    rw [hdr] at hc
    cases hc
    exact .inl ⟨wk.stop i H sb (by omega), hq H I⟩
end
end Pz

namespace Pz
open PySem PySem.Spec PyProof.Rows L2
theorem PTs.weak {X : Cx} {es : List Expr} {t t' : TT} (h : PTs X es t) (f : ∀ σ H Q, t' σ H Q → t σ H Q) : PTs X es t' := ⟨fun pins s σ H Q I q => h.run pins s σ H Q I (f σ H Q q)⟩
section
variable {W : Wd} {Wx : WX} {σ σ' : L2.St} {ρ ρ' : Env} {H H' : Hp} {α β : Type} {X : Cx}
theorem pts_yes : PTs X [] (ttA W (M.pure true)) := PTs.weak pts_nil fun σ H Q ⟨W', _, ρ, e, h⟩ => h H (Eff.refl e)
theorem pe_all {e : Expr} {x : M Val} (h : ∀ W', W.like W' → PE X e (tD W' noX x)) : PE X e (teA W x) := ⟨fun pins s σ H Q I ⟨W', l, q⟩ => (h W' l).run pins s σ H Q I q⟩
theorem pt_all {e : Expr} {x : M Bool} (h : ∀ W', W.like W' → PT X e (tT W' noX x)) : PT X e (ttA W x) := ⟨fun pins s σ H Q I ⟨W', l, q⟩ => (h W' l).run pins s σ H Q I q⟩
def notSet : Expr → Bool
  | .Set _ _ _ => false
  | _ => true
theorem folded_ok {e : Expr} {env : PySem.Env} (h : notSet e = true) (v : Value) : foldedSetIterable e env v = pure v := by
  cases e <;> first | rfl | cases h
theorem lc_reads {ow : List Nat} {t : Tgt} {it : It} {wt : M Bool} {x : M Val} {Q : VK} {G : G0} (ht : ∀ i ∈ t.sets, i ∈ ow)
    (h : tD W Wx (M.bind (evi G it) fun ds => fun ρ0 => if noBox ow ρ0 = false then .st else M.bind (M.calm (comps ow (turnOf t wt x) ds [])) (fun ys ρ => .ok (.bx (.l ys)) (back ow ρ0 ρ)) ρ0) σ H Q) :
    tLc (tI W Wx (evi G it)) (gT W.K t) (ttA W wt) (teA W x) ow σ H Q := by
  obtain ⟨ρ, e, h⟩ := h
  refine ⟨ρ, e, Post.run (x := evi G it) h fun ds ρ1 H1 e1 h1 J wk D hD => ?_⟩
  by_cases nb : noBox ow ρ1 = false
  · rw [if_pos nb] at h1
    exact h1.elim
  · rw [if_neg nb] at h1
    have nb : noBox ow ρ1 = true := by simpa using nb
    unfold M.bind M.calm at h1
    cases hr : comps ow (turnOf t wt x) ds [] ρ1 with
    | st => rw [hr] at h1; exact h1.elim
    | ex c ρe => rw [hr] at h1; exact h1.elim
    | ok zs ρe =>
      rw [hr] at h1
      refine lc_turns (Q := fun H => Q (.ref D) H) e1.env hD (Nat.le_refl _) wk ht hr fun Hk I => ?_
      have hl : ρe.length = ρ1.length := by
        have := I.env.len
        rw [wipeE_len, wipe_len] at this
        rw [this, e1.env.len]
      obtain ⟨f, hv⟩ := I.done e1.env hD nb hl
      exact h1 Hk f _ hv
theorem s_cmp0 {elt tg iter : Expr} {scope : Scope} {ownP : List (Str × Nat)} {pos : Pos} {t : Tgt} {it : It} {te : Tm} {G : G0} (hc : X.calm = true) (hN : X.N.Nodup) (hi : PI X tg iter (tI W Wx (evi G it))) (hb : BlkOk X.N X.env.scope scope ownP)
    (hg : ∀ s H C cl fp, PG (X.blk s H scope (compEnvC scope cl C X.env) fp) tg (gT W.K t)) (he : ∀ s H C cl fp W', W.like W' → PE (X.blk s H scope (compEnvC scope cl C X.env) fp) elt (tD W' noX (ev G te)))
    (ht : ∀ i ∈ t.sets, i ∈ ownP.map (·.2)) (hs : notSet iter = true) :
    PE X (.ListComp elt [{ target := tg, iter := iter, ifs := [], is_async := 0 }] scope pos) (tD W Wx (ev G (.cmp0 (ownP.map (·.2)) t it te))) :=
  PE.weak (pe_lc hc hN hi hb hg (fun _ _ _ _ _ => pts_yes) (fun s H C cl fp => pe_all (he s H C cl fp)) (folded_ok hs)) fun σ H Q h => lc_reads (wt := M.pure true) ht h
theorem s_cmp1 {elt tg iter tst : Expr} {scope : Scope} {ownP : List (Str × Nat)} {pos : Pos} {t : Tgt} {it : It} {te tw : Tm} {G : G0} (hc : X.calm = true) (hN : X.N.Nodup) (hi : PI X tg iter (tI W Wx (evi G it))) (hb : BlkOk X.N X.env.scope scope ownP)
    (hg : ∀ s H C cl fp, PG (X.blk s H scope (compEnvC scope cl C X.env) fp) tg (gT W.K t)) (hw : ∀ s H C cl fp W', W.like W' → PT (X.blk s H scope (compEnvC scope cl C X.env) fp) tst (tT W' noX (evT G tw))) (he : ∀ s H C cl fp W', W.like W' → PE (X.blk s H scope (compEnvC scope cl C X.env) fp) elt (tD W' noX (ev G te)))
    (ht : ∀ i ∈ t.sets, i ∈ ownP.map (·.2)) (hs : notSet iter = true) :
    PE X (.ListComp elt [{ target := tg, iter := iter, ifs := [tst], is_async := 0 }] scope pos) (tD W Wx (ev G (.cmp1 (ownP.map (·.2)) t it tw te))) :=
  PE.weak (pe_lc hc hN hi hb hg (fun s H C cl fp => pts_one (pt_all (hw s H C cl fp))) (fun s H C cl fp => pe_all (he s H C cl fp)) (folded_ok hs)) fun σ H Q h => lc_reads (wt := evT G tw) ht h
theorem strOf_str {d : PyData} {x : Str} (h : strOf d = some x) : d = .str x ∨ ∃ i, d = .int i ∧ i.natAbs.log2 < 1920 ∧ x = Str.ofString (toString i) := by
  unfold strOf at h
  split at h
  · cases h
    exact .inl rfl
  · split at h
    · cases h
      exact .inr ⟨_, rfl, by assumption, rfl⟩
    · cases h
  · cases h
/-- a part of a text -/
abbrev tF1 (W : Wd) (Wx : WX) (x : M Val) : TE := fun σ H Q => ∃ ρ, EnvOk W σ H ρ ∧ Post W Wx σ ρ H (M.bind x (fun v => M.bind (look v) fun d => M.ofO (strOf d)) ρ) fun y ρ' H' => y.length ≤ lim ∧ Q (.str y) H'
theorem f_fmt {e : Expr} {x : M Val} {pos : Pos} (h : PE X e (tD W Wx x)) : PE X (.FormattedValue e (-1) none pos) (tF1 W Wx x) := by
  refine PE.weak (pe_fmt h) fun σ H Q ⟨ρ, e, q⟩ => ⟨ρ, e, Post.run (x := x) q fun v ρ1 H1 e1 q1 w ⟨hw, _⟩ => ?_⟩
  obtain ⟨d, ld, q1⟩ := q1.look e1.env hw
  obtain ⟨y, hy, q2⟩ := q1.endO
  obtain ⟨l, q3⟩ := q2 H1 (Eff.refl e1.env)
  rcases strOf_str hy with z | ⟨i, z, hi, z2⟩
  · rw [z] at ld
    exact .inl ⟨y, ld.str, lim_line l, q3⟩
  · rw [z] at ld
    rw [z2] at q3
    exact .inr ⟨i, ld.int, hi, q3⟩
theorem f_str {z : Str} {j : Nat} {pos : Pos} {G : G0} : PE X (.Constant (.str z) j pos) (tF1 W Wx (ev G (.c (.str z)))) :=
  PE.weak pe_str fun σ H Q ⟨ρ, e, q⟩ => (q H (Eff.refl e)).2
def tsOf (W : Wd) (Wx : WX) (G : G0) : Tms → List TE
  | .nil => []
  | .cons a l => tF1 W Wx (ev G a) :: tsOf W Wx G l
theorem len_app (x y : Str) : (x ++ y).length = x.length + y.length := by
  show (x.cps ++ y.cps).size = _
  rw [Array.size_append]
  rfl
theorem tJs_cons {t : TE} {ts : List TE} {acc : Str} {Q : Str → Hp → Prop} : tJs (t :: ts) acc σ H Q = t σ H fun x H1 => ∃ y, x = .str y ∧ (acc ++ y).length ≤ sizeLine ∧ tJs ts (acc ++ y) σ H1 Q := rfl
theorem f_parts {G : G0} : ∀ {l : Tms} {acc : Str} {ρ : Env} {H : Hp} {Q : Str → Hp → Prop}, EnvOk W σ H ρ → Post W Wx σ ρ H (evf G l acc ρ) (fun y ρ' H' => Q y H') → tJs (tsOf W Wx G l) acc σ H Q
  | .nil, acc, ρ, H, Q, e, h => h H (Eff.refl e)
  | .cons a l, acc, ρ, H, Q, e, h => by
    have e0 : evf G (.cons a l) acc = M.bind (ev G a) fun x => M.bind (look x) fun d => M.bind (M.ofO (strOf d)) fun y => if acc.length + y.length ≤ lim then evf G l (acc ++ y) else M.stuck := rfl
    rw [e0] at h
    show tJs (tF1 W Wx (ev G a) :: tsOf W Wx G l) acc σ H Q
    rw [tJs_cons]
    refine ⟨ρ, e, ?_⟩
    have e1 : (M.bind (ev G a) fun x => M.bind (look x) fun d => M.bind (M.ofO (strOf d)) fun y => if acc.length + y.length ≤ lim then evf G l (acc ++ y) else M.stuck) = M.bind (M.bind (ev G a) fun x => M.bind (look x) fun d => M.ofO (strOf d)) fun y => if acc.length + y.length ≤ lim then evf G l (acc ++ y) else M.stuck := by simp only [bind_assoc]
    rw [e1] at h
    refine Post.run (x := M.bind (ev G a) fun x => M.bind (look x) fun d => M.ofO (strOf d)) h fun y ρ1 H1 e1 h1 => ?_
    by_cases l1 : acc.length + y.length ≤ lim
    · rw [if_pos l1] at h1
      exact ⟨by omega, y, rfl, by rw [len_app]; exact lim_line l1, f_parts e1.env h1⟩
    · rw [if_neg l1] at h1
      exact h1.elim
theorem s_fst {v1 v2 : Expr} {rest : List Expr} {l : Tms} {pos : Pos} {G : G0} (h : PJ X (v1 :: v2 :: rest) (tsOf W Wx G l)) : PE X (.JoinedStr (v1 :: v2 :: rest) pos) (tD W Wx (ev G (.fst l))) := by
  refine PE.weak (pe_joined h) fun σ H Q ⟨ρ, e, q⟩ => ?_
  have q : Post W Wx σ ρ H (M.bind (evf G l Str.empty) (fun x => M.pure (.fz (.str x))) ρ) (Fin_ W σ Q) := q
  exact f_parts e (q.bind.mono fun y ρ' H' e1 q1 => fin_same (r := .fz (.str y)) (Q := Q) (v := .str y) e1.env q1 (Dp.str y))
theorem s_fst1 {v1 : Expr} {a : Tm} {pos : Pos} {G : G0} (h : PE X v1 (tF1 W Wx (ev G a))) : PE X (.JoinedStr [v1] pos) (tD W Wx (ev G (.fst (.cons a .nil)))) := by
  refine PE.weak (pe_joined1 h) fun σ H Q ⟨ρ, e, q⟩ => ?_
  have q : Post W Wx σ ρ H (M.bind (evf G (.cons a .nil) Str.empty) (fun x => M.pure (.fz (.str x))) ρ) (Fin_ W σ Q) := q
  have r : tJs (tsOf W Wx G (.cons a .nil)) Str.empty σ H (fun y H' => Q (.str y) H') := f_parts e (q.bind.mono fun y ρ' H' e1 q1 => fin_same (r := .fz (.str y)) (Q := Q) (v := .str y) e1.env q1 (Dp.str y))
  have r : tJs (tF1 W Wx (ev G a) :: []) Str.empty σ H (fun y H' => Q (.str y) H') := r
  rw [tJs_cons] at r
  obtain ⟨ρ', e', r⟩ := r
  refine ⟨ρ', e', r.mono fun y ρ2 H2 _ ⟨l, y', hy, _, z⟩ => ⟨l, ?_⟩⟩
  cases hy
  have : Str.empty ++ y = y := by
    show (⟨#[] ++ y.cps⟩ : Str) = y
    simp
  rw [← this]
  exact z
theorem s_con {i : Nat} {x : Str} {d : PyData} {v : V} {u : Value} {pos : Pos} {G : G0} (hg : Gl X x) (hm : X.mg x = some u) (r : L2.RelV v u) (hd : (x == ("__debug__" : Str)) = false) (hG : G.con[i]? = some d) (hv : ∀ H, Dp W.K H v d) : PE X (.Name x pos) (tD W Wx (ev G (.g i))) := by
  refine PE.weak (pe_glob hg hm r hd) fun σ H Q ⟨ρ, e, h⟩ => ?_
  have h : Post W Wx σ ρ H (M.ofO (G.con[i]?.map .fz) ρ) (Fin_ W σ Q) := h
  rw [hG] at h
  exact fin_same e h (hv _)
theorem t_ie {c a b : Expr} {tc ta tb : Tm} {pos : Pos} {G : G0} (hc : PT X c (tT W Wx (evT G tc))) (ha : PT X a (tT W Wx (evT G ta))) (hb : PT X b (tT W Wx (evT G tb))) : PT X (.IfExp c a b pos) (tT W Wx (evT G (.ie tc ta tb))) := ⟨fun pins s σ H Q I h => by
  obtain ⟨ρ, e, h⟩ := h
  refine PyProof.Rows.isTrue_IfExp (thn (hc.run pins s σ H (fun k H' => if k = true then tT W Wx (evT G ta) σ H' Q else tT W Wx (evT G tb) σ H' Q) I ⟨ρ, e, Post.run (x := evT G tc) h fun k ρ1 H1 e1 h1 => ?_⟩) fun k s1 hh => ?_)
  · cases k with
    | true => exact iteT ⟨ρ1, e1.env, h1⟩
    | false => exact iteF ⟨ρ1, e1.env, h1⟩
  · obtain ⟨H1, I1, q⟩ := hh
    cases k with
    | true =>
      rw [if_pos rfl] at q ⊢
      exact ha.run pins s1 σ H1 _ I1 q
    | false =>
      rw [if_neg Bool.false_ne_true] at q ⊢
      exact hb.run pins s1 σ H1 _ I1 q⟩
end
end Pz

namespace Pz
open PySem PySem.Spec PyProof.Rows L2
section
variable {W : Wd} {Wx : WX} {σ σ' : L2.St} {ρ ρ' : Env} {H H' : Hp} {α β : Type} {X : Cx}
/-- the scope of the generator and what it reads -/
structure GenC (X : Cx) (scope : Scope) (x C : Str) (L : Str) (t : Tok) : Prop where
  gen : GxR.GenS X.env scope x
  glob : scope.names.lookup C = some .globalImplicit
  dx : (x == ("__debug__" : Str)) = false
  dC : (C == ("__debug__" : Str)) = false
  val : X.mg C = some (.str L t)
theorem gen_strC {pins : List (Addr × Obj)} {s : Shared} {c P : Addr} {iter : Expr} {x C : Str} {px p1 p2 p3 gpos : Pos} {scope : Scope} {L : Str} {t : Tok} {te : TE} {k : Nat} {Q' : Value → Shared → Prop} {R : Str → Hp → Prop}
    (hr : Room k X.A) (TB : GxR.TabB X.base X.mg c P) (hcode : X.env.code = .ref c) (S : GenC X scope x C L t) (hi : PE X iter te) (hs : ∀ v, genFold iter X.env v = pure v) (I : L2.Inv X pins σ H s)
    (h : te σ H fun v H1 => ∃ a : Str, v = .str a ∧ GxR.TabG H1 P ∧ R a H1)
    (hq : ∀ a H1 g s5, R a H1 → GxR.Ready X pins σ H1 P a (fun n => isSub ⟨#[n]⟩ L) g s5 → Q' (.ref g) s5) :
    wpAny (model X.prog X.w) X.A (eval (.GeneratorExp (.Compare (.Name x p1) [.In] [.Name C p2] p3) [{ target := .Name x px, iter := iter, ifs := [], is_async := 0 }] scope gpos) X.env) Q' X.xe s := by
  have hdp : X.A.depth < recursionLimit := by have := hr.dp; omega
  refine wpAny_GeneratorExp_walksQ hr.hd S.gen.co (closure_ok S.gen.free) S.gen.cell S.gen.dot S.gen.loc S.gen.kind hdp ?_ hs
  refine thn (hi.run pins s σ H _ I h) fun v s1 hh => ?_
  obtain ⟨y, H1, I1, rel, q⟩ := hh
  obtain ⟨a, rfl, ⟨ps, hT, hOk⟩, hR⟩ := q
  obtain ⟨ta, rfl⟩ := rel
  refine wpAny_pyIter_str fun o St hw h0 => ?_
  have hP : s1.heap.get? P = some (W.tabObj ps) := I1.hok P _ hT
  have hP2 : (s1.heap.push o).get? P = some (W.tabObj ps) := Heap.get?_push_of_some _ hP
  have k2 : ∀ (b : Addr) (ob : Obj), X.base.get? b = some ob → (s1.heap.push o).get? b = some ob := fun b ob e => Heap.get?_push_of_some _ (I1.bk b ob e)
  have nl : (s1.heap.push o).NoLimit := I1.nolimit.push o
  refine ⟨nl, ?_⟩
  have hc2 := TB.code.keeps k2
  -- behind the code, whichever way it came
  have fin : ∀ (code : Value) (h3 : Heap) (tk : Nat) (more : Array Value), (∀ b ob, b ≠ P → (s1.heap.push o).get? b = some ob → h3.get? b = some ob) → h3.get? P = some (W.tabObj (ps ++ more)) → TriplesOk (ps ++ more).toList → (s1.heap.push o).objs.size ≤ h3.objs.size →
      wpAny (model X.prog X.w) X.A (builtinsFor X.env.globals X.env.builtins) (fun bi s₄ => ∃ I fp wr n₀ PP St₀ pz F, (Value.ref s1.heap.objs.size) = Value.ref I ∧ (∀ A' : Around, A'.handled = none → Walks X.prog X.w A' I fp wr n₀ PP St₀) ∧ St₀ 0 s₄.heap ∧ (∀ b : Addr, b ∈ fp → b < s₄.heap.objs.size) ∧ s₄.heap.NoLimit ∧ ¬ cStatics ∈ wr ∧
        (∀ href : Heap, (∀ (b : Addr) (ob : Obj), s₄.heap.get? b = some ob → href.get? b = some ob) → QuietGen X.prog X.w (genEnv scope (cloFrom X.env.cells scope.names []) s₄.heap.objs.size code bi X.env) x [] (.Compare (.Name x p1) [.In] [.Name C p2] p3) (List.range s₄.heap.objs.size) wr PP pz F href) ∧
        ∀ (a : Nat) (h₅ : Heap) (tk : Nat) (gs : GenState), gs.bare = true → s₄.heap.objs.size < a → h₅.objs.size = a + 1 → (∀ (b : Addr) (ob : Obj), s₄.heap.get? b = some ob → h₅.get? b = some ob) →
          WalksS X.prog X.w X.A.in4 a (a :: s₄.heap.objs.size :: List.range s₄.heap.objs.size) (s₄.heap.objs.size :: wr) (GenOnlyQ s₄.gens.size) (passing pz n₀ 0).length (fun j y => ∃ i, (passing pz n₀ 0)[j]? = some i ∧ F i y) (GenAt X.prog X.w X.A.in4 a s₄.gens.size s₄.heap.objs.size (List.range s₄.heap.objs.size) wr pz n₀ F) →
          GenAt X.prog X.w X.A.in4 a s₄.gens.size s₄.heap.objs.size (List.range s₄.heap.objs.size) wr pz n₀ F 0 { heap := h₅, gens := s₄.gens.push gs, drawn := s₄.drawn, toks := tk, os := s₄.os } → Q' (Value.ref a) { heap := h₅, gens := s₄.gens.push gs, drawn := s₄.drawn, toks := tk, os := s₄.os })
        X.xe { heap := h3, gens := s1.gens, drawn := s1.drawn, toks := tk, os := s1.os } := fun code h3 tk more e3 p3 ok3 sz3 => by
    have k3 : ∀ (b : Addr) (ob : Obj), b ≠ P → X.base.get? b = some ob → h3.get? b = some ob := fun b ob n e => e3 b ob n (k2 b ob e)
    have ng : h3.Ns mainGlobals X.mg := I1.ok.mod.glob.extBut (b := P) (fun b ob n e => k3 b ob n e) TB.gP
    obtain ⟨bm, ob, b1, b2, b3, b4, b5, b6, b7, b8⟩ := TB.bm
    rw [I1.ok.glob]
    refine wpAny_builtinsFor ng b1 b2 (k3 bm ob b4 b5) b6 b7 b8 ?_
    have szlt : s1.heap.objs.size < (s1.heap.push o).objs.size := by rw [Heap.size_push]; exact Nat.lt_succ_self _
    have iP : s1.heap.objs.size ≠ P := fun z => absurd (Heap.lt_size hP) (by rw [← z]; exact Nat.lt_irrefl _)
    have keep3 : ∀ (b : Addr), b ∈ [s1.heap.objs.size] → ∀ ob, (s1.heap.push o).get? b = some ob → h3.get? b = some ob := fun b hb ob e => e3 b ob (by rw [List.mem_singleton.mp hb]; exact iP) e
    obtain ⟨mc, n1, n2⟩ := nl
    have cP : cStatics ≠ P := fun z => by
      obtain ⟨o9, es, ep, g1, g2, _⟩ := n1
      rw [z, hP2] at g1
      cases g1
      cases g2
    have nl3 : h3.NoLimit := ⟨mc, n1.extBut (b := P) e3 cP, n2⟩
    have cI : cStatics ≠ s1.heap.objs.size := fun z => by
      obtain ⟨mc9, m1, _⟩ := I1.nolimit
      obtain ⟨o9, es, ep, g1, _⟩ := m1
      exact absurd (Heap.lt_size g1) (by rw [z]; exact Nat.lt_irrefl _)
    refine ⟨s1.heap.objs.size, [s1.heap.objs.size], [s1.heap.objs.size], a.cps.size, SignAt a, St, fun _ => true, fun i v => ∃ c, a.cps[i]? = some c ∧ v = .bool (isSub ⟨#[c]⟩ L), rfl, hw, (hw X.A hr.hd).frame 0 _ _ h0 keep3, fun b hb => ?_, nl3, fun z => cI (List.mem_singleton.mp z), fun href hext => ⟨fun A' E' i v s₂ m₂ _ _ _ _ _ => wpAny_tests_nil ⟨rfl, GxR.keeps_refl _⟩, fun A' E' i v s₂ m₂ hA hPi _ hns hmx hkeep => ?_⟩, fun a5 h5 tk5 gs hb lt5 sz5 ext5 hwk h05 => ?_⟩
    · rw [List.mem_singleton.mp hb]
      exact Nat.lt_of_lt_of_le szlt sz3
    · obtain ⟨c9, u9, hc9, rfl⟩ := hPi
      refine wpAny_Compare1 (ldG hns hmx ?_ S.gen.kind S.gen.loc S.dx) rfl
      refine wpAny_Name (PySem.W.ks_loadName_global S.gen.kind S.glob (Calls.loadGlobal_global (mg := X.mg) ?_ S.val ?_)) S.dC
      · obtain ⟨o9, es, ep, g1, g2⟩ := ng
        have mI : mainGlobals ≠ s1.heap.objs.size := fun z => by
          obtain ⟨o8, es8, ep8, g8, _⟩ := I1.ok.mod.glob
          exact absurd (Heap.lt_size (I1.bk _ _ g8)) (by rw [z]; exact Nat.lt_irrefl _)
        have e9 : (genEnv scope (cloFrom X.env.cells scope.names []) h3.objs.size code builtinsNs X.env).globals = mainGlobals := I1.ok.glob
        rw [e9]
        exact ⟨o9, es, ep, hkeep mainGlobals (List.mem_range.mpr (Heap.lt_size g1)) (fun z => mI (List.mem_singleton.mp z)) o9 (hext _ _ g1), g2⟩
      · exact PySem.P.in_str ⟨⟨c9, hc9, rfl⟩, GxR.keeps_refl _⟩
    · have len : (passing (fun _ => true) a.cps.size 0).length = a.cps.size := by rw [GxR.passing_true, List.length_range]
      rw [len] at hwk
      refine hq a H1 a5 _ hR ⟨_, _, _, _, _, hwk.in4_1, h05, fun i v s9 Q9 E9 hv hQ => ?_, fun s' mv => ⟨upd H1 P (.tbl (ps ++ more)), ⟨⟨ps ++ more, upd_same, ok3⟩, fun b hb => upd_ne hb⟩, ?_⟩⟩
      · obtain ⟨i', h1, c9, h2, rfl⟩ := hv
        rw [GxR.passing_true] at h1
        have hi' : i' = i := by
          by_cases l : i < a.cps.size
          · rw [List.getElem?_range l] at h1
            exact (Option.some.inj h1).symm
          · rw [List.getElem?_eq_none (by rw [List.length_range]; omega)] at h1
            cases h1
        subst hi'
        rw [GxR.trF_some (b := c9) (by rw [Array.getElem?_toList]; exact h2)] at hQ
        exact wpAny_truthy_bool hQ
      · have osz : ∀ {b : Addr} {ob : Obj}, s1.heap.get? b = some ob → ¬ b ∈ (h3.objs.size :: [s1.heap.objs.size]) := fun {b ob} e z => by
          have := Heap.lt_size e
          rcases List.mem_cons.mp z with z | z
          · have q : s1.heap.objs.size < h3.objs.size := Nat.lt_of_lt_of_le szlt sz3
            rw [z] at this
            exact absurd (Nat.lt_trans this q) (Nat.lt_irrefl _)
          · rw [List.mem_singleton.mp z] at this
            exact absurd this (Nat.lt_irrefl _)
        have J := GxR.inv_tab (more := more) (h' := s'.heap) (g' := s'.gens) (d' := s'.drawn) (t' := s'.toks) I1 hT (fun b ob n e => mv.heap b ob (osz e) (ext5 b ob (e3 b ob n (Heap.get?_push_of_some _ e)))) (mv.heap P _ (osz hP) (ext5 P _ p3)) (mv.gens.bare fun y hy => by
          rcases Array.mem_push.mp hy with hy | hy
          · exact I1.bare y hy
          · rw [hy]; exact hb)
        have e9 := GxR.sh_eta s1 s' mv.os
        rw [e9] at J
        exact J
  cases hca : codeAmong gpos ps.toList with
  | some c' => exact wpAny_genexprCode_hit hcode (hc2.code hP2 hOk) hca (fin c' _ s1.toks #[] (fun _ _ _ e => e) (by simpa using hP2) (by simpa using hOk) (Nat.le_refl _))
  | none =>
    exact wpAny_genexprCodeX hcode (hc2.code hP2 hOk) (hc2.tab hP2) hca fun c' h' tk ext lo hi isc _ tab _ => fin (.ref c') h' tk _ ext tab.2 (by
      obtain ⟨_, _, _, _, _, _, _, _, _, op, _, _, _, _, _, _, _, g1, g2, g3, _⟩ := isc
      exact g3) (Nat.le_of_lt (Nat.lt_of_le_of_lt lo hi))
theorem pe_allC {c P : Addr} {iter : Expr} {x C : Str} {px p p1 p2 p3 pos gpos : Pos} {scope : Scope} {L : Str} {t : Tok} {te : TE} {k : Nat} (hr : Room k X.A) (hg : Gl X "all") (hm : X.mg "all" = none) (TB : GxR.TabB X.base X.mg c P) (hcode : X.env.code = .ref c) (S : GenC X scope x C L t) (hi : PE X iter te)
    (hs : ∀ v, genFold iter X.env v = pure v) :
    PE X (.Call (.Name "all" p) [.GeneratorExp (.Compare (.Name x p1) [.In] [.Name C p2] p3) [{ target := .Name x px, iter := iter, ifs := [], is_async := 0 }] scope gpos] [] pos) (GxR.tAllS P (fun n => isSub ⟨#[n]⟩ L) te) := ⟨fun pins s σ H Q I h => by
  refine wpAny_Call_Name_kw (ld_blt (u := .builtin "all") I hg hm (by decide +kernel) ?_ (by decide) (by decide))
  refine PyProof.Rows.callWith_builtin1 (Calls.spliced_cons (gen_strC hr TB hcode S hi hs I h ?_)) rfl rfl
  intro a H1 g s5 hR hrd
  refine Calls.spliced_nil ?_
  obtain ⟨fp, wr, GG, F, St, hw, h0, ht, hmv⟩ := hrd
  refine call_all_walkS (hw.self 0 s5 _ _ h0 ⟨g, fp, wr, GG, _, F, St, _, rfl, hw, h0, ht, fun s' mv => ?_⟩)
  obtain ⟨H2, hT, J⟩ := hmv s' mv
  refine ⟨.bl _, H2, J, ?_, hR H2 hT⟩
  show _ = _
  have e := GxR.all_trF a.cps.toList (fun n => isSub ⟨#[n]⟩ L)
  rw [Array.length_toList] at e
  rw [e]⟩
theorem s_alls {c P : Addr} {iter : Expr} {x C : Str} {px p p1 p2 p3 pos gpos : Pos} {scope : Scope} {L : Str} {t : Tok} {ti : Tm} {k g : Nat} {G : G0} (hr : Room k X.A) (hg : Gl X "all") (hm : X.mg "all" = none) (TB : GxR.TabB X.base X.mg c P) (hcode : X.env.code = .ref c) (S : GenC X scope x C L t) (hi : PE X iter (tD W Wx (ev G ti)))
    (hs : ∀ v, genFold iter X.env v = pure v) (hP : W.T P) (hG : G.con[g]? = some (.str L)) :
    PE X (.Call (.Name "all" p) [.GeneratorExp (.Compare (.Name x p1) [.In] [.Name C p2] p3) [{ target := .Name x px, iter := iter, ifs := [], is_async := 0 }] scope gpos] [] pos) (tD W Wx (ev G (.alls ti g))) := by
  refine PE.weak (pe_allC hr hg hm TB hcode S hi hs) fun σ H Q h => ?_
  obtain ⟨ρ, e, h⟩ := h
  refine ⟨ρ, e, Post.run (x := ev G ti) h fun x ρ1 H1 e1 h1 v ⟨hv, _⟩ => ?_⟩
  obtain ⟨d, ld, h1⟩ := h1.look e1.env hv
  rw [hG] at h1
  cases d with
  | str z =>
    refine ⟨z, ld.str, e1.env.tb P hP, fun H2 hT => ?_⟩
    have gr : Grow W H1 H2 := ⟨fun b o z n => by
      by_cases hb : b = P
      · subst hb
        obtain ⟨ps, q, _⟩ := e1.env.tb b hP
        rw [q] at z
        cases z
        exact absurd rfl (n ps)
      · rw [hT.2 b hb]
        exact z, fun b o z => by
      by_cases hb : b = P
      · subst hb
        obtain ⟨ps, q, _⟩ := hT.1
        exact ⟨_, q⟩
      · exact ⟨o, by rw [hT.2 b hb]; exact z⟩, fun P' _ ht => by
      by_cases hb : P' = P
      · subst hb
        exact hT.1
      · obtain ⟨ps, q, r⟩ := ht
        exact ⟨ps, by rw [hT.2 P' hb]; exact q, r⟩⟩
    exact h1 H2 (Eff.grow e1.env gr) _ ⟨.bl _, fun _ z => by cases z⟩
  | _ => exact h1.elim
end
end Pz

namespace Pz
open PySem PySem.Spec PyProof.Rows L2
/-- an argument -/
def ArgOk (K : PySem.W.Frag) (C : Nat → Addr) (O : Addr → Prop) (H : Hp) (v : V) : Slot → Prop
  | .un => False
  | .fz d => Dp K (hide O H) v d
  | .bx b _ _ => ∃ a, v = .ref a ∧ O a ∧ BoxAt K (hide O H) H a b
  | .xc c => ∃ a, v = .ref a ∧ XcAt (hide O H) a (C c)
inductive ArgsR (K : PySem.W.Frag) (C : Nat → Addr) (O : Addr → Prop) (H : Hp) : List V → List Slot → Prop where
  | nil : ArgsR K C O H [] []
  | cons {v : V} {vs : List V} {s : Slot} {ss : List Slot} : ArgOk K C O H v s → ArgsR K C O H vs ss → ArgsR K C O H (v :: vs) (s :: ss)
def isBx : Slot → Bool
  | .bx _ _ _ => true
  | _ => false
/-- the address of the box at a place -/
def IoAt (vs : List V) (ss : List Slot) (i : Nat) (a : Addr) : Prop := (∃ s, ss[i]? = some s ∧ isBx s = true) ∧ vs[i]? = some (.ref a)
/-- what a call leaves of the heap -/
structure After (T : Addr → Prop) (io : Addr → Prop) (H H' : Hp) : Prop where
  fr : ∀ b o, H b = some o → ¬ io b → NoTbl o → H' b = some o
  th : ∀ b o, H b = some o → ∃ o', H' b = some o'
  tb : ∀ P, T P → GxR.TabG H' P
def RetR (K : PySem.W.Frag) (C : Nat → Addr) (O : Addr → Prop) (H H' : Hp) (y : V) : Val → Prop
  | .fz d => Dp K (hide O H') y d
  | .bx b => ∃ p, y = .ref p ∧ H p = none ∧ BoxAt K (hide (fun a => O a ∨ a = p) H') H' p b
  | .vw _ => False
  | .xc c => ∃ a, y = .ref a ∧ XcAt (hide O H') a (C c)
/-- what is hidden behind a call: the new box too -/
def Hid (O : Addr → Prop) (y : V) (v : Val) (a : Addr) : Prop := O a ∨ ∃ b, v = .bx b ∧ y = .ref a
def OutsR (K : PySem.W.Frag) (G H' : Hp) (vs : List V) (ios : List Nat) (outs : List Box) : Prop := ∀ (k i : Nat) (b : Box) (a : Addr), ios[k]? = some i → outs[k]? = some b → vs[i]? = some (.ref a) → BoxAt K G H' a b
def EndF (K : PySem.W.Frag) (C : Nat → Addr) (T O : Addr → Prop) (vs : List V) (ss : List Slot) (H : Hp) (Q : VK) (E : XK) : FR → Prop
  | .ok v outs => ∀ y H', After T (fun a => ∃ i, IoAt vs ss i a) H H' → RetR K C O H H' y v → OutsR K (hide (Hid O y v) H') H' vs (ioPos 0 ss) outs → outs.length = (ioPos 0 ss).length → Q y H'
  | .ex c outs => ∀ H', After T (fun a => ∃ i, IoAt vs ss i a) H H' → OutsR K (hide O H') H' vs (ioPos 0 ss) outs → outs.length = (ioPos 0 ss).length → E (.ref (C c)) none H'
  | .st => False
/-- what the def f promises, told by its run CN -/
def spF (K : PySem.W.Frag) (C : Nat → Addr) (T : Addr → Prop) (CN : Call) (f np : Nat) : Sp := fun vs H Q E => ∃ (O : Addr → Prop) (ss : List Slot), ArgsR K C O H vs ss ∧ (∀ i j a, IoAt vs ss i a → IoAt vs ss j a → i = j) ∧ (∀ a, O a → ∃ o, H a = some o) ∧ (∀ P, T P → GxR.TabG H P) ∧ vs.length = np ∧
  EndF K C T O vs ss H Q E (CN f ss)
section
variable {W : Wd} {Wx : WX} {σ σ' : L2.St} {ρ ρ' : Env} {H H' : Hp} {α β : Type} {X : Cx}
def GOk (W : Wd) (σ : L2.St) (ρ : Env) (H : Hp) (v : V) : Slot ⊕ Nat → Prop
  | .inl (.fz d) => Dp W.K (hide (Oc W σ ρ) H) v d
  | .inl (.xc c) => ∃ a, v = .ref a ∧ XcAt (hide (Oc W σ ρ) H) a (W.C c)
  | .inl _ => False
  | .inr i => σ[i]? = some (some v) ∧ ∃ b io lk, ρ[i]? = some (.bx b io lk)
inductive GsOk (W : Wd) (σ : L2.St) (ρ : Env) (H : Hp) : List V → List (Slot ⊕ Nat) → Prop where
  | nil : GsOk W σ ρ H [] []
  | cons {v : V} {vs : List V} {s : Slot ⊕ Nat} {ss : List (Slot ⊕ Nat)} : GOk W σ ρ H v s → GsOk W σ ρ H vs ss → GsOk W σ ρ H (v :: vs) (s :: ss)
theorem GOk.eff {v : V} {s : Slot ⊕ Nat} (h : GOk W σ ρ H v s) (e : Eff W σ ρ H ρ' H') : GOk W σ ρ' H' v s := by
  cases s with
  | inl s =>
    cases s with
    | fz d => exact dp_mono e.sub _ _ h
    | xc c =>
      obtain ⟨a, h1, φ, h2, h3⟩ := h
      exact ⟨a, h1, φ, e.sub _ _ h2 nt_ext, h3⟩
    | un => exact h
    | bx b io lk => exact h
  | inr i =>
    obtain ⟨h1, b, io, lk, h2⟩ := h
    obtain ⟨b', h3⟩ := e.kp i b io lk h2
    exact ⟨h1, b', io, lk, h3⟩
theorem GsOk.eff {vs : List V} {ss : List (Slot ⊕ Nat)} (h : GsOk W σ ρ H vs ss) (e : Eff W σ ρ H ρ' H') : GsOk W σ ρ' H' vs ss := by
  induction h with
  | nil => exact .nil
  | cons a _ ih => exact .cons (a.eff e) ih
def tA (W : Wd) (Wx : WX) (x : M (List (Slot ⊕ Nat))) : TA := fun σ H Q => ∃ ρ, EnvOk W σ H ρ ∧ Post W Wx σ ρ H (x ρ) fun a ρ' H' => ∀ vs, GsOk W σ ρ' H' vs a → Q vs H'
theorem g_nil {G : G0} : PA X [] (tA W Wx (evg G .nil)) := PA.weak pa_nil fun σ H Q h => by
  obtain ⟨ρ, e, h⟩ := h
  exact h H (Eff.refl e) [] .nil
theorem slot_ok {v : V} {x : Val} {s : Slot} (h : ValOk W σ ρ H v x) (k : x.slot = some s) : GOk W σ ρ H v (.inl s) := by
  cases x with
  | fz d => cases k; exact h
  | bx b =>
    cases k
    exact keep_ok (x := .bx b) h rfl
  | vw i => cases k
  | xc c => cases k; exact h
theorem g_cons {e : Expr} {es : List Expr} {te : Tm} {l : Ags} {G : G0} (he : PE X e (tD W Wx (ev G te))) (hl : PA X es (tA W Wx (evg G l))) (hs : noStar e = true) : PA X (e :: es) (tA W Wx (evg G (.cons te l))) := by
  refine PA.weak (pa_cons he hl (star_cons hs)) fun σ H Q h => ?_
  obtain ⟨ρ, e, h⟩ := h
  refine ⟨ρ, e, Post.run (x := ev G te) h fun x ρ1 H1 e1 h1 v ⟨hv, _⟩ => ?_⟩
  obtain ⟨s, hs, h1⟩ := h1.ofO
  refine ⟨ρ1, e1.env, Post.run (x := evg G l) h1 fun ss ρ2 H2 e2 h2 vs hvs => ?_⟩
  exact h2 H2 (Eff.refl e2.env) (v :: vs) (.cons ((slot_ok hv hs).eff e2) hvs)
theorem g_io {i : Nat} {x : Str} {p : Pos} {es : List Expr} {l : Ags} {G : G0} (hN : X.N[i]? = some x) (hv : Vis X.env.scope x) (hd : (x == ("__debug__" : Str)) = false) (hcd : (x == ("__classdict__" : Str)) = false) (hl : PA X es (tA W Wx (evg G l))) : PA X (.Name x p :: es) (tA W Wx (evg G (.io i l))) := by
  refine PA.weak (pa_cons (s_var (G := G) (W := W) (Wx := Wx) (pos := p) hN hv hd hcd) hl (star_cons rfl)) fun σ H Q h => ?_
  obtain ⟨ρ, e, h⟩ := h
  refine ⟨ρ, e, Post.run (x := getV i) h fun x ρ1 H1 e1 h1 v ⟨hv, _⟩ => ?_⟩
  obtain ⟨j, hj, h1⟩ := h1.ofO
  cases x with
  | vw k =>
    cases hj
    refine ⟨ρ1, e1.env, Post.run (x := evg G l) h1 fun ss ρ2 H2 e2 h2 vs hvs => ?_⟩
    exact h2 H2 (Eff.refl e2.env) (v :: vs) (.cons (GOk.eff (s := .inr j) hv e2) hvs)
  | _ => cases hj
theorem fill_args : ∀ {vs : List V} {as : List (Slot ⊕ Nat)} {ss : List Slot}, EnvOk W σ H ρ → GsOk W σ ρ H vs as → fillA ρ as = some ss → ArgsR W.K W.C (Oc W σ ρ) H vs ss
  | _, _, ss, e, .nil, h => by cases h; exact .nil
  | _, _, ss, e, .cons (v := v) (s := s) (ss := as) a t, h => by
    cases s with
    | inl s =>
      have h : (fillA ρ as).map (s :: ·) = some ss := h
      cases q : fillA ρ as with
      | none => rw [q] at h; cases h
      | some r =>
        rw [q] at h
        cases h
        refine .cons ?_ (fill_args e t q)
        cases s with
        | fz d => exact a
        | xc c => exact a
        | un => exact a.elim
        | bx b io lk => exact a.elim
    | inr i =>
      obtain ⟨h1, b, io, lk, h2⟩ := a
      have h : (match ρ[i]? with | some (.bx b _ false) => (fillA ρ as).map (.bx b true false :: ·) | _ => none) = some ss := h
      rw [h2] at h
      cases lk with
      | true => cases h
      | false =>
        simp only at h
        cases q : fillA ρ as with
        | none => rw [q] at h; cases h
        | some r =>
          rw [q] at h
          cases h
          refine .cons ?_ (fill_args e t q)
          obtain ⟨a, h3, h4⟩ := e.slot h2
          rw [h1] at h3
          have h3 : v = .ref a := Option.some.inj h3
          exact ⟨a, h3, .inr ⟨i, ⟨b, io, false, h2⟩, h3 ▸ h1⟩, h4⟩
theorem fill_io : ∀ {vs : List V} {as : List (Slot ⊕ Nat)} {ss : List Slot} {i : Nat} {a : Addr}, GsOk W σ ρ H vs as → fillA ρ as = some ss → IoAt vs ss i a → ∃ j, as[i]? = some (.inr j) ∧ OwnAt σ ρ j a
  | _, _, ss, i, c, .nil, h, ⟨⟨s, h1, _⟩, _⟩ => by cases h; simp at h1
  | _, _, ss, i, c, .cons (v := v) (s := s) (ss := as) a t, h, io => by
    cases s with
    | inl s =>
      have h : (fillA ρ as).map (s :: ·) = some ss := h
      cases q : fillA ρ as with
      | none => rw [q] at h; cases h
      | some r =>
        rw [q] at h
        cases h
        cases i with
        | zero =>
          obtain ⟨⟨s', h1, h2⟩, _⟩ := io
          simp at h1
          subst h1
          cases s with
          | bx b io lk => exact a.elim
          | _ => cases h2
        | succ i =>
          obtain ⟨⟨s', h1, h2⟩, h3⟩ := io
          obtain ⟨j, h4, h5⟩ := fill_io t q ⟨⟨s', by simpa using h1, h2⟩, by simpa using h3⟩
          exact ⟨j, by simpa using h4, h5⟩
    | inr j =>
      obtain ⟨h1, b, io', lk, h2⟩ := a
      have h : (match ρ[j]? with | some (.bx b _ false) => (fillA ρ as).map (.bx b true false :: ·) | _ => none) = some ss := h
      rw [h2] at h
      cases lk with
      | true => cases h
      | false =>
        simp only at h
        cases q : fillA ρ as with
        | none => rw [q] at h; cases h
        | some r =>
          rw [q] at h
          cases h
          cases i with
          | zero =>
            obtain ⟨_, h3⟩ := io
            simp at h3
            exact ⟨j, rfl, ⟨b, io', false, h2⟩, h3 ▸ h1⟩
          | succ i =>
            obtain ⟨⟨s', h4, h5⟩, h3⟩ := io
            obtain ⟨j', h6, h7⟩ := fill_io t q ⟨⟨s', by simpa using h4, h5⟩, by simpa using h3⟩
            exact ⟨j', by simpa using h6, h7⟩
theorem fill_pos : ∀ {vs : List V} {as : List (Slot ⊕ Nat)} {ss : List Slot} (n : Nat), GsOk W σ ρ H vs as → fillA ρ as = some ss → (ioPos n ss).length = (iosA as).length ∧ ∀ (k j : Nat) (a : Addr), (iosA as)[k]? = some j → σ[j]? = some (some (V.ref a)) → ∃ i : Nat, (ioPos n ss)[k]? = some (n + i) ∧ vs[i]? = some (.ref a)
  | _, _, ss, n, .nil, h => by
    cases h
    exact ⟨rfl, fun k j a z => by simp [iosA] at z⟩
  | _, _, ss, n, .cons (v := v) (vs := vs) (s := s) (ss := as) a t, h => by
    cases s with
    | inl s =>
      have h : (fillA ρ as).map (s :: ·) = some ss := h
      cases q : fillA ρ as with
      | none => rw [q] at h; cases h
      | some r =>
        rw [q] at h
        cases h
        obtain ⟨l, f⟩ := fill_pos (n + 1) t q
        have e1 : ioPos n (s :: r) = ioPos (n + 1) r := by
          cases s with
          | bx b io lk => exact a.elim
          | _ => rfl
        rw [e1]
        refine ⟨l, fun k j c z y => ?_⟩
        obtain ⟨i, h1, h2⟩ := f k j c z y
        exact ⟨i + 1, by rw [h1]; congr 1; omega, by simpa using h2⟩
    | inr j =>
      obtain ⟨h1, b, io', lk, h2⟩ := a
      have h : (match ρ[j]? with | some (.bx b _ false) => (fillA ρ as).map (.bx b true false :: ·) | _ => none) = some ss := h
      rw [h2] at h
      cases lk with
      | true => cases h
      | false =>
        simp only at h
        cases q : fillA ρ as with
        | none => rw [q] at h; cases h
        | some r =>
          rw [q] at h
          cases h
          obtain ⟨l, f⟩ := fill_pos (n + 1) t q
          refine ⟨congrArg Nat.succ l, fun k j' c z y => ?_⟩
          cases k with
          | zero =>
            have z : j = j' := by simpa [iosA] using z
            subst z
            rw [h1] at y
            cases y
            exact ⟨0, rfl, rfl⟩
          | succ k =>
            obtain ⟨i, h3, h4⟩ := f k j' c (by simpa [iosA] using z) y
            exact ⟨i + 1, by show (ioPos (n + 1) r)[k]? = _; rw [h3]; congr 1; omega, by simpa using h4⟩
theorem ios_mem : ∀ {as : List (Slot ⊕ Nat)} {i j : Nat}, as[i]? = some (.inr j) → j ∈ iosA as
  | [], _, _, h => by simp at h
  | .inl _ :: r, 0, _, h => by simp at h
  | .inr j' :: r, 0, j, h => by
    simp at h
    subst h
    exact List.mem_cons_self ..
  | .inl _ :: r, i + 1, j, h => ios_mem (as := r) (i := i) (by simpa using h)
  | .inr _ :: r, i + 1, j, h => List.mem_cons_of_mem _ (ios_mem (as := r) (i := i) (by simpa using h))
theorem ios_inj : ∀ {as : List (Slot ⊕ Nat)} {i k j : Nat}, (iosA as).Nodup → as[i]? = some (.inr j) → as[k]? = some (.inr j) → i = k
  | [], _, _, _, _, h, _ => by simp at h
  | .inl _ :: r, 0, _, _, _, h, _ => by simp at h
  | .inl _ :: r, _ + 1, 0, _, _, _, h => by simp at h
  | .inl _ :: r, i + 1, k + 1, j, n, h, g => congrArg Nat.succ (ios_inj (as := r) n (by simpa using h) (by simpa using g))
  | .inr _ :: r, 0, 0, _, _, _, _ => rfl
  | .inr j' :: r, 0, k + 1, j, n, h, g => by
    have h : j' = j := by simpa using h
    subst h
    exact absurd (ios_mem (as := r) (i := k) (by simpa using g)) (List.nodup_cons.mp n).1
  | .inr j' :: r, i + 1, 0, j, n, h, g => by
    have g : j' = j := by simpa using g
    subst g
    exact absurd (ios_mem (as := r) (i := i) (by simpa using h)) (List.nodup_cons.mp n).1
  | .inr _ :: r, i + 1, k + 1, j, n, h, g => congrArg Nat.succ (ios_inj (as := r) (List.nodup_cons.mp n).2 (by simpa using h) (by simpa using g))
def out1 (r : Env) (p : Nat × Box) : Env := match r[p.1]? with
  | some (Slot.bx _ io lk) => r.set p.1 (.bx p.2 io lk)
  | _ => r
theorem out1_get (r : Env) (p : Nat × Box) (j : Nat) : (out1 r p)[j]? = match r[j]? with
    | some (.bx b io lk) => if p.1 = j then some (.bx p.2 io lk) else some (.bx b io lk)
    | s => s := by
  unfold out1
  by_cases h : p.1 = j
  · rw [h]
    cases q : r[j]? with
    | none => simp only [q]
    | some s =>
      cases s with
      | bx b io lk =>
        obtain ⟨l, _⟩ := List.getElem?_eq_some_iff.mp q
        simp only
        rw [setE_get, if_pos rfl, if_pos l, if_pos trivial]
      | _ => simp only [q]
  · cases q : r[p.1]? with
    | none =>
      simp only
      cases q2 : r[j]? with
      | none => rfl
      | some s => cases s <;> simp only [if_neg h]
    | some s =>
      cases s with
      | bx b io lk =>
        simp only
        rw [setE_get, if_neg h]
        cases q2 : r[j]? with
        | none => rfl
        | some s => cases s <;> simp only [if_neg h]
      | _ =>
        simp only
        cases q2 : r[j]? with
        | none => rfl
        | some s => cases s <;> simp only [if_neg h]
theorem outs_eq (is : List Nat) (outs : List Box) (ρ : Env) : outsA is outs ρ = (is.zip outs).foldl out1 ρ := rfl
theorem outs_len : ∀ (l : List (Nat × Box)) (ρ : Env), (l.foldl out1 ρ).length = ρ.length
  | [], _ => rfl
  | p :: l, ρ => by
    rw [List.foldl_cons, outs_len]
    unfold out1
    split
    · rw [List.length_set]
    · rfl
theorem outs_off : ∀ (is : List Nat) (outs : List Box) (ρ : Env) (j : Nat), j ∉ is → (outsA is outs ρ)[j]? = ρ[j]?
  | [], _, _, _, _ => rfl
  | _ :: _, [], _, _, _ => rfl
  | i :: is, b :: outs, ρ, j, n => by
    show (outsA is outs (out1 ρ (i, b)))[j]? = _
    rw [outs_off is outs _ j fun z => n (List.mem_cons_of_mem _ z), out1_get]
    have : i ≠ j := fun z => n (z ▸ List.mem_cons_self ..)
    cases q : ρ[j]? with
    | none => rfl
    | some s => cases s <;> simp only [if_neg this]
theorem outs_at : ∀ (is : List Nat) (outs : List Box) (ρ : Env) (k j : Nat) (b b0 : Box) (io lk : Bool), is.Nodup → is[k]? = some j → outs[k]? = some b → ρ[j]? = some (.bx b0 io lk) → (outsA is outs ρ)[j]? = some (.bx b io lk)
  | [], _, _, _, _, _, _, _, _, _, h, _, _ => by simp at h
  | _ :: _, [], _, _, _, _, _, _, _, _, _, h, _ => by simp at h
  | i :: is, b' :: outs, ρ, 0, j, b, b0, io, lk, n, h1, h2, h3 => by
    have h1 : i = j := by simpa using h1
    have h2 : b' = b := by simpa using h2
    subst h1 h2
    show (outsA is outs (out1 ρ (i, b')))[i]? = _
    rw [outs_off is outs _ i (List.nodup_cons.mp n).1, out1_get, h3]
    simp only [if_pos]
  | i :: is, b' :: outs, ρ, k + 1, j, b, b0, io, lk, n, h1, h2, h3 => by
    show (outsA is outs (out1 ρ (i, b')))[j]? = _
    have hj : j ∈ is := List.mem_of_getElem? (by simpa using h1)
    have hij : i ≠ j := fun z => (List.nodup_cons.mp n).1 (z ▸ hj)
    refine outs_at is outs _ k j b b0 io lk (List.nodup_cons.mp n).2 (by simpa using h1) (by simpa using h2) ?_
    rw [out1_get, h3]
    simp only [if_neg hij]
theorem outs_kind (is : List Nat) (outs : List Box) (ρ : Env) (j : Nat) : (∀ s, ρ[j]? = some s → isBx s = false → (outsA is outs ρ)[j]? = some s) ∧ (∀ b io lk, ρ[j]? = some (.bx b io lk) → ∃ b', (outsA is outs ρ)[j]? = some (.bx b' io lk)) ∧ (ρ[j]? = none → (outsA is outs ρ)[j]? = none) := by
  rw [outs_eq]
  generalize is.zip outs = l
  induction l generalizing ρ with
  | nil => exact ⟨fun s h _ => h, fun b io lk h => ⟨b, h⟩, fun h => h⟩
  | cons p l ih =>
    rw [List.foldl_cons]
    obtain ⟨a, b, c⟩ := ih (out1 ρ p)
    refine ⟨fun s h k => a s ?_ k, fun b0 io lk h => ?_, fun h => c ?_⟩
    · rw [out1_get, h]
      cases s with
      | bx b io lk => cases k
      | _ => rfl
    · by_cases hp : p.1 = j
      · exact b p.2 io lk (by rw [out1_get, h]; simp only [if_pos hp])
      · exact b b0 io lk (by rw [out1_get, h]; simp only [if_neg hp])
    · rw [out1_get, h]
/-- the boxes' new contents, the rest as it was -/
theorem call_eff {is : List Nat} {outs : List Box} {P1 : Addr → Prop} {ioP : Addr → Prop} (e : EnvOk W σ H ρ) (A : After W.T ioP H H') (nd : is.Nodup) (len : outs.length = is.length)
    (hio : ∀ a, ioP a ↔ ∃ k j : Nat, is[k]? = some j ∧ OwnAt σ ρ j a) (his : ∀ k j : Nat, is[k]? = some j → ∃ b io lk, ρ[j]? = some (Slot.bx b io lk)) (hP : ∀ p, P1 p → H p = none)
    (hb : ∀ (k j : Nat) (b : Box) (a : Addr), is[k]? = some j → outs[k]? = some b → OwnAt σ ρ j a → BoxAt W.K (hide (fun a => Oc W σ ρ a ∨ P1 a) H') H' a b) :
    Eff W σ ρ H (outsA is outs ρ) H' ∧ (∀ a, Own σ (outsA is outs ρ) a ↔ Own σ ρ a) ∧ ∀ (i : Nat) (s : Slot), (outsA is outs ρ)[i]? = some s → SlotOk W (hide (fun a => Oc W σ ρ a ∨ P1 a) H') H' (σ[i]?.join) s := by
  have own1 : ∀ j a, OwnAt σ (outsA is outs ρ) j a ↔ OwnAt σ ρ j a := fun j a => by
    obtain ⟨k1, k2, k3⟩ := outs_kind is outs ρ j
    constructor
    · rintro ⟨⟨b, io, lk, h1⟩, h2⟩
      refine ⟨?_, h2⟩
      cases q : ρ[j]? with
      | none => rw [k3 q] at h1; cases h1
      | some s =>
        cases s with
        | bx b io lk => exact ⟨b, io, lk, rfl⟩
        | un => rw [k1 _ q rfl] at h1; cases h1
        | fz d => rw [k1 _ q rfl] at h1; cases h1
        | xc c => rw [k1 _ q rfl] at h1; cases h1
    · rintro ⟨⟨b, io, lk, h1⟩, h2⟩
      obtain ⟨b', h3⟩ := k2 b io lk h1
      exact ⟨⟨b', io, lk, h3⟩, h2⟩
  have own2 : ∀ a, Own σ (outsA is outs ρ) a ↔ Own σ ρ a := fun a => ⟨fun ⟨j, h⟩ => ⟨j, (own1 j a).mp h⟩, fun ⟨j, h⟩ => ⟨j, (own1 j a).mpr h⟩⟩
  have ioOwn : ∀ a, ioP a → Own σ ρ a := fun a h => by
    obtain ⟨k, j, _, h⟩ := (hio a).mp h
    exact ⟨j, h⟩
  have cell : ∀ b o, H b = some o → ¬ Own σ ρ b → NoTbl o → H' b = some o := fun b o h n t => A.fr b o h (fun z => n (ioOwn b z)) t
  have sb : Sub (hide (Oc W σ ρ) H) (hide (fun a => Oc W σ ρ a ∨ P1 a) H') := fun b o h t => by
    obtain ⟨n, h⟩ := hide_some.mp h
    refine hide_some.mpr ⟨fun z => ?_, cell b o h (fun z => n (.inr z)) t⟩
    rcases z with z | z
    · exact n z
    · rw [hP b z] at h
      cases h
  have slots : ∀ (i : Nat) (s : Slot), (outsA is outs ρ)[i]? = some s → SlotOk W (hide (fun a => Oc W σ ρ a ∨ P1 a) H') H' (σ[i]?.join) s := fun i s h => by
    by_cases hi : i ∈ is
    · obtain ⟨k, hk⟩ := List.mem_iff_getElem?.mp hi
      obtain ⟨b0, io, lk, h0⟩ := his k i hk
      have hk2 : k < outs.length := by
        have := (List.getElem?_eq_some_iff.mp hk).1
        omega
      have h1 := outs_at is outs ρ k i outs[k] b0 io lk nd hk (List.getElem?_eq_getElem hk2) h0
      rw [h1] at h
      cases h
      obtain ⟨a, h2, _⟩ := e.slot h0
      exact ⟨a, h2, hb k i _ a hk (List.getElem?_eq_getElem hk2) ⟨⟨b0, io, lk, h0⟩, join_some h2⟩⟩
    · rw [outs_off is outs ρ i hi] at h
      refine (e.sl i s h).mono sb fun b io lk hs a o hv ho ht => A.fr a o ho (fun z => ?_) ht
      subst hs
      obtain ⟨k, j, hk, hj⟩ := (hio a).mp z
      have := e.inj j i a hj ⟨⟨b, io, lk, h⟩, join_some hv⟩
      exact hi (this ▸ List.mem_of_getElem? hk)
  have weak : Sub (hide (fun a => Oc W σ ρ a ∨ P1 a) H') (hide (Oc W σ (outsA is outs ρ)) H') := hide_mono fun a z => z.elim (fun z => .inl (.inl z)) fun z => .inl (.inr ((own2 a).mp z))
  refine ⟨⟨⟨cell, A.th⟩, ⟨by rw [outs_eq, outs_len]; exact e.len, fun b o h n t => ?_, fun b o h => ?_, fun i s h => (slots i s h).mono weak fun _ _ _ _ _ _ _ y _ => y, fun a h => e.own a ((own2 a).mp h), fun i b lk a h1 h2 => ?_, fun i b lk a h1 h2 => ?_,
    fun i j a h1 h2 => e.inj i j a ((own1 i a).mp h1) ((own1 j a).mp h2), fun a h => ?_, e.sub, A.tb⟩, fun a h => (own2 a).mp h, fun i b io lk h => (outs_kind is outs ρ i).2.1 b io lk h⟩, own2, slots⟩
  · refine A.fr b o (e.fr b o h n t) (fun z => ?_) t
    rcases e.own b (ioOwn b z) with y | y
    · exact n y
    · rw [y] at h
      cases h
  · obtain ⟨o1, h1⟩ := e.th b o h
    exact A.th b o1 h1
  · have k := (own1 i a).mp ⟨⟨b, true, lk, h1⟩, h2⟩
    obtain ⟨⟨b0, io0, lk0, h0⟩, _⟩ := k
    obtain ⟨b', h3⟩ := (outs_kind is outs ρ i).2.1 b0 io0 lk0 h0
    rw [h1] at h3
    cases h3
    exact e.io i b0 lk a h0 h2
  · have k := (own1 i a).mp ⟨⟨b, false, lk, h1⟩, h2⟩
    obtain ⟨⟨b0, io0, lk0, h0⟩, _⟩ := k
    obtain ⟨b', h3⟩ := (outs_kind is outs ρ i).2.1 b0 io0 lk0 h0
    rw [h1] at h3
    cases h3
    exact e.nio i b0 lk a h0 h2
  · obtain ⟨o, h⟩ := e.tr a h
    exact A.th a o h
theorem gs_len {vs : List V} {as : List (Slot ⊕ Nat)} (h : GsOk W σ ρ H vs as) : vs.length = as.length := by
  induction h with
  | nil => rfl
  | cons _ _ ih => exact congrArg Nat.succ ih
theorem ios_box : ∀ {vs : List V} {as : List (Slot ⊕ Nat)} {k j : Nat}, GsOk W σ ρ H vs as → (iosA as)[k]? = some j → ∃ b io lk, ρ[j]? = some (.bx b io lk)
  | _, _, k, j, .nil, h => by simp [iosA] at h
  | _, _, k, j, .cons (s := s) a t, h => by
    cases s with
    | inl s => exact ios_box t h
    | inr i =>
      cases k with
      | zero =>
        have h : i = j := by simpa [iosA] using h
        subst h
        exact a.2
      | succ k => exact ios_box (k := k) t (by simpa [iosA] using h)
theorem ios_pos : ∀ {as : List (Slot ⊕ Nat)} {k j : Nat}, (iosA as)[k]? = some j → ∃ i : Nat, as[i]? = some (.inr j)
  | [], _, _, h => by simp [iosA] at h
  | .inl _ :: r, k, j, h => by
    obtain ⟨i, h⟩ := ios_pos (as := r) h
    exact ⟨i + 1, by simpa using h⟩
  | .inr j' :: r, 0, j, h => by
    have h : j' = j := by simpa [iosA] using h
    exact ⟨0, by rw [h]; rfl⟩
  | .inr _ :: r, k + 1, j, h => by
    obtain ⟨i, h⟩ := ios_pos (as := r) (k := k) (by simpa [iosA] using h)
    exact ⟨i + 1, by simpa using h⟩
def Ags.len : Ags → Nat
  | .nil => 0
  | .io _ l => l.len + 1
  | .cons _ l => l.len + 1
theorem evg_len {G : G0} : ∀ (l : Ags) (ρ : Env) (as : List (Slot ⊕ Nat)) (ρ' : Env), evg G l ρ = .ok as ρ' → as.length = l.len
  | .nil, ρ, as, ρ', h => by
    cases h
    rfl
  | .io i l, ρ, as, ρ', h => by
    obtain ⟨x, ρ1, _, h⟩ := bind_ok (x := getV i) h
    obtain ⟨j, ρ2, _, h⟩ := bind_ok (x := M.ofO (asVw x)) h
    obtain ⟨r, ρ3, h3, h⟩ := bind_ok (x := evg G l) h
    cases h
    exact congrArg Nat.succ (evg_len l _ _ _ h3)
  | .cons a l, ρ, as, ρ', h => by
    obtain ⟨x, ρ1, _, h⟩ := bind_ok (x := ev G a) h
    obtain ⟨j, ρ2, _, h⟩ := bind_ok (x := M.ofO x.slot) h
    obtain ⟨r, ρ3, h3, h⟩ := bind_ok (x := evg G l) h
    cases h
    exact congrArg Nat.succ (evg_len l _ _ _ h3)
theorem args_len {K : PySem.W.Frag} {C : Nat → Addr} {O : Addr → Prop} {vs : List V} {ss : List Slot} (h : ArgsR K C O H vs ss) : vs.length = ss.length := by
  induction h with
  | nil => rfl
  | cons _ _ ih => exact congrArg Nat.succ ih
/-- from the model's call to what the def promises -/
theorem call_meets {fi np : Nat} {CN : Call} {as : List (Slot ⊕ Nat)} {vs : List V} {Q : VK} (e : EnvOk W σ H ρ) (g : GsOk W σ ρ H vs as) (hn : vs.length = np) (h : Post W Wx σ ρ H (callM CN fi as ρ) (Fin_ W σ Q)) : spF W.K W.C W.T CN fi np vs H Q (WE Wx σ) := by
  unfold callM at h
  cases q : fillA ρ as with
  | none => rw [q] at h; exact h.elim
  | some ss =>
    rw [q] at h
    simp only at h
    by_cases nd : (iosA as).Nodup
    · rw [if_pos nd] at h
      have pos := fill_pos 0 g q
      have iff1 : ∀ a, (∃ i, IoAt vs ss i a) ↔ ∃ k j : Nat, (iosA as)[k]? = some j ∧ OwnAt σ ρ j a := fun a => by
        constructor
        · rintro ⟨i, hi⟩
          obtain ⟨j, h1, h2⟩ := fill_io g q hi
          obtain ⟨k, hk⟩ := List.mem_iff_getElem?.mp (ios_mem h1)
          exact ⟨k, j, hk, h2⟩
        · rintro ⟨k, j, hk, hj⟩
          obtain ⟨i, hi⟩ := ios_pos hk
          -- the place i of vs is that box
          have : ∀ {vs : List V} {as : List (Slot ⊕ Nat)} {ss : List Slot} {i : Nat}, GsOk W σ ρ H vs as → fillA ρ as = some ss → as[i]? = some (.inr j) → IoAt vs ss i a := by
            intro vs as ss i g
            induction g generalizing ss i with
            | nil => intro _ h; simp at h
            | cons a1 t ih =>
              rename_i v0 vs0 s0 as0
              intro hf hi
              cases s0 with
              | inl s =>
                have hf : (fillA ρ as0).map (s :: ·) = some ss := hf
                cases q : fillA ρ as0 with
                | none => rw [q] at hf; cases hf
                | some r =>
                  rw [q] at hf
                  cases hf
                  cases i with
                  | zero => simp at hi
                  | succ i =>
                    obtain ⟨⟨s', h1, h2⟩, h3⟩ := ih q (by simpa using hi)
                    exact ⟨⟨s', by simpa using h1, h2⟩, by simpa using h3⟩
              | inr j0 =>
                obtain ⟨h1, b, io', lk, h2⟩ := a1
                have hf : (match ρ[j0]? with | some (.bx b _ false) => (fillA ρ as0).map (.bx b true false :: ·) | _ => none) = some ss := hf
                rw [h2] at hf
                cases lk with
                | true => cases hf
                | false =>
                  simp only at hf
                  cases q : fillA ρ as0 with
                  | none => rw [q] at hf; cases hf
                  | some r =>
                    rw [q] at hf
                    cases hf
                    cases i with
                    | zero =>
                      have hi : j0 = j := by simpa using hi
                      subst hi
                      have := hj.2
                      rw [h1] at this
                      have h3 : v0 = .ref a := Option.some.inj (Option.some.inj this)
                      exact ⟨⟨_, rfl, rfl⟩, by rw [h3]; rfl⟩
                    | succ i =>
                      obtain ⟨⟨s', h1, h2⟩, h3⟩ := ih q (by simpa using hi)
                      exact ⟨⟨s', by simpa using h1, h2⟩, by simpa using h3⟩
          exact ⟨i, this g q hi⟩
      refine ⟨Oc W σ ρ, ss, fill_args e g q, fun i j a h1 h2 => ?_, fun a z => ?_, e.tb, hn, ?_⟩
      · obtain ⟨j1, y1, z1⟩ := fill_io g q h1
        obtain ⟨j2, y2, z2⟩ := fill_io g q h2
        have := e.inj j1 j2 a z1 z2
        subst this
        exact ios_inj nd y1 y2
      · rcases z with z | ⟨i, ⟨b, io, lk, z⟩, y⟩
        · exact e.tr a z
        · obtain ⟨a', h1, h2⟩ := e.slot z
          rw [y] at h1
          have h1 : V.ref a = V.ref a' := Option.some.inj h1
          injection h1 with h1
          subst h1
          cases b with
          | l ds =>
            obtain ⟨xs, h3, _⟩ := h2
            exact ⟨_, h3⟩
      · cases hc : CN fi ss with
        | st => rw [hc] at h; exact h.elim
        | ex c outs =>
          rw [hc] at h
          simp only at h
          intro H' A O len
          by_cases hl : outs.length = (iosA as).length
          · rw [if_pos hl] at h
            obtain ⟨ef, _, _⟩ := call_eff (P1 := fun _ => False) e A nd hl iff1 (fun k j hk => ios_box g hk) (fun _ z => z.elim) fun k j b a hk hb hj => by
              obtain ⟨i, h1, h2⟩ := pos.2 k j a hk hj.2
              rw [Nat.zero_add] at h1
              exact (O k i b a h1 hb h2).mono (hide_mono fun a z => z.elim id False.elim) fun _ y _ => y
            exact h H' ef
          · rw [if_neg hl] at h
            exact h.elim
        | ok v outs =>
          rw [hc] at h
          simp only at h
          intro y H' A R O len
          by_cases hl : outs.length = (iosA as).length
          · rw [if_pos hl] at h
            have hfr : ∀ p, (∃ b, v = .bx b ∧ y = .ref p) → H p = none := fun p ⟨b, hv, hy⟩ => by
              subst hv
              obtain ⟨p', h1, h2, _⟩ := R
              rw [hy] at h1
              injection h1 with h1
              rw [h1]
              exact h2
            obtain ⟨ef, ow, sl⟩ := call_eff (P1 := fun p => ∃ b, v = .bx b ∧ y = .ref p) e A nd hl iff1 (fun k j hk => ios_box g hk) hfr fun k j b a hk hb hj => by
              obtain ⟨i, h1, h2⟩ := pos.2 k j a hk hj.2
              rw [Nat.zero_add] at h1
              exact (O k i b a h1 hb h2).mono (.refl _) fun _ y _ => y
            have oc : ∀ a, Oc W σ (outsA (iosA as) outs ρ) a ↔ Oc W σ ρ a := fun a => ⟨fun z => z.imp id (ow a).mp, fun z => z.imp id (ow a).mpr⟩
            refine h H' ef y ⟨?_, fun b hv p hy => ?_⟩
            · cases v with
              | fz d => exact dp_mono (hide_mono fun a z => (oc a).mp z) _ _ R
              | vw i => exact R.elim
              | xc c =>
                obtain ⟨a, h1, φ, h2, h3⟩ := R
                exact ⟨a, h1, φ, hide_mono (fun a z => (oc a).mp z) _ _ h2 nt_ext, h3⟩
              | bx b =>
                obtain ⟨p, h1, h2, h3⟩ := R
                obtain ⟨f0, f1⟩ := e.fresh h2
                exact ⟨p, h1, f0, fun z => f1 ((oc p).mp z), h3.mono (hide_mono fun a z => z.imp (oc a).mp id) fun _ y _ => y⟩
            · intro i s hs
              refine (sl i s hs).mono (hide_mono fun a z => ?_) fun _ _ _ _ _ _ _ y _ => y
              rcases z with z | z
              · exact .inl ((oc a).mp z)
              · exact .inr ⟨b, hv, by rw [hy, z]⟩
          · rw [if_neg hl] at h
            exact h.elim
    · rw [if_neg nd] at h
      exact h.elim
theorem s_call {fi np : Nat} {f : Addr} {fd : FuncData} {ps : List Str} {x : Str} {p pos : Pos} {e : Expr} {es : List Expr} {l : Ags} {G : G0} {k : Nat} (hF : FnOk X.prog X.w X.K X.mg X.base (L2N.CX X.prog X.w) k f fd ps (spF W.K W.C W.T G.call fi np)) (hnp : l.len = np)
    (hr : Room k X.A) (hg : Gl X x) (hm : X.mg x = some (.ref f)) (hk : PySem.W.keepIn X.K (.ref f) = true) (hb : L2.Binds X.K fd ps []) (tk : L2N.Takes X Wx) (hl : PA X (e :: es) (tA W Wx (evg G l))) (hd : (x == ("__debug__" : Str)) = false) (hn : (e :: es).all noStar = true) :
    PE X (.Call (.Name x p) (e :: es) [] pos) (tD W Wx (ev G (.call fi l))) := by
  have hn' := hn
  rw [List.all_cons, Bool.and_eq_true] at hn'
  refine PE.weak (pe_callS hF hr hg hm hk hb (fun σ => L2N.passAt tk σ) hl hd (star_cons hn'.1) (star_all hn'.2)) fun σ H Q ⟨ρ, e0, h⟩ => ?_
  refine ⟨ρ, e0, Post.runE (x := evg G l) h fun as ρ1 H1 ho e1 h1 vs g => call_meets e1.env g ?_ h1⟩
  rw [gs_len g, evg_len l _ _ _ ho, hnp]
end
end Pz

namespace Pz
open PySem PySem.Spec PyProof.Rows L2
def PostS (W : Wd) (Wx : WX) (D : Ends) : Res Fl → Prop
  | .ok .nx ρ => ∀ σ H, EnvOk W σ H ρ → D.nx σ H
  | .ok .bk ρ => ∀ σ H, EnvOk W σ H ρ → D.bk σ H
  | .ok .ct ρ => ∀ σ H, EnvOk W σ H ρ → D.ct σ H
  | .ok (.rt v) ρ => ∀ σ H y, EnvOk W σ H ρ → ValOkS W σ ρ H y v → D.rt y H
  | .ex c ρ => ∀ σ H, EnvOk W σ H ρ → Wx (.ref (W.C c)) none σ H
  | .st => False
def tX (W : Wd) (Wx : WX) (x : M Fl) : TS := fun D σ H => ∃ ρ, EnvOk W σ H ρ ∧ PostS W Wx D (x ρ)
section
variable {W : Wd} {Wx : WX} {σ σ' : L2.St} {ρ ρ' : Env} {H H' : Hp} {α β : Type} {X : Cx}
theorem PostS.run {x : M α} {f : α → M Fl} {D : Ends} {Q : α → Env → Hp → Prop} (h : PostS W Wx D (M.bind x f ρ)) (k : ∀ a ρ1 H1, Eff W σ ρ H ρ1 H1 → PostS W Wx D (f a ρ1) → Q a ρ1 H1) : Post W Wx σ ρ H (x ρ) Q := by
  unfold M.bind at h
  cases q : x ρ with
  | ok a ρ1 => rw [q] at h; exact fun H1 e => k a ρ1 H1 e h
  | ex c ρ1 => rw [q] at h; exact fun H1 e => h σ H1 e.env
  | st => rw [q] at h; exact h.elim
theorem PostS.frz {b : List Nat} {f : Unit → M Fl} {D : Ends} (e : EnvOk W σ H ρ) (h : PostS W Wx D (M.bind (frz b) f ρ)) : ∃ ρ2, EnvOk W σ H ρ2 ∧ PostS W Wx D (f () ρ2) := by
  unfold M.bind at h
  rcases frz_ok (b := b) e with q | ⟨ρ2, q, e2⟩
  · rw [q] at h; exact h.elim
  · rw [q] at h; exact ⟨ρ2, e2, h⟩
theorem PostS.ofO {o : Option α} {f : α → M Fl} {D : Ends} (h : PostS W Wx D (M.bind (M.ofO o) f ρ)) : ∃ a, o = some a ∧ PostS W Wx D (f a ρ) := by
  cases o with
  | none => exact h.elim
  | some a => exact ⟨a, rfl, h⟩
theorem x_nil {G : G0} : PSs X [] (tX W Wx (execs G .nil)) := PSs.weak pss_nil fun D σ H ⟨ρ, e, h⟩ => h σ H e
theorem x_cons {st : Stmt} {rest : List Stmt} {a : Sm} {l : Sms} {G : G0} (hs : PS X st (tX W Wx (exec G a))) (hr : PSs X rest (tX W Wx (execs G l))) : PSs X (st :: rest) (tX W Wx (execs G (.cons a l))) := by
  refine PSs.weak (pss_cons hs hr) fun D σ H ⟨ρ, e, h⟩ => ⟨ρ, e, ?_⟩
  have h : PostS W Wx D (M.bind (exec G a) (fun r => match r with | .nx => execs G l | r => M.pure r) ρ) := h
  unfold M.bind at h
  cases q : exec G a ρ with
  | st => rw [q] at h; exact h.elim
  | ex c ρ1 => rw [q] at h; exact h
  | ok r ρ1 =>
    rw [q] at h
    cases r with
    | nx => exact fun σ1 H1 e1 => ⟨ρ1, e1, h⟩
    | bk => exact h
    | ct => exact h
    | rt v => exact h
theorem x_put {e : Expr} {te : Tm} {te' : TE} {i : Nat} {b : List Nat} {G : G0} (hw : ∀ σ H Q, tD W Wx (ev G te) σ H Q → te' σ H Q) : ∀ D σ H, tX W Wx (exec G (.asg b i te)) D σ H → tAsg te' (gName i) D σ H := fun D σ H ⟨ρ, e, h⟩ => by
  have h : PostS W Wx D (M.bind (frz b) (fun _ => M.bind (ev G te) fun x => M.bind (putV i x) fun _ => M.pure .nx) ρ) := h
  obtain ⟨ρ2, e2, h⟩ := h.frz e
  refine hw _ _ _ ⟨ρ2, e2, PostS.run (x := ev G te) h fun x ρ3 H3 e3 h3 v hv => ?_⟩
  unfold M.bind at h3
  rcases put_ok (i := i) e3.env hv with q | ⟨ρ4, q, e4⟩
  · rw [q] at h3; exact h3.elim
  · rw [q] at h3
    exact h3 _ _ e4
theorem x_set {e : Expr} {te : Tm} {i : Nat} {b : List Nat} {x : Str} {pos pos' : Pos} {G : G0} (hN : X.N.Nodup) (hi : X.N[i]? = some x) (hl : L2.Loc X.env.scope x) (he : PE X e (tD W Wx (ev G te))) (hs : swapsWith e (some (.Name x pos')) pos.line X.env = pure false) (hf : X.fn x = true ∨ X.env.scope.names.lookup x = some .local) :
    PS X (.Assign [.Name x pos'] e pos) (tX W Wx (exec G (.asg b i te))) := PS.weak (ps_set hN hi hl he hs hf) (x_put (e := e) fun _ _ _ h => h)
theorem x_setLc0 {y : Str} {py : Pos} {i : Nat} {b : List Nat} {elt tg iter : Expr} {scope : Scope} {ownP : List (Str × Nat)} {pos spos : Pos} {t : Tgt} {it : It} {te : Tm} {G : G0} (hc : X.calm = true) (hN : X.N.Nodup) (hi : X.N[i]? = some y) (hl : X.env.scope.names.lookup y = some .local)
    (hsw : swapsWith (.ListComp elt [{ target := tg, iter := iter, ifs := [], is_async := 0 }] scope pos) (some (.Name y py)) spos.line X.env = pure true) (hI : PI X tg iter (tI W Wx (evi G it))) (hb : BlkOk X.N X.env.scope scope ownP)
    (hg : ∀ s H C cl fp, PG (X.blk s H scope (compEnvC scope cl C X.env) fp) tg (gT W.K t)) (he : ∀ s H C cl fp W', W.like W' → PE (X.blk s H scope (compEnvC scope cl C X.env) fp) elt (tD W' noX (ev G te)))
    (ht : ∀ i ∈ t.sets, i ∈ ownP.map (·.2)) (hs : notSet iter = true) : PS X (.Assign [.Name y py] (.ListComp elt [{ target := tg, iter := iter, ifs := [], is_async := 0 }] scope pos) spos) (tX W Wx (exec G (.asg b i (.cmp0 (ownP.map (·.2)) t it te)))) :=
  PS.weak (ps_setLc hc hN hi hl hsw hI hb hg (fun _ _ _ _ _ => pts_yes) (fun s H C cl fp => pe_all (he s H C cl fp)) (folded_ok hs)) (x_put (e := elt) fun _ _ _ h => lc_reads (wt := M.pure true) ht h)
theorem x_setLc1 {y : Str} {py : Pos} {i : Nat} {b : List Nat} {elt tg iter tst : Expr} {scope : Scope} {ownP : List (Str × Nat)} {pos spos : Pos} {t : Tgt} {it : It} {te tw : Tm} {G : G0} (hc : X.calm = true) (hN : X.N.Nodup) (hi : X.N[i]? = some y) (hl : X.env.scope.names.lookup y = some .local)
    (hsw : swapsWith (.ListComp elt [{ target := tg, iter := iter, ifs := [tst], is_async := 0 }] scope pos) (some (.Name y py)) spos.line X.env = pure true) (hI : PI X tg iter (tI W Wx (evi G it))) (hb : BlkOk X.N X.env.scope scope ownP)
    (hg : ∀ s H C cl fp, PG (X.blk s H scope (compEnvC scope cl C X.env) fp) tg (gT W.K t)) (hw : ∀ s H C cl fp W', W.like W' → PT (X.blk s H scope (compEnvC scope cl C X.env) fp) tst (tT W' noX (evT G tw))) (he : ∀ s H C cl fp W', W.like W' → PE (X.blk s H scope (compEnvC scope cl C X.env) fp) elt (tD W' noX (ev G te)))
    (ht : ∀ i ∈ t.sets, i ∈ ownP.map (·.2)) (hs : notSet iter = true) : PS X (.Assign [.Name y py] (.ListComp elt [{ target := tg, iter := iter, ifs := [tst], is_async := 0 }] scope pos) spos) (tX W Wx (exec G (.asg b i (.cmp1 (ownP.map (·.2)) t it tw te)))) :=
  PS.weak (ps_setLc hc hN hi hl hsw hI hb hg (fun s H C cl fp => pts_one (pt_all (hw s H C cl fp))) (fun s H C cl fp => pe_all (he s H C cl fp)) (folded_ok hs)) (x_put (e := elt) fun _ _ _ h => lc_reads (wt := evT G tw) ht h)
theorem x_unp {es : List Expr} {kt : Nat} {pt : Pos} {e : Expr} {te : Tm} {l : List Nat} {b : List Nat} {pos : Pos} {G : G0} (hg : PG X (.Tuple es kt pt) (gTup W.K l.length (gL l))) (he : PE X e (tD W Wx (ev G te))) (hs : swapsWithSole [.Tuple es kt pt] e pos.line X.env = pure false) (hs2 : swappedStores [.Tuple es kt pt] e X.env = pure none) :
    PS X (.Assign [.Tuple es kt pt] e pos) (tX W Wx (exec G (.unp b l te))) := by
  refine PS.weak (ps_asg he hg hs hs2 rfl) fun D σ H ⟨ρ, e, h⟩ => ?_
  have h : PostS W Wx D (M.bind (frz b) (fun _ => M.bind (ev G te) fun x => match x with
      | .fz (.tuple ds) => M.bind (putL l ds) fun _ => M.pure .nx
      | _ => M.stuck) ρ) := h
  obtain ⟨ρ2, e2, h⟩ := h.frz e
  refine ⟨ρ2, e2, PostS.run (x := ev G te) h fun x ρ3 H3 e3 h3 v ⟨hv, _⟩ => ?_⟩
  cases x with
  | fz d =>
    cases d with
    | tuple ds =>
      simp only at h3
      obtain ⟨a, vs, rfl, S, DD⟩ := sqt_dp hv
      unfold M.bind at h3
      cases q : putL l ds ρ3 with
      | st => rw [q] at h3; exact h3.elim
      | ex c ρ4 =>
        exact absurd q (by
          have : ∀ (l : List Nat) (ds : List PyData) (ρ : Env), putL l ds ρ ≠ .ex c ρ4 := by
            intro l
            induction l with
            | nil => intro ds ρ h; cases ds <;> cases h
            | cons i l ih =>
              intro ds ρ h
              cases ds with
              | nil => cases h
              | cons d ds =>
                have h : M.bind (setS i (.fz d)) (fun _ => putL l ds) ρ = .ex c ρ4 := h
                unfold M.bind setS at h
                by_cases z : i < ρ.length
                · rw [if_pos z] at h
                  exact ih ds _ h
                · rw [if_neg z] at h
                  cases h
          exact this l ds ρ3)
      | ok u ρ4 =>
        rw [q] at h3
        obtain ⟨p1, p2, p3⟩ := putL_ok e3.env DD q
        exact ⟨a, vs, rfl, S, (dpAll_length DD).trans (putL_len q), p2 _ (h3 _ _ p1)⟩
    | _ => exact h3.elim
  | _ => exact h3.elim
theorem x_par {i j : Nat} {x y : Str} {a c : Expr} {ta tc : Tm} {b : List Nat} {px py pt : Pos} {kt k2 : Nat} {pt2 pos : Pos} {G : G0} (hc : X.calm = true) (hN : X.N.Nodup) (hi : X.N[i]? = some x) (hj : X.N[j]? = some y) (hij : i ≠ j) (l1 : X.env.scope.names.lookup x = some .local) (l2 : X.env.scope.names.lookup y = some .local)
    (ha : PA X [a, c] (tS W Wx (evs G (.cons ta (.cons tc .nil))))) (hs : swappedStores [.Tuple [.Name x px, .Name y py] kt pt] (.Tuple [a, c] k2 pt2) X.env = pure (some [x, y])) :
    PS X (.Assign [.Tuple [.Name x px, .Name y py] kt pt] (.Tuple [a, c] k2 pt2) pos) (tX W Wx (exec G (.par2 b i j ta tc))) := by
  refine PS.weak (ps_par hc hN hi hj hij l1 l2 ha hs rfl) fun D σ H ⟨ρ, e, h⟩ => ?_
  have h : PostS W Wx D (M.bind (frz b) (fun _ => M.bind (evs G (.cons ta (.cons tc .nil))) fun x => match x with
      | [d, e] => M.bind (setS i (.fz d)) fun _ => M.bind (setS j (.fz e)) fun _ => M.pure .nx
      | _ => M.stuck) ρ) := h
  obtain ⟨ρ2, e2, h⟩ := h.frz e
  refine ⟨ρ2, e2, PostS.run (x := evs G (.cons ta (.cons tc .nil))) h fun ds ρ3 H3 e3 h3 vs hvs => ?_⟩
  match ds, vs, hvs, h3 with
  | [], _, _, h3 => exact h3.elim
  | [_], _, _, h3 => exact h3.elim
  | _ :: _ :: _ :: _, _, _, h3 => exact h3.elim
  | [d, e'], _, .cons (v := v) a1 (.cons (v := w) a2 .nil), h3 =>
    refine ⟨_, _, rfl, ?_⟩
    simp only at h3
    unfold M.bind setS at h3
    by_cases li : i < ρ3.length
    · rw [if_pos li] at h3
      simp only at h3
      by_cases lj : j < (ρ3.set i (.fz d)).length
      · rw [if_pos lj] at h3
        have e4 := e3.env.set li (s := .fz d) (v := some v) rfl ⟨v, rfl, a1⟩
        have ow : ∀ c, Own (σ.set i (some v)) (ρ3.set i (.fz d)) c → Own σ ρ3 c := fun c z => own_plain rfl z
        have e5 := e4.set lj (s := .fz e') (v := some w) rfl ⟨w, rfl, dp_mono (hide_mono (oc_mono ow)) _ _ a2⟩
        exact h3 _ _ e5
      · rw [if_neg lj] at h3
        exact h3.elim
    · rw [if_neg li] at h3
      exact h3.elim
end
end Pz

namespace Pz
open PySem PySem.Spec PyProof.Rows L2
section
variable {W : Wd} {Wx : WX} {σ σ' : L2.St} {ρ ρ' : Env} {H H' : Hp} {α β : Type} {X : Cx}
theorem PostS.eff {D : Ends} {r : Res Fl} (h : PostS W Wx D r) : PostS W Wx D r := h
theorem x_app {i : Nat} {x : Str} {p apos cpos pos : Pos} {e : Expr} {te : Tm} {b : List Nat} {G : G0} (hN : X.N[i]? = some x) (hv : Vis X.env.scope x) (hd : (x == ("__debug__" : Str)) = false) (hcd : (x == ("__classdict__" : Str)) = false) (he : PE X e (tD W Wx (ev G te))) (hs : noStar e = true)
    (hline : (apos.endLine == cpos.line) = true) : PS X (.Expr (.Call (.Attribute (.Name x p) "append" apos) [e] [] cpos) pos) (tX W Wx (exec G (.app b i te))) := by
  have hfew : ((backTo cpos (starEach [e] X.env)).all (fun x => !x.1) && (backToKw cpos (keywordEach [] X.env)).all (fun x => x.1.isSome)
      && decide ([e].length + ([] : List Keyword).length + (if ([] : List Keyword).isEmpty then 0 else 1) < 30)) = true := by
    rw [star_none (by rw [List.all_cons, hs]; rfl)]
    rfl
  refine PS.weak (ps_expr (pe_bm PySem.F.plainAttrs_list PySem.F.slot_list_append PySem.F.type_list_append mt_append (pe_var hN hv hd hcd) (a_consL he a_nilL (star_cons hs)) (base_ok rfl) hfew hline (star_cons hs) (star_all rfl)) rfl) fun D σ H ⟨ρ, e, h⟩ => ?_
  have h : PostS W Wx D (M.bind (frz b) (fun _ => M.bind (getV i) fun z => M.bind (M.ofO (asVw z)) fun _ => M.bind (ev G te) fun x => M.bind (keep x) fun d => M.bind (appAt i d) fun _ => M.pure .nx) ρ) := h
  obtain ⟨ρ2, e2, h⟩ := h.frz e
  -- the box is there ahead
  have hbox : ∃ (a : Addr) (vs : List V), σ[i]? = some (some (.ref a)) ∧ H a = some (.lst vs) ∧ PostS W Wx D (M.bind (ev G te) (fun x => M.bind (keep x) fun d => M.bind (appAt i d) fun _ => M.pure .nx) ρ2) := by
    unfold M.bind getV at h
    cases q : ρ2[i]? with
    | none => rw [q] at h; exact h.elim
    | some s =>
      rw [q] at h
      cases s with
      | bx bx io lk =>
        cases bx with
        | l ds =>
          obtain ⟨a, vs, h1, h2, _⟩ := box_at e2 q
          exact ⟨a, vs, h1, h2, h⟩
      | un => exact h.elim
      | fz d => exact h.elim
      | xc c => exact h.elim
  obtain ⟨a, vs0, ha, hl, h⟩ := hbox
  refine ⟨.ref a, ha, .inl ⟨rfl, _, .of hl⟩, ρ2, e2, ?_⟩
  have e9 : evl G (.cons te .nil) = M.bind (ev G te) fun x => M.pure [x] := rfl
  rw [e9]
  unfold M.bind at h ⊢
  cases r : ev G te ρ2 with
  | st => rw [r] at h; exact h.elim
  | ex c ρ3 => rw [r] at h; exact fun H1 e1 => h σ H1 e1.env
  | ok x ρ3 =>
    rw [r] at h
    intro H1 e1 ws hws
    cases hws with
    | cons hv t =>
      cases t
      rename_i w
      have h : PostS W Wx D (M.bind (keep x) (fun d => M.bind (appAt i d) fun _ => M.pure .nx) ρ3) := h
      unfold keep at h
      obtain ⟨d, hd, h⟩ := h.ofO
      have dp := keep_ok hv hd
      unfold M.bind appAt at h
      cases q : ρ3[i]? with
      | none => rw [q] at h; exact h.elim
      | some s =>
        rw [q] at h
        cases s with
        | bx bx io lk =>
          cases bx with
          | l ds =>
            cases lk with
            | true => exact h.elim
            | false =>
              simp only at h
              by_cases ll : ds.length < lim
              · rw [if_pos ll] at h
                obtain ⟨a2, vs, h1, h2, h3⟩ := box_at e1.env q
                rw [ha] at h1
                cases h1
                refine ⟨a, vs, w, rfl, rfl, h2, ?_, ?_⟩
                · rw [dpAll_length h3]
                  exact Nat.lt_of_lt_of_le ll (by decide)
                · exact h _ _ (e1.env.setBox q ha (dpAll_append h3 (.cons dp .nil))).1
              · rw [if_neg ll] at h
                exact h.elim
        | un => exact h.elim
        | fz d => exact h.elim
        | xc c => exact h.elim
theorem x_expr {e : Expr} {te : Tm} {b : List Nat} {pos : Pos} {G : G0} (he : PE X e (tD W Wx (ev G te))) (hs : swapsWith e none pos.line X.env = pure false) : PS X (.Expr e pos) (tX W Wx (exec G (.ex b te))) := by
  refine PS.weak (ps_expr he hs) fun D σ H ⟨ρ, e, h⟩ => ?_
  have h : PostS W Wx D (M.bind (frz b) (fun _ => M.bind (ev G te) fun _ => M.pure .nx) ρ) := h
  obtain ⟨ρ2, e2, h⟩ := h.frz e
  exact ⟨ρ2, e2, PostS.run (x := ev G te) h fun x ρ3 H3 e3 h3 v _ => h3 _ _ e3.env⟩
theorem x_ret {e : Expr} {te : Tm} {b : List Nat} {pos : Pos} {G : G0} (he : PE X e (tD W Wx (ev G te))) : PS X (.Return (some e) pos) (tX W Wx (exec G (.ret b te))) := by
  refine PS.weak (ps_ret he) fun D σ H ⟨ρ, e, h⟩ => ?_
  have h : PostS W Wx D (M.bind (frz b) (fun _ => M.bind (ev G te) fun x => match x with
      | .vw _ => M.stuck
      | x => M.pure (.rt x)) ρ) := h
  obtain ⟨ρ2, e2, h⟩ := h.frz e
  refine ⟨ρ2, e2, PostS.run (x := ev G te) h fun x ρ3 H3 e3 h3 v hv => ?_⟩
  cases x with
  | vw i => exact h3.elim
  | fz d => exact h3 _ _ _ e3.env hv
  | bx b => exact h3 _ _ _ e3.env hv
  | xc c => exact h3 _ _ _ e3.env hv
theorem x_retN {pos : Pos} {G : G0} : PS X (.Return none pos) (tX W Wx (exec G .retN)) := PS.weak ps_retN fun D σ H ⟨ρ, e, h⟩ => h _ _ _ e ⟨.non, fun _ z => by cases z⟩
theorem x_retv {i : Nat} {x : Str} {p pos : Pos} {G : G0} (hN : X.N[i]? = some x) (hv : Vis X.env.scope x) (hd : (x == ("__debug__" : Str)) = false) (hcd : (x == ("__classdict__" : Str)) = false) : PS X (.Return (some (.Name x p)) pos) (tX W Wx (exec G (.retv i))) := by
  refine PS.weak (ps_ret (pe_var hN hv hd hcd)) fun D σ H ⟨ρ, e, h⟩ => ?_
  have h : PostS W Wx D ((fun ρ => match ρ[i]? with
      | some (.fz d) => .ok (.rt (.fz d)) ρ
      | some (.bx b false _) => .ok (.rt (.bx b)) (ρ.set i .un)
      | some (.xc c) => .ok (.rt (.xc c)) ρ
      | _ => .st) ρ : Res Fl) := h
  simp only at h
  cases q : ρ[i]? with
  | none => rw [q] at h; exact h.elim
  | some s =>
    rw [q] at h
    have s' := e.slot q
    cases s with
    | un => exact h.elim
    | fz d =>
      obtain ⟨v, h1, h2⟩ := s'
      exact ⟨v, join_some h1, h _ _ _ e ⟨h2, fun _ z => by cases z⟩⟩
    | xc c =>
      obtain ⟨a, h1, h2⟩ := s'
      exact ⟨.ref a, join_some h1, h _ _ _ e ⟨⟨a, rfl, h2⟩, fun _ z => by cases z⟩⟩
    | bx b io lk =>
      cases io with
      | true => exact h.elim
      | false =>
        obtain ⟨a, h1, h2⟩ := s'
        obtain ⟨l, _⟩ := List.getElem?_eq_some_iff.mp q
        have hσ := join_some h1
        have es : σ.set i (some (.ref a)) = σ := by
          apply List.ext_getElem?
          intro j
          rw [stE_get]
          by_cases z : i = j
          · subst z
            rw [if_pos rfl, if_pos (e.len ▸ l), hσ]
          · rw [if_neg z]
        have e2 : EnvOk W σ H (ρ.set i .un) := by
          have := e.set l (s := .un) (v := some (.ref a)) rfl trivial
          rw [es] at this
          exact this
        have ow : ∀ j c, OwnAt σ (ρ.set i .un) j c → j ≠ i ∧ OwnAt σ ρ j c := fun j c ⟨⟨b2, io2, lk2, y⟩, z⟩ => by
          by_cases ij : i = j
          · subst ij
            rw [setE_get, if_pos rfl, if_pos l] at y
            cases y
          · rw [setE_get, if_neg ij] at y
            exact ⟨fun z => ij z.symm, ⟨b2, io2, lk2, y⟩, z⟩
        have hO : OwnAt σ ρ i a := ⟨⟨b, false, lk, q⟩, hσ⟩
        have nO : ¬ W.O0 a := e.nio i b lk a q hσ
        have oc : ∀ c, Oc W σ (ρ.set i .un) c ∨ c = a → Oc W σ ρ c := fun c z => by
          rcases z with (z | ⟨j, z⟩) | z
          · exact .inl z
          · exact .inr ⟨j, (ow j c z).2⟩
          · exact .inr (z ▸ ⟨i, hO⟩)
        refine ⟨.ref a, hσ, h σ H _ e2 ⟨⟨a, rfl, ?_, ?_, h2.mono (hide_mono oc) fun _ y _ => y⟩, fun b' hb p hp => ?_⟩⟩
        · rcases e.own a ⟨i, hO⟩ with z | z
          · exact absurd (e.sub a z) nO
          · exact z
        · rintro (z | ⟨j, z⟩)
          · exact nO z
          · exact (ow j a z).1 (e.inj j i a (ow j a z).2 hO)
        · cases hp
          intro j s hs
          by_cases ij : i = j
          · subst ij
            rw [setE_get, if_pos rfl, if_pos l] at hs
            cases hs
            trivial
          · rw [setE_get, if_neg ij] at hs
            exact (e.sl j s hs).mono (hide_mono oc) fun _ _ _ _ _ _ _ y _ => y
theorem x_if {c : Expr} {a b : List Stmt} {tc : Tm} {p q : Sms} {fb : List Nat} {pos : Pos} {G : G0} (hc : PT X c (tT W Wx (evT G tc))) (ha : PSs X a (tX W Wx (execs G p))) (hb : PSs X b (tX W Wx (execs G q))) : PS X (.If c a b pos) (tX W Wx (exec G (.ifs fb tc p q))) := by
  refine PS.weak (ps_if hc ha hb) fun D σ H ⟨ρ, e, h⟩ => ?_
  have h : PostS W Wx D (M.bind (frz fb) (fun _ => M.bind (evT G tc) fun k => if k then execs G p else execs G q) ρ) := h
  obtain ⟨ρ2, e2, h⟩ := h.frz e
  refine ⟨ρ2, e2, PostS.run (x := evT G tc) h fun k ρ3 H3 e3 h3 => ?_⟩
  cases k with
  | true => exact iteT ⟨ρ3, e3.env, h3⟩
  | false => exact iteF ⟨ρ3, e3.env, h3⟩
theorem x_brk {pos : Pos} {G : G0} : PS X (.Break pos) (tX W Wx (exec G .brk)) := PS.weak ps_break fun D σ H ⟨ρ, e, h⟩ => h _ _ e
theorem x_cont {pos : Pos} {G : G0} : PS X (.Continue pos) (tX W Wx (exec G .cont)) := PS.weak ps_continue fun D σ H ⟨ρ, e, h⟩ => h _ _ e
theorem x_pass {pos : Pos} {G : G0} : PS X (.Pass pos) (tX W Wx (exec G .pass)) := PS.weak ps_pass fun D σ H ⟨ρ, e, h⟩ => h _ _ e
/-- what follows a loop's turn -/
theorem whl_runs {test : M Bool} {body : M Fl} {D : Ends} {tb : TS} {tc : TT} (ht : ∀ σ H Q, tT W Wx test σ H Q → tc σ H Q) (hb : ∀ D σ H, tX W Wx body D σ H → tb D σ H) (n : Nat) (e : EnvOk W σ H ρ) (h : PostS W Wx D (whiles test body n ρ)) : tWhile tc tb D σ H := by
  refine ⟨fun m σ H => ∃ ρ, EnvOk W σ H ρ ∧ PostS W Wx D (whiles test body m ρ), ⟨n, ρ, e, h⟩, fun m σ H ⟨ρ, e, h⟩ => ?_⟩
  cases m with
  | zero => exact h.elim
  | succ m =>
    refine ht _ _ _ ⟨ρ, e, PostS.run (x := test) h fun k ρ1 H1 e1 h1 => ?_⟩
    cases k with
    | false =>
      rw [if_neg Bool.false_ne_true] at h1 ⊢
      exact h1 _ _ e1.env
    | true =>
      rw [if_pos rfl] at h1 ⊢
      refine ⟨fun σ' H' => ∃ ρ, EnvOk W σ' H' ρ ∧ PostS W Wx D (whiles test body m ρ), fun σ' H' z => ⟨m, Nat.lt_succ_self _, z⟩, hb _ _ _ ⟨ρ1, e1.env, ?_⟩⟩
      unfold M.bind at h1
      cases q : body ρ1 with
      | st => rw [q] at h1; exact h1.elim
      | ex c ρ2 => rw [q] at h1; exact h1
      | ok r ρ2 =>
        rw [q] at h1
        cases r with
        | nx => exact fun σ' H' e' => ⟨ρ2, e', h1⟩
        | ct => exact fun σ' H' e' => ⟨ρ2, e', h1⟩
        | bk => exact h1
        | rt v => exact h1
theorem x_while {c : Expr} {body : List Stmt} {tc : Tm} {p : Sms} {fb : List Nat} {pos : Pos} {G : G0} (po : PassesOwn (model X.prog X.w) X.A X.env X.xe) (hc : PT X c (tT W Wx (evT G tc))) (hb : PSs X body (tX W Wx (execs G p))) : PS X (.While c body [] pos) (tX W Wx (exec G (.whl fb tc p))) := by
  refine PS.weak (ps_while po hc hb) fun D σ H ⟨ρ, e, h⟩ => ?_
  have h : PostS W Wx D (M.bind (frz fb) (fun _ => whiles (evT G tc) (execs G p) G.turns) ρ) := h
  obtain ⟨ρ2, e2, h⟩ := h.frz e
  exact whl_runs (fun _ _ _ z => z) (fun _ _ _ z => z) _ e2 h
/-- the heap as it stood, but for the boxes -/
noncomputable def Wd.at_ (W : Wd) (σ : L2.St) (ρ : Env) (H : Hp) : Wd := { W with H0 := hide (Own σ ρ) H }
theorem EnvOk.enter (e : EnvOk W σ H ρ) : EnvOk (W.at_ σ ρ H) σ H ρ :=
  ⟨e.len, fun b o h _ _ => (hide_some.mp h).2, fun b o h => ⟨o, (hide_some.mp h).2⟩, e.sl, fun a h => .inr (by
    cases q : hide (Own σ ρ) H a with
    | none => exact q
    | some o => exact absurd h (hide_some.mp q).1), e.io, e.nio, e.inj, e.tr, e.sub, e.tb⟩
theorem h0_at (e : EnvOk W σ H ρ) {b : Addr} {o : HO} (h : W.H0 b = some o) (n : ¬ W.IO b) : ∃ o', (W.at_ σ ρ H).H0 b = some o' ∧ (NoTbl o → o' = o) := by
  obtain ⟨o', h'⟩ := e.th b o h
  have no : ¬ Own σ ρ b := fun z => by
    rcases e.own b z with y | y
    · exact n y
    · rw [y] at h
      cases h
  refine ⟨o', hide_some.mpr ⟨no, h'⟩, fun t => ?_⟩
  rw [e.fr b o h n t] at h'
  exact (Option.some.inj h').symm
theorem EnvOk.leave (e : EnvOk W σ H ρ) (f : EnvOk (W.at_ σ ρ H) σ' H' ρ') : EnvOk W σ' H' ρ' := by
  refine ⟨f.len, fun b o h n t => ?_, fun b o h => ?_, f.sl, fun a h => ?_, f.io, f.nio, f.inj, f.tr, f.sub, f.tb⟩
  · obtain ⟨o', h1, h2⟩ := h0_at e h n
    have := h2 t
    subst this
    exact f.fr b _ h1 n t
  · by_cases n : W.IO b
    · exact f.tr b (e.sub b n)
    · obtain ⟨o', h1, _⟩ := h0_at e h n
      exact f.th b o' h1
  · rcases f.own a h with z | z
    · exact .inl z
    · by_cases n : W.IO a
      · exact .inl n
      · refine .inr ?_
        cases q : W.H0 a with
        | none => rfl
        | some o =>
          obtain ⟨o', h1, _⟩ := h0_at e q n
          rw [z] at h1
          cases h1
theorem ValOkS.leave (e : EnvOk W σ H ρ) {v : V} {x : Val} (h : ValOkS (W.at_ σ ρ H) σ' ρ' H' v x) : ValOkS W σ' ρ' H' v x := by
  refine ⟨?_, h.2⟩
  have h := h.1
  cases x with
  | fz d => exact h
  | bx b =>
    obtain ⟨p, rfl, h0, n, q⟩ := h
    refine ⟨p, rfl, ?_, n, q⟩
    cases q0 : W.H0 p with
    | none => rfl
    | some o =>
      have np : ¬ W.IO p := fun z => n (.inl (e.sub p z))
      obtain ⟨o', h1, _⟩ := h0_at e q0 np
      rw [h0] at h1
      cases h1
  | vw i => exact h
  | xc c => exact h
/-- what is seen as the loop begins is seen on -/
theorem Sub.enter (e : EnvOk W σ H ρ) (f : EnvOk (W.at_ σ ρ H) σ' H' ρ') : Sub (hide (Oc W σ ρ) H) (hide (Oc (W.at_ σ ρ H) σ' ρ') H') := fun b o h t => by
  obtain ⟨n, h⟩ := hide_some.mp h
  have h1 : (W.at_ σ ρ H).H0 b = some o := hide_some.mpr ⟨fun z => n (.inr z), h⟩
  have nio : ¬ W.IO b := fun z => n (.inl (e.sub b z))
  refine hide_some.mpr ⟨fun z => ?_, f.fr b o h1 nio t⟩
  rcases z with z | z
  · exact n (.inl z)
  · rcases f.own b z with y | y
    · exact nio y
    · rw [y] at h1
      cases h1
theorem PostS.leave {D : Ends} {r : Res Fl} (e : EnvOk W σ H ρ) (h : PostS W Wx D r) : PostS (W.at_ σ ρ H) Wx D r := by
  cases r with
  | st => exact h
  | ex c ρ1 => exact fun σ1 H1 f => h σ1 H1 (e.leave f)
  | ok r ρ1 =>
    cases r with
    | nx => exact fun σ1 H1 f => h σ1 H1 (e.leave f)
    | bk => exact fun σ1 H1 f => h σ1 H1 (e.leave f)
    | ct => exact fun σ1 H1 f => h σ1 H1 (e.leave f)
    | rt v => exact fun σ1 H1 y f hv => h σ1 H1 y (e.leave f) (ValOkS.leave e hv)
def txA (W : Wd) (Wx : WX) (x : M Fl) : TS := fun D σ H => ∃ W', W.like W' ∧ tX W' Wx x D σ H
theorem pss_all {st : List Stmt} {x : M Fl} (h : ∀ W', W.like W' → PSs X st (tX W' Wx x)) : PSs X st (txA W Wx x) := ⟨fun pins s σ H D I ⟨W', l, q⟩ => (h W' l).run pins s σ H D I q⟩
theorem x_for {tg iter : Expr} {body : List Stmt} {t : Tgt} {it : It} {p : Sms} {fb : List Nat} {pos : Pos} {G : G0} (po : PassesOwn (model X.prog X.w) X.A X.env X.xe) (hc : X.calm = true) (hi : PI X tg iter (tI W Wx (evi G it))) (hg : PG X tg (gT W.K t)) (hb : ∀ W', W.like W' → PSs X body (tX W' Wx (execs G p))) (hs : notSet iter = true) :
    PS X (.For tg iter body [] pos) (tX W Wx (exec G (.for_ fb t it p))) := by
  refine PS.weak (ps_for po hc hi hg (pss_all hb) (folded_ok hs)) fun D σ H ⟨ρ, e, h⟩ => ?_
  have h : PostS W Wx D (M.bind (frz fb) (fun _ => M.bind (evi G it) fun ds => loop (fun d => M.bind (t.put d) fun _ => execs G p) ds) ρ) := h
  obtain ⟨ρ2, e2, h⟩ := h.frz e
  refine ⟨ρ2, e2, PostS.run (x := evi G it) h fun ds ρ1 H1 e1 h1 J wk => ?_⟩
  have eE := e1.env
  refine ⟨fun i m σ' H' => m = ds.length - i ∧ i ≤ ds.length ∧ ∃ ρ', EnvOk (W.at_ σ ρ1 H1) σ' H' ρ' ∧ PostS (W.at_ σ ρ1 H1) Wx D (loop (fun d => M.bind (t.put d) fun _ => execs G p) (ds.drop i) ρ'), ⟨_, rfl, Nat.zero_le _, ρ1, eE.enter, PostS.leave eE h1⟩, fun i m σ' H' ⟨hm, hi, ρ', e', h'⟩ => ?_⟩
  have sb : Sub (hide (Oc W σ ρ1) H1) H' := Sub.trans (Sub.enter eE e') hide_sub
  by_cases li : i < ds.length
  · refine .inr ⟨wk.go i H' sb li, fun σ'' H'' => ∃ ρ', EnvOk (W.at_ σ ρ1 H1) σ'' H'' ρ' ∧ PostS (W.at_ σ ρ1 H1) Wx D (loop (fun d => M.bind (t.put d) fun _ => execs G p) (ds.drop (i + 1)) ρ'), fun σ'' H'' ⟨ρ'', z1, z2⟩ => ⟨ds.length - (i + 1), by omega, rfl, li, ρ'', z1, z2⟩, fun v H'' hy => ?_⟩
    obtain ⟨d, hd⟩ : ∃ d, ds[i]? = some d := ⟨ds[i], List.getElem?_eq_getElem li⟩
    have hdr : ds.drop i = d :: ds.drop (i + 1) := by
      rw [List.drop_eq_getElem_cons li]
      congr 1
      rw [List.getElem?_eq_getElem li] at hd
      exact Option.some.inj hd
    rw [hdr] at h'
    have key : EnvOk (W.at_ σ ρ1 H1) σ' H'' ρ' ∧ Dp W.K (hide (Oc (W.at_ σ ρ1 H1) σ' ρ') H'') v d := by
      have sb2 := Sub.enter eE e'
      rcases wk.yld i d H' v H'' sb hd hy with ⟨rfl, q⟩ | ⟨T, vs, es, hT, rfl, rfl, rfl, q⟩
      · exact ⟨e', dp_mono sb2 _ _ q⟩
      · exact ⟨e'.grow (grow_upd hT), newT e' hT (dpAll_mono sb2 _ _ q)⟩
    obtain ⟨e3, hv⟩ := key
    have h2 : PostS (W.at_ σ ρ1 H1) Wx D (M.bind (M.bind (t.put d) fun _ => execs G p) (fun r => match r with
      | .nx => loop (fun d => M.bind (t.put d) fun _ => execs G p) (ds.drop (i + 1))
      | .ct => loop (fun d => M.bind (t.put d) fun _ => execs G p) (ds.drop (i + 1))
      | .bk => M.pure .nx
      | .rt v => M.pure (.rt v)) ρ') := h'
    rw [bind_assoc] at h2
    unfold M.bind at h2
    cases hp : t.put d ρ' with
    | st => rw [hp] at h2; exact h2.elim
    | ex c ρ4 =>
      refine absurd hp ?_
      cases t with
      | n i =>
        intro z
        have z : setS i (.fz d) ρ' = .ex c ρ4 := z
        unfold setS at z
        split at z <;> cases z
      | t l =>
        intro z
        cases d with
        | tuple es =>
          have : ∀ (l : List Nat) (ds : List PyData) (ρ : Env), putL l ds ρ ≠ .ex c ρ4 := by
            intro l
            induction l with
            | nil => intro ds ρ h; cases ds <;> cases h
            | cons i l ih =>
              intro ds ρ h
              cases ds with
              | nil => cases h
              | cons d ds =>
                have h : M.bind (setS i (.fz d)) (fun _ => putL l ds) ρ = .ex c ρ4 := h
                unfold M.bind setS at h
                by_cases z : i < ρ.length
                · rw [if_pos z] at h
                  exact ih ds _ h
                · rw [if_neg z] at h
                  cases h
          exact this l es ρ' z
        | _ => cases z
    | ok u ρ4 =>
      rw [hp] at h2
      obtain ⟨vs, e4, hg4, _⟩ := tgt_ok e3 hv hp
      refine hg4 _ ⟨W.at_ σ ρ1 H1, ⟨rfl, rfl, rfl⟩, ρ4, e4, ?_⟩
      simp only at h2
      cases q : execs G p ρ4 with
      | st => rw [q] at h2; exact h2.elim
      | ex c ρ5 => rw [q] at h2; exact h2
      | ok r ρ5 =>
        rw [q] at h2
        cases r with
        | nx => exact fun σ'' H'' e'' => ⟨ρ5, e'', h2⟩
        | ct => exact fun σ'' H'' e'' => ⟨ρ5, e'', h2⟩
        | bk => exact h2
        | rt v => exact h2
  · have hdr : ds.drop i = [] := List.drop_eq_nil_of_le (by omega)
    rw [hdr] at h'
    exact .inl ⟨wk.stop i H' sb (by omega), h' _ _ e'⟩
theorem x_raise {C : Addr} {c : Nat} {bmB : List Value} {B newId initId : String} {x m : Str} {j : Nat} {p p2 p3 pos : Pos} {G : G0} (fx : ExcBaseFacts B newId initId bmB) (hin : PySem.W.excIn X.K C bmB newId = true) (hm : X.mg x = some (.ref C)) (hk : PySem.W.keepIn X.K (.ref C) = true) (hr : Raises X (.ref C)) (hg : Gl X x) (hd : (x == ("__debug__" : Str)) = false)
    (hc : X.calm = true) (tk : L2N.Takes X Wx) (hC : W.C c = C) : PS X (.Raise (some (.Call (.Name x p) [.Constant (.str m) j p2] [] p3)) none pos) (tX W Wx (exec G (.rais c))) := by
  refine PS.weak (L2N.ps_raise hc tk (L2N.pmk_own fx hin hm hk hr hg hd)) fun D σ H ⟨ρ, e, h⟩ => ?_
  have h := h σ H e
  rw [hC] at h
  exact h
end
end Pz

namespace Pz
open PySem PySem.Spec PyProof.Rows L2
section
variable {W : Wd} {Wx : WX} {σ σ' : L2.St} {ρ ρ' : Env} {H H' : Hp} {α β : Type} {X : Cx}
def augF : Bo → Int → Int → Int
  | .sub, i, j => i - j
  | _, i, j => i + j
theorem x_aug {i : Nat} {x : Str} {o : Bo} {op : Operator} {e : Expr} {te : Tm} {b : List Nat} {pos pos' : Pos} {G : G0} (ho : (o = .add ∧ op = .Add) ∨ (o = .sub ∧ op = .Sub)) (hN : X.N.Nodup) (hi : X.N[i]? = some x) (hl : L2.Loc X.env.scope x) (he : PE X e (tD W Wx (ev G te)))
    (hf : X.fn x = true ∨ X.env.scope.names.lookup x = some .local) : PS X (.AugAssign (.Name x pos') op e pos) (tX W Wx (exec G (.aug b i o te))) := by
  have hip : PIp X op (ipI (augF o)) := by
    rcases ho with ⟨rfl, rfl⟩ | ⟨rfl, rfl⟩
    · exact ip_add
    · exact ip_sub
  refine PS.weak (ps_aug hN hi hl he hip hf) fun D σ H ⟨ρ, e, h⟩ => ?_
  have h : PostS W Wx D (M.bind (frz b) (fun _ => M.bind (getV i) fun x => M.bind (M.ofO (asIntV x)) fun a => M.bind (ev G te) fun y => M.bind (look y) fun d => M.bind (M.ofO (asInt d)) fun j => M.bind (M.ofO (opI o a j)) fun k => M.bind (setS i (.fz (.int k))) fun _ => M.pure .nx) ρ) := h
  obtain ⟨ρ2, e2, h⟩ := h.frz e
  have hv : ∃ a, σ[i]? = some (some (V.int a)) ∧ PostS W Wx D (M.bind (ev G te) (fun y => M.bind (look y) fun d => M.bind (M.ofO (asInt d)) fun j => M.bind (M.ofO (opI o a j)) fun k => M.bind (setS i (.fz (.int k))) fun _ => M.pure .nx) ρ2) := by
    unfold M.bind getV at h
    cases q : ρ2[i]? with
    | none => rw [q] at h; exact h.elim
    | some s =>
      rw [q] at h
      cases s with
      | un => exact h.elim
      | bx bx io lk => exact h.elim
      | xc c => exact h.elim
      | fz d =>
        cases d with
        | int a =>
          obtain ⟨v, h1, h2⟩ := e2.slot q
          cases dpi h2
          exact ⟨a, join_some h1, h⟩
        | _ => exact h.elim
  obtain ⟨a, h1, h5⟩ := hv
  refine ⟨.int a, h1, ρ2, e2, PostS.run (x := ev G te) h5 fun y ρ3 H3 e3 h4 w ⟨hw, _⟩ => ?_⟩
  have h6 : PostS W Wx D (M.bind (look y) (fun d => M.bind (M.ofO (asInt d)) fun j => M.bind (M.ofO (opI o a j)) fun k => M.bind (setS i (.fz (.int k))) fun _ => M.pure .nx) ρ3) := h4
  rcases look_ok e3.env hw with z | ⟨d2, z, ld⟩
  · unfold M.bind at h6
    rw [z] at h6
    exact h6.elim
  · have h7 : PostS W Wx D (M.bind (M.ofO (asInt d2)) (fun j => M.bind (M.ofO (opI o a j)) fun k => M.bind (setS i (.fz (.int k))) fun _ => M.pure .nx) ρ3) := by
      unfold M.bind at h6
      rw [z] at h6
      exact h6
    obtain ⟨j, hj, h8⟩ := h7.ofO
    rw [asInt_ok hj] at ld
    obtain ⟨k, hk, h9⟩ := h8.ofO
    refine ⟨a, j, rfl, ld.int, ?_⟩
    have hf2 : augF o a j = k := by
      rcases ho with ⟨rfl, _⟩ | ⟨rfl, _⟩
      · exact Option.some.inj hk
      · exact Option.some.inj hk
    rw [hf2]
    unfold M.bind setS at h9
    by_cases l : i < ρ3.length
    · rw [if_pos l] at h9
      exact h9 _ _ (e3.env.set l (s := .fz (.int k)) (v := some (.int k)) rfl ⟨_, rfl, .int k⟩)
    · rw [if_neg l] at h9
      exact h9.elim
end
end Pz

namespace Pz
open PySem PySem.Spec PyProof.Rows L2
section
variable {prog : Program} {w : World} {A : Around} {E : Value → Shared → Prop} {s : Shared}
theorem hint_rev {it l : Addr} {i : Int} {Q : Bool → Shared → Prop} (h : s.heap.IsRevIter it l i) (q : Q false s) : wpAny (model prog w) A (Builtin.List.listLengthHint (.ref it)) Q E s := by
  have ht := h.typeIs (s := s)
  unfold Builtin.List.listLengthHint
  refine wpAny_bind (wpAny_specialOf ht RT.nolen_lri ?_)
  dsimp only
  rw [if_neg (by decide), if_neg (by decide)]
  refine wpAny_bind (wpAny_specialOf ht RT.hint_lri ?_)
  dsimp only
  rw [show splitId "list_reverseiterator.__length_hint__" = some ("list_reverseiterator", "__length_hint__") by decide +kernel]
  dsimp only
  refine wpAny_bind (wpAny_isInstance (b := true) ht (by rw [isSubtype_type]; rfl) ?_)
  rw [if_neg (by decide), if_pos (by decide +kernel), if_neg (by decide +kernel)]
  exact wpAny_pure q
theorem extend_rev {S it l : Addr} {items : Array Value} {res : Value} {c0 : Nat} {R : Result → Shared → Prop} (hA : A.handled = none) (h : s.heap.IsRevIter it l (↑items.size - 1)) (hl : s.heap.IsList l items) (n1 : l ≠ it) (n2 : S ≠ it) (n3 : S ≠ l) (hz : items.size ≤ sizeLine)
    (hS : s.heap.get? S = some { cls := .type "list", data := .seq #[] c0 })
    (q : ∀ (s' : Shared) (acc : Array Value) (c' : Nat), Moved [S, it] (fun a b => b = a) s s' → s'.heap.get? S = some { cls := .type "list", data := .seq acc c' } → ItemsOf (fun i v => items[items.size - 1 - i]? = some v) acc items.size → R (.ok (.ret res)) s') :
    wpAny (model prog w) A.in1 (Builtin.List.listExtendWith (.ref S) (.ref it) res) (fun fin s' => match fin with
      | .done f => R (.ok f) s'
      | .again c' => c'.quiet = true ∧ codeAny (model prog w) A c' R s') (fun e s' => R (.error e) s') s := by
  have ht := h.typeIs (s := s)
  have hw := (Walks.listRev (prog := prog) (w := w) (A := A.in1) hA it l n1 items).toS
  unfold Builtin.List.listExtendWith
  refine wpAny_bind (wpAny_typeOf ht ?_)
  have hne : (Builtin.List.listSameRef (.ref S) (.ref it) || Value.type "list_reverseiterator" == .type "list" || Value.type "list_reverseiterator" == .type "tuple") = false := by
    have e1 : Builtin.List.listSameRef (.ref S) (.ref it) = false := by
      show (S == it) = false
      simpa using n2
    rw [e1]
    decide +kernel
  rw [if_neg (by rw [hne]; exact Bool.false_ne_true)]
  refine wpAny_bind (wpAny_pyIter_revIter h ?_)
  refine wpAny_bind (wpAny_holding (hint_rev h ?_))
  dsimp only
  rw [if_neg (by decide +kernel)]
  refine wpAny_pure ⟨plainId_quiet F.plain_extend_loop _, ?_⟩
  refine codeAny_extend_loopS hw hz S (by
    intro z
    rcases List.mem_cons.mp z with z | z
    · exact n2 z
    · exact n3 (List.mem_singleton.mp z)) res items.size 0 s #[] c0 rfl (Nat.zero_le _) ⟨Nat.zero_le _, by simpa using h, hl⟩ hS (ItemsOf.nil _) fun s' acc c' m g io => q s' acc c' m g io
theorem init_rev {S it l : Addr} {items : Array Value} {R : Result → Shared → Prop} (hA : A.handled = none) (h : s.heap.IsRevIter it l (↑items.size - 1)) (hl : s.heap.IsList l items) (n1 : l ≠ it) (n2 : S ≠ it) (n3 : S ≠ l) (hz : items.size ≤ sizeLine)
    (hS : s.heap.get? S = some { cls := .type "list", data := .seq #[] })
    (q : ∀ (s' : Shared) (acc : Array Value) (c' : Nat), Moved [S, it] (fun a b => b = a) s s' → s'.heap.get? S = some { cls := .type "list", data := .seq acc c' } → ItemsOf (fun i v => items[items.size - 1 - i]? = some v) acc items.size → R (.ok (.ret .none)) s') :
    wpAny (model prog w) A.in1 (Builtin.«list.__init__» { pos := [.ref S, .ref it] }) (fun fin s' => match fin with
      | .done f => R (.ok f) s'
      | .again c' => c'.quiet = true ∧ codeAny (model prog w) A c' R s') (fun e s' => R (.error e) s') s := by
  unfold Builtin.«list.__init__»
  dsimp only
  rw [if_neg (by decide), if_neg (show ¬ ([Value.ref it].length > 1) from (by decide : ¬ (1 > 1)))]
  refine wpAny_bind (wpAny_listItems hS rfl ?_)
  refine wpAny_bind (show wpAny _ _ (updateSeq S fun x => #[]) _ _ _ from wpAny_updateSeq hS rfl ?_ (by decide) (by decide))
  refine wpAny_bind (wpAny_letGo ?_)
  have k : ∀ b, b ≠ S → ∀ o, s.heap.get? b = some o → (s.heap.update S (Obj.mapSeq fun x => #[])).get? b = some o := fun b hb o e => by
    rw [Heap.get?_update_other _ _ (fun z => hb z.symm)]
    exact e
  have hS2 := Heap.get?_update_self (Obj.mapSeq fun x => #[]) hS rfl
  have hl2 : (s.heap.update S (Obj.mapSeq fun x => #[])).IsList l items := by
    obtain ⟨o, g1, g2⟩ := hl
    exact ⟨o, k l (fun z => n3 z.symm) o g1, g2⟩
  refine extend_rev (s := { heap := s.heap.update S (Obj.mapSeq fun x => #[]), gens := s.gens, drawn := s.drawn, toks := s.toks, os := s.os }) hA (h.at fun o e => k it (fun z => n2 z.symm) o e) hl2 n1 n2 n3 hz hS2 fun s' acc c' m g io => q s' acc c' ?_ g io
  refine ⟨fun b o hb e => m.heap b o hb (k b (fun z => hb (z ▸ List.mem_cons_self ..)) o e), m.gens, m.drawn, m.os, m.toks⟩
theorem call_list_rev {it l : Addr} {items : Array Value} {Q : Value → Shared → Prop} (hA : A.handled = none) (h : s.heap.IsRevIter it l (↑items.size - 1)) (hl : s.heap.IsList l items) (n1 : l ≠ it) (hz : items.size ≤ sizeLine)
    (q : ∀ (s' : Shared) (acc : Array Value) (c' : Nat), Moved [s.heap.objs.size, it] (fun a b => b = a) { heap := s.heap.push { cls := .type "list", data := .seq #[] }, gens := s.gens, drawn := s.drawn, toks := s.toks, os := s.os } s' → s'.heap.get? s.heap.objs.size = some { cls := .type "list", data := .seq acc c' } →
      ItemsOf (fun i v => items[items.size - 1 - i]? = some v) acc items.size → Q (.ref s.heap.objs.size) s') :
    wpAny (model prog w) A (call (.type "list") [.ref it]) Q E s := by
  obtain ⟨oi, i1, i2⟩ := h
  have lit : it < s.heap.objs.size := Heap.lt_size i1
  obtain ⟨ol, l1, l2⟩ := hl
  have ll : l < s.heap.objs.size := Heap.lt_size l1
  refine callType_codes F.called_list (F.typeCall_list_1 _) F.entry_list_init (Q₁ := fun obj s₁ => obj = .ref s.heap.objs.size ∧ s₁ = { heap := s.heap.push { cls := .type "list", data := .seq #[] }, gens := s.gens, drawn := s.drawn, toks := s.toks, os := s.os }) (code_list_new _ ⟨rfl, rfl⟩) fun obj s₁ ⟨e1, e2⟩ => ?_
  subst e1 e2
  have hS : (s.heap.push { cls := .type "list", data := .seq #[] }).get? s.heap.objs.size = some { cls := .type "list", data := .seq #[] } := Heap.get?_push_size _ rfl
  refine ⟨⟨_, hS, rfl⟩, F.args_list_init_2 _ _, init_rev hA ⟨oi, Heap.get?_push_of_some _ i1, i2⟩ ⟨ol, Heap.get?_push_of_some _ l1, l2⟩ n1 (fun z => by rw [z] at lit; exact Nat.lt_irrefl _ lit) (fun z => by rw [z] at ll; exact Nat.lt_irrefl _ ll) hz hS fun s' acc c' m g io => ⟨rfl, q s' acc c' m g io⟩⟩
end
/-- the first n objects -/
def firstN (h : Heap) (n : Nat) : Heap := { objs := h.objs.take n, life := h.life }
theorem firstN_get {h : Heap} {n b : Nat} : (firstN h n).get? b = if b < n then h.get? b else none := by
  unfold firstN Heap.get?
  by_cases l : b < n
  · rw [if_pos l]
    have : (h.objs.take n)[b]? = h.objs[b]? := by
      simp only [Array.take_eq_extract, Array.getElem?_extract]
      by_cases z : b < h.objs.size
      · rw [if_pos (by simp; omega)]
        simp
      · rw [if_neg (by simp; omega), Array.getElem?_eq_none (by omega)]
    rw [this]
  · rw [if_neg l]
    have : (h.objs.take n)[b]? = none := by
      apply Array.getElem?_eq_none
      simp only [Array.take_eq_extract, Array.size_extract]
      omega
    rw [this]
theorem firstN_size {h : Heap} {n : Nat} : (firstN h n).objs.size ≤ n := by
  unfold firstN
  simp only [Array.take_eq_extract, Array.size_extract]
  omega
section
variable {W : Wd} {Wx : WX} {σ σ' : L2.St} {ρ ρ' : Env} {H H' : Hp} {X : Cx}
def tListRev (K : PySem.W.Frag) (te : TE) : TE := fun σ H Q => te σ H fun v H1 => ∃ a xs, v = .ref a ∧ SqL K H1 a xs ∧ ∀ q, H1 q = none → Q (.ref q) (upd H1 q (.lst xs.reverse))
theorem pe_listRev {e : Expr} {te : TE} {p p2 pos pos2 : Pos} (hc : X.calm = true) (g1 : Gl X "list") (m1 : X.mg "list" = none) (g2 : Gl X "reversed") (m2 : X.mg "reversed" = none) (he : PE X e te) (hs : noStar e = true) :
    PE X (.Call (.Name "list" p) [.Call (.Name "reversed" p2) [e] [] pos2] [] pos) (tListRev X.K te) := ⟨fun pins s σ H Q I h => by
  refine PyProof.Rows.Call_ (ld_blt I g1 m1 PyProof.Rows.boot_list ?_ (by decide) (by decide)) rfl
  refine PyProof.Rows.callWith_type1 (PyProof.Rows.args_cons (PyProof.Rows.Call_ (ld_blt I g2 m2 PyProof.Rows.boot_reversed ?_ (by decide) (by decide)) rfl) rfl) rfl rfl
  refine PyProof.Rows.callWith_type1 (PyProof.Rows.args_cons (thn (he.run pins s σ H _ I h) fun v s1 hh => ?_) (star_cons hs)) (star_cons hs) rfl
  obtain ⟨y, H1, I1, rel, a, xs, rfl, hx, q⟩ := hh
  cases rel
  obtain ⟨its, r, pl, hz⟩ := I1.list hx
  refine PyProof.Rows.args_nil (call_reversed_list pl.isList ?_)
  refine PyProof.Rows.args_nil ?_
  have I2 := I1.kept (h' := s1.heap.push (revObj a (↑its.toArray.size - 1))) (t' := s1.toks) fun b u e => Heap.get?_push_of_some _ e
  have hla : a < s1.heap.objs.size := by
    obtain ⟨o, n, e1, _⟩ := pl
    exact Heap.lt_size e1
  have hit : (s1.heap.push (revObj a (↑its.toArray.size - 1))).IsRevIter s1.heap.objs.size a (↑its.toArray.size - 1) := ⟨_, Heap.get?_push_size _ rfl, rfl, rfl⟩
  have fp := I1.fpOk (b := s1.heap.objs.size) (H' := H1) (Nat.le_refl _) (I1.hok.fresh (Nat.le_refl _))
  have hsz : its.toArray.size ≤ sizeLine := by
    have := r.length
    simp only [List.size_toArray]
    omega
  refine call_list_rev (I1.ok.hd hc) hit (pl.isList.push _) (fun z => by rw [z] at hla; exact Nat.lt_irrefl _ hla) hsz fun s' acc c' mv g io => ?_
  have sz2 : (s1.heap.push (revObj a (↑its.toArray.size - 1))).objs.size = s1.heap.objs.size + 1 := Heap.size_push ..
  have hS : s1.heap.objs.size + 1 < s'.heap.objs.size := by
    have := Heap.lt_size g
    rw [sz2] at this
    exact this
  have J := I2.turned (h' := firstN s'.heap (s1.heap.objs.size + 1)) (t' := s'.toks) (it := s1.heap.objs.size) (fun b o hb e => by
      have lb : b < s1.heap.objs.size + 1 := by
        have := Heap.lt_size e
        rw [sz2] at this
        exact this
      rw [firstN_get, if_pos lb]
      refine mv.heap b o (fun z => ?_) (Heap.get?_push_of_some _ e)
      rcases List.mem_cons.mp z with z | z
      · rw [z, sz2] at lb
        exact Nat.lt_irrefl _ lb
      · exact hb (List.mem_singleton.mp z)) fp.1 fp.2.1 fp.2.2.2.1 fp.2.2.2.2.1 fp.2.2.2.2.2
  have vr := RT.vals_rev r io
  have J2 := J.laid (h' := s'.heap) (a := s1.heap.objs.size + 1) (o := .lst xs.reverse) (t' := s'.toks) (fun b u e => by
      rw [firstN_get] at e
      split at e
      · exact e
      · cases e) firstN_size (by
      refine ⟨by rw [List.length_reverse]; exact hz, acc.toList, c', vr, ?_⟩
      rw [sz2] at g
      rw [g, Array.toArray_toList])
  rw [sz2]
  refine ⟨.ref (s1.heap.objs.size + 1), _, ?_, rfl, q _ (I2.hok.fresh (by rw [sz2]; exact Nat.le_refl _))⟩
  have es : s' = { heap := s'.heap, gens := s1.gens, drawn := s1.drawn, toks := s'.toks, os := s1.os } := mv.eq_with
  rw [es]
  exact J2⟩
theorem s_lrev {e : Expr} {te : Tm} {p p2 pos pos2 : Pos} {G : G0} (hc : X.calm = true) (g1 : Gl X "list") (m1 : X.mg "list" = none) (g2 : Gl X "reversed") (m2 : X.mg "reversed" = none) (he : PE X e (tD W Wx (ev G te))) (hs : noStar e = true) (hK : W.K = X.K) :
    PE X (.Call (.Name "list" p) [.Call (.Name "reversed" p2) [e] [] pos2] [] pos) (tD W Wx (ev G (.bi .lrev (.cons te .nil)))) := by
  refine PE.weak (pe_listRev hc g1 m1 g2 m2 he hs) fun σ H Q ⟨ρ, e, h⟩ => ?_
  have h : Post W Wx σ ρ H (M.bind (evl G (.cons te .nil)) (fun xs => M.bind (looks xs) fun ds => M.ofO (biV .lrev ds)) ρ) (Fin_ W σ Q) := h
  have e9 : evl G (.cons te .nil) = M.bind (ev G te) fun x => M.pure [x] := rfl
  rw [e9, bind_assoc] at h
  refine ⟨ρ, e, Post.run (x := ev G te) h fun x ρ1 H1 e1 h1 v ⟨hv, _⟩ => ?_⟩
  have h1 : Post W Wx σ ρ1 H1 (M.bind (looks [x]) (fun ds => M.ofO (biV .lrev ds)) ρ1) (Fin_ W σ Q) := h1
  obtain ⟨ds, pr, h1⟩ := looks_ok e1.env (.cons hv .nil) h1
  obtain ⟨res, hr, hq⟩ := h1.endO
  have hr : lrevV ds = some res := hr
  unfold lrevV at hr
  split at hr
  · obtain ⟨v', hv', l⟩ := pair1 pr
    cases hv'
    cases Option.some.inj hr
    obtain ⟨a, vs, rfl, S, D⟩ := l.list
    rw [hK] at S
    exact ⟨a, vs, rfl, S, fun p hp => fin_new e1.env hp hq (newL e1.env hp (dpAll_rev D))⟩
  · cases hr
end
end Pz

namespace Pz
open PySem PySem.Spec PyProof.Rows L2
section
variable {prog : Program} {w : World} {A : Around} {E : Value → Shared → Prop} {s : Shared}
theorem pyNext_list_end_hot {it l x1 : Addr} {i : Nat} {items : Array Value} {Q : Option Value → Shared → Prop} (hot : HotX.HotAt A x1 s.heap) (nx : x1 ≠ it) (h : s.heap.IsListIter it l i) (hl : s.heap.IsList l items) (he : items[i]? = none)
    (q : ∀ h' : Heap, Heap.ExtBut it s.heap h' → Q none { heap := h', gens := s.gens, drawn := s.drawn, toks := s.toks, os := s.os }) : wpAny (model prog w) A (pyNext (.ref it)) Q E s := by
  have ht := h.typeIs (s := s)
  obtain ⟨o, g1, g2, g3⟩ := h
  obtain ⟨ol, l1, l2, n, l3⟩ := hl
  unfold pyNext
  refine wpAny_bind (wpAny_attempt (wpAny_callSpecial?_slot ht slot_listiter_next (wpAny_call_entry slot_listiter_next ht entry_listiter_next ?_ (args_listiter_next _))))
  show wpAny (model prog w) A.in1 (Builtin.«list_iterator.__next__» { pos := [.ref it] }) _ _ s
  refine wpAny_bind (wpAny_of_eq (a := (Value.ref it, [])) rfl ?_)
  dsimp only
  refine wpAny_bind (wpAny_field g1 g3 (i := 0) (x := .ref l) rfl ?_)
  rw [if_neg (show ¬ ((Value.ref l == Value.none) = true) from fun z => by cases of_decide_eq_true z)]
  refine wpAny_bind (wpAny_field g1 g3 (i := 1) (x := .int (i : Int) 0) rfl ?_)
  dsimp only
  refine wpAny_bind (wpAny_seqItems l1 l3 ?_)
  dsimp only
  rw [show (((i : Int)).toNat) = i from Int.toNat_natCast i, he]
  dsimp only
  refine wpAny_bind (wpAny_rule ?_)
  refine wpAny_bind (wpAny_setField g1 g3 (show 0 < 2 by decide) ?_)
  have k1 : ∀ b, b ≠ it → ∀ ob, s.heap.get? b = some ob → (s.heap.update it (Obj.mapFields fun x => x.setIfInBounds 0 .none)).get? b = some ob := fun b hb ob e => by
    rw [Heap.get?_update_other _ _ (fun z => hb z.symm)]
    exact e
  -- the StopIteration is made, and what is in hand hangs at it
  unfold Builtin.SmallTypes.stopIteration
  have hot1 : HotX.HotAt A.in1 x1 (s.heap.update it (Obj.mapFields fun x => x.setIfInBounds 0 .none)) := by
    obtain ⟨a1, o1, vs1, a2, a3, a4⟩ := hot
    exact ⟨a1, o1, vs1, k1 x1 nx o1 a2, a3, a4⟩
  generalize hh : s.heap.update it (Obj.mapFields fun x => x.setIfInBounds 0 .none) = h1 at hot1 k1 ⊢
  unfold newExc
  refine wpAny_bind (wpAny_bind (show wpAny _ _ (newObj (.type "tuple") (.seq #[])) _ _ _ from wpAny_newObj_type ?_))
  refine wpAny_bind (wpAny_of_eq (a := Value.none) rfl ?_)
  refine wpAny_newObj_type ?_ (sizeOk_excFields ..)
  have k3 : ∀ b ob, h1.get? b = some ob → ((h1.push { cls := .type "tuple", data := .seq #[] }).push { cls := .type "StopIteration", dict := none, data := .fields (#[.ref h1.objs.size, .none, .none, .none, .bool false, .none] ++ ownMembersOf (.type "StopIteration") []) }).get? b = some ob := fun b ob e => Heap.get?_push_of_some _ (Heap.get?_push_of_some _ e)
  have hot3 : HotX.HotAt A.in1 x1 ((h1.push { cls := .type "tuple", data := .seq #[] }).push { cls := .type "StopIteration", dict := none, data := .fields (#[.ref h1.objs.size, .none, .none, .none, .bool false, .none] ++ ownMembersOf (.type "StopIteration") []) }) := by
    obtain ⟨a1, o1, vs1, a2, a3, a4⟩ := hot1
    exact ⟨a1, o1, vs1, k3 x1 o1 a2, a3, a4⟩
  have nx3 : x1 ≠ (h1.push { cls := .type "tuple", data := .seq #[] }).objs.size := by
    obtain ⟨a1, o1, vs1, a2, a3, a4⟩ := hot1
    have := Heap.lt_size a2
    rw [Heap.size_push]
    intro z
    rw [z] at this
    exact absurd this (Nat.not_lt.mpr (Nat.le_succ _))
  have gA : ((h1.push { cls := .type "tuple", data := .seq #[] }).push { cls := .type "StopIteration", dict := none, data := .fields (#[.ref h1.objs.size, .none, .none, .none, .bool false, .none] ++ ownMembersOf (.type "StopIteration") []) }).get? (h1.push { cls := .type "tuple", data := .seq #[] }).objs.size = some { cls := .type "StopIteration", dict := none, data := .fields (#[.ref h1.objs.size, .none, .none, .none, .bool false, .none] ++ ownMembersOf (.type "StopIteration") []) } := Heap.get?_push_size _ rfl
  refine HotX.raiseNew_hot hot3 nx3 gA rfl (by rw [Array.size_append]; exact Nat.lt_of_lt_of_le (by decide : 2 < 6) (Nat.le_add_right _ _)) ?_
  have gB := Heap.get?_update_self (Obj.mapFields fun x => x.setIfInBounds 2 (Value.ref x1)) gA rfl
  refine wpAny_bind (wpAny_isInstance (T := "StopIteration") (b := true) ⟨_, gB, rfl⟩ isSubtype_stop ?_)
  rw [if_pos rfl]
  refine wpAny_pure (q _ fun b ob hb e => ?_)
  have lb : b < h1.objs.size := Heap.lt_size (k1 b hb ob e)
  rw [Heap.get?_update_other _ _ (fun z => by rw [Heap.size_push] at z; exact absurd lb (by rw [← z]; exact Nat.not_lt.mpr (Nat.le_succ _)))]
  exact k3 b ob (k1 b hb ob e)
end
end Pz

namespace Pz
open PySem PySem.Spec PyProof.Rows L2
section
variable {X : Cx}
theorem pe_lcH {elt tg iter : Expr} {ifs : List Expr} {scope : Scope} {own : List (Str × Nat)} {pos : Pos} {ti : TE} {g : TG} {tt : TT} {te : TE} (hot : L2H.HotC X) (hN : X.N.Nodup) (hi : PE X iter ti) (hb : BlkOk X.N X.env.scope scope own)
    (hg : ∀ s H C cl fp, PG (X.blk s H scope (compEnvC scope cl C X.env) fp) tg g) (ht : ∀ s H C cl fp, PTs (X.blk s H scope (compEnvC scope cl C X.env) fp) ifs tt) (he : ∀ s H C cl fp, PE (X.blk s H scope (compEnvC scope cl C X.env) fp) elt te) (hs : notSet iter = true) :
    PE X (.ListComp elt [{ target := tg, iter := iter, ifs := ifs, is_async := 0 }] scope pos) (tLc (iList X.K ti) g tt te (own.map (·.2))) := ⟨fun pins s σ H Q I h => by
  obtain ⟨p, hp1, hp2⟩ := hot
  rw [eval_ListComp]
  refine wpAny_comprehension_free rfl (folded_ok hs) (closure_ok (fun y hy hf => I.ok.has _ (hb.free y hy hf))) hb.kind (fun x hx hl => by rw [← hl]; exact hb.uniq x hx) ?_
  show wpAny _ _ (eval iter X.env) _ _ _
  refine thn (hi.run pins s σ H _ I h) fun v s1 hh => ?_
  obtain ⟨y, H1, I1, rel, a, rfl, ⟨xs0, hx0⟩, q⟩ := hh
  cases rel
  obtain ⟨its, r, pl, hz⟩ := I1.list hx0
  refine wpAny_pyIter_list pl.isList ?_
  -- the iterator, the list, the frame
  have I2 := I1.kept (h' := s1.heap.push { cls := .type "list_iterator", data := .fields #[.ref a, .int 0 0] }) (t' := s1.toks) fun b u e => Heap.get?_push_of_some _ e
  have hit : (s1.heap.push { cls := .type "list_iterator", data := .fields #[.ref a, .int 0 0] }).IsListIter s1.heap.objs.size a 0 := ⟨_, Heap.get?_push_size _ rfl, rfl, rfl⟩
  have sz2 : (s1.heap.push { cls := .type "list_iterator", data := .fields #[.ref a, .int 0 0] }).objs.size = s1.heap.objs.size + 1 := Heap.size_push ..
  generalize h2e : s1.heap.push { cls := .type "list_iterator", data := .fields #[.ref a, .int 0 0] } = h2 at *
  show wpAny _ _ (newObj (.type "list") (.seq #[])) _ _ _
  refine wpAny_newObj_type ?_
  have hD : H1 h2.objs.size = none := I2.hok.fresh (Nat.le_refl _)
  have I3 := I2.laid (h' := h2.push { cls := .type "list", dict := none, data := .seq #[] }) (a := h2.objs.size) (o := .lst []) (t' := s1.toks) (fun b u e => Heap.get?_push_of_some _ e) (Nat.le_refl _) ⟨by decide, [], 0, .nil, Heap.get?_push_size _ rfl⟩
  have sz3 : (h2.push { cls := .type "list", dict := none, data := .seq #[] }).objs.size = s1.heap.objs.size + 2 := by rw [Heap.size_push, sz2]
  have lit : s1.heap.objs.size < (h2.push { cls := .type "list", dict := none, data := .seq #[] }).objs.size := by rw [sz3]; omega
  have neD : s1.heap.objs.size ≠ h2.objs.size := by rw [sz2]; exact Nat.ne_of_lt (Nat.lt_succ_self _)
  have fpI : FpOk X pins (upd H1 h2.objs.size (.lst [])) s1.heap.objs.size := I1.fpOk (Nat.le_refl _) (by rw [upd_ne neD]; exact I1.hok.fresh (Nat.le_refl _))
  refine newEnv_comp ?_
  have B0 := block_start (fp := [s1.heap.objs.size]) I3 hb hN fun b hb => by rw [List.mem_singleton.mp hb]; exact ⟨fpI, lit⟩
  have hit3 : (pushCells ((h2.push { cls := .type "list", dict := none, data := .seq #[] }).push { cls := .type "dict", data := .dict #[] }) scope.names).IsListIter s1.heap.objs.size a 0 := hit.at fun o e => pushCells_keeps _ _ _ _ (Heap.get?_push_of_some _ (Heap.get?_push_of_some _ e))
  have P3 := I3.pin p (List.mem_append_left _ hp2)
  have ltp : p.1 < s1.heap.objs.size := Heap.lt_size (I1.pin p (List.mem_append_left _ hp2)).1
  have npI : p.1 ≠ s1.heap.objs.size := Nat.ne_of_lt ltp
  have ltp3 : p.1 < (h2.push { cls := .type "list", dict := none, data := .seq #[] }).objs.size := Nat.lt_trans ltp lit
  generalize h3e : (h2.push { cls := .type "list", dict := none, data := .seq #[] }) = h3 at *
  generalize hCl : cellsFrom (h3.objs.size + 1) scope.names (cloFrom X.env.cells scope.names []) = cl3 at *
  generalize hXb : X.blk { heap := h3, gens := s1.gens, drawn := s1.drawn, toks := s1.toks, os := s1.os } (upd H1 h2.objs.size (.lst [])) scope (compEnvC scope cl3 h3.objs.size X.env) [s1.heap.objs.size] = Xb at *
  have B1 : L2.Inv Xb [p] (L2.wipe σ (own.map (·.2))) (upd H1 h2.objs.size (.lst [])) { heap := pushCells (h3.push { cls := .type "dict", data := .dict #[] }) scope.names, gens := s1.gens, drawn := s1.drawn, toks := s1.toks, os := s1.os } := { B0 with
    pin := fun q hq => by
      have hq : q = p := by
        subst hXb
        simpa using hq
      subst hq
      refine ⟨pushCells_keeps _ _ _ _ (Heap.get?_push_of_some _ P3.1), P3.2.1, ?_, ?_, P3.2.2.2.2⟩
      · subst hXb
        exact Nat.ne_of_lt ltp3
      · subst hXb
        intro z
        rcases I3.ok.stk with e | ⟨e, e2⟩
        · have z : q.1 ∈ frs X.stack := z
          rw [e] at z
          exact P3.2.2.2.1 z
        · have z : q.1 ∈ frs X.stack := z
          rw [e] at z
          have z : q.1 ∈ (X.env :: X.outer).filterMap (fun x => x.frame) := z
          rw [List.filterMap_cons, e2] at z
          rcases List.mem_cons.mp z with z | z
          · exact P3.2.2.1 z
          · exact P3.2.2.2.1 z }
  obtain ⟨Wm, ⟨m0, hw0⟩, hstep⟩ := q h2.objs.size hD
  have hK : Xb.K = X.K := by subst hXb; rfl
  have hA : Xb.A = X.A := by subst hXb; rfl
  have hP : Xb.prog = X.prog := by subst hXb; rfl
  have hW : Xb.w = X.w := by subst hXb; rfl
  have hex : s1.heap.objs.size ∈ Xb.ex := by subst hXb; exact List.mem_singleton.mpr rfl
  have hpn : Xb.pn = [] := by subst hXb; rfl
  have hloc : Xb.env.locals = h3.objs.size := by subst hXb; rfl
  have hfs : Xb.fs = frs X.stack := by subst hXb; rfl
  have hH0 : Xb.H_0 = upd H1 h2.objs.size (.lst []) := by subst hXb; rfl
  have hs0 : Xb.s_0 = { heap := h3, gens := s1.gens, drawn := s1.drawn, toks := s1.toks, os := s1.os } := by subst hXb; rfl
  have hexx : Xb.ex = [s1.heap.objs.size] := by subst hXb; rfl
  have env_eq : compEnvC scope cl3 h3.objs.size X.env = Xb.env := by subst hXb; rfl
  have gXb : ∀ {e : Expr} {t : TG}, (∀ s H C cl fp, PG (X.blk s H scope (compEnvC scope cl C X.env) fp) e t) → PG Xb e t := fun f => by subst hXb; exact f _ _ _ _ _
  have tXb : ∀ {e : List Expr} {t : TT}, (∀ s H C cl fp, PTs (X.blk s H scope (compEnvC scope cl C X.env) fp) e t) → PTs Xb e t := fun f => by subst hXb; exact f _ _ _ _ _
  have eXb : ∀ {e : Expr} {t : TE}, (∀ s H C cl fp, PE (X.blk s H scope (compEnvC scope cl C X.env) fp) e t) → PE Xb e t := fun f => by subst hXb; exact f _ _ _ _ _
  have xXb : ∀ e s, Xb.xe e s ↔ False := fun e s => by subst hXb; exact Iff.rfl
  have itfp : ∀ {pins : List (Addr × Obj)} {σ : L2.St} {H : Hp} {s : Shared}, L2.Inv Xb pins σ H s → H s1.heap.objs.size = none → (∀ q ∈ pins, q.1 ≠ s1.heap.objs.size) → FpOk Xb pins H s1.heap.objs.size := fun IB hn hq =>
    ⟨hn, (IB.ok.exf _ hex).1, IB.ok.exfs _ hex, .inl hex, fun x c e => (IB.ok.exf _ hex).2 x c e, fun q hq2 => by rw [hpn] at hq2; exact hq q hq2⟩
  have go : codeAny (model X.prog X.w) X.A (.compLoop (.ListComp elt [{ target := tg, iter := iter, ifs := ifs, is_async := 0 }] scope pos) 0 (.ref s1.heap.objs.size) (.ref h2.objs.size) (compEnvC scope cl3 h3.objs.size X.env)) (compPost (model X.prog X.w) X.A X.xe none (EP X pins σ Q) (.ref h2.objs.size) h3.objs.size)
      { heap := pushCells (h3.push { cls := .type "dict", data := .dict #[] }) scope.names, gens := s1.gens, drawn := s1.drawn, toks := s1.toks, os := s1.os } := by
    refine compLoop_any (fun n s => ∃ i H, Wm i n H ∧ L2.Inv Xb [p] (L2.wipe σ (own.map (·.2))) H s ∧ s.heap.IsListIter s1.heap.objs.size a i ∧ H s1.heap.objs.size = none) (fun n s ⟨i, H, hw, IB, hl, hn⟩ => ?_) m0 ⟨0, _, hw0, B1, hit3, fpI.1⟩
    have hpin := IB.pin p (List.mem_append_right _ (List.mem_singleton.mpr rfl))
    have fpB := itfp IB hn (fun q hq => by rw [List.mem_singleton.mp hq]; exact npI)
    rcases hstep i n H hw with ⟨⟨xs, hx, hle⟩, hq⟩ | ⟨⟨xs, x, hx, hxi⟩, Nx, hNx, hturn⟩
    · -- the end
      obtain ⟨its', r', pl', _⟩ := IB.list (by rw [hK]; exact hx)
      have hot' : HotX.HotAt X.A p.1 s.heap := by
        obtain ⟨a1, vs, a2, a3⟩ := hp1
        exact ⟨a1, p.2, vs, hpin.1, a2, a3⟩
      refine pyNext_list_end_hot hot' npI hl pl'.isList (by
        have := r'.length
        apply Array.getElem?_eq_none
        simp only [List.size_toArray]
        omega) fun h' ext => ?_
      have IB' := IB.turned (h' := h') (t' := s.toks) (it := s1.heap.objs.size) (fun b o hb e => ext b o hb e) hn fpB.2.1 (.inl hex) fpB.2.2.2.2.1 (fun q hq => fpB.2.2.2.2.2 q hq)
      have hb := IB'.base
      rw [hfs, hH0, hs0, hexx] at hb
      have IX := I3.call' (H' := H) (s' := { heap := h', gens := s.gens, drawn := s.drawn, toks := s.toks, os := s.os }) (ch := [s1.heap.objs.size]) (by have := IB'.os; rw [hs0] at this; exact this) hb (by rw [← hP, ← hW]; exact IB'.hok) IB'.bare fun b hb => by
        rw [List.mem_singleton.mp hb]
        exact ⟨fpI.2.2.2.1, fpI.2.1, fpI.2.2.2.2.1, fpI.2.2.2.2.2⟩
      have hfree : H h3.objs.size = none := by have := IB'.free; rw [hloc] at this; exact this
      have fpC : FpOk X pins H h3.objs.size := I3.fpOk (Nat.le_refl _) hfree
      obtain ⟨m, hm, _⟩ := IB'.loc
      rw [hloc] at hm
      refine ⟨m, hm, fun h'' sb => ?_⟩
      exact ⟨.ref h2.objs.size, H, IX.turned (it := h3.objs.size) (fun b o hb e => by rw [sb.2 b hb]; exact e) hfree fpC.2.1 fpC.2.2.2.1 fpC.2.2.2.2.1 fpC.2.2.2.2.2, rfl, hq⟩
    · -- a turn
      obtain ⟨its', r', pl', _⟩ := IB.list (by rw [hK]; exact hx)
      obtain ⟨u, hu, ru⟩ := r'.get hxi
      refine wpAny_pyNext_list_item hl pl'.isList (by simpa using hu) fun h' hl' sb => ?_
      have IB1 := IB.turned (h' := h') (t' := s.toks) (it := s1.heap.objs.size) (fun b o hb e => by rw [sb.2 b hb]; exact e) hn fpB.2.1 (.inl hex) fpB.2.2.2.2.1 (fun q hq => fpB.2.2.2.2.2 q hq)
      obtain ⟨oi, gi1, gi2, gi3⟩ := hl'
      refine go_of gi1 gi2 gi3 (by decide) ?_
      have IB2 := IB1.pinned (fp := [s1.heap.objs.size]) (fun b hb => by rw [List.mem_singleton.mp hb]; exact itfp IB1 hn (fun q hq => by rw [List.mem_singleton.mp hq]; exact npI)) fun b hb => by
        rw [List.mem_singleton.mp hb]
        exact ⟨oi, gi1, fun v z => by rw [gi3] at z; cases z⟩
      have inP : (s1.heap.objs.size, oi) ∈ [p] ++ pinsAt [s1.heap.objs.size] h' := List.mem_append_right _ (mem_pinsAt (List.mem_singleton.mpr rfl) gi1)
      rw [env_eq, ← hP, ← hW, ← hA]
      refine thnF (wpAny_mono ((gXb hg).run _ _ _ _ x u _ IB2 ru (hturn x H ⟨rfl, fun ys hy => ?_⟩)) (fun _ _ z => z) fun e s z => (xXb e s).mp z) fun _ s3 hh3 => ?_
      · have := IB.list_inj (by rw [hK]; exact hx) (by rw [hK]; exact hy)
        rw [← this]
        exact hxi
      obtain ⟨σ2, H2, J2, hw2, q2⟩ := hh3
      refine thnF (wpAny_mono ((tXb ht).run _ _ _ _ _ J2 q2) (fun _ _ z => z) fun e s z => (xXb e s).mp z) fun ok s4 hh4 => ?_
      obtain ⟨H3, J3, q3⟩ := hh4
      have fin : ∀ {pins' : List (Addr × Obj)} {H' : Hp} {s' : Shared}, pins' = [p] ++ pinsAt [s1.heap.objs.size] h' → L2.Inv Xb pins' σ2 H' s' → Nx H' → ∃ m, m < n ∧ ∃ i H, Wm i m H ∧ L2.Inv Xb [p] (L2.wipe σ (own.map (·.2))) H s' ∧ s'.heap.IsListIter s1.heap.objs.size a i ∧ H s1.heap.objs.size = none := fun {pins' H' s'} ep J hx' => by
        obtain ⟨m', hm', hw'⟩ := hNx H' hx'
        subst ep
        have pinI := J.pin (s1.heap.objs.size, oi) (List.mem_append_right _ inP)
        refine ⟨m', hm', i + 1, H', hw', ?_, ⟨oi, pinI.1, gi2, gi3⟩, pinI.2.1⟩
        have J' := J.unpinned (pins := [p])
        refine J'.weak ?_ fun j v hj => ?_
        · rw [← hw2, wipe_length]
        · rw [← hw2] at hj
          exact (wipe_some hj).1
      cases ok with
      | false =>
        rw [if_neg Bool.false_ne_true] at q3 ⊢
        exact fin rfl J3 q3
      | true =>
        rw [if_pos rfl] at q3 ⊢
        refine thnF (wpAny_mono ((eXb he).run _ _ _ _ _ J3 q3) (fun _ _ z => z) fun e s z => (xXb e s).mp z) fun v s5 hh5 => ?_
        obtain ⟨y, H4, J4, ry, acc, hacc, hlen, hnx⟩ := hh5
        exact app_ok J4 hacc hlen ry fun s' J5 => fin rfl J5 hnx
  refine codeAny_compStart_list go (wpAny_pyIter_listiter hit3 go)⟩
end
end Pz

namespace Pz
open PySem PySem.Spec PyProof.Rows L2
theorem call_hp {CX : CXT} {P : Program} {w : World} {K : PySem.W.Frag} {mg : Str → Option Value} {base : Heap} {k : Nat} {f : Addr} {name qual : Str} {params : Arguments} {body : List Stmt} {scope : Scope} {dV kV doc pm cdv ct oc : Value} {an od : Option Addr} {osl : Array (Option Value)} {N ps : List Str}
    {A : Around} {outer : List PySem.Env} {s : Shared} {H : Hp} {args : Args} {us : List Value} {vs : List V} {Q : VK} {E : XK} {p : Addr × Obj} {t : TS}
    (hf : List.lookup f K = some { cls := oc, dict := od, data := .func (PySem.W.fnOf name qual params body scope dV kV doc pm an cdv ct), slots := osl }) (hc : PySem.W.codeIn K cdv qual = true) (S : FnScope N ps scope) (hr : L2H.RoomH (k + 1) A) (hot : L2H.Hot1 A p) (pok : L2H.PinOk outer H s p)
    (e0 : Env0 P w K mg base A outer s H) (hb : BindsTo s (PySem.W.fnOf name qual params body scope dV kV doc pm an cdv ct) args (ps.zip us)) (hv : Vals vs us) (hl : vs.length = ps.length) (hbody : PSs (L2H.cxH CX P w K mg base N qual scope f cdv A outer s H E p) body t)
    (ht : t { nx := fun x H' => Q V.non H', rt := Q } (L2.start N vs) H) : codeAny (model P w) A (Code.call (.ref f) args) (CR CX outer P w H s Q E) s := by
  have kin : K.In s.heap := fun a o e => (e0.bs a o (e0.mod.kin a o e)).1
  have hget := kin f _ hf
  refine codeAny_call_function hr.depth hget rfl S.co S.gen rfl (PySem.W.codeRec_of kin hc) ?_
  refine hb _ _ _ _ ?_
  have nl : s.heap.NoLimit := e0.mod.nolimit.keeps fun b o e => (e0.bs b o e).1
  refine wpAny_newFunctionEnv_cells S.kind (fun x hx => ?_) fun env he s1 hin => ?_
  · have hx1 : x.1 ∈ ps := (List.of_mem_zip hx).1
    rcases S.par x.1 hx1 with z | z
    · exact .inl z
    · exact .inr ⟨z, PySem.W.cellsFrom_some _ _ _ (.inl z)⟩
  · have hE : env = PyProof.Rows.envOfC qual scope s.heap.objs.size f cdv := he
    subst hE
    refine ⟨nl.keeps hin.toInCall.keep, codeAny_func ?_⟩
    have I := L2H.inv_startH (CX := CX) (E := E) (K := K) (mg := mg) (base := base) (w := w) (P := P) (A := A) (outer := outer) (f := f) (cd := cdv) (qual := qual) S pok e0 hl hv hin
    refine wpAny_mono (hbody.run [] s1 _ H _ I ht) (fun fl s' hs => ?_) fun e s' z => z
    have fin : ∀ (v : V) (σ' : L2.St) (H' : Hp) (u : Value), L2.Inv (L2H.cxH CX P w K mg base N qual scope f cdv A outer s H E p) [] σ' H' s' → L2.RelV v u → Q v H' → CE outer P w H s Q u s' := fun v σ' H' u J r q => by
      have hos := J.os
      exact ⟨v, H', hos, J.bare, J.base, J.hok, r, q⟩
    cases fl with
    | next =>
      obtain ⟨σ', H', J, q⟩ := hs
      exact fin .non σ' H' .none J rfl q
    | brk => obtain ⟨σ', H', J, q⟩ := hs; exact q.elim
    | cont => obtain ⟨σ', H', J, q⟩ := hs; exact q.elim
    | ret u =>
      obtain ⟨v, σ', H', J, r, q⟩ := hs
      exact fin v σ' H' u J r q
theorem run_hp {X : Cx} {k : Nat} {f : Addr} {name qual : Str} {params : Arguments} {body : List Stmt} {scope : Scope} {dV kV doc pm cdv ct oc : Value} {an od : Option Addr} {osl : Array (Option Value)} {N ps : List Str} {pins : List (Addr × Obj)} {σ : L2.St} {s : Shared} {H : Hp} {us : List Value} {vs : List V} {Q : VK} {p : Addr × Obj}
    (hf : List.lookup f X.K = some { cls := oc, dict := od, data := .func (PySem.W.fnOf name qual params body scope dV kV doc pm an cdv ct), slots := osl }) (hc : PySem.W.codeIn X.K cdv qual = true) (S : FnScope N ps scope) (hr : L2H.RoomH (k + 1) X.A) (hot : L2H.Hot1 X.A p) (hp : p ∈ X.pn)
    (hb : L2.Binds X.K (PySem.W.fnOf name qual params body scope dV kV doc pm an cdv ct) ps []) (hl : vs.length = ps.length) (I : L2.Inv X pins σ H s) (hv : Vals vs us)
    (hbody : ∀ s, ∃ t : TS, PSs (L2H.cxH (L2N.CX X.prog X.w) X.prog X.w X.K X.mg X.base N qual scope f cdv X.A X.stack s H (fun _ _ _ => False) p) body t ∧ t { nx := fun x H' => Q V.non H', rt := Q } (L2.start N vs) H) :
    wpAny (model X.prog X.w) X.A (call (.ref f) us) (EP X pins σ Q) X.xe s := by
  obtain ⟨t, h1, h2⟩ := hbody s
  have P := I.pin p (List.mem_append_left _ hp)
  have hlu : us.length = ps.length := (hv.length).symm.trans hl
  have hbi := hb s us I.kIn (by rw [List.append_nil]; exact hlu)
  rw [List.append_nil] at hbi
  have pok : L2H.PinOk X.stack H s p := ⟨P.1, P.2.1, fun z => by
    rcases I.ok.stk with e | ⟨e, e2⟩
    · rw [e] at z
      exact P.2.2.2.1 z
    · rw [e] at z
      have z : p.1 ∈ (X.env :: X.outer).filterMap (fun x => x.frame) := z
      rw [List.filterMap_cons, e2] at z
      rcases List.mem_cons.mp z with z | z
      · exact P.2.2.1 z
      · exact P.2.2.2.1 z, P.2.2.2.2⟩
  refine wpAny_call (codeAny_mono (call_hp hf hc S hr hot pok I.env0 hbi hv hl h1 h2) ?_)
  intro r s' hr
  cases r with
  | error e =>
    obtain ⟨_, _, _, _, _, _, _, _, _, _, _, _, z⟩ := hr
    exact z.elim
  | ok fl =>
    cases fl with
    | ret u => exact I.after hr
    | next => exact hr.elim
    | brk => exact hr.elim
    | cont => exact hr.elim
end Pz

namespace Pz
open PySem PySem.Spec PyProof.Rows L2
/-- the same context but for what errors are wished -/
abbrev noxe (X : Cx) : Cx := { X with xe := fun _ _ => False }
theorem inv_to {X : Cx} {pins : List (Addr × Obj)} {σ : L2.St} {H : Hp} {s : Shared} (I : L2.Inv X pins σ H s) : L2.Inv (noxe X) pins σ H s :=
  ⟨⟨I.ok.mod, I.ok.kind, I.ok.glob, I.ok.blt, I.ok.above, I.ok.inj, I.ok.has, I.ok.cab, I.ok.hd, I.ok.frames, I.ok.stk, I.ok.exf, I.ok.bs, I.ok.bsz, I.ok.noex, I.ok.exfs, I.ok.funs, I.ok.frf⟩, I.os, I.bare, I.base, I.loc, I.cell, I.free, I.freeC, I.pin, I.hok, I.len⟩
theorem inv_from {X : Cx} {pins : List (Addr × Obj)} {σ : L2.St} {H : Hp} {s : Shared} (I : L2.Inv (noxe X) pins σ H s) : L2.Inv X pins σ H s :=
  ⟨⟨I.ok.mod, I.ok.kind, I.ok.glob, I.ok.blt, I.ok.above, I.ok.inj, I.ok.has, I.ok.cab, I.ok.hd, I.ok.frames, I.ok.stk, I.ok.exf, I.ok.bs, I.ok.bsz, I.ok.noex, I.ok.exfs, I.ok.funs, I.ok.frf⟩, I.os, I.bare, I.base, I.loc, I.cell, I.free, I.freeC, I.pin, I.hok, I.len⟩
theorem isE_hot {X : Cx} {a D : Addr} {oe : Obj} (hA : X.A.handled = some (.ref a)) (hc : X.calm = false) (hp : X.pn = [(a, oe)]) (E : ExcC X.K D) (hz : Zc (.ref D) none oe) (hd : ∃ vs, oe.data = .fields vs) : CallR X (.builtin "isinstance") (rIsE X.K D a) := by
  have e : (noxe X).suite a ((a, oe) :: []) = noxe X := by
    obtain ⟨prog, w, K, mg, base, A, N, s0, H0, env, outer, stack, ex, fn, calm, pn, xe⟩ := X
    obtain ⟨hh, dep, fr, gu, un⟩ := A
    subst hA hc hp
    rfl
  have k := call_isE (X := noxe X) (a := a) (D := D) (oe := oe) (pn := []) E hz hd
  rw [e] at k
  intro pins s σ H xs us Q I hv h
  refine wpAny_mono (k pins s σ H xs us Q (inv_to I) hv h) (fun v s' hh => ?_) fun _ _ z => z.elim
  obtain ⟨y, H', I', r, q⟩ := hh
  exact ⟨y, H', inv_from I', r, q⟩
def wWords : List Str := ["range", "form", "none", "refused", "much"]
def wordB (bs : List Bool) : Str := if (bs.filter id).length ≠ 1 then "many" else wWords.getD (bs.findIdx id) "many"
def wN : List Str := ["e", "kinds", "one"]
def wNames : List (Str × NameKind) := [("e", .local), ("kinds", .local), ("isinstance", .globalImplicit), ("OutOfRange", .globalImplicit), ("Malformed", .globalImplicit), ("NotThere", .globalImplicit), ("Refused", .globalImplicit), ("TooMuch", .globalImplicit), ("len", .globalImplicit)]
def oneNames : List (Str × NameKind) := [(".0", .local), ("one", .local)]
/-- the classes that the words name -/
structure WCls (X : Cx) (Ce : Addr) (bs : List Bool) : Prop where
  E : ExcC X.K Ce
  c1 : ∃ D, X.mg "OutOfRange" = some (.ref D) ∧ PySem.W.kitOne X.K (.ref Ce) (.ref D) = bs[0]?
  c2 : ∃ D, X.mg "Malformed" = some (.ref D) ∧ PySem.W.kitOne X.K (.ref Ce) (.ref D) = bs[1]?
  c3 : ∃ D, X.mg "NotThere" = some (.ref D) ∧ PySem.W.kitOne X.K (.ref Ce) (.ref D) = bs[2]?
  c4 : ∃ D, X.mg "Refused" = some (.ref D) ∧ PySem.W.kitOne X.K (.ref Ce) (.ref D) = bs[3]?
  c5 : ∃ D, X.mg "TooMuch" = some (.ref D) ∧ PySem.W.kitOne X.K (.ref Ce) (.ref D) = bs[4]?
  len : bs.length = 5
  mi : X.mg "isinstance" = none
  ml : X.mg "len" = none
section
variable {X : Cx} {a Ce : Addr} {oe : Obj} {bs : List Bool}
theorem is_reads {x : Str} {p q r t : Pos} {D : Addr} {b : Bool} (hA : X.A.handled = some (.ref a)) (hc : X.calm = false) (hp : X.pn = [(a, oe)]) (W : WCls X Ce bs) (hz : Zc (.ref Ce) none oe) (hd : ∃ vs, oe.data = .fields vs) (hN : X.N = wN) (hS : X.env.scope.names = wNames)
    (hx : wNames.lookup x = some .globalImplicit) (dx : (x == ("__debug__" : Str)) = false) (hm : X.mg x = some (.ref D)) (hk : PySem.W.kitOne X.K (.ref Ce) (.ref D) = some b) :
    PE X (.Call (.Name "isinstance" p) [.Name "e" q, .Name x r] [] t) (fun σ H Q => σ[0]? = some (some (.ref a)) ∧ Q (.bl b) H) := by
  have g1 : Gl X "isinstance" := by
    show List.lookup _ X.env.scope.names = _
    rw [hS]
    decide +kernel
  have gx : Gl X x := by
    show List.lookup _ X.env.scope.names = _
    rw [hS]
    exact hx
  have v0 : Vis X.env.scope "e" := .inl (by rw [hS]; decide +kernel)
  refine PE.weak (pe_callB (isE_hot hA hc hp W.E hz hd) g1 W.mi (by decide +kernel) (pa_cons (pe_var (i := 0) (by rw [hN]; rfl) v0 (by decide +kernel) (by decide +kernel)) (pa_cons (pe_glob gx hm (v := .ref D) rfl dx) pa_nil rfl) rfl) (by decide) (by decide) rfl rfl) fun σ H Q h => ?_
  exact ⟨.ref a, h.1, .ref D, .ref D, b, rfl, fun u hu => hu, hk, h.2⟩
/-- the first row: which classes it is of -/
theorem kinds_reads {p1 p2 p3 p4 q1 q2 q3 q4 r1 r2 r3 r4 s1 s2 s3 s4 t1 t2 t3 t4 y : Pos} (hA : X.A.handled = some (.ref a)) (hc : X.calm = false) (hp : X.pn = [(a, oe)]) (W : WCls X Ce bs) (hz : Zc (.ref Ce) none oe) (hd : ∃ vs, oe.data = .fields vs) (hN : X.N = wN) (hS : X.env.scope.names = wNames) :
    PE X (.List [.Call (.Name "isinstance" p1) [.Name "e" p2, .Name "OutOfRange" p3] [] p4, .Call (.Name "isinstance" q1) [.Name "e" q2, .Name "Malformed" q3] [] q4, .Call (.Name "isinstance" r1) [.Name "e" r2, .Name "NotThere" r3] [] r4,
      .Call (.Name "isinstance" s1) [.Name "e" s2, .Name "Refused" s3] [] s4, .Call (.Name "isinstance" t1) [.Name "e" t2, .Name "TooMuch" t3] [] t4] y) (fun σ H Q => σ[0]? = some (some (.ref a)) ∧ ∀ q, H q = none → Q (.ref q) (upd H q (.lst (bs.map V.bl)))) := by
  obtain ⟨D1, m1, k1⟩ := W.c1
  obtain ⟨D2, m2, k2⟩ := W.c2
  obtain ⟨D3, m3, k3⟩ := W.c3
  obtain ⟨D4, m4, k4⟩ := W.c4
  obtain ⟨D5, m5, k5⟩ := W.c5
  have hl := W.len
  match bs, hl, k1, k2, k3, k4, k5 with
  | [b1, b2, b3, b4, b5], _, k1, k2, k3, k4, k5 =>
    have f := fun {x : Str} {p q r t : Pos} {D : Addr} {b : Bool} => is_reads (x := x) (p := p) (q := q) (r := r) (t := t) (D := D) (b := b) hA hc hp W hz hd hN hS
    refine PE.weak (pe_lst (pa_cons (f (by decide +kernel) (by decide +kernel) m1 k1) (pa_cons (f (by decide +kernel) (by decide +kernel) m2 k2) (pa_cons (f (by decide +kernel) (by decide +kernel) m3 k3) (pa_cons (f (by decide +kernel) (by decide +kernel) m4 k4) (pa_cons (f (by decide +kernel) (by decide +kernel) m5 k5) pa_nil rfl) rfl) rfl) rfl) rfl)) fun σ H Q h => ?_
    exact ⟨h.1, h.1, h.1, h.1, h.1, (by decide : 5 ≤ sizeLine), h.2⟩
/-- the second row: how many -/
theorem count_reads {p1 p2 p3 p4 p5 p6 p7 p8 p9 : Pos} {j : Nat} {scope : Scope} (hot : L2H.HotC X) (hN : X.N = wN) (hS : X.env.scope.names = wNames) (hK : scope.kind = .function) (hO : scope.names = oneNames) (ml : X.mg "len" = none) :
    PT X (.Compare (.Call (.Name "len" p1) [.ListComp (.Name "one" p2) [{ target := .Name "one" p3, iter := .Name "kinds" p4, ifs := [.Name "one" p5], is_async := 0 }] scope p6] [] p7) [.NotEq] [.Constant (.int 1) j p8] p9)
      (fun σ H Q => ∃ q, σ = [some (.ref a), some (.ref q), none] ∧ H q = some (.lst (bs.map V.bl)) ∧ bs.length = 5 ∧ ∀ D, H D = none → Q (decide ((bs.filter id).length ≠ 1)) (upd H D (.lst ((bs.filter id).map V.bl)))) := by
  have gl : Gl X "len" := by
    show List.lookup _ X.env.scope.names = _
    rw [hS]
    decide +kernel
  have v1 : Vis X.env.scope "kinds" := .inl (by rw [hS]; decide +kernel)
  have nd : X.N.Nodup := by rw [hN]; decide +kernel
  have hb : BlkOk X.N X.env.scope scope [("one", 2)] := blkOk_by (by
    unfold blkC
    rw [hN, hS, hO, hK]
    decide +kernel)
  have vis : ∀ s H C cl fp, Vis (X.blk s H scope (compEnvC scope cl C X.env) fp).env.scope "one" := fun s H C cl fp => .inl (by
    show List.lookup _ (relabel scope X.env).names = _
    unfold relabel
    rw [hO]
    rfl)
  have pv : ∀ s H C cl fp {pos : Pos}, PE (X.blk s H scope (compEnvC scope cl C X.env) fp) (.Name "one" pos) (tVar 2) := fun s H C cl fp {pos} => pe_var (by
    show X.N[2]? = _
    rw [hN]
    rfl) (vis s H C cl fp) (by decide +kernel) (by decide +kernel)
  refine PT.weak (pt_cmpR op_ne (pe_callB call_len gl ml (by decide +kernel) (pa_cons (pe_lcH (own := [("one", 2)]) (g := gName 2) (tt := fun σ H Q => tVar 2 σ H fun x H' => ∃ k, TruV X.K x H' k ∧ Q k H') (te := tVar 2) hot nd (pe_var (i := 1) (by rw [hN]; rfl) v1 (by decide +kernel) (by decide +kernel)) hb (fun s H C cl fp => pg_name (i := 2) (by
      show X.N.Nodup
      exact nd) (by
      show X.N[2]? = _
      rw [hN]
      rfl) ((vis s H C cl fp).elim .inl fun z => z.elim .inr fun z => by
        have := vis s H C cl fp
        rcases this with y | y | y
        · exact .inl y
        · exact .inr y
        · exfalso
          have e : List.lookup ("one" : Str) (X.blk s H scope (compEnvC scope cl C X.env) fp).env.scope.names = some .local := by
            show List.lookup _ (relabel scope X.env).names = _
            unfold relabel
            rw [hO]
            rfl
          rw [e] at y
          cases y) (.inr (by
        show List.lookup _ (relabel scope X.env).names = _
        unfold relabel
        rw [hO]
        rfl))) (fun s H C cl fp => pts_one (pt_truth (pv s H C cl fp) (by intro _; rfl))) (fun s H C cl fp => pv s H C cl fp) rfl) pa_nil rfl) (by decide) (by decide) rfl rfl) pe_int rfl) fun σ H Q h => ?_
  obtain ⟨q, rfl, hq, hl, h⟩ := h
  refine ⟨.ref q, rfl, q, rfl, ⟨_, .of hq⟩, fun D hD => ?_⟩
  have nq : q ≠ D := fun z => by rw [z, hD] at hq; cases hq
  refine lc_list (K := X.K) (g := gName 2) (tt := fun σ H Q => tVar 2 σ H fun x H' => ∃ k, TruV X.K x H' k ∧ Q k H') (te := tVar 2) (vs := [2]) (σ := [some (.ref a), some (.ref q), none]) (Qd := fun H1 => ∃ (x : V) (n : Nat), [V.ref D] = [x] ∧ LenV X.K x H1 n ∧ rNe (V.int ↑n) (V.int 1) H1 (fun x H' => ∃ k, x = .bl k ∧ Q k H')) (Pv := fun i H' => H' = upd H D (.lst (((bs.take i).filter id).map V.bl))) rfl (fun i H' _ e => by rw [e]; exact .of (by rw [upd_ne nq]; exact hq)) (fun i x H' hx e => ?_) fun H' e => ?_
  · rw [List.getElem?_map] at hx
    cases hb : bs[i]? with
    | none => rw [hb] at hx; cases hx
    | some b =>
      rw [hb] at hx
      cases hx
      have ht : bs.take (i + 1) = bs.take i ++ [b] := by rw [List.take_add_one, hb]; rfl
      refine ⟨rfl, .bl b, rfl, b, rfl, ?_⟩
      cases b with
      | false =>
        rw [if_neg Bool.false_ne_true, e, ht, List.filter_append]
        simp
      | true =>
        rw [if_pos rfl]
        refine ⟨.bl true, rfl, _, by rw [e]; exact upd_same, ?_, ?_⟩
        · rw [List.length_map]
          have : ((bs.take i).filter id).length ≤ bs.length := Nat.le_trans (List.length_filter_le _ _) (List.length_take_le' _ _)
          rw [hl] at this
          exact Nat.lt_of_le_of_lt this (by decide)
        · rw [e, ht, List.filter_append]
          funext z
          unfold upd
          split
          · simp
          · rfl
  · rw [List.length_map, List.take_length] at e
    refine ⟨.ref D, _, rfl, .inl ⟨_, .of (by rw [e]; exact upd_same), rfl⟩, rfl, decide ((bs.filter id).length ≠ 1), ?_, ?_⟩
    · rw [List.length_map]
      refine congrArg V.bl ?_
      by_cases z : (bs.filter id).length = 1
      · rw [z]
        decide
      · have z2 : ¬ (V.int ((bs.filter id).length : Int) = V.int 1) := fun y => by
          injection y with y
          omega
        rw [decide_eq_false z2, decide_eq_true z]
        rfl
    · rw [e]
      exact h D hD
/-- the third row: the word -/
theorem word_reads {p1 p2 p3 p4 p5 p6 p7 p8 p9 p10 p11 : Pos} {j1 j2 j3 j4 j5 j6 : Nat} (hN : X.N = wN) (hS : X.env.scope.names = wNames) (hline : (p8.endLine == p10.line) = true) :
    PE X (.Subscript (.List [.Constant (.str "range") j1 p1, .Constant (.str "form") j2 p2, .Constant (.str "none") j3 p3, .Constant (.str "refused") j4 p4, .Constant (.str "much") j5 p5] p6) (.Call (.Attribute (.Name "kinds" p7) "index" p8) [.Constant (.bool true) j6 p9] [] p10) p11)
      (fun σ H Q => ∃ q, σ = [some (.ref a), some (.ref q), none] ∧ H q = some (.lst (bs.map V.bl)) ∧ bs.length = 5 ∧ (bs.filter id).length = 1 ∧ ∀ D, H D = none → Q (.str (wordB bs)) (upd H D (.lst (wWords.map V.str)))) := by
  have v1 : Vis X.env.scope "kinds" := .inl (by rw [hS]; decide +kernel)
  have hfew : ((backTo p10 (starEach [Expr.Constant (.bool true) j6 p9] X.env)).all (fun x => !x.1) && (backToKw p10 (keywordEach [] X.env)).all (fun x => x.1.isSome)
      && decide ([Expr.Constant (.bool true) j6 p9].length + ([] : List Keyword).length + (if ([] : List Keyword).isEmpty then 0 else 1) < 30)) = true := rfl
  refine PE.weak (pe_ix ix_seq (pe_lst (pa_cons pe_str (pa_cons pe_str (pa_cons pe_str (pa_cons pe_str (pa_cons pe_str pa_nil rfl) rfl) rfl) rfl) rfl)) (pe_bm PySem.F.plainAttrs_list PySem.F.slot_list_index PySem.F.type_list_index mt_index (pe_var (i := 1) (by rw [hN]; rfl) v1 (by decide +kernel) (by decide +kernel)) (pa_cons pe_bl pa_nil rfl) (base_ok rfl) hfew hline rfl rfl) (fun _ _ => rfl)) fun σ H Q h => ?_
  obtain ⟨q, rfl, hq, hl, h1, h⟩ := h
  refine ⟨(by decide : 5 ≤ sizeLine), fun D hD => ?_⟩
  have nq : q ≠ D := fun z => by rw [z, hD] at hq; cases hq
  have hq' : upd H D (.lst (wWords.map V.str)) q = some (.lst (bs.map V.bl)) := by rw [upd_ne nq]; exact hq
  refine ⟨.ref q, rfl, .inl ⟨rfl, _, .of hq'⟩, ?_⟩
  have an : bs.any id = true := by
    cases z : bs.any id with
    | true => rfl
    | false =>
      have : bs.filter id = [] := List.filter_eq_nil_iff.mpr fun x hx y => by
        have := List.any_eq_false.mp z x hx
        exact this y
      rw [this] at h1
      cases h1
  have hi : bs.findIdx id < bs.length := List.findIdx_lt_length.mpr (by
    obtain ⟨z, hz, pz⟩ := List.any_eq_true.mp an
    exact ⟨z, hz, pz⟩)
  have hg : bs[bs.findIdx id]? = some true := by
    rw [List.getElem?_eq_getElem hi]
    have := List.findIdx_getElem (w := hi)
    exact congrArg some this
  refine ⟨q, bs.map V.bl, .bl true, bs.findIdx id, .bl true, rfl, rfl, .of hq', rfl, ?_, by rw [List.getElem?_map, hg]; rfl, rfl, fun m z' hm hz => ?_, ?_⟩
  · rw [List.all_map]
    exact List.all_eq_true.mpr fun _ _ => rfl
  · rw [List.getElem?_map] at hz
    cases hb : bs[m]? with
    | none => rw [hb] at hz; cases hz
    | some b =>
      rw [hb] at hz
      cases hz
      have := List.not_of_lt_findIdx hm
      obtain ⟨hm', e'⟩ := List.getElem?_eq_some_iff.mp hb
      rw [e'] at this
      cases b with
      | true => cases this
      | false => rfl
  · have hw : wordB bs = wWords.getD (bs.findIdx id) "many" := if_neg (fun z => z h1)
    rw [hl] at hi
    refine .inl ⟨D, wWords.map V.str, (bs.findIdx id : Nat), .str (wordB bs), rfl, rfl, .of upd_same, ?_, h D hD⟩
    rw [hw]
    generalize bs.findIdx id = k at hi
    match k, hi with
    | 0, _ => rfl
    | 1, _ => rfl
    | 2, _ => rfl
    | 3, _ => rfl
    | 4, _ => rfl
theorem iteT' {b : Bool} {p q : Prop} (h : b = true) (x : p) : if b = true then p else q := by rw [if_pos h]; exact x
theorem iteF' {b : Bool} {p q : Prop} (h : b = false) (x : q) : if b = true then p else q := by rw [if_neg (by rw [h]; exact Bool.false_ne_true)]; exact x
theorem word_body {p1 p2 p3 p4 q1 q2 q3 q4 r1 r2 r3 r4 s1 s2 s3 s4 t1 t2 t3 t4 y z1 z2 : Pos} {a1 a2 a3 a4 a5 a6 a7 a8 a9 b1 b2 b3 : Pos} {i1 i2 : Nat} {scope : Scope} {c1 c2 c3 c4 c5 c6 c7 c8 c9 c10 c11 c12 : Pos} {j1 j2 j3 j4 j5 j6 : Nat}
    (hA : X.A.handled = some (.ref a)) (hot : L2H.HotC X) (hc : X.calm = false) (hp : X.pn = [(a, oe)]) (W : WCls X Ce bs) (hz : Zc (.ref Ce) none oe) (hd : ∃ vs, oe.data = .fields vs) (hN : X.N = wN) (hS : X.env.scope.names = wNames) (hK : scope.kind = .function) (hO : scope.names = oneNames) (hline : (c8.endLine == c10.line) = true) :
    PSs X [.Assign [.Name "kinds" z1] (.List [.Call (.Name "isinstance" p1) [.Name "e" p2, .Name "OutOfRange" p3] [] p4, .Call (.Name "isinstance" q1) [.Name "e" q2, .Name "Malformed" q3] [] q4, .Call (.Name "isinstance" r1) [.Name "e" r2, .Name "NotThere" r3] [] r4,
        .Call (.Name "isinstance" s1) [.Name "e" s2, .Name "Refused" s3] [] s4, .Call (.Name "isinstance" t1) [.Name "e" t2, .Name "TooMuch" t3] [] t4] y) z2,
      .If (.Compare (.Call (.Name "len" a1) [.ListComp (.Name "one" a2) [{ target := .Name "one" a3, iter := .Name "kinds" a4, ifs := [.Name "one" a5], is_async := 0 }] scope a6] [] a7) [.NotEq] [.Constant (.int 1) i1 a8] a9) [.Return (some (.Constant (.str "many") i2 b1)) b2] [] b3,
      .Return (some (.Subscript (.List [.Constant (.str "range") j1 c1, .Constant (.str "form") j2 c2, .Constant (.str "none") j3 c3, .Constant (.str "refused") j4 c4, .Constant (.str "much") j5 c5] c6) (.Call (.Attribute (.Name "kinds" c7) "index" c8) [.Constant (.bool true) j6 c9] [] c10) c11)) c12]
      (fun D σ H => σ = [some (.ref a), none, none] ∧ ∀ H', (∀ b o, H b = some o → H' b = some o) → D.rt (.str (wordB bs)) H') := by
  have nd : X.N.Nodup := by rw [hN]; decide +kernel
  have lk : List.lookup ("kinds" : Str) X.env.scope.names = some .local := by rw [hS]; decide +kernel
  refine PSs.weak (pss_cons (ps_set (i := 1) nd (by rw [hN]; rfl) (.inl lk) (kinds_reads hA hc hp W hz hd hN hS) rfl (.inr lk)) (pss_cons (ps_if (count_reads (a := a) (bs := bs) hot hN hS hK hO W.ml) (pss_cons (ps_ret pe_str) pss_nil) pss_nil) (pss_cons (ps_ret (word_reads (a := a) (bs := bs) hN hS hline)) pss_nil))) fun D σ H h => ?_
  obtain ⟨rfl, h⟩ := h
  refine ⟨rfl, fun q hq => ?_⟩
  refine ⟨q, rfl, upd_same, W.len, fun D2 hD2 => ?_⟩
  have k1 : ∀ b o, H b = some o → upd H q (.lst (bs.map V.bl)) b = some o := fun b o e => by rw [upd_ne (ne_of_none e hq)]; exact e
  have k2 : ∀ b o, upd H q (.lst (bs.map V.bl)) b = some o → upd (upd H q (.lst (bs.map V.bl))) D2 (.lst ((bs.filter id).map V.bl)) b = some o := fun b o e => by rw [upd_ne (ne_of_none e hD2)]; exact e
  by_cases hc1 : (bs.filter id).length ≠ 1
  · refine iteT' (decide_eq_true hc1) ?_
    have hw : wordB bs = "many" := if_pos hc1
    have := h _ (fun b o e => k2 b o (k1 b o e))
    rw [hw] at this
    exact this
  · refine iteF' (decide_eq_false hc1) ?_
    have h1 : (bs.filter id).length = 1 := Classical.byContradiction fun z => hc1 z
    refine ⟨q, rfl, k2 _ _ upd_same, W.len, h1, fun D3 hD3 => h _ fun b o e => ?_⟩
    rw [upd_ne (ne_of_none (k2 b o (k1 b o e)) hD3)]
    exact k2 b o (k1 b o e)
end
end Pz

namespace Pz
open PySem PySem.Spec PyProof.Rows L2
inductive WordBody : List Stmt → Prop where
  | mk {p1 p2 p3 p4 q1 q2 q3 q4 r1 r2 r3 r4 s1 s2 s3 s4 t1 t2 t3 t4 y z1 z2 : Pos} {a1 a2 a3 a4 a5 a6 a7 a8 a9 b1 b2 b3 : Pos} {i1 i2 : Nat} {scope : Scope} {c1 c2 c3 c4 c5 c6 c7 c8 c9 c10 c11 c12 : Pos} {j1 j2 j3 j4 j5 j6 : Nat} (hK : scope.kind = .function) (hO : scope.names = oneNames) (hline : (c8.endLine == c10.line) = true) : WordBody
     [.Assign [.Name "kinds" z1] (.List [.Call (.Name "isinstance" p1) [.Name "e" p2, .Name "OutOfRange" p3] [] p4, .Call (.Name "isinstance" q1) [.Name "e" q2, .Name "Malformed" q3] [] q4, .Call (.Name "isinstance" r1) [.Name "e" r2, .Name "NotThere" r3] [] r4,
        .Call (.Name "isinstance" s1) [.Name "e" s2, .Name "Refused" s3] [] s4, .Call (.Name "isinstance" t1) [.Name "e" t2, .Name "TooMuch" t3] [] t4] y) z2,
      .If (.Compare (.Call (.Name "len" a1) [.ListComp (.Name "one" a2) [{ target := .Name "one" a3, iter := .Name "kinds" a4, ifs := [.Name "one" a5], is_async := 0 }] scope a6] [] a7) [.NotEq] [.Constant (.int 1) i1 a8] a9) [.Return (some (.Constant (.str "many") i2 b1)) b2] [] b3,
      .Return (some (.Subscript (.List [.Constant (.str "range") j1 c1, .Constant (.str "form") j2 c2, .Constant (.str "none") j3 c3, .Constant (.str "refused") j4 c4, .Constant (.str "much") j5 c5] c6) (.Call (.Attribute (.Name "kinds" c7) "index" c8) [.Constant (.bool true) j6 c9] [] c10) c11)) c12]
/-- the def _law_word, as the heap has it -/
structure WordFn (K : PySem.W.Frag) (mg : Str → Option Value) (f : Addr) : Prop where
  mg : mg "_law_word" = some (.ref f)
  kp : PySem.W.keepIn K (.ref f) = true
  fn : ∃ (oc : Value) (od : Option Addr) (name qual : Str) (params : Arguments) (body : List Stmt) (scope : Scope) (dV kV doc pm cdv ct : Value) (an : Option Addr) (osl : Array (Option Value)),
    List.lookup f K = some { cls := oc, dict := od, data := .func (PySem.W.fnOf name qual params body scope dV kV doc pm an cdv ct), slots := osl } ∧ PySem.W.codeIn K cdv qual = true ∧ WordBody body ∧ scope.names = wNames ∧ FnScope wN ["e"] scope ∧ L2.Binds K (PySem.W.fnOf name qual params body scope dV kV doc pm an cdv ct) ["e"] []
section
variable {W : Wd} {Wx : WX} {σ σ' : L2.St} {ρ ρ' : Env} {H H' : Hp} {X : Cx}
theorem suite_word {f a Ce : Addr} {oe : Obj} {pn : List (Addr × Obj)} {bs : List Bool} {i k : Nat} {n : Str} {p q r s : Pos} (F : WordFn X.K X.mg f) (hr : L2H.RoomH (k + 1) X.A) (WC : WCls X Ce bs) (hz : L2N.Zn (.ref Ce) none oe) (hd : ∃ vs, oe.data = .fields vs) (hg : Gl X "_law_word") (hN : X.N[i]? = some n) (hv : Vis X.env.scope n)
    (dn : (n == ("__debug__" : Str)) = false) (dc : (n == ("__classdict__" : Str)) = false) :
    PSs (X.suite a ((a, oe) :: pn)) [.Return (some (.Call (.Name "_law_word" p) [.Name n q] [] r)) s] (fun D σ H => σ[i]? = some (some (.ref a)) ∧ ∀ H', (∀ b o, H b = some o → H' b = some o) → D.rt (.str (wordB bs)) H') := by
  obtain ⟨oc, od, name, qual, params, body, scope, dV, kV, doc, pm, cdv, ct, an, osl, f1, f2, f3, f4, f5, f6⟩ := F.fn
  have zc : Zc (.ref Ce) none oe := ⟨hz.1, hz.2.1⟩
  have h1 : L2H.Hot1 (X.suite a ((a, oe) :: pn)).A (a, oe) := by
    refine ⟨rfl, ?_⟩
    obtain ⟨vs, h2⟩ := hd
    exact ⟨vs, h2, hz.2.2 vs h2⟩
  have he : PE (X.suite a ((a, oe) :: pn)) (.Call (.Name "_law_word" p) [.Name n q] [] r) (fun σ H Q => σ[i]? = some (some (.ref a)) ∧ ∀ H', (∀ b o, H b = some o → H' b = some o) → Q (.str (wordB bs)) H') := ⟨fun pins st σ H Q I h => by
    refine wpAny_Call_Name_kw (ld_glob I hg F.mg ?_ (by decide))
    have pa : PA (X.suite a ((a, oe) :: pn)) [.Name n q] _ := pa_cons (pe_var (i := i) hN hv dn dc) pa_nil rfl
    refine PySem.W.callWith_K (h₀ := X.base) I.ok.mod.kin F.kp (thn (pa.run r pins st σ H (fun vs H1 => vs = [.ref a] ∧ H1 = H) I ⟨.ref a, h.1, rfl, rfl⟩) fun us s1 hh => ?_) rfl rfl
    obtain ⟨vs, H1, I1, rv, rfl, rfl⟩ := hh
    refine ⟨I1.kIn, run_hp (X := X.suite a ((a, oe) :: pn)) (p := (a, oe)) f1 f2 f5 ⟨hr.dp, hr.un⟩ h1 (List.mem_cons_self ..) f6 rfl I1 rv fun st => ?_⟩
    cases f3 with
    | mk hK hO hline =>
      refine ⟨_, word_body (a := a) (oe := oe) (Ce := Ce) (bs := bs) rfl ⟨(a, oe), ⟨rfl, h1.2⟩, List.mem_singleton.mpr rfl⟩ rfl rfl ⟨WC.E, WC.c1, WC.c2, WC.c3, WC.c4, WC.c5, WC.len, WC.mi, WC.ml⟩ zc hd rfl f4 hK hO hline, rfl, h.2⟩⟩
  exact PSs.weak (pss_cons (ps_ret he) pss_nil) fun D σ H h => h
/-- a try whose handler gives the law's word -/
theorem x_try {c i k : Nat} {x n : Str} {body : List Stmt} {p : Sms} {np q r r2 s hp pos : Pos} {f : Addr} {G : G0} (hs : X.stack = X.env :: X.outer) (hf : X.env.frame = some X.env.locals) (nd : X.N.Nodup) (hN : X.N[i]? = some n) (hln : X.env.scope.names.lookup n = some .local) (dn : (n == ("__debug__" : Str)) = false) (dc : (n == ("__classdict__" : Str)) = false)
    (hx : Names X x (.ref (W.C c))) (tk : L2N.Takes X Wx) (hb : ∀ Wx' pn xe, L2N.Takes (X.tr pn xe) Wx' → PassesOwn (model X.prog X.w) X.A X.env xe → PSs (X.tr pn xe) body (tX W Wx' (execs G p)))
    (F : WordFn X.K X.mg f) (hr : L2H.RoomH (k + 1) X.A) (hg : Gl X "_law_word") (hsub : ∀ e, PySem.W.exmOne X.K (.ref (W.C e)) (.ref (W.C c)) = some (G.sub e c)) (hword : ∀ e z, G.word e = some z → ∃ bs, z = wordB bs ∧ WCls X (W.C e) bs) :
    PS X (.Try body [.ExceptHandler (some (.Name x np)) (some n) [.Return (some (.Call (.Name "_law_word" q) [.Name n r] [] r2)) s] hp] [] [] pos) (tX W Wx (exec G (.try_ c i p))) := by
  refine PS.weak (L2N.ps_try_as (tb := fun Wx' => tX W Wx' (execs G p)) (ts := fun a cls d D σ H => ∃ e bs, cls = .ref (W.C e) ∧ d = none ∧ WCls X (W.C e) bs ∧ σ[i]? = some (some (.ref a)) ∧ ∀ H', (∀ b o, H b = some o → H' b = some o) → D.rt (.str (wordB bs)) H') hs hf nd hN hln hx tk hb ?_) fun D σ H ⟨ρ, e, h⟩ => ?_
  · intro a oe cls d pn hz hd
    refine ⟨fun pins st σ H D I h => ?_⟩
    obtain ⟨e, bs, rfl, rfl, WC, h1, h2⟩ := h
    exact (suite_word F hr WC hz hd hg hN (.inl hln) dn dc).run pins st σ H D I ⟨h1, h2⟩
  · refine ⟨ρ, e, ?_⟩
    have h : PostS W Wx D (match execs G p ρ with
      | .ok r ρ1 => .ok r ρ1
      | .ex k ρ1 => if G.sub k c then (match G.word k with
          | some z => if i < ρ1.length then .ok (.rt (.fz (.str z))) (ρ1.set i .un) else .st
          | none => .st) else .ex k ρ1
      | .st => .st) := h
    cases q : execs G p ρ with
    | st => rw [q] at h; exact h.elim
    | ok r ρ1 =>
      rw [q] at h
      cases r with
      | nx => exact h
      | bk => exact h
      | ct => exact h
      | rt v => exact h
    | ex e1 ρ1 =>
      rw [q] at h
      simp only at h
      intro σ1 H1 e2
      refine ⟨G.sub e1 c, hsub e1, fun hb1 a ha => ?_, fun hb1 => ?_⟩
      · rw [if_pos hb1] at h
        cases hw : G.word e1 with
        | none => rw [hw] at h; exact h.elim
        | some z =>
          rw [hw] at h
          simp only at h
          obtain ⟨bs, rfl, WC⟩ := hword e1 z hw
          by_cases l : i < ρ1.length
          · rw [if_pos l] at h
            have es := e2.set l (s := .un) (v := some (.ref a)) rfl trivial
            refine ⟨e1, bs, rfl, rfl, WC, ?_, fun H' hH => ?_⟩
            · rw [stE_get, if_pos rfl, if_pos (e2.len ▸ l)]
            · have gr : Grow W H1 H' := ⟨fun b o z _ => hH b o z, fun b o z => ⟨o, hH b o z⟩, fun P _ ⟨ps, y1, y2⟩ => ⟨ps, hH _ _ y1, y2⟩⟩
              exact h _ _ _ (es.grow gr) ⟨.str _, fun _ z => by cases z⟩
          · rw [if_neg l] at h
            exact h.elim
      · rw [if_neg (by rw [hb1]; exact Bool.false_ne_true)] at h
        exact h σ1 H1 e2
end
end Pz

namespace Pz
open PySem PySem.Spec PyProof.Rows L2
/-- what a global name is -/
inductive Gk where
  | fn (i np : Nat) | con (i : Nat) | txt (i : Nat) | exc (c : Nat) | free | gcd
structure Ck where
  gl : List (Str × Gk)
  N : List Str
  hasW : Bool
/-- where a term stands: the scope; of a block, its own scope as written; whether generators may be made -/
structure At where
  sc : Scope
  s0 : Option Scope
  gen : Bool
def isLk (sc : Scope) (x : Str) (k : NameKind) : Bool := decide (sc.names.lookup x = some k)
def glob (sc : Scope) (x : Str) : Bool := isLk sc x .globalImplicit && !(x == ("__debug__" : Str))
def visB (sc : Scope) (x : Str) : Bool := isLk sc x .local || isLk sc x .cell || isLk sc x .free
def nameOk (ck : Ck) (sc : Scope) (i : Nat) (x : Str) : Bool := decide (ck.N[i]? = some x) && visB sc x && !(x == ("__debug__" : Str)) && !(x == ("__classdict__" : Str))
def gk (ck : Ck) (x : Str) : Option Gk := ck.gl.lookup x
def isFree (ck : Ck) (a : At) (x : Str) : Bool := glob a.sc x && (match gk ck x with | some .free => true | _ => false)
def tgtOk (ck : Ck) (a : At) (i : Nat) (x : Str) : Bool := decide (ck.N[i]? = some x) && (isLk a.sc x .local || (isLk a.sc x .cell && (match a.s0 with | none => true | some s => isLk s x .cell)))
def plainIx : Expr → Bool
  | .Name _ _ => true
  | .Constant _ _ _ => true
  | .BinOp _ _ _ _ => true
  | .UnaryOp _ _ _ => true
  | .Call _ _ _ _ => true
  | .Subscript _ _ _ => true
  | .IfExp _ _ _ _ => true
  | _ => false
def plainT : Expr → Bool
  | .Name _ _ => true
  | .Call _ _ _ _ => true
  | .Subscript _ _ _ => true
  | .BinOp _ _ _ _ => true
  | _ => false
def isComp : Expr → Bool
  | .ListComp _ _ _ _ => true
  | .SetComp _ _ _ _ => true
  | .DictComp _ _ _ _ _ => true
  | _ => false
/-- the scope of a comprehension's block within sc -/
def relS (scope sc : Scope) : Scope := { kind := scope.kind, names := scope.names.map fun p => if p.2 == .free && sc.kind == .function && sc.names.lookup p.1 == some .cell then (p.1, .cell) else p, isGenerator := scope.isGenerator, isCoroutine := scope.isCoroutine, more := scope.more }
def boOp : Bo → Operator
  | .add => .Add | .sub => .Sub | .mul => .Mult | .fdiv => .FloorDiv | .mod => .Mod | .pow => .Pow
def ownP (ck : Ck) (ow : List Nat) : List (Str × Nat) := ow.map fun i => (ck.N.getD i "", i)
/-- a built-in's name -/
def biName : Bi → String
  | .len => "len" | .abs => "abs" | .int => "int" | .str => "str" | .list => "list" | .tuple => "tuple" | .gcd => "gcd" | .lrev => ""
def isBoth : Tm → Bool
  | .nt _ => false
  | .an _ _ => false
  | .or _ _ => false
  | .ie _ _ _ => false
  | _ => true
def subList (a b : List Nat) : Bool := a.all fun i => b.contains i
def notSeq : Expr → Bool
  | .Set _ _ _ => false
  | .List _ _ => false
  | _ => true
/-- the target of a for -/
def chkTg (ck : Ck) (a : At) : Tgt → Expr → Bool
  | .n i, .Name x _ => tgtOk ck a i x
  | .t l, .Tuple es _ _ => decide (l.length = es.length) && (l.zip es).all fun p => match p.2 with
    | .Name x _ => tgtOk ck a p.1 x
    | _ => false
  | _, _ => false
def genOk (a : At) (scope : Scope) (x : Str) : Bool := decide (scope.kind = .function) && !scope.isCoroutine && scope.names.all (fun y => decide (y.2 ≠ .cell) && decide (y.2 ≠ .free)) && isLk scope ".0" .local && isLk scope x .local
mutual
def chkE (ck : Ck) : Nat → At → Tm → Expr → Bool
  | 0, _, _, _ => false
  | n + 1, a, t, e => match t, e with
    | t, .BoolOp _ [x] _ => chkE ck n a t x
    | .q t, e => chkE ck n a t e
    | .c (.int i), .Constant (.int j) _ _ => decide (i = j)
    | .c (.bool b), .Constant (.bool b') _ _ => decide (b = b')
    | .c .none, .Constant .none _ _ => true
    | .c (.str x), .Constant (.str y) _ _ => decide (x = y)
    | .v i, .Name x _ => nameOk ck a.sc i x
    | .g i, .Name x _ => glob a.sc x && (match gk ck x with | some (.con j) => decide (i = j) | some (.txt j) => decide (i = j) | _ => false)
    | .bin o t u, .BinOp l op r _ => decide (op = boOp o) && chkE ck n a t l && chkE ck n a u r
    | .neg t, .UnaryOp .USub x _ => chkE ck n a t x
    | .cmp o t u, .Compare l [op] [r] _ => decide (op = coOp o) && !behindInMarks (coOp o) r && chkE ck n a t l && chkE ck n a u r
    | .cmp2 o o' t u v, .Compare l [op, op'] [r, s] _ => decide (op = coOp o) && decide (op' = coOp o') && !lastMarks [coOp o, coOp o'] [r, s] && chkE ck n a t l && chkE ck n a u r && chkE ck n a v s
    | .nt t, .UnaryOp .Not x _ => chkE ck n a t x
    | .an t u, .BoolOp .And (x :: y :: r) p => chkE ck n a t x && chkE ck n a u (.BoolOp .And (y :: r) p)
    | .or t u, .BoolOp .Or (x :: y :: r) p => chkE ck n a t x && chkE ck n a u (.BoolOp .Or (y :: r) p)
    | .ie t u v, .IfExp c x y _ => chkT ck n a t c && chkE ck n a u x && chkE ck n a v y
    | .tup l, .Tuple es _ _ => decide (l.len ≤ 1000) && chkS ck n a l es
    | .lst l, .List es _ => decide (l.len ≤ 1000) && chkS ck n a l es
    | .ix t u, .Subscript x y _ => plainIx y && chkE ck n a t x && chkE ck n a u y
    | .slL t u, .Subscript x (.Slice (some lo) none none _) _ => chkE ck n a t x && chkE ck n a u lo
    | .slH t u, .Subscript x (.Slice none (some hi) none _) _ => chkE ck n a t x && chkE ck n a u hi
    | .slB t u v, .Subscript x (.Slice (some lo) (some hi) none _) _ => chkE ck n a t x && chkE ck n a u lo && chkE ck n a v hi
    | .call f l, .Call (.Name x _) (e :: es) [] _ => glob a.sc x && (match gk ck x with | some (.fn j np) => decide (j = f) && decide (l.len = np) | _ => false) && (e :: es).all noStar && chkG ck n a l (e :: es)
    | .bi .lrev (.cons t .nil), .Call (.Name x _) [.Call (.Name y _) [e] [] _] [] _ => decide (x = "list") && decide (y = "reversed") && isFree ck a x && isFree ck a y && noStar e && chkE ck n a t e
    | .bi .gcd l, .Call (.Name x _) (e :: es) [] _ => glob a.sc x && (match gk ck x with | some .gcd => true | _ => false) && (e :: es).all noStar && chkL ck n a l (e :: es)
    | .bi f l, .Call (.Name x _) (e :: es) [] _ => (match f with | .lrev => false | .gcd => false | _ => true) && decide (x = Str.ofString (biName f)) && isFree ck a x && (e :: es).all noStar && chkL ck n a l (e :: es)
    | .isi t T, .Call (.Name x _) [y, .Name z _] [] _ => decide (x = "isinstance") && decide (z = Str.ofString T.name) && isFree ck a x && isFree ck a z && noStar y && chkE ck n a t y
    | .mt m t l, .Call (.Attribute o name ap) (e :: es) [] cp => (match m with | .index => decide (name = "index") | .partition => decide (name = "partition")) && plainRecv o && (e :: es).all noStar && decide ((e :: es).length < 20) && (ap.endLine == cp.line) && chkE ck n a t o && chkL ck n a l (e :: es)
    | .pop i, .Call (.Attribute (.Name x _) name ap) [] [] cp => decide (name = "pop") && nameOk ck a.sc i x && (ap.endLine == cp.line)
    | .cmp0 ow t it u, .ListComp elt [⟨tg, iter, [], 0⟩] scope _ => notSet iter && blkC ck.N a.sc scope (ownP ck ow) && subList t.sets ow && chkI ck n a it tg iter && chkTg ck ⟨relS scope a.sc, some scope, false⟩ t tg && chkE ck n ⟨relS scope a.sc, some scope, false⟩ u elt
    | .cmp1 ow t it w u, .ListComp elt [⟨tg, iter, [ts], 0⟩] scope _ => notSet iter && blkC ck.N a.sc scope (ownP ck ow) && subList t.sets ow && chkI ck n a it tg iter && chkTg ck ⟨relS scope a.sc, some scope, false⟩ t tg && chkT ck n ⟨relS scope a.sc, some scope, false⟩ w ts && chkE ck n ⟨relS scope a.sc, some scope, false⟩ u elt
    | .fst (.cons t .nil), .JoinedStr [x] _ => chkF1 ck n a t x
    | .fst l, .JoinedStr (x :: y :: r) _ => chkF ck n a l (x :: y :: r)
    | .alls t g, .Call (.Name x _) [.GeneratorExp (.Compare (.Name y _) [.In] [.Name z _] _) [⟨.Name y' _, iter, [], 0⟩] scope _] [] _ => a.gen && decide (x = "all") && isFree ck a x && decide (y = y') && !(y == ("__debug__" : Str)) && !(z == ("__debug__" : Str)) && genOk a scope y && isLk scope z .globalImplicit && (match gk ck z with | some (.txt j) => decide (g = j) | _ => false) && notSeq iter && chkE ck n a t iter
    | _, _ => false
def chkT (ck : Ck) : Nat → At → Tm → Expr → Bool
  | 0, _, _, _ => false
  | n + 1, a, t, e => match t, e with
    | .cmp o t u, .Compare l [op] [r] _ => decide (op = coOp o) && !behindInMarks (coOp o) r && chkE ck n a t l && chkE ck n a u r
    | .cmp2 o o' t u v, .Compare l [op, op'] [r, s] _ => decide (op = coOp o) && decide (op' = coOp o') && !lastMarks [coOp o, coOp o'] [r, s] && chkE ck n a t l && chkE ck n a u r && chkE ck n a v s
    | .nt t, .UnaryOp .Not x _ => chkT ck n a t x
    | .an t u, .BoolOp .And (x :: y :: r) p => chkT ck n a t x && chkW ck n a u (.BoolOp .And (y :: r) p)
    | .or t u, .BoolOp .Or (x :: y :: r) p => chkT ck n a t x && chkW ck n a u (.BoolOp .Or (y :: r) p)
    | .ie t u v, .IfExp c x y _ => chkT ck n a t c && chkT ck n a u x && chkT ck n a v y
    | t, e => isBoth t && plainT e && chkE ck n a t e
def chkW (ck : Ck) : Nat → At → Tm → Expr → Bool
  | 0, _, _, _ => false
  | n + 1, a, t, e => match t, e with
    | t, .BoolOp .And [x] _ => chkT ck n a t x
    | t, .BoolOp .Or [x] _ => chkT ck n a t x
    | .an t u, .BoolOp .And (x :: y :: r) p => chkT ck n a t x && chkW ck n a u (.BoolOp .And (y :: r) p)
    | .or t u, .BoolOp .Or (x :: y :: r) p => chkT ck n a t x && chkW ck n a u (.BoolOp .Or (y :: r) p)
    | _, _ => false
def chkS (ck : Ck) : Nat → At → Tms → List Expr → Bool
  | 0, _, _, _ => false
  | _ + 1, _, .nil, [] => true
  | n + 1, a, .cons t l, e :: es => noStar e && chkE ck n a t e && chkS ck n a l es
  | _, _, _, _ => false
def chkL (ck : Ck) : Nat → At → Tms → List Expr → Bool
  | 0, _, _, _ => false
  | _ + 1, _, .nil, [] => true
  | n + 1, a, .cons t l, e :: es => noStar e && chkE ck n a t e && chkL ck n a l es
  | _, _, _, _ => false
def chkG (ck : Ck) : Nat → At → Ags → List Expr → Bool
  | 0, _, _, _ => false
  | _ + 1, _, .nil, [] => true
  | n + 1, a, .io i l, .Name x _ :: es => nameOk ck a.sc i x && chkG ck n a l es
  | n + 1, a, .cons t l, e :: es => noStar e && chkE ck n a t e && chkG ck n a l es
  | _, _, _, _ => false
def chkF1 (ck : Ck) : Nat → At → Tm → Expr → Bool
  | 0, _, _, _ => false
  | n + 1, a, t, e => match t, e with
    | .c (.str x), .Constant (.str y) _ _ => decide (x = y)
    | t, .FormattedValue e (-1) none _ => chkE ck n a t e
    | _, _ => false
def chkF (ck : Ck) : Nat → At → Tms → List Expr → Bool
  | 0, _, _, _ => false
  | _ + 1, _, .nil, [] => true
  | n + 1, a, .cons t l, e :: es => chkF1 ck n a t e && chkF ck n a l es
  | _, _, _, _ => false
def chkI (ck : Ck) : Nat → At → It → Expr → Expr → Bool
  | 0, _, _, _, _ => false
  | n + 1, a, it, tg, e => match it, tg, e with
    | .el t, _, e => chkE ck n a t e
    | .r1 t, _, .Call (.Name x _) [y] [] _ => decide (x = "range") && isFree ck a x && noStar y && chkE ck n a t y
    | .r2 t u, _, .Call (.Name x _) [y, z] [] _ => decide (x = "range") && isFree ck a x && noStar y && noStar z && chkE ck n a t y && chkE ck n a u z
    | .zip t u, .Tuple _ _ _, .Call (.Name x _) [y, z] [] _ => decide (x = "zip") && isFree ck a x && noStar y && noStar z && chkE ck n a t y && chkE ck n a u z
    | _, _, _ => false
end
def swapB (sc : Scope) (value : Expr) (x : Str) (px : Pos) : Bool := match value with
  | .ListComp _ _ scope pos => decide (sc.kind = .function) && isLk sc x .local && (px.line == pos.line) && !scope.names.any fun p => p.1 == x && (p.2 == .local || p.2 == .cell)
  | _ => false
def notTup : Expr → Bool
  | .Tuple _ _ _ => false
  | _ => true
def chkLc (ck : Ck) (n : Nat) (a : At) : Tm → Expr → Bool
  | .cmp0 ow t it u, .ListComp elt [⟨tg, iter, [], 0⟩] scope _ => notSet iter && blkC ck.N a.sc scope (ownP ck ow) && subList t.sets ow && chkI ck n a it tg iter && chkTg ck ⟨relS scope a.sc, some scope, false⟩ t tg && chkE ck n ⟨relS scope a.sc, some scope, false⟩ u elt
  | .cmp1 ow t it w u, .ListComp elt [⟨tg, iter, [ts], 0⟩] scope _ => notSet iter && blkC ck.N a.sc scope (ownP ck ow) && subList t.sets ow && chkI ck n a it tg iter && chkTg ck ⟨relS scope a.sc, some scope, false⟩ t tg && chkT ck n ⟨relS scope a.sc, some scope, false⟩ w ts && chkE ck n ⟨relS scope a.sc, some scope, false⟩ u elt
  | _, _ => false
def noSD : Expr → Bool
  | .SetComp _ _ _ _ => false
  | .DictComp _ _ _ _ _ => false
  | _ => true
mutual
def chkSt (ck : Ck) : Nat → At → Sm → Stmt → Bool
  | 0, _, _, _ => false
  | n + 1, a, s, st => match s, st with
    | .asg _ i t, .Assign [.Name x px] e _ => tgtOk ck a i x && noSD e && decide (a.sc.kind = .function) && (if swapB a.sc e x px then isLk a.sc x .local && chkLc ck n a t e else chkE ck n a t e)
    | .unp _ l t, .Assign [.Tuple es k p] e _ => notTup e && chkTg ck a (.t l) (.Tuple es k p) && chkE ck n a t e
    | .par2 _ i j t u, .Assign [.Tuple [.Name x px, .Name y py] _ _] (.Tuple [e1, e2] _ _) _ => decide (ck.N[i]? = some x) && decide (ck.N[j]? = some y) && decide (i ≠ j) && isLk a.sc x .local && isLk a.sc y .local && decide (a.sc.kind = .function) && noStar e1 && noStar e2 && (px.line == py.line) && decide (x ≠ y) && !([e1, e2].all (foldedForSure 8)) && !([e1, e2].all (constantsAlone 8)) && chkE ck n a t e1 && chkE ck n a u e2
    | .aug _ i o t, .AugAssign (.Name x _) op e _ => ((decide (o = .add) && decide (op = .Add)) || (decide (o = .sub) && decide (op = .Sub))) && tgtOk ck a i x && chkE ck n a t e
    | .app _ i t, .Expr (.Call (.Attribute (.Name x _) name ap) [e] [] cp) _ => decide (name = "append") && nameOk ck a.sc i x && noStar e && (ap.endLine == cp.line) && chkE ck n a t e
    | .ex _ t, .Expr e _ => !isComp e && chkE ck n a t e
    | .retv i, .Return (some (.Name x _)) _ => nameOk ck a.sc i x
    | .ret _ t, .Return (some e) _ => chkE ck n a t e
    | .retN, .Return none _ => true
    | .ifs _ t p q, .If c x y _ => chkT ck n a t c && chkSs ck n a p x && chkSs ck n a q y
    | .for_ _ t it p, .For tg iter body [] _ => notSet iter && chkI ck n a it tg iter && chkTg ck a t tg && chkSs ck n a p body
    | .whl _ t p, .While c body [] _ => chkT ck n a t c && chkSs ck n a p body
    | .rais c, .Raise (some (.Call (.Name x _) [.Constant (.str _) _ _] [] _)) none _ => glob a.sc x && (match gk ck x with | some (.exc k) => decide (k = c) | _ => false)
    | .try_ c i p, .Try body [.ExceptHandler (some (.Name x _)) (some m) [.Return (some (.Call (.Name f _) [.Name m' _] [] _)) _] _] [] [] _ => ck.hasW && glob a.sc x && (match gk ck x with | some (.exc k) => decide (k = c) | _ => false) && decide (ck.N[i]? = some m) && isLk a.sc m .local && decide (m = m') && !(m == ("__debug__" : Str)) && !(m == ("__classdict__" : Str)) && decide (f = "_law_word") && isLk a.sc f .globalImplicit && chkSs ck n a p body
    | .brk, .Break _ => true
    | .cont, .Continue _ => true
    | .pass, .Pass _ => true
    | _, _ => false
def chkSs (ck : Ck) : Nat → At → Sms → List Stmt → Bool
  | 0, _, _, _ => false
  | _ + 1, _, .nil, [] => true
  | n + 1, a, .cons s l, st :: r => chkSt ck n a s st && chkSs ck n a l r
  | _, _, _, _ => false
end
end Pz

namespace Pz
open PySem PySem.Spec PyProof.Rows L2
structure Facts (P : Program) (w : World) (K : PySem.W.Frag) (mg : Str → Option Value) (base : Heap) (C : Nat → Addr) (T : Addr → Prop) (G : G0) (ck : Ck) (k : Nat) : Prop where
  fn : ∀ x i np, gk ck x = some (.fn i np) → ∃ f fd ps, FnOk P w K mg base (L2N.CX P w) k f fd ps (spF K C T G.call i np) ∧ mg x = some (.ref f) ∧ PySem.W.keepIn K (.ref f) = true ∧ L2.Binds K fd ps []
  con : ∀ x i, gk ck x = some (.con i) → ∃ d v u, mg x = some u ∧ L2.RelV v u ∧ G.con[i]? = some d ∧ ∀ H, Dp K H v d
  txt : ∀ x i, gk ck x = some (.txt i) → ∃ L t, mg x = some (.str L t) ∧ G.con[i]? = some (.str L)
  exc : ∀ x c, gk ck x = some (.exc c) → mg x = some (.ref (C c)) ∧ (∃ bmB B newId initId, ExcBaseFacts B newId initId bmB ∧ PySem.W.excIn K (C c) bmB newId = true) ∧ PySem.W.keepIn K (.ref (C c)) = true ∧ PySem.W.subIn K (.ref (C c)) (.type "BaseException") = some true ∧ PySem.W.typeIn K (.ref (C c)) = some (.type "type") ∧
    ∀ e, PySem.W.exmOne K (.ref (C e)) (.ref (C c)) = some (G.sub e c)
  free : ∀ x, gk ck x = some .free → mg x = none
  gcd : ∀ x, gk ck x = some .gcd → mg x = some (.builtin "math.gcd")
  word : ∀ e z, G.word e = some z → ∃ bs, z = wordB bs ∧ ∀ X : Cx, X.K = K → X.mg = mg → WCls X (C e) bs
  wfn : ck.hasW = true → 1 ≤ k ∧ ∃ f, WordFn K mg f
structure ECtx (ck : Ck) (G : G0) (k : Nat) (a : At) (X : Cx) (W : Wd) (Wx : WX) : Prop where
  N : X.N = ck.N
  nd : ck.N.Nodup
  sc : X.env.scope = a.sc
  fn : ∀ x, X.fn x = match a.s0 with | none => true | some s => (s.names.lookup x == some .cell)
  calm : X.calm = true
  K : W.K = X.K
  tk : L2N.Takes X Wx
  F : Facts X.prog X.w X.K X.mg X.base W.C W.T G ck k
  room : Room k X.A
  gen : a.gen = true → ∃ c P, GxR.TabB X.base X.mg c P ∧ X.env.code = .ref c ∧ W.T P
section
variable {ck : Ck} {G : G0} {k : Nat} {a : At} {X : Cx} {W : Wd} {Wx : WX}
theorem ECtx.hu (c : ECtx ck G k a X W Wx) : X.A.units + 160 < cLine := by
  have := c.room.un
  omega
theorem lk_of {sc : Scope} {x : Str} {kk : NameKind} (h : isLk sc x kk = true) : sc.names.lookup x = some kk := of_decide_eq_true h
theorem not_of {b : Bool} (h : (!b) = true) : b = false := by cases b <;> first | rfl | cases h
theorem glob_of (c : ECtx ck G k a X W Wx) {x : Str} (h : glob a.sc x = true) : Gl X x ∧ (x == ("__debug__" : Str)) = false := by
  unfold glob at h
  rw [Bool.and_eq_true] at h
  refine ⟨?_, not_of h.2⟩
  show List.lookup x X.env.scope.names = _
  rw [c.sc]
  exact lk_of h.1
theorem name_of (c : ECtx ck G k a X W Wx) {i : Nat} {x : Str} (h : nameOk ck a.sc i x = true) : X.N[i]? = some x ∧ Vis X.env.scope x ∧ (x == ("__debug__" : Str)) = false ∧ (x == ("__classdict__" : Str)) = false := by
  unfold nameOk visB at h
  simp only [Bool.and_eq_true, Bool.or_eq_true] at h
  obtain ⟨⟨⟨h1, h2⟩, h3⟩, h4⟩ := h
  refine ⟨by rw [c.N]; exact of_decide_eq_true h1, ?_, not_of h3, not_of h4⟩
  rw [c.sc]
  rcases h2 with (h2 | h2) | h2
  · exact .inl (lk_of h2)
  · exact .inr (.inl (lk_of h2))
  · exact .inr (.inr (lk_of h2))
theorem free_of (c : ECtx ck G k a X W Wx) {x : Str} (h : isFree ck a x = true) : Gl X x ∧ (x == ("__debug__" : Str)) = false ∧ X.mg x = none := by
  unfold isFree at h
  rw [Bool.and_eq_true] at h
  obtain ⟨g1, g2⟩ := glob_of c h.1
  refine ⟨g1, g2, ?_⟩
  have h2 := h.2
  split at h2
  · rename_i e
    exact c.F.free x e
  · cases h2
theorem tgt_of (c : ECtx ck G k a X W Wx) {i : Nat} {x : Str} (h : tgtOk ck a i x = true) : X.N[i]? = some x ∧ L2.Loc X.env.scope x ∧ (X.fn x = true ∨ X.env.scope.names.lookup x = some .local) := by
  unfold tgtOk at h
  simp only [Bool.and_eq_true, Bool.or_eq_true] at h
  obtain ⟨h1, h2⟩ := h
  refine ⟨by rw [c.N]; exact of_decide_eq_true h1, ?_, ?_⟩
  · rw [c.sc]
    rcases h2 with h2 | h2
    · exact .inl (lk_of h2)
    · exact .inr (lk_of h2.1)
  · rcases h2 with h2 | h2
    · right
      rw [c.sc]
      exact lk_of h2
    · left
      rw [c.fn]
      have h3 := h2.2
      cases e : a.s0 with
      | none => rfl
      | some s =>
        rw [e] at h3
        show (s.names.lookup x == some .cell) = true
        rw [lk_of h3]
        rfl
theorem takes_no {X : Cx} : L2N.Takes X noX := fun u s' h => by
  obtain ⟨_, _, _, _, _, _, _, _, _, _, _, _, _, _, _, _, z⟩ := h
  exact z.elim
theorem relS_eq {scope : Scope} {env : PySem.Env} : relabel scope env = relS scope env.scope := rfl
/-- within a comprehension's block -/
theorem ECtx.blk (c : ECtx ck G k a X W Wx) {scope : Scope} (s : Shared) (H : Hp) (C : Addr) (cl : List (Str × Addr)) (fp : List Addr) (W' : Wd) (l : W.like W') : ECtx ck G k ⟨relS scope a.sc, some scope, false⟩ (X.blk s H scope (compEnvC scope cl C X.env) fp) W' noX :=
  ⟨c.N, c.nd, by show relabel scope X.env = _; rw [relS_eq, c.sc], fun x => rfl, c.calm, l.1.trans c.K, takes_no, by rw [l.2.1, l.2.2]; exact c.F, c.room, fun z => by cases z⟩
theorem tgs_of (c : ECtx ck G k a X W Wx) : ∀ {l : List Nat} {es : List Expr}, l.length = es.length → (l.zip es).all (fun p => match p.2 with
    | .Name x _ => tgtOk ck a p.1 x
    | _ => false) = true → PGs X es (gL l) ∧ (assignEach es X.env).length = l.length ∧ (assignEach es X.env).findIdx? (fun x => x.1) = none
  | [], [], _, _ => ⟨pgs_nil, rfl, rfl⟩
  | i :: l, e :: es, hl, h => by
    rw [List.zip_cons_cons, List.all_cons, Bool.and_eq_true] at h
    obtain ⟨h1, h2⟩ := h
    obtain ⟨g1, g2, g3⟩ := tgs_of c (l := l) (es := es) (by simpa using hl) h2
    cases e with
    | Name x p =>
      obtain ⟨n1, n2, n3⟩ := tgt_of c h1
      have e1 : assignEach (.Name x p :: es) X.env = (false, assign (.Name x p) X.env) :: assignEach es X.env := rfl
      refine ⟨pgs_cons (pg_name (by rw [c.N]; exact c.nd) n1 n2 n3) g1 rfl, by rw [e1, List.length_cons, g2]; rfl, ?_⟩
      rw [e1, List.findIdx?_cons]
      simp [g3]
    | _ => cases h1
  | [], _ :: _, hl, _ => by cases hl
  | _ :: _, [], hl, _ => by cases hl
theorem tg_of (c : ECtx ck G k a X W Wx) {t : Tgt} {e : Expr} (h : chkTg ck a t e = true) : PG X e (gT W.K t) := by
  unfold chkTg at h
  split at h
  · obtain ⟨n1, n2, n3⟩ := tgt_of c h
    exact pg_name (by rw [c.N]; exact c.nd) n1 n2 n3
  · rw [Bool.and_eq_true] at h
    obtain ⟨g1, g2, g3⟩ := tgs_of c (of_decide_eq_true h.1) h.2
    show PG X _ (gTup W.K _ _)
    rw [c.K]
    exact pg_tup c.calm g1 g2 g3
  · cases h
end
end Pz

namespace Pz
open PySem PySem.Spec PyProof.Rows L2
structure Snd (ck : Ck) (G : G0) (k n : Nat) : Prop where
  E : ∀ a t e, chkE ck n a t e = true → ∀ X W Wx, ECtx ck G k a X W Wx → PE X e (tD W Wx (ev G t))
  T : ∀ a t e, chkT ck n a t e = true → ∀ X W Wx, ECtx ck G k a X W Wx → PT X e (tT W Wx (evT G t))
  W : ∀ a t e, chkW ck n a t e = true → ∀ X W Wx, ECtx ck G k a X W Wx → PW X e (tT W Wx (evT G t))
  S : ∀ a l es, chkS ck n a l es = true → ∀ X W Wx, ECtx ck G k a X W Wx → PA X es (tS W Wx (evs G l))
  L : ∀ a l es, chkL ck n a l es = true → ∀ X W Wx, ECtx ck G k a X W Wx → PA X es (tL W Wx (evl G l))
  Gs : ∀ a l es, chkG ck n a l es = true → ∀ X W Wx, ECtx ck G k a X W Wx → PA X es (tA W Wx (evg G l))
  F1 : ∀ a t e, chkF1 ck n a t e = true → ∀ X W Wx, ECtx ck G k a X W Wx → PE X e (tF1 W Wx (ev G t))
  F : ∀ a l es, chkF ck n a l es = true → ∀ X W Wx, ECtx ck G k a X W Wx → PJ X es (tsOf W Wx G l)
  I : ∀ a it tg e, chkI ck n a it tg e = true → ∀ X W Wx, ECtx ck G k a X W Wx → PI X tg e (tI W Wx (evi G it))
theorem bothV {G : G0} {t : Tm} (h : isBoth t = true) : evT G t = tst (ev G t) := by
  cases t <;> first | rfl | cases h
theorem plainIx_of {e : Expr} (h : plainIx e = true) : PlainIx e := by
  intro o i
  cases e <;> first | rfl | cases h
theorem plainT_of {e : Expr} {env : PySem.Env} (h : plainT e = true) : ∀ whole, isTrue e env whole = (do let v ← whole; standAt e.pos; holding [v] (truthy v)) := by
  intro whole
  cases e <;> first | rfl | cases h
theorem ownP_map {ck : Ck} {ow : List Nat} : (ownP ck ow).map (·.2) = ow := by
  unfold ownP
  rw [List.map_map]
  have : ((fun x : Str × Nat => x.2) ∘ fun i => (ck.N.getD i "", i)) = id := rfl
  rw [this, List.map_id]
theorem subL {a b : List Nat} (h : subList a b = true) : ∀ i ∈ a, i ∈ b := fun i hi => by
  have := List.all_eq_true.mp h i hi
  simpa using this
theorem genFold_of {e : Expr} {env : PySem.Env} (h : notSeq e = true) : ∀ v, genFold e env v = pure v := by
  intro v
  cases e <;> first | rfl | cases h
theorem genS_of {ck : Ck} {G : G0} {k : Nat} {a : At} {X : Cx} {W : Wd} {Wx : WX} (c : ECtx ck G k a X W Wx) {scope : Scope} {x : Str} (h : genOk a scope x = true) : GxR.GenS X.env scope x := by
  unfold genOk at h
  simp only [Bool.and_eq_true, List.all_eq_true] at h
  obtain ⟨⟨⟨⟨h1, h2⟩, h3⟩, h4⟩, h5⟩ := h
  exact ⟨of_decide_eq_true h1, not_of h2, fun y hy => of_decide_eq_true (h3 y hy).1, lk_of h4, lk_of h5, fun y hy hf => absurd hf (of_decide_eq_true (h3 y hy).2)⟩
theorem alls_e {G : G0} {t : Tm} {g : Nat} {W : Wd} {Wx : WX} : True := trivial
section
variable {ck : Ck} {G : G0} {k n : Nat}
theorem snd_E (ih : Snd ck G k n) : ∀ a t e, chkE ck (n + 1) a t e = true → ∀ X W Wx, ECtx ck G k a X W Wx → PE X e (tD W Wx (ev G t)) := by
  intro a t e h X W Wx c
  have nd : X.N.Nodup := by rw [c.N]; exact c.nd
  unfold chkE at h
  split at h
  case h_1 op x p => exact s_one (ih.E _ _ _ h X W Wx c)
  case h_2 => exact s_q (ih.E _ _ _ h X W Wx c)
  case h_3 => rw [of_decide_eq_true h]; exact s_int
  case h_4 => rw [of_decide_eq_true h]; exact s_bool
  case h_5 => exact s_none
  case h_6 => rw [of_decide_eq_true h]; exact s_str
  case h_7 =>
    obtain ⟨h1, h2, h3, h4⟩ := name_of c h
    exact s_var h1 h2 h3 h4
  case h_8 =>
    rw [Bool.and_eq_true] at h
    obtain ⟨g1, g2⟩ := glob_of c h.1
    have h2 := h.2
    split at h2
    · rename_i j hj
      obtain ⟨d, v, u, f1, f2, f3, f4⟩ := c.F.con _ _ hj
      rw [← of_decide_eq_true h2] at f3
      exact s_con g1 f1 f2 g2 f3 (fun H => by rw [c.K]; exact f4 H)
    · rename_i j hj
      obtain ⟨L, t, f1, f2⟩ := c.F.txt _ _ hj
      rw [← of_decide_eq_true h2] at f2
      exact s_con g1 f1 (v := .str L) ⟨t, rfl⟩ g2 f2 (fun H => .str L)
    · cases h2
  case h_9 o t u l op r p =>
    simp only [Bool.and_eq_true] at h
    obtain ⟨⟨h1, h2⟩, h3⟩ := h
    have e1 := of_decide_eq_true h1
    subst e1
    exact s_bin (by cases o <;> rfl) (ih.E _ _ _ h2 X W Wx c) (ih.E _ _ _ h3 X W Wx c) c.K
  case h_10 => exact s_neg (ih.E _ _ _ h X W Wx c)
  case h_11 =>
    simp only [Bool.and_eq_true] at h
    obtain ⟨⟨⟨h1, h2⟩, h3⟩, h4⟩ := h
    rw [of_decide_eq_true h1]
    exact s_cmp (ih.E _ _ _ h3 X W Wx c) (ih.E _ _ _ h4 X W Wx c) c.K c.hu (not_of h2)
  case h_12 =>
    simp only [Bool.and_eq_true] at h
    obtain ⟨⟨⟨⟨⟨h1, h2⟩, h3⟩, h4⟩, h5⟩, h6⟩ := h
    rw [of_decide_eq_true h1, of_decide_eq_true h2]
    exact s_cmp2 (ih.E _ _ _ h4 X W Wx c) (ih.E _ _ _ h5 X W Wx c) (ih.E _ _ _ h6 X W Wx c) c.K c.hu (not_of h3)
  case h_13 => exact s_not (ih.E _ _ _ h X W Wx c)
  case h_14 =>
    rw [Bool.and_eq_true] at h
    exact s_and (ih.E _ _ _ h.1 X W Wx c) (ih.E _ _ _ h.2 X W Wx c)
  case h_15 =>
    rw [Bool.and_eq_true] at h
    exact s_or (ih.E _ _ _ h.1 X W Wx c) (ih.E _ _ _ h.2 X W Wx c)
  case h_16 =>
    simp only [Bool.and_eq_true] at h
    exact s_ie (ih.T _ _ _ h.1.1 X W Wx c) (ih.E _ _ _ h.1.2 X W Wx c) (ih.E _ _ _ h.2 X W Wx c)
  case h_17 =>
    rw [Bool.and_eq_true] at h
    exact s_tup (ih.S _ _ _ h.2 X W Wx c) (of_decide_eq_true h.1)
  case h_18 =>
    rw [Bool.and_eq_true] at h
    exact s_lst (ih.S _ _ _ h.2 X W Wx c) (of_decide_eq_true h.1)
  case h_19 =>
    simp only [Bool.and_eq_true] at h
    exact s_ix (ih.E _ _ _ h.1.2 X W Wx c) (ih.E _ _ _ h.2 X W Wx c) (plainIx_of h.1.1) c.K
  case h_20 =>
    rw [Bool.and_eq_true] at h
    exact s_slL (ih.E _ _ _ h.1 X W Wx c) (ih.E _ _ _ h.2 X W Wx c) c.K
  case h_21 =>
    rw [Bool.and_eq_true] at h
    exact s_slH (ih.E _ _ _ h.1 X W Wx c) (ih.E _ _ _ h.2 X W Wx c) c.K
  case h_22 =>
    simp only [Bool.and_eq_true] at h
    exact s_slB (ih.E _ _ _ h.1.1 X W Wx c) (ih.E _ _ _ h.1.2 X W Wx c) (ih.E _ _ _ h.2 X W Wx c) c.K
  case h_23 =>
    simp only [Bool.and_eq_true] at h
    obtain ⟨⟨⟨h1, h2⟩, h3⟩, h4⟩ := h
    obtain ⟨g1, g2⟩ := glob_of c h1
    split at h2
    · rename_i j np hj
      rw [Bool.and_eq_true] at h2
      obtain ⟨f, fd, ps, f1, f2, f3, f4⟩ := c.F.fn _ _ _ hj
      rw [of_decide_eq_true h2.1, ← c.K] at f1
      refine s_call (np := np) ?_ (of_decide_eq_true h2.2) c.room g1 f2 f3 f4 c.tk (ih.Gs _ _ _ h4 X W Wx c) g2 (by simpa using h3)
      have := f1
      rw [c.K] at this ⊢
      exact this
    · cases h2
  case h_24 =>
    simp only [Bool.and_eq_true] at h
    obtain ⟨⟨⟨⟨⟨h1, h2⟩, h3⟩, h4⟩, h5⟩, h6⟩ := h
    have e1 := of_decide_eq_true h1
    have e2 := of_decide_eq_true h2
    subst e1 e2
    obtain ⟨g1, _, m1⟩ := free_of c h3
    obtain ⟨g2, _, m2⟩ := free_of c h4
    exact s_lrev c.calm g1 m1 g2 m2 (ih.E _ _ _ h6 X W Wx c) h5 c.K
  case h_25 =>
    simp only [Bool.and_eq_true] at h
    obtain ⟨⟨⟨h1, h2⟩, h3⟩, h4⟩ := h
    obtain ⟨g1, g2⟩ := glob_of c h1
    split at h2
    · rename_i hj
      have hn' := h3
      rw [List.all_cons, Bool.and_eq_true] at hn'
      exact s_biG c_gcd g1 (c.F.gcd _ hj) (ih.L _ _ _ h4 X W Wx c) g2 (star_cons hn'.1) (star_all hn'.2)
    · cases h2
  case h_26 f l x p1 e es p2 _ _ =>
    simp only [Bool.and_eq_true] at h
    obtain ⟨⟨⟨⟨h1, h2⟩, h3⟩, h4⟩, h5⟩ := h
    obtain ⟨g1, g2, m1⟩ := free_of c h3
    have hn : (e :: es).all noStar = true := by simpa using h4
    have hn' := hn
    rw [List.all_cons, Bool.and_eq_true] at hn'
    have hl := ih.L _ _ _ h5 X W Wx c
    have hx := of_decide_eq_true h2
    cases f with
    | len => exact s_biB (c_len c.K) g1 m1 (by rw [hx]; decide +kernel) hl (by rw [hx]; decide +kernel) g2 (star_cons hn'.1) (star_all hn'.2)
    | abs => exact s_biB c_abs g1 m1 (by rw [hx]; decide +kernel) hl (by rw [hx]; decide +kernel) g2 (star_cons hn'.1) (star_all hn'.2)
    | int => exact s_biT c_int g1 m1 (by rw [hx]; decide +kernel) hl (by rw [hx]; decide +kernel) g2 (star_cons hn'.1) (star_all hn'.2)
    | str => exact s_biT c_str g1 m1 (by rw [hx]; decide +kernel) hl (by rw [hx]; decide +kernel) g2 (star_cons hn'.1) (star_all hn'.2)
    | list => exact s_biT (c_list c.K) g1 m1 (by rw [hx]; decide +kernel) hl (by rw [hx]; decide +kernel) g2 (star_cons hn'.1) (star_all hn'.2)
    | tuple => exact s_biT (c_tuple c.K) g1 m1 (by rw [hx]; decide +kernel) hl (by rw [hx]; decide +kernel) g2 (star_cons hn'.1) (star_all hn'.2)
    | gcd => cases h1
    | lrev => cases h1
  case h_27 t T x p1 y z p2 p3 =>
    simp only [Bool.and_eq_true] at h
    obtain ⟨⟨⟨⟨⟨h1, h2⟩, h3⟩, h4⟩, h5⟩, h6⟩ := h
    obtain ⟨g1, _, m1⟩ := free_of c h3
    obtain ⟨g2, d2, m2⟩ := free_of c h4
    have hz := of_decide_eq_true h2
    exact s_isi g1 (of_decide_eq_true h1) m1 (ih.E _ _ _ h6 X W Wx c) c.K g2 m2 (by rw [hz]; cases T <;> decide +kernel) (by rw [hz]; cases T <;> decide +kernel) d2 h5
  case h_28 m t l o name ap e es cp =>
    simp only [Bool.and_eq_true] at h
    obtain ⟨⟨⟨⟨⟨⟨h1, h2⟩, h3⟩, h4⟩, h5⟩, h6⟩, h7⟩ := h
    have hn : (e :: es).all noStar = true := by simpa using h3
    cases m with
    | index =>
      have e1 : name = "index" := of_decide_eq_true h1
      subst e1
      exact s_mt (m_index c.K) PySem.F.plainAttrs_list PySem.F.slot_list_index PySem.F.type_list_index (ih.E _ _ _ h6 X W Wx c) (ih.L _ _ _ h7 X W Wx c) h2 hn (of_decide_eq_true h4) h5
    | partition =>
      have e1 : name = "partition" := of_decide_eq_true h1
      subst e1
      exact s_mt m_partition PySem.F.plainAttrs_str PySem.F.slot_str_partition PySem.F.type_str_partition (ih.E _ _ _ h6 X W Wx c) (ih.L _ _ _ h7 X W Wx c) h2 hn (of_decide_eq_true h4) h5
  case h_29 =>
    simp only [Bool.and_eq_true] at h
    obtain ⟨⟨h1, h2⟩, h3⟩ := h
    have e1 := of_decide_eq_true h1
    subst e1
    obtain ⟨n1, n2, n3, n4⟩ := name_of c h2
    exact s_pop n1 n2 n3 n4 h3
  case h_30 ow t it u elt tg iter scope p =>
    simp only [Bool.and_eq_true] at h
    obtain ⟨⟨⟨⟨⟨h1, h2⟩, h3⟩, h4⟩, h5⟩, h6⟩ := h
    have hb : BlkOk X.N X.env.scope scope (ownP ck ow) := blkOk_by (by rw [c.N, c.sc]; exact h2)
    have := s_cmp0 (W := W) (Wx := Wx) (t := t) (it := it) (te := u) (G := G) (pos := p) c.calm nd (ih.I _ _ _ _ h4 X W Wx c) hb (fun s H C cl fp => by
      have := tg_of (c.blk (scope := scope) s H C cl fp W ⟨rfl, rfl, rfl⟩) h5
      exact this) (fun s H C cl fp W' l => ih.E _ _ _ h6 _ W' noX (c.blk s H C cl fp W' l)) (by rw [ownP_map]; exact subL h3) h1
    rw [ownP_map] at this
    exact this
  case h_31 ow t it w u elt tg iter ts scope p =>
    simp only [Bool.and_eq_true] at h
    obtain ⟨⟨⟨⟨⟨⟨h1, h2⟩, h3⟩, h4⟩, h5⟩, h7⟩, h6⟩ := h
    have hb : BlkOk X.N X.env.scope scope (ownP ck ow) := blkOk_by (by rw [c.N, c.sc]; exact h2)
    have := s_cmp1 (W := W) (Wx := Wx) (t := t) (it := it) (te := u) (tw := w) (G := G) (pos := p) c.calm nd (ih.I _ _ _ _ h4 X W Wx c) hb (fun s H C cl fp => by
      have := tg_of (c.blk (scope := scope) s H C cl fp W ⟨rfl, rfl, rfl⟩) h5
      exact this) (fun s H C cl fp W' l => ih.T _ _ _ h7 _ W' noX (c.blk s H C cl fp W' l)) (fun s H C cl fp W' l => ih.E _ _ _ h6 _ W' noX (c.blk s H C cl fp W' l)) (by rw [ownP_map]; exact subL h3) h1
    rw [ownP_map] at this
    exact this
  case h_32 => exact s_fst1 (ih.F1 _ _ _ h X W Wx c)
  case h_33 => exact s_fst (ih.F _ _ _ h X W Wx c)
  case h_34 t g x p1 y p2 z p3 p4 y' p5 iter scope p6 p7 =>
    simp only [Bool.and_eq_true] at h
    obtain ⟨⟨⟨⟨⟨⟨⟨⟨⟨⟨h1, h2⟩, h3⟩, h4⟩, h5⟩, h6⟩, h7⟩, h8⟩, h9⟩, h10⟩, h11⟩ := h
    obtain ⟨g1, _, m1⟩ := free_of c h3
    have e1 := of_decide_eq_true h2
    subst e1
    have e2 := of_decide_eq_true h4
    subst e2
    split at h9
    · rename_i j hj
      obtain ⟨L, tok, f1, f2⟩ := c.F.txt _ _ hj
      rw [← of_decide_eq_true h9] at f2
      obtain ⟨cc, P, t1, t2, t3⟩ := c.gen h1
      exact s_alls c.room g1 m1 t1 t2 ⟨genS_of c h7, lk_of h8, not_of h5, not_of h6, f1⟩ (ih.E _ _ _ h11 X W Wx c) (genFold_of h10) t3 f2
    · cases h9
  case h_35 => cases h
theorem snd_T (ih : Snd ck G k n) : ∀ a t e, chkT ck (n + 1) a t e = true → ∀ X W Wx, ECtx ck G k a X W Wx → PT X e (tT W Wx (evT G t)) := by
  intro a t e h X W Wx c
  unfold chkT at h
  split at h
  case h_1 =>
    simp only [Bool.and_eq_true] at h
    obtain ⟨⟨⟨h1, h2⟩, h3⟩, h4⟩ := h
    rw [of_decide_eq_true h1]
    exact t_cmp (ih.E _ _ _ h3 X W Wx c) (ih.E _ _ _ h4 X W Wx c) c.K c.hu (not_of h2)
  case h_2 =>
    simp only [Bool.and_eq_true] at h
    obtain ⟨⟨⟨⟨⟨h1, h2⟩, h3⟩, h4⟩, h5⟩, h6⟩ := h
    rw [of_decide_eq_true h1, of_decide_eq_true h2]
    exact t_cmp2 (ih.E _ _ _ h4 X W Wx c) (ih.E _ _ _ h5 X W Wx c) (ih.E _ _ _ h6 X W Wx c) c.K c.hu (not_of h3)
  case h_3 => exact t_not (ih.T _ _ _ h X W Wx c)
  case h_4 =>
    rw [Bool.and_eq_true] at h
    have := w_and (pos := _) (ih.T _ _ _ h.1 X W Wx c) (ih.W _ _ _ h.2 X W Wx c)
    exact ⟨fun pins s σ H Q I q => this.run _ pins s σ H Q I q⟩
  case h_5 =>
    rw [Bool.and_eq_true] at h
    have := w_or (pos := _) (ih.T _ _ _ h.1 X W Wx c) (ih.W _ _ _ h.2 X W Wx c)
    exact ⟨fun pins s σ H Q I q => this.run _ pins s σ H Q I q⟩
  case h_6 =>
    simp only [Bool.and_eq_true] at h
    exact t_ie (ih.T _ _ _ h.1.1 X W Wx c) (ih.T _ _ _ h.1.2 X W Wx c) (ih.T _ _ _ h.2 X W Wx c)
  case h_7 =>
    simp only [Bool.and_eq_true] at h
    obtain ⟨⟨h1, h2⟩, h3⟩ := h
    rw [bothV h1]
    exact t_truth (ih.E _ _ _ h3 X W Wx c) c.K (plainT_of h2)
theorem snd_W (ih : Snd ck G k n) : ∀ a t e, chkW ck (n + 1) a t e = true → ∀ X W Wx, ECtx ck G k a X W Wx → PW X e (tT W Wx (evT G t)) := by
  intro a t e h X W Wx c
  unfold chkW at h
  split at h
  case h_1 => exact w_and1 (ih.T _ _ _ h X W Wx c)
  case h_2 => exact w_or1 (ih.T _ _ _ h X W Wx c)
  case h_3 =>
    rw [Bool.and_eq_true] at h
    exact w_and (ih.T _ _ _ h.1 X W Wx c) (ih.W _ _ _ h.2 X W Wx c)
  case h_4 =>
    rw [Bool.and_eq_true] at h
    exact w_or (ih.T _ _ _ h.1 X W Wx c) (ih.W _ _ _ h.2 X W Wx c)
  case h_5 => cases h
theorem snd_S (ih : Snd ck G k n) : ∀ a l es, chkS ck (n + 1) a l es = true → ∀ X W Wx, ECtx ck G k a X W Wx → PA X es (tS W Wx (evs G l)) := by
  intro a l es h X W Wx c
  unfold chkS at h
  split at h
  · contradiction
  · exact a_nilS
  · rename_i hn
    cases hn
    simp only [Bool.and_eq_true] at h
    exact a_consS (ih.E _ _ _ h.1.2 X W Wx c) (ih.S _ _ _ h.2 X W Wx c) (star_cons h.1.1)
  · cases h
end
end Pz

namespace Pz
open PySem PySem.Spec PyProof.Rows L2
section
variable {ck : Ck} {G : G0} {k n : Nat}
theorem snd_L (ih : Snd ck G k n) : ∀ a l es, chkL ck (n + 1) a l es = true → ∀ X W Wx, ECtx ck G k a X W Wx → PA X es (tL W Wx (evl G l)) := by
  intro a l es h X W Wx c
  unfold chkL at h
  split at h
  · contradiction
  · exact a_nilL
  · rename_i hn
    cases hn
    simp only [Bool.and_eq_true] at h
    exact a_consL (ih.E _ _ _ h.1.2 X W Wx c) (ih.L _ _ _ h.2 X W Wx c) (star_cons h.1.1)
  · cases h
theorem snd_G (ih : Snd ck G k n) : ∀ a l es, chkG ck (n + 1) a l es = true → ∀ X W Wx, ECtx ck G k a X W Wx → PA X es (tA W Wx (evg G l)) := by
  intro a l es h X W Wx c
  unfold chkG at h
  split at h
  · contradiction
  · exact g_nil
  · rename_i hn
    cases hn
    simp only [Bool.and_eq_true] at h
    obtain ⟨n1, n2, n3, n4⟩ := name_of c h.1
    exact g_io n1 n2 n3 n4 (ih.Gs _ _ _ h.2 X W Wx c)
  · rename_i hn
    cases hn
    simp only [Bool.and_eq_true] at h
    exact g_cons (ih.E _ _ _ h.1.2 X W Wx c) (ih.Gs _ _ _ h.2 X W Wx c) h.1.1
  · cases h
theorem snd_F1 (ih : Snd ck G k n) : ∀ a t e, chkF1 ck (n + 1) a t e = true → ∀ X W Wx, ECtx ck G k a X W Wx → PE X e (tF1 W Wx (ev G t)) := by
  intro a t e h X W Wx c
  unfold chkF1 at h
  split at h
  · rw [of_decide_eq_true h]
    exact f_str
  · exact f_fmt (ih.E _ _ _ h X W Wx c)
  · cases h
theorem snd_F (ih : Snd ck G k n) : ∀ a l es, chkF ck (n + 1) a l es = true → ∀ X W Wx, ECtx ck G k a X W Wx → PJ X es (tsOf W Wx G l) := by
  intro a l es h X W Wx c
  unfold chkF at h
  split at h
  · contradiction
  · exact .nil
  · rename_i hn
    cases hn
    rw [Bool.and_eq_true] at h
    exact .cons (ih.F1 _ _ _ h.1 X W Wx c) (ih.F _ _ _ h.2 X W Wx c)
  · cases h
theorem snd_I (ih : Snd ck G k n) : ∀ a it tg e, chkI ck (n + 1) a it tg e = true → ∀ X W Wx, ECtx ck G k a X W Wx → PI X tg e (tI W Wx (evi G it)) := by
  intro a it tg e h X W Wx c
  unfold chkI at h
  split at h
  · exact i_el (ih.E _ _ _ h X W Wx c) c.K
  · simp only [Bool.and_eq_true] at h
    obtain ⟨⟨⟨h1, h2⟩, h3⟩, h4⟩ := h
    obtain ⟨g1, _, m1⟩ := free_of c h2
    have e1 := of_decide_eq_true h1
    subst e1
    exact i_r1 g1 m1 (ih.E _ _ _ h4 X W Wx c) h3
  · simp only [Bool.and_eq_true] at h
    obtain ⟨⟨⟨⟨⟨h1, h2⟩, h3⟩, h4⟩, h5⟩, h6⟩ := h
    obtain ⟨g1, _, m1⟩ := free_of c h2
    have e1 := of_decide_eq_true h1
    subst e1
    exact i_r2 g1 m1 (ih.E _ _ _ h5 X W Wx c) (ih.E _ _ _ h6 X W Wx c) h3 h4
  · simp only [Bool.and_eq_true] at h
    obtain ⟨⟨⟨⟨⟨h1, h2⟩, h3⟩, h4⟩, h5⟩, h6⟩ := h
    obtain ⟨g1, _, m1⟩ := free_of c h2
    have e1 := of_decide_eq_true h1
    subst e1
    exact i_zip g1 m1 (ih.E _ _ _ h5 X W Wx c) (ih.E _ _ _ h6 X W Wx c) h3 h4 c.K
  · cases h
theorem snd : ∀ n, Snd ck G k n
  | 0 => by
    refine ⟨?_, ?_, ?_, ?_, ?_, ?_, ?_, ?_, ?_⟩
    · intro a t e h; unfold chkE at h; cases h
    · intro a t e h; unfold chkT at h; cases h
    · intro a t e h; unfold chkW at h; cases h
    · intro a t e h; unfold chkS at h; cases h
    · intro a t e h; unfold chkL at h; cases h
    · intro a t e h; unfold chkG at h; cases h
    · intro a t e h; unfold chkF1 at h; cases h
    · intro a t e h; unfold chkF at h; cases h
    · intro a t e u h; unfold chkI at h; cases h
  | n + 1 => have ih := snd n; ⟨snd_E ih, snd_T ih, snd_W ih, snd_S ih, snd_L ih, snd_G ih, snd_F1 ih, snd_F ih, snd_I ih⟩
end
structure SCtx (ck : Ck) (G : G0) (k : Nat) (a : At) (X : Cx) (W : Wd) (Wx : WX) : Prop where
  E : ECtx ck G k a X W Wx
  top : a.s0 = none
  po : PassesOwn (model X.prog X.w) X.A X.env X.xe
  stk : X.stack = X.env :: X.outer
  fr : X.env.frame = some X.env.locals
section
variable {ck : Ck} {G : G0} {k n : Nat} {a : At} {X : Cx} {W : Wd} {Wx : WX}
theorem SCtx.like (c : SCtx ck G k a X W Wx) {W' : Wd} (l : W.like W') : SCtx ck G k a X W' Wx :=
  ⟨⟨c.E.N, c.E.nd, c.E.sc, c.E.fn, c.E.calm, l.1.trans c.E.K, c.E.tk, by rw [l.2.1, l.2.2]; exact c.E.F, c.E.room, fun z => by rw [l.2.2]; exact c.E.gen z⟩, c.top, c.po, c.stk, c.fr⟩
theorem SCtx.tr (c : SCtx ck G k a X W Wx) {Wx' : WX} {pn : List (Addr × Obj)} {xe : Value → Shared → Prop} (tk : L2N.Takes (X.tr pn xe) Wx') (po : PassesOwn (model X.prog X.w) X.A X.env xe) : SCtx ck G k a (X.tr pn xe) W Wx' :=
  ⟨⟨c.E.N, c.E.nd, c.E.sc, c.E.fn, c.E.calm, c.E.K, tk, c.E.F, c.E.room, c.E.gen⟩, c.top, po, c.stk, c.fr⟩
theorem swap_plain {e : Expr} {t : Option Expr} {l : Nat} {env : PySem.Env} (h : isComp e = false) : swapsWith e t l env = pure false := by
  cases e <;> first | rfl | cases h
structure SndS (ck : Ck) (G : G0) (k n : Nat) : Prop where
  S : ∀ a s st, chkSt ck n a s st = true → ∀ X W Wx, SCtx ck G k a X W Wx → PS X st (tX W Wx (exec G s))
  Ss : ∀ a l r, chkSs ck n a l r = true → ∀ X W Wx, SCtx ck G k a X W Wx → PSs X r (tX W Wx (execs G l))
theorem sndS_s (ih : SndS ck G k n) : ∀ a s st, chkSt ck (n + 1) a s st = true → ∀ X W Wx, SCtx ck G k a X W Wx → PS X st (tX W Wx (exec G s)) := by
  intro a s st h X W Wx c
  have nd : X.N.Nodup := by rw [c.E.N]; exact c.E.nd
  have ie := snd (ck := ck) (G := G) (k := k) n
  unfold chkSt at h
  split at h
  case h_1 b i t x px e p =>
    simp only [Bool.and_eq_true] at h
    obtain ⟨⟨⟨h1, h2⟩, h3⟩, h4⟩ := h
    obtain ⟨n1, n2, n3⟩ := tgt_of c.E h1
    have hkf : X.env.scope.kind = .function := by rw [c.E.sc]; exact of_decide_eq_true h3
    by_cases sw : swapB a.sc e x px = true
    · rw [if_pos sw, Bool.and_eq_true] at h4
      obtain ⟨h5, h6⟩ := h4
      have lx : List.lookup x X.env.scope.names = some .local := by rw [c.E.sc]; exact lk_of h5
      unfold chkLc at h6
      split at h6
      · rename_i ow tt it u elt tg iter scope lp
        simp only [Bool.and_eq_true] at h6
        obtain ⟨⟨⟨⟨⟨g1, g2⟩, g3⟩, g4⟩, g5⟩, g6⟩ := h6
        have hb : BlkOk X.N X.env.scope scope (ownP ck ow) := blkOk_by (by rw [c.E.N, c.E.sc]; exact g2)
        unfold swapB at sw
        simp only [Bool.and_eq_true] at sw
        have := x_setLc0 (W := W) (Wx := Wx) (b := b) (t := tt) (it := it) (te := u) (G := G) (pos := lp) (spos := p) (py := px) c.E.calm nd n1 lx (sw_true hkf lx sw.1.2 (not_of sw.2)) (ie.I _ _ _ _ g4 X W Wx c.E) hb (fun s H C cl fp => by
          have := tg_of (c.E.blk (scope := scope) s H C cl fp W ⟨rfl, rfl, rfl⟩) g5
          exact this) (fun s H C cl fp W' l => ie.E _ _ _ g6 _ W' noX (c.E.blk s H C cl fp W' l)) (by rw [ownP_map]; exact subL g3) g1
        rw [ownP_map] at this
        exact this
      · rename_i ow tt it w u elt tg iter ts scope lp
        simp only [Bool.and_eq_true] at h6
        obtain ⟨⟨⟨⟨⟨⟨g1, g2⟩, g3⟩, g4⟩, g5⟩, g7⟩, g6⟩ := h6
        have hb : BlkOk X.N X.env.scope scope (ownP ck ow) := blkOk_by (by rw [c.E.N, c.E.sc]; exact g2)
        unfold swapB at sw
        simp only [Bool.and_eq_true] at sw
        have := x_setLc1 (W := W) (Wx := Wx) (b := b) (t := tt) (it := it) (te := u) (tw := w) (G := G) (pos := lp) (spos := p) (py := px) c.E.calm nd n1 lx (sw_true hkf lx sw.1.2 (not_of sw.2)) (ie.I _ _ _ _ g4 X W Wx c.E) hb (fun s H C cl fp => by
          have := tg_of (c.E.blk (scope := scope) s H C cl fp W ⟨rfl, rfl, rfl⟩) g5
          exact this) (fun s H C cl fp W' l => ie.T _ _ _ g7 _ W' noX (c.E.blk s H C cl fp W' l)) (fun s H C cl fp W' l => ie.E _ _ _ g6 _ W' noX (c.E.blk s H C cl fp W' l)) (by rw [ownP_map]; exact subL g3) g1
        rw [ownP_map] at this
        exact this
      · cases h6
    · rw [if_neg sw] at h4
      refine x_set nd n1 n2 (ie.E _ _ _ h4 X W Wx c.E) ?_ n3
      cases e with
      | ListComp elt gs scope lp =>
        have sw : swapB a.sc (.ListComp elt gs scope lp) x px = false := by simpa using sw
        unfold swapB at sw
        have hbk : X.env.blockKind = .function := by unfold PySem.Env.blockKind; rw [hkf]; rfl
        show (pure _ : Sem Bool) = pure false
        congr 1
        rw [hbk]
        simp only [of_decide_eq_true h3, decide_true, Bool.true_and] at sw
        have e1 : (X.env.kindOf x == some NameKind.local) = isLk a.sc x .local := by
          unfold PySem.Env.kindOf isLk
          rw [c.E.sc]
          by_cases z : List.lookup x a.sc.names = some NameKind.local
          · rw [z]
            rfl
          · rw [decide_eq_false z]
            simpa using z
        rw [e1]
        exact sw
      | SetComp _ _ _ _ => cases h2
      | DictComp _ _ _ _ _ => cases h2
      | _ => rfl
  case h_2 b l t es kk p e pp =>
    simp only [Bool.and_eq_true] at h
    obtain ⟨⟨h1, h2⟩, h3⟩ := h
    refine x_unp (tg_of c.E h2) (ie.E _ _ _ h3 X W Wx c.E) ?_ ?_
    · cases e <;> rfl
    · cases e <;> first | rfl | cases h1
  case h_3 b i j t u x px y py k1 p1 e1 e2 k2 p2 pp =>
    simp only [Bool.and_eq_true] at h
    obtain ⟨⟨⟨⟨⟨⟨⟨⟨⟨⟨⟨⟨⟨h1, h2⟩, h3⟩, h4⟩, h5⟩, h6⟩, h7⟩, h8⟩, h9⟩, h10⟩, h11⟩, h12⟩, h13⟩, h14⟩ := h
    have l1 : List.lookup x X.env.scope.names = some .local := by rw [c.E.sc]; exact lk_of h4
    have l2 : List.lookup y X.env.scope.names = some .local := by rw [c.E.sc]; exact lk_of h5
    refine x_par c.E.calm nd (by rw [c.E.N]; exact of_decide_eq_true h1) (by rw [c.E.N]; exact of_decide_eq_true h2) (of_decide_eq_true h3) l1 l2 (a_consS (ie.E _ _ _ h13 X W Wx c.E) (a_consS (ie.E _ _ _ h14 X W Wx c.E) a_nilS (star_cons h8)) (star_cons h7)) ?_
    have hkf : X.env.scope.kind = .function := by rw [c.E.sc]; exact of_decide_eq_true h6
    have hbk : X.env.blockKind = .function := by unfold PySem.Env.blockKind; rw [hkf]; rfl
    have k1 : X.env.kindOf x = some .local := l1
    have k2 : X.env.kindOf y = some .local := l2
    have pl : (py.line == px.line) = true := by
      have := h9
      rw [beq_iff_eq] at this ⊢
      exact this.symm
    have a1 := not_of h11
    have a2 := not_of h12
    have nxy : x ≠ y := of_decide_eq_true h10
    unfold swappedStores
    dsimp only
    have hl : ((Option.map (fun x => x.pos.line) [Expr.Name x px, Expr.Name y py].head?).getD 0) = px.line := rfl
    have px1 : (px.line == px.line) = true := beq_self_eq_true _
    have kl : (some NameKind.local == some NameKind.local) = true := rfl
    rw [if_neg (by rw [hbk]; exact fun z => Bool.noConfusion (z : false = true)), if_neg (fun z => by
      obtain ⟨w, hw, hz⟩ := List.any_eq_true.mp z
      have hw2 : noStar w = true := by
        rcases List.mem_cons.mp hw with q | q
        · rw [q]; exact h7
        · rw [List.mem_singleton.mp q]; exact h8
      cases w <;> first | exact Bool.noConfusion (hz : false = true) | exact Bool.noConfusion (hw2 : false = true))]
    simp only [List.filterMap_cons, List.filterMap_nil, hl, k1, k2, pl, px1, kl, Bool.and_self, if_true]
    have hd : ([x, y].length != [Expr.Name x px, Expr.Name y py].length || [x, y].eraseDups.length != [x, y].length) = false := by
      have : [x, y].eraseDups = [x, y] := by
        have h : (y == x) = false := by simpa using fun z => nxy z.symm
        simp [List.eraseDups_cons, h, nxy]
      rw [this]
      rfl
    rw [if_neg (by rw [hd]; exact Bool.false_ne_true), if_neg (by rw [a1]; exact Bool.false_ne_true), if_neg (by rw [a2]; exact Bool.false_ne_true)]
  case h_4 =>
    simp only [Bool.and_eq_true] at h
    obtain ⟨⟨h1, h2⟩, h3⟩ := h
    obtain ⟨n1, n2, n3⟩ := tgt_of c.E h2
    refine x_aug ?_ nd n1 n2 (ie.E _ _ _ h3 X W Wx c.E) n3
    rw [Bool.or_eq_true, Bool.and_eq_true, Bool.and_eq_true] at h1
    rcases h1 with ⟨z1, z2⟩ | ⟨z1, z2⟩
    · exact .inl ⟨of_decide_eq_true z1, of_decide_eq_true z2⟩
    · exact .inr ⟨of_decide_eq_true z1, of_decide_eq_true z2⟩
  case h_5 =>
    simp only [Bool.and_eq_true] at h
    obtain ⟨⟨⟨⟨h1, h2⟩, h3⟩, h4⟩, h5⟩ := h
    obtain ⟨n1, n2, n3, n4⟩ := name_of c.E h2
    have e1 := of_decide_eq_true h1
    subst e1
    exact x_app n1 n2 n3 n4 (ie.E _ _ _ h5 X W Wx c.E) h3 h4
  case h_6 =>
    rw [Bool.and_eq_true] at h
    exact x_expr (ie.E _ _ _ h.2 X W Wx c.E) (swap_plain (not_of h.1))
  case h_7 =>
    obtain ⟨n1, n2, n3, n4⟩ := name_of c.E h
    exact x_retv n1 n2 n3 n4
  case h_8 => exact x_ret (ie.E _ _ _ h X W Wx c.E)
  case h_9 => exact x_retN
  case h_10 =>
    simp only [Bool.and_eq_true] at h
    exact x_if (ie.T _ _ _ h.1.1 X W Wx c.E) (ih.Ss _ _ _ h.1.2 X W Wx c) (ih.Ss _ _ _ h.2 X W Wx c)
  case h_11 =>
    simp only [Bool.and_eq_true] at h
    obtain ⟨⟨⟨h1, h2⟩, h3⟩, h4⟩ := h
    exact x_for c.po c.E.calm (ie.I _ _ _ _ h2 X W Wx c.E) (tg_of c.E h3) (fun W' l => ih.Ss _ _ _ h4 X W' Wx (c.like l)) h1
  case h_12 =>
    rw [Bool.and_eq_true] at h
    exact x_while c.po (ie.T _ _ _ h.1 X W Wx c.E) (ih.Ss _ _ _ h.2 X W Wx c)
  case h_13 =>
    rw [Bool.and_eq_true] at h
    obtain ⟨g1, g2⟩ := glob_of c.E h.1
    have h2 := h.2
    split at h2
    · rename_i kk hj
      obtain ⟨f1, ⟨bmB, B, newId, initId, f2, f3⟩, f4, f5, f6, f7⟩ := c.E.F.exc _ _ hj
      rw [of_decide_eq_true h2] at f1 f3 f4 f5 f6
      exact x_raise f2 f3 f1 f4 (raises_own f5 f6) g1 g2 c.E.calm c.E.tk rfl
    · cases h2
  case h_14 cc i pp body x np m f p1 m' p2 p3 p4 p5 p6 =>
    simp only [Bool.and_eq_true] at h
    obtain ⟨⟨⟨⟨⟨⟨⟨⟨⟨⟨h0, h1⟩, h2⟩, h3⟩, h4⟩, h5⟩, h6⟩, h7⟩, h8⟩, h9⟩, h10⟩ := h
    obtain ⟨g1, g2⟩ := glob_of c.E h1
    split at h2
    · rename_i kk hj
      obtain ⟨f1, _, f4, f5, f6, f7⟩ := c.E.F.exc _ _ hj
      rw [of_decide_eq_true h2] at f1 f7
      have Fw := c.E.F.wfn h0
      have e1 := of_decide_eq_true h5
      subst e1
      have e2 := of_decide_eq_true h8
      subst e2
      have lm : List.lookup m X.env.scope.names = some .local := by rw [c.E.sc]; exact lk_of h4
      have lf : Gl X "_law_word" := by
        show List.lookup _ X.env.scope.names = _
        rw [c.E.sc]
        exact lk_of h9
      obtain ⟨hk1, fw, Fw⟩ := Fw
      obtain ⟨k0, rfl⟩ : ∃ k0, k = k0 + 1 := ⟨k - 1, by omega⟩
      exact x_try (k := k0) c.stk c.fr nd (by rw [c.E.N]; exact of_decide_eq_true h3) lm (not_of h6) (not_of h7) ⟨g1, g2, .inl f1⟩ c.E.tk (fun Wx' pn xe t po => ih.Ss _ _ _ h10 _ W Wx' (c.tr t po)) Fw (L2H.roomH_of c.E.room) lf (fun e => f7 e) (fun e z hz => by
        obtain ⟨bs, y1, y2⟩ := c.E.F.word e z hz
        exact ⟨bs, y1, y2 X rfl rfl⟩)
    · cases h2
  case h_15 => exact x_brk
  case h_16 => exact x_cont
  case h_17 => exact x_pass
  case h_18 => cases h
theorem sndS_ss (ih : SndS ck G k n) : ∀ a l r, chkSs ck (n + 1) a l r = true → ∀ X W Wx, SCtx ck G k a X W Wx → PSs X r (tX W Wx (execs G l)) := by
  intro a l r h X W Wx c
  unfold chkSs at h
  split at h
  · contradiction
  · exact x_nil
  · rename_i hn
    cases hn
    rw [Bool.and_eq_true] at h
    exact x_cons (ih.S _ _ _ h.1 X W Wx c) (ih.Ss _ _ _ h.2 X W Wx c)
  · cases h
theorem sndS : ∀ n, SndS ck G k n
  | 0 => by
    refine ⟨?_, ?_⟩
    · intro a t e h; unfold chkSt at h; cases h
    · intro a t e h; unfold chkSs at h; cases h
  | n + 1 => have ih := sndS n; ⟨sndS_s ih, sndS_ss ih⟩
end
end Pz

namespace Pz
open PySem PySem.Spec PyProof.Rows L2
theorem ioPos_mem : ∀ (n : Nat) (ss : List Slot) (j : Nat), j ∈ ioPos n ss → n ≤ j ∧ ∃ s, ss[j - n]? = some s ∧ isBx s = true
  | _, [], _, h => by cases h
  | n, s :: ss, j, h => by
    have tail : j ∈ ioPos (n + 1) ss → n ≤ j ∧ ∃ t, (s :: ss)[j - n]? = some t ∧ isBx t = true := fun h => by
      obtain ⟨l, t, h1, h2⟩ := ioPos_mem (n + 1) ss j h
      refine ⟨by omega, t, ?_, h2⟩
      have : j - n = (j - (n + 1)) + 1 := by omega
      rw [this, List.getElem?_cons_succ]
      exact h1
    cases s with
    | bx b io lk =>
      rcases List.mem_cons.mp h with h | h
      · subst h
        exact ⟨Nat.le_refl _, .bx b io lk, by rw [Nat.sub_self]; rfl, rfl⟩
      · exact tail h
    | un => exact tail h
    | fz d => exact tail h
    | xc c => exact tail h
section
variable {K : PySem.W.Frag} {C : Nat → Addr} {T O : Addr → Prop} {H H' : Hp} {vs : List V} {ss : List Slot} {N : List Str} {Q : VK} {E : XK} {σ : L2.St} {ρ : Env}
/-- the world of a call -/
def wdOf (K : PySem.W.Frag) (C : Nat → Addr) (T O : Addr → Prop) (H : Hp) (vs : List V) (ss : List Slot) : Wd := { K := K, H0 := H, ia := fun i a => IoAt vs ss i a, O0 := O, C := C, T := T }
theorem args_at : ∀ {vs : List V} {ss : List Slot} {i : Nat} {s : Slot}, ArgsR K C O H vs ss → ss[i]? = some s → ∃ v, vs[i]? = some v ∧ ArgOk K C O H v s
  | _, _, _, _, .nil, h => by simp at h
  | _, _, 0, _, .cons a _, h => by simp at h; subst h; exact ⟨_, rfl, a⟩
  | _, _, i + 1, _, .cons _ t, h => by
    obtain ⟨v, h1, h2⟩ := args_at (i := i) t (by simpa using h)
    exact ⟨v, by simpa using h1, h2⟩
theorem okArg_bx {b : Box} {io lk : Bool} (h : okArg (.bx b io lk) = true) : io = true ∧ lk = false := by
  cases io <;> cases lk <;> first | exact ⟨rfl, rfl⟩ | cases h
theorem start_ok (ha : ArgsR K C O H vs ss) (hn : ∀ i j a, IoAt vs ss i a → IoAt vs ss j a → i = j) (ht : ∀ a, O a → ∃ o, H a = some o) (htb : ∀ P, T P → GxR.TabG H P) (hok : ss.all okArg = true) (hl : vs.length ≤ N.length) :
    EnvOk (wdOf K C T O H vs ss) (L2.start N vs) H (ss ++ List.replicate (N.length - ss.length) .un) := by
  have hlen := args_len ha
  have get1 : ∀ {i : Nat} {s : Slot}, (ss ++ List.replicate (N.length - ss.length) Slot.un)[i]? = some s → (i < ss.length ∧ ss[i]? = some s) ∨ (ss.length ≤ i ∧ s = .un) := fun {i s} h => by
    by_cases l : i < ss.length
    · rw [List.getElem?_append_left l] at h
      exact .inl ⟨l, h⟩
    · rw [List.getElem?_append_right (by omega)] at h
      have := List.mem_of_getElem? h
      exact .inr ⟨by omega, List.eq_of_mem_replicate this⟩
  have get2 : ∀ {i : Nat}, i < vs.length → (L2.start N vs)[i]? = some (vs[i]?) := fun {i} l => by
    unfold L2.start
    rw [List.getElem?_append_left (by simpa using l), List.getElem?_map, List.getElem?_eq_getElem l]
    rfl
  have own : ∀ i a, OwnAt (L2.start N vs) (ss ++ List.replicate (N.length - ss.length) .un) i a → IoAt vs ss i a := fun i a ⟨⟨b, io, lk, h1⟩, h2⟩ => by
    rcases get1 h1 with ⟨l, h1⟩ | ⟨_, z⟩
    · rw [get2 (by omega)] at h2
      exact ⟨⟨_, h1, rfl⟩, Option.some.inj h2⟩
    · cases z
  have own' : ∀ i a, IoAt vs ss i a → O a := fun i a ⟨⟨s, h1, h2⟩, h3⟩ => by
    obtain ⟨v, h4, h5⟩ := args_at ha h1
    rw [h3] at h4
    cases h4
    cases s with
    | bx b io lk =>
      obtain ⟨a', e, o, _⟩ := h5
      cases e
      exact o
    | _ => cases h2
  have oc : ∀ a, Oc (wdOf K C T O H vs ss) (L2.start N vs) (ss ++ List.replicate (N.length - ss.length) .un) a → O a := fun a z => by
    rcases z with z | ⟨i, z⟩
    · exact z
    · exact own' i a (own i a z)
  refine ⟨?_, fun b o h _ _ => h, fun b o h => ⟨o, h⟩, fun i s h => ?_, fun a ⟨i, h⟩ => .inl ⟨i, own i a h⟩, fun i b lk a h1 h2 => own i a ⟨⟨b, true, lk, h1⟩, h2⟩, fun i b lk a h1 h2 => ?_, fun i j a h1 h2 => hn i j a (own i a h1) (own j a h2), ht, fun a ⟨i, h⟩ => own' i a h, htb⟩
  · unfold L2.start
    simp only [List.length_append, List.length_replicate, List.length_map]
    omega
  · rcases get1 h with ⟨l, h⟩ | ⟨_, z⟩
    · obtain ⟨v, h4, h5⟩ := args_at ha h
      have hv : (L2.start N vs)[i]?.join = some v := by rw [get2 (by omega), h4]; rfl
      rw [hv]
      cases s with
      | un => trivial
      | fz d => exact ⟨v, rfl, dp_mono (hide_mono oc) _ _ h5⟩
      | bx b io lk =>
        obtain ⟨a, e, _, q⟩ := h5
        exact ⟨a, by rw [e], q.mono (hide_mono oc) fun _ y _ => y⟩
      | xc c =>
        obtain ⟨a, e, φ, q, r⟩ := h5
        exact ⟨a, by rw [e], φ, hide_mono oc _ _ q nt_ext, r⟩
    · subst z
      trivial
  · rcases get1 h1 with ⟨l, h1⟩ | ⟨_, z⟩
    · have := List.all_eq_true.mp hok _ (List.mem_of_getElem? h1)
      exact absurd (okArg_bx this).1 (by decide)
    · cases z
/-- what the boxes hold at the end -/
theorem outs_ok {G : Hp} (hs : ∀ (i : Nat) (s : Slot), ρ[i]? = some s → SlotOk (wdOf K C T O H vs ss) G H' (σ[i]?.join) s) (e : EnvOk (wdOf K C T O H vs ss) σ H' ρ) : ∀ {io : List Nat} {outs : List Box}, outsOf io ρ = some outs → OutsR K G H' vs io outs ∧ outs.length = io.length
  | [], outs, h => by
    cases h
    exact ⟨fun k i b a h1 _ _ => by simp at h1, rfl⟩
  | i :: io, outs, h => by
    have h : (match ρ[i]? with | some (.bx b true _) => (outsOf io ρ).map (b :: ·) | _ => none) = some outs := h
    cases q : ρ[i]? with
    | none => rw [q] at h; cases h
    | some s =>
      rw [q] at h
      cases s with
      | bx b bio lk =>
        cases bio with
        | false => cases h
        | true =>
          simp only at h
          cases q2 : outsOf io ρ with
          | none => rw [q2] at h; cases h
          | some r =>
            rw [q2] at h
            cases h
            obtain ⟨h1, h2⟩ := outs_ok hs e q2
            refine ⟨fun k j b' a hk hb hv => ?_, congrArg Nat.succ h2⟩
            cases k with
            | zero =>
              have hk : i = j := by simpa using hk
              have hb : b = b' := by simpa using hb
              subst hk hb
              obtain ⟨a', z1, z2⟩ := hs i _ q
              have := e.io i b lk a' q (join_some z1)
              have := this.2
              rw [hv] at this
              cases this
              exact z2
            | succ k => exact h1 k j b' a (by simpa using hk) (by simpa using hb) hv
      | _ => cases h
/-- from the promise's end to the body's -/
theorem end_ok {r : Res Fl} {io : List Nat} (hio : ioPos 0 ss = io) (h : EndF K C T O vs ss H Q E (endOf io r)) : PostS (wdOf K C T O H vs ss) (fun cls d _ H => E cls d H) { nx := fun _ H' => Q .non H', rt := Q } r := by
  subst hio
  have after : ∀ {σ : L2.St} {H' : Hp} {ρ : Env}, EnvOk (wdOf K C T O H vs ss) σ H' ρ → After T (fun a => ∃ i, IoAt vs ss i a) H H' := fun e => ⟨fun b o h n t => e.fr b o h n t, e.th, e.tb⟩
  have ocO : ∀ {σ : L2.St} {ρ : Env} (a : Addr), O a → Oc (wdOf K C T O H vs ss) σ ρ a := fun a z => .inl z
  cases r with
  | st => exact h
  | ex c ρ =>
    intro σ H' e
    have h : EndF K C T O vs ss H Q E (match outsOf (ioPos 0 ss) ρ with | some o => .ex c o | none => .st) := h
    cases q : outsOf (ioPos 0 ss) ρ with
    | none => rw [q] at h; exact h.elim
    | some outs =>
      rw [q] at h
      obtain ⟨o1, o2⟩ := outs_ok (G := hide O H') (fun i s hs => (e.sl i s hs).mono (hide_mono ocO) fun _ _ _ _ _ _ _ y _ => y) e q
      exact h H' (after e) o1 o2
  | ok f ρ =>
    cases f with
    | bk => exact h.elim
    | ct => exact h.elim
    | nx =>
      intro σ H' e
      have h : EndF K C T O vs ss H Q E (match outsOf (ioPos 0 ss) ρ with | some o => .ok (.fz .none) o | none => .st) := h
      cases q : outsOf (ioPos 0 ss) ρ with
      | none => rw [q] at h; exact h.elim
      | some outs =>
        rw [q] at h
        have hh : ∀ a, Hid O .non (.fz .none) a → O a := fun a z => z.elim id fun ⟨b, z, _⟩ => by cases z
        obtain ⟨o1, o2⟩ := outs_ok (G := hide (Hid O .non (.fz .none)) H') (fun i s hs => (e.sl i s hs).mono (hide_mono fun a z => ocO a (hh a z)) fun _ _ _ _ _ _ _ y _ => y) e q
        exact h .non H' (after e) .non o1 o2
    | rt v =>
      intro σ H' y e hv
      have nv : ∀ j, v ≠ .vw j := fun j z => by subst z; exact h
      have h : EndF K C T O vs ss H Q E (match outsOf (ioPos 0 ss) ρ with | some o => .ok v o | none => .st) := by
        cases v with
        | vw j => exact absurd rfl (nv j)
        | fz d => exact h
        | bx b => exact h
        | xc c => exact h
      cases q : outsOf (ioPos 0 ss) ρ with
      | none => rw [q] at h; exact h.elim
      | some outs =>
        rw [q] at h
        have slots : ∀ (i : Nat) (s : Slot), ρ[i]? = some s → SlotOk (wdOf K C T O H vs ss) (hide (Hid O y v) H') H' (σ[i]?.join) s := fun i s hs => by
          cases v with
          | bx b =>
            obtain ⟨p, hp, _⟩ := hv.1
            refine (hv.2 b rfl p hp i s hs).mono (hide_mono fun a z => ?_) fun _ _ _ _ _ _ _ y _ => y
            rcases z with z | ⟨b', _, z⟩
            · exact .inl (.inl z)
            · rw [hp] at z
              injection z with z
              exact .inr z.symm
          | fz d => exact (e.sl i s hs).mono (hide_mono fun a z => z.elim (ocO a) fun ⟨b, z, _⟩ => by cases z) fun _ _ _ _ _ _ _ y _ => y
          | vw j => exact (e.sl i s hs).mono (hide_mono fun a z => z.elim (ocO a) fun ⟨b, z, _⟩ => by cases z) fun _ _ _ _ _ _ _ y _ => y
          | xc c => exact (e.sl i s hs).mono (hide_mono fun a z => z.elim (ocO a) fun ⟨b, z, _⟩ => by cases z) fun _ _ _ _ _ _ _ y _ => y
        obtain ⟨o1, o2⟩ := outs_ok slots e q
        cases v with
        | fz d => exact h y H' (after e) (dp_mono (hide_mono ocO) _ _ hv.1) o1 o2
        | bx b =>
          obtain ⟨p, hp, h0, n, bb⟩ := hv.1
          exact h y H' (after e) ⟨p, hp, h0, bb.mono (hide_mono fun a z => z.imp (ocO a) id) fun _ y _ => y⟩ o1 o2
        | xc c =>
          obtain ⟨a, ha, φ, h1, h2⟩ := hv.1
          exact h y H' (after e) ⟨a, ha, φ, hide_mono ocO _ _ h1 nt_ext, h2⟩ o1 o2
        | vw j => exact absurd rfl (nv j)
end
/-- a def, as the program writes it -/
structure DefS where
  name : Str
  qual : Str
  params : Arguments
  body : List Stmt
  scope : Scope
  ps : List Str
  N : List Str
  gen : Bool
theorem callN_succ {T_ : List Fd} {con : List PyData} {sub : Nat → Nat → Bool} {word : Nat → Option Str} {turns n f : Nat} {ss : List Slot} {fd : Fd} (h : T_[f]? = some fd) (r : callN T_ con sub word turns (n + 1) f ss ≠ .st) :
    (ss.length = fd.np ∧ ioPos 0 ss = fd.io ∧ ss.all okArg = true) ∧ callN T_ con sub word turns (n + 1) f ss = endOf fd.io (execs ⟨callN T_ con sub word turns n, con, sub, word, turns⟩ fd.body (ss ++ List.replicate (fd.ns - fd.np) .un)) := by
  have e : callN T_ con sub word turns (n + 1) f ss = (match T_[f]? with
    | some fd => if ss.length = fd.np ∧ ioPos 0 ss = fd.io ∧ ss.all okArg = true then endOf fd.io (execs ⟨callN T_ con sub word turns n, con, sub, word, turns⟩ fd.body (ss ++ List.replicate (fd.ns - fd.np) .un)) else .st
    | none => .st) := rfl
  rw [e, h] at r ⊢
  simp only at r ⊢
  by_cases z : ss.length = fd.np ∧ ioPos 0 ss = fd.io ∧ ss.all okArg = true
  · rw [if_pos z]
    exact ⟨z, rfl⟩
  · rw [if_neg z] at r
    exact absurd rfl r
section
variable {P : Program} {w : World} {K : PySem.W.Frag} {mg : Str → Option Value} {base : Heap} {C : Nat → Addr} {T : Addr → Prop} {T_ : List Fd} {con : List PyData} {sub : Nat → Nat → Bool} {word : Nat → Option Str} {turns fuel : Nat} {ds : List DefS} {fa : Nat → Addr} {fdd : Nat → FuncData} {gl : List (Str × Gk)} {hasW : Bool}
theorem fns_ok (hlen : ∀ (i : Nat) (d : DefS), ds[i]? = some d → ∃ fd : Fd, T_[i]? = some fd ∧ d.N.length = fd.ns ∧ d.ps.length = fd.np ∧ fd.np ≤ fd.ns ∧ chkSs ⟨gl, d.N, hasW⟩ fuel ⟨d.scope, none, d.gen⟩ fd.body d.body = true)
    (hF : ∀ (i : Nat) (d : DefS), ds[i]? = some d → FunD K d.name d.qual d.params d.body d.scope [] [] (fa i) (fdd i)) (hS : ∀ (i : Nat) (d : DefS), ds[i]? = some d → FnScope d.N d.ps d.scope)
    (hgen : ∀ (i : Nat) (d : DefS), ds[i]? = some d → d.gen = true → ∃ c Pt, (fdd i).code = .ref c ∧ GxR.TabB base mg c Pt ∧ T Pt)
    (hgl : ∀ (x : Str) (i np : Nat), gl.lookup x = some (.fn i np) → ∃ d : DefS, ds[i]? = some d ∧ d.ps.length = np ∧ mg x = some (.ref (fa i)) ∧ L2.Binds K (fdd i) d.ps [])
    (hfa : ∀ (N : List Str) (n : Nat), (∀ (x : Str) (i np : Nat), gl.lookup x = some (.fn i np) → ∃ f fd ps, FnOk P w K mg base (L2N.CX P w) (n + 1) f fd ps (spF K C T (callN T_ con sub word turns n) i np) ∧ mg x = some (.ref f) ∧ PySem.W.keepIn K (.ref f) = true ∧ L2.Binds K fd ps []) →
      Facts P w K mg base C T ⟨callN T_ con sub word turns n, con, sub, word, turns⟩ ⟨gl, N, hasW⟩ (n + 1)) :
    ∀ (n i : Nat) (d : DefS), ds[i]? = some d → FnOk P w K mg base (L2N.CX P w) (n + 1) (fa i) (fdd i) d.ps (spF K C T (callN T_ con sub word turns n) i d.ps.length)
  | 0, i, d, hd => ⟨fun vs H Q E ⟨O, ss, h1, h2, h3, h4, h5, h6⟩ => h5, fun A outer s H args us vs Q E r e b v ⟨O, ss, h1, h2, h3, h4, h5, h6⟩ => h6.elim⟩
  | n + 1, i, d, hd => by
    have ih := fns_ok hlen hF hS hgen hgl hfa n
    obtain ⟨fd, t1, t2, t3, t4, t5⟩ := hlen i d hd
    have F := hfa d.N n fun x j np hx => by
      obtain ⟨d', g1, g2, g3, g4⟩ := hgl x j np hx
      have := ih j d' g1
      rw [g2] at this
      exact ⟨_, _, _, this, g3, (hF j d' g1).kp, g4⟩
    obtain ⟨oc, od, dV, kV, doc, pm, an, cdv, ct, osl, e1, e2, e3, _, _⟩ := (hF i d hd).ex
    have hc : (fdd i).code = cdv := by rw [e1]
    have hg := hgen i d hd
    rw [hc] at hg
    rw [e1] at e2 ⊢
    refine fn_of e2 e3 (hS i d hd) (fun vs H Q E ⟨O, ss, h1, h2, h3, h4, h5, h6⟩ => h5) fun A outer s H vs Q E hr ⟨O, ss, h1, h2, h3, h4, h5, h6⟩ => ?_
    have nst : callN T_ con sub word turns (n + 1) i ss ≠ .st := fun z => by rw [z] at h6; exact h6
    obtain ⟨⟨c1, c2, c3⟩, c4⟩ := callN_succ t1 nst
    rw [c4] at h6
    have lv := args_len h1
    refine ⟨tX (wdOf K C T O H vs ss) (fun cls d _ H => E cls d H) (execs ⟨callN T_ con sub word turns n, con, sub, word, turns⟩ fd.body), ?_, ss ++ List.replicate (fd.ns - fd.np) .un, ?_, end_ok c2 h6⟩
    · refine (sndS fuel).Ss _ _ _ t5 _ _ _ ⟨⟨rfl, (hS i d hd).nd, rfl, fun x => rfl, rfl, rfl, L2N.takes_of rfl rfl rfl rfl, F, hr, fun z => ?_⟩, rfl, passes_of (K := fun e s'' => L2N.CX P w outer H s E e s'') rfl, rfl, rfl⟩
      obtain ⟨c, Pt, y1, y2, y3⟩ := hg z
      exact ⟨c, Pt, y2, y1, y3⟩
    · have := start_ok (N := d.N) h1 h2 h3 h4 c3 (by rw [h5, t2, t3]; exact t4)
      rw [t2, c1] at this
      exact this
end
end Pz

namespace Pz
open PySem PySem.Spec PyProof.Rows L2
mutual
def dpB (K : PySem.W.Frag) : PyData → Value → Bool
  | .none, .none => true
  | .bool b, .bool c => b == c
  | .int i, .int j _ => decide (i = j)
  | .str x, .str y _ => decide (x = y)
  | .tuple ds, .ref a => (match K.lookup a with
    | some ⟨.type c, _, .seq its _, _⟩ => decide (c = "tuple") && (decide (its.size ≤ sizeLine) && dpBs K ds its.toList)
    | _ => false)
  | .list ds, .ref a => (match K.lookup a with
    | some ⟨.type c, none, .seq its _, _⟩ => decide (c = "list") && (decide (its.size ≤ sizeLine) && dpBs K ds its.toList)
    | _ => false)
  | _, _ => false
def dpBs (K : PySem.W.Frag) : List PyData → List Value → Bool
  | [], [] => true
  | d :: ds, u :: us => dpB K d u && dpBs K ds us
  | _, _ => false
end
section
variable {K : PySem.W.Frag}
mutual
theorem dpB_ok : ∀ (d : PyData) (u : Value), dpB K d u = true → ∃ v, RelV v u ∧ ∀ H, Dp K H v d
  | .none, u, h => by
    cases u with
    | none => exact ⟨.non, rfl, fun _ => .non⟩
    | _ => cases h
  | .bool b, u, h => by
    cases u with
    | bool c =>
      have e : b = c := eq_of_beq (show (b == c) = true from h)
      exact ⟨.bl b, by rw [e]; rfl, fun _ => .bl b⟩
    | _ => cases h
  | .int i, u, h => by
    cases u with
    | int j t =>
      have e : i = j := of_decide_eq_true h
      exact ⟨.int i, ⟨t, by rw [e]⟩, fun _ => .int i⟩
    | _ => cases h
  | .str x, u, h => by
    cases u with
    | str y t =>
      have e : x = y := of_decide_eq_true h
      exact ⟨.str x, ⟨t, by rw [e]⟩, fun _ => .str x⟩
    | _ => cases h
  | .tuple ds, u, h => by
    cases u with
    | ref a =>
      unfold dpB at h
      cases q : K.lookup a with
      | none => rw [q] at h; cases h
      | some o =>
        obtain ⟨oc, od, dt, osl⟩ := o
        rw [q] at h
        cases oc with
        | type c =>
          cases dt with
          | seq its n =>
            obtain ⟨h1, h2⟩ := He.ba (show (decide (c = "tuple") && (decide (its.size ≤ sizeLine) && dpBs K ds its.toList)) = true from h)
            obtain ⟨h3, h4⟩ := He.ba h2
            obtain ⟨vs, r, f⟩ := dpBs_ok ds its.toList h4
            exact ⟨.ref a, rfl, fun H => .tup (.inr ⟨_, its, n, q, congrArg Value.type (of_decide_eq_true h1), rfl, of_decide_eq_true h3, r⟩) (f H)⟩
          | _ => cases h
        | _ => cases dt <;> cases h
    | _ => cases h
  | .list ds, u, h => by
    cases u with
    | ref a =>
      unfold dpB at h
      cases q : K.lookup a with
      | none => rw [q] at h; cases h
      | some o =>
        obtain ⟨oc, od, dt, osl⟩ := o
        rw [q] at h
        cases oc with
        | type c =>
          cases od with
          | none =>
            cases dt with
            | seq its n =>
              obtain ⟨h1, h2⟩ := He.ba (show (decide (c = "list") && (decide (its.size ≤ sizeLine) && dpBs K ds its.toList)) = true from h)
              obtain ⟨h3, h4⟩ := He.ba h2
              obtain ⟨vs, r, f⟩ := dpBs_ok ds its.toList h4
              exact ⟨.ref a, rfl, fun H => .lst (.inr ⟨_, its, n, q, congrArg Value.type (of_decide_eq_true h1), rfl, rfl, of_decide_eq_true h3, r⟩) (f H)⟩
            | _ => cases h
          | some z => cases dt <;> cases h
        | _ => cases od <;> cases dt <;> cases h
    | _ => cases h
  | .dict _, u, h => by cases u <;> cases h
theorem dpBs_ok : ∀ (ds : List PyData) (us : List Value), dpBs K ds us = true → ∃ vs, Vals vs us ∧ ∀ H, DpAll K H vs ds
  | [], us, h => by
    cases us with
    | nil => exact ⟨[], .nil, fun _ => .nil⟩
    | cons u us => cases h
  | d :: ds, us, h => by
    cases us with
    | nil => cases h
    | cons u us =>
      obtain ⟨h1, h2⟩ := He.ba (show (dpB K d u && dpBs K ds us) = true from h)
      obtain ⟨v, r, f⟩ := dpB_ok d u h1
      obtain ⟨vs, rs, fs⟩ := dpBs_ok ds us h2
      exact ⟨v :: vs, .cons r rs, fun H => .cons (f H) (fs H)⟩
end
end
/-- exceptions by number; who is below whom; the words -/
structure ExT where
  en : List Str
  tab : List (List Bool)
  wtab : List (List Bool)
def ExT.cls (E : ExT) (K : PySem.W.Frag) (e : Nat) : Addr := He.ga K (E.en.getD e (E.en.headD ""))
def ExT.sub (E : ExT) (e c : Nat) : Bool := (E.tab.getD e (E.tab.headD [])).getD c false
def ExT.word (E : ExT) (e : Nat) : Option Str := if e < E.en.length then some (wordB (E.wtab.getD e [])) else none
def excCB (K : PySem.W.Frag) (D : Addr) : Bool :=
  decide (PySem.W.findIn K (.ref D) "__getattribute__" = some (some (.builtin "BaseException.__getattribute__"))) && (decide (PySem.W.findIn K (.ref D) "__getattr__" = some none) && (decide (PySem.W.subIn K (.ref D) (.type "BaseException") = some true) && (PySem.W.hasDictIn K D &&
  (decide (PySem.W.findIn K (.ref D) "__class__" = some (some (.builtin "object.__class__"))) && (decide (PySem.W.specialIn K (.builtin "object.__class__") "__get__" = some (some (.builtin "getset_descriptor.__get__"))) && (decide (PySem.W.takesIn K (.builtin "object.__class__") = some true) && decide (PySem.W.mroIn K D (.type "object") = some true)))))))
theorem excCB_ok {K : PySem.W.Frag} {D : Addr} (h : excCB K D = true) : ExcC K D := by
  unfold excCB at h
  simp only [Bool.and_eq_true, decide_eq_true_eq] at h
  obtain ⟨h1, h2, h3, h4, h5, h6, h7, h8⟩ := h
  exact ⟨h1, h2, h3, h4, h5, h6, h7, h8⟩
def nsB (K : PySem.W.Frag) (x : Str) (o : Option Value) : Bool := He.eqO (PySem.W.nsIn K mainGlobals x) (some o)
def glB (K : PySem.W.Frag) (con : List PyData) (E : ExT) (x : Str) : Gk → Bool
  | .fn _ _ => nsB K x (some (.ref (He.ga K x)))
  | .con i => (match PySem.W.nsIn K mainGlobals x, con[i]? with
    | some (some u), some d => dpB K d u
    | _, _ => false)
  | .txt i => (match PySem.W.nsIn K mainGlobals x, con[i]? with
    | some (some (.str L _)), some (.str L') => decide (L = L')
    | _, _ => false)
  | .exc c => decide (E.en[c]? = some x) && (nsB K x (some (.ref (He.ga K x))) && (He.Fa.exc x).ok K)
  | .free => nsB K x none
  | .gcd => nsB K x (some (.builtin "math.gcd"))
def wNm : List Str := ["OutOfRange", "Malformed", "NotThere", "Refused", "TooMuch"]
def clsB (K : PySem.W.Frag) (Ce : Addr) (b : Option Bool) (x : Str) : Bool := nsB K x (some (.ref (He.ga K x))) && decide (PySem.W.kitOne K (.ref Ce) (.ref (He.ga K x)) = b)
def wclsB (K : PySem.W.Frag) (Ce : Addr) (bs : List Bool) : Bool := excCB K Ce && (clsB K Ce bs[0]? "OutOfRange" && (clsB K Ce bs[1]? "Malformed" && (clsB K Ce bs[2]? "NotThere" && (clsB K Ce bs[3]? "Refused" && (clsB K Ce bs[4]? "TooMuch" && (decide (bs.length = 5) && (nsB K "isinstance" none && nsB K "len" none)))))))
def allLt (n : Nat) (p : Nat → Bool) : Bool := (List.range n).all p
theorem allLt_ok {n : Nat} {p : Nat → Bool} (h : allLt n p = true) {i : Nat} (hi : i < n) : p i = true := List.all_eq_true.mp h i (List.mem_range.mpr hi)
/-- all that is asked of the heap -/
def factsB (K : PySem.W.Frag) (gl : List (Str × Gk)) (con : List PyData) (E : ExT) (hasW : Bool) : Bool :=
  (gl.all fun p => glB K con E p.1 p.2) && (nsB K "law" (some (.ref (He.ga K "law"))) && ((allLt E.en.length fun e => allLt E.en.length fun c => decide (PySem.W.exmOne K (.ref (E.cls K e)) (.ref (E.cls K c)) = some (E.sub e c))) && (!hasW || (nsB K "_law_word" (some (.ref (He.ga K "_law_word"))) && allLt E.en.length fun e => wclsB K (E.cls K e) (E.wtab.getD e [])))))
theorem lookup_mem' {β : Type} {x : Str} {b : β} : ∀ {l : List (Str × β)}, l.lookup x = some b → (x, b) ∈ l
  | [], h => by cases h
  | (y, c) :: r, h => by
    rw [List.lookup_cons] at h
    cases q : (x == y) with
    | true =>
      rw [q] at h
      have e : c = b := Option.some.inj h
      rw [eq_of_beq q, e]
      exact List.mem_cons_self
    | false =>
      rw [q] at h
      exact List.mem_cons_of_mem _ (lookup_mem' h)
section
variable {K : PySem.W.Frag} {h : Heap} {mg : Str → Option Value} {gl : List (Str × Gk)} {con : List PyData} {E : ExT} {hasW : Bool}
theorem nsB_some (X : K.In h) (G : h.Ns mainGlobals mg) {x : Str} {u : Value} (c : nsB K x (some u) = true) : mg x = some u := PySem.W.mg_of X G (He.eqO_ok c)
theorem nsB_none (X : K.In h) (G : h.Ns mainGlobals mg) {x : Str} (c : nsB K x none = true) : mg x = none := PySem.W.mg_none_of X G (He.eqO_ok c)
theorem clsB_ok (X : K.In h) (G : h.Ns mainGlobals mg) {Ce : Addr} {b : Option Bool} {x : Str} (c : clsB K Ce b x = true) : ∃ D, mg x = some (.ref D) ∧ PySem.W.kitOne K (.ref Ce) (.ref D) = b := by
  obtain ⟨c1, c2⟩ := He.ba c
  exact ⟨_, nsB_some X G c1, of_decide_eq_true c2⟩
theorem wclsB_ok (X : K.In h) (G : h.Ns mainGlobals mg) {Ce : Addr} {bs : List Bool} (c : wclsB K Ce bs = true) {Y : Cx} (hK : Y.K = K) (hm : Y.mg = mg) : WCls Y Ce bs := by
  obtain ⟨c0, c⟩ := He.ba c
  obtain ⟨c1, c⟩ := He.ba c
  obtain ⟨c2, c⟩ := He.ba c
  obtain ⟨c3, c⟩ := He.ba c
  obtain ⟨c4, c⟩ := He.ba c
  obtain ⟨c5, c⟩ := He.ba c
  obtain ⟨c6, c⟩ := He.ba c
  obtain ⟨c7, c8⟩ := He.ba c
  refine ⟨?_, ?_, ?_, ?_, ?_, ?_, of_decide_eq_true c6, ?_, ?_⟩
  · rw [hK]; exact excCB_ok c0
  · rw [hK, hm]; exact clsB_ok X G c1
  · rw [hK, hm]; exact clsB_ok X G c2
  · rw [hK, hm]; exact clsB_ok X G c3
  · rw [hK, hm]; exact clsB_ok X G c4
  · rw [hK, hm]; exact clsB_ok X G c5
  · rw [hm]; exact nsB_none X G c7
  · rw [hm]; exact nsB_none X G c8
theorem cls_ge (he : E.en.length ≤ 0 → False) {e : Nat} (l : E.en.length ≤ e) : E.cls K e = E.cls K 0 := by
  unfold ExT.cls
  cases q : E.en with
  | nil => rw [q] at he; exact (he (Nat.le_refl _)).elim
  | cons a r =>
    rw [q] at l
    rw [List.getD_eq_getElem?_getD, List.getElem?_eq_none l]
    rfl
theorem sub_ge (he : E.en.length ≤ 0 → False) (ht : E.tab.length = E.en.length) {e c : Nat} (l : E.en.length ≤ e) : E.sub e c = E.sub 0 c := by
  unfold ExT.sub
  rw [← ht] at l he
  cases q : E.tab with
  | nil => rw [q] at he; exact (he (Nat.le_refl _)).elim
  | cons a r =>
    rw [q] at l
    have z : (a :: r).getD e ((a :: r).headD []) = a := by
      rw [List.getD_eq_getElem?_getD, List.getElem?_eq_none l]
      rfl
    rw [z]
    rfl
theorem facts_of {P : Program} {w : World} {base : Heap} {T : Addr → Prop} {N : List Str} {k turns : Nat} {call : Call} (X : K.In h) (G : h.Ns mainGlobals mg) (he : E.en.length ≤ 0 → False) (ht : E.tab.length = E.en.length) (c : factsB K gl con E hasW = true)
    (hfn : ∀ (x : Str) (i np : Nat), gl.lookup x = some (.fn i np) → ∃ f fd ps, FnOk P w K mg base (L2N.CX P w) k f fd ps (spF K (E.cls K) T call i np) ∧ mg x = some (.ref f) ∧ PySem.W.keepIn K (.ref f) = true ∧ L2.Binds K fd ps [])
    (hw : hasW = true → 1 ≤ k ∧ ∃ f, WordFn K mg f) :
    Facts P w K mg base (E.cls K) T ⟨call, con, E.sub, if hasW then E.word else fun _ => none, turns⟩ ⟨gl, N, hasW⟩ k := by
  obtain ⟨c1, c2⟩ := He.ba c
  obtain ⟨_, c2⟩ := He.ba c2
  obtain ⟨c2, c3⟩ := He.ba c2
  have look : ∀ {x : Str} {g : Gk}, gl.lookup x = some g → glB K con E x g = true := fun {x g} hx => List.all_eq_true.mp c1 (x, g) (lookup_mem' hx)
  refine ⟨fun x i np hx => hfn x i np hx, fun x i hx => ?_, fun x i hx => ?_, fun x ci hx => ?_, fun x hx => nsB_none X G (look hx), fun x hx => nsB_some X G (look hx), fun e z hz => ?_, hw⟩
  · have c4 : (match PySem.W.nsIn K mainGlobals x, con[i]? with
      | some (some u), some d => dpB K d u
      | _, _ => false) = true := look hx
    cases q1 : PySem.W.nsIn K mainGlobals x with
    | none => rw [q1] at c4; cases c4
    | some o =>
      cases o with
      | none => rw [q1] at c4; cases c4
      | some u =>
        cases q2 : con[i]? with
        | none => rw [q1, q2] at c4; cases c4
        | some d =>
          rw [q1, q2] at c4
          obtain ⟨v, r, f⟩ := dpB_ok d u c4
          exact ⟨d, v, u, PySem.W.mg_of X G q1, r, rfl, f⟩
  · have c4 : (match PySem.W.nsIn K mainGlobals x, con[i]? with
      | some (some (.str L _)), some (.str L') => decide (L = L')
      | _, _ => false) = true := look hx
    cases q1 : PySem.W.nsIn K mainGlobals x with
    | none => rw [q1] at c4; cases c4
    | some o =>
      cases o with
      | none => rw [q1] at c4; cases c4
      | some u =>
        rw [q1] at c4
        cases u with
        | str L t =>
          cases q2 : con[i]? with
          | none => rw [q2] at c4; cases c4
          | some d =>
            rw [q2] at c4
            cases d with
            | str L' =>
              have e : L = L' := of_decide_eq_true c4
              exact ⟨L, t, PySem.W.mg_of X G q1, by rw [e]⟩
            | _ => cases c4
        | _ => cases c4
  · obtain ⟨c4, c5⟩ := He.ba (look hx)
    obtain ⟨c5, c6⟩ := He.ba c5
    obtain ⟨e1, e2, e3, e4⟩ := He.exc_ok c6
    have en : E.cls K ci = He.ga K x := by
      unfold ExT.cls
      rw [List.getD_eq_getElem?_getD, of_decide_eq_true c4]
      rfl
    have hci : ci < E.en.length := (List.getElem?_eq_some_iff.mp (of_decide_eq_true c4)).1
    rw [en]
    refine ⟨nsB_some X G c5, ⟨_, _, _, _, PySem.F.excBase_ValueError, e1⟩, e2, e3, e4, fun e => ?_⟩
    rw [← en]
    by_cases l : e < E.en.length
    · exact of_decide_eq_true (allLt_ok (allLt_ok c2 l) hci)
    · have z := of_decide_eq_true (allLt_ok (allLt_ok c2 (i := 0) (by omega)) hci)
      rw [cls_ge he (by omega), z]
      show some _ = some (E.sub e ci)
      rw [sub_ge he ht (e := e) (by omega)]
  · cases hasW with
    | false => cases hz
    | true =>
      have hz : (if e < E.en.length then some (wordB (E.wtab.getD e [])) else none) = some z := hz
      by_cases l : e < E.en.length
      · rw [if_pos l] at hz
        cases hz
        refine ⟨_, rfl, fun Y hK hm => ?_⟩
        obtain ⟨_, c3⟩ := He.ba (show (nsB K "_law_word" (some (.ref (He.ga K "_law_word"))) && allLt E.en.length fun e => wclsB K (E.cls K e) (E.wtab.getD e [])) = true from c3)
        exact wclsB_ok X G (allLt_ok c3 l) hK hm
      · rw [if_neg l] at hz
        cases hz
end
def DefS.toD (d : DefS) : He.DefD := ⟨(d.name, none), d.name, d.qual, d.params, d.body, d.scope, [], []⟩
def bindP (params : Arguments) (ps : List Str) : Prop := ∀ (x qual : Str) (body : List Stmt) (scope : Scope) (kV doc pm : Value) (an : Option Addr) (cdv ct : Value) (us : List Value), us.length = ps.length → bindArgs (PySem.W.fnOf x qual params body scope .none kV doc pm an cdv ct) ⟨us, []⟩ = pure (ps.zip us)
def scopeB (d : DefS) : Bool := decide (d.scope.kind = .function) && (!d.scope.isCoroutine && (!d.scope.isGenerator && (decide d.N.Nodup && (decide (d.N.take d.ps.length = d.ps) && ((d.ps.all fun x => isLk d.scope x .local || isLk d.scope x .cell) && d.scope.names.all fun y => decide (y.2 ≠ .free))))))
theorem scopeB_ok {d : DefS} (h : scopeB d = true) : FnScope d.N d.ps d.scope := by
  obtain ⟨h1, h⟩ := He.ba h
  obtain ⟨h2, h⟩ := He.ba h
  obtain ⟨h3, h⟩ := He.ba h
  obtain ⟨h4, h⟩ := He.ba h
  obtain ⟨h5, h⟩ := He.ba h
  obtain ⟨h6, h7⟩ := He.ba h
  refine ⟨of_decide_eq_true h1, not_of h2, not_of h3, of_decide_eq_true h4, of_decide_eq_true h5, fun x hx => ?_, fun y hy => of_decide_eq_true (List.all_eq_true.mp h7 y hy)⟩
  have z := List.all_eq_true.mp h6 x hx
  rw [Bool.or_eq_true] at z
  exact z.imp of_decide_eq_true of_decide_eq_true
def defB (gl : List (Str × Gk)) (hasW : Bool) (fuel : Nat) (d : DefS) (fd : Fd) : Bool := decide (d.N.length = fd.ns) && (decide (d.ps.length = fd.np) && (decide (fd.np ≤ fd.ns) && chkSs ⟨gl, d.N, hasW⟩ fuel ⟨d.scope, none, d.gen⟩ fd.body d.body))
/-- the i-th of both -/
def all2 {α β : Type} (p : α → β → Bool) : List α → List β → Bool
  | [], [] => true
  | a :: as, b :: bs => p a b && all2 p as bs
  | _, _ => false
theorem all2_ok {α β : Type} {p : α → β → Bool} : ∀ {as : List α} {bs : List β}, all2 p as bs = true → ∀ {i : Nat} {a : α}, as[i]? = some a → ∃ b, bs[i]? = some b ∧ p a b = true
  | [], _, _, i, a, h => by simp at h
  | _ :: _, [], h, _, _, _ => by cases h
  | x :: as, y :: bs, h, 0, a, e => by
    have e : x = a := by simpa using e
    subst e
    exact ⟨y, rfl, (He.ba h).1⟩
  | x :: as, y :: bs, h, i + 1, a, e => by
    obtain ⟨b, h1, h2⟩ := all2_ok (He.ba (show (p x y && all2 p as bs) = true from h)).2 (i := i) (by simpa using e)
    exact ⟨b, by simpa using h1, h2⟩
def glFnB (gl : List (Str × Gk)) (ds : List DefS) : Bool := gl.all fun p => match p.2 with
  | .fn i np => (match ds[i]? with
    | some d => decide (d.name = p.1) && decide (d.ps.length = np)
    | none => false)
  | _ => true
end Pz

namespace Pz
open PySem PySem.Spec PyProof.Rows L2
/-- the tables of a law -/
structure Law where
  gl : List (Str × Gk)
  con : List PyData
  E : ExT
  hasW : Bool
  ds : List DefS
  fds : List Fd
  fuel : Nat
  turns : Nat
  depth : Nat
  /-- the def law, its parameter -/
  at_ : Nat
  x : Str
/-- the defs whose code makes generators -/
def Law.tf (L : Law) : List He.Defn := (L.ds.filter (·.gen)).map fun d => (d.name, none)
def Law.run (L : Law) : Call := callN L.fds L.con L.E.sub (if L.hasW then L.E.word else fun _ => none) L.turns (L.depth + 1)
def Law.okB (L : Law) : Bool := all2 (defB L.gl L.hasW L.fuel) L.ds L.fds && (L.ds.all scopeB && (glFnB L.gl L.ds && (decide (L.E.tab.length = L.E.en.length) && (decide (0 < L.E.en.length) && (match L.ds[L.at_]? with
  | some d => decide (d.name = "law") && decide (d.ps = [L.x])
  | none => false)))))
/-- the def _law_word as the text has it -/
structure WordD (d : DefS) : Prop where
  name : d.name = "_law_word"
  body : WordBody d.body
  names : d.scope.names = wNames
  scope : FnScope wN ["e"] d.scope
  bind : bindP d.params ["e"]
theorem tup_sub {K : PySem.W.Frag} {H : Hp} {a : Addr} {ns : List Int} (h : SqL K H a (ns.map V.int)) : Dp K H (.ref a) (.list (ns.map .int)) := by
  refine .lst h ?_
  clear h
  induction ns with
  | nil => exact .nil
  | cons n ns ih => exact .cons (.int n) ih
theorem cx_no {P : Program} {w : World} {H : Hp} {s s' : Shared} {u : Value} (h : L2N.CX P w [] H s (fun _ _ _ => False) u s') : False := by
  obtain ⟨_, _, _, _, _, _, _, _, _, _, _, _, hE⟩ := h
  exact hE
theorem hide_no {H : Hp} : hide (fun _ => False) H = H := by
  funext b
  unfold hide
  exact if_neg id
theorem law_at {l : PySem.W.OpenLaw} {L : Law} {fn : List He.DefD} {w : World} {mg : Str → Option Value} {fa : Addr} {h : Heap} {K : PySem.W.Frag} {n k : Nat} {fl : List He.Fa} {ts : List He.Tab} {ex : PySem.W.Frag → Bool}
    (ok : L.okB = true) (X : K.In h) (G : h.Ns mainGlobals mg) (hmg : mg "law" = some (.ref fa)) (c : He.SaysX fl fn ts L.tf ex w h K) (hfn : ∀ d ∈ L.ds, d.toD ∈ fn) (hb : ∀ d ∈ L.ds, bindP d.params d.ps)
    (hex : factsB K L.gl L.con L.E L.hasW = true) (hW : L.hasW = true → ∃ d : DefS, WordD d ∧ d.toD ∈ fn)
    (hk : L.depth + 2 ≤ k)
    (main : ∀ ns : List Int, ns.length ≤ n → (∀ z ∈ ns, Builtin.Int.intBits z ≤ 1048576) → L.run L.at_ [.fz (.list (ns.map .int))] = .ok (.fz (.bool true)) []) :
    LamX.LawAtS l w K (L2N.CX l.prog w) k n L.x mg fa h := by
  obtain ⟨o1, ok⟩ := He.ba ok
  obtain ⟨o2, ok⟩ := He.ba ok
  obtain ⟨o3, ok⟩ := He.ba ok
  obtain ⟨o4, ok⟩ := He.ba ok
  obtain ⟨o5, o6⟩ := He.ba ok
  have o4 := of_decide_eq_true o4
  have o5 := of_decide_eq_true o5
  -- the law's def
  obtain ⟨dl, l1, l2, l3⟩ : ∃ d, L.ds[L.at_]? = some d ∧ d.name = "law" ∧ d.ps = [L.x] := by
    revert o6
    cases q : L.ds[L.at_]? with
    | none => intro z; cases z
    | some d =>
      intro z
      obtain ⟨z1, z2⟩ := He.ba z
      exact ⟨d, rfl, of_decide_eq_true z1, of_decide_eq_true z2⟩
  -- the defs as they stand
  have hfun : ∀ d ∈ L.ds, ∃ fd, FunD K d.name d.qual d.params d.body d.scope [] [] (He.ga K d.name) fd := fun d hd => c.t.d.defs (hfn d hd)
  obtain ⟨fdl, hfdl⟩ := hfun dl (List.mem_of_getElem? l1)
  have hch : ∀ i : Nat, ∃ fd, ∀ d, L.ds[i]? = some d → FunD K d.name d.qual d.params d.body d.scope [] [] (He.ga K d.name) fd := fun i => by
    cases q : L.ds[i]? with
    | none => exact ⟨fdl, fun d z => by cases z⟩
    | some d =>
      obtain ⟨fd, z⟩ := hfun d (List.mem_of_getElem? q)
      exact ⟨fd, fun d' e => by cases e; exact z⟩
  obtain ⟨fdd, hfdd⟩ := Classical.axiomOfChoice hch
  -- where they stand
  let fas : Nat → Addr := fun i => He.ga K ((L.ds[i]?.map (·.name)).getD "")
  have hF : ∀ (i : Nat) (d : DefS), L.ds[i]? = some d → FunD K d.name d.qual d.params d.body d.scope [] [] (fas i) (fdd i) := fun i d hd => by
    have e : fas i = He.ga K d.name := by
      show He.ga K ((L.ds[i]?.map (·.name)).getD "") = _
      rw [hd]
      rfl
    rw [e]
    exact hfdd i d hd
  have efa : fas L.at_ = fa := by
    have z : mg dl.name = some (.ref fa) := by rw [l2]; exact hmg
    have e : fas L.at_ = He.ga K dl.name := by
      show He.ga K ((L.ds[L.at_]?.map (·.name)).getD "") = _
      rw [l1]
      rfl
    rw [e, l2]
    have z2 : mg "law" = some (.ref (He.ga K "law")) := nsB_some X G (He.ba (He.ba hex).2).1
    rw [hmg] at z2
    cases z2
    rfl
  refine ⟨fdd L.at_, L.tf.map (He.cT K), spF K (L.E.cls K) (fun P => ∃ p ∈ L.tf, P = (He.cT K p).2) L.run L.at_ 1, fun p hp => ?_, fun p hp => ?_, fun p hp => ?_, fun s u => ?_, fun H a ns h1 h2 h3 h4 => ?_, fun base Xb Gb hT => ?_⟩
  · obtain ⟨q, hq, rfl⟩ := List.mem_map.mp hp
    exact c.empty q hq
  · obtain ⟨q, hq, rfl⟩ := List.mem_map.mp hp
    exact c.out q hq
  · obtain ⟨q, hq, rfl⟩ := List.mem_map.mp hp
    exact PySem.W.codeHd_of_K X (c.hd q hq)
  · have := (hF _ _ l1).bindsA (ps := dl.ps) (fun kV doc pm an cdv ct us hl => hb dl (List.mem_of_getElem? l1) _ _ _ _ kV doc pm an cdv ct us hl) s [u] (by rw [l3]; rfl)
    rw [l3] at this
    exact this
  · refine ⟨fun _ => False, [.fz (.list (ns.map .int))], .cons (by rw [show ArgOk K (L.E.cls K) (fun _ => False) H (.ref a) (.fz (.list (ns.map .int))) = Dp K (hide (fun _ => False) H) (.ref a) (.list (ns.map .int)) from rfl, hide_no]; exact tup_sub h4) .nil, fun i j b ⟨⟨s, h5, h6⟩, _⟩ _ => ?_, fun b hb => hb.elim, fun P ⟨p, hp, e⟩ => ⟨#[], by rw [e]; exact h3 _ (List.mem_map.mpr ⟨p, hp, rfl⟩), ?_⟩, rfl, ?_⟩
    · cases i with
      | zero => cases h5; cases h6
      | succ i => simp at h5
    · trivial
    · rw [main ns h1 h2]
      intro y H' _ r _ _
      have r : Dp K (hide (fun _ => False) H') y (.bool true) := r
      cases r
      rfl
  · have key := fns_ok (P := l.prog) (w := w) (K := K) (mg := mg) (base := base) (C := L.E.cls K) (T := fun P => ∃ p ∈ L.tf, P = (He.cT K p).2) (T_ := L.fds) (con := L.con) (sub := L.E.sub) (word := if L.hasW then L.E.word else fun _ => none) (turns := L.turns) (fuel := L.fuel) (ds := L.ds) (fa := fas) (fdd := fdd) (gl := L.gl) (hasW := L.hasW)
      (fun i d hd => ?_) hF (fun i d hd => scopeB_ok (List.all_eq_true.mp o2 d (List.mem_of_getElem? hd))) (fun i d hd hg => ?_) (fun x i np hx => ?_) (fun N m hm => facts_of X G (by omega) o4 hex hm fun hw => ⟨by omega, ?_⟩) (L.depth + 1) L.at_ dl l1
    · rw [efa, l3] at key
      exact key.mono hk
    · obtain ⟨fd, h1, h2⟩ := all2_ok o1 hd
      obtain ⟨h3, h4⟩ := He.ba h2
      obtain ⟨h4, h5⟩ := He.ba h4
      obtain ⟨h5, h6⟩ := He.ba h5
      exact ⟨fd, h1, of_decide_eq_true h3, of_decide_eq_true h4, of_decide_eq_true h5, h6⟩
    · obtain ⟨oc, od, dV, kV, doc, pm, an, cdv, ct, osl, e1, e2, e3, _, _⟩ := (hF i d hd).ex
      obtain ⟨cc, e4⟩ := He.codeIn_ref e3
      have hm : (d.name, none) ∈ L.tf := List.mem_map.mpr ⟨d, List.mem_filter.mpr ⟨List.mem_of_getElem? hd, hg⟩, rfl⟩
      have e5 : (fdd i).code = .ref cc := by rw [e1]; exact e4
      have e6 : fas i = He.fAd K (d.name, none) := by
        show He.ga K ((L.ds[i]?.map (·.name)).getD "") = _
        rw [hd]
        rfl
      rw [e6] at e2
      have e7 : (He.cT K (d.name, none)).1 = cc := He.codeOf_eq e2 e5
      have z := hT _ (List.mem_map.mpr ⟨_, hm, rfl⟩)
      rw [e7] at z
      exact ⟨cc, (He.cT K (d.name, none)).2, e5, ⟨z.code, z.bm, z.gP⟩, _, hm, rfl⟩
    · have z := List.all_eq_true.mp o3 (x, .fn i np) (lookup_mem' hx)
      have z2 : (match L.ds[i]? with
        | some d => decide (d.name = x) && decide (d.ps.length = np)
        | none => false) = true := z
      cases q : L.ds[i]? with
      | none => rw [q] at z2; cases z2
      | some d =>
        rw [q] at z2
        obtain ⟨z3, z4⟩ := He.ba z2
        have z3 := of_decide_eq_true z3
        have m : mg x = some (.ref (He.ga K x)) := nsB_some X G (List.all_eq_true.mp (He.ba hex).1 (x, .fn i np) (lookup_mem' hx))
        refine ⟨d, rfl, of_decide_eq_true z4, ?_, (hF i d q).bindsN fun kV doc pm an cdv ct us hl => hb d (List.mem_of_getElem? q) _ _ _ _ kV doc pm an cdv ct us hl⟩
        show mg x = some (.ref (He.ga K ((L.ds[i]?.map (·.name)).getD "")))
        rw [q]
        show mg x = some (.ref (He.ga K d.name))
        rw [z3]
        exact m
    · obtain ⟨d, wd, hd⟩ := hW hw
      obtain ⟨fd, F⟩ := c.t.d.defs hd
      obtain ⟨oc, od, dV, kV, doc, pm, an, cdv, ct, osl, e1, e2, e3, _, _⟩ := F.ex
      refine ⟨He.ga K d.name, ?_, F.kp, oc, od, d.name, d.qual, d.params, d.body, d.scope, dV, kV, doc, pm, cdv, ct, an, osl, ?_, e3, wd.body, wd.names, wd.scope, ?_⟩
      · have z : mg "_law_word" = some (.ref (He.ga K "_law_word")) := by
          have z := (He.ba (He.ba (He.ba hex).2).2).2
          rw [hw] at z
          exact nsB_some X G (He.ba z).1
        rw [wd.name]
        exact z
      · have e2 := e2
        rw [e1] at e2
        exact e2
      · have F2 := F
        rw [e1] at F2
        exact F2.bindsN fun kV doc pm an cdv ct us hl => wd.bind _ _ _ _ kV doc pm an cdv ct us hl
end Pz

namespace Pz.R
open Pz
open PySem hiding execs exec
theorem at_0 {α : Type} (a : α) (l : List α) : at_ (a :: l) 0 = some a := by
  unfold at_ L2.atI L2.ixN
  simp
theorem at_1 {α : Type} (a b : α) (l : List α) : at_ (a :: b :: l) 1 = some b := by
  unfold at_ L2.atI L2.ixN
  simp
  rw [if_pos (by omega)]
  rfl
section
variable {α β : Type}
theorem bind_ap (x : M α) (f : α → M β) (ρ : Env) : M.bind x f ρ = match x ρ with
  | .ok a ρ1 => f a ρ1
  | .ex c ρ1 => .ex c ρ1
  | .st => .st := rfl
theorem bind_ok {x : M α} {f : α → M β} {ρ ρ1 : Env} {a : α} (h : x ρ = .ok a ρ1) : M.bind x f ρ = f a ρ1 := by
  unfold M.bind
  rw [h]
theorem bind_ex {x : M α} {f : α → M β} {ρ ρ1 : Env} {c : Nat} (h : x ρ = .ex c ρ1) : M.bind x f ρ = .ex c ρ1 := by
  unfold M.bind
  rw [h]
theorem pure_ap (a : α) (ρ : Env) : M.pure a ρ = .ok a ρ := rfl
theorem pure_bind (a : α) (f : α → M β) : M.bind (M.pure a) f = f a := rfl
theorem bind_bind {γ : Type} (x : M α) (f : α → M β) (g : β → M γ) : M.bind (M.bind x f) g = M.bind x fun a => M.bind (f a) g := by
  funext ρ
  unfold M.bind
  cases x ρ <;> rfl
theorem ofO_some (a : α) : M.ofO (some a) = M.pure a := rfl
theorem ofO_none : (M.ofO (none : Option α)) = M.stuck := rfl
end
theorem look_fz (d : D) : look (.fz d) = M.pure d := rfl
theorem look_bx (b : Box) : look (.bx b) = M.pure b.d := rfl
theorem keep_fz (d : D) : Pz.keep (.fz d) = M.pure d := rfl
theorem keep_bx (b : Box) : Pz.keep (.bx b) = M.pure b.d := rfl
theorem look_vw {i : Nat} {ρ : Env} {b : Box} {io lk : Bool} (h : ρ[i]? = some (.bx b io lk)) : look (.vw i) ρ = .ok b.d ρ := by
  unfold look
  simp only [h]
theorem slot_fz (d : D) : (Val.fz d).slot = some (.fz d) := rfl
theorem slot_bx (b : Box) : (Val.bx b).slot = some (.fz b.d) := rfl
theorem look_vw' (i : Nat) (ρ : Env) : look (.vw i) ρ = match ρ[i]? with
    | some (.bx b _ _) => .ok b.d ρ
    | _ => .st := rfl
theorem both_1 (x : M Val) : (both x).1 = x := rfl
theorem both_2 (x : M Val) : (both x).2 = M.bind x fun v => M.bind (look v) fun d => M.ofO (truth d) := rfl
theorem getV_fz {ρ : Env} {i : Nat} {d : D} (h : ρ[i]? = some (.fz d)) : getV i ρ = .ok (.fz d) ρ := by
  unfold getV
  rw [h]
theorem getV_bx {ρ : Env} {i : Nat} {b : Box} {io lk : Bool} (h : ρ[i]? = some (.bx b io lk)) : getV i ρ = .ok (.vw i) ρ := by
  unfold getV
  rw [h]
theorem setS_ok {ρ : Env} {i : Nat} {s : Slot} (h : i < ρ.length) : setS i s ρ = .ok () (ρ.set i s) := if_pos h
theorem putV_fz (i : Nat) (d : D) : putV i (.fz d) = setS i (.fz d) := rfl
theorem putV_bx (i : Nat) (b : Box) : putV i (.bx b) = setS i (.bx b false false) := rfl
theorem eqI (i j : Int) : cmpD .eq (.int i) (.int j) = some (i == j) := by rfl
theorem neI (i j : Int) : cmpD .ne (.int i) (.int j) = some (!(i == j)) := by rfl
theorem gtI (i j : Int) : cmpD .gt (.int i) (.int j) = some (decide (j < i)) := by rfl
theorem geI (i j : Int) : cmpD .ge (.int i) (.int j) = some (decide (j ≤ i)) := by rfl
theorem ltI (i j : Int) : cmpD .lt (.int i) (.int j) = some (decide (i < j)) := by rfl
theorem leI (i j : Int) : cmpD .le (.int i) (.int j) = some (decide (i ≤ j)) := by rfl
theorem eqB (i j : Bool) : cmpD .eq (.bool i) (.bool j) = some (i == j) := by rfl
theorem neB (i j : Bool) : cmpD .ne (.bool i) (.bool j) = some (!(i == j)) := by rfl
theorem eqS (i j : Str) : cmpD .eq (.str i) (.str j) = some (i == j) := by rfl
theorem neS (i j : Str) : cmpD .ne (.str i) (.str j) = some (!(i == j)) := by rfl
theorem isN (d : D) : cmpD .is_ d .none = some (isNone d) := by cases d <;> rfl
theorem nisN (d : D) : cmpD .nis d .none = some (!isNone d) := by cases d <;> rfl
theorem fdI {i j : Int} (h : j ≠ 0) (h2 : j.natAbs.log2 < 9000) : opI .fdiv i j = some (Int.fdiv i j) := if_pos ⟨h, h2⟩
theorem modI {i j : Int} (h : j ≠ 0) : opI .mod i j = some (Int.fmod i j) := if_pos h
theorem addI (i j : Int) : opI .add i j = some (i + j) := rfl
theorem subI (i j : Int) : opI .sub i j = some (i - j) := rfl
theorem opII (o : Bo) (i j : Int) : opV o (.int i) (.int j) = (opI o i j).map fun k => .fz (.int k) := by cases o <;> rfl
theorem intV_int (i : Int) : intV [.int i] = some (.fz (.int i)) := rfl
theorem truthB (b : Bool) : truth (.bool b) = some b := rfl
theorem truthI (i : Int) : truth (.int i) = some (i != 0) := rfl
theorem ex_nx {G : G0} {a : Sm} {l : Sms} {ρ ρ1 : Env} (h : exec G a ρ = .ok .nx ρ1) : execs G (.cons a l) ρ = execs G l ρ1 := by
  show M.bind (exec G a) _ ρ = _
  rw [R.bind_ok h]
theorem ex_rt {G : G0} {a : Sm} {l : Sms} {ρ ρ1 : Env} {v : Val} (h : exec G a ρ = .ok (.rt v) ρ1) : execs G (.cons a l) ρ = .ok (.rt v) ρ1 := by
  show M.bind (exec G a) _ ρ = _
  rw [R.bind_ok h]
  rfl
theorem ex_ex {G : G0} {a : Sm} {l : Sms} {ρ ρ1 : Env} {c : Nat} (h : exec G a ρ = .ex c ρ1) : execs G (.cons a l) ρ = .ex c ρ1 := by
  show M.bind (exec G a) _ ρ = _
  rw [R.bind_ex h]
theorem ex_whl {G : G0} {b : List Nat} {t : Tm} {p : Sms} {ρ ρ1 : Env} (h : frz b ρ = .ok () ρ1) : exec G (.whl b t p) ρ = whiles (evT G t) (execs G p) G.turns ρ1 := by
  show M.bind (frz b) _ ρ = _
  rw [R.bind_ok h]
theorem ex_for {G : G0} {b : List Nat} {t : Tgt} {it : It} {p : Sms} {ρ ρ1 ρ2 : Env} {ds : List D} (h : frz b ρ = .ok () ρ1) (h2 : evi G it ρ1 = .ok ds ρ2) : exec G (.for_ b t it p) ρ = loop (fun d => M.bind (t.put d) fun _ => execs G p) ds ρ2 := by
  show M.bind (frz b) _ ρ = _
  rw [R.bind_ok h, R.bind_ok h2]
theorem ex_asg {G : G0} {b : List Nat} {i : Nat} {e : Tm} {ρ ρ1 ρ2 ρ3 : Env} {x : Val} (h : frz b ρ = .ok () ρ1) (h2 : ev G e ρ1 = .ok x ρ2) (h3 : putV i x ρ2 = .ok () ρ3) : exec G (.asg b i e) ρ = .ok .nx ρ3 := by
  show M.bind (frz b) _ ρ = _
  rw [R.bind_ok h, R.bind_ok h2, R.bind_ok h3]
  rfl
theorem ex_ret {G : G0} {b : List Nat} {e : Tm} {ρ ρ1 ρ2 : Env} {d : D} (h : frz b ρ = .ok () ρ1) (h2 : ev G e ρ1 = .ok (.fz d) ρ2) : exec G (.ret b e) ρ = .ok (.rt (.fz d)) ρ2 := by
  show M.bind (frz b) _ ρ = _
  rw [R.bind_ok h, R.bind_ok h2]
  rfl
theorem ex_if {G : G0} {b : List Nat} {t : Tm} {p q : Sms} {ρ ρ1 ρ2 : Env} {k : Bool} (h : frz b ρ = .ok () ρ1) (h2 : evT G t ρ1 = .ok k ρ2) : exec G (.ifs b t p q) ρ = if k then execs G p ρ2 else execs G q ρ2 := by
  show M.bind (frz b) _ ρ = _
  rw [R.bind_ok h, R.bind_ok h2]
  cases k <;> rfl
def ret0 : FR → Env → Res Val
  | .ok v [], ρ => .ok v ρ
  | .ex c [], ρ => .ex c ρ
  | _, _ => .st
theorem ret0_ok (v : Val) (ρ : Env) : ret0 (.ok v []) ρ = .ok v ρ := rfl
theorem ret0_ex (c : Nat) (ρ : Env) : ret0 (.ex c []) ρ = .ex c ρ := rfl
theorem callM_0 {C : Call} {f : Nat} {as : List (Slot ⊕ Nat)} {ss : List Slot} {ρ : Env} (h1 : fillA ρ as = some ss) (h2 : iosA as = []) : callM C f as ρ = ret0 (C f ss) ρ := by
  unfold callM
  rw [h1, h2]
  simp only [List.nodup_nil, if_true, List.length_nil]
  cases C f ss with
  | st => rfl
  | ok v outs => cases outs <;> rfl
  | ex c outs => cases outs <;> rfl
theorem call1 {C : Call} {f : Nat} {a : Slot} {ρ : Env} : callM C f [.inl a] ρ = ret0 (C f [a]) ρ := callM_0 rfl rfl
theorem call2 {C : Call} {f : Nat} {a b : Slot} {ρ : Env} : callM C f [.inl a, .inl b] ρ = ret0 (C f [a, b]) ρ := callM_0 rfl rfl
theorem call3 {C : Call} {f : Nat} {a b c : Slot} {ρ : Env} : callM C f [.inl a, .inl b, .inl c] ρ = ret0 (C f [a, b, c]) ρ := callM_0 rfl rfl
theorem call4 {C : Call} {f : Nat} {a b c d : Slot} {ρ : Env} : callM C f [.inl a, .inl b, .inl c, .inl d] ρ = ret0 (C f [a, b, c, d]) ρ := callM_0 rfl rfl
/-- the caller's box in the slot i, then data -/
def ret1 (i : Nat) (io : Bool) : FR → Env → Res Val
  | .ok v [b], ρ => .ok v (ρ.set i (.bx b io false))
  | .ex c [b], ρ => .ex c (ρ.set i (.bx b io false))
  | _, _ => .st
theorem ret1_ok (i : Nat) (io : Bool) (v : Val) (b : Box) (ρ : Env) : ret1 i io (.ok v [b]) ρ = .ok v (ρ.set i (.bx b io false)) := rfl
theorem callI1 {C : Call} {f i : Nat} {ρ : Env} {b : Box} {io : Bool} (h : ρ[i]? = some (.bx b io false)) : callM C f [.inr i] ρ = ret1 i io (C f [.bx b true false]) ρ := by
  have h1 : fillA ρ [.inr i] = some [.bx b true false] := by simp only [fillA, h, Option.map_some]
  unfold callM
  rw [h1]
  show (if [i].Nodup then _ else _) = _
  rw [if_pos (by simp)]
  cases C f [.bx b true false] with
  | st => rfl
  | ok v outs => cases outs with
    | nil => rfl
    | cons b' r => cases r with
      | nil => simp [ret1, outsA, iosA, h]
      | cons _ _ => rfl
  | ex c outs => cases outs with
    | nil => rfl
    | cons b' r => cases r with
      | nil => simp [ret1, outsA, iosA, h]
      | cons _ _ => rfl
theorem callI2 {C : Call} {f i : Nat} {ρ : Env} {b : Box} {io : Bool} {a : Slot} (h : ρ[i]? = some (.bx b io false)) : callM C f [.inr i, .inl a] ρ = ret1 i io (C f [.bx b true false, a]) ρ := by
  have h1 : fillA ρ [.inr i, .inl a] = some [.bx b true false, a] := by simp only [fillA, h, Option.map_some]
  unfold callM
  rw [h1]
  show (if [i].Nodup then _ else _) = _
  rw [if_pos (by simp)]
  cases C f [.bx b true false, a] with
  | st => rfl
  | ok v outs => cases outs with
    | nil => rfl
    | cons b' r => cases r with
      | nil => simp [ret1, outsA, iosA, h]
      | cons _ _ => rfl
  | ex c outs => cases outs with
    | nil => rfl
    | cons b' r => cases r with
      | nil => simp [ret1, outsA, iosA, h]
      | cons _ _ => rfl
theorem callI1' {C : Call} {f i : Nat} {ρ : Env} : callM C f [.inr i] ρ = match ρ[i]? with
    | some (.bx b io false) => ret1 i io (C f [.bx b true false]) ρ
    | _ => .st := by
  cases h : ρ[i]? with
  | none => simp only [callM, fillA, h]
  | some s =>
    cases s with
    | bx b io lk =>
      cases lk with
      | false => exact callI1 h
      | true => simp only [callM, fillA, h]
    | _ => simp only [callM, fillA, h]
theorem callI2' {C : Call} {f i : Nat} {ρ : Env} {a : Slot} : callM C f [.inr i, .inl a] ρ = match ρ[i]? with
    | some (.bx b io false) => ret1 i io (C f [.bx b true false, a]) ρ
    | _ => .st := by
  cases h : ρ[i]? with
  | none => simp only [callM, fillA, h]
  | some s =>
    cases s with
    | bx b io lk =>
      cases lk with
      | false => exact callI2 h
      | true => simp only [callM, fillA, h]
    | _ => simp only [callM, fillA, h]
/-- a for -/
theorem loop_inv {turn : D → M Fl} (I : List D → Env → Prop) (h : ∀ d ds ρ, I (d :: ds) ρ → ∃ ρ', turn d ρ = .ok .nx ρ' ∧ I ds ρ') : ∀ (ds : List D) (ρ : Env), I ds ρ → ∃ ρ', loop turn ds ρ = .ok .nx ρ' ∧ I [] ρ'
  | [], ρ, i => ⟨ρ, rfl, i⟩
  | d :: ds, ρ, i => by
    obtain ⟨ρ1, e, i1⟩ := h d ds ρ i
    obtain ⟨ρ2, e2, i2⟩ := loop_inv I h ds ρ1 i1
    refine ⟨ρ2, ?_, i2⟩
    show M.bind (turn d) _ ρ = _
    rw [bind_ok e]
    exact e2
/-- a comprehension: what each turn gives -/
theorem comps_inv {own : List Nat} {turn : D → M (Option D)} (I : List D → List D → Env → Prop) (h : ∀ d ds acc ρ, I (d :: ds) acc ρ → ∃ r ρ', turn d (wipe own ρ) = .ok r ρ' ∧ match r with
    | some y => acc.length < lim ∧ I ds (acc ++ [y]) ρ'
    | none => I ds acc ρ') : ∀ (ds acc : List D) (ρ : Env), I ds acc ρ → ∃ ys ρ', comps own turn ds acc ρ = .ok ys ρ' ∧ I [] ys ρ'
  | [], acc, ρ, i => ⟨acc, ρ, rfl, i⟩
  | d :: ds, acc, ρ, i => by
    obtain ⟨r, ρ1, e, i1⟩ := h d ds acc ρ i
    cases r with
    | none =>
      obtain ⟨ys, ρ2, e2, i2⟩ := comps_inv I h ds acc ρ1 i1
      refine ⟨ys, ρ2, ?_, i2⟩
      show M.bind (fun ρ => turn d (wipe own ρ)) _ ρ = _
      rw [bind_ok (x := fun ρ => turn d (wipe own ρ)) e]
      exact e2
    | some y =>
      obtain ⟨ys, ρ2, e2, i2⟩ := comps_inv I h ds (acc ++ [y]) ρ1 i1.2
      refine ⟨ys, ρ2, ?_, i2⟩
      show M.bind (fun ρ => turn d (wipe own ρ)) _ ρ = _
      rw [bind_ok (x := fun ρ => turn d (wipe own ρ)) e]
      show (if acc.length < lim then comps own turn ds (acc ++ [y]) else M.stuck) ρ1 = _
      rw [if_pos i1.1]
      exact e2
/-- a comprehension that only looks: each turn gives f of its item -/
theorem comps_map {own : List Nat} {turn : D → M (Option D)} (f : D → Option D) (J : Env → Prop) (hw : ∀ d ρ, J ρ → ∃ ρ', turn d (wipe own ρ) = .ok (f d) ρ' ∧ J ρ') : ∀ (ds acc : List D) (ρ : Env), J ρ → acc.length + ds.length ≤ lim → ∃ ρ', comps own turn ds acc ρ = .ok (acc ++ ds.filterMap f) ρ' ∧ J ρ'
  | [], acc, ρ, i, _ => ⟨ρ, by simp [comps, M.pure], i⟩
  | d :: ds, acc, ρ, i, hl => by
    obtain ⟨ρ1, e, i1⟩ := hw d ρ i
    have step : ∀ acc', acc'.length + ds.length ≤ lim → comps own turn (d :: ds) acc ρ = comps own turn ds acc' ρ1 → acc' ++ ds.filterMap f = acc ++ (d :: ds).filterMap f → ∃ ρ', comps own turn (d :: ds) acc ρ = .ok (acc ++ (d :: ds).filterMap f) ρ' ∧ J ρ' := fun acc' l e1 e2 => by
      obtain ⟨ρ2, e3, i2⟩ := comps_map f J hw ds acc' ρ1 i1 l
      exact ⟨ρ2, by rw [e1, e3, e2], i2⟩
    cases hf : f d with
    | none =>
      rw [hf] at e
      refine step acc (by simp at hl; omega) ?_ (by rw [List.filterMap_cons, hf])
      show M.bind (fun ρ => turn d (wipe own ρ)) _ ρ = _
      rw [bind_ok (x := fun ρ => turn d (wipe own ρ)) e]
    | some y =>
      rw [hf] at e
      refine step (acc ++ [y]) (by simp at hl ⊢; omega) ?_ (by rw [List.filterMap_cons, hf]; simp)
      show M.bind (fun ρ => turn d (wipe own ρ)) _ ρ = _
      rw [bind_ok (x := fun ρ => turn d (wipe own ρ)) e]
      show (if acc.length < lim then comps own turn ds (acc ++ [y]) else M.stuck) ρ1 = _
      rw [if_pos (by simp at hl; omega)]
theorem at_nat {α : Type} {xs : List α} {k : Nat} (h : k < xs.length) : at_ xs (k : Int) = xs[k]? := by
  unfold at_ L2.atI L2.ixN
  rw [if_pos (by omega), if_pos (by omega)]
  rfl
theorem ev_cmp0 {G : G0} {own : List Nat} {t : Tgt} {it : It} {e : Tm} {ρ ρ1 ρ2 : Env} {ds ys : List D} (h1 : evi G it ρ = .ok ds ρ1) (hb : noBox own ρ1 = true)
    (h2 : comps own (fun d => M.bind (t.put d) fun _ => M.bind (ev G e) fun x => M.bind (keep x) fun y => M.pure (some y)) ds [] ρ1 = .ok ys ρ2) : ev G (.cmp0 own t it e) ρ = .ok (.bx (.l ys)) (back own ρ1 ρ2) := by
  show M.bind (evi G it) _ ρ = _
  rw [R.bind_ok h1]
  show (if noBox own ρ1 = false then .st else M.bind (M.calm (comps own (fun d => M.bind (t.put d) fun _ => M.bind (ev G e) fun x => M.bind (keep x) fun y => M.pure (some y)) ds [])) (fun ys ρ => .ok (Val.bx (.l ys)) (back own ρ1 ρ)) ρ1) = _
  rw [hb, if_neg (by decide), R.bind_ok (a := ys) (ρ1 := ρ2) (by unfold M.calm; rw [h2])]
theorem ev_cmp1 {G : G0} {own : List Nat} {t : Tgt} {it : It} {w e : Tm} {ρ ρ1 ρ2 : Env} {ds ys : List D} (h1 : evi G it ρ = .ok ds ρ1) (hb : noBox own ρ1 = true)
    (h2 : comps own (fun d => M.bind (t.put d) fun _ => M.bind (evT G w) fun k => if k then M.bind (ev G e) fun x => M.bind (keep x) fun y => M.pure (some y) else M.pure none) ds [] ρ1 = .ok ys ρ2) : ev G (.cmp1 own t it w e) ρ = .ok (.bx (.l ys)) (back own ρ1 ρ2) := by
  show M.bind (evi G it) _ ρ = _
  rw [R.bind_ok h1]
  show (if noBox own ρ1 = false then .st else M.bind (M.calm (comps own (fun d => M.bind (t.put d) fun _ => M.bind (evT G w) fun k => if k then M.bind (ev G e) fun x => M.bind (keep x) fun y => M.pure (some y) else M.pure none) ds [])) (fun ys ρ => .ok (Val.bx (.l ys)) (back own ρ1 ρ)) ρ1) = _
  rw [hb, if_neg (by decide), R.bind_ok (a := ys) (ρ1 := ρ2) (by unfold M.calm; rw [h2])]
theorem evi_r1 {G : G0} {a : Tm} {ρ ρ1 : Env} {i : Int} (h : ev G a ρ = .ok (.fz (.int i)) ρ1) (l : -1000000 ≤ i ∧ i ≤ 1000000) : evi G (.r1 a) ρ = .ok ((List.range i.toNat).map fun (k : Nat) => .int k) ρ1 := by
  show M.bind (ev G a) _ ρ = _
  rw [R.bind_ok h]
  show (if -1000000 ≤ i ∧ i ≤ 1000000 then M.pure ((List.range i.toNat).map fun (k : Nat) => PyData.int k) else M.stuck) ρ1 = _
  rw [if_pos l]
  rfl
/-- a term that is looked at, as a test -/
theorem evT_of {G : G0} {a : Tm} {ρ ρ1 : Env} {d : D} {b : Bool} (hb : (ev2 G a) = both (ev G a)) (h : ev G a ρ = .ok (.fz d) ρ1) (ht : truth d = some b) : evT G a ρ = .ok b ρ1 := by
  unfold evT
  rw [hb]
  show M.bind (ev G a) _ ρ = _
  rw [R.bind_ok h]
  show M.bind (M.pure d) _ ρ1 = _
  show M.ofO (truth d) ρ1 = _
  rw [ht]
  rfl
end Pz.R

namespace K04
open Pz PySem PyProof.Rows L2
def topS (i : Nat) : Stmt := PySem.Challenge.pw_paidallways_k04_whole_parts_and_their_te.main.body.getD i (.Pass ⟨0, 0, 0, 0⟩)
def con : List PyData := [(.str (Str.ofString "abcdefghijklmnopqrstuvwxyz")), (.int (1000000000000000000000000000000000000000000000000000000000000)), (.tuple [(.int (0)), (.int (1))]), (.tuple [(.int (1)), (.int (1))]), (.str (Str.ofString "0123456789"))]
/-- is_number -/
def fd0 : Pz.Fd := ⟨3, 3, [], (.cons (.ret [] (.an (.isi (.v 0) .int) (.an (.nt (.isi (.v 0) .bool)) (.cmp2 .le .le (.v 1) (.v 0) (.v 2)))))
.nil)⟩
/-- is_word -/
def fd1 : Pz.Fd := ⟨1, 1, [], (.cons (.ret [] (.an (.isi (.v 0) .str) (.an (.cmp2 .le .le (.c (.int (1))) (.bi .len (.cons (.v 0) .nil)) (.c (.int (6)))) (.alls (.v 0) 0))))
.nil)⟩
/-- is_part -/
def fd2 : Pz.Fd := ⟨1, 1, [], (.cons (.ifs [] (.or (.nt (.isi (.v 0) .tuple)) (.cmp .ne (.bi .len (.cons (.v 0) .nil)) (.c (.int (2)))))
(.cons (.ret [] (.c (.bool false)))
.nil)
.nil)
(.cons (.ifs [] (.or (.nt (.call 0 (.cons (.ix (.v 0) (.c (.int (0)))) (.cons (.neg (.g 1)) (.cons (.g 1) .nil))))) (.nt (.call 0 (.cons (.ix (.v 0) (.c (.int (1)))) (.cons (.c (.int (1))) (.cons (.g 1) .nil))))))
(.cons (.ret [] (.c (.bool false)))
.nil)
.nil)
(.cons (.ret [] (.cmp .eq (.bi .gcd (.cons (.ix (.v 0) (.c (.int (0)))) (.cons (.ix (.v 0) (.c (.int (1)))) .nil))) (.c (.int (1)))))
.nil)))⟩
/-- part -/
def fd3 : Pz.Fd := ⟨2, 4, [], (.cons (.ifs [] (.cmp .eq (.v 1) (.c (.int (0))))
(.cons (.rais 3)
.nil)
.nil)
(.cons (.asg [] 2 (.ie (.cmp .gt (.v 1) (.c (.int (0)))) (.bi .gcd (.cons (.v 0) (.cons (.v 1) .nil))) (.neg (.bi .gcd (.cons (.v 0) (.cons (.v 1) .nil))))))
(.cons (.asg [] 3 (.tup (.cons (.bin .fdiv (.v 0) (.v 2)) (.cons (.bin .fdiv (.v 1) (.v 2)) .nil))))
(.cons (.ifs [] (.or (.cmp .gt (.bi .abs (.cons (.ix (.v 3) (.c (.int (0)))) .nil)) (.g 1)) (.cmp .gt (.ix (.v 3) (.c (.int (1)))) (.g 1)))
(.cons (.rais 5)
.nil)
.nil)
(.cons (.retv 3)
.nil)))))⟩
/-- plus -/
def fd4 : Pz.Fd := ⟨2, 2, [], (.cons (.ret [] (.call 3 (.cons (.bin .add (.bin .mul (.ix (.v 0) (.c (.int (0)))) (.ix (.v 1) (.c (.int (1))))) (.bin .mul (.ix (.v 1) (.c (.int (0)))) (.ix (.v 0) (.c (.int (1)))))) (.cons (.bin .mul (.ix (.v 0) (.c (.int (1)))) (.ix (.v 1) (.c (.int (1))))) .nil))))
.nil)⟩
/-- minus -/
def fd5 : Pz.Fd := ⟨2, 2, [], (.cons (.ret [] (.call 3 (.cons (.bin .sub (.bin .mul (.ix (.v 0) (.c (.int (0)))) (.ix (.v 1) (.c (.int (1))))) (.bin .mul (.ix (.v 1) (.c (.int (0)))) (.ix (.v 0) (.c (.int (1)))))) (.cons (.bin .mul (.ix (.v 0) (.c (.int (1)))) (.ix (.v 1) (.c (.int (1))))) .nil))))
.nil)⟩
/-- times -/
def fd6 : Pz.Fd := ⟨2, 2, [], (.cons (.ret [] (.call 3 (.cons (.bin .mul (.ix (.v 0) (.c (.int (0)))) (.ix (.v 1) (.c (.int (0))))) (.cons (.bin .mul (.ix (.v 0) (.c (.int (1)))) (.ix (.v 1) (.c (.int (1))))) .nil))))
.nil)⟩
/-- over -/
def fd7 : Pz.Fd := ⟨2, 2, [], (.cons (.ret [] (.call 3 (.cons (.bin .mul (.ix (.v 0) (.c (.int (0)))) (.ix (.v 1) (.c (.int (1))))) (.cons (.bin .mul (.ix (.v 0) (.c (.int (1)))) (.ix (.v 1) (.c (.int (0))))) .nil))))
.nil)⟩
/-- is_less -/
def fd8 : Pz.Fd := ⟨2, 2, [], (.cons (.ret [] (.cmp .lt (.bin .mul (.ix (.v 0) (.c (.int (0)))) (.ix (.v 1) (.c (.int (1))))) (.bin .mul (.ix (.v 1) (.c (.int (0)))) (.ix (.v 0) (.c (.int (1)))))))
.nil)⟩
/-- least_of -/
def fd9 : Pz.Fd := ⟨1, 3, [], (.cons (.asg [] 1 (.ix (.v 0) (.c (.int (0)))))
(.cons (.for_ [] (.n 2) (.el (.slL (.v 0) (.c (.int (1)))))
(.cons (.asg [1] 1 (.ie (.call 8 (.cons (.v 2) (.cons (.v 1) .nil))) (.v 2) (.v 1)))
.nil))
(.cons (.retv 1)
.nil)))⟩
/-- most_of -/
def fd10 : Pz.Fd := ⟨1, 3, [], (.cons (.asg [] 1 (.ix (.v 0) (.c (.int (0)))))
(.cons (.for_ [] (.n 2) (.el (.slL (.v 0) (.c (.int (1)))))
(.cons (.asg [1] 1 (.ie (.call 8 (.cons (.v 1) (.cons (.v 2) .nil))) (.v 2) (.v 1)))
.nil))
(.cons (.retv 1)
.nil)))⟩
/-- sum_of -/
def fd11 : Pz.Fd := ⟨1, 3, [], (.cons (.asg [] 1 (.g 2))
(.cons (.for_ [] (.n 2) (.el (.v 0))
(.cons (.asg [1] 1 (.call 4 (.cons (.v 1) (.cons (.v 2) .nil))))
.nil))
(.cons (.retv 1)
.nil)))⟩
/-- weighed -/
def fd12 : Pz.Fd := ⟨2, 4, [], (.cons (.ret [] (.call 11 (.cons (.cmp0 [2, 3] (.t [2, 3]) (.zip (.v 0) (.v 1)) (.call 6 (.cons (.v 2) (.cons (.v 3) .nil)))) .nil)))
.nil)⟩
/-- write -/
def fd13 : Pz.Fd := ⟨1, 1, [], (.cons (.ret [] (.ie (.cmp .eq (.ix (.v 0) (.c (.int (1)))) (.c (.int (1)))) (.fst (.cons (.ix (.v 0) (.c (.int (0)))) .nil)) (.fst (.cons (.ix (.v 0) (.c (.int (0)))) (.cons (.c (.str (Str.ofString "/"))) (.cons (.ix (.v 0) (.c (.int (1)))) .nil))))))
.nil)⟩
/-- read -/
def fd14 : Pz.Fd := ⟨1, 5, [], (.cons (.ifs [] (.nt (.isi (.v 0) .str))
(.cons (.rais 2)
.nil)
.nil)
(.cons (.unp [] [1, 2, 3] (.mt .partition (.v 0) (.cons (.c (.str (Str.ofString "/"))) .nil)))
(.cons (.ifs [] (.or (.nt (.call 15 (.cons (.ie (.cmp .eq (.slH (.v 1) (.c (.int (1)))) (.c (.str (Str.ofString "-")))) (.slL (.v 1) (.c (.int (1)))) (.v 1)) .nil))) (.an (.cmp .eq (.v 2) (.c (.str (Str.ofString "/")))) (.nt (.call 15 (.cons (.v 3) .nil)))))
(.cons (.rais 2)
.nil)
.nil)
(.cons (.asg [] 4 (.tup (.cons (.bi .int (.cons (.v 1) .nil)) (.cons (.ie (.cmp .eq (.v 2) (.c (.str (Str.ofString "/")))) (.bi .int (.cons (.v 3) .nil)) (.c (.int (1)))) .nil))))
(.cons (.ifs [4] (.or (.nt (.call 2 (.cons (.v 4) .nil))) (.cmp .ne (.call 13 (.cons (.v 4) .nil)) (.v 0)))
(.cons (.rais 2)
.nil)
.nil)
(.cons (.retv 4)
.nil))))))⟩
/-- is_figures -/
def fd15 : Pz.Fd := ⟨1, 1, [], (.cons (.ret [] (.an (.cmp2 .le .le (.c (.int (1))) (.bi .len (.cons (.v 0) .nil)) (.c (.int (61)))) (.alls (.v 0) 4)))
.nil)⟩
/-- _law_draws -/
def fd16 : Pz.Fd := ⟨1, 7, [], (.cons (.asg [] 1 (.lst .nil))
(.cons (.for_ [] (.n 2) (.el (.v 0))
(.cons (.asg [] 3 (.bi .abs (.cons (.v 2) .nil)))
(.cons (.ifs [] (.cmp .lt (.v 3) (.bin .pow (.c (.int (10))) (.c (.int (18)))))
(.cons (.asg [] 4 (.bin .mod (.bi .int (.cons (.bin .add (.bin .mul (.v 3) (.c (.int (48271)))) (.c (.int (11)))) .nil)) (.c (.int (2147483647)))))
(.cons (.app [] 1 (.bin .mod (.bi .int (.cons (.bin .add (.bin .mul (.v 4) (.c (.int (69621)))) (.v 3)) .nil)) (.c (.int (2147483629)))))
(.cons (.app [] 1 (.bin .mod (.bi .int (.cons (.bin .add (.v 4) (.bin .fdiv (.v 3) (.c (.int (7))))) .nil)) (.c (.int (1000003)))))
(.cons (.asg [] 3 (.c (.int (0))))
.nil))))
.nil)
(.cons (.for_ [] (.n 5) (.r1 (.c (.int (60))))
(.cons (.ifs [] (.cmp .gt (.v 3) (.c (.int (0))))
(.cons (.app [] 1 (.bin .mod (.bi .int (.cons (.v 3) .nil)) (.c (.int (997)))))
(.cons (.asg [] 3 (.bin .fdiv (.v 3) (.c (.int (997)))))
.nil))
.nil)
.nil))
.nil))))
(.cons (.asg [] 6 (.c (.int (1))))
(.cons (.ifs [] (.cmp .gt (.bi .len (.cons (.v 0) .nil)) (.c (.int (0))))
(.cons (.asg [] 6 (.bin .add (.c (.int (1))) (.bi .abs (.cons (.ix (.v 0) (.c (.int (0)))) .nil))))
.nil)
.nil)
(.cons (.for_ [] (.n 5) (.r1 (.c (.int (900))))
(.cons (.asg [] 6 (.bin .mod (.bi .int (.cons (.bin .add (.bin .mul (.v 6) (.c (.int (48271)))) (.c (.int (69621)))) .nil)) (.c (.int (2147483647)))))
(.cons (.app [] 1 (.bin .fdiv (.v 6) (.c (.int (5)))))
.nil)))
(.cons (.ret [] (.bi .lrev (.cons (.v 1) .nil)))
.nil))))))⟩
/-- _law_take -/
def fd17 : Pz.Fd := ⟨2, 2, [0], (.cons (.ifs [] (.cmp .eq (.bi .len (.cons (.v 0) .nil)) (.c (.int (0))))
(.cons (.ret [] (.c (.int (0))))
.nil)
.nil)
(.cons (.ret [] (.bin .mod (.bi .int (.cons (.pop 0) .nil)) (.v 1)))
.nil))⟩
/-- _law_alike -/
def fd18 : Pz.Fd := ⟨2, 3, [], (.cons (.ifs [] (.or (.isi (.v 1) .list) (.isi (.v 1) .tuple))
(.cons (.ifs [] (.or (.cmp .ne (.isi (.v 0) .list) (.isi (.v 1) .list)) (.cmp .ne (.isi (.v 0) .tuple) (.isi (.v 1) .tuple)))
(.cons (.ret [] (.c (.bool false)))
.nil)
.nil)
(.cons (.ret [] (.an (.cmp .eq (.bi .len (.cons (.v 0) .nil)) (.bi .len (.cons (.v 1) .nil))) (.cmp .eq (.cmp1 [2] (.n 2) (.r1 (.bi .len (.cons (.v 1) .nil))) (.nt (.call 18 (.cons (.ix (.v 0) (.v 2)) (.cons (.ix (.v 1) (.v 2)) .nil)))) (.v 2)) (.lst .nil))))
.nil))
.nil)
(.cons (.ifs [] (.cmp .is_ (.v 1) (.c (.none)))
(.cons (.ret [] (.cmp .is_ (.v 0) (.c (.none))))
.nil)
.nil)
(.cons (.ifs [] (.or (.isi (.v 1) .bool) (.isi (.v 0) .bool))
(.cons (.ret [] (.an (.isi (.v 0) .bool) (.an (.isi (.v 1) .bool) (.cmp .eq (.v 0) (.v 1)))))
.nil)
.nil)
(.cons (.ifs [] (.isi (.v 1) .int)
(.cons (.ret [] (.an (.isi (.v 0) .int) (.cmp .eq (.v 0) (.v 1))))
.nil)
.nil)
(.cons (.ret [] (.an (.isi (.v 0) .str) (.cmp .eq (.v 0) (.v 1))))
.nil)))))⟩
/-- _law_says -/
def fd19 : Pz.Fd := ⟨2, 2, [], (.cons (.ret [] (.an (.isi (.v 0) .bool) (.cmp .eq (.v 0) (.v 1))))
.nil)⟩
/-- _law_part -/
def fd20 : Pz.Fd := ⟨2, 5, [], (.cons (.par2 [] 2 3 (.bi .abs (.cons (.v 0) .nil)) (.bi .abs (.cons (.v 1) .nil)))
(.cons (.whl [] (.cmp .ne (.v 3) (.c (.int (0))))
(.cons (.par2 [] 2 3 (.v 3) (.bin .mod (.v 2) (.v 3)))
.nil))
(.cons (.asg [] 4 (.ie (.cmp .lt (.v 1) (.c (.int (0)))) (.neg (.c (.int (1)))) (.c (.int (1)))))
(.cons (.ret [] (.tup (.cons (.bin .fdiv (.bin .mul (.v 4) (.v 0)) (.v 2)) (.cons (.bin .fdiv (.bin .mul (.v 4) (.v 1)) (.v 2)) .nil))))
.nil))))⟩
/-- _law_plus -/
def fd21 : Pz.Fd := ⟨2, 2, [], (.cons (.ret [] (.call 20 (.cons (.bin .add (.bin .mul (.ix (.v 0) (.c (.int (0)))) (.ix (.v 1) (.c (.int (1))))) (.bin .mul (.ix (.v 1) (.c (.int (0)))) (.ix (.v 0) (.c (.int (1)))))) (.cons (.bin .mul (.ix (.v 0) (.c (.int (1)))) (.ix (.v 1) (.c (.int (1))))) .nil))))
.nil)⟩
/-- _law_minus -/
def fd22 : Pz.Fd := ⟨2, 2, [], (.cons (.ret [] (.call 20 (.cons (.bin .sub (.bin .mul (.ix (.v 0) (.c (.int (0)))) (.ix (.v 1) (.c (.int (1))))) (.bin .mul (.ix (.v 1) (.c (.int (0)))) (.ix (.v 0) (.c (.int (1)))))) (.cons (.bin .mul (.ix (.v 0) (.c (.int (1)))) (.ix (.v 1) (.c (.int (1))))) .nil))))
.nil)⟩
/-- _law_times -/
def fd23 : Pz.Fd := ⟨2, 2, [], (.cons (.ret [] (.call 20 (.cons (.bin .mul (.ix (.v 0) (.c (.int (0)))) (.ix (.v 1) (.c (.int (0))))) (.cons (.bin .mul (.ix (.v 0) (.c (.int (1)))) (.ix (.v 1) (.c (.int (1))))) .nil))))
.nil)⟩
/-- _law_over -/
def fd24 : Pz.Fd := ⟨2, 2, [], (.cons (.ret [] (.call 20 (.cons (.bin .mul (.ix (.v 0) (.c (.int (0)))) (.ix (.v 1) (.c (.int (1))))) (.cons (.bin .mul (.ix (.v 0) (.c (.int (1)))) (.ix (.v 1) (.c (.int (0))))) .nil))))
.nil)⟩
/-- _law_less -/
def fd25 : Pz.Fd := ⟨2, 2, [], (.cons (.ret [] (.cmp .lt (.bin .mul (.ix (.v 0) (.c (.int (0)))) (.ix (.v 1) (.c (.int (1))))) (.bin .mul (.ix (.v 1) (.c (.int (0)))) (.ix (.v 0) (.c (.int (1)))))))
.nil)⟩
/-- _law_weighed -/
def fd26 : Pz.Fd := ⟨2, 4, [], (.cons (.asg [] 2 (.tup (.cons (.c (.int (0))) (.cons (.c (.int (1))) .nil))))
(.cons (.for_ [] (.n 3) (.r1 (.bi .len (.cons (.v 0) .nil)))
(.cons (.asg [2] 2 (.call 21 (.cons (.v 2) (.cons (.call 23 (.cons (.ix (.v 0) (.v 3)) (.cons (.ix (.v 1) (.v 3)) .nil))) .nil))))
.nil))
(.cons (.retv 2)
.nil)))⟩
/-- _law_told -/
def fd27 : Pz.Fd := ⟨3, 4, [], (.cons (.try_ 0 3
(.cons (.ifs [] (.cmp .lt (.v 0) (.c (.int (4))))
(.cons (.ret [] (.ie (.cmp .eq (.v 0) (.c (.int (0)))) (.call 4 (.cons (.v 1) (.cons (.v 2) .nil))) (.ie (.cmp .eq (.v 0) (.c (.int (1)))) (.call 5 (.cons (.v 1) (.cons (.v 2) .nil))) (.ie (.cmp .eq (.v 0) (.c (.int (2)))) (.call 6 (.cons (.v 1) (.cons (.v 2) .nil))) (.call 7 (.cons (.v 1) (.cons (.v 2) .nil)))))))
.nil)
.nil)
(.cons (.ret [] (.ie (.cmp .eq (.v 0) (.c (.int (4)))) (.call 3 (.cons (.v 1) (.cons (.v 2) .nil))) (.call 14 (.cons (.v 1) .nil))))
.nil)))
.nil)⟩
/-- _law_great -/
def fd28 : Pz.Fd := ⟨1, 2, [0], (.cons (.asg [] 1 (.call 17 (.io 0 (.cons (.c (.int (5))) .nil))))
(.cons (.ifs [] (.cmp .eq (.v 1) (.c (.int (0))))
(.cons (.ret [] (.call 20 (.cons (.bin .sub (.bin .pow (.c (.int (10))) (.c (.int (60)))) (.call 17 (.io 0 (.cons (.c (.int (3))) .nil)))) (.cons (.bin .add (.c (.int (1))) (.call 17 (.io 0 (.cons (.c (.int (2))) .nil)))) .nil))))
.nil)
.nil)
(.cons (.ifs [] (.cmp .eq (.v 1) (.c (.int (1))))
(.cons (.ret [] (.call 20 (.cons (.bin .sub (.call 17 (.io 0 (.cons (.c (.int (7))) .nil))) (.c (.int (3)))) (.cons (.bin .add (.bin .pow (.c (.int (10))) (.c (.int (59)))) (.call 17 (.io 0 (.cons (.c (.int (900))) .nil)))) .nil))))
.nil)
.nil)
(.cons (.ret [] (.call 20 (.cons (.bin .sub (.call 17 (.io 0 (.cons (.c (.int (2000))) .nil))) (.c (.int (1000)))) (.cons (.bin .add (.c (.int (1))) (.call 17 (.io 0 (.cons (.c (.int (60))) .nil)))) .nil))))
.nil))))⟩
/-- _law_due -/
def fd29 : Pz.Fd := ⟨3, 4, [], (.cons (.ifs [] (.an (.cmp .eq (.v 0) (.c (.int (3)))) (.cmp .eq (.ix (.v 2) (.c (.int (0)))) (.c (.int (0)))))
(.cons (.ret [] (.c (.str (Str.ofString "none"))))
.nil)
.nil)
(.cons (.ifs [] (.cmp .lt (.v 0) (.c (.int (2))))
(.cons (.asg [] 3 (.ie (.cmp .eq (.v 0) (.c (.int (0)))) (.call 21 (.cons (.v 1) (.cons (.v 2) .nil))) (.call 22 (.cons (.v 1) (.cons (.v 2) .nil)))))
.nil)
(.cons (.asg [] 3 (.ie (.cmp .eq (.v 0) (.c (.int (2)))) (.call 23 (.cons (.v 1) (.cons (.v 2) .nil))) (.call 24 (.cons (.v 1) (.cons (.v 2) .nil)))))
.nil))
(.cons (.ret [3] (.ie (.an (.cmp .le (.bi .abs (.cons (.ix (.v 3) (.c (.int (0)))) .nil)) (.bin .pow (.c (.int (10))) (.c (.int (60))))) (.cmp .le (.ix (.v 3) (.c (.int (1)))) (.bin .pow (.c (.int (10))) (.c (.int (60)))))) (.v 3) (.c (.str (Str.ofString "much")))))
.nil)))⟩
/-- _law_text -/
def fd30 : Pz.Fd := ⟨1, 1, [], (.cons (.ret [] (.bin .add (.bi .str (.cons (.ix (.v 0) (.c (.int (0)))) .nil)) (.ie (.cmp .eq (.ix (.v 0) (.c (.int (1)))) (.c (.int (1)))) (.c (.str (Str.ofString ""))) (.bin .add (.c (.str (Str.ofString "/"))) (.bi .str (.cons (.ix (.v 0) (.c (.int (1)))) .nil))))))
.nil)⟩
/-- law -/
def fd31 : Pz.Fd := ⟨1, 17, [], (.cons (.asg [] 1 (.call 16 (.cons (.v 0) .nil)))
(.cons (.ifs [] (.or (.cmp .ne (.g 2) (.tup (.cons (.c (.int (0))) (.cons (.c (.int (1))) .nil)))) (.cmp .ne (.g 3) (.tup (.cons (.c (.int (1))) (.cons (.c (.int (1))) .nil)))))
(.cons (.ret [] (.c (.bool false)))
.nil)
.nil)
(.cons (.for_ [] (.n 2) (.r1 (.c (.int (12))))
(.cons (.par2 [] 3 4 (.call 28 (.io 1 .nil)) (.call 28 (.io 1 .nil)))
(.cons (.ifs [4] (.or (.nt (.call 19 (.cons (.call 2 (.cons (.v 3) .nil)) (.cons (.c (.bool true)) .nil)))) (.nt (.call 19 (.cons (.call 8 (.cons (.v 3) (.cons (.v 4) .nil))) (.cons (.call 25 (.cons (.v 3) (.cons (.v 4) .nil))) .nil)))))
(.cons (.ret [] (.c (.bool false)))
.nil)
.nil)
(.cons (.for_ [] (.n 5) (.r1 (.c (.int (4))))
(.cons (.ifs [4] (.nt (.call 18 (.cons (.call 27 (.cons (.v 5) (.cons (.v 3) (.cons (.v 4) .nil)))) (.cons (.call 29 (.cons (.v 5) (.cons (.v 3) (.cons (.v 4) .nil)))) .nil))))
(.cons (.ret [] (.c (.bool false)))
.nil)
.nil)
.nil))
(.cons (.ifs [] (.an (.cmp .lt (.bi .abs (.cons (.ix (.v 3) (.c (.int (0)))) .nil)) (.bin .pow (.c (.int (10))) (.c (.int (30))))) (.cmp .lt (.ix (.v 3) (.c (.int (1)))) (.bin .pow (.c (.int (10))) (.c (.int (30))))))
(.cons (.ifs [] (.or (.cmp .ne (.call 13 (.cons (.v 3) .nil)) (.call 30 (.cons (.v 3) .nil))) (.nt (.call 18 (.cons (.call 27 (.cons (.c (.int (5))) (.cons (.call 13 (.cons (.v 3) .nil)) (.cons (.c (.none)) .nil)))) (.cons (.v 3) .nil)))))
(.cons (.ret [] (.c (.bool false)))
.nil)
.nil)
(.cons (.par2 [] 6 7 (.call 17 (.io 1 (.cons (.bin .add (.bi .len (.cons (.call 30 (.cons (.v 3) .nil)) .nil)) (.c (.int (1)))) .nil))) (.ix (.c (.str (Str.ofString "0-/ 7"))) (.call 17 (.io 1 (.cons (.c (.int (5))) .nil)))))
(.cons (.asg [] 8 (.ix (.lst (.cons (.bin .add (.bin .add (.slH (.call 30 (.cons (.v 3) .nil)) (.v 6)) (.v 7)) (.slL (.call 30 (.cons (.v 3) .nil)) (.v 6))) (.cons (.bin .add (.slH (.call 30 (.cons (.v 3) .nil)) (.v 6)) (.slL (.call 30 (.cons (.v 3) .nil)) (.bin .add (.v 6) (.c (.int (1)))))) .nil))) (.call 17 (.io 1 (.cons (.c (.int (2))) .nil)))))
(.cons (.asg [8] 9 (.call 27 (.cons (.c (.int (5))) (.cons (.v 8) (.cons (.c (.none)) .nil)))))
(.cons (.ifs [9] (.an (.cmp .ne (.v 9) (.c (.str (Str.ofString "form")))) (.or (.nt (.call 19 (.cons (.call 2 (.cons (.v 9) .nil)) (.cons (.c (.bool true)) .nil)))) (.cmp .ne (.call 30 (.cons (.v 9) .nil)) (.v 8))))
(.cons (.ret [] (.c (.bool false)))
.nil)
.nil)
.nil)))))
.nil)
.nil)))))
(.cons (.for_ [] (.n 2) (.r1 (.c (.int (6))))
(.cons (.par2 [] 10 11 (.bin .sub (.call 17 (.io 1 (.cons (.c (.int (400))) .nil))) (.c (.int (200)))) (.bin .sub (.call 17 (.io 1 (.cons (.c (.int (60))) .nil))) (.c (.int (30)))))
(.cons (.ifs [] (.nt (.call 18 (.cons (.call 27 (.cons (.c (.int (4))) (.cons (.v 10) (.cons (.v 11) .nil)))) (.cons (.ie (.cmp .ne (.v 11) (.c (.int (0)))) (.call 20 (.cons (.v 10) (.cons (.v 11) .nil))) (.c (.str (Str.ofString "none")))) .nil))))
(.cons (.ret [] (.c (.bool false)))
.nil)
.nil)
(.cons (.asg [] 12 (.cmp0 [6] (.n 6) (.r1 (.bin .add (.c (.int (1))) (.call 17 (.io 1 (.cons (.c (.int (5))) .nil))))) (.call 20 (.cons (.bin .sub (.call 17 (.io 1 (.cons (.c (.int (30))) .nil))) (.c (.int (15)))) (.cons (.bin .add (.c (.int (1))) (.call 17 (.io 1 (.cons (.c (.int (6))) .nil)))) .nil)))))
(.cons (.asg [12] 4 (.cmp0 [3] (.n 3) (.el (.v 12)) (.call 20 (.cons (.bin .sub (.call 17 (.io 1 (.cons (.c (.int (30))) .nil))) (.c (.int (15)))) (.cons (.bin .add (.c (.int (1))) (.call 17 (.io 1 (.cons (.c (.int (6))) .nil)))) .nil)))))
(.cons (.ifs [4, 12] (.or (.nt (.call 18 (.cons (.lst (.cons (.call 11 (.cons (.v 12) .nil)) (.cons (.call 12 (.cons (.v 12) (.cons (.v 4) .nil))) .nil))) (.cons (.lst (.cons (.call 26 (.cons (.v 12) (.cons (.bin .mul (.lst (.cons (.tup (.cons (.c (.int (1))) (.cons (.c (.int (1))) .nil))) .nil)) (.bi .len (.cons (.v 12) .nil))) .nil))) (.cons (.call 26 (.cons (.v 12) (.cons (.v 4) .nil))) .nil))) .nil)))) (.cmp .ne (.call 11 (.cons (.lst .nil) .nil)) (.tup (.cons (.c (.int (0))) (.cons (.c (.int (1))) .nil)))))
(.cons (.ret [] (.c (.bool false)))
.nil)
.nil)
(.cons (.ifs [12] (.or (.cmp .nin (.call 9 (.cons (.v 12) .nil)) (.v 12)) (.or (.cmp .nin (.call 10 (.cons (.v 12) .nil)) (.v 12)) (.cmp .ne (.cmp1 [3] (.n 3) (.el (.v 12)) (.or (.call 25 (.cons (.v 3) (.cons (.call 9 (.cons (.v 12) .nil)) .nil))) (.call 25 (.cons (.call 10 (.cons (.v 12) .nil)) (.cons (.v 3) .nil)))) (.v 3)) (.lst .nil))))
(.cons (.ret [] (.c (.bool false)))
.nil)
.nil)
.nil)))))))
(.cons (.asg [] 13 (.lst (.cons (.c (.none)) (.cons (.c (.int (1))) (.cons (.tup (.cons (.c (.int (1))) .nil)) (.cons (.tup (.cons (.c (.int (1))) (.cons (.c (.int (0))) .nil))) (.cons (.tup (.cons (.c (.int (2))) (.cons (.c (.int (4))) .nil))) (.cons (.tup (.cons (.c (.int (0))) (.cons (.c (.int (2))) .nil))) (.cons (.tup (.cons (.c (.int (1))) (.cons (.neg (.c (.int (1)))) .nil))) (.cons (.lst (.cons (.c (.int (1))) (.cons (.c (.int (2))) .nil))) (.cons (.tup (.cons (.c (.bool true)) (.cons (.c (.int (1))) .nil))) (.cons (.tup (.cons (.c (.int (1))) (.cons (.c (.bool true)) .nil))) (.cons (.tup (.cons (.bin .add (.bin .pow (.c (.int (10))) (.c (.int (60)))) (.c (.int (1)))) (.cons (.c (.int (1))) .nil))) (.cons (.tup (.cons (.c (.str (Str.ofString "1"))) (.cons (.c (.int (1))) .nil))) (.cons (.tup (.cons (.c (.int (1))) (.cons (.c (.int (1))) (.cons (.c (.int (1))) .nil)))) .nil)))))))))))))))
(.cons (.asg [] 14 (.lst (.cons (.c (.none)) (.cons (.c (.int (5))) (.cons (.c (.str (Str.ofString ""))) (.cons (.c (.str (Str.ofString "-"))) (.cons (.c (.str (Str.ofString "/"))) (.cons (.c (.str (Str.ofString "1/"))) (.cons (.c (.str (Str.ofString "/2"))) (.cons (.c (.str (Str.ofString "01"))) (.cons (.c (.str (Str.ofString "+1"))) (.cons (.c (.str (Str.ofString "1/1"))) (.cons (.c (.str (Str.ofString "2/4"))) (.cons (.c (.str (Str.ofString "-0"))) (.cons (.c (.str (Str.ofString "1/-2"))) (.cons (.c (.str (Str.ofString "1.5"))) (.cons (.c (.str (Str.ofString " 1"))) (.cons (.c (.str (Str.ofString "1 "))) (.cons (.c (.str (Str.ofString "--1"))) (.cons (.c (.str (Str.ofString "1/0"))) (.cons (.c (.str (Str.ofString "0/3"))) (.cons (.bin .mul (.c (.str (Str.ofString "9"))) (.c (.int (61)))) .nil))))))))))))))))))))))
(.cons (.ifs [13, 14] (.or (.cmp .ne (.cmp1 [15] (.n 15) (.el (.v 13)) (.nt (.call 19 (.cons (.call 2 (.cons (.v 15) .nil)) (.cons (.c (.bool false)) .nil)))) (.v 15)) (.lst .nil)) (.cmp .ne (.cmp1 [15] (.n 15) (.el (.v 14)) (.cmp .ne (.call 27 (.cons (.c (.int (5))) (.cons (.v 15) (.cons (.c (.none)) .nil)))) (.c (.str (Str.ofString "form")))) (.v 15)) (.lst .nil)))
(.cons (.ret [] (.c (.bool false)))
.nil)
.nil)
(.cons (.asg [] 16 (.lst (.cons (.c (.str (Str.ofString "a"))) (.cons (.c (.str (Str.ofString "abcdef"))) (.cons (.c (.str (Str.ofString ""))) (.cons (.c (.str (Str.ofString "abcdefg"))) (.cons (.c (.str (Str.ofString "A"))) (.cons (.c (.str (Str.ofString "a1"))) (.cons (.c (.none)) (.cons (.c (.int (5))) (.cons (.c (.str (Str.ofString "a b"))) .nil)))))))))))
(.cons (.ifs [] (.cmp .ne (.cmp0 [6] (.n 6) (.r1 (.c (.int (9)))) (.call 19 (.cons (.call 1 (.cons (.ix (.v 16) (.v 6)) .nil)) (.cons (.cmp .lt (.v 6) (.c (.int (2)))) .nil)))) (.bin .mul (.lst (.cons (.c (.bool true)) .nil)) (.c (.int (9)))))
(.cons (.ret [] (.c (.bool false)))
.nil)
.nil)
(.cons (.ret [] (.cmp .eq (.cmp0 [15] (.n 15) (.el (.lst (.cons (.c (.int (0))) (.cons (.c (.int (5))) (.cons (.neg (.c (.int (1)))) (.cons (.c (.int (6))) (.cons (.c (.bool true)) (.cons (.c (.none)) (.cons (.c (.str (Str.ofString "3"))) (.cons (.c (.int (3))) .nil)))))))))) (.call 0 (.cons (.v 15) (.cons (.c (.int (0))) (.cons (.c (.int (5))) .nil))))) (.lst (.cons (.c (.bool true)) (.cons (.c (.bool true)) (.cons (.c (.bool false)) (.cons (.c (.bool false)) (.cons (.c (.bool false)) (.cons (.c (.bool false)) (.cons (.c (.bool false)) (.cons (.c (.bool true)) .nil)))))))))))
.nil))))))))))⟩
def fds : List Pz.Fd := [fd0, fd1, fd2, fd3, fd4, fd5, fd6, fd7, fd8, fd9, fd10, fd11, fd12, fd13, fd14, fd15, fd16, fd17, fd18, fd19, fd20, fd21, fd22, fd23, fd24, fd25, fd26, fd27, fd28, fd29, fd30, fd31]
def E : Pz.ExT := ⟨[(Str.ofString "PaidError"), (Str.ofString "OutOfRange"), (Str.ofString "Malformed"), (Str.ofString "NotThere"), (Str.ofString "Refused"), (Str.ofString "TooMuch")], [[true, false, false, false, false, false], [true, true, false, false, false, false], [true, false, true, false, false, false], [true, false, false, true, false, false], [true, false, false, false, true, false], [true, false, false, false, false, true]], [[false, false, false, false, false], [true, false, false, false, false], [false, true, false, false, false], [false, false, true, false, false], [false, false, false, true, false], [false, false, false, false, true]]⟩
end K04

namespace K04
/-- the greatest common divisor of two ints, as an int -/
def gz (a b : Int) : Int := ((Nat.gcd a.natAbs b.natAbs : Nat) : Int)
def sg (b : Int) : Int := if b < 0 then -1 else 1
theorem gz_pos {a b : Int} (h : b ≠ 0) : 0 < gz a b := by
  unfold gz
  have : 0 < Nat.gcd a.natAbs b.natAbs := Nat.gcd_pos_of_pos_right _ (by omega)
  omega
theorem gz_parts (a b : Int) (h : b ≠ 0) : ∃ k m : Int, a = gz a b * k ∧ b = gz a b * m ∧ m ≠ 0 ∧ Nat.gcd k.natAbs m.natAbs = 1 := by
  have hp : 0 < Nat.gcd a.natAbs b.natAbs := Nat.gcd_pos_of_pos_right _ (by omega)
  obtain ⟨k, hk⟩ : gz a b ∣ a := Int.natAbs_dvd_natAbs.mp (by unfold gz; rw [Int.natAbs_natCast]; exact Nat.gcd_dvd_left _ _)
  obtain ⟨m, hm⟩ : gz a b ∣ b := Int.natAbs_dvd_natAbs.mp (by unfold gz; rw [Int.natAbs_natCast]; exact Nat.gcd_dvd_right _ _)
  refine ⟨k, m, hk, hm, fun z => h (by rw [hm, z, Int.mul_zero]), ?_⟩
  have e1 : a.natAbs = Nat.gcd a.natAbs b.natAbs * k.natAbs := by
    have := congrArg Int.natAbs hk
    rw [Int.natAbs_mul] at this
    exact this
  have e2 : b.natAbs = Nat.gcd a.natAbs b.natAbs * m.natAbs := by
    have := congrArg Int.natAbs hm
    rw [Int.natAbs_mul] at this
    exact this
  have := Nat.gcd_mul_left (Nat.gcd a.natAbs b.natAbs) k.natAbs m.natAbs
  rw [← e1, ← e2] at this
  have h3 : Nat.gcd a.natAbs b.natAbs * 1 = Nat.gcd a.natAbs b.natAbs * Nat.gcd k.natAbs m.natAbs := by omega
  exact (Nat.eq_of_mul_eq_mul_left hp h3).symm
theorem fdiv_cancel {g k : Int} (h : g ≠ 0) : Int.fdiv (g * k) g = k := by
  rw [Int.fdiv_eq_ediv_of_dvd ⟨k, rfl⟩, Int.mul_ediv_cancel_left _ h]
theorem fdiv_cancel_neg {g k : Int} (h : g ≠ 0) : Int.fdiv (g * k) (-g) = -k := by
  have : g * k = (-g) * (-k) := by rw [Int.neg_mul_neg]
  rw [this, fdiv_cancel (by omega)]
/-- the part of two ints -/
def pt (a b : Int) : Int × Int := (Int.fdiv (sg b * a) (gz a b), Int.fdiv (sg b * b) (gz a b))
theorem sg_gz (a b k m : Int) (h : b = gz a b * m) (hb : b ≠ 0) : sg b = sg m := by
  have := gz_pos (a := a) hb
  unfold sg
  by_cases l : m < 0
  · have : b < 0 := by rw [h]; exact Int.mul_neg_of_pos_of_neg this l
    rw [if_pos this, if_pos l]
  · have : ¬ b < 0 := by
      have : 0 ≤ gz a b * m := Int.mul_nonneg (by omega) (by omega)
      omega
    rw [if_neg this, if_neg l]
theorem pt_eq (a b : Int) (h : b ≠ 0) : ∃ k m : Int, a = gz a b * k ∧ b = gz a b * m ∧ m ≠ 0 ∧ Nat.gcd k.natAbs m.natAbs = 1 ∧ sg b = sg m ∧ pt a b = (sg m * k, sg m * m) := by
  obtain ⟨k, m, h1, h2, h3, h4⟩ := gz_parts a b h
  have hs := sg_gz a b k m h2 h
  have hp := gz_pos (a := a) h
  refine ⟨k, m, h1, h2, h3, h4, hs, ?_⟩
  unfold pt
  have e1 : sg b * a = gz a b * (sg m * k) := by
    rw [hs]
    conv => lhs; rw [h1]
    rw [← Int.mul_assoc, ← Int.mul_assoc, Int.mul_comm (sg m)]
  have e2 : sg b * b = gz a b * (sg m * m) := by
    rw [hs]
    conv => lhs; rw [h2]
    rw [← Int.mul_assoc, ← Int.mul_assoc, Int.mul_comm (sg m)]
  rw [e1, e2, fdiv_cancel (by omega), fdiv_cancel (by omega)]
theorem sg_cases (m : Int) : sg m = 1 ∨ sg m = -1 := by
  unfold sg
  split
  · exact .inr rfl
  · exact .inl rfl
theorem sg_mul (m : Int) : sg m * m = m.natAbs := by
  unfold sg
  split <;> omega
theorem sg_abs (m k : Int) : (sg m * k).natAbs = k.natAbs := by
  rcases sg_cases m with h | h <;> rw [h] <;> simp
/-- in lowest terms, over a number above 0 -/
structure Low (p : Int × Int) : Prop where
  pos : 0 < p.2
  low : Nat.gcd p.1.natAbs p.2.natAbs = 1
theorem pt_low {a b : Int} (h : b ≠ 0) : Low (pt a b) := by
  obtain ⟨k, m, h1, h2, h3, h4, h5, h6⟩ := pt_eq a b h
  rw [h6]
  constructor
  · show 0 < sg m * m
    rw [sg_mul]
    omega
  · show Nat.gcd (sg m * k).natAbs (sg m * m).natAbs = 1
    rw [sg_abs, sg_abs]
    exact h4
theorem le_mul_of_pos {g n : Nat} (h : 0 < g) : n ≤ g * n := Nat.le_mul_of_pos_left n h
theorem pt_num {a b : Int} (h : b ≠ 0) : (pt a b).1.natAbs ≤ a.natAbs := by
  obtain ⟨k, m, h1, h2, h3, h4, h5, h6⟩ := pt_eq a b h
  have hp := gz_pos (a := a) h
  rw [h6]
  show (sg m * k).natAbs ≤ _
  rw [sg_abs]
  have := congrArg Int.natAbs h1
  rw [Int.natAbs_mul] at this
  rw [this]
  exact le_mul_of_pos (by omega)
theorem pt_den {a b : Int} (h : b ≠ 0) : (pt a b).2.natAbs ≤ b.natAbs := by
  obtain ⟨k, m, h1, h2, h3, h4, h5, h6⟩ := pt_eq a b h
  have hp := gz_pos (a := a) h
  rw [h6]
  show (sg m * m).natAbs ≤ _
  rw [sg_abs]
  have := congrArg Int.natAbs h2
  rw [Int.natAbs_mul] at this
  rw [this]
  exact le_mul_of_pos (by omega)
theorem pt_id {p : Int × Int} (h : Low p) : pt p.1 p.2 = p := by
  have e : gz p.1 p.2 = 1 := by
    unfold gz
    rw [h.low]
    rfl
  have s : sg p.2 = 1 := if_neg (by have := h.pos; omega)
  unfold pt
  rw [e, s, Int.fdiv_one, Int.fdiv_one, Int.one_mul, Int.one_mul]
/-- the way that part goes -/
theorem pt_part (a b : Int) (h : b ≠ 0) : pt a b = (Int.fdiv a (if 0 < b then gz a b else -gz a b), Int.fdiv b (if 0 < b then gz a b else -gz a b)) := by
  obtain ⟨k, m, h1, h2, h3, h4, h5, h6⟩ := pt_eq a b h
  have hp := gz_pos (a := a) h
  rw [h6, ← h5]
  by_cases l : 0 < b
  · rw [if_pos l]
    have e1 : Int.fdiv a (gz a b) = k := by conv => lhs; rw [h1]; arg 2; rw [← h1]
                                            exact fdiv_cancel (by omega)
    have e2 : Int.fdiv b (gz a b) = m := by conv => lhs; arg 1; rw [h2]
                                            exact fdiv_cancel (by omega)
    rw [e1, e2, show sg b = 1 from if_neg (by omega), Int.one_mul, Int.one_mul]
  · rw [if_neg l]
    have e1 : Int.fdiv a (-gz a b) = -k := by conv => lhs; arg 1; rw [h1]
                                              exact fdiv_cancel_neg (by omega)
    have e2 : Int.fdiv b (-gz a b) = -m := by conv => lhs; arg 1; rw [h2]
                                              exact fdiv_cancel_neg (by omega)
    rw [e1, e2, show sg b = -1 from if_pos (by omega), Int.neg_one_mul, Int.neg_one_mul]
def les (p q : Int × Int) : Prop := p.1 * q.2 < q.1 * p.2
instance (p q : Int × Int) : Decidable (les p q) := inferInstanceAs (Decidable (_ < _))
theorem les_trans {p q r : Int × Int} (hp : 0 < p.2) (hq : 0 < q.2) (hr : 0 < r.2) (h : ¬ les q p) (h2 : ¬ les r q) : ¬ les r p := by
  unfold les at *
  -- p ≤ q ≤ r
  have a1 : p.1 * q.2 ≤ q.1 * p.2 := by omega
  have a2 : q.1 * r.2 ≤ r.1 * q.2 := by omega
  have b1 : p.1 * q.2 * r.2 ≤ q.1 * p.2 * r.2 := Int.mul_le_mul_of_nonneg_right a1 (by omega)
  have b2 : q.1 * r.2 * p.2 ≤ r.1 * q.2 * p.2 := Int.mul_le_mul_of_nonneg_right a2 (by omega)
  have c1 : q.1 * p.2 * r.2 = q.1 * r.2 * p.2 := by rw [Int.mul_assoc, Int.mul_comm p.2, ← Int.mul_assoc]
  have c2 : p.1 * q.2 * r.2 = (p.1 * r.2) * q.2 := by rw [Int.mul_assoc, Int.mul_comm q.2, ← Int.mul_assoc]
  have c3 : r.1 * q.2 * p.2 = (r.1 * p.2) * q.2 := by rw [Int.mul_assoc, Int.mul_comm q.2, ← Int.mul_assoc]
  have : (p.1 * r.2) * q.2 ≤ (r.1 * p.2) * q.2 := by rw [← c2, ← c3]; omega
  have := Int.le_of_mul_le_mul_right this hq
  omega
theorem les_irrefl (p : Int × Int) : ¬ les p p := by unfold les; omega
theorem les_asymm {p q : Int × Int} (h : les p q) : ¬ les q p := by unfold les at *; omega
def euc : Nat → Int → Int → Int
  | 0, a, _ => a
  | n + 1, a, b => if b ≠ 0 then euc n b (Int.fmod a b) else a
end K04

namespace K04
open Pz Pz.R
open PySem hiding execs exec
def C (n : Nat) : Call := callN fds con E.sub E.word 2000 n
abbrev G (n : Nat) : G0 := ⟨C n, con, E.sub, E.word, 2000⟩
theorem C_succ {n f : Nat} {ss : List Slot} {fd : Fd} (h : fds[f]? = some fd) (ok : ss.length = fd.np ∧ ioPos 0 ss = fd.io ∧ ss.all okArg = true) :
    C (n + 1) f ss = endOf fd.io (execs (G n) fd.body (ss ++ List.replicate (fd.ns - fd.np) Slot.un)) := by
  show (match fds[f]? with
    | some fd => if ss.length = fd.np ∧ ioPos 0 ss = fd.io ∧ ss.all okArg = true then endOf fd.io (execs (G n) fd.body (ss ++ List.replicate (fd.ns - fd.np) Slot.un)) else .st
    | none => .st) = _
  rw [h]
  exact if_pos ok
/-- is_number -/
def numB (d : D) (a b : Int) : Bool := match d with
  | .int i => decide (a ≤ i) && decide (i ≤ b)
  | _ => false
theorem is_number_ok (n : Nat) (d : D) (a b : Int) : C (n + 1) 0 [.fz d, .fz (.int a), .fz (.int b)] = .ok (.fz (.bool (numB d a b))) [] := by
  rw [C_succ (fd := fd0) rfl ⟨rfl, rfl, rfl⟩]
  cases d with
  | int i =>
    by_cases h : a ≤ i
    · by_cases h2 : i ≤ b
      · simp only [fd0, numB, h, h2, Pz.execs, Pz.exec, Pz.ev, Pz.evT, Pz.ev2, Pz.evs, Pz.evl, Pz.evg, Pz.evi, Pz.evf, R.both_1, R.both_2, R.bind_ap, R.pure_ap, R.ofO_some, R.ofO_none, R.look_fz, R.look_bx, R.keep_fz, R.keep_bx, R.slot_fz, R.slot_bx, R.putV_fz, R.putV_bx, getV, setS, looks, tyD, asBool, asInt, asVw, asIntV, R.eqI, R.neI, R.ltI, R.leI, R.gtI, R.geI, R.eqB, R.neB, R.eqS, R.neS, R.isN, R.nisN, isNone, R.truthB, R.truthI, R.look_vw', R.callI1', R.callI2', frz, biV, mtKind, lenV, absV, R.intV_int, strV, tupleV, listV, strOf, Pz.ixD, R.at_0, R.at_1, R.opII, R.addI, R.subI, R.call1, R.call2, R.call3, R.call4, R.ret0_ok, R.ret0_ex, R.ret1_ok, Option.map_some, Option.map_none, Option.some_or, Option.none_or, List.getElem?_cons_zero, List.getElem?_cons_succ, List.getElem?_nil, List.set_cons_zero, List.set_cons_succ, List.length_cons, List.length_nil, List.length_append, List.length_set, List.map_cons, List.map_nil, List.cons_append, List.nil_append, ite_true, ite_false, if_true, if_false, Bool.not_true, Bool.not_false, endOf, outsOf, Nat.reduceAdd, Nat.reduceLT, Nat.reduceLeDiff, Nat.lt_add_left_iff_pos, Nat.zero_lt_succ, List.replicate, Nat.reduceSub, Nat.sub_self, reduceIte, reduceCtorEq, Bool.false_eq_true, decide_true, decide_false, decide_true, Bool.and_true]
      · simp only [fd0, numB, h, h2, Pz.execs, Pz.exec, Pz.ev, Pz.evT, Pz.ev2, Pz.evs, Pz.evl, Pz.evg, Pz.evi, Pz.evf, R.both_1, R.both_2, R.bind_ap, R.pure_ap, R.ofO_some, R.ofO_none, R.look_fz, R.look_bx, R.keep_fz, R.keep_bx, R.slot_fz, R.slot_bx, R.putV_fz, R.putV_bx, getV, setS, looks, tyD, asBool, asInt, asVw, asIntV, R.eqI, R.neI, R.ltI, R.leI, R.gtI, R.geI, R.eqB, R.neB, R.eqS, R.neS, R.isN, R.nisN, isNone, R.truthB, R.truthI, R.look_vw', R.callI1', R.callI2', frz, biV, mtKind, lenV, absV, R.intV_int, strV, tupleV, listV, strOf, Pz.ixD, R.at_0, R.at_1, R.opII, R.addI, R.subI, R.call1, R.call2, R.call3, R.call4, R.ret0_ok, R.ret0_ex, R.ret1_ok, Option.map_some, Option.map_none, Option.some_or, Option.none_or, List.getElem?_cons_zero, List.getElem?_cons_succ, List.getElem?_nil, List.set_cons_zero, List.set_cons_succ, List.length_cons, List.length_nil, List.length_append, List.length_set, List.map_cons, List.map_nil, List.cons_append, List.nil_append, ite_true, ite_false, if_true, if_false, Bool.not_true, Bool.not_false, endOf, outsOf, Nat.reduceAdd, Nat.reduceLT, Nat.reduceLeDiff, Nat.lt_add_left_iff_pos, Nat.zero_lt_succ, List.replicate, Nat.reduceSub, Nat.sub_self, reduceIte, reduceCtorEq, Bool.false_eq_true, decide_true, decide_false, decide_true, decide_false, Bool.and_false]
    · simp only [fd0, numB, h, Pz.execs, Pz.exec, Pz.ev, Pz.evT, Pz.ev2, Pz.evs, Pz.evl, Pz.evg, Pz.evi, Pz.evf, R.both_1, R.both_2, R.bind_ap, R.pure_ap, R.ofO_some, R.ofO_none, R.look_fz, R.look_bx, R.keep_fz, R.keep_bx, R.slot_fz, R.slot_bx, R.putV_fz, R.putV_bx, getV, setS, looks, tyD, asBool, asInt, asVw, asIntV, R.eqI, R.neI, R.ltI, R.leI, R.gtI, R.geI, R.eqB, R.neB, R.eqS, R.neS, R.isN, R.nisN, isNone, R.truthB, R.truthI, R.look_vw', R.callI1', R.callI2', frz, biV, mtKind, lenV, absV, R.intV_int, strV, tupleV, listV, strOf, Pz.ixD, R.at_0, R.at_1, R.opII, R.addI, R.subI, R.call1, R.call2, R.call3, R.call4, R.ret0_ok, R.ret0_ex, R.ret1_ok, Option.map_some, Option.map_none, Option.some_or, Option.none_or, List.getElem?_cons_zero, List.getElem?_cons_succ, List.getElem?_nil, List.set_cons_zero, List.set_cons_succ, List.length_cons, List.length_nil, List.length_append, List.length_set, List.map_cons, List.map_nil, List.cons_append, List.nil_append, ite_true, ite_false, if_true, if_false, Bool.not_true, Bool.not_false, endOf, outsOf, Nat.reduceAdd, Nat.reduceLT, Nat.reduceLeDiff, Nat.lt_add_left_iff_pos, Nat.zero_lt_succ, List.replicate, Nat.reduceSub, Nat.sub_self, reduceIte, reduceCtorEq, Bool.false_eq_true, decide_true, decide_false, decide_false, Bool.false_and]
  | _ => rfl
end K04
namespace K04
open Pz Pz.R
open PySem hiding execs exec
def pr (p : Int × Int) : D := .tuple [.int p.1, .int p.2]
theorem con1 : con[1]? = some (.int (10 ^ 60)) := by rfl
theorem con2 : con[2]? = some (pr (0, 1)) := by rfl
theorem con3 : con[3]? = some (pr (1, 1)) := by rfl
/-- not too great for a product -/
def Sm (x : Int) : Prop := x.natAbs < 10 ^ 200
theorem sm_wide {a b : Int} (ha : Sm a) (hb : Sm b) : wideOk a b = true := by
  have h : ∀ x : Int, Sm x → Builtin.Int.intBits x ≤ 700 := fun x hx => PySem.intBits_le_iff.mpr (Nat.lt_trans hx (by decide))
  exact decide_eq_true (by have := h a ha; have := h b hb; omega)
theorem sm_log {b : Int} (hb : Sm b) : b.natAbs.log2 < 9000 := by
  by_cases z : b.natAbs = 0
  · rw [z]; decide
  · exact (Nat.log2_lt z).mpr (Nat.lt_trans hb (by decide))
theorem gz_sm {a b : Int} (h : b ≠ 0) (hb : Sm b) : Sm (gz a b) := by
  unfold Sm gz
  rw [Int.natAbs_natCast]
  exact Nat.lt_of_le_of_lt (Nat.le_of_dvd (by omega) (Nat.gcd_dvd_right _ _)) hb
theorem sm_neg {a : Int} (h : Sm a) : Sm (-a) := by unfold Sm at *; rwa [Int.natAbs_neg]
/-- within the bounds -/
def Bd (p : Int × Int) : Prop := p.1.natAbs ≤ 10 ^ 60 ∧ p.2.natAbs ≤ 10 ^ 60
instance (p : Int × Int) : Decidable (Bd p) := inferInstanceAs (Decidable (_ ∧ _))
theorem abs_ite (i : Int) : (if i < 0 then -i else i) = (i.natAbs : Int) := by split <;> omega
theorem mulI {i j : Int} (h : Sm i) (h2 : Sm j) : opI .mul i j = some (i * j) := if_pos (sm_wide h h2)
theorem part_ok (n : Nat) (a b : Int) (ha : Sm a) (hb : Sm b) : C (n + 1) 3 [.fz (.int a), .fz (.int b)] = if b = 0 then .ex 3 [] else if Bd (pt a b) then .ok (.fz (pr (pt a b))) [] else .ex 5 [] := by
  rw [C_succ (fd := fd3) rfl ⟨rfl, rfl, rfl⟩]
  by_cases h0 : b = 0
  · subst h0
    rfl
  · have hp := gz_pos (a := a) h0
    have hl := sm_log (gz_sm (a := a) h0 hb)
    have hl2 : (-gz a b).natAbs.log2 < 9000 := by rw [Int.natAbs_neg]; exact hl
    have hP := pt_part a b h0
    have hpos := (pt_low (a := a) h0).pos
    have gcd : gcdV [.int a, .int b] = some (.fz (.int (gz a b))) := rfl
    have ne : gz a b ≠ 0 := by omega
    have ne2 : -gz a b ≠ 0 := by omega
    have b0 : (b == 0) = false := beq_eq_false_iff_ne.mpr h0
    have i0 : ((10 : Int) ^ 60) = (((10 ^ 60 : Nat)) : Int) := by decide +kernel
    have c1 : decide (((10 : Int) ^ 60) < (((pt a b).1.natAbs : Nat) : Int)) = !decide ((pt a b).1.natAbs ≤ 10 ^ 60) := by
      rw [i0, ← decide_not]
      exact decide_eq_decide.mpr (by omega)
    have c2 : decide (((10 : Int) ^ 60) < (pt a b).2) = !decide ((pt a b).2.natAbs ≤ 10 ^ 60) := by
      rw [i0, ← decide_not]
      exact decide_eq_decide.mpr (by omega)
    rw [if_neg h0]
    by_cases h1 : 0 < b
    · rw [if_pos h1] at hP
      have z1 : Int.fdiv a (gz a b) = (pt a b).1 := by rw [hP]
      have z2 : Int.fdiv b (gz a b) = (pt a b).2 := by rw [hP]
      by_cases B1 : (pt a b).1.natAbs ≤ 10 ^ 60
      · by_cases B2 : (pt a b).2.natAbs ≤ 10 ^ 60
        · rw [if_pos ⟨B1, B2⟩]
          simp only [fd3, Pz.execs, Pz.exec, Pz.ev, Pz.evT, Pz.ev2, Pz.evs, Pz.evl, Pz.evg, Pz.evi, Pz.evf, R.both_1, R.both_2, R.bind_ap, R.pure_ap, R.ofO_some, R.ofO_none, R.look_fz, R.look_bx, R.keep_fz, R.keep_bx, R.slot_fz, R.slot_bx, R.putV_fz, R.putV_bx, getV, setS, looks, tyD, asBool, asInt, asVw, asIntV, R.eqI, R.neI, R.ltI, R.leI, R.gtI, R.geI, R.eqB, R.neB, R.eqS, R.neS, R.isN, R.nisN, isNone, R.truthB, R.truthI, R.look_vw', R.callI1', R.callI2', frz, biV, mtKind, lenV, absV, R.intV_int, strV, tupleV, listV, strOf, Pz.ixD, R.at_0, R.at_1, R.opII, R.addI, R.subI, R.call1, R.call2, R.call3, R.call4, R.ret0_ok, R.ret0_ex, R.ret1_ok, Option.map_some, Option.map_none, Option.some_or, Option.none_or, List.getElem?_cons_zero, List.getElem?_cons_succ, List.getElem?_nil, List.set_cons_zero, List.set_cons_succ, List.length_cons, List.length_nil, List.length_append, List.length_set, List.map_cons, List.map_nil, List.cons_append, List.nil_append, ite_true, ite_false, if_true, if_false, Bool.not_true, Bool.not_false, endOf, outsOf, Nat.reduceAdd, Nat.reduceLT, Nat.reduceLeDiff, Nat.lt_add_left_iff_pos, Nat.zero_lt_succ, List.replicate, Nat.reduceSub, Nat.sub_self, reduceIte, reduceCtorEq, Bool.false_eq_true, decide_true, decide_false, b0, h1, gcd, fdI ne hl, con1, abs_ite, z1, z2, c1, c2, B1, B2]
          rfl
        · rw [if_neg fun z => B2 z.2]
          simp only [fd3, Pz.execs, Pz.exec, Pz.ev, Pz.evT, Pz.ev2, Pz.evs, Pz.evl, Pz.evg, Pz.evi, Pz.evf, R.both_1, R.both_2, R.bind_ap, R.pure_ap, R.ofO_some, R.ofO_none, R.look_fz, R.look_bx, R.keep_fz, R.keep_bx, R.slot_fz, R.slot_bx, R.putV_fz, R.putV_bx, getV, setS, looks, tyD, asBool, asInt, asVw, asIntV, R.eqI, R.neI, R.ltI, R.leI, R.gtI, R.geI, R.eqB, R.neB, R.eqS, R.neS, R.isN, R.nisN, isNone, R.truthB, R.truthI, R.look_vw', R.callI1', R.callI2', frz, biV, mtKind, lenV, absV, R.intV_int, strV, tupleV, listV, strOf, Pz.ixD, R.at_0, R.at_1, R.opII, R.addI, R.subI, R.call1, R.call2, R.call3, R.call4, R.ret0_ok, R.ret0_ex, R.ret1_ok, Option.map_some, Option.map_none, Option.some_or, Option.none_or, List.getElem?_cons_zero, List.getElem?_cons_succ, List.getElem?_nil, List.set_cons_zero, List.set_cons_succ, List.length_cons, List.length_nil, List.length_append, List.length_set, List.map_cons, List.map_nil, List.cons_append, List.nil_append, ite_true, ite_false, if_true, if_false, Bool.not_true, Bool.not_false, endOf, outsOf, Nat.reduceAdd, Nat.reduceLT, Nat.reduceLeDiff, Nat.lt_add_left_iff_pos, Nat.zero_lt_succ, List.replicate, Nat.reduceSub, Nat.sub_self, reduceIte, reduceCtorEq, Bool.false_eq_true, decide_true, decide_false, b0, h1, gcd, fdI ne hl, con1, abs_ite, z1, z2, c1, c2, B1, B2]
      · rw [if_neg fun z => B1 z.1]
        simp only [fd3, Pz.execs, Pz.exec, Pz.ev, Pz.evT, Pz.ev2, Pz.evs, Pz.evl, Pz.evg, Pz.evi, Pz.evf, R.both_1, R.both_2, R.bind_ap, R.pure_ap, R.ofO_some, R.ofO_none, R.look_fz, R.look_bx, R.keep_fz, R.keep_bx, R.slot_fz, R.slot_bx, R.putV_fz, R.putV_bx, getV, setS, looks, tyD, asBool, asInt, asVw, asIntV, R.eqI, R.neI, R.ltI, R.leI, R.gtI, R.geI, R.eqB, R.neB, R.eqS, R.neS, R.isN, R.nisN, isNone, R.truthB, R.truthI, R.look_vw', R.callI1', R.callI2', frz, biV, mtKind, lenV, absV, R.intV_int, strV, tupleV, listV, strOf, Pz.ixD, R.at_0, R.at_1, R.opII, R.addI, R.subI, R.call1, R.call2, R.call3, R.call4, R.ret0_ok, R.ret0_ex, R.ret1_ok, Option.map_some, Option.map_none, Option.some_or, Option.none_or, List.getElem?_cons_zero, List.getElem?_cons_succ, List.getElem?_nil, List.set_cons_zero, List.set_cons_succ, List.length_cons, List.length_nil, List.length_append, List.length_set, List.map_cons, List.map_nil, List.cons_append, List.nil_append, ite_true, ite_false, if_true, if_false, Bool.not_true, Bool.not_false, endOf, outsOf, Nat.reduceAdd, Nat.reduceLT, Nat.reduceLeDiff, Nat.lt_add_left_iff_pos, Nat.zero_lt_succ, List.replicate, Nat.reduceSub, Nat.sub_self, reduceIte, reduceCtorEq, Bool.false_eq_true, decide_true, decide_false, b0, h1, gcd, fdI ne hl, con1, abs_ite, z1, z2, c1, B1]
    · rw [if_neg h1] at hP
      have z1 : Int.fdiv a (-gz a b) = (pt a b).1 := by rw [hP]
      have z2 : Int.fdiv b (-gz a b) = (pt a b).2 := by rw [hP]
      by_cases B1 : (pt a b).1.natAbs ≤ 10 ^ 60
      · by_cases B2 : (pt a b).2.natAbs ≤ 10 ^ 60
        · rw [if_pos ⟨B1, B2⟩]
          simp only [fd3, Pz.execs, Pz.exec, Pz.ev, Pz.evT, Pz.ev2, Pz.evs, Pz.evl, Pz.evg, Pz.evi, Pz.evf, R.both_1, R.both_2, R.bind_ap, R.pure_ap, R.ofO_some, R.ofO_none, R.look_fz, R.look_bx, R.keep_fz, R.keep_bx, R.slot_fz, R.slot_bx, R.putV_fz, R.putV_bx, getV, setS, looks, tyD, asBool, asInt, asVw, asIntV, R.eqI, R.neI, R.ltI, R.leI, R.gtI, R.geI, R.eqB, R.neB, R.eqS, R.neS, R.isN, R.nisN, isNone, R.truthB, R.truthI, R.look_vw', R.callI1', R.callI2', frz, biV, mtKind, lenV, absV, R.intV_int, strV, tupleV, listV, strOf, Pz.ixD, R.at_0, R.at_1, R.opII, R.addI, R.subI, R.call1, R.call2, R.call3, R.call4, R.ret0_ok, R.ret0_ex, R.ret1_ok, Option.map_some, Option.map_none, Option.some_or, Option.none_or, List.getElem?_cons_zero, List.getElem?_cons_succ, List.getElem?_nil, List.set_cons_zero, List.set_cons_succ, List.length_cons, List.length_nil, List.length_append, List.length_set, List.map_cons, List.map_nil, List.cons_append, List.nil_append, ite_true, ite_false, if_true, if_false, Bool.not_true, Bool.not_false, endOf, outsOf, Nat.reduceAdd, Nat.reduceLT, Nat.reduceLeDiff, Nat.lt_add_left_iff_pos, Nat.zero_lt_succ, List.replicate, Nat.reduceSub, Nat.sub_self, reduceIte, reduceCtorEq, Bool.false_eq_true, decide_true, decide_false, b0, h1, gcd, fdI ne2 hl2, con1, abs_ite, z1, z2, c1, c2, B1, B2]
          rfl
        · rw [if_neg fun z => B2 z.2]
          simp only [fd3, Pz.execs, Pz.exec, Pz.ev, Pz.evT, Pz.ev2, Pz.evs, Pz.evl, Pz.evg, Pz.evi, Pz.evf, R.both_1, R.both_2, R.bind_ap, R.pure_ap, R.ofO_some, R.ofO_none, R.look_fz, R.look_bx, R.keep_fz, R.keep_bx, R.slot_fz, R.slot_bx, R.putV_fz, R.putV_bx, getV, setS, looks, tyD, asBool, asInt, asVw, asIntV, R.eqI, R.neI, R.ltI, R.leI, R.gtI, R.geI, R.eqB, R.neB, R.eqS, R.neS, R.isN, R.nisN, isNone, R.truthB, R.truthI, R.look_vw', R.callI1', R.callI2', frz, biV, mtKind, lenV, absV, R.intV_int, strV, tupleV, listV, strOf, Pz.ixD, R.at_0, R.at_1, R.opII, R.addI, R.subI, R.call1, R.call2, R.call3, R.call4, R.ret0_ok, R.ret0_ex, R.ret1_ok, Option.map_some, Option.map_none, Option.some_or, Option.none_or, List.getElem?_cons_zero, List.getElem?_cons_succ, List.getElem?_nil, List.set_cons_zero, List.set_cons_succ, List.length_cons, List.length_nil, List.length_append, List.length_set, List.map_cons, List.map_nil, List.cons_append, List.nil_append, ite_true, ite_false, if_true, if_false, Bool.not_true, Bool.not_false, endOf, outsOf, Nat.reduceAdd, Nat.reduceLT, Nat.reduceLeDiff, Nat.lt_add_left_iff_pos, Nat.zero_lt_succ, List.replicate, Nat.reduceSub, Nat.sub_self, reduceIte, reduceCtorEq, Bool.false_eq_true, decide_true, decide_false, b0, h1, gcd, fdI ne2 hl2, con1, abs_ite, z1, z2, c1, c2, B1, B2]
      · rw [if_neg fun z => B1 z.1]
        simp only [fd3, Pz.execs, Pz.exec, Pz.ev, Pz.evT, Pz.ev2, Pz.evs, Pz.evl, Pz.evg, Pz.evi, Pz.evf, R.both_1, R.both_2, R.bind_ap, R.pure_ap, R.ofO_some, R.ofO_none, R.look_fz, R.look_bx, R.keep_fz, R.keep_bx, R.slot_fz, R.slot_bx, R.putV_fz, R.putV_bx, getV, setS, looks, tyD, asBool, asInt, asVw, asIntV, R.eqI, R.neI, R.ltI, R.leI, R.gtI, R.geI, R.eqB, R.neB, R.eqS, R.neS, R.isN, R.nisN, isNone, R.truthB, R.truthI, R.look_vw', R.callI1', R.callI2', frz, biV, mtKind, lenV, absV, R.intV_int, strV, tupleV, listV, strOf, Pz.ixD, R.at_0, R.at_1, R.opII, R.addI, R.subI, R.call1, R.call2, R.call3, R.call4, R.ret0_ok, R.ret0_ex, R.ret1_ok, Option.map_some, Option.map_none, Option.some_or, Option.none_or, List.getElem?_cons_zero, List.getElem?_cons_succ, List.getElem?_nil, List.set_cons_zero, List.set_cons_succ, List.length_cons, List.length_nil, List.length_append, List.length_set, List.map_cons, List.map_nil, List.cons_append, List.nil_append, ite_true, ite_false, if_true, if_false, Bool.not_true, Bool.not_false, endOf, outsOf, Nat.reduceAdd, Nat.reduceLT, Nat.reduceLeDiff, Nat.lt_add_left_iff_pos, Nat.zero_lt_succ, List.replicate, Nat.reduceSub, Nat.sub_self, reduceIte, reduceCtorEq, Bool.false_eq_true, decide_true, decide_false, b0, h1, gcd, fdI ne2 hl2, con1, abs_ite, z1, z2, c1, B1]
end K04

namespace K04
open Pz Pz.R
open PySem hiding execs exec
/-- what part gives -/
def rp (n : Nat) (a b : Int) : FR := if b = 0 then .ex 3 [] else if Bd (pt a b) then .ok (.fz (pr (pt a b))) [] else .ex 5 []
theorem part_rp (n : Nat) (a b : Int) (ha : Sm a) (hb : Sm b) : C (n + 1) 3 [.fz (.int a), .fz (.int b)] = rp n a b := part_ok n a b ha hb
theorem bd_mul {p q : Int} (hp : p.natAbs ≤ 10 ^ 60) (hq : q.natAbs ≤ 10 ^ 60) : (p * q).natAbs ≤ 10 ^ 120 := by
  rw [Int.natAbs_mul]
  exact Nat.le_trans (Nat.mul_le_mul hp hq) (by decide)
theorem sm_bd {p : Int} (h : p.natAbs ≤ 10 ^ 60) : Sm p := Nat.lt_of_le_of_lt h (by decide)
theorem sm_mul {p q : Int} (hp : p.natAbs ≤ 10 ^ 60) (hq : q.natAbs ≤ 10 ^ 60) : Sm (p * q) := Nat.lt_of_le_of_lt (bd_mul hp hq) (by decide)
theorem sm_add {p q r s : Int} (hp : p.natAbs ≤ 10 ^ 60) (hq : q.natAbs ≤ 10 ^ 60) (hr : r.natAbs ≤ 10 ^ 60) (hs : s.natAbs ≤ 10 ^ 60) : Sm (p * q + r * s) := by
  have h1 := bd_mul hp hq
  have h2 := bd_mul hr hs
  have h3 : (p * q + r * s).natAbs ≤ (p * q).natAbs + (r * s).natAbs := Int.natAbs_add_le _ _
  unfold Sm
  exact Nat.lt_of_le_of_lt (Nat.le_trans h3 (Nat.add_le_add h1 h2)) (by decide)
theorem sm_sub {p q r s : Int} (hp : p.natAbs ≤ 10 ^ 60) (hq : q.natAbs ≤ 10 ^ 60) (hr : r.natAbs ≤ 10 ^ 60) (hs : s.natAbs ≤ 10 ^ 60) : Sm (p * q - r * s) := by
  have h1 := bd_mul hp hq
  have h2 := bd_mul hr hs
  have h3 : (p * q - r * s).natAbs ≤ (p * q).natAbs + (r * s).natAbs := by rw [Int.sub_eq_add_neg]; exact Nat.le_trans (Int.natAbs_add_le _ _) (by rw [Int.natAbs_neg]; exact Nat.le_refl _)
  unfold Sm
  exact Nat.lt_of_le_of_lt (Nat.le_trans h3 (Nat.add_le_add h1 h2)) (by decide)
/-- a def that but returns what a call gives -/
def retC : FR → FR
  | .ok (.vw _) _ => .st
  | .ok v [] => .ok v []
  | .ex c [] => .ex c []
  | _ => .st
theorem rp_is (n : Nat) (a b : Int) : rp n a b = .ex 3 [] ∨ rp n a b = .ok (.fz (pr (pt a b))) [] ∨ rp n a b = .ex 5 [] := by
  unfold rp
  split
  · exact .inl rfl
  · split
    · exact .inr (.inl rfl)
    · exact .inr (.inr rfl)
section
variable (n : Nat) (p q : Int × Int) (hp : Bd p) (hq : Bd q)
include hp hq
theorem plus_ok : C (n + 2) 4 [.fz (pr p), .fz (pr q)] = rp n (p.1 * q.2 + q.1 * p.2) (p.2 * q.2) := by
  rw [C_succ (fd := fd4) rfl ⟨rfl, rfl, rfl⟩]
  have s1 := sm_bd hp.1
  have s2 := sm_bd hp.2
  have s3 := sm_bd hq.1
  have s4 := sm_bd hq.2
  simp only [fd4, pr, Pz.execs, Pz.exec, Pz.ev, Pz.evT, Pz.ev2, Pz.evs, Pz.evl, Pz.evg, Pz.evi, Pz.evf, R.both_1, R.both_2, R.bind_ap, R.pure_ap, R.ofO_some, R.ofO_none, R.look_fz, R.look_bx, R.keep_fz, R.keep_bx, R.slot_fz, R.slot_bx, R.putV_fz, R.putV_bx, getV, setS, looks, tyD, asBool, asInt, asVw, asIntV, R.eqI, R.neI, R.ltI, R.leI, R.gtI, R.geI, R.eqB, R.neB, R.eqS, R.neS, R.isN, R.nisN, isNone, R.truthB, R.truthI, R.look_vw', R.callI1', R.callI2', frz, biV, mtKind, lenV, absV, R.intV_int, strV, tupleV, listV, strOf, Pz.ixD, R.at_0, R.at_1, R.opII, R.addI, R.subI, R.call1, R.call2, R.call3, R.call4, R.ret0_ok, R.ret0_ex, R.ret1_ok, Option.map_some, Option.map_none, Option.some_or, Option.none_or, List.getElem?_cons_zero, List.getElem?_cons_succ, List.getElem?_nil, List.set_cons_zero, List.set_cons_succ, List.length_cons, List.length_nil, List.length_append, List.length_set, List.map_cons, List.map_nil, List.cons_append, List.nil_append, ite_true, ite_false, if_true, if_false, Bool.not_true, Bool.not_false, endOf, outsOf, Nat.reduceAdd, Nat.reduceLT, Nat.reduceLeDiff, Nat.lt_add_left_iff_pos, Nat.zero_lt_succ, List.replicate, Nat.reduceSub, Nat.sub_self, reduceIte, reduceCtorEq, Bool.false_eq_true, decide_true, decide_false, mulI s1 s4, mulI s3 s2, mulI s2 s4, part_rp n _ _ (sm_add hp.1 hq.2 hq.1 hp.2) (sm_mul hp.2 hq.2)]
  rcases rp_is n _ _ with z | z | z <;> rw [z] <;> rfl
theorem minus_ok : C (n + 2) 5 [.fz (pr p), .fz (pr q)] = rp n (p.1 * q.2 - q.1 * p.2) (p.2 * q.2) := by
  rw [C_succ (fd := fd5) rfl ⟨rfl, rfl, rfl⟩]
  have s1 := sm_bd hp.1
  have s2 := sm_bd hp.2
  have s3 := sm_bd hq.1
  have s4 := sm_bd hq.2
  simp only [fd5, pr, Pz.execs, Pz.exec, Pz.ev, Pz.evT, Pz.ev2, Pz.evs, Pz.evl, Pz.evg, Pz.evi, Pz.evf, R.both_1, R.both_2, R.bind_ap, R.pure_ap, R.ofO_some, R.ofO_none, R.look_fz, R.look_bx, R.keep_fz, R.keep_bx, R.slot_fz, R.slot_bx, R.putV_fz, R.putV_bx, getV, setS, looks, tyD, asBool, asInt, asVw, asIntV, R.eqI, R.neI, R.ltI, R.leI, R.gtI, R.geI, R.eqB, R.neB, R.eqS, R.neS, R.isN, R.nisN, isNone, R.truthB, R.truthI, R.look_vw', R.callI1', R.callI2', frz, biV, mtKind, lenV, absV, R.intV_int, strV, tupleV, listV, strOf, Pz.ixD, R.at_0, R.at_1, R.opII, R.addI, R.subI, R.call1, R.call2, R.call3, R.call4, R.ret0_ok, R.ret0_ex, R.ret1_ok, Option.map_some, Option.map_none, Option.some_or, Option.none_or, List.getElem?_cons_zero, List.getElem?_cons_succ, List.getElem?_nil, List.set_cons_zero, List.set_cons_succ, List.length_cons, List.length_nil, List.length_append, List.length_set, List.map_cons, List.map_nil, List.cons_append, List.nil_append, ite_true, ite_false, if_true, if_false, Bool.not_true, Bool.not_false, endOf, outsOf, Nat.reduceAdd, Nat.reduceLT, Nat.reduceLeDiff, Nat.lt_add_left_iff_pos, Nat.zero_lt_succ, List.replicate, Nat.reduceSub, Nat.sub_self, reduceIte, reduceCtorEq, Bool.false_eq_true, decide_true, decide_false, mulI s1 s4, mulI s3 s2, mulI s2 s4, part_rp n _ _ (sm_sub hp.1 hq.2 hq.1 hp.2) (sm_mul hp.2 hq.2)]
  rcases rp_is n _ _ with z | z | z <;> rw [z] <;> rfl
theorem times_ok : C (n + 2) 6 [.fz (pr p), .fz (pr q)] = rp n (p.1 * q.1) (p.2 * q.2) := by
  rw [C_succ (fd := fd6) rfl ⟨rfl, rfl, rfl⟩]
  have s1 := sm_bd hp.1
  have s2 := sm_bd hp.2
  have s3 := sm_bd hq.1
  have s4 := sm_bd hq.2
  simp only [fd6, pr, Pz.execs, Pz.exec, Pz.ev, Pz.evT, Pz.ev2, Pz.evs, Pz.evl, Pz.evg, Pz.evi, Pz.evf, R.both_1, R.both_2, R.bind_ap, R.pure_ap, R.ofO_some, R.ofO_none, R.look_fz, R.look_bx, R.keep_fz, R.keep_bx, R.slot_fz, R.slot_bx, R.putV_fz, R.putV_bx, getV, setS, looks, tyD, asBool, asInt, asVw, asIntV, R.eqI, R.neI, R.ltI, R.leI, R.gtI, R.geI, R.eqB, R.neB, R.eqS, R.neS, R.isN, R.nisN, isNone, R.truthB, R.truthI, R.look_vw', R.callI1', R.callI2', frz, biV, mtKind, lenV, absV, R.intV_int, strV, tupleV, listV, strOf, Pz.ixD, R.at_0, R.at_1, R.opII, R.addI, R.subI, R.call1, R.call2, R.call3, R.call4, R.ret0_ok, R.ret0_ex, R.ret1_ok, Option.map_some, Option.map_none, Option.some_or, Option.none_or, List.getElem?_cons_zero, List.getElem?_cons_succ, List.getElem?_nil, List.set_cons_zero, List.set_cons_succ, List.length_cons, List.length_nil, List.length_append, List.length_set, List.map_cons, List.map_nil, List.cons_append, List.nil_append, ite_true, ite_false, if_true, if_false, Bool.not_true, Bool.not_false, endOf, outsOf, Nat.reduceAdd, Nat.reduceLT, Nat.reduceLeDiff, Nat.lt_add_left_iff_pos, Nat.zero_lt_succ, List.replicate, Nat.reduceSub, Nat.sub_self, reduceIte, reduceCtorEq, Bool.false_eq_true, decide_true, decide_false, mulI s1 s3, mulI s2 s4, part_rp n _ _ (sm_mul hp.1 hq.1) (sm_mul hp.2 hq.2)]
  rcases rp_is n _ _ with z | z | z <;> rw [z] <;> rfl
theorem over_ok : C (n + 2) 7 [.fz (pr p), .fz (pr q)] = rp n (p.1 * q.2) (p.2 * q.1) := by
  rw [C_succ (fd := fd7) rfl ⟨rfl, rfl, rfl⟩]
  have s1 := sm_bd hp.1
  have s2 := sm_bd hp.2
  have s3 := sm_bd hq.1
  have s4 := sm_bd hq.2
  simp only [fd7, pr, Pz.execs, Pz.exec, Pz.ev, Pz.evT, Pz.ev2, Pz.evs, Pz.evl, Pz.evg, Pz.evi, Pz.evf, R.both_1, R.both_2, R.bind_ap, R.pure_ap, R.ofO_some, R.ofO_none, R.look_fz, R.look_bx, R.keep_fz, R.keep_bx, R.slot_fz, R.slot_bx, R.putV_fz, R.putV_bx, getV, setS, looks, tyD, asBool, asInt, asVw, asIntV, R.eqI, R.neI, R.ltI, R.leI, R.gtI, R.geI, R.eqB, R.neB, R.eqS, R.neS, R.isN, R.nisN, isNone, R.truthB, R.truthI, R.look_vw', R.callI1', R.callI2', frz, biV, mtKind, lenV, absV, R.intV_int, strV, tupleV, listV, strOf, Pz.ixD, R.at_0, R.at_1, R.opII, R.addI, R.subI, R.call1, R.call2, R.call3, R.call4, R.ret0_ok, R.ret0_ex, R.ret1_ok, Option.map_some, Option.map_none, Option.some_or, Option.none_or, List.getElem?_cons_zero, List.getElem?_cons_succ, List.getElem?_nil, List.set_cons_zero, List.set_cons_succ, List.length_cons, List.length_nil, List.length_append, List.length_set, List.map_cons, List.map_nil, List.cons_append, List.nil_append, ite_true, ite_false, if_true, if_false, Bool.not_true, Bool.not_false, endOf, outsOf, Nat.reduceAdd, Nat.reduceLT, Nat.reduceLeDiff, Nat.lt_add_left_iff_pos, Nat.zero_lt_succ, List.replicate, Nat.reduceSub, Nat.sub_self, reduceIte, reduceCtorEq, Bool.false_eq_true, decide_true, decide_false, mulI s1 s4, mulI s2 s3, part_rp n _ _ (sm_mul hp.1 hq.2) (sm_mul hp.2 hq.1)]
  rcases rp_is n _ _ with z | z | z <;> rw [z] <;> rfl
theorem is_less_ok : C (n + 1) 8 [.fz (pr p), .fz (pr q)] = .ok (.fz (.bool (decide (les p q)))) [] := by
  rw [C_succ (fd := fd8) rfl ⟨rfl, rfl, rfl⟩]
  have s1 := sm_bd hp.1
  have s2 := sm_bd hp.2
  have s3 := sm_bd hq.1
  have s4 := sm_bd hq.2
  simp only [fd8, pr, Pz.execs, Pz.exec, Pz.ev, Pz.evT, Pz.ev2, Pz.evs, Pz.evl, Pz.evg, Pz.evi, Pz.evf, R.both_1, R.both_2, R.bind_ap, R.pure_ap, R.ofO_some, R.ofO_none, R.look_fz, R.look_bx, R.keep_fz, R.keep_bx, R.slot_fz, R.slot_bx, R.putV_fz, R.putV_bx, getV, setS, looks, tyD, asBool, asInt, asVw, asIntV, R.eqI, R.neI, R.ltI, R.leI, R.gtI, R.geI, R.eqB, R.neB, R.eqS, R.neS, R.isN, R.nisN, isNone, R.truthB, R.truthI, R.look_vw', R.callI1', R.callI2', frz, biV, mtKind, lenV, absV, R.intV_int, strV, tupleV, listV, strOf, Pz.ixD, R.at_0, R.at_1, R.opII, R.addI, R.subI, R.call1, R.call2, R.call3, R.call4, R.ret0_ok, R.ret0_ex, R.ret1_ok, Option.map_some, Option.map_none, Option.some_or, Option.none_or, List.getElem?_cons_zero, List.getElem?_cons_succ, List.getElem?_nil, List.set_cons_zero, List.set_cons_succ, List.length_cons, List.length_nil, List.length_append, List.length_set, List.map_cons, List.map_nil, List.cons_append, List.nil_append, ite_true, ite_false, if_true, if_false, Bool.not_true, Bool.not_false, endOf, outsOf, Nat.reduceAdd, Nat.reduceLT, Nat.reduceLeDiff, Nat.lt_add_left_iff_pos, Nat.zero_lt_succ, List.replicate, Nat.reduceSub, Nat.sub_self, reduceIte, reduceCtorEq, Bool.false_eq_true, decide_true, decide_false, mulI s1 s4, mulI s3 s2]
  rfl
theorem law_less_ok : C (n + 1) 25 [.fz (pr p), .fz (pr q)] = .ok (.fz (.bool (decide (les p q)))) [] := by
  rw [C_succ (fd := fd25) rfl ⟨rfl, rfl, rfl⟩]
  have s1 := sm_bd hp.1
  have s2 := sm_bd hp.2
  have s3 := sm_bd hq.1
  have s4 := sm_bd hq.2
  simp only [fd25, pr, Pz.execs, Pz.exec, Pz.ev, Pz.evT, Pz.ev2, Pz.evs, Pz.evl, Pz.evg, Pz.evi, Pz.evf, R.both_1, R.both_2, R.bind_ap, R.pure_ap, R.ofO_some, R.ofO_none, R.look_fz, R.look_bx, R.keep_fz, R.keep_bx, R.slot_fz, R.slot_bx, R.putV_fz, R.putV_bx, getV, setS, looks, tyD, asBool, asInt, asVw, asIntV, R.eqI, R.neI, R.ltI, R.leI, R.gtI, R.geI, R.eqB, R.neB, R.eqS, R.neS, R.isN, R.nisN, isNone, R.truthB, R.truthI, R.look_vw', R.callI1', R.callI2', frz, biV, mtKind, lenV, absV, R.intV_int, strV, tupleV, listV, strOf, Pz.ixD, R.at_0, R.at_1, R.opII, R.addI, R.subI, R.call1, R.call2, R.call3, R.call4, R.ret0_ok, R.ret0_ex, R.ret1_ok, Option.map_some, Option.map_none, Option.some_or, Option.none_or, List.getElem?_cons_zero, List.getElem?_cons_succ, List.getElem?_nil, List.set_cons_zero, List.set_cons_succ, List.length_cons, List.length_nil, List.length_append, List.length_set, List.map_cons, List.map_nil, List.cons_append, List.nil_append, ite_true, ite_false, if_true, if_false, Bool.not_true, Bool.not_false, endOf, outsOf, Nat.reduceAdd, Nat.reduceLT, Nat.reduceLeDiff, Nat.lt_add_left_iff_pos, Nat.zero_lt_succ, List.replicate, Nat.reduceSub, Nat.sub_self, reduceIte, reduceCtorEq, Bool.false_eq_true, decide_true, decide_false, mulI s1 s4, mulI s3 s2]
  rfl
end
def euB : Sms := .cons (.par2 [] 2 3 (.v 3) (.bin .mod (.v 2) (.v 3))) .nil
def euT : Tm := .cmp .ne (.v 3) (.c (.int (0)))
theorem eu_test (n : Nat) (a b x y : Int) (s : Slot) : evT (G n) euT [.fz (.int a), .fz (.int b), .fz (.int x), .fz (.int y), s] = .ok (y != 0) [.fz (.int a), .fz (.int b), .fz (.int x), .fz (.int y), s] := by
  simp only [euT, Pz.execs, Pz.exec, Pz.ev, Pz.evT, Pz.ev2, Pz.evs, Pz.evl, Pz.evg, Pz.evi, Pz.evf, R.both_1, R.both_2, R.bind_ap, R.pure_ap, R.ofO_some, R.ofO_none, R.look_fz, R.look_bx, R.keep_fz, R.keep_bx, R.slot_fz, R.slot_bx, R.putV_fz, R.putV_bx, getV, setS, looks, tyD, asBool, asInt, asVw, asIntV, R.eqI, R.neI, R.ltI, R.leI, R.gtI, R.geI, R.eqB, R.neB, R.eqS, R.neS, R.isN, R.nisN, isNone, R.truthB, R.truthI, R.look_vw', R.callI1', R.callI2', frz, biV, mtKind, lenV, absV, R.intV_int, strV, tupleV, listV, strOf, Pz.ixD, R.at_0, R.at_1, R.opII, R.addI, R.subI, R.call1, R.call2, R.call3, R.call4, R.ret0_ok, R.ret0_ex, R.ret1_ok, Option.map_some, Option.map_none, Option.some_or, Option.none_or, List.getElem?_cons_zero, List.getElem?_cons_succ, List.getElem?_nil, List.set_cons_zero, List.set_cons_succ, List.length_cons, List.length_nil, List.length_append, List.length_set, List.map_cons, List.map_nil, List.cons_append, List.nil_append, ite_true, ite_false, if_true, if_false, Bool.not_true, Bool.not_false, endOf, outsOf, Nat.reduceAdd, Nat.reduceLT, Nat.reduceLeDiff, Nat.lt_add_left_iff_pos, Nat.zero_lt_succ, List.replicate, Nat.reduceSub, Nat.sub_self, reduceIte, reduceCtorEq, Bool.false_eq_true, decide_true, decide_false]
  rfl
theorem eu_body (n : Nat) (a b x y : Int) (s : Slot) (h : y ≠ 0) : execs (G n) euB [.fz (.int a), .fz (.int b), .fz (.int x), .fz (.int y), s] = .ok .nx [.fz (.int a), .fz (.int b), .fz (.int y), .fz (.int (Int.fmod x y)), s] := by
  simp only [euB, Pz.execs, Pz.exec, Pz.ev, Pz.evT, Pz.ev2, Pz.evs, Pz.evl, Pz.evg, Pz.evi, Pz.evf, R.both_1, R.both_2, R.bind_ap, R.pure_ap, R.ofO_some, R.ofO_none, R.look_fz, R.look_bx, R.keep_fz, R.keep_bx, R.slot_fz, R.slot_bx, R.putV_fz, R.putV_bx, getV, setS, looks, tyD, asBool, asInt, asVw, asIntV, R.eqI, R.neI, R.ltI, R.leI, R.gtI, R.geI, R.eqB, R.neB, R.eqS, R.neS, R.isN, R.nisN, isNone, R.truthB, R.truthI, R.look_vw', R.callI1', R.callI2', frz, biV, mtKind, lenV, absV, R.intV_int, strV, tupleV, listV, strOf, Pz.ixD, R.at_0, R.at_1, R.opII, R.addI, R.subI, R.call1, R.call2, R.call3, R.call4, R.ret0_ok, R.ret0_ex, R.ret1_ok, Option.map_some, Option.map_none, Option.some_or, Option.none_or, List.getElem?_cons_zero, List.getElem?_cons_succ, List.getElem?_nil, List.set_cons_zero, List.set_cons_succ, List.length_cons, List.length_nil, List.length_append, List.length_set, List.map_cons, List.map_nil, List.cons_append, List.nil_append, ite_true, ite_false, if_true, if_false, Bool.not_true, Bool.not_false, endOf, outsOf, Nat.reduceAdd, Nat.reduceLT, Nat.reduceLeDiff, Nat.lt_add_left_iff_pos, Nat.zero_lt_succ, List.replicate, Nat.reduceSub, Nat.sub_self, reduceIte, reduceCtorEq, Bool.false_eq_true, decide_true, decide_false, modI h]
theorem eu_run (n : Nat) (a b : Int) (s : Slot) : ∀ (k j : Nat) (x y : Int), 0 ≤ x → 0 ≤ y → y < 2 ^ k → 2 * k + 1 ≤ j → whiles (evT (G n) euT) (execs (G n) euB) j [.fz (.int a), .fz (.int b), .fz (.int x), .fz (.int y), s]
    = .ok .nx [.fz (.int a), .fz (.int b), .fz (.int (Nat.gcd x.natAbs y.natAbs)), .fz (.int 0), s]
  | k, 0, _, _, _, _, _, hj => absurd hj (by omega)
  | k, j + 1, x, y, hx, hy, hk, hj => by
    have stop : ∀ (j : Nat) (x : Int), 0 ≤ x → whiles (evT (G n) euT) (execs (G n) euB) (j + 1) [.fz (.int a), .fz (.int b), .fz (.int x), .fz (.int 0), s] = .ok .nx [.fz (.int a), .fz (.int b), .fz (.int (Nat.gcd x.natAbs (0 : Int).natAbs)), .fz (.int 0), s] := fun j x hx => by
      show M.bind (evT (G n) euT) _ _ = _
      rw [R.bind_ok (eu_test n a b x 0 s)]
      show M.pure Fl.nx _ = _
      have : ((Nat.gcd x.natAbs (0 : Int).natAbs : Nat) : Int) = x := by
        rw [Int.natAbs_zero, Nat.gcd_zero_right]
        omega
      rw [this]
      rfl
    have go : ∀ (j : Nat) (x y : Int), y ≠ 0 → whiles (evT (G n) euT) (execs (G n) euB) (j + 1) [.fz (.int a), .fz (.int b), .fz (.int x), .fz (.int y), s] = whiles (evT (G n) euT) (execs (G n) euB) j [.fz (.int a), .fz (.int b), .fz (.int y), .fz (.int (Int.fmod x y)), s] := fun j x y hy => by
      show M.bind (evT (G n) euT) _ _ = _
      rw [R.bind_ok (eu_test n a b x y s)]
      have : (y != 0) = true := bne_iff_ne.mpr hy
      rw [this]
      show M.bind (execs (G n) euB) _ _ = _
      rw [R.bind_ok (eu_body n a b x y s hy)]
    have gm : ∀ x y : Int, 0 ≤ x → 0 < y → 0 ≤ Int.fmod x y ∧ Int.fmod x y < y ∧ Nat.gcd y.natAbs (Int.fmod x y).natAbs = Nat.gcd x.natAbs y.natAbs ∧ (x < y ∨ 2 * Int.fmod x y ≤ x) := fun x y hx hy => by
      obtain ⟨u, rfl⟩ := Int.eq_ofNat_of_zero_le hx
      obtain ⟨v, rfl⟩ := Int.eq_ofNat_of_zero_le (Int.le_of_lt hy)
      have hv : 0 < v := by omega
      have e : Int.fmod (u : Int) (v : Int) = ((u % v : Nat) : Int) := by
        rw [Int.fmod_eq_emod_of_nonneg _ (by omega)]
        rfl
      rw [e]
      refine ⟨by omega, by have := Nat.mod_lt u hv; omega, ?_, ?_⟩
      · simp only [Int.natAbs_natCast]
        rw [Nat.gcd_comm u v, Nat.gcd_rec v u, Nat.gcd_comm]
      · by_cases l : u < v
        · exact .inl (by omega)
        · right
          have h1 := Nat.mod_lt u hv
          have h2 := Nat.div_add_mod u v
          have h3 : 1 ≤ u / v := (Nat.le_div_iff_mul_le hv).mpr (by omega)
          have h4 : v * 1 ≤ v * (u / v) := Nat.mul_le_mul_left v h3
          omega
    by_cases z : y = 0
    · subst z
      exact stop j x hx
    · obtain ⟨g1, g2, g3, g4⟩ := gm x y hx (by omega)
      rw [go j x y z, ← g3]
      by_cases z2 : Int.fmod x y = 0
      · rw [z2]
        match j, hj with
        | 0, hj =>
          have : k = 0 := by omega
          subst this
          omega
        | j + 1, _ => exact stop j y (by omega)
      · match k, j, hj with
        | 0, j, hj => simp at hk; omega
        | k + 1, 0, hj => omega
        | k + 1, j + 1, hj =>
          obtain ⟨f1, f2, f3, f4⟩ := gm y (Int.fmod x y) (by omega) (by omega)
          rw [go j y _ z2, ← f3]
          refine eu_run n a b s k j _ _ (by omega) f1 ?_ (by omega)
          rw [Int.pow_succ] at hk
          omega
end K04

namespace K04
open PySem PyProof.Rows TL
def num (i : Int) : Str := Str.ofString (toString i)
theorem num_tl (i : Int) : (num i).cps.toList = if i < 0 then 45 :: numL i.natAbs else numL i.natAbs := by
  by_cases h : i < 0
  · rw [if_pos h]
    unfold num
    rw [signs_ofString, Int.toString_eq_repr, Int.repr_eq_if, if_neg (by omega), String.toList_append, List.map_append, Nat.toList_repr]
    have e : (-i).toNat = i.natAbs := by omega
    rw [e]
    rfl
  · rw [if_neg h]
    obtain ⟨m, rfl⟩ := Int.eq_ofNat_of_zero_le (show 0 ≤ i by omega)
    exact tl_num m
theorem num_int {i : Int} (h : i.natAbs < 10 ^ 100) : intText? (num i) = some i := by
  have hl : (numL i.natAbs).length ≤ 100 := numL_len (by decide) h
  have len : (num i).length ≤ 4300 := by
    have : (num i).length = (num i).cps.toList.length := Array.length_toList.symm
    rw [this, num_tl]
    split
    · rw [List.length_cons]; omega
    · omega
  by_cases l : i < 0
  · have e := intText_neg (x := num i) (by rw [num_tl, if_pos l]) (numL_digits _) (numL_ne _) len
    rw [e, numL_val]
    congr 1
    omega
  · have e := intText_digits (x := num i) (by rw [num_tl, if_neg l]; exact numL_digits _) (by rw [num_tl, if_neg l]; exact numL_ne _) len
    rw [e, num_tl, if_neg l, numL_val]
    congr 1
    omega
theorem num_len {i : Int} {k : Nat} (hk : 0 < k) (h : i.natAbs < 10 ^ k) : (num i).length ≤ k + 1 := by
  have hl : (numL i.natAbs).length ≤ k := numL_len hk h
  have : (num i).length = (num i).cps.toList.length := Array.length_toList.symm
  rw [this, num_tl]
  split
  · rw [List.length_cons]; omega
  · omega
theorem num_free (i : Int) : 47 ∉ (num i).cps.toList := by
  rw [num_tl]
  have h : 47 ∉ numL i.natAbs := numL_free (.inl (by decide))
  split
  · intro z
    rcases List.mem_cons.mp z with z | z
    · cases z
    · exact h z
  · exact h
def fig : List Nat := (Str.ofString "0123456789").cps.toList
theorem fig_eq : fig = [48, 49, 50, 51, 52, 53, 54, 55, 56, 57] := by decide +kernel
theorem fig_mem (c : Nat) : c ∈ fig ↔ 48 ≤ c ∧ c ≤ 57 := by
  rw [fig_eq]
  simp only [List.mem_cons, List.not_mem_nil, or_false]
  omega
def figB (x : Str) : Bool := decide (1 ≤ x.length) && decide (x.length ≤ 61) && x.cps.toList.all fun c => decide (c ∈ fig)
theorem figB_ok {x : Str} (h : figB x = true) : NumText.AllDigits x.cps.toList ∧ x.cps.toList ≠ [] ∧ x.length ≤ 61 := by
  unfold figB at h
  simp only [Bool.and_eq_true, decide_eq_true_eq, List.all_eq_true] at h
  obtain ⟨⟨h1, h2⟩, h3⟩ := h
  have : x.length = x.cps.toList.length := Array.length_toList.symm
  refine ⟨fun c hc => (fig_mem c).mp (h3 c hc), fun z => ?_, h2⟩
  rw [this, z] at h1
  exact absurd h1 (by decide)
theorem figB_numL {x : Str} {n : Nat} (e : x.cps.toList = numL n) (h : n < 10 ^ 61) : figB x = true := by
  have : x.length = x.cps.toList.length := Array.length_toList.symm
  have hl : (numL n).length ≤ 61 := numL_len (by decide) h
  have h1 : 0 < (numL n).length := List.length_pos_iff.mpr (numL_ne n)
  unfold figB
  simp only [Bool.and_eq_true, decide_eq_true_eq, List.all_eq_true]
  rw [this, e]
  exact ⟨⟨h1, hl⟩, fun c hc => (fig_mem c).mpr (numL_digits n c hc)⟩
/-- without the sign -/
def noSign (x : Str) : Str := if L2.cutS x none (some 1) == "-" then L2.cutS x (some 1) none else x
theorem cut_to (x : Str) (k : Nat) : (L2.cutS x none (some (k : Int))).cps.toList = x.cps.toList.take k := by
  have hl : x.length = x.cps.toList.length := Array.length_toList.symm
  show (((x.cps.toList.drop (HT.sIx x.length 0 none)).take (HT.sIx x.length x.length (some (k : Int)) - HT.sIx x.length 0 none)).toArray).toList = _
  rw [HT.sIx_none, HT.sIx_nat, List.drop_zero, Nat.sub_zero, List.toList_toArray, hl]
  exact List.take_eq_take_iff.mpr (by omega)
theorem cut_from (x : Str) (k : Nat) : (L2.cutS x (some (k : Int)) none).cps.toList = x.cps.toList.drop k := by
  have hl : x.length = x.cps.toList.length := Array.length_toList.symm
  show (((x.cps.toList.drop (HT.sIx x.length 0 (some (k : Int)))).take (HT.sIx x.length x.length none - HT.sIx x.length 0 (some (k : Int)))).toArray).toList = _
  rw [HT.sIx_none, HT.sIx_nat, List.toList_toArray, hl]
  by_cases h : k ≤ x.cps.toList.length
  · rw [Nat.min_eq_left h]
    exact List.take_of_length_le (by rw [List.length_drop]; omega)
  · rw [Nat.min_eq_right (by omega), List.drop_of_length_le (by omega), List.drop_of_length_le (by omega), List.take_nil]
theorem minus_tl : (Str.ofString "-").cps.toList = [45] := by decide +kernel
theorem str_eq {x y : Str} (h : x.cps.toList = y.cps.toList) : x = y := by
  obtain ⟨x⟩ := x
  obtain ⟨y⟩ := y
  congr 1
  exact Array.toList_inj.mp h
theorem str_beq (x y : Str) : (x == y) = decide (x.cps.toList = y.cps.toList) := by
  by_cases h : x = y
  · rw [h, decide_eq_true rfl]
    exact beq_self_eq_true y
  · rw [decide_eq_false fun z => h (str_eq z)]
    exact beq_eq_false_iff_ne.mpr h
theorem noSign_eq (x : Str) : (x.cps.toList.head? = some 45 ∧ (noSign x).cps.toList = x.cps.toList.tail) ∨ (x.cps.toList.head? ≠ some 45 ∧ noSign x = x) := by
  have e : (L2.cutS x none (some 1) == (Str.ofString "-")) = decide (x.cps.toList.take 1 = [45]) := by
    rw [str_beq, minus_tl]
    have := cut_to x 1
    rw [show ((1 : Nat) : Int) = 1 from rfl] at this
    rw [this]
  have t := cut_from x 1
  rw [show ((1 : Nat) : Int) = 1 from rfl] at t
  unfold noSign
  rw [e]
  cases q : x.cps.toList with
  | nil => exact .inr ⟨by simp, by simp⟩
  | cons c cs =>
    rw [q] at t
    by_cases h : c = 45
    · subst h
      exact .inl ⟨rfl, by rw [if_pos (by simp)]; exact t⟩
    · exact .inr ⟨by simp [h], by rw [if_neg (by simp [h])]⟩
theorem int_of {x : Str} (h : figB (noSign x) = true) : x.length ≤ 640 ∧ ∃ i, intText? x = some i := by
  obtain ⟨h1, h2, h3⟩ := figB_ok h
  have hl : x.length = x.cps.toList.length := Array.length_toList.symm
  rcases noSign_eq x with ⟨e1, e2⟩ | ⟨e1, e2⟩
  · have l2 : (noSign x).length = (noSign x).cps.toList.length := Array.length_toList.symm
    rw [e2] at h1 h2 l2
    cases q : x.cps.toList with
    | nil => rw [q] at e1; cases e1
    | cons c cs =>
      rw [q] at e1 h1 h2 hl l2
      cases e1
      have l3 : x.length ≤ 640 := by
        rw [hl, List.length_cons]
        rw [List.tail_cons] at l2
        omega
      exact ⟨l3, _, intText_neg q h1 h2 (by omega)⟩
  · rw [e2] at h1 h2 h3
    exact ⟨by omega, _, intText_digits h1 h2 (by omega)⟩
theorem fig_num {i : Int} (h : i.natAbs < 10 ^ 61) : figB (noSign (num i)) = true := by
  rcases noSign_eq (num i) with ⟨e1, e2⟩ | ⟨e1, e2⟩
  · rw [num_tl] at e1 e2
    by_cases l : i < 0
    · rw [if_pos l] at e2
      exact figB_numL e2 h
    · rw [if_neg l] at e1
      have := numL_digits i.natAbs 45 (List.mem_of_head? e1)
      omega
  · rw [e2]
    rw [num_tl] at e1
    by_cases l : i < 0
    · rw [if_pos l] at e1
      exact absurd rfl e1
    · exact figB_numL (by rw [num_tl, if_neg l]) h
end K04

namespace K04
open Pz Pz.R
open PySem hiding execs exec
theorem con4 : con[4]? = some (.str (Str.ofString "0123456789")) := by rfl
theorem isSub_one (c : Nat) (x : Str) : isSub ⟨#[c]⟩ x = decide (c ∈ x.cps.toList) := StrLaws.found_one x c
theorem le_beq (a b : Nat) : decide ((a : Int) ≤ (b : Int)) = decide (a ≤ b) := decide_eq_decide.mpr (by omega)
theorem is_figures_ok (n : Nat) (x : Str) (hl : x.length ≤ lim) : C (n + 1) 15 [.fz (.str x)] = .ok (.fz (.bool (figB x))) [] := by
  rw [C_succ (fd := fd15) rfl ⟨rfl, rfl, rfl⟩]
  have e1 : decide ((1 : Int) ≤ (x.length : Int)) = decide (1 ≤ x.length) := le_beq 1 x.length
  have e2 : decide ((x.length : Int) ≤ 61) = decide (x.length ≤ 61) := le_beq x.length 61
  have e3 : (x.cps.toList.all fun c => isSub ⟨#[c]⟩ (Str.ofString "0123456789")) = x.cps.toList.all fun c => decide (c ∈ fig) := by
    congr 1
    funext c
    exact isSub_one c _
  unfold figB
  by_cases h1 : 1 ≤ x.length
  · by_cases h2 : x.length ≤ 61
    · simp only [fd15, Pz.execs, Pz.exec, Pz.ev, Pz.evT, Pz.ev2, Pz.evs, Pz.evl, Pz.evg, Pz.evi, Pz.evf, R.both_1, R.both_2, R.bind_ap, R.pure_ap, R.ofO_some, R.ofO_none, R.look_fz, R.look_bx, R.keep_fz, R.keep_bx, R.slot_fz, R.slot_bx, R.putV_fz, R.putV_bx, getV, setS, looks, tyD, asBool, asInt, asVw, asIntV, R.eqI, R.neI, R.ltI, R.leI, R.gtI, R.geI, R.eqB, R.neB, R.eqS, R.neS, R.isN, R.nisN, isNone, R.truthB, R.truthI, R.look_vw', R.callI1', R.callI2', frz, biV, mtKind, lenV, absV, R.intV_int, strV, tupleV, listV, strOf, Pz.ixD, R.at_0, R.at_1, R.opII, R.addI, R.subI, R.call1, R.call2, R.call3, R.call4, R.ret0_ok, R.ret0_ex, R.ret1_ok, Option.map_some, Option.map_none, Option.some_or, Option.none_or, List.getElem?_cons_zero, List.getElem?_cons_succ, List.getElem?_nil, List.set_cons_zero, List.set_cons_succ, List.length_cons, List.length_nil, List.length_append, List.length_set, List.map_cons, List.map_nil, List.cons_append, List.nil_append, ite_true, ite_false, if_true, if_false, Bool.not_true, Bool.not_false, endOf, outsOf, Nat.reduceAdd, Nat.reduceLT, Nat.reduceLeDiff, Nat.lt_add_left_iff_pos, Nat.zero_lt_succ, List.replicate, Nat.reduceSub, Nat.sub_self, reduceIte, reduceCtorEq, Bool.false_eq_true, decide_true, decide_false, hl, con4, e1, e2, e3, h1, h2, Bool.true_and, Bool.and_true]
    · simp only [fd15, Pz.execs, Pz.exec, Pz.ev, Pz.evT, Pz.ev2, Pz.evs, Pz.evl, Pz.evg, Pz.evi, Pz.evf, R.both_1, R.both_2, R.bind_ap, R.pure_ap, R.ofO_some, R.ofO_none, R.look_fz, R.look_bx, R.keep_fz, R.keep_bx, R.slot_fz, R.slot_bx, R.putV_fz, R.putV_bx, getV, setS, looks, tyD, asBool, asInt, asVw, asIntV, R.eqI, R.neI, R.ltI, R.leI, R.gtI, R.geI, R.eqB, R.neB, R.eqS, R.neS, R.isN, R.nisN, isNone, R.truthB, R.truthI, R.look_vw', R.callI1', R.callI2', frz, biV, mtKind, lenV, absV, R.intV_int, strV, tupleV, listV, strOf, Pz.ixD, R.at_0, R.at_1, R.opII, R.addI, R.subI, R.call1, R.call2, R.call3, R.call4, R.ret0_ok, R.ret0_ex, R.ret1_ok, Option.map_some, Option.map_none, Option.some_or, Option.none_or, List.getElem?_cons_zero, List.getElem?_cons_succ, List.getElem?_nil, List.set_cons_zero, List.set_cons_succ, List.length_cons, List.length_nil, List.length_append, List.length_set, List.map_cons, List.map_nil, List.cons_append, List.nil_append, ite_true, ite_false, if_true, if_false, Bool.not_true, Bool.not_false, endOf, outsOf, Nat.reduceAdd, Nat.reduceLT, Nat.reduceLeDiff, Nat.lt_add_left_iff_pos, Nat.zero_lt_succ, List.replicate, Nat.reduceSub, Nat.sub_self, reduceIte, reduceCtorEq, Bool.false_eq_true, decide_true, decide_false, hl, con4, e1, e2, e3, h1, h2, Bool.true_and, Bool.and_false, Bool.false_and]
  · simp only [fd15, Pz.execs, Pz.exec, Pz.ev, Pz.evT, Pz.ev2, Pz.evs, Pz.evl, Pz.evg, Pz.evi, Pz.evf, R.both_1, R.both_2, R.bind_ap, R.pure_ap, R.ofO_some, R.ofO_none, R.look_fz, R.look_bx, R.keep_fz, R.keep_bx, R.slot_fz, R.slot_bx, R.putV_fz, R.putV_bx, getV, setS, looks, tyD, asBool, asInt, asVw, asIntV, R.eqI, R.neI, R.ltI, R.leI, R.gtI, R.geI, R.eqB, R.neB, R.eqS, R.neS, R.isN, R.nisN, isNone, R.truthB, R.truthI, R.look_vw', R.callI1', R.callI2', frz, biV, mtKind, lenV, absV, R.intV_int, strV, tupleV, listV, strOf, Pz.ixD, R.at_0, R.at_1, R.opII, R.addI, R.subI, R.call1, R.call2, R.call3, R.call4, R.ret0_ok, R.ret0_ex, R.ret1_ok, Option.map_some, Option.map_none, Option.some_or, Option.none_or, List.getElem?_cons_zero, List.getElem?_cons_succ, List.getElem?_nil, List.set_cons_zero, List.set_cons_succ, List.length_cons, List.length_nil, List.length_append, List.length_set, List.map_cons, List.map_nil, List.cons_append, List.nil_append, ite_true, ite_false, if_true, if_false, Bool.not_true, Bool.not_false, endOf, outsOf, Nat.reduceAdd, Nat.reduceLT, Nat.reduceLeDiff, Nat.lt_add_left_iff_pos, Nat.zero_lt_succ, List.replicate, Nat.reduceSub, Nat.sub_self, reduceIte, reduceCtorEq, Bool.false_eq_true, decide_true, decide_false, hl, con4, e1, e2, e3, h1, Bool.false_and]
def slash : Str := Str.ofString "/"
theorem slash_tl : slash.cps.toList = [47] := by decide +kernel
theorem slash_len : slash.length = 1 := by decide +kernel
def textOf (p : Int × Int) : Str := if p.2 = 1 then num p.1 else num p.1 ++ slash ++ num p.2
theorem bd_log {i : Int} (h : i.natAbs ≤ 10 ^ 60) : i.natAbs.log2 < 1920 := by
  by_cases z : i.natAbs = 0
  · rw [z]; decide
  · exact (Nat.log2_lt z).mpr (Nat.lt_of_le_of_lt h (by decide))
theorem bd_len {i : Int} (h : i.natAbs ≤ 10 ^ 60) : (num i).length ≤ 62 := num_len (k := 61) (by decide) (Nat.lt_of_le_of_lt h (by decide))
theorem empty_len : Str.empty.length = 0 := rfl
theorem app_len (a b : Str) : (a ++ b).length = a.length + b.length := by
  show (a ++ b).cps.size = _
  rw [Str.cps_append, Array.size_append]
  rfl
theorem write_ok (n : Nat) (p : Int × Int) (hp : Bd p) : C (n + 1) 13 [.fz (pr p)] = .ok (.fz (.str (textOf p))) [] := by
  rw [C_succ (fd := fd13) rfl ⟨rfl, rfl, rfl⟩]
  have l1 := bd_log hp.1
  have l2 := bd_log hp.2
  have n1 := bd_len hp.1
  have n2 := bd_len hp.2
  have n1' : (Str.ofString (toString p.1)).length ≤ 62 := n1
  have n2' : (Str.ofString (toString p.2)).length ≤ 62 := n2
  have sl : (Str.ofString "/").length = 1 := slash_len
  unfold textOf
  by_cases h : p.2 = 1
  · have b : (p.2 == 1) = true := beq_iff_eq.mpr h
    have c1 : Str.empty.length + (Str.ofString (toString p.1)).length ≤ lim := by rw [empty_len]; unfold lim; omega
    rw [if_pos h]
    simp only [fd13, pr, Pz.execs, Pz.exec, Pz.ev, Pz.evT, Pz.ev2, Pz.evs, Pz.evl, Pz.evg, Pz.evi, Pz.evf, R.both_1, R.both_2, R.bind_ap, R.pure_ap, R.ofO_some, R.ofO_none, R.look_fz, R.look_bx, R.keep_fz, R.keep_bx, R.slot_fz, R.slot_bx, R.putV_fz, R.putV_bx, getV, setS, looks, tyD, asBool, asInt, asVw, asIntV, R.eqI, R.neI, R.ltI, R.leI, R.gtI, R.geI, R.eqB, R.neB, R.eqS, R.neS, R.isN, R.nisN, isNone, R.truthB, R.truthI, R.look_vw', R.callI1', R.callI2', frz, biV, mtKind, lenV, absV, R.intV_int, strV, tupleV, listV, strOf, Pz.ixD, R.at_0, R.at_1, R.opII, R.addI, R.subI, R.call1, R.call2, R.call3, R.call4, R.ret0_ok, R.ret0_ex, R.ret1_ok, Option.map_some, Option.map_none, Option.some_or, Option.none_or, List.getElem?_cons_zero, List.getElem?_cons_succ, List.getElem?_nil, List.set_cons_zero, List.set_cons_succ, List.length_cons, List.length_nil, List.length_append, List.length_set, List.map_cons, List.map_nil, List.cons_append, List.nil_append, ite_true, ite_false, if_true, if_false, Bool.not_true, Bool.not_false, endOf, outsOf, Nat.reduceAdd, Nat.reduceLT, Nat.reduceLeDiff, Nat.lt_add_left_iff_pos, Nat.zero_lt_succ, List.replicate, Nat.reduceSub, Nat.sub_self, reduceIte, reduceCtorEq, Bool.false_eq_true, decide_true, decide_false, b, l1, c1, Str.empty_append]
    rfl
  · have b : (p.2 == 1) = false := beq_eq_false_iff_ne.mpr h
    have c1 : Str.empty.length + (Str.ofString (toString p.1)).length ≤ lim := by rw [empty_len]; unfold lim; omega
    have c2 : (Str.ofString (toString p.1)).length + (Str.ofString "/").length ≤ lim := by rw [sl]; unfold lim; omega
    have c3 : ((Str.ofString (toString p.1)) ++ (Str.ofString "/")).length + (Str.ofString (toString p.2)).length ≤ lim := by rw [app_len, sl]; unfold lim; omega
    rw [if_neg h]
    simp only [fd13, pr, Pz.execs, Pz.exec, Pz.ev, Pz.evT, Pz.ev2, Pz.evs, Pz.evl, Pz.evg, Pz.evi, Pz.evf, R.both_1, R.both_2, R.bind_ap, R.pure_ap, R.ofO_some, R.ofO_none, R.look_fz, R.look_bx, R.keep_fz, R.keep_bx, R.slot_fz, R.slot_bx, R.putV_fz, R.putV_bx, getV, setS, looks, tyD, asBool, asInt, asVw, asIntV, R.eqI, R.neI, R.ltI, R.leI, R.gtI, R.geI, R.eqB, R.neB, R.eqS, R.neS, R.isN, R.nisN, isNone, R.truthB, R.truthI, R.look_vw', R.callI1', R.callI2', frz, biV, mtKind, lenV, absV, R.intV_int, strV, tupleV, listV, strOf, Pz.ixD, R.at_0, R.at_1, R.opII, R.addI, R.subI, R.call1, R.call2, R.call3, R.call4, R.ret0_ok, R.ret0_ex, R.ret1_ok, Option.map_some, Option.map_none, Option.some_or, Option.none_or, List.getElem?_cons_zero, List.getElem?_cons_succ, List.getElem?_nil, List.set_cons_zero, List.set_cons_succ, List.length_cons, List.length_nil, List.length_append, List.length_set, List.map_cons, List.map_nil, List.cons_append, List.nil_append, ite_true, ite_false, if_true, if_false, Bool.not_true, Bool.not_false, endOf, outsOf, Nat.reduceAdd, Nat.reduceLT, Nat.reduceLeDiff, Nat.lt_add_left_iff_pos, Nat.zero_lt_succ, List.replicate, Nat.reduceSub, Nat.sub_self, reduceIte, reduceCtorEq, Bool.false_eq_true, decide_true, decide_false, b, l1, l2, c1, c2, c3, Str.empty_append]
    rfl
theorem law_text_ok (n : Nat) (p : Int × Int) (hp : Bd p) : C (n + 1) 30 [.fz (pr p)] = .ok (.fz (.str (textOf p))) [] := by
  rw [C_succ (fd := fd30) rfl ⟨rfl, rfl, rfl⟩]
  have l1 := bd_log hp.1
  have l2 := bd_log hp.2
  have n1' : (Str.ofString (toString p.1)).length ≤ 62 := bd_len hp.1
  have n2' : (Str.ofString (toString p.2)).length ≤ 62 := bd_len hp.2
  have sl : (Str.ofString "/").length = 1 := slash_len
  have se : (Str.ofString "") = Str.empty := by decide +kernel
  unfold textOf
  by_cases h : p.2 = 1
  · have b : (p.2 == 1) = true := beq_iff_eq.mpr h
    have c1 : (Str.ofString (toString p.1)).length + Str.empty.length ≤ lim := by rw [empty_len]; unfold lim; omega
    rw [if_pos h]
    simp only [fd30, pr, Pz.execs, Pz.exec, Pz.ev, Pz.evT, Pz.ev2, Pz.evs, Pz.evl, Pz.evg, Pz.evi, Pz.evf, R.both_1, R.both_2, R.bind_ap, R.pure_ap, R.ofO_some, R.ofO_none, R.look_fz, R.look_bx, R.keep_fz, R.keep_bx, R.slot_fz, R.slot_bx, R.putV_fz, R.putV_bx, getV, setS, looks, tyD, asBool, asInt, asVw, asIntV, R.eqI, R.neI, R.ltI, R.leI, R.gtI, R.geI, R.eqB, R.neB, R.eqS, R.neS, R.isN, R.nisN, isNone, R.truthB, R.truthI, R.look_vw', R.callI1', R.callI2', frz, biV, mtKind, lenV, absV, R.intV_int, strV, tupleV, listV, strOf, Pz.ixD, R.at_0, R.at_1, R.opII, R.addI, R.subI, R.call1, R.call2, R.call3, R.call4, R.ret0_ok, R.ret0_ex, R.ret1_ok, Option.map_some, Option.map_none, Option.some_or, Option.none_or, List.getElem?_cons_zero, List.getElem?_cons_succ, List.getElem?_nil, List.set_cons_zero, List.set_cons_succ, List.length_cons, List.length_nil, List.length_append, List.length_set, List.map_cons, List.map_nil, List.cons_append, List.nil_append, ite_true, ite_false, if_true, if_false, Bool.not_true, Bool.not_false, endOf, outsOf, Nat.reduceAdd, Nat.reduceLT, Nat.reduceLeDiff, Nat.lt_add_left_iff_pos, Nat.zero_lt_succ, List.replicate, Nat.reduceSub, Nat.sub_self, reduceIte, reduceCtorEq, Bool.false_eq_true, decide_true, decide_false, b, l1, opV, c1, se, Str.append_empty]
    rfl
  · have b : (p.2 == 1) = false := beq_eq_false_iff_ne.mpr h
    have c2 : (Str.ofString "/").length + (Str.ofString (toString p.2)).length ≤ lim := by rw [sl]; unfold lim; omega
    have c3 : (Str.ofString (toString p.1)).length + ((Str.ofString "/") ++ (Str.ofString (toString p.2))).length ≤ lim := by rw [app_len, sl]; unfold lim; omega
    rw [if_neg h]
    simp only [fd30, pr, Pz.execs, Pz.exec, Pz.ev, Pz.evT, Pz.ev2, Pz.evs, Pz.evl, Pz.evg, Pz.evi, Pz.evf, R.both_1, R.both_2, R.bind_ap, R.pure_ap, R.ofO_some, R.ofO_none, R.look_fz, R.look_bx, R.keep_fz, R.keep_bx, R.slot_fz, R.slot_bx, R.putV_fz, R.putV_bx, getV, setS, looks, tyD, asBool, asInt, asVw, asIntV, R.eqI, R.neI, R.ltI, R.leI, R.gtI, R.geI, R.eqB, R.neB, R.eqS, R.neS, R.isN, R.nisN, isNone, R.truthB, R.truthI, R.look_vw', R.callI1', R.callI2', frz, biV, mtKind, lenV, absV, R.intV_int, strV, tupleV, listV, strOf, Pz.ixD, R.at_0, R.at_1, R.opII, R.addI, R.subI, R.call1, R.call2, R.call3, R.call4, R.ret0_ok, R.ret0_ex, R.ret1_ok, Option.map_some, Option.map_none, Option.some_or, Option.none_or, List.getElem?_cons_zero, List.getElem?_cons_succ, List.getElem?_nil, List.set_cons_zero, List.set_cons_succ, List.length_cons, List.length_nil, List.length_append, List.length_set, List.map_cons, List.map_nil, List.cons_append, List.nil_append, ite_true, ite_false, if_true, if_false, Bool.not_true, Bool.not_false, endOf, outsOf, Nat.reduceAdd, Nat.reduceLT, Nat.reduceLeDiff, Nat.lt_add_left_iff_pos, Nat.zero_lt_succ, List.replicate, Nat.reduceSub, Nat.sub_self, reduceIte, reduceCtorEq, Bool.false_eq_true, decide_true, decide_false, b, l1, l2, opV, c2, c3]
    rw [Str.append_assoc]
    rfl
def partB (p : Int × Int) : Bool := numB (.int p.1) (-(10 ^ 60)) (10 ^ 60) && (numB (.int p.2) 1 (10 ^ 60) && (gz p.1 p.2 == 1))
theorem p60 : ((10 : Int) ^ 60) = (((10 ^ 60 : Nat)) : Int) := by decide +kernel
theorem partB_iff (p : Int × Int) : partB p = true ↔ Bd p ∧ Low p := by
  unfold partB numB
  rw [p60]
  simp only [Bool.and_eq_true, decide_eq_true_eq, beq_iff_eq]
  constructor
  · rintro ⟨⟨h1, h2⟩, ⟨h3, h4⟩, h5⟩
    exact ⟨⟨by omega, by omega⟩, ⟨by omega, by unfold gz at h5; omega⟩⟩
  · rintro ⟨⟨h1, h2⟩, ⟨h3, h4⟩⟩
    exact ⟨⟨by omega, by omega⟩, ⟨by omega, by omega⟩, by unfold gz; omega⟩
theorem is_part_ok (n : Nat) (p : Int × Int) : C (n + 2) 2 [.fz (pr p)] = .ok (.fz (.bool (partB p))) [] := by
  rw [C_succ (fd := fd2) rfl ⟨rfl, rfl, rfl⟩]
  have gcd : gcdV [.int p.1, .int p.2] = some (.fz (.int (gz p.1 p.2))) := rfl
  have l2 : (((0 : Nat) + 1 + 1 : Nat) : Int) = 2 := rfl
  have e2 : ((2 : Int) == 2) = true := rfl
  unfold partB
  cases h1 : numB (.int p.1) (-(10 ^ 60)) (10 ^ 60) with
  | false => simp only [fd2, pr, Pz.execs, Pz.exec, Pz.ev, Pz.evT, Pz.ev2, Pz.evs, Pz.evl, Pz.evg, Pz.evi, Pz.evf, R.both_1, R.both_2, R.bind_ap, R.pure_ap, R.ofO_some, R.ofO_none, R.look_fz, R.look_bx, R.keep_fz, R.keep_bx, R.slot_fz, R.slot_bx, R.putV_fz, R.putV_bx, getV, setS, looks, tyD, asBool, asInt, asVw, asIntV, R.eqI, R.neI, R.ltI, R.leI, R.gtI, R.geI, R.eqB, R.neB, R.eqS, R.neS, R.isN, R.nisN, isNone, R.truthB, R.truthI, R.look_vw', R.callI1', R.callI2', frz, biV, mtKind, lenV, absV, R.intV_int, strV, tupleV, listV, strOf, Pz.ixD, R.at_0, R.at_1, R.opII, R.addI, R.subI, R.call1, R.call2, R.call3, R.call4, R.ret0_ok, R.ret0_ex, R.ret1_ok, Option.map_some, Option.map_none, Option.some_or, Option.none_or, List.getElem?_cons_zero, List.getElem?_cons_succ, List.getElem?_nil, List.set_cons_zero, List.set_cons_succ, List.length_cons, List.length_nil, List.length_append, List.length_set, List.map_cons, List.map_nil, List.cons_append, List.nil_append, ite_true, ite_false, if_true, if_false, Bool.not_true, Bool.not_false, endOf, outsOf, Nat.reduceAdd, Nat.reduceLT, Nat.reduceLeDiff, Nat.lt_add_left_iff_pos, Nat.zero_lt_succ, List.replicate, Nat.reduceSub, Nat.sub_self, reduceIte, reduceCtorEq, Bool.false_eq_true, decide_true, decide_false, con1, is_number_ok, h1, l2, e2, Bool.false_and]
  | true =>
    cases h2 : numB (.int p.2) 1 (10 ^ 60) with
    | false => simp only [fd2, pr, Pz.execs, Pz.exec, Pz.ev, Pz.evT, Pz.ev2, Pz.evs, Pz.evl, Pz.evg, Pz.evi, Pz.evf, R.both_1, R.both_2, R.bind_ap, R.pure_ap, R.ofO_some, R.ofO_none, R.look_fz, R.look_bx, R.keep_fz, R.keep_bx, R.slot_fz, R.slot_bx, R.putV_fz, R.putV_bx, getV, setS, looks, tyD, asBool, asInt, asVw, asIntV, R.eqI, R.neI, R.ltI, R.leI, R.gtI, R.geI, R.eqB, R.neB, R.eqS, R.neS, R.isN, R.nisN, isNone, R.truthB, R.truthI, R.look_vw', R.callI1', R.callI2', frz, biV, mtKind, lenV, absV, R.intV_int, strV, tupleV, listV, strOf, Pz.ixD, R.at_0, R.at_1, R.opII, R.addI, R.subI, R.call1, R.call2, R.call3, R.call4, R.ret0_ok, R.ret0_ex, R.ret1_ok, Option.map_some, Option.map_none, Option.some_or, Option.none_or, List.getElem?_cons_zero, List.getElem?_cons_succ, List.getElem?_nil, List.set_cons_zero, List.set_cons_succ, List.length_cons, List.length_nil, List.length_append, List.length_set, List.map_cons, List.map_nil, List.cons_append, List.nil_append, ite_true, ite_false, if_true, if_false, Bool.not_true, Bool.not_false, endOf, outsOf, Nat.reduceAdd, Nat.reduceLT, Nat.reduceLeDiff, Nat.lt_add_left_iff_pos, Nat.zero_lt_succ, List.replicate, Nat.reduceSub, Nat.sub_self, reduceIte, reduceCtorEq, Bool.false_eq_true, decide_true, decide_false, con1, is_number_ok, h1, h2, l2, e2, Bool.false_and, Bool.true_and]
    | true => simp only [fd2, pr, Pz.execs, Pz.exec, Pz.ev, Pz.evT, Pz.ev2, Pz.evs, Pz.evl, Pz.evg, Pz.evi, Pz.evf, R.both_1, R.both_2, R.bind_ap, R.pure_ap, R.ofO_some, R.ofO_none, R.look_fz, R.look_bx, R.keep_fz, R.keep_bx, R.slot_fz, R.slot_bx, R.putV_fz, R.putV_bx, getV, setS, looks, tyD, asBool, asInt, asVw, asIntV, R.eqI, R.neI, R.ltI, R.leI, R.gtI, R.geI, R.eqB, R.neB, R.eqS, R.neS, R.isN, R.nisN, isNone, R.truthB, R.truthI, R.look_vw', R.callI1', R.callI2', frz, biV, mtKind, lenV, absV, R.intV_int, strV, tupleV, listV, strOf, Pz.ixD, R.at_0, R.at_1, R.opII, R.addI, R.subI, R.call1, R.call2, R.call3, R.call4, R.ret0_ok, R.ret0_ex, R.ret1_ok, Option.map_some, Option.map_none, Option.some_or, Option.none_or, List.getElem?_cons_zero, List.getElem?_cons_succ, List.getElem?_nil, List.set_cons_zero, List.set_cons_succ, List.length_cons, List.length_nil, List.length_append, List.length_set, List.map_cons, List.map_nil, List.cons_append, List.nil_append, ite_true, ite_false, if_true, if_false, Bool.not_true, Bool.not_false, endOf, outsOf, Nat.reduceAdd, Nat.reduceLT, Nat.reduceLeDiff, Nat.lt_add_left_iff_pos, Nat.zero_lt_succ, List.replicate, Nat.reduceSub, Nat.sub_self, reduceIte, reduceCtorEq, Bool.false_eq_true, decide_true, decide_false, con1, is_number_ok, h1, h2, l2, e2, gcd, Bool.true_and]
def readF (v : Str) : Option (Int × Int) :=
  if figB (noSign (Txt.partition v slash).1) && (!((Txt.partition v slash).2.1 == slash) || figB (Txt.partition v slash).2.2) then
    match intText? (Txt.partition v slash).1, (if (Txt.partition v slash).2.1 == slash then intText? (Txt.partition v slash).2.2 else some 1) with
    | some i, some j => if partB (i, j) && textOf (i, j) == v then some (i, j) else none
    | _, _ => none
  else none
theorem read_ok (n : Nat) (v : Str) (hv : v.length ≤ lim) : C (n + 3) 14 [.fz (.str v)] = match readF v with
    | some p => .ok (.fz (pr p)) []
    | none => .ex 2 [] := by
  rw [C_succ (fd := fd14) rfl ⟨rfl, rfl, rfl⟩]
  obtain ⟨f1, f2, f3⟩ := PyProof.Rows.fact_partition v slash
  unfold readF
  generalize hf : (Txt.partition v slash).1 = f at *
  generalize hb : (Txt.partition v slash).2.1 = b at *
  generalize hs : (Txt.partition v slash).2.2 = s at *
  have hp : mtV .partition (.str v) [.str (Str.ofString "/")] = some (.fz (.tuple [.str f, .str b, .str s])) := by
    show (if (Str.ofString "/").length ≠ 0 ∧ v.length ≤ lim then some (Val.fz (.tuple [.str (Txt.partition v slash).1, .str (Txt.partition v slash).2.1, .str (Txt.partition v slash).2.2])) else none) = _
    rw [if_pos ⟨by decide, hv⟩, hf, hb, hs]
  have l1 : f.length ≤ lim := Nat.le_trans f1 hv
  have l3 : s.length ≤ lim := Nat.le_trans f3 hv
  have slH : slV (.str f) none (some 1) = some (.fz (.str (L2.cutS f none (some 1)))) := if_pos l1
  have slL : slV (.str f) (some 1) none = some (.fz (.str (L2.cutS f (some 1) none))) := if_pos l1
  have cl : (L2.cutS f (some 1) none).length ≤ lim := Nat.le_trans (L2.cutS_length f (some 1) none) l1
  have fs := is_figures_ok (n + 1) s l3
  have body : ∀ q : Bool, (L2.cutS f none (some 1) == Str.ofString "-") = q → C (n + 2) 15 [.fz (.str (if q then L2.cutS f (some 1) none else f))] = .ok (.fz (.bool (figB (noSign f)))) [] := fun q hq => by
    have e : noSign f = if q then L2.cutS f (some 1) none else f := by
      show (if (L2.cutS f none (some 1) == Str.ofString "-") = true then _ else _) = _
      rw [hq]
    rw [e]
    refine is_figures_ok (n + 1) _ ?_
    split
    · exact cl
    · exact l1
  have iv : ∀ x : Str, figB (noSign x) = true → ∃ i, intText? x = some i ∧ intV [.str x] = some (.fz (.int i)) := fun x hx => by
    obtain ⟨a1, i, a2⟩ := int_of hx
    refine ⟨i, a2, ?_⟩
    show (if x.length ≤ 640 then (intText? x).map fun n => Val.fz (.int n) else none) = _
    rw [if_pos a1, a2]
    rfl
  have iv2 : ∀ x : Str, figB x = true → ∃ i, intText? x = some i ∧ intV [.str x] = some (.fz (.int i)) := fun x hx => by
    obtain ⟨a1, a2, a3⟩ := figB_ok hx
    have a4 := intText_digits a1 a2 (by omega)
    refine ⟨_, a4, ?_⟩
    show (if x.length ≤ 640 then (intText? x).map fun n => Val.fz (.int n) else none) = _
    rw [if_pos (by omega), a4]
    rfl
  have wr : ∀ i j : Int, partB (i, j) = true → C (n + 2) 13 [.fz (.tuple [.int i, .int j])] = .ok (.fz (.str (textOf (i, j)))) [] := fun i j h => write_ok (n + 1) (i, j) ((partB_iff _).mp h).1
  have ip : ∀ i j : Int, C (n + 2) 2 [.fz (.tuple [.int i, .int j])] = .ok (.fz (.bool (partB (i, j)))) [] := fun i j => is_part_ok n (i, j)
  have fin : ∀ i j : Int, ∀ x y z : Slot, ∀ vv : Slot, vv = .fz (.str v) → endOf [] (execs (G (n + 2)) (.cons (.ifs [4] (.or (.nt (.call 2 (.cons (.v 4) .nil))) (.cmp .ne (.call 13 (.cons (.v 4) .nil)) (.v 0))) (.cons (.rais 2) .nil) .nil) (.cons (.retv 4) .nil)) [vv, x, y, z, .fz (.tuple [.int i, .int j])])
      = match (if (partB (i, j) && textOf (i, j) == v) = true then some (i, j) else none) with
        | some p => .ok (.fz (pr p)) []
        | none => .ex 2 [] := fun i j x y z vv hvv => by
    subst hvv
    cases h1 : partB (i, j) with
    | false => simp only [Pz.execs, Pz.exec, Pz.ev, Pz.evT, Pz.ev2, Pz.evs, Pz.evl, Pz.evg, Pz.evi, Pz.evf, R.both_1, R.both_2, R.bind_ap, R.pure_ap, R.ofO_some, R.ofO_none, R.look_fz, R.look_bx, R.keep_fz, R.keep_bx, R.slot_fz, R.slot_bx, R.putV_fz, R.putV_bx, getV, setS, looks, tyD, asBool, asInt, asVw, asIntV, R.eqI, R.neI, R.ltI, R.leI, R.gtI, R.geI, R.eqB, R.neB, R.eqS, R.neS, R.isN, R.nisN, isNone, R.truthB, R.truthI, R.look_vw', R.callI1', R.callI2', frz, biV, mtKind, lenV, absV, R.intV_int, strV, tupleV, listV, strOf, Pz.ixD, R.at_0, R.at_1, R.opII, R.addI, R.subI, R.call1, R.call2, R.call3, R.call4, R.ret0_ok, R.ret0_ex, R.ret1_ok, Option.map_some, Option.map_none, Option.some_or, Option.none_or, List.getElem?_cons_zero, List.getElem?_cons_succ, List.getElem?_nil, List.set_cons_zero, List.set_cons_succ, List.length_cons, List.length_nil, List.length_append, List.length_set, List.map_cons, List.map_nil, List.cons_append, List.nil_append, ite_true, ite_false, if_true, if_false, Bool.not_true, Bool.not_false, endOf, outsOf, Nat.reduceAdd, Nat.reduceLT, Nat.reduceLeDiff, Nat.lt_add_left_iff_pos, Nat.zero_lt_succ, List.replicate, Nat.reduceSub, Nat.sub_self, reduceIte, reduceCtorEq, Bool.false_eq_true, decide_true, decide_false, ip, h1, Bool.false_and]
    | true =>
      have w := wr i j h1
      cases h2 : (textOf (i, j) == v) with
      | false => simp only [Pz.execs, Pz.exec, Pz.ev, Pz.evT, Pz.ev2, Pz.evs, Pz.evl, Pz.evg, Pz.evi, Pz.evf, R.both_1, R.both_2, R.bind_ap, R.pure_ap, R.ofO_some, R.ofO_none, R.look_fz, R.look_bx, R.keep_fz, R.keep_bx, R.slot_fz, R.slot_bx, R.putV_fz, R.putV_bx, getV, setS, looks, tyD, asBool, asInt, asVw, asIntV, R.eqI, R.neI, R.ltI, R.leI, R.gtI, R.geI, R.eqB, R.neB, R.eqS, R.neS, R.isN, R.nisN, isNone, R.truthB, R.truthI, R.look_vw', R.callI1', R.callI2', frz, biV, mtKind, lenV, absV, R.intV_int, strV, tupleV, listV, strOf, Pz.ixD, R.at_0, R.at_1, R.opII, R.addI, R.subI, R.call1, R.call2, R.call3, R.call4, R.ret0_ok, R.ret0_ex, R.ret1_ok, Option.map_some, Option.map_none, Option.some_or, Option.none_or, List.getElem?_cons_zero, List.getElem?_cons_succ, List.getElem?_nil, List.set_cons_zero, List.set_cons_succ, List.length_cons, List.length_nil, List.length_append, List.length_set, List.map_cons, List.map_nil, List.cons_append, List.nil_append, ite_true, ite_false, if_true, if_false, Bool.not_true, Bool.not_false, endOf, outsOf, Nat.reduceAdd, Nat.reduceLT, Nat.reduceLeDiff, Nat.lt_add_left_iff_pos, Nat.zero_lt_succ, List.replicate, Nat.reduceSub, Nat.sub_self, reduceIte, reduceCtorEq, Bool.false_eq_true, decide_true, decide_false, ip, h1, w, h2, Bool.true_and]
      | true =>
        simp only [Pz.execs, Pz.exec, Pz.ev, Pz.evT, Pz.ev2, Pz.evs, Pz.evl, Pz.evg, Pz.evi, Pz.evf, R.both_1, R.both_2, R.bind_ap, R.pure_ap, R.ofO_some, R.ofO_none, R.look_fz, R.look_bx, R.keep_fz, R.keep_bx, R.slot_fz, R.slot_bx, R.putV_fz, R.putV_bx, getV, setS, looks, tyD, asBool, asInt, asVw, asIntV, R.eqI, R.neI, R.ltI, R.leI, R.gtI, R.geI, R.eqB, R.neB, R.eqS, R.neS, R.isN, R.nisN, isNone, R.truthB, R.truthI, R.look_vw', R.callI1', R.callI2', frz, biV, mtKind, lenV, absV, R.intV_int, strV, tupleV, listV, strOf, Pz.ixD, R.at_0, R.at_1, R.opII, R.addI, R.subI, R.call1, R.call2, R.call3, R.call4, R.ret0_ok, R.ret0_ex, R.ret1_ok, Option.map_some, Option.map_none, Option.some_or, Option.none_or, List.getElem?_cons_zero, List.getElem?_cons_succ, List.getElem?_nil, List.set_cons_zero, List.set_cons_succ, List.length_cons, List.length_nil, List.length_append, List.length_set, List.map_cons, List.map_nil, List.cons_append, List.nil_append, ite_true, ite_false, if_true, if_false, Bool.not_true, Bool.not_false, endOf, outsOf, Nat.reduceAdd, Nat.reduceLT, Nat.reduceLeDiff, Nat.lt_add_left_iff_pos, Nat.zero_lt_succ, List.replicate, Nat.reduceSub, Nat.sub_self, reduceIte, reduceCtorEq, Bool.false_eq_true, decide_true, decide_false, ip, h1, w, h2, Bool.true_and]
        rfl
  cases g1 : figB (noSign f) with
  | false =>
    rw [g1] at body
    cases hq : (L2.cutS f none (some 1) == Str.ofString "-") with
    | false =>
      have bd := body _ hq
      simp only [reduceIte, Bool.false_eq_true] at bd
      simp only [fd14, Pz.execs, Pz.exec, Pz.ev, Pz.evT, Pz.ev2, Pz.evs, Pz.evl, Pz.evg, Pz.evi, Pz.evf, R.both_1, R.both_2, R.bind_ap, R.pure_ap, R.ofO_some, R.ofO_none, R.look_fz, R.look_bx, R.keep_fz, R.keep_bx, R.slot_fz, R.slot_bx, R.putV_fz, R.putV_bx, getV, setS, looks, tyD, asBool, asInt, asVw, asIntV, R.eqI, R.neI, R.ltI, R.leI, R.gtI, R.geI, R.eqB, R.neB, R.eqS, R.neS, R.isN, R.nisN, isNone, R.truthB, R.truthI, R.look_vw', R.callI1', R.callI2', frz, biV, mtKind, lenV, absV, R.intV_int, strV, tupleV, listV, strOf, Pz.ixD, R.at_0, R.at_1, R.opII, R.addI, R.subI, R.call1, R.call2, R.call3, R.call4, R.ret0_ok, R.ret0_ex, R.ret1_ok, Option.map_some, Option.map_none, Option.some_or, Option.none_or, List.getElem?_cons_zero, List.getElem?_cons_succ, List.getElem?_nil, List.set_cons_zero, List.set_cons_succ, List.length_cons, List.length_nil, List.length_append, List.length_set, List.map_cons, List.map_nil, List.cons_append, List.nil_append, ite_true, ite_false, if_true, if_false, Bool.not_true, Bool.not_false, endOf, outsOf, Nat.reduceAdd, Nat.reduceLT, Nat.reduceLeDiff, Nat.lt_add_left_iff_pos, Nat.zero_lt_succ, List.replicate, Nat.reduceSub, Nat.sub_self, reduceIte, reduceCtorEq, Bool.false_eq_true, decide_true, decide_false, hp, putL, slH, slL, hq, bd, Bool.false_and]
    | true =>
      have bd := body _ hq
      simp only [reduceIte] at bd
      simp only [fd14, Pz.execs, Pz.exec, Pz.ev, Pz.evT, Pz.ev2, Pz.evs, Pz.evl, Pz.evg, Pz.evi, Pz.evf, R.both_1, R.both_2, R.bind_ap, R.pure_ap, R.ofO_some, R.ofO_none, R.look_fz, R.look_bx, R.keep_fz, R.keep_bx, R.slot_fz, R.slot_bx, R.putV_fz, R.putV_bx, getV, setS, looks, tyD, asBool, asInt, asVw, asIntV, R.eqI, R.neI, R.ltI, R.leI, R.gtI, R.geI, R.eqB, R.neB, R.eqS, R.neS, R.isN, R.nisN, isNone, R.truthB, R.truthI, R.look_vw', R.callI1', R.callI2', frz, biV, mtKind, lenV, absV, R.intV_int, strV, tupleV, listV, strOf, Pz.ixD, R.at_0, R.at_1, R.opII, R.addI, R.subI, R.call1, R.call2, R.call3, R.call4, R.ret0_ok, R.ret0_ex, R.ret1_ok, Option.map_some, Option.map_none, Option.some_or, Option.none_or, List.getElem?_cons_zero, List.getElem?_cons_succ, List.getElem?_nil, List.set_cons_zero, List.set_cons_succ, List.length_cons, List.length_nil, List.length_append, List.length_set, List.map_cons, List.map_nil, List.cons_append, List.nil_append, ite_true, ite_false, if_true, if_false, Bool.not_true, Bool.not_false, endOf, outsOf, Nat.reduceAdd, Nat.reduceLT, Nat.reduceLeDiff, Nat.lt_add_left_iff_pos, Nat.zero_lt_succ, List.replicate, Nat.reduceSub, Nat.sub_self, reduceIte, reduceCtorEq, Bool.false_eq_true, decide_true, decide_false, hp, putL, slH, slL, hq, bd, Bool.false_and]
  | true =>
    obtain ⟨i, i1, i2⟩ := iv f g1
    rw [g1] at body
    cases g2 : (b == slash) with
    | false =>
      have g2' : (b == Str.ofString "/") = false := g2
      simp only [i1, Bool.not_false, Bool.true_or, Bool.and_true, if_true]
      cases hq : (L2.cutS f none (some 1) == Str.ofString "-") with
      | false =>
        have bd := body _ hq
        simp only [reduceIte, Bool.false_eq_true] at bd
        refine Eq.trans ?_ (fin i 1 (.fz (.str f)) (.fz (.str b)) (.fz (.str s)) (.fz (.str v)) rfl)
        simp only [fd14, Pz.execs, Pz.exec, Pz.ev, Pz.evT, Pz.ev2, Pz.evs, Pz.evl, Pz.evg, Pz.evi, Pz.evf, R.both_1, R.both_2, R.bind_ap, R.pure_ap, R.ofO_some, R.ofO_none, R.look_fz, R.look_bx, R.keep_fz, R.keep_bx, R.slot_fz, R.slot_bx, R.putV_fz, R.putV_bx, getV, setS, looks, tyD, asBool, asInt, asVw, asIntV, R.eqI, R.neI, R.ltI, R.leI, R.gtI, R.geI, R.eqB, R.neB, R.eqS, R.neS, R.isN, R.nisN, isNone, R.truthB, R.truthI, R.look_vw', R.callI1', R.callI2', frz, biV, mtKind, lenV, absV, R.intV_int, strV, tupleV, listV, strOf, Pz.ixD, R.at_0, R.at_1, R.opII, R.addI, R.subI, R.call1, R.call2, R.call3, R.call4, R.ret0_ok, R.ret0_ex, R.ret1_ok, Option.map_some, Option.map_none, Option.some_or, Option.none_or, List.getElem?_cons_zero, List.getElem?_cons_succ, List.getElem?_nil, List.set_cons_zero, List.set_cons_succ, List.length_cons, List.length_nil, List.length_append, List.length_set, List.map_cons, List.map_nil, List.cons_append, List.nil_append, ite_true, ite_false, if_true, if_false, Bool.not_true, Bool.not_false, endOf, outsOf, Nat.reduceAdd, Nat.reduceLT, Nat.reduceLeDiff, Nat.lt_add_left_iff_pos, Nat.zero_lt_succ, List.replicate, Nat.reduceSub, Nat.sub_self, reduceIte, reduceCtorEq, Bool.false_eq_true, decide_true, decide_false, hp, putL, slH, slL, hq, bd, g2', i2]
      | true =>
        have bd := body _ hq
        simp only [reduceIte] at bd
        refine Eq.trans ?_ (fin i 1 (.fz (.str f)) (.fz (.str b)) (.fz (.str s)) (.fz (.str v)) rfl)
        simp only [fd14, Pz.execs, Pz.exec, Pz.ev, Pz.evT, Pz.ev2, Pz.evs, Pz.evl, Pz.evg, Pz.evi, Pz.evf, R.both_1, R.both_2, R.bind_ap, R.pure_ap, R.ofO_some, R.ofO_none, R.look_fz, R.look_bx, R.keep_fz, R.keep_bx, R.slot_fz, R.slot_bx, R.putV_fz, R.putV_bx, getV, setS, looks, tyD, asBool, asInt, asVw, asIntV, R.eqI, R.neI, R.ltI, R.leI, R.gtI, R.geI, R.eqB, R.neB, R.eqS, R.neS, R.isN, R.nisN, isNone, R.truthB, R.truthI, R.look_vw', R.callI1', R.callI2', frz, biV, mtKind, lenV, absV, R.intV_int, strV, tupleV, listV, strOf, Pz.ixD, R.at_0, R.at_1, R.opII, R.addI, R.subI, R.call1, R.call2, R.call3, R.call4, R.ret0_ok, R.ret0_ex, R.ret1_ok, Option.map_some, Option.map_none, Option.some_or, Option.none_or, List.getElem?_cons_zero, List.getElem?_cons_succ, List.getElem?_nil, List.set_cons_zero, List.set_cons_succ, List.length_cons, List.length_nil, List.length_append, List.length_set, List.map_cons, List.map_nil, List.cons_append, List.nil_append, ite_true, ite_false, if_true, if_false, Bool.not_true, Bool.not_false, endOf, outsOf, Nat.reduceAdd, Nat.reduceLT, Nat.reduceLeDiff, Nat.lt_add_left_iff_pos, Nat.zero_lt_succ, List.replicate, Nat.reduceSub, Nat.sub_self, reduceIte, reduceCtorEq, Bool.false_eq_true, decide_true, decide_false, hp, putL, slH, slL, hq, bd, g2', i2]
    | true =>
      have g2' : (b == Str.ofString "/") = true := g2
      cases g3 : figB s with
      | false =>
        rw [g3] at fs
        cases hq : (L2.cutS f none (some 1) == Str.ofString "-") with
        | false =>
          have bd := body _ hq
          simp only [reduceIte, Bool.false_eq_true] at bd
          simp only [fd14, Pz.execs, Pz.exec, Pz.ev, Pz.evT, Pz.ev2, Pz.evs, Pz.evl, Pz.evg, Pz.evi, Pz.evf, R.both_1, R.both_2, R.bind_ap, R.pure_ap, R.ofO_some, R.ofO_none, R.look_fz, R.look_bx, R.keep_fz, R.keep_bx, R.slot_fz, R.slot_bx, R.putV_fz, R.putV_bx, getV, setS, looks, tyD, asBool, asInt, asVw, asIntV, R.eqI, R.neI, R.ltI, R.leI, R.gtI, R.geI, R.eqB, R.neB, R.eqS, R.neS, R.isN, R.nisN, isNone, R.truthB, R.truthI, R.look_vw', R.callI1', R.callI2', frz, biV, mtKind, lenV, absV, R.intV_int, strV, tupleV, listV, strOf, Pz.ixD, R.at_0, R.at_1, R.opII, R.addI, R.subI, R.call1, R.call2, R.call3, R.call4, R.ret0_ok, R.ret0_ex, R.ret1_ok, Option.map_some, Option.map_none, Option.some_or, Option.none_or, List.getElem?_cons_zero, List.getElem?_cons_succ, List.getElem?_nil, List.set_cons_zero, List.set_cons_succ, List.length_cons, List.length_nil, List.length_append, List.length_set, List.map_cons, List.map_nil, List.cons_append, List.nil_append, ite_true, ite_false, if_true, if_false, Bool.not_true, Bool.not_false, endOf, outsOf, Nat.reduceAdd, Nat.reduceLT, Nat.reduceLeDiff, Nat.lt_add_left_iff_pos, Nat.zero_lt_succ, List.replicate, Nat.reduceSub, Nat.sub_self, reduceIte, reduceCtorEq, Bool.false_eq_true, decide_true, decide_false, hp, putL, slH, slL, hq, bd, g2', fs, Bool.and_false]
          rfl
        | true =>
          have bd := body _ hq
          simp only [reduceIte] at bd
          simp only [fd14, Pz.execs, Pz.exec, Pz.ev, Pz.evT, Pz.ev2, Pz.evs, Pz.evl, Pz.evg, Pz.evi, Pz.evf, R.both_1, R.both_2, R.bind_ap, R.pure_ap, R.ofO_some, R.ofO_none, R.look_fz, R.look_bx, R.keep_fz, R.keep_bx, R.slot_fz, R.slot_bx, R.putV_fz, R.putV_bx, getV, setS, looks, tyD, asBool, asInt, asVw, asIntV, R.eqI, R.neI, R.ltI, R.leI, R.gtI, R.geI, R.eqB, R.neB, R.eqS, R.neS, R.isN, R.nisN, isNone, R.truthB, R.truthI, R.look_vw', R.callI1', R.callI2', frz, biV, mtKind, lenV, absV, R.intV_int, strV, tupleV, listV, strOf, Pz.ixD, R.at_0, R.at_1, R.opII, R.addI, R.subI, R.call1, R.call2, R.call3, R.call4, R.ret0_ok, R.ret0_ex, R.ret1_ok, Option.map_some, Option.map_none, Option.some_or, Option.none_or, List.getElem?_cons_zero, List.getElem?_cons_succ, List.getElem?_nil, List.set_cons_zero, List.set_cons_succ, List.length_cons, List.length_nil, List.length_append, List.length_set, List.map_cons, List.map_nil, List.cons_append, List.nil_append, ite_true, ite_false, if_true, if_false, Bool.not_true, Bool.not_false, endOf, outsOf, Nat.reduceAdd, Nat.reduceLT, Nat.reduceLeDiff, Nat.lt_add_left_iff_pos, Nat.zero_lt_succ, List.replicate, Nat.reduceSub, Nat.sub_self, reduceIte, reduceCtorEq, Bool.false_eq_true, decide_true, decide_false, hp, putL, slH, slL, hq, bd, g2', fs, Bool.and_false]
          rfl
      | true =>
        obtain ⟨j, j1, j2⟩ := iv2 s g3
        rw [g3] at fs
        simp only [i1, j1, Bool.not_true, Bool.or_true, Bool.and_true, if_true]
        cases hq : (L2.cutS f none (some 1) == Str.ofString "-") with
        | false =>
          have bd := body _ hq
          simp only [reduceIte, Bool.false_eq_true] at bd
          refine Eq.trans ?_ (fin i j (.fz (.str f)) (.fz (.str b)) (.fz (.str s)) (.fz (.str v)) rfl)
          simp only [fd14, Pz.execs, Pz.exec, Pz.ev, Pz.evT, Pz.ev2, Pz.evs, Pz.evl, Pz.evg, Pz.evi, Pz.evf, R.both_1, R.both_2, R.bind_ap, R.pure_ap, R.ofO_some, R.ofO_none, R.look_fz, R.look_bx, R.keep_fz, R.keep_bx, R.slot_fz, R.slot_bx, R.putV_fz, R.putV_bx, getV, setS, looks, tyD, asBool, asInt, asVw, asIntV, R.eqI, R.neI, R.ltI, R.leI, R.gtI, R.geI, R.eqB, R.neB, R.eqS, R.neS, R.isN, R.nisN, isNone, R.truthB, R.truthI, R.look_vw', R.callI1', R.callI2', frz, biV, mtKind, lenV, absV, R.intV_int, strV, tupleV, listV, strOf, Pz.ixD, R.at_0, R.at_1, R.opII, R.addI, R.subI, R.call1, R.call2, R.call3, R.call4, R.ret0_ok, R.ret0_ex, R.ret1_ok, Option.map_some, Option.map_none, Option.some_or, Option.none_or, List.getElem?_cons_zero, List.getElem?_cons_succ, List.getElem?_nil, List.set_cons_zero, List.set_cons_succ, List.length_cons, List.length_nil, List.length_append, List.length_set, List.map_cons, List.map_nil, List.cons_append, List.nil_append, ite_true, ite_false, if_true, if_false, Bool.not_true, Bool.not_false, endOf, outsOf, Nat.reduceAdd, Nat.reduceLT, Nat.reduceLeDiff, Nat.lt_add_left_iff_pos, Nat.zero_lt_succ, List.replicate, Nat.reduceSub, Nat.sub_self, reduceIte, reduceCtorEq, Bool.false_eq_true, decide_true, decide_false, hp, putL, slH, slL, hq, bd, g2', fs, i2, j2]
        | true =>
          have bd := body _ hq
          simp only [reduceIte] at bd
          refine Eq.trans ?_ (fin i j (.fz (.str f)) (.fz (.str b)) (.fz (.str s)) (.fz (.str v)) rfl)
          simp only [fd14, Pz.execs, Pz.exec, Pz.ev, Pz.evT, Pz.ev2, Pz.evs, Pz.evl, Pz.evg, Pz.evi, Pz.evf, R.both_1, R.both_2, R.bind_ap, R.pure_ap, R.ofO_some, R.ofO_none, R.look_fz, R.look_bx, R.keep_fz, R.keep_bx, R.slot_fz, R.slot_bx, R.putV_fz, R.putV_bx, getV, setS, looks, tyD, asBool, asInt, asVw, asIntV, R.eqI, R.neI, R.ltI, R.leI, R.gtI, R.geI, R.eqB, R.neB, R.eqS, R.neS, R.isN, R.nisN, isNone, R.truthB, R.truthI, R.look_vw', R.callI1', R.callI2', frz, biV, mtKind, lenV, absV, R.intV_int, strV, tupleV, listV, strOf, Pz.ixD, R.at_0, R.at_1, R.opII, R.addI, R.subI, R.call1, R.call2, R.call3, R.call4, R.ret0_ok, R.ret0_ex, R.ret1_ok, Option.map_some, Option.map_none, Option.some_or, Option.none_or, List.getElem?_cons_zero, List.getElem?_cons_succ, List.getElem?_nil, List.set_cons_zero, List.set_cons_succ, List.length_cons, List.length_nil, List.length_append, List.length_set, List.map_cons, List.map_nil, List.cons_append, List.nil_append, ite_true, ite_false, if_true, if_false, Bool.not_true, Bool.not_false, endOf, outsOf, Nat.reduceAdd, Nat.reduceLT, Nat.reduceLeDiff, Nat.lt_add_left_iff_pos, Nat.zero_lt_succ, List.replicate, Nat.reduceSub, Nat.sub_self, reduceIte, reduceCtorEq, Bool.false_eq_true, decide_true, decide_false, hp, putL, slH, slL, hq, bd, g2', fs, i2, j2]
end K04

namespace K04
open Pz Pz.R
open PySem hiding execs exec
theorem law_part_ok (n : Nat) (a b : Int) (ha : Sm a) (hb : Sm b) (h0 : b ≠ 0) : C (n + 1) 20 [.fz (.int a), .fz (.int b)] = .ok (.fz (pr (pt a b))) [] := by
  rw [C_succ (fd := fd20) rfl ⟨rfl, rfl, rfl⟩]
  have e1 : exec (G n) (.par2 [] 2 3 (.bi .abs (.cons (.v 0) .nil)) (.bi .abs (.cons (.v 1) .nil))) [.fz (.int a), .fz (.int b), .un, .un, .un] = .ok .nx [.fz (.int a), .fz (.int b), .fz (.int a.natAbs), .fz (.int b.natAbs), .un] := by
    simp only [Pz.execs, Pz.exec, Pz.ev, Pz.evT, Pz.ev2, Pz.evs, Pz.evl, Pz.evg, Pz.evi, Pz.evf, R.both_1, R.both_2, R.bind_ap, R.pure_ap, R.ofO_some, R.ofO_none, R.look_fz, R.look_bx, R.keep_fz, R.keep_bx, R.slot_fz, R.slot_bx, R.putV_fz, R.putV_bx, getV, setS, looks, tyD, asBool, asInt, asVw, asIntV, R.eqI, R.neI, R.ltI, R.leI, R.gtI, R.geI, R.eqB, R.neB, R.eqS, R.neS, R.isN, R.nisN, isNone, R.truthB, R.truthI, R.look_vw', R.callI1', R.callI2', frz, biV, mtKind, lenV, absV, R.intV_int, strV, tupleV, listV, strOf, Pz.ixD, R.at_0, R.at_1, R.opII, R.addI, R.subI, R.call1, R.call2, R.call3, R.call4, R.ret0_ok, R.ret0_ex, R.ret1_ok, Option.map_some, Option.map_none, Option.some_or, Option.none_or, List.getElem?_cons_zero, List.getElem?_cons_succ, List.getElem?_nil, List.set_cons_zero, List.set_cons_succ, List.length_cons, List.length_nil, List.length_append, List.length_set, List.map_cons, List.map_nil, List.cons_append, List.nil_append, ite_true, ite_false, if_true, if_false, Bool.not_true, Bool.not_false, endOf, outsOf, Nat.reduceAdd, Nat.reduceLT, Nat.reduceLeDiff, Nat.lt_add_left_iff_pos, Nat.zero_lt_succ, List.replicate, Nat.reduceSub, Nat.sub_self, reduceIte, reduceCtorEq, Bool.false_eq_true, decide_true, decide_false, abs_ite]
  have e2 : exec (G n) (.whl [] euT euB) [.fz (.int a), .fz (.int b), .fz (.int a.natAbs), .fz (.int b.natAbs), .un] = .ok .nx [.fz (.int a), .fz (.int b), .fz (.int (gz a b)), .fz (.int 0), .un] := by
    rw [ex_whl (ρ1 := [.fz (.int a), .fz (.int b), .fz (.int a.natAbs), .fz (.int b.natAbs), .un]) rfl]
    have := eu_run n a b .un 700 2000 (a.natAbs : Int) (b.natAbs : Int) (by omega) (by omega) (by
      have h1 : b.natAbs < 2 ^ 700 := Nat.lt_trans hb (by decide)
      have h2 : ((2 : Int) ^ 700) = (((2 ^ 700 : Nat)) : Int) := by decide +kernel
      rw [h2]
      omega) (by decide)
    rw [Int.natAbs_natCast, Int.natAbs_natCast] at this
    exact this
  show endOf [] (execs (G n) (.cons _ (.cons (.whl [] euT euB) _)) [.fz (.int a), .fz (.int b), .un, .un, .un]) = _
  rw [ex_nx e1, ex_nx e2]
  have hp := gz_pos (a := a) h0
  have ne : gz a b ≠ 0 := by omega
  have hl := sm_log (gz_sm (a := a) h0 hb)
  have sm1 : Sm 1 := by unfold Sm; decide
  have smn : Sm (-1) := by unfold Sm; decide
  unfold pt sg
  by_cases l : b < 0
  · simp only [Pz.execs, Pz.exec, Pz.ev, Pz.evT, Pz.ev2, Pz.evs, Pz.evl, Pz.evg, Pz.evi, Pz.evf, R.both_1, R.both_2, R.bind_ap, R.pure_ap, R.ofO_some, R.ofO_none, R.look_fz, R.look_bx, R.keep_fz, R.keep_bx, R.slot_fz, R.slot_bx, R.putV_fz, R.putV_bx, getV, setS, looks, tyD, asBool, asInt, asVw, asIntV, R.eqI, R.neI, R.ltI, R.leI, R.gtI, R.geI, R.eqB, R.neB, R.eqS, R.neS, R.isN, R.nisN, isNone, R.truthB, R.truthI, R.look_vw', R.callI1', R.callI2', frz, biV, mtKind, lenV, absV, R.intV_int, strV, tupleV, listV, strOf, Pz.ixD, R.at_0, R.at_1, R.opII, R.addI, R.subI, R.call1, R.call2, R.call3, R.call4, R.ret0_ok, R.ret0_ex, R.ret1_ok, Option.map_some, Option.map_none, Option.some_or, Option.none_or, List.getElem?_cons_zero, List.getElem?_cons_succ, List.getElem?_nil, List.set_cons_zero, List.set_cons_succ, List.length_cons, List.length_nil, List.length_append, List.length_set, List.map_cons, List.map_nil, List.cons_append, List.nil_append, ite_true, ite_false, if_true, if_false, Bool.not_true, Bool.not_false, endOf, outsOf, Nat.reduceAdd, Nat.reduceLT, Nat.reduceLeDiff, Nat.lt_add_left_iff_pos, Nat.zero_lt_succ, List.replicate, Nat.reduceSub, Nat.sub_self, reduceIte, reduceCtorEq, Bool.false_eq_true, decide_true, decide_false, l, mulI smn ha, mulI smn hb, fdI ne hl]
    rfl
  · simp only [Pz.execs, Pz.exec, Pz.ev, Pz.evT, Pz.ev2, Pz.evs, Pz.evl, Pz.evg, Pz.evi, Pz.evf, R.both_1, R.both_2, R.bind_ap, R.pure_ap, R.ofO_some, R.ofO_none, R.look_fz, R.look_bx, R.keep_fz, R.keep_bx, R.slot_fz, R.slot_bx, R.putV_fz, R.putV_bx, getV, setS, looks, tyD, asBool, asInt, asVw, asIntV, R.eqI, R.neI, R.ltI, R.leI, R.gtI, R.geI, R.eqB, R.neB, R.eqS, R.neS, R.isN, R.nisN, isNone, R.truthB, R.truthI, R.look_vw', R.callI1', R.callI2', frz, biV, mtKind, lenV, absV, R.intV_int, strV, tupleV, listV, strOf, Pz.ixD, R.at_0, R.at_1, R.opII, R.addI, R.subI, R.call1, R.call2, R.call3, R.call4, R.ret0_ok, R.ret0_ex, R.ret1_ok, Option.map_some, Option.map_none, Option.some_or, Option.none_or, List.getElem?_cons_zero, List.getElem?_cons_succ, List.getElem?_nil, List.set_cons_zero, List.set_cons_succ, List.length_cons, List.length_nil, List.length_append, List.length_set, List.map_cons, List.map_nil, List.cons_append, List.nil_append, ite_true, ite_false, if_true, if_false, Bool.not_true, Bool.not_false, endOf, outsOf, Nat.reduceAdd, Nat.reduceLT, Nat.reduceLeDiff, Nat.lt_add_left_iff_pos, Nat.zero_lt_succ, List.replicate, Nat.reduceSub, Nat.sub_self, reduceIte, reduceCtorEq, Bool.false_eq_true, decide_true, decide_false, l, mulI sm1 ha, mulI sm1 hb, fdI ne hl]
    rfl
section
variable (n : Nat) (p q : Int × Int) (hp : Bd p) (hq : Bd q)
include hp hq
theorem law_plus_ok (h : p.2 * q.2 ≠ 0) : C (n + 2) 21 [.fz (pr p), .fz (pr q)] = .ok (.fz (pr (pt (p.1 * q.2 + q.1 * p.2) (p.2 * q.2)))) [] := by
  rw [C_succ (fd := fd21) rfl ⟨rfl, rfl, rfl⟩]
  have s1 := sm_bd hp.1
  have s2 := sm_bd hp.2
  have s3 := sm_bd hq.1
  have s4 := sm_bd hq.2
  simp only [fd21, pr, Pz.execs, Pz.exec, Pz.ev, Pz.evT, Pz.ev2, Pz.evs, Pz.evl, Pz.evg, Pz.evi, Pz.evf, R.both_1, R.both_2, R.bind_ap, R.pure_ap, R.ofO_some, R.ofO_none, R.look_fz, R.look_bx, R.keep_fz, R.keep_bx, R.slot_fz, R.slot_bx, R.putV_fz, R.putV_bx, getV, setS, looks, tyD, asBool, asInt, asVw, asIntV, R.eqI, R.neI, R.ltI, R.leI, R.gtI, R.geI, R.eqB, R.neB, R.eqS, R.neS, R.isN, R.nisN, isNone, R.truthB, R.truthI, R.look_vw', R.callI1', R.callI2', frz, biV, mtKind, lenV, absV, R.intV_int, strV, tupleV, listV, strOf, Pz.ixD, R.at_0, R.at_1, R.opII, R.addI, R.subI, R.call1, R.call2, R.call3, R.call4, R.ret0_ok, R.ret0_ex, R.ret1_ok, Option.map_some, Option.map_none, Option.some_or, Option.none_or, List.getElem?_cons_zero, List.getElem?_cons_succ, List.getElem?_nil, List.set_cons_zero, List.set_cons_succ, List.length_cons, List.length_nil, List.length_append, List.length_set, List.map_cons, List.map_nil, List.cons_append, List.nil_append, ite_true, ite_false, if_true, if_false, Bool.not_true, Bool.not_false, endOf, outsOf, Nat.reduceAdd, Nat.reduceLT, Nat.reduceLeDiff, Nat.lt_add_left_iff_pos, Nat.zero_lt_succ, List.replicate, Nat.reduceSub, Nat.sub_self, reduceIte, reduceCtorEq, Bool.false_eq_true, decide_true, decide_false, mulI s1 s4, mulI s3 s2, mulI s2 s4, law_part_ok n _ _ (sm_add hp.1 hq.2 hq.1 hp.2) (sm_mul hp.2 hq.2) h]
theorem law_minus_ok (h : p.2 * q.2 ≠ 0) : C (n + 2) 22 [.fz (pr p), .fz (pr q)] = .ok (.fz (pr (pt (p.1 * q.2 - q.1 * p.2) (p.2 * q.2)))) [] := by
  rw [C_succ (fd := fd22) rfl ⟨rfl, rfl, rfl⟩]
  have s1 := sm_bd hp.1
  have s2 := sm_bd hp.2
  have s3 := sm_bd hq.1
  have s4 := sm_bd hq.2
  simp only [fd22, pr, Pz.execs, Pz.exec, Pz.ev, Pz.evT, Pz.ev2, Pz.evs, Pz.evl, Pz.evg, Pz.evi, Pz.evf, R.both_1, R.both_2, R.bind_ap, R.pure_ap, R.ofO_some, R.ofO_none, R.look_fz, R.look_bx, R.keep_fz, R.keep_bx, R.slot_fz, R.slot_bx, R.putV_fz, R.putV_bx, getV, setS, looks, tyD, asBool, asInt, asVw, asIntV, R.eqI, R.neI, R.ltI, R.leI, R.gtI, R.geI, R.eqB, R.neB, R.eqS, R.neS, R.isN, R.nisN, isNone, R.truthB, R.truthI, R.look_vw', R.callI1', R.callI2', frz, biV, mtKind, lenV, absV, R.intV_int, strV, tupleV, listV, strOf, Pz.ixD, R.at_0, R.at_1, R.opII, R.addI, R.subI, R.call1, R.call2, R.call3, R.call4, R.ret0_ok, R.ret0_ex, R.ret1_ok, Option.map_some, Option.map_none, Option.some_or, Option.none_or, List.getElem?_cons_zero, List.getElem?_cons_succ, List.getElem?_nil, List.set_cons_zero, List.set_cons_succ, List.length_cons, List.length_nil, List.length_append, List.length_set, List.map_cons, List.map_nil, List.cons_append, List.nil_append, ite_true, ite_false, if_true, if_false, Bool.not_true, Bool.not_false, endOf, outsOf, Nat.reduceAdd, Nat.reduceLT, Nat.reduceLeDiff, Nat.lt_add_left_iff_pos, Nat.zero_lt_succ, List.replicate, Nat.reduceSub, Nat.sub_self, reduceIte, reduceCtorEq, Bool.false_eq_true, decide_true, decide_false, mulI s1 s4, mulI s3 s2, mulI s2 s4, law_part_ok n _ _ (sm_sub hp.1 hq.2 hq.1 hp.2) (sm_mul hp.2 hq.2) h]
theorem law_times_ok (h : p.2 * q.2 ≠ 0) : C (n + 2) 23 [.fz (pr p), .fz (pr q)] = .ok (.fz (pr (pt (p.1 * q.1) (p.2 * q.2)))) [] := by
  rw [C_succ (fd := fd23) rfl ⟨rfl, rfl, rfl⟩]
  have s1 := sm_bd hp.1
  have s2 := sm_bd hp.2
  have s3 := sm_bd hq.1
  have s4 := sm_bd hq.2
  simp only [fd23, pr, Pz.execs, Pz.exec, Pz.ev, Pz.evT, Pz.ev2, Pz.evs, Pz.evl, Pz.evg, Pz.evi, Pz.evf, R.both_1, R.both_2, R.bind_ap, R.pure_ap, R.ofO_some, R.ofO_none, R.look_fz, R.look_bx, R.keep_fz, R.keep_bx, R.slot_fz, R.slot_bx, R.putV_fz, R.putV_bx, getV, setS, looks, tyD, asBool, asInt, asVw, asIntV, R.eqI, R.neI, R.ltI, R.leI, R.gtI, R.geI, R.eqB, R.neB, R.eqS, R.neS, R.isN, R.nisN, isNone, R.truthB, R.truthI, R.look_vw', R.callI1', R.callI2', frz, biV, mtKind, lenV, absV, R.intV_int, strV, tupleV, listV, strOf, Pz.ixD, R.at_0, R.at_1, R.opII, R.addI, R.subI, R.call1, R.call2, R.call3, R.call4, R.ret0_ok, R.ret0_ex, R.ret1_ok, Option.map_some, Option.map_none, Option.some_or, Option.none_or, List.getElem?_cons_zero, List.getElem?_cons_succ, List.getElem?_nil, List.set_cons_zero, List.set_cons_succ, List.length_cons, List.length_nil, List.length_append, List.length_set, List.map_cons, List.map_nil, List.cons_append, List.nil_append, ite_true, ite_false, if_true, if_false, Bool.not_true, Bool.not_false, endOf, outsOf, Nat.reduceAdd, Nat.reduceLT, Nat.reduceLeDiff, Nat.lt_add_left_iff_pos, Nat.zero_lt_succ, List.replicate, Nat.reduceSub, Nat.sub_self, reduceIte, reduceCtorEq, Bool.false_eq_true, decide_true, decide_false, mulI s1 s3, mulI s2 s4, law_part_ok n _ _ (sm_mul hp.1 hq.1) (sm_mul hp.2 hq.2) h]
theorem law_over_ok (h : p.2 * q.1 ≠ 0) : C (n + 2) 24 [.fz (pr p), .fz (pr q)] = .ok (.fz (pr (pt (p.1 * q.2) (p.2 * q.1)))) [] := by
  rw [C_succ (fd := fd24) rfl ⟨rfl, rfl, rfl⟩]
  have s1 := sm_bd hp.1
  have s2 := sm_bd hp.2
  have s3 := sm_bd hq.1
  have s4 := sm_bd hq.2
  simp only [fd24, pr, Pz.execs, Pz.exec, Pz.ev, Pz.evT, Pz.ev2, Pz.evs, Pz.evl, Pz.evg, Pz.evi, Pz.evf, R.both_1, R.both_2, R.bind_ap, R.pure_ap, R.ofO_some, R.ofO_none, R.look_fz, R.look_bx, R.keep_fz, R.keep_bx, R.slot_fz, R.slot_bx, R.putV_fz, R.putV_bx, getV, setS, looks, tyD, asBool, asInt, asVw, asIntV, R.eqI, R.neI, R.ltI, R.leI, R.gtI, R.geI, R.eqB, R.neB, R.eqS, R.neS, R.isN, R.nisN, isNone, R.truthB, R.truthI, R.look_vw', R.callI1', R.callI2', frz, biV, mtKind, lenV, absV, R.intV_int, strV, tupleV, listV, strOf, Pz.ixD, R.at_0, R.at_1, R.opII, R.addI, R.subI, R.call1, R.call2, R.call3, R.call4, R.ret0_ok, R.ret0_ex, R.ret1_ok, Option.map_some, Option.map_none, Option.some_or, Option.none_or, List.getElem?_cons_zero, List.getElem?_cons_succ, List.getElem?_nil, List.set_cons_zero, List.set_cons_succ, List.length_cons, List.length_nil, List.length_append, List.length_set, List.map_cons, List.map_nil, List.cons_append, List.nil_append, ite_true, ite_false, if_true, if_false, Bool.not_true, Bool.not_false, endOf, outsOf, Nat.reduceAdd, Nat.reduceLT, Nat.reduceLeDiff, Nat.lt_add_left_iff_pos, Nat.zero_lt_succ, List.replicate, Nat.reduceSub, Nat.sub_self, reduceIte, reduceCtorEq, Bool.false_eq_true, decide_true, decide_false, mulI s1 s4, mulI s2 s3, law_part_ok n _ _ (sm_mul hp.1 hq.2) (sm_mul hp.2 hq.1) h]
end
/-- what is due of a sum, a difference, a product, a quotient -/
def dueU (which : Nat) (p q : Int × Int) : Int × Int := match which with
  | 0 => pt (p.1 * q.2 + q.1 * p.2) (p.2 * q.2)
  | 1 => pt (p.1 * q.2 - q.1 * p.2) (p.2 * q.2)
  | 2 => pt (p.1 * q.1) (p.2 * q.2)
  | _ => pt (p.1 * q.2) (p.2 * q.1)
def dueD (which : Nat) (p q : Int × Int) : D :=
  if which = 3 ∧ q.1 = 0 then .str (Str.ofString "none") else if Bd (dueU which p q) then pr (dueU which p q) else .str (Str.ofString "much")
theorem dueD_kind (w : Nat) (p q : Int × Int) : (∃ r, dueD w p q = pr r) ∨ ∃ x, dueD w p q = .str x := by
  unfold dueD
  split
  · exact .inr ⟨_, rfl⟩
  · split
    · exact .inl ⟨_, rfl⟩
    · exact .inr ⟨_, rfl⟩
theorem pow60 : opI .pow 10 60 = some (10 ^ 60) := by decide +kernel
theorem absle (x : Int) : decide (((x.natAbs : Nat) : Int) ≤ (10 : Int) ^ 60) = decide (x.natAbs ≤ 10 ^ 60) := by
  rw [p60]
  exact le_beq _ _
theorem due_end (n : Nat) (u : Int × Int) (hu : 0 < u.2) (a b c : Slot) : endOf [] (execs (G n) (.cons (.ret [3] (.ie (.an (.cmp .le (.bi .abs (.cons (.ix (.v 3) (.c (.int (0)))) .nil)) (.bin .pow (.c (.int (10))) (.c (.int (60))))) (.cmp .le (.ix (.v 3) (.c (.int (1)))) (.bin .pow (.c (.int (10))) (.c (.int (60)))))) (.v 3) (.c (.str (Str.ofString "much"))))) .nil) [a, b, c, .fz (pr u)])
    = .ok (.fz (if Bd u then pr u else .str (Str.ofString "much"))) [] := by
  have e2 : decide (u.2 ≤ (10 : Int) ^ 60) = decide (u.2.natAbs ≤ 10 ^ 60) := by
    rw [← absle]
    congr 2
    omega
  by_cases h1 : u.1.natAbs ≤ 10 ^ 60
  · by_cases h2 : u.2.natAbs ≤ 10 ^ 60
    · rw [if_pos (show Bd u from ⟨h1, h2⟩)]
      simp only [pr, Pz.execs, Pz.exec, Pz.ev, Pz.evT, Pz.ev2, Pz.evs, Pz.evl, Pz.evg, Pz.evi, Pz.evf, R.both_1, R.both_2, R.bind_ap, R.pure_ap, R.ofO_some, R.ofO_none, R.look_fz, R.look_bx, R.keep_fz, R.keep_bx, R.slot_fz, R.slot_bx, R.putV_fz, R.putV_bx, getV, setS, looks, tyD, asBool, asInt, asVw, asIntV, R.eqI, R.neI, R.ltI, R.leI, R.gtI, R.geI, R.eqB, R.neB, R.eqS, R.neS, R.isN, R.nisN, isNone, R.truthB, R.truthI, R.look_vw', R.callI1', R.callI2', frz, biV, mtKind, lenV, absV, R.intV_int, strV, tupleV, listV, strOf, Pz.ixD, R.at_0, R.at_1, R.opII, R.addI, R.subI, R.call1, R.call2, R.call3, R.call4, R.ret0_ok, R.ret0_ex, R.ret1_ok, Option.map_some, Option.map_none, Option.some_or, Option.none_or, List.getElem?_cons_zero, List.getElem?_cons_succ, List.getElem?_nil, List.set_cons_zero, List.set_cons_succ, List.length_cons, List.length_nil, List.length_append, List.length_set, List.map_cons, List.map_nil, List.cons_append, List.nil_append, ite_true, ite_false, if_true, if_false, Bool.not_true, Bool.not_false, endOf, outsOf, Nat.reduceAdd, Nat.reduceLT, Nat.reduceLeDiff, Nat.lt_add_left_iff_pos, Nat.zero_lt_succ, List.replicate, Nat.reduceSub, Nat.sub_self, reduceIte, reduceCtorEq, Bool.false_eq_true, decide_true, decide_false, abs_ite, pow60, absle, e2, h1, h2]
    · rw [if_neg fun z : Bd u => h2 z.2]
      simp only [pr, Pz.execs, Pz.exec, Pz.ev, Pz.evT, Pz.ev2, Pz.evs, Pz.evl, Pz.evg, Pz.evi, Pz.evf, R.both_1, R.both_2, R.bind_ap, R.pure_ap, R.ofO_some, R.ofO_none, R.look_fz, R.look_bx, R.keep_fz, R.keep_bx, R.slot_fz, R.slot_bx, R.putV_fz, R.putV_bx, getV, setS, looks, tyD, asBool, asInt, asVw, asIntV, R.eqI, R.neI, R.ltI, R.leI, R.gtI, R.geI, R.eqB, R.neB, R.eqS, R.neS, R.isN, R.nisN, isNone, R.truthB, R.truthI, R.look_vw', R.callI1', R.callI2', frz, biV, mtKind, lenV, absV, R.intV_int, strV, tupleV, listV, strOf, Pz.ixD, R.at_0, R.at_1, R.opII, R.addI, R.subI, R.call1, R.call2, R.call3, R.call4, R.ret0_ok, R.ret0_ex, R.ret1_ok, Option.map_some, Option.map_none, Option.some_or, Option.none_or, List.getElem?_cons_zero, List.getElem?_cons_succ, List.getElem?_nil, List.set_cons_zero, List.set_cons_succ, List.length_cons, List.length_nil, List.length_append, List.length_set, List.map_cons, List.map_nil, List.cons_append, List.nil_append, ite_true, ite_false, if_true, if_false, Bool.not_true, Bool.not_false, endOf, outsOf, Nat.reduceAdd, Nat.reduceLT, Nat.reduceLeDiff, Nat.lt_add_left_iff_pos, Nat.zero_lt_succ, List.replicate, Nat.reduceSub, Nat.sub_self, reduceIte, reduceCtorEq, Bool.false_eq_true, decide_true, decide_false, abs_ite, pow60, absle, e2, h1, h2]
  · rw [if_neg fun z : Bd u => h1 z.1]
    simp only [pr, Pz.execs, Pz.exec, Pz.ev, Pz.evT, Pz.ev2, Pz.evs, Pz.evl, Pz.evg, Pz.evi, Pz.evf, R.both_1, R.both_2, R.bind_ap, R.pure_ap, R.ofO_some, R.ofO_none, R.look_fz, R.look_bx, R.keep_fz, R.keep_bx, R.slot_fz, R.slot_bx, R.putV_fz, R.putV_bx, getV, setS, looks, tyD, asBool, asInt, asVw, asIntV, R.eqI, R.neI, R.ltI, R.leI, R.gtI, R.geI, R.eqB, R.neB, R.eqS, R.neS, R.isN, R.nisN, isNone, R.truthB, R.truthI, R.look_vw', R.callI1', R.callI2', frz, biV, mtKind, lenV, absV, R.intV_int, strV, tupleV, listV, strOf, Pz.ixD, R.at_0, R.at_1, R.opII, R.addI, R.subI, R.call1, R.call2, R.call3, R.call4, R.ret0_ok, R.ret0_ex, R.ret1_ok, Option.map_some, Option.map_none, Option.some_or, Option.none_or, List.getElem?_cons_zero, List.getElem?_cons_succ, List.getElem?_nil, List.set_cons_zero, List.set_cons_succ, List.length_cons, List.length_nil, List.length_append, List.length_set, List.map_cons, List.map_nil, List.cons_append, List.nil_append, ite_true, ite_false, if_true, if_false, Bool.not_true, Bool.not_false, endOf, outsOf, Nat.reduceAdd, Nat.reduceLT, Nat.reduceLeDiff, Nat.lt_add_left_iff_pos, Nat.zero_lt_succ, List.replicate, Nat.reduceSub, Nat.sub_self, reduceIte, reduceCtorEq, Bool.false_eq_true, decide_true, decide_false, abs_ite, pow60, absle, h1]
theorem law_due_ok (n : Nat) (which : Nat) (hw : which < 4) (p q : Int × Int) (hp : Bd p) (hq : Bd q) (lp : 0 < p.2) (lq : 0 < q.2) : C (n + 3) 29 [.fz (.int which), .fz (pr p), .fz (pr q)] = .ok (.fz (dueD which p q)) [] := by
  rw [C_succ (fd := fd29) rfl ⟨rfl, rfl, rfl⟩]
  have d0 : p.2 * q.2 ≠ 0 := Int.mul_ne_zero (by omega) (by omega)
  have P1 := law_plus_ok n p q hp hq d0
  have P2 := law_minus_ok n p q hp hq d0
  have P3 := law_times_ok n p q hp hq d0
  have fin := fun u hu => due_end (n + 2) u hu (.fz (.int which)) (.fz (pr p)) (.fz (pr q))
  match which, hw with
  | 0, _ =>
    refine Eq.trans ?_ (fin (pt (p.1 * q.2 + q.1 * p.2) (p.2 * q.2)) (pt_low d0).pos)
    have e1 : ((0 : Int) == 3) = false := rfl
    have e2 : decide ((0 : Int) < 2) = true := rfl
    have e3 : ((0 : Int) == 0) = true := rfl
    simp only [fd29, Pz.execs, Pz.exec, Pz.ev, Pz.evT, Pz.ev2, Pz.evs, Pz.evl, Pz.evg, Pz.evi, Pz.evf, R.both_1, R.both_2, R.bind_ap, R.pure_ap, R.ofO_some, R.ofO_none, R.look_fz, R.look_bx, R.keep_fz, R.keep_bx, R.slot_fz, R.slot_bx, R.putV_fz, R.putV_bx, getV, setS, looks, tyD, asBool, asInt, asVw, asIntV, R.eqI, R.neI, R.ltI, R.leI, R.gtI, R.geI, R.eqB, R.neB, R.eqS, R.neS, R.isN, R.nisN, isNone, R.truthB, R.truthI, R.look_vw', R.callI1', R.callI2', frz, biV, mtKind, lenV, absV, R.intV_int, strV, tupleV, listV, strOf, Pz.ixD, R.at_0, R.at_1, R.opII, R.addI, R.subI, R.call1, R.call2, R.call3, R.call4, R.ret0_ok, R.ret0_ex, R.ret1_ok, Option.map_some, Option.map_none, Option.some_or, Option.none_or, List.getElem?_cons_zero, List.getElem?_cons_succ, List.getElem?_nil, List.set_cons_zero, List.set_cons_succ, List.length_cons, List.length_nil, List.length_append, List.length_set, List.map_cons, List.map_nil, List.cons_append, List.nil_append, ite_true, ite_false, if_true, if_false, Bool.not_true, Bool.not_false, endOf, outsOf, Nat.reduceAdd, Nat.reduceLT, Nat.reduceLeDiff, Nat.lt_add_left_iff_pos, Nat.zero_lt_succ, List.replicate, Nat.reduceSub, Nat.sub_self, reduceIte, reduceCtorEq, Bool.false_eq_true, decide_true, decide_false, Int.cast_ofNat_Int, Int.natCast_zero, e1, e2, e3, P1]
  | 1, _ =>
    refine Eq.trans ?_ (fin (pt (p.1 * q.2 - q.1 * p.2) (p.2 * q.2)) (pt_low d0).pos)
    have e1 : ((1 : Int) == 3) = false := rfl
    have e2 : decide ((1 : Int) < 2) = true := rfl
    have e3 : ((1 : Int) == 0) = false := rfl
    simp only [fd29, Pz.execs, Pz.exec, Pz.ev, Pz.evT, Pz.ev2, Pz.evs, Pz.evl, Pz.evg, Pz.evi, Pz.evf, R.both_1, R.both_2, R.bind_ap, R.pure_ap, R.ofO_some, R.ofO_none, R.look_fz, R.look_bx, R.keep_fz, R.keep_bx, R.slot_fz, R.slot_bx, R.putV_fz, R.putV_bx, getV, setS, looks, tyD, asBool, asInt, asVw, asIntV, R.eqI, R.neI, R.ltI, R.leI, R.gtI, R.geI, R.eqB, R.neB, R.eqS, R.neS, R.isN, R.nisN, isNone, R.truthB, R.truthI, R.look_vw', R.callI1', R.callI2', frz, biV, mtKind, lenV, absV, R.intV_int, strV, tupleV, listV, strOf, Pz.ixD, R.at_0, R.at_1, R.opII, R.addI, R.subI, R.call1, R.call2, R.call3, R.call4, R.ret0_ok, R.ret0_ex, R.ret1_ok, Option.map_some, Option.map_none, Option.some_or, Option.none_or, List.getElem?_cons_zero, List.getElem?_cons_succ, List.getElem?_nil, List.set_cons_zero, List.set_cons_succ, List.length_cons, List.length_nil, List.length_append, List.length_set, List.map_cons, List.map_nil, List.cons_append, List.nil_append, ite_true, ite_false, if_true, if_false, Bool.not_true, Bool.not_false, endOf, outsOf, Nat.reduceAdd, Nat.reduceLT, Nat.reduceLeDiff, Nat.lt_add_left_iff_pos, Nat.zero_lt_succ, List.replicate, Nat.reduceSub, Nat.sub_self, reduceIte, reduceCtorEq, Bool.false_eq_true, decide_true, decide_false, Int.cast_ofNat_Int, e1, e2, e3, P2]
  | 2, _ =>
    refine Eq.trans ?_ (fin (pt (p.1 * q.1) (p.2 * q.2)) (pt_low d0).pos)
    have e1 : ((2 : Int) == 3) = false := rfl
    have e2 : decide ((2 : Int) < 2) = false := rfl
    have e3 : ((2 : Int) == 2) = true := rfl
    simp only [fd29, Pz.execs, Pz.exec, Pz.ev, Pz.evT, Pz.ev2, Pz.evs, Pz.evl, Pz.evg, Pz.evi, Pz.evf, R.both_1, R.both_2, R.bind_ap, R.pure_ap, R.ofO_some, R.ofO_none, R.look_fz, R.look_bx, R.keep_fz, R.keep_bx, R.slot_fz, R.slot_bx, R.putV_fz, R.putV_bx, getV, setS, looks, tyD, asBool, asInt, asVw, asIntV, R.eqI, R.neI, R.ltI, R.leI, R.gtI, R.geI, R.eqB, R.neB, R.eqS, R.neS, R.isN, R.nisN, isNone, R.truthB, R.truthI, R.look_vw', R.callI1', R.callI2', frz, biV, mtKind, lenV, absV, R.intV_int, strV, tupleV, listV, strOf, Pz.ixD, R.at_0, R.at_1, R.opII, R.addI, R.subI, R.call1, R.call2, R.call3, R.call4, R.ret0_ok, R.ret0_ex, R.ret1_ok, Option.map_some, Option.map_none, Option.some_or, Option.none_or, List.getElem?_cons_zero, List.getElem?_cons_succ, List.getElem?_nil, List.set_cons_zero, List.set_cons_succ, List.length_cons, List.length_nil, List.length_append, List.length_set, List.map_cons, List.map_nil, List.cons_append, List.nil_append, ite_true, ite_false, if_true, if_false, Bool.not_true, Bool.not_false, endOf, outsOf, Nat.reduceAdd, Nat.reduceLT, Nat.reduceLeDiff, Nat.lt_add_left_iff_pos, Nat.zero_lt_succ, List.replicate, Nat.reduceSub, Nat.sub_self, reduceIte, reduceCtorEq, Bool.false_eq_true, decide_true, decide_false, Int.cast_ofNat_Int, e1, e2, e3, P3]
  | 3, _ =>
    have e1 : ((3 : Int) == 3) = true := rfl
    have e2 : decide ((3 : Int) < 2) = false := rfl
    have e3 : ((3 : Int) == 2) = false := rfl
    by_cases h : q.1 = 0
    · have z : (q.1 == 0) = true := beq_iff_eq.mpr h
      have r : dueD 3 p q = .str (Str.ofString "none") := if_pos ⟨rfl, h⟩
      rw [r]
      simp only [fd29, pr, Pz.execs, Pz.exec, Pz.ev, Pz.evT, Pz.ev2, Pz.evs, Pz.evl, Pz.evg, Pz.evi, Pz.evf, R.both_1, R.both_2, R.bind_ap, R.pure_ap, R.ofO_some, R.ofO_none, R.look_fz, R.look_bx, R.keep_fz, R.keep_bx, R.slot_fz, R.slot_bx, R.putV_fz, R.putV_bx, getV, setS, looks, tyD, asBool, asInt, asVw, asIntV, R.eqI, R.neI, R.ltI, R.leI, R.gtI, R.geI, R.eqB, R.neB, R.eqS, R.neS, R.isN, R.nisN, isNone, R.truthB, R.truthI, R.look_vw', R.callI1', R.callI2', frz, biV, mtKind, lenV, absV, R.intV_int, strV, tupleV, listV, strOf, Pz.ixD, R.at_0, R.at_1, R.opII, R.addI, R.subI, R.call1, R.call2, R.call3, R.call4, R.ret0_ok, R.ret0_ex, R.ret1_ok, Option.map_some, Option.map_none, Option.some_or, Option.none_or, List.getElem?_cons_zero, List.getElem?_cons_succ, List.getElem?_nil, List.set_cons_zero, List.set_cons_succ, List.length_cons, List.length_nil, List.length_append, List.length_set, List.map_cons, List.map_nil, List.cons_append, List.nil_append, ite_true, ite_false, if_true, if_false, Bool.not_true, Bool.not_false, endOf, outsOf, Nat.reduceAdd, Nat.reduceLT, Nat.reduceLeDiff, Nat.lt_add_left_iff_pos, Nat.zero_lt_succ, List.replicate, Nat.reduceSub, Nat.sub_self, reduceIte, reduceCtorEq, Bool.false_eq_true, decide_true, decide_false, Int.cast_ofNat_Int, e1, z]
    · have z : (q.1 == 0) = false := beq_eq_false_iff_ne.mpr h
      have d1 : p.2 * q.1 ≠ 0 := Int.mul_ne_zero (by omega) h
      have P4 := law_over_ok n p q hp hq d1
      have r : dueD 3 p q = if Bd (pt (p.1 * q.2) (p.2 * q.1)) then pr (pt (p.1 * q.2) (p.2 * q.1)) else .str (Str.ofString "much") := if_neg fun y => h y.2
      rw [r]
      refine Eq.trans ?_ (fin _ (pt_low d1).pos)
      simp only [pr] at P4
      simp only [fd29, pr, Pz.execs, Pz.exec, Pz.ev, Pz.evT, Pz.ev2, Pz.evs, Pz.evl, Pz.evg, Pz.evi, Pz.evf, R.both_1, R.both_2, R.bind_ap, R.pure_ap, R.ofO_some, R.ofO_none, R.look_fz, R.look_bx, R.keep_fz, R.keep_bx, R.slot_fz, R.slot_bx, R.putV_fz, R.putV_bx, getV, setS, looks, tyD, asBool, asInt, asVw, asIntV, R.eqI, R.neI, R.ltI, R.leI, R.gtI, R.geI, R.eqB, R.neB, R.eqS, R.neS, R.isN, R.nisN, isNone, R.truthB, R.truthI, R.look_vw', R.callI1', R.callI2', frz, biV, mtKind, lenV, absV, R.intV_int, strV, tupleV, listV, strOf, Pz.ixD, R.at_0, R.at_1, R.opII, R.addI, R.subI, R.call1, R.call2, R.call3, R.call4, R.ret0_ok, R.ret0_ex, R.ret1_ok, Option.map_some, Option.map_none, Option.some_or, Option.none_or, List.getElem?_cons_zero, List.getElem?_cons_succ, List.getElem?_nil, List.set_cons_zero, List.set_cons_succ, List.length_cons, List.length_nil, List.length_append, List.length_set, List.map_cons, List.map_nil, List.cons_append, List.nil_append, ite_true, ite_false, if_true, if_false, Bool.not_true, Bool.not_false, endOf, outsOf, Nat.reduceAdd, Nat.reduceLT, Nat.reduceLeDiff, Nat.lt_add_left_iff_pos, Nat.zero_lt_succ, List.replicate, Nat.reduceSub, Nat.sub_self, reduceIte, reduceCtorEq, Bool.false_eq_true, decide_true, decide_false, Int.cast_ofNat_Int, e1, e2, e3, z, P4]
theorem wword (k : Nat) (h : k < 6) : E.word k = some (wordB (E.wtab.getD k [])) := if_pos h
theorem w2 : E.word 2 = some (Str.ofString "form") := by decide +kernel
theorem w3 : E.word 3 = some (Str.ofString "none") := by decide +kernel
theorem w5 : E.word 5 = some (Str.ofString "much") := by decide +kernel
theorem sub20 : E.sub 2 0 = true := by decide +kernel
theorem sub30 : E.sub 3 0 = true := by decide +kernel
theorem sub50 : E.sub 5 0 = true := by decide +kernel
/-- what the law makes of a call's end -/
def toldR : FR → FR
  | .ok v [] => .ok v []
  | .ex 2 [] => .ok (.fz (.str (Str.ofString "form"))) []
  | .ex 3 [] => .ok (.fz (.str (Str.ofString "none"))) []
  | .ex 5 [] => .ok (.fz (.str (Str.ofString "much"))) []
  | _ => .st
def toldB : Sms := (.cons (.ifs [] (.cmp .lt (.v 0) (.c (.int (4)))) (.cons (.ret [] (.ie (.cmp .eq (.v 0) (.c (.int (0)))) (.call 4 (.cons (.v 1) (.cons (.v 2) .nil))) (.ie (.cmp .eq (.v 0) (.c (.int (1)))) (.call 5 (.cons (.v 1) (.cons (.v 2) .nil))) (.ie (.cmp .eq (.v 0) (.c (.int (2)))) (.call 6 (.cons (.v 1) (.cons (.v 2) .nil))) (.call 7 (.cons (.v 1) (.cons (.v 2) .nil))))))) .nil) .nil) (.cons (.ret [] (.ie (.cmp .eq (.v 0) (.c (.int (4)))) (.call 3 (.cons (.v 1) (.cons (.v 2) .nil))) (.call 14 (.cons (.v 1) .nil)))) .nil))
theorem told_of {n : Nat} {a b c : Slot} {r : FR} (hr : (∃ d, r = .ok (.fz d) []) ∨ r = .ex 2 [] ∨ r = .ex 3 [] ∨ r = .ex 5 []) (ho : [a, b, c].all okArg = true) (hp : ioPos 0 [a, b, c] = [])
    (h : execs (G n) toldB [a, b, c, .un] = M.bind (ret0 r) (fun v => M.pure (.rt v)) [a, b, c, .un]) : C (n + 1) 27 [a, b, c] = toldR r := by
  rw [C_succ (fd := fd27) rfl ⟨rfl, hp, ho⟩]
  show endOf [] (execs (G n) (.cons (.try_ 0 3 toldB) .nil) [a, b, c, .un]) = _
  have e : exec (G n) (.try_ 0 3 toldB) [a, b, c, .un] = (match execs (G n) toldB [a, b, c, .un] with
      | .ok r ρ1 => .ok r ρ1
      | .ex k ρ1 => if E.sub k 0 then (match E.word k with
          | some z => if 3 < ρ1.length then .ok (.rt (.fz (.str z))) (ρ1.set 3 .un) else .st
          | none => .st) else .ex k ρ1
      | .st => .st) := rfl
  rcases hr with ⟨d, rfl⟩ | rfl | rfl | rfl
  · rw [h] at e
    rw [ex_rt (v := .fz d) (ρ1 := [a, b, c, .un]) e]
    rfl
  · rw [h] at e
    have e : exec (G n) (.try_ 0 3 toldB) [a, b, c, .un] = if E.sub 2 0 then (match E.word 2 with
          | some z => .ok (.rt (.fz (.str z))) [a, b, c, .un]
          | none => .st) else .ex 2 [a, b, c, .un] := e
    rw [sub20, w2] at e
    rw [ex_rt e]
    rfl
  · rw [h] at e
    have e : exec (G n) (.try_ 0 3 toldB) [a, b, c, .un] = if E.sub 3 0 then (match E.word 3 with
          | some z => .ok (.rt (.fz (.str z))) [a, b, c, .un]
          | none => .st) else .ex 3 [a, b, c, .un] := e
    rw [sub30, w3] at e
    rw [ex_rt e]
    rfl
  · rw [h] at e
    have e : exec (G n) (.try_ 0 3 toldB) [a, b, c, .un] = if E.sub 5 0 then (match E.word 5 with
          | some z => .ok (.rt (.fz (.str z))) [a, b, c, .un]
          | none => .st) else .ex 5 [a, b, c, .un] := e
    rw [sub50, w5] at e
    rw [ex_rt e]
    rfl
end K04

namespace K04
open Pz Pz.R
open PySem hiding execs exec
theorem toldR_cases (n : Nat) (a b : Int) : toldR (rp n a b) = .ok (.fz (if b = 0 then .str (Str.ofString "none") else if Bd (pt a b) then pr (pt a b) else .str (Str.ofString "much"))) [] := by
  unfold rp
  by_cases h : b = 0
  · rw [if_pos h, if_pos h]
    rfl
  · rw [if_neg h, if_neg h]
    by_cases h2 : Bd (pt a b)
    · rw [if_pos h2, if_pos h2]
      rfl
    · rw [if_neg h2, if_neg h2]
      rfl
theorem rp_r (n : Nat) (a b : Int) : (∃ d, rp n a b = .ok (.fz d) []) ∨ rp n a b = .ex 2 [] ∨ rp n a b = .ex 3 [] ∨ rp n a b = .ex 5 [] := by
  rcases rp_is n a b with h | h | h
  · exact .inr (.inr (.inl h))
  · exact .inl ⟨_, h⟩
  · exact .inr (.inr (.inr h))
theorem told_sums (n : Nat) (which : Nat) (hw : which < 4) (p q : Int × Int) (hp : Bd p) (hq : Bd q) (lp : 0 < p.2) (lq : 0 < q.2) : C (n + 4) 27 [.fz (.int which), .fz (pr p), .fz (pr q)] = .ok (.fz (dueD which p q)) [] := by
  have d0 : p.2 * q.2 ≠ 0 := Int.mul_ne_zero (by omega) (by omega)
  match which, hw with
  | 0, _ =>
    have P := plus_ok (n + 1) p q hp hq
    have r := toldR_cases (n + 1) (p.1 * q.2 + q.1 * p.2) (p.2 * q.2)
    rw [if_neg d0] at r
    refine Eq.trans (told_of (rp_r (n + 1) _ _) rfl rfl ?_) r
    have e2 : decide ((0 : Int) < 4) = true := rfl
    have e3 : ((0 : Int) == 0) = true := rfl
    simp only [toldB, Pz.execs, Pz.exec, Pz.ev, Pz.evT, Pz.ev2, Pz.evs, Pz.evl, Pz.evg, Pz.evi, Pz.evf, R.both_1, R.both_2, R.bind_ap, R.pure_ap, R.ofO_some, R.ofO_none, R.look_fz, R.look_bx, R.keep_fz, R.keep_bx, R.slot_fz, R.slot_bx, R.putV_fz, R.putV_bx, getV, setS, looks, tyD, asBool, asInt, asVw, asIntV, R.eqI, R.neI, R.ltI, R.leI, R.gtI, R.geI, R.eqB, R.neB, R.eqS, R.neS, R.isN, R.nisN, isNone, R.truthB, R.truthI, R.look_vw', R.callI1', R.callI2', frz, biV, mtKind, lenV, absV, R.intV_int, strV, tupleV, listV, strOf, Pz.ixD, R.at_0, R.at_1, R.opII, R.addI, R.subI, R.call1, R.call2, R.call3, R.call4, R.ret0_ok, R.ret0_ex, R.ret1_ok, Option.map_some, Option.map_none, Option.some_or, Option.none_or, List.getElem?_cons_zero, List.getElem?_cons_succ, List.getElem?_nil, List.set_cons_zero, List.set_cons_succ, List.length_cons, List.length_nil, List.length_append, List.length_set, List.map_cons, List.map_nil, List.cons_append, List.nil_append, ite_true, ite_false, if_true, if_false, Bool.not_true, Bool.not_false, endOf, outsOf, Nat.reduceAdd, Nat.reduceLT, Nat.reduceLeDiff, Nat.lt_add_left_iff_pos, Nat.zero_lt_succ, List.replicate, Nat.reduceSub, Nat.sub_self, reduceIte, reduceCtorEq, Bool.false_eq_true, decide_true, decide_false, Int.natCast_zero, Int.cast_ofNat_Int, e2, e3, P]
    rcases rp_is (n + 1) (p.1 * q.2 + q.1 * p.2) (p.2 * q.2) with z | z | z <;> rw [z] <;> rfl
  | 1, _ =>
    have P := minus_ok (n + 1) p q hp hq
    have r := toldR_cases (n + 1) (p.1 * q.2 - q.1 * p.2) (p.2 * q.2)
    rw [if_neg d0] at r
    refine Eq.trans (told_of (rp_r (n + 1) _ _) rfl rfl ?_) r
    have e2 : decide ((1 : Int) < 4) = true := rfl
    have e3 : ((1 : Int) == 0) = false := rfl
    have e4 : ((1 : Int) == 1) = true := rfl
    simp only [toldB, Pz.execs, Pz.exec, Pz.ev, Pz.evT, Pz.ev2, Pz.evs, Pz.evl, Pz.evg, Pz.evi, Pz.evf, R.both_1, R.both_2, R.bind_ap, R.pure_ap, R.ofO_some, R.ofO_none, R.look_fz, R.look_bx, R.keep_fz, R.keep_bx, R.slot_fz, R.slot_bx, R.putV_fz, R.putV_bx, getV, setS, looks, tyD, asBool, asInt, asVw, asIntV, R.eqI, R.neI, R.ltI, R.leI, R.gtI, R.geI, R.eqB, R.neB, R.eqS, R.neS, R.isN, R.nisN, isNone, R.truthB, R.truthI, R.look_vw', R.callI1', R.callI2', frz, biV, mtKind, lenV, absV, R.intV_int, strV, tupleV, listV, strOf, Pz.ixD, R.at_0, R.at_1, R.opII, R.addI, R.subI, R.call1, R.call2, R.call3, R.call4, R.ret0_ok, R.ret0_ex, R.ret1_ok, Option.map_some, Option.map_none, Option.some_or, Option.none_or, List.getElem?_cons_zero, List.getElem?_cons_succ, List.getElem?_nil, List.set_cons_zero, List.set_cons_succ, List.length_cons, List.length_nil, List.length_append, List.length_set, List.map_cons, List.map_nil, List.cons_append, List.nil_append, ite_true, ite_false, if_true, if_false, Bool.not_true, Bool.not_false, endOf, outsOf, Nat.reduceAdd, Nat.reduceLT, Nat.reduceLeDiff, Nat.lt_add_left_iff_pos, Nat.zero_lt_succ, List.replicate, Nat.reduceSub, Nat.sub_self, reduceIte, reduceCtorEq, Bool.false_eq_true, decide_true, decide_false, Int.cast_ofNat_Int, e2, e3, e4, P]
    rcases rp_is (n + 1) (p.1 * q.2 - q.1 * p.2) (p.2 * q.2) with z | z | z <;> rw [z] <;> rfl
  | 2, _ =>
    have P := times_ok (n + 1) p q hp hq
    have r := toldR_cases (n + 1) (p.1 * q.1) (p.2 * q.2)
    rw [if_neg d0] at r
    refine Eq.trans (told_of (rp_r (n + 1) _ _) rfl rfl ?_) r
    have e2 : decide ((2 : Int) < 4) = true := rfl
    have e3 : ((2 : Int) == 0) = false := rfl
    have e4 : ((2 : Int) == 1) = false := rfl
    have e5 : ((2 : Int) == 2) = true := rfl
    simp only [toldB, Pz.execs, Pz.exec, Pz.ev, Pz.evT, Pz.ev2, Pz.evs, Pz.evl, Pz.evg, Pz.evi, Pz.evf, R.both_1, R.both_2, R.bind_ap, R.pure_ap, R.ofO_some, R.ofO_none, R.look_fz, R.look_bx, R.keep_fz, R.keep_bx, R.slot_fz, R.slot_bx, R.putV_fz, R.putV_bx, getV, setS, looks, tyD, asBool, asInt, asVw, asIntV, R.eqI, R.neI, R.ltI, R.leI, R.gtI, R.geI, R.eqB, R.neB, R.eqS, R.neS, R.isN, R.nisN, isNone, R.truthB, R.truthI, R.look_vw', R.callI1', R.callI2', frz, biV, mtKind, lenV, absV, R.intV_int, strV, tupleV, listV, strOf, Pz.ixD, R.at_0, R.at_1, R.opII, R.addI, R.subI, R.call1, R.call2, R.call3, R.call4, R.ret0_ok, R.ret0_ex, R.ret1_ok, Option.map_some, Option.map_none, Option.some_or, Option.none_or, List.getElem?_cons_zero, List.getElem?_cons_succ, List.getElem?_nil, List.set_cons_zero, List.set_cons_succ, List.length_cons, List.length_nil, List.length_append, List.length_set, List.map_cons, List.map_nil, List.cons_append, List.nil_append, ite_true, ite_false, if_true, if_false, Bool.not_true, Bool.not_false, endOf, outsOf, Nat.reduceAdd, Nat.reduceLT, Nat.reduceLeDiff, Nat.lt_add_left_iff_pos, Nat.zero_lt_succ, List.replicate, Nat.reduceSub, Nat.sub_self, reduceIte, reduceCtorEq, Bool.false_eq_true, decide_true, decide_false, Int.cast_ofNat_Int, e2, e3, e4, e5, P]
    rcases rp_is (n + 1) (p.1 * q.1) (p.2 * q.2) with z | z | z <;> rw [z] <;> rfl
  | 3, _ =>
    have P := over_ok (n + 1) p q hp hq
    have r := toldR_cases (n + 1) (p.1 * q.2) (p.2 * q.1)
    have r2 : (if p.2 * q.1 = 0 then .str (Str.ofString "none") else if Bd (pt (p.1 * q.2) (p.2 * q.1)) then pr (pt (p.1 * q.2) (p.2 * q.1)) else .str (Str.ofString "much")) = dueD 3 p q := by
      unfold dueD
      by_cases h : q.1 = 0
      · rw [if_pos (by rw [h, Int.mul_zero]), if_pos ⟨rfl, h⟩]
      · rw [if_neg (Int.mul_ne_zero (by omega) h)]
        exact (if_neg (c := 3 = 3 ∧ q.1 = 0) fun z => h z.2).symm
    rw [r2] at r
    refine Eq.trans (told_of (rp_r (n + 1) _ _) rfl rfl ?_) r
    have e2 : decide ((3 : Int) < 4) = true := rfl
    have e3 : ((3 : Int) == 0) = false := rfl
    have e4 : ((3 : Int) == 1) = false := rfl
    have e5 : ((3 : Int) == 2) = false := rfl
    simp only [toldB, Pz.execs, Pz.exec, Pz.ev, Pz.evT, Pz.ev2, Pz.evs, Pz.evl, Pz.evg, Pz.evi, Pz.evf, R.both_1, R.both_2, R.bind_ap, R.pure_ap, R.ofO_some, R.ofO_none, R.look_fz, R.look_bx, R.keep_fz, R.keep_bx, R.slot_fz, R.slot_bx, R.putV_fz, R.putV_bx, getV, setS, looks, tyD, asBool, asInt, asVw, asIntV, R.eqI, R.neI, R.ltI, R.leI, R.gtI, R.geI, R.eqB, R.neB, R.eqS, R.neS, R.isN, R.nisN, isNone, R.truthB, R.truthI, R.look_vw', R.callI1', R.callI2', frz, biV, mtKind, lenV, absV, R.intV_int, strV, tupleV, listV, strOf, Pz.ixD, R.at_0, R.at_1, R.opII, R.addI, R.subI, R.call1, R.call2, R.call3, R.call4, R.ret0_ok, R.ret0_ex, R.ret1_ok, Option.map_some, Option.map_none, Option.some_or, Option.none_or, List.getElem?_cons_zero, List.getElem?_cons_succ, List.getElem?_nil, List.set_cons_zero, List.set_cons_succ, List.length_cons, List.length_nil, List.length_append, List.length_set, List.map_cons, List.map_nil, List.cons_append, List.nil_append, ite_true, ite_false, if_true, if_false, Bool.not_true, Bool.not_false, endOf, outsOf, Nat.reduceAdd, Nat.reduceLT, Nat.reduceLeDiff, Nat.lt_add_left_iff_pos, Nat.zero_lt_succ, List.replicate, Nat.reduceSub, Nat.sub_self, reduceIte, reduceCtorEq, Bool.false_eq_true, decide_true, decide_false, Int.cast_ofNat_Int, e2, e3, e4, e5, P]
    rcases rp_is (n + 1) (p.1 * q.2) (p.2 * q.1) with z | z | z <;> rw [z] <;> rfl
theorem told_part (n : Nat) (a b : Int) (ha : Sm a) (hb : Sm b) : C (n + 2) 27 [.fz (.int 4), .fz (.int a), .fz (.int b)] = .ok (.fz (if b = 0 then .str (Str.ofString "none") else if Bd (pt a b) then pr (pt a b) else .str (Str.ofString "much"))) [] := by
  refine Eq.trans (told_of (rp_r n a b) rfl rfl ?_) (toldR_cases n a b)
  have P := part_rp n a b ha hb
  have e2 : decide ((4 : Int) < 4) = false := rfl
  have e3 : ((4 : Int) == 4) = true := rfl
  simp only [toldB, Pz.execs, Pz.exec, Pz.ev, Pz.evT, Pz.ev2, Pz.evs, Pz.evl, Pz.evg, Pz.evi, Pz.evf, R.both_1, R.both_2, R.bind_ap, R.pure_ap, R.ofO_some, R.ofO_none, R.look_fz, R.look_bx, R.keep_fz, R.keep_bx, R.slot_fz, R.slot_bx, R.putV_fz, R.putV_bx, getV, setS, looks, tyD, asBool, asInt, asVw, asIntV, R.eqI, R.neI, R.ltI, R.leI, R.gtI, R.geI, R.eqB, R.neB, R.eqS, R.neS, R.isN, R.nisN, isNone, R.truthB, R.truthI, R.look_vw', R.callI1', R.callI2', frz, biV, mtKind, lenV, absV, R.intV_int, strV, tupleV, listV, strOf, Pz.ixD, R.at_0, R.at_1, R.opII, R.addI, R.subI, R.call1, R.call2, R.call3, R.call4, R.ret0_ok, R.ret0_ex, R.ret1_ok, Option.map_some, Option.map_none, Option.some_or, Option.none_or, List.getElem?_cons_zero, List.getElem?_cons_succ, List.getElem?_nil, List.set_cons_zero, List.set_cons_succ, List.length_cons, List.length_nil, List.length_append, List.length_set, List.map_cons, List.map_nil, List.cons_append, List.nil_append, ite_true, ite_false, if_true, if_false, Bool.not_true, Bool.not_false, endOf, outsOf, Nat.reduceAdd, Nat.reduceLT, Nat.reduceLeDiff, Nat.lt_add_left_iff_pos, Nat.zero_lt_succ, List.replicate, Nat.reduceSub, Nat.sub_self, reduceIte, reduceCtorEq, Bool.false_eq_true, decide_true, decide_false, e2, e3, P]
  rcases rp_is n a b with z | z | z <;> rw [z] <;> rfl
theorem told_read (n : Nat) (v : Str) (hv : v.length ≤ lim) : C (n + 4) 27 [.fz (.int 5), .fz (.str v), .fz .none] = .ok (.fz (match readF v with
    | some p => pr p
    | none => .str (Str.ofString "form"))) [] := by
  have P := read_ok n v hv
  have e2 : decide ((5 : Int) < 4) = false := rfl
  have e3 : ((5 : Int) == 4) = false := rfl
  cases h : readF v with
  | none =>
    rw [h] at P
    refine Eq.trans (told_of (r := .ex 2 []) (.inr (.inl rfl)) rfl rfl ?_) rfl
    simp only [toldB, Pz.execs, Pz.exec, Pz.ev, Pz.evT, Pz.ev2, Pz.evs, Pz.evl, Pz.evg, Pz.evi, Pz.evf, R.both_1, R.both_2, R.bind_ap, R.pure_ap, R.ofO_some, R.ofO_none, R.look_fz, R.look_bx, R.keep_fz, R.keep_bx, R.slot_fz, R.slot_bx, R.putV_fz, R.putV_bx, getV, setS, looks, tyD, asBool, asInt, asVw, asIntV, R.eqI, R.neI, R.ltI, R.leI, R.gtI, R.geI, R.eqB, R.neB, R.eqS, R.neS, R.isN, R.nisN, isNone, R.truthB, R.truthI, R.look_vw', R.callI1', R.callI2', frz, biV, mtKind, lenV, absV, R.intV_int, strV, tupleV, listV, strOf, Pz.ixD, R.at_0, R.at_1, R.opII, R.addI, R.subI, R.call1, R.call2, R.call3, R.call4, R.ret0_ok, R.ret0_ex, R.ret1_ok, Option.map_some, Option.map_none, Option.some_or, Option.none_or, List.getElem?_cons_zero, List.getElem?_cons_succ, List.getElem?_nil, List.set_cons_zero, List.set_cons_succ, List.length_cons, List.length_nil, List.length_append, List.length_set, List.map_cons, List.map_nil, List.cons_append, List.nil_append, ite_true, ite_false, if_true, if_false, Bool.not_true, Bool.not_false, endOf, outsOf, Nat.reduceAdd, Nat.reduceLT, Nat.reduceLeDiff, Nat.lt_add_left_iff_pos, Nat.zero_lt_succ, List.replicate, Nat.reduceSub, Nat.sub_self, reduceIte, reduceCtorEq, Bool.false_eq_true, decide_true, decide_false, e2, e3, P]
  | some p =>
    rw [h] at P
    refine Eq.trans (told_of (r := .ok (.fz (pr p)) []) (.inl ⟨_, rfl⟩) rfl rfl ?_) rfl
    simp only [toldB, Pz.execs, Pz.exec, Pz.ev, Pz.evT, Pz.ev2, Pz.evs, Pz.evl, Pz.evg, Pz.evi, Pz.evf, R.both_1, R.both_2, R.bind_ap, R.pure_ap, R.ofO_some, R.ofO_none, R.look_fz, R.look_bx, R.keep_fz, R.keep_bx, R.slot_fz, R.slot_bx, R.putV_fz, R.putV_bx, getV, setS, looks, tyD, asBool, asInt, asVw, asIntV, R.eqI, R.neI, R.ltI, R.leI, R.gtI, R.geI, R.eqB, R.neB, R.eqS, R.neS, R.isN, R.nisN, isNone, R.truthB, R.truthI, R.look_vw', R.callI1', R.callI2', frz, biV, mtKind, lenV, absV, R.intV_int, strV, tupleV, listV, strOf, Pz.ixD, R.at_0, R.at_1, R.opII, R.addI, R.subI, R.call1, R.call2, R.call3, R.call4, R.ret0_ok, R.ret0_ex, R.ret1_ok, Option.map_some, Option.map_none, Option.some_or, Option.none_or, List.getElem?_cons_zero, List.getElem?_cons_succ, List.getElem?_nil, List.set_cons_zero, List.set_cons_succ, List.length_cons, List.length_nil, List.length_append, List.length_set, List.map_cons, List.map_nil, List.cons_append, List.nil_append, ite_true, ite_false, if_true, if_false, Bool.not_true, Bool.not_false, endOf, outsOf, Nat.reduceAdd, Nat.reduceLT, Nat.reduceLeDiff, Nat.lt_add_left_iff_pos, Nat.zero_lt_succ, List.replicate, Nat.reduceSub, Nat.sub_self, reduceIte, reduceCtorEq, Bool.false_eq_true, decide_true, decide_false, e2, e3, P]
theorem alike_int (n : Nat) (i : Int) : C (n + 1) 18 [.fz (.int i), .fz (.int i)] = .ok (.fz (.bool true)) [] := by
  rw [C_succ (fd := fd18) rfl ⟨rfl, rfl, rfl⟩]
  simp only [fd18, Pz.execs, Pz.exec, Pz.ev, Pz.evT, Pz.ev2, Pz.evs, Pz.evl, Pz.evg, Pz.evi, Pz.evf, R.both_1, R.both_2, R.bind_ap, R.pure_ap, R.ofO_some, R.ofO_none, R.look_fz, R.look_bx, R.keep_fz, R.keep_bx, R.slot_fz, R.slot_bx, R.putV_fz, R.putV_bx, getV, setS, looks, tyD, asBool, asInt, asVw, asIntV, R.eqI, R.neI, R.ltI, R.leI, R.gtI, R.geI, R.eqB, R.neB, R.eqS, R.neS, R.isN, R.nisN, isNone, R.truthB, R.truthI, R.look_vw', R.callI1', R.callI2', frz, biV, mtKind, lenV, absV, R.intV_int, strV, tupleV, listV, strOf, Pz.ixD, R.at_0, R.at_1, R.opII, R.addI, R.subI, R.call1, R.call2, R.call3, R.call4, R.ret0_ok, R.ret0_ex, R.ret1_ok, Option.map_some, Option.map_none, Option.some_or, Option.none_or, List.getElem?_cons_zero, List.getElem?_cons_succ, List.getElem?_nil, List.set_cons_zero, List.set_cons_succ, List.length_cons, List.length_nil, List.length_append, List.length_set, List.map_cons, List.map_nil, List.cons_append, List.nil_append, ite_true, ite_false, if_true, if_false, Bool.not_true, Bool.not_false, endOf, outsOf, Nat.reduceAdd, Nat.reduceLT, Nat.reduceLeDiff, Nat.lt_add_left_iff_pos, Nat.zero_lt_succ, List.replicate, Nat.reduceSub, Nat.sub_self, reduceIte, reduceCtorEq, Bool.false_eq_true, decide_true, decide_false, beq_self_eq_true]
theorem alike_str (n : Nat) (i : Str) : C (n + 1) 18 [.fz (.str i), .fz (.str i)] = .ok (.fz (.bool true)) [] := by
  rw [C_succ (fd := fd18) rfl ⟨rfl, rfl, rfl⟩]
  simp only [fd18, Pz.execs, Pz.exec, Pz.ev, Pz.evT, Pz.ev2, Pz.evs, Pz.evl, Pz.evg, Pz.evi, Pz.evf, R.both_1, R.both_2, R.bind_ap, R.pure_ap, R.ofO_some, R.ofO_none, R.look_fz, R.look_bx, R.keep_fz, R.keep_bx, R.slot_fz, R.slot_bx, R.putV_fz, R.putV_bx, getV, setS, looks, tyD, asBool, asInt, asVw, asIntV, R.eqI, R.neI, R.ltI, R.leI, R.gtI, R.geI, R.eqB, R.neB, R.eqS, R.neS, R.isN, R.nisN, isNone, R.truthB, R.truthI, R.look_vw', R.callI1', R.callI2', frz, biV, mtKind, lenV, absV, R.intV_int, strV, tupleV, listV, strOf, Pz.ixD, R.at_0, R.at_1, R.opII, R.addI, R.subI, R.call1, R.call2, R.call3, R.call4, R.ret0_ok, R.ret0_ex, R.ret1_ok, Option.map_some, Option.map_none, Option.some_or, Option.none_or, List.getElem?_cons_zero, List.getElem?_cons_succ, List.getElem?_nil, List.set_cons_zero, List.set_cons_succ, List.length_cons, List.length_nil, List.length_append, List.length_set, List.map_cons, List.map_nil, List.cons_append, List.nil_append, ite_true, ite_false, if_true, if_false, Bool.not_true, Bool.not_false, endOf, outsOf, Nat.reduceAdd, Nat.reduceLT, Nat.reduceLeDiff, Nat.lt_add_left_iff_pos, Nat.zero_lt_succ, List.replicate, Nat.reduceSub, Nat.sub_self, reduceIte, reduceCtorEq, Bool.false_eq_true, decide_true, decide_false, beq_self_eq_true]
theorem alike_rows (n : Nat) (d : D) (xs : List D) (hd : d = .list xs ∨ d = .tuple xs) (hl : xs.length ≤ 1000000) (h : ∀ x ∈ xs, C n 18 [.fz x, .fz x] = .ok (.fz (.bool true)) []) : C (n + 1) 18 [.fz d, .fz d] = .ok (.fz (.bool true)) [] := by
  rw [C_succ (fd := fd18) rfl ⟨rfl, rfl, rfl⟩]
  have hlen : lenV [d] = some (.fz (.int xs.length)) := by rcases hd with rfl | rfl <;> rfl
  have hix : ∀ k : Nat, Pz.ixD d (.int k) = at_ xs (k : Int) := fun k => by rcases hd with rfl | rfl <;> rfl
  have comp : ev (G n) (.cmp1 [2] (.n 2) (.r1 (.bi .len (.cons (.v 1) .nil))) (.nt (.call 18 (.cons (.ix (.v 0) (.v 2)) (.cons (.ix (.v 1) (.v 2)) .nil)))) (.v 2)) [.fz d, .fz d, .un] = .ok (.bx (.l [])) [.fz d, .fz d, .un] := by
    have h1 : evi (G n) (.r1 (.bi .len (.cons (.v 1) .nil))) [.fz d, .fz d, .un] = .ok ((List.range xs.length).map fun (k : Nat) => .int k) [.fz d, .fz d, .un] := by
      refine (evi_r1 (i := (xs.length : Int)) (ρ1 := [.fz d, .fz d, .un]) ?_ ⟨by omega, by omega⟩).trans (by rw [Int.toNat_natCast])
      simp only [Pz.ev, Pz.ev2, Pz.evl, R.both_1, R.bind_ap, R.pure_ap, R.look_fz, R.ofO_some, getV, List.getElem?_cons_zero, List.getElem?_cons_succ, looks, biV, hlen]
    obtain ⟨ys, ρ2, e, a1, _, s, rfl⟩ := comps_inv (own := [2]) (turn := fun d => M.bind ((Tgt.n 2).put d) fun _ => M.bind (evT (G n) (.nt (.call 18 (.cons (.ix (.v 0) (.v 2)) (.cons (.ix (.v 1) (.v 2)) .nil))))) fun k => if k then M.bind (ev (G n) (.v 2)) fun x => M.bind (keep x) fun y => M.pure (some y) else M.pure none)
      (fun ds acc ρ => acc = [] ∧ (∀ y ∈ ds, ∃ k : Nat, k < xs.length ∧ y = .int k) ∧ ∃ s : Slot, ρ = [.fz d, .fz d, s]) (fun y ds acc ρ ⟨i1, i2, s, i3⟩ => by
        subst i1 i3
        obtain ⟨k, hk, rfl⟩ := i2 _ (List.mem_cons_self ..)
        have hx : Pz.ixD d (.int k) = some xs[k] := by rw [hix, at_nat hk, List.getElem?_eq_getElem hk]
        have hc := h xs[k] (List.getElem_mem hk)
        refine ⟨none, [.fz d, .fz d, .fz (.int k)], ?_, rfl, fun z hz => i2 z (List.mem_cons_of_mem _ hz), _, rfl⟩
        simp only [Pz.evT, Pz.ev2, Pz.evg, R.both_1, R.both_2, R.bind_ap, R.pure_ap, R.look_fz, R.slot_fz, R.ofO_some, getV, setS, Tgt.put, wipe, List.foldl_cons, List.foldl_nil, List.getElem?_cons_zero, List.getElem?_cons_succ, List.set_cons_zero, List.set_cons_succ, List.length_cons, List.length_nil, Nat.reduceAdd, Nat.reduceLT, if_true, hx, R.call2, hc, R.ret0_ok, R.truthB, Bool.not_true, Bool.false_eq_true, if_false]) ((List.range xs.length).map fun (k : Nat) => .int k) [] [.fz d, .fz d, .un] ⟨rfl, fun y hy => by
          obtain ⟨k, hk, rfl⟩ := List.mem_map.mp hy
          exact ⟨k, List.mem_range.mp hk, rfl⟩, _, rfl⟩
    subst a1
    exact ev_cmp1 h1 rfl e
  have t1 : (tyD d .list || tyD d .tuple) = true := by rcases hd with rfl | rfl <;> rfl
  have leq : cmpD .eq (.int xs.length) (.int xs.length) = some true := by rw [R.eqI, beq_self_eq_true]
  have e0 : exec (G n) (.ifs [] (.or (.isi (.v 1) .list) (.isi (.v 1) .tuple)) (.cons (.ifs [] (.or (.cmp .ne (.isi (.v 0) .list) (.isi (.v 1) .list)) (.cmp .ne (.isi (.v 0) .tuple) (.isi (.v 1) .tuple))) (.cons (.ret [] (.c (.bool false))) .nil) .nil)
      (.cons (.ret [] (.an (.cmp .eq (.bi .len (.cons (.v 0) .nil)) (.bi .len (.cons (.v 1) .nil))) (.cmp .eq (.cmp1 [2] (.n 2) (.r1 (.bi .len (.cons (.v 1) .nil))) (.nt (.call 18 (.cons (.ix (.v 0) (.v 2)) (.cons (.ix (.v 1) (.v 2)) .nil)))) (.v 2)) (.lst .nil)))) .nil)) .nil) [.fz d, .fz d, .un] = .ok (.rt (.fz (.bool true))) [.fz d, .fz d, .un] := by
    have b1 : ∀ T : Ty, cmpD .ne (.bool (tyD d T)) (.bool (tyD d T)) = some false := fun T => by rw [R.neB, beq_self_eq_true]; rfl
    have tt : evT (G n) (.or (.isi (.v 1) .list) (.isi (.v 1) .tuple)) [.fz d, .fz d, .un] = .ok true [.fz d, .fz d, .un] := by
      rcases hd with rfl | rfl <;> rfl
    rw [ex_if (ρ1 := [.fz d, .fz d, .un]) rfl tt, if_pos rfl]
    have t2 : evT (G n) (.or (.cmp .ne (.isi (.v 0) .list) (.isi (.v 1) .list)) (.cmp .ne (.isi (.v 0) .tuple) (.isi (.v 1) .tuple))) [.fz d, .fz d, .un] = .ok false [.fz d, .fz d, .un] := by
      rcases hd with rfl | rfl <;> rfl
    rw [ex_nx (by rw [ex_if (ρ1 := [.fz d, .fz d, .un]) rfl t2, if_neg (by decide)]; rfl)]
    refine ex_rt (v := .fz (.bool true)) ?_
    have c2 : (ev2 (G n) (.cmp1 [2] (.n 2) (.r1 (.bi .len (.cons (.v 1) .nil))) (.nt (.call 18 (.cons (.ix (.v 0) (.v 2)) (.cons (.ix (.v 1) (.v 2)) .nil)))) (.v 2))).1 [.fz d, .fz d, .un] = .ok (.bx (.l [])) [.fz d, .fz d, .un] := comp
    have nn : cmpD .eq (.list []) (.list []) = some true := rfl
    generalize hT : (Tm.cmp1 [2] (.n 2) (.r1 (.bi .len (.cons (.v 1) .nil))) (.nt (.call 18 (.cons (.ix (.v 0) (.v 2)) (.cons (.ix (.v 1) (.v 2)) .nil)))) (.v 2)) = T at c2 ⊢
    simp only [Pz.exec, Pz.ev, Pz.ev2, Pz.evl, Pz.evs, frz, R.both_1, R.both_2, R.bind_ap, R.pure_ap, R.look_fz, R.look_bx, R.slot_fz, R.ofO_some, getV, List.getElem?_cons_zero, List.getElem?_cons_succ, looks, biV, hlen, leq, asBool, c2, if_true, Box.d, nn]
  show endOf [] (execs (G n) (.cons _ _) [.fz d, .fz d, .un]) = _
  rw [ex_rt e0]
  rfl
theorem alike_pr (n : Nat) (p : Int × Int) : C (n + 2) 18 [.fz (pr p), .fz (pr p)] = .ok (.fz (.bool true)) [] :=
  alike_rows (n + 1) (pr p) [.int p.1, .int p.2] (.inr rfl) (by show 2 ≤ 1000000; decide) fun x hx => by
    simp only [List.mem_cons, List.not_mem_nil, or_false] at hx
    rcases hx with rfl | rfl
    · exact alike_int n p.1
    · exact alike_int n p.2
theorem alike_due (n : Nat) (d : D) (h : (∃ p, d = pr p) ∨ ∃ x, d = .str x) : C (n + 2) 18 [.fz d, .fz d] = .ok (.fz (.bool true)) [] := by
  rcases h with ⟨p, rfl⟩ | ⟨x, rfl⟩
  · exact alike_pr n p
  · exact alike_str (n + 1) x
end K04

namespace K04
open Pz Pz.R
open PySem hiding execs exec
def Ints (l : List D) : Prop := ∀ d ∈ l, ∃ i, d = .int i
theorem Ints.app {l : List D} (h : Ints l) (i : Int) : Ints (l ++ [.int i]) := fun d hd => by
  rcases List.mem_append.mp hd with hd | hd
  · exact h d hd
  · exact ⟨i, List.mem_singleton.mp hd⟩
theorem take_ok (n : Nat) (l : List D) (hl : Ints l) (b : Int) (hb : 0 < b) : ∃ r l', C (n + 1) 17 [.bx (.l l) true false, .fz (.int b)] = .ok (.fz (.int r)) [.l l'] ∧ 0 ≤ r ∧ r < b ∧ Ints l' ∧ l'.length ≤ l.length := by
  rw [C_succ (fd := fd17) rfl ⟨rfl, rfl, rfl⟩]
  rcases List.eq_nil_or_concat l with rfl | ⟨l0, x, rfl⟩
  · exact ⟨0, [], rfl, by omega, hb, fun d hd => (by cases hd), Nat.le_refl _⟩
  · obtain ⟨i, rfl⟩ := hl x (by simp)
    have g : (l0 ++ [PyData.int i]).getLast? = some (.int i) := by simp
    have dl : (l0 ++ [PyData.int i]).dropLast = l0 := by simp
    have hb0 : b ≠ 0 := by omega
    have len : (((l0.length + 1 : Nat) : Int) == 0) = false := beq_eq_false_iff_ne.mpr (by omega)
    refine ⟨Int.fmod i b, l0, ?_, Int.fmod_nonneg_of_pos _ hb, Int.fmod_lt_of_pos _ hb, fun d hd => hl d (by simp [hd]), by simp⟩
    simp only [List.concat_eq_append, fd17, Pz.execs, Pz.exec, Pz.ev, Pz.evT, Pz.ev2, Pz.evs, Pz.evl, Pz.evg, Pz.evi, Pz.evf, R.both_1, R.both_2, R.bind_ap, R.pure_ap, R.ofO_some, R.ofO_none, R.look_fz, R.look_bx, R.keep_fz, R.keep_bx, R.slot_fz, R.slot_bx, R.putV_fz, R.putV_bx, getV, setS, looks, tyD, asBool, asInt, asVw, asIntV, R.eqI, R.neI, R.ltI, R.leI, R.gtI, R.geI, R.eqB, R.neB, R.eqS, R.neS, R.isN, R.nisN, isNone, R.truthB, R.truthI, R.look_vw', R.callI1', R.callI2', frz, biV, mtKind, lenV, absV, R.intV_int, strV, tupleV, listV, strOf, Pz.ixD, R.at_0, R.at_1, R.opII, R.addI, R.subI, R.call1, R.call2, R.call3, R.call4, R.ret0_ok, R.ret0_ex, R.ret1_ok, Option.map_some, Option.map_none, Option.some_or, Option.none_or, List.getElem?_cons_zero, List.getElem?_cons_succ, List.getElem?_nil, List.set_cons_zero, List.set_cons_succ, List.length_cons, List.length_nil, List.length_append, List.length_set, List.map_cons, List.map_nil, List.cons_append, List.nil_append, ite_true, ite_false, if_true, if_false, Bool.not_true, Bool.not_false, endOf, outsOf, Nat.reduceAdd, Nat.reduceLT, Nat.reduceLeDiff, Nat.lt_add_left_iff_pos, Nat.zero_lt_succ, List.replicate, Nat.reduceSub, Nat.sub_self, reduceIte, reduceCtorEq, Bool.false_eq_true, decide_true, decide_false, Box.d, popAt, g, dl, len, modI hb0]
theorem take_at (n : Nat) (l : List D) (hl : Ints l) (b : Int) (hb : 0 < b) : ∃ r : Int, ∃ l', C (n + 1) 17 [.bx (.l l) true false, .fz (.int b)] = .ok (.fz (.int r)) [.l l'] ∧ 0 ≤ r ∧ r < b ∧ Ints l' := by
  obtain ⟨r, l', h1, h2, h3, h4, _⟩ := take_ok n l hl b hb
  exact ⟨r, l', h1, h2, h3, h4⟩
def dA : Sms := (.cons (.asg [] 3 (.bi .abs (.cons (.v 2) .nil))) (.cons (.ifs [] (.cmp .lt (.v 3) (.bin .pow (.c (.int (10))) (.c (.int (18))))) (.cons (.asg [] 4 (.bin .mod (.bi .int (.cons (.bin .add (.bin .mul (.v 3) (.c (.int (48271)))) (.c (.int (11)))) .nil)) (.c (.int (2147483647))))) (.cons (.app [] 1 (.bin .mod (.bi .int (.cons (.bin .add (.bin .mul (.v 4) (.c (.int (69621)))) (.v 3)) .nil)) (.c (.int (2147483629))))) (.cons (.app [] 1 (.bin .mod (.bi .int (.cons (.bin .add (.v 4) (.bin .fdiv (.v 3) (.c (.int (7))))) .nil)) (.c (.int (1000003))))) (.cons (.asg [] 3 (.c (.int (0)))) .nil)))) .nil) (.cons (.for_ [] (.n 5) (.r1 (.c (.int (60)))) (.cons (.ifs [] (.cmp .gt (.v 3) (.c (.int (0)))) (.cons (.app [] 1 (.bin .mod (.bi .int (.cons (.v 3) .nil)) (.c (.int (997))))) (.cons (.asg [] 3 (.bin .fdiv (.v 3) (.c (.int (997))))) .nil)) .nil) .nil)) .nil)))
def dB : Sms := (.cons (.ifs [] (.cmp .gt (.v 3) (.c (.int (0)))) (.cons (.app [] 1 (.bin .mod (.bi .int (.cons (.v 3) .nil)) (.c (.int (997))))) (.cons (.asg [] 3 (.bin .fdiv (.v 3) (.c (.int (997))))) .nil)) .nil) .nil)
def dC : Sms := (.cons (.asg [] 6 (.bin .mod (.bi .int (.cons (.bin .add (.bin .mul (.v 6) (.c (.int (48271)))) (.c (.int (69621)))) .nil)) (.c (.int (2147483647))))) (.cons (.app [] 1 (.bin .fdiv (.v 6) (.c (.int (5))))) .nil))
theorem pow18 : opI .pow 10 18 = some (10 ^ 18) := by decide +kernel
theorem wide_bits {i j : Int} {m : Nat} (hi : Builtin.Int.intBits i ≤ m) (hm : m ≤ 134217000) (hj : Builtin.Int.intBits j ≤ 700) : opI .mul i j = some (i * j) := if_pos (decide_eq_true (by omega))
theorem dB_ok (n : Nat) (s0 s2 s4 s5 s6 : Slot) (l : List D) (hl : Ints l) (hn : l.length < lim) (x : Int) (hx : 0 ≤ x) : ∃ l' x', execs (G n) dB [s0, .bx (.l l) false false, s2, .fz (.int x), s4, s5, s6] = .ok .nx [s0, .bx (.l l') false false, s2, .fz (.int x'), s4, s5, s6] ∧ Ints l' ∧ l'.length ≤ l.length + 1 ∧ 0 ≤ x' := by
  by_cases h : 0 < x
  · have e7 : (997 : Int) ≠ 0 := by decide
    have e8 : (997 : Int).natAbs.log2 < 9000 := by decide +kernel
    refine ⟨l ++ [.int (Int.fmod x 997)], Int.fdiv x 997, ?_, hl.app _, by simp, Int.fdiv_nonneg hx (by decide)⟩
    simp only [dB, Pz.execs, Pz.exec, Pz.ev, Pz.evT, Pz.ev2, Pz.evs, Pz.evl, Pz.evg, Pz.evi, Pz.evf, R.both_1, R.both_2, R.bind_ap, R.pure_ap, R.ofO_some, R.ofO_none, R.look_fz, R.look_bx, R.keep_fz, R.keep_bx, R.slot_fz, R.slot_bx, R.putV_fz, R.putV_bx, getV, setS, looks, tyD, asBool, asInt, asVw, asIntV, R.eqI, R.neI, R.ltI, R.leI, R.gtI, R.geI, R.eqB, R.neB, R.eqS, R.neS, R.isN, R.nisN, isNone, R.truthB, R.truthI, R.look_vw', R.callI1', R.callI2', frz, biV, mtKind, lenV, absV, R.intV_int, strV, tupleV, listV, strOf, Pz.ixD, R.at_0, R.at_1, R.opII, R.addI, R.subI, R.call1, R.call2, R.call3, R.call4, R.ret0_ok, R.ret0_ex, R.ret1_ok, Option.map_some, Option.map_none, Option.some_or, Option.none_or, List.getElem?_cons_zero, List.getElem?_cons_succ, List.getElem?_nil, List.set_cons_zero, List.set_cons_succ, List.length_cons, List.length_nil, List.length_append, List.length_set, List.map_cons, List.map_nil, List.cons_append, List.nil_append, ite_true, ite_false, if_true, if_false, Bool.not_true, Bool.not_false, endOf, outsOf, Nat.reduceAdd, Nat.reduceLT, Nat.reduceLeDiff, Nat.lt_add_left_iff_pos, Nat.zero_lt_succ, List.replicate, Nat.reduceSub, Nat.sub_self, reduceIte, reduceCtorEq, Bool.false_eq_true, decide_true, decide_false, h, appAt, hn, modI e7, fdI e7 e8]
  · refine ⟨l, x, ?_, hl, by omega, hx⟩
    simp only [dB, Pz.execs, Pz.exec, Pz.ev, Pz.evT, Pz.ev2, Pz.evs, Pz.evl, Pz.evg, Pz.evi, Pz.evf, R.both_1, R.both_2, R.bind_ap, R.pure_ap, R.ofO_some, R.ofO_none, R.look_fz, R.look_bx, R.keep_fz, R.keep_bx, R.slot_fz, R.slot_bx, R.putV_fz, R.putV_bx, getV, setS, looks, tyD, asBool, asInt, asVw, asIntV, R.eqI, R.neI, R.ltI, R.leI, R.gtI, R.geI, R.eqB, R.neB, R.eqS, R.neS, R.isN, R.nisN, isNone, R.truthB, R.truthI, R.look_vw', R.callI1', R.callI2', frz, biV, mtKind, lenV, absV, R.intV_int, strV, tupleV, listV, strOf, Pz.ixD, R.at_0, R.at_1, R.opII, R.addI, R.subI, R.call1, R.call2, R.call3, R.call4, R.ret0_ok, R.ret0_ex, R.ret1_ok, Option.map_some, Option.map_none, Option.some_or, Option.none_or, List.getElem?_cons_zero, List.getElem?_cons_succ, List.getElem?_nil, List.set_cons_zero, List.set_cons_succ, List.length_cons, List.length_nil, List.length_append, List.length_set, List.map_cons, List.map_nil, List.cons_append, List.nil_append, ite_true, ite_false, if_true, if_false, Bool.not_true, Bool.not_false, endOf, outsOf, Nat.reduceAdd, Nat.reduceLT, Nat.reduceLeDiff, Nat.lt_add_left_iff_pos, Nat.zero_lt_succ, List.replicate, Nat.reduceSub, Nat.sub_self, reduceIte, reduceCtorEq, Bool.false_eq_true, decide_true, decide_false, h]
/-- the draws' slots -/
def Dr (sc : List D) (m : Nat) (ρ : Pz.Env) : Prop := ∃ l s2 s3 s4 s5 s6, ρ = [.fz (.list sc), .bx (.l l) false false, s2, s3, s4, s5, s6] ∧ Ints l ∧ l.length ≤ m
theorem loopB (n : Nat) (sc : List D) (m : Nat) (hm : m + 100 ≤ lim) (x : Int) (hx : 0 ≤ x) (l : List D) (s2 s4 s5 s6 : Slot) (hl : Ints l) (hn : l.length ≤ m) :
    ∃ ρ', exec (G n) (.for_ [] (.n 5) (.r1 (.c (.int (60)))) dB) [.fz (.list sc), .bx (.l l) false false, s2, .fz (.int x), s4, s5, s6] = .ok .nx ρ' ∧ Dr sc (m + 60) ρ' := by
  rw [ex_for (ρ1 := [.fz (.list sc), .bx (.l l) false false, s2, .fz (.int x), s4, s5, s6]) rfl (ds := (List.range 60).map fun (k : Nat) => .int k) (ρ2 := [.fz (.list sc), .bx (.l l) false false, s2, .fz (.int x), s4, s5, s6]) (evi_r1 (i := 60) rfl (by decide))]
  obtain ⟨ρ', e, l', s5', x', h1, h2, h3, h4⟩ := loop_inv (turn := fun d => M.bind ((Tgt.n 5).put d) fun _ => execs (G n) dB) (fun ds ρ => ∃ (l' : List D) (s5 : Slot) (x : Int), ρ = [.fz (.list sc), .bx (.l l') false false, s2, .fz (.int x), s4, s5, s6] ∧ Ints l' ∧ l'.length + ds.length ≤ m + 60 ∧ 0 ≤ x)
    (fun d ds ρ ⟨l', s5, x, h1, h2, h3, h4⟩ => by
      subst h1
      obtain ⟨l2, x2, g1, g2, g3, g4⟩ := dB_ok n (.fz (.list sc)) s2 s4 (.fz d) s6 l' h2 (by simp at h3; omega) x h4
      refine ⟨_, ?_, l2, .fz d, x2, rfl, g2, by simp at h3; omega, g4⟩
      exact g1) ((List.range 60).map fun (k : Nat) => .int k) [.fz (.list sc), .bx (.l l) false false, s2, .fz (.int x), s4, s5, s6] ⟨l, s5, x, rfl, hl, by simp; omega, hx⟩
  exact ⟨ρ', e, l', s2, _, s4, s5', s6, h1, h2, by simpa using h3⟩
def dAi : Pz.Sm := (.ifs [] (.cmp .lt (.v 3) (.bin .pow (.c (.int (10))) (.c (.int (18))))) (.cons (.asg [] 4 (.bin .mod (.bi .int (.cons (.bin .add (.bin .mul (.v 3) (.c (.int (48271)))) (.c (.int (11)))) .nil)) (.c (.int (2147483647))))) (.cons (.app [] 1 (.bin .mod (.bi .int (.cons (.bin .add (.bin .mul (.v 4) (.c (.int (69621)))) (.v 3)) .nil)) (.c (.int (2147483629))))) (.cons (.app [] 1 (.bin .mod (.bi .int (.cons (.bin .add (.v 4) (.bin .fdiv (.v 3) (.c (.int (7))))) .nil)) (.c (.int (1000003))))) (.cons (.asg [] 3 (.c (.int (0)))) .nil)))) .nil)
theorem dAi_no (n : Nat) (s0 s1 s2 s4 s5 s6 : Slot) (x : Int) (hc : ¬ x < 10 ^ 18) : exec (G n) dAi [s0, s1, s2, .fz (.int x), s4, s5, s6] = .ok .nx [s0, s1, s2, .fz (.int x), s4, s5, s6] := by
  simp only [dAi, Pz.execs, Pz.exec, Pz.ev, Pz.evT, Pz.ev2, Pz.evs, Pz.evl, Pz.evg, Pz.evi, Pz.evf, R.both_1, R.both_2, R.bind_ap, R.pure_ap, R.ofO_some, R.ofO_none, R.look_fz, R.look_bx, R.keep_fz, R.keep_bx, R.slot_fz, R.slot_bx, R.putV_fz, R.putV_bx, getV, setS, looks, tyD, asBool, asInt, asVw, asIntV, R.eqI, R.neI, R.ltI, R.leI, R.gtI, R.geI, R.eqB, R.neB, R.eqS, R.neS, R.isN, R.nisN, isNone, R.truthB, R.truthI, R.look_vw', R.callI1', R.callI2', frz, biV, mtKind, lenV, absV, R.intV_int, strV, tupleV, listV, strOf, Pz.ixD, R.at_0, R.at_1, R.opII, R.addI, R.subI, R.call1, R.call2, R.call3, R.call4, R.ret0_ok, R.ret0_ex, R.ret1_ok, Option.map_some, Option.map_none, Option.some_or, Option.none_or, List.getElem?_cons_zero, List.getElem?_cons_succ, List.getElem?_nil, List.set_cons_zero, List.set_cons_succ, List.length_cons, List.length_nil, List.length_append, List.length_set, List.map_cons, List.map_nil, List.cons_append, List.nil_append, ite_true, ite_false, if_true, if_false, Bool.not_true, Bool.not_false, endOf, outsOf, Nat.reduceAdd, Nat.reduceLT, Nat.reduceLeDiff, Nat.lt_add_left_iff_pos, Nat.zero_lt_succ, List.replicate, Nat.reduceSub, Nat.sub_self, reduceIte, reduceCtorEq, Bool.false_eq_true, decide_true, decide_false, pow18, hc]
theorem dAi_yes (n : Nat) (s0 s2 s4 s5 s6 : Slot) (l : List D) (hl : Ints l) (hn : l.length + 2 < lim) (x : Int) (hx : 0 ≤ x) (hc : x < 10 ^ 18) : ∃ l' y, exec (G n) dAi [s0, .bx (.l l) false false, s2, .fz (.int x), s4, s5, s6] = .ok .nx [s0, .bx (.l l') false false, s2, .fz (.int 0), .fz (.int y), s5, s6] ∧ Ints l' ∧ l'.length = l.length + 2 := by
  have w1 : opI .mul x 48271 = some (x * 48271) := wide_bits (m := 64) (intBits_le_iff.mpr (by omega)) (by decide) (by decide +kernel)
  have m1 : (2147483647 : Int) ≠ 0 := by decide
  have m2 : (2147483629 : Int) ≠ 0 := by decide
  have m3 : (1000003 : Int) ≠ 0 := by decide
  have m4 : (7 : Int) ≠ 0 := by decide
  have l4 : (7 : Int).natAbs.log2 < 9000 := by decide +kernel
  have n1 : l.length < lim := by omega
  have n2 : l.length + 1 < lim := by omega
  have w2 : opI .mul (Int.fmod (x * 48271 + 11) 2147483647) 69621 = some ((Int.fmod (x * 48271 + 11) 2147483647) * 69621) := by
    have h1 : 0 ≤ Int.fmod (x * 48271 + 11) 2147483647 := Int.fmod_nonneg_of_pos _ (by decide)
    have h2 : Int.fmod (x * 48271 + 11) 2147483647 < 2147483647 := Int.fmod_lt_of_pos _ (by decide)
    exact wide_bits (m := 64) (intBits_le_iff.mpr (by omega)) (by decide) (by decide +kernel)
  refine ⟨l ++ [.int (Int.fmod ((Int.fmod (x * 48271 + 11) 2147483647) * 69621 + x) 2147483629)] ++ [.int (Int.fmod (Int.fmod (x * 48271 + 11) 2147483647 + Int.fdiv x 7) 1000003)], Int.fmod (x * 48271 + 11) 2147483647, ?_, (hl.app _).app _, by simp⟩
  simp only [dAi, Pz.execs, Pz.exec, Pz.ev, Pz.evT, Pz.ev2, Pz.evs, Pz.evl, Pz.evg, Pz.evi, Pz.evf, R.both_1, R.both_2, R.bind_ap, R.pure_ap, R.ofO_some, R.ofO_none, R.look_fz, R.look_bx, R.keep_fz, R.keep_bx, R.slot_fz, R.slot_bx, R.putV_fz, R.putV_bx, getV, setS, looks, tyD, asBool, asInt, asVw, asIntV, R.eqI, R.neI, R.ltI, R.leI, R.gtI, R.geI, R.eqB, R.neB, R.eqS, R.neS, R.isN, R.nisN, isNone, R.truthB, R.truthI, R.look_vw', R.callI1', R.callI2', frz, biV, mtKind, lenV, absV, R.intV_int, strV, tupleV, listV, strOf, Pz.ixD, R.at_0, R.at_1, R.opII, R.addI, R.subI, R.call1, R.call2, R.call3, R.call4, R.ret0_ok, R.ret0_ex, R.ret1_ok, Option.map_some, Option.map_none, Option.some_or, Option.none_or, List.getElem?_cons_zero, List.getElem?_cons_succ, List.getElem?_nil, List.set_cons_zero, List.set_cons_succ, List.length_cons, List.length_nil, List.length_append, List.length_set, List.map_cons, List.map_nil, List.cons_append, List.nil_append, ite_true, ite_false, if_true, if_false, Bool.not_true, Bool.not_false, endOf, outsOf, Nat.reduceAdd, Nat.reduceLT, Nat.reduceLeDiff, Nat.lt_add_left_iff_pos, Nat.zero_lt_succ, List.replicate, Nat.reduceSub, Nat.sub_self, reduceIte, reduceCtorEq, Bool.false_eq_true, decide_true, decide_false, pow18, hc, appAt, n1, n2, w1, w2, modI m1, modI m2, modI m3, fdI m4 l4]
theorem dA_ok (n : Nat) (sc : List D) (m : Nat) (hm : m + 200 ≤ lim) (i : Int) (hi : Builtin.Int.intBits i ≤ 1048576) (ρ : Pz.Env) (h : Dr sc m ρ) : ∃ ρ', M.bind ((Tgt.n 2).put (.int i)) (fun _ => execs (G n) dA) ρ = .ok .nx ρ' ∧ Dr sc (m + 62) ρ' := by
  obtain ⟨l, s2, s3, s4, s5, s6, rfl, hl, hn⟩ := h
  have e1 : M.bind ((Tgt.n 2).put (.int i)) (fun _ => execs (G n) dA) [.fz (.list sc), .bx (.l l) false false, s2, s3, s4, s5, s6] = execs (G n) dA [.fz (.list sc), .bx (.l l) false false, .fz (.int i), s3, s4, s5, s6] := rfl
  rw [e1]
  have a1 : exec (G n) (.asg [] 3 (.bi .abs (.cons (.v 2) .nil))) [.fz (.list sc), .bx (.l l) false false, .fz (.int i), s3, s4, s5, s6] = .ok .nx [.fz (.list sc), .bx (.l l) false false, .fz (.int i), .fz (.int i.natAbs), s4, s5, s6] := by
    simp only [Pz.execs, Pz.exec, Pz.ev, Pz.evT, Pz.ev2, Pz.evs, Pz.evl, Pz.evg, Pz.evi, Pz.evf, R.both_1, R.both_2, R.bind_ap, R.pure_ap, R.ofO_some, R.ofO_none, R.look_fz, R.look_bx, R.keep_fz, R.keep_bx, R.slot_fz, R.slot_bx, R.putV_fz, R.putV_bx, getV, setS, looks, tyD, asBool, asInt, asVw, asIntV, R.eqI, R.neI, R.ltI, R.leI, R.gtI, R.geI, R.eqB, R.neB, R.eqS, R.neS, R.isN, R.nisN, isNone, R.truthB, R.truthI, R.look_vw', R.callI1', R.callI2', frz, biV, mtKind, lenV, absV, R.intV_int, strV, tupleV, listV, strOf, Pz.ixD, R.at_0, R.at_1, R.opII, R.addI, R.subI, R.call1, R.call2, R.call3, R.call4, R.ret0_ok, R.ret0_ex, R.ret1_ok, Option.map_some, Option.map_none, Option.some_or, Option.none_or, List.getElem?_cons_zero, List.getElem?_cons_succ, List.getElem?_nil, List.set_cons_zero, List.set_cons_succ, List.length_cons, List.length_nil, List.length_append, List.length_set, List.map_cons, List.map_nil, List.cons_append, List.nil_append, ite_true, ite_false, if_true, if_false, Bool.not_true, Bool.not_false, endOf, outsOf, Nat.reduceAdd, Nat.reduceLT, Nat.reduceLeDiff, Nat.lt_add_left_iff_pos, Nat.zero_lt_succ, List.replicate, Nat.reduceSub, Nat.sub_self, reduceIte, reduceCtorEq, Bool.false_eq_true, decide_true, decide_false, abs_ite]
  show ∃ ρ', execs (G n) (.cons _ (.cons dAi (.cons (.for_ [] (.n 5) (.r1 (.c (.int (60)))) dB) .nil))) _ = _ ∧ _
  rw [ex_nx a1]
  by_cases hc : (i.natAbs : Int) < 10 ^ 18
  · obtain ⟨l1, y, a2, a3, a4⟩ := dAi_yes n (.fz (.list sc)) (.fz (.int i)) s4 s5 s6 l hl (by omega) (i.natAbs : Int) (by omega) hc
    rw [ex_nx a2]
    obtain ⟨ρ', b1, l', t2, t3, t4, t5, t6, b2, b3, b4⟩ := loopB n sc (m + 2) (by omega) 0 (Int.le_refl _) l1 (.fz (.int i)) (.fz (.int y)) s5 s6 a3 (by omega)
    rw [ex_nx b1]
    exact ⟨ρ', rfl, l', t2, t3, t4, t5, t6, b2, b3, by omega⟩
  · rw [ex_nx (dAi_no n _ _ _ _ _ _ _ hc)]
    obtain ⟨ρ', b1, l', t2, t3, t4, t5, t6, b2, b3, b4⟩ := loopB n sc m (by omega) (i.natAbs : Int) (by omega) l (.fz (.int i)) s4 s5 s6 hl hn
    rw [ex_nx b1]
    exact ⟨ρ', rfl, l', t2, t3, t4, t5, t6, b2, b3, by omega⟩
theorem dC_ok (n : Nat) (s0 s2 s3 s4 s5 : Slot) (l : List D) (hl : Ints l) (hn : l.length < lim) (x : Int) (hb : Builtin.Int.intBits x ≤ 1048600) : ∃ l' y, execs (G n) dC [s0, .bx (.l l) false false, s2, s3, s4, s5, .fz (.int x)] = .ok .nx [s0, .bx (.l l') false false, s2, s3, s4, s5, .fz (.int y)] ∧ Ints l' ∧ l'.length = l.length + 1 ∧ Builtin.Int.intBits y ≤ 1048600 := by
  have w1 : opI .mul x 48271 = some (x * 48271) := wide_bits (m := 1048600) hb (by decide) (by decide +kernel)
  have m1 : (2147483647 : Int) ≠ 0 := by decide
  have m4 : (5 : Int) ≠ 0 := by decide
  have l4 : (5 : Int).natAbs.log2 < 9000 := by decide +kernel
  refine ⟨l ++ [.int (Int.fdiv (Int.fmod (x * 48271 + 69621) 2147483647) 5)], Int.fmod (x * 48271 + 69621) 2147483647, ?_, hl.app _, by simp, ?_⟩
  · simp only [dC, Pz.execs, Pz.exec, Pz.ev, Pz.evT, Pz.ev2, Pz.evs, Pz.evl, Pz.evg, Pz.evi, Pz.evf, R.both_1, R.both_2, R.bind_ap, R.pure_ap, R.ofO_some, R.ofO_none, R.look_fz, R.look_bx, R.keep_fz, R.keep_bx, R.slot_fz, R.slot_bx, R.putV_fz, R.putV_bx, getV, setS, looks, tyD, asBool, asInt, asVw, asIntV, R.eqI, R.neI, R.ltI, R.leI, R.gtI, R.geI, R.eqB, R.neB, R.eqS, R.neS, R.isN, R.nisN, isNone, R.truthB, R.truthI, R.look_vw', R.callI1', R.callI2', frz, biV, mtKind, lenV, absV, R.intV_int, strV, tupleV, listV, strOf, Pz.ixD, R.at_0, R.at_1, R.opII, R.addI, R.subI, R.call1, R.call2, R.call3, R.call4, R.ret0_ok, R.ret0_ex, R.ret1_ok, Option.map_some, Option.map_none, Option.some_or, Option.none_or, List.getElem?_cons_zero, List.getElem?_cons_succ, List.getElem?_nil, List.set_cons_zero, List.set_cons_succ, List.length_cons, List.length_nil, List.length_append, List.length_set, List.map_cons, List.map_nil, List.cons_append, List.nil_append, ite_true, ite_false, if_true, if_false, Bool.not_true, Bool.not_false, endOf, outsOf, Nat.reduceAdd, Nat.reduceLT, Nat.reduceLeDiff, Nat.lt_add_left_iff_pos, Nat.zero_lt_succ, List.replicate, Nat.reduceSub, Nat.sub_self, reduceIte, reduceCtorEq, Bool.false_eq_true, decide_true, decide_false, appAt, hn, w1, modI m1, fdI m4 l4]
  · have h1 : 0 ≤ Int.fmod (x * 48271 + 69621) 2147483647 := Int.fmod_nonneg_of_pos _ (by decide)
    have h2 : Int.fmod (x * 48271 + 69621) 2147483647 < 2147483647 := Int.fmod_lt_of_pos _ (by decide)
    have h3 : Builtin.Int.intBits (Int.fmod (x * 48271 + 69621) 2147483647) ≤ 64 := intBits_le_iff.mpr (by omega)
    omega
def dS : Pz.Sm := (.ifs [] (.cmp .gt (.bi .len (.cons (.v 0) .nil)) (.c (.int (0)))) (.cons (.asg [] 6 (.bin .add (.c (.int (1))) (.bi .abs (.cons (.ix (.v 0) (.c (.int (0)))) .nil)))) .nil) .nil)
theorem dS_ok (n : Nat) (ns : List Int) (hz : ∀ z ∈ ns, Builtin.Int.intBits z ≤ 1048576) (s1 s2 s3 s4 s5 : Slot) : ∃ y, exec (G n) dS [.fz (.list (ns.map .int)), s1, s2, s3, s4, s5, .fz (.int 1)] = .ok .nx [.fz (.list (ns.map .int)), s1, s2, s3, s4, s5, .fz (.int y)] ∧ Builtin.Int.intBits y ≤ 1048600 := by
  cases ns with
  | nil => exact ⟨1, rfl, by decide +kernel⟩
  | cons z zs =>
    have hb := hz z (List.mem_cons_self ..)
    have h0 : decide ((0 : Int) < (((zs.map PyData.int).length + 1 : Nat) : Int)) = true := decide_eq_true (by omega)
    refine ⟨1 + (z.natAbs : Int), ?_, ?_⟩
    · simp only [dS, Pz.execs, Pz.exec, Pz.ev, Pz.evT, Pz.ev2, Pz.evs, Pz.evl, Pz.evg, Pz.evi, Pz.evf, R.both_1, R.both_2, R.bind_ap, R.pure_ap, R.ofO_some, R.ofO_none, R.look_fz, R.look_bx, R.keep_fz, R.keep_bx, R.slot_fz, R.slot_bx, R.putV_fz, R.putV_bx, getV, setS, looks, tyD, asBool, asInt, asVw, asIntV, R.eqI, R.neI, R.ltI, R.leI, R.gtI, R.geI, R.eqB, R.neB, R.eqS, R.neS, R.isN, R.nisN, isNone, R.truthB, R.truthI, R.look_vw', R.callI1', R.callI2', frz, biV, mtKind, lenV, absV, R.intV_int, strV, tupleV, listV, strOf, Pz.ixD, R.at_0, R.at_1, R.opII, R.addI, R.subI, R.call1, R.call2, R.call3, R.call4, R.ret0_ok, R.ret0_ex, R.ret1_ok, Option.map_some, Option.map_none, Option.some_or, Option.none_or, List.getElem?_cons_zero, List.getElem?_cons_succ, List.getElem?_nil, List.set_cons_zero, List.set_cons_succ, List.length_cons, List.length_nil, List.length_append, List.length_set, List.map_cons, List.map_nil, List.cons_append, List.nil_append, ite_true, ite_false, if_true, if_false, Bool.not_true, Bool.not_false, endOf, outsOf, Nat.reduceAdd, Nat.reduceLT, Nat.reduceLeDiff, Nat.lt_add_left_iff_pos, Nat.zero_lt_succ, List.replicate, Nat.reduceSub, Nat.sub_self, reduceIte, reduceCtorEq, Bool.false_eq_true, decide_true, decide_false, h0, abs_ite]
    · have := intBits_add_le (x := 1) (y := (z.natAbs : Int)) (m := 1) (n := 1048576) (by decide +kernel) (intBits_natAbs_le hb)
      have e : max 1 1048576 + 1 = 1048577 := by decide
      omega
theorem draws_ok (n : Nat) (ns : List Int) (hl : ns.length ≤ 63) (hz : ∀ z ∈ ns, Builtin.Int.intBits z ≤ 1048576) : ∃ ds, C (n + 1) 16 [.fz (.list (ns.map .int))] = .ok (.bx (.l ds)) [] ∧ Ints ds := by
  rw [C_succ (fd := fd16) rfl ⟨rfl, rfl, rfl⟩]
  show ∃ ds, endOf [] (execs (G n) (.cons (.asg [] 1 (.lst .nil)) (.cons (.for_ [] (.n 2) (.el (.v 0)) dA) (.cons (.asg [] 6 (.c (.int (1)))) (.cons dS (.cons (.for_ [] (.n 5) (.r1 (.c (.int (900)))) dC) (.cons (.ret [] (.bi .lrev (.cons (.v 1) .nil))) .nil)))))) [.fz (.list (ns.map .int)), .un, .un, .un, .un, .un, .un]) = _ ∧ _
  have a1 : exec (G n) (.asg [] 1 (.lst .nil)) [.fz (.list (ns.map .int)), .un, .un, .un, .un, .un, .un] = .ok .nx [.fz (.list (ns.map .int)), .bx (.l []) false false, .un, .un, .un, .un, .un] := rfl
  rw [ex_nx a1]
  have a2 : ∃ ρ', exec (G n) (.for_ [] (.n 2) (.el (.v 0)) dA) [.fz (.list (ns.map .int)), .bx (.l []) false false, .un, .un, .un, .un, .un] = .ok .nx ρ' ∧ ∃ m, Dr (ns.map .int) m ρ' ∧ m ≤ 62 * 63 := by
    rw [ex_for (ρ1 := [.fz (.list (ns.map .int)), .bx (.l []) false false, .un, .un, .un, .un, .un]) rfl (ds := ns.map .int) (ρ2 := [.fz (.list (ns.map .int)), .bx (.l []) false false, .un, .un, .un, .un, .un]) rfl]
    obtain ⟨ρ', e, m, h1, h2, h3⟩ := loop_inv (turn := fun d => M.bind ((Tgt.n 2).put d) fun _ => execs (G n) dA) (fun ds ρ => ∃ m, Dr (ns.map .int) m ρ ∧ m + 62 * ds.length ≤ 62 * 63 ∧ ∀ d ∈ ds, ∃ i, d = .int i ∧ Builtin.Int.intBits i ≤ 1048576)
      (fun d ds ρ ⟨m, h1, h2, h3⟩ => by
        obtain ⟨i, rfl, hi⟩ := h3 d (List.mem_cons_self ..)
        rw [List.length_cons] at h2
        obtain ⟨ρ', g1, g2⟩ := dA_ok n (ns.map .int) m (by unfold lim; omega) i hi ρ h1
        exact ⟨ρ', g1, m + 62, g2, by omega, fun d hd => h3 d (List.mem_cons_of_mem _ hd)⟩) (ns.map .int) [.fz (.list (ns.map .int)), .bx (.l []) false false, .un, .un, .un, .un, .un]
      ⟨0, ⟨[], .un, .un, .un, .un, .un, rfl, fun d hd => by (cases hd), Nat.le_refl _⟩, by rw [List.length_map]; omega, fun d hd => by
        obtain ⟨z, hz2, rfl⟩ := List.mem_map.mp hd
        exact ⟨z, rfl, hz z hz2⟩⟩
    exact ⟨ρ', e, m, h1, by omega⟩
  obtain ⟨ρ1, e1, m, ⟨l, s2, s3, s4, s5, s6, rfl, hi, hn⟩, hm⟩ := a2
  rw [ex_nx e1]
  have a3 : exec (G n) (.asg [] 6 (.c (.int (1)))) [.fz (.list (ns.map .int)), .bx (.l l) false false, s2, s3, s4, s5, s6] = .ok .nx [.fz (.list (ns.map .int)), .bx (.l l) false false, s2, s3, s4, s5, .fz (.int 1)] := rfl
  rw [ex_nx a3]
  obtain ⟨y, e4, hy⟩ := dS_ok n ns hz (.bx (.l l) false false) s2 s3 s4 s5
  rw [ex_nx e4]
  have a5 : ∃ ρ', exec (G n) (.for_ [] (.n 5) (.r1 (.c (.int (900)))) dC) [.fz (.list (ns.map .int)), .bx (.l l) false false, s2, s3, s4, s5, .fz (.int y)] = .ok .nx ρ' ∧ ∃ l' s5 y, ρ' = [.fz (.list (ns.map .int)), .bx (.l l') false false, s2, s3, s4, s5, .fz (.int y)] ∧ Ints l' := by
    rw [ex_for (ρ1 := [.fz (.list (ns.map .int)), .bx (.l l) false false, s2, s3, s4, s5, .fz (.int y)]) rfl (evi_r1 (i := 900) rfl (by decide))]
    obtain ⟨ρ', e, l', s5', y', h1, h2, h3, h4⟩ := loop_inv (turn := fun d => M.bind ((Tgt.n 5).put d) fun _ => execs (G n) dC) (fun ds ρ => ∃ (l' : List D) (s5 : Slot) (y : Int), ρ = [.fz (.list (ns.map .int)), .bx (.l l') false false, s2, s3, s4, s5, .fz (.int y)] ∧ Ints l' ∧ l'.length + ds.length ≤ 10000 ∧ Builtin.Int.intBits y ≤ 1048600)
      (fun d ds ρ ⟨l', s5, y, h1, h2, h3, h4⟩ => by
        subst h1
        rw [List.length_cons] at h3
        obtain ⟨l2, y2, g1, g2, g3, g4⟩ := dC_ok n (.fz (.list (ns.map .int))) s2 s3 s4 (.fz d) l' h2 (by unfold lim; omega) y h4
        exact ⟨_, g1, l2, .fz d, y2, rfl, g2, by omega, g4⟩) ((List.range (900 : Int).toNat).map fun (k : Nat) => .int k) _ ⟨l, s5, y, rfl, hi, by rw [List.length_map, List.length_range]; show l.length + 900 ≤ 10000; omega, hy⟩
    exact ⟨ρ', e, l', s5', y', h1, h2⟩
  obtain ⟨ρ2, e5, l', s5', y', rfl, hl'⟩ := a5
  rw [ex_nx e5]
  exact ⟨l'.reverse, rfl, fun d hd => hl' d (List.mem_reverse.mp hd)⟩
end K04

namespace K04
open Pz Pz.R
open PySem hiding execs exec
theorem pow59 : opI .pow 10 59 = some (10 ^ 59) := by decide +kernel
/-- a part as the law draws it -/
theorem pt_bd {a b : Int} (h : b ≠ 0) (ha : a.natAbs ≤ 10 ^ 60) (hb : b.natAbs ≤ 10 ^ 60) : Bd (pt a b) ∧ Low (pt a b) := ⟨⟨Nat.le_trans (pt_num h) ha, Nat.le_trans (pt_den h) hb⟩, pt_low h⟩
theorem great_ok (n : Nat) (l : List D) (hl : Ints l) : ∃ p l', C (n + 2) 28 [.bx (.l l) true false] = .ok (.fz (pr p)) [.l l'] ∧ Ints l' ∧ Bd p ∧ Low p := by
  rw [C_succ (fd := fd28) rfl ⟨rfl, rfl, rfl⟩]
  obtain ⟨r, l1, h1, h2, h3, h4⟩ := take_at n l hl 5 (by decide)
  have p59 : ((10 : Int) ^ 59) = (((10 ^ 59 : Nat)) : Int) := by decide +kernel
  have q60 : (10 : Nat) ^ 60 = 10 * 10 ^ 59 := by decide
  have q1 : 2000 < (10 : Nat) ^ 59 := by decide
  have p60 := p60
  generalize hA : (10 : Nat) ^ 59 = A at p59 q60 q1
  generalize hB : (10 : Nat) ^ 60 = B at p60 q60
  by_cases r0 : r = 0
  · have e0 : (r == 0) = true := beq_iff_eq.mpr r0
    obtain ⟨u, l2, u1, u2, u3, u4⟩ := take_at n l1 h4 3 (by decide)
    obtain ⟨v, l3, v1, v2, v3, v4⟩ := take_at n l2 u4 2 (by decide)
    have b0 : (1 : Int) + v ≠ 0 := by omega
    have c1 : ((10 : Int) ^ 60 - u).natAbs ≤ 10 ^ 60 := by rw [p60, hB]; omega
    have c2 : ((1 : Int) + v).natAbs ≤ 10 ^ 60 := by rw [hB]; omega
    have lp := law_part_ok n ((10 : Int) ^ 60 - u) (1 + v) (sm_bd c1) (sm_bd c2) b0
    obtain ⟨g1, g2⟩ := pt_bd b0 c1 c2
    refine ⟨_, l3, ?_, v4, g1, g2⟩
    simp only [fd28, Pz.execs, Pz.exec, Pz.ev, Pz.evT, Pz.ev2, Pz.evs, Pz.evl, Pz.evg, Pz.evi, Pz.evf, R.both_1, R.both_2, R.bind_ap, R.pure_ap, R.ofO_some, R.ofO_none, R.look_fz, R.look_bx, R.keep_fz, R.keep_bx, R.slot_fz, R.slot_bx, R.putV_fz, R.putV_bx, getV, setS, looks, tyD, asBool, asInt, asVw, asIntV, R.eqI, R.neI, R.ltI, R.leI, R.gtI, R.geI, R.eqB, R.neB, R.eqS, R.neS, R.isN, R.nisN, isNone, R.truthB, R.truthI, R.look_vw', R.callI1', R.callI2', frz, biV, mtKind, lenV, absV, R.intV_int, strV, tupleV, listV, strOf, Pz.ixD, R.at_0, R.at_1, R.opII, R.addI, R.subI, R.call1, R.call2, R.call3, R.call4, R.ret0_ok, R.ret0_ex, R.ret1_ok, Option.map_some, Option.map_none, Option.some_or, Option.none_or, List.getElem?_cons_zero, List.getElem?_cons_succ, List.getElem?_nil, List.set_cons_zero, List.set_cons_succ, List.length_cons, List.length_nil, List.length_append, List.length_set, List.map_cons, List.map_nil, List.cons_append, List.nil_append, ite_true, ite_false, if_true, if_false, Bool.not_true, Bool.not_false, endOf, outsOf, Nat.reduceAdd, Nat.reduceLT, Nat.reduceLeDiff, Nat.lt_add_left_iff_pos, Nat.zero_lt_succ, List.replicate, Nat.reduceSub, Nat.sub_self, reduceIte, reduceCtorEq, Bool.false_eq_true, decide_true, decide_false, h1, e0, pow60, u1, v1, lp]
  · have e0 : (r == 0) = false := beq_eq_false_iff_ne.mpr r0
    by_cases r1 : r = 1
    · have e1 : (r == 1) = true := beq_iff_eq.mpr r1
      obtain ⟨u, l2, u1, u2, u3, u4⟩ := take_at n l1 h4 7 (by decide)
      obtain ⟨v, l3, v1, v2, v3, v4⟩ := take_at n l2 u4 900 (by decide)
      have b0 : (10 : Int) ^ 59 + v ≠ 0 := by omega
      have c1 : (u - 3).natAbs ≤ 10 ^ 60 := by rw [hB]; omega
      have c2 : ((10 : Int) ^ 59 + v).natAbs ≤ 10 ^ 60 := by rw [p59, hB]; omega
      have lp := law_part_ok n (u - 3) ((10 : Int) ^ 59 + v) (sm_bd c1) (sm_bd c2) b0
      obtain ⟨g1, g2⟩ := pt_bd b0 c1 c2
      refine ⟨_, l3, ?_, v4, g1, g2⟩
      simp only [fd28, Pz.execs, Pz.exec, Pz.ev, Pz.evT, Pz.ev2, Pz.evs, Pz.evl, Pz.evg, Pz.evi, Pz.evf, R.both_1, R.both_2, R.bind_ap, R.pure_ap, R.ofO_some, R.ofO_none, R.look_fz, R.look_bx, R.keep_fz, R.keep_bx, R.slot_fz, R.slot_bx, R.putV_fz, R.putV_bx, getV, setS, looks, tyD, asBool, asInt, asVw, asIntV, R.eqI, R.neI, R.ltI, R.leI, R.gtI, R.geI, R.eqB, R.neB, R.eqS, R.neS, R.isN, R.nisN, isNone, R.truthB, R.truthI, R.look_vw', R.callI1', R.callI2', frz, biV, mtKind, lenV, absV, R.intV_int, strV, tupleV, listV, strOf, Pz.ixD, R.at_0, R.at_1, R.opII, R.addI, R.subI, R.call1, R.call2, R.call3, R.call4, R.ret0_ok, R.ret0_ex, R.ret1_ok, Option.map_some, Option.map_none, Option.some_or, Option.none_or, List.getElem?_cons_zero, List.getElem?_cons_succ, List.getElem?_nil, List.set_cons_zero, List.set_cons_succ, List.length_cons, List.length_nil, List.length_append, List.length_set, List.map_cons, List.map_nil, List.cons_append, List.nil_append, ite_true, ite_false, if_true, if_false, Bool.not_true, Bool.not_false, endOf, outsOf, Nat.reduceAdd, Nat.reduceLT, Nat.reduceLeDiff, Nat.lt_add_left_iff_pos, Nat.zero_lt_succ, List.replicate, Nat.reduceSub, Nat.sub_self, reduceIte, reduceCtorEq, Bool.false_eq_true, decide_true, decide_false, h1, e0, e1, pow59, u1, v1, lp]
    · have e1 : (r == 1) = false := beq_eq_false_iff_ne.mpr r1
      obtain ⟨u, l2, u1, u2, u3, u4⟩ := take_at n l1 h4 2000 (by decide)
      obtain ⟨v, l3, v1, v2, v3, v4⟩ := take_at n l2 u4 60 (by decide)
      have b0 : (1 : Int) + v ≠ 0 := by omega
      have c1 : (u - 1000).natAbs ≤ 10 ^ 60 := by rw [hB]; omega
      have c2 : ((1 : Int) + v).natAbs ≤ 10 ^ 60 := by rw [hB]; omega
      have lp := law_part_ok n (u - 1000) (1 + v) (sm_bd c1) (sm_bd c2) b0
      obtain ⟨g1, g2⟩ := pt_bd b0 c1 c2
      refine ⟨_, l3, ?_, v4, g1, g2⟩
      simp only [fd28, Pz.execs, Pz.exec, Pz.ev, Pz.evT, Pz.ev2, Pz.evs, Pz.evl, Pz.evg, Pz.evi, Pz.evf, R.both_1, R.both_2, R.bind_ap, R.pure_ap, R.ofO_some, R.ofO_none, R.look_fz, R.look_bx, R.keep_fz, R.keep_bx, R.slot_fz, R.slot_bx, R.putV_fz, R.putV_bx, getV, setS, looks, tyD, asBool, asInt, asVw, asIntV, R.eqI, R.neI, R.ltI, R.leI, R.gtI, R.geI, R.eqB, R.neB, R.eqS, R.neS, R.isN, R.nisN, isNone, R.truthB, R.truthI, R.look_vw', R.callI1', R.callI2', frz, biV, mtKind, lenV, absV, R.intV_int, strV, tupleV, listV, strOf, Pz.ixD, R.at_0, R.at_1, R.opII, R.addI, R.subI, R.call1, R.call2, R.call3, R.call4, R.ret0_ok, R.ret0_ex, R.ret1_ok, Option.map_some, Option.map_none, Option.some_or, Option.none_or, List.getElem?_cons_zero, List.getElem?_cons_succ, List.getElem?_nil, List.set_cons_zero, List.set_cons_succ, List.length_cons, List.length_nil, List.length_append, List.length_set, List.map_cons, List.map_nil, List.cons_append, List.nil_append, ite_true, ite_false, if_true, if_false, Bool.not_true, Bool.not_false, endOf, outsOf, Nat.reduceAdd, Nat.reduceLT, Nat.reduceLeDiff, Nat.lt_add_left_iff_pos, Nat.zero_lt_succ, List.replicate, Nat.reduceSub, Nat.sub_self, reduceIte, reduceCtorEq, Bool.false_eq_true, decide_true, decide_false, h1, e0, e1, u1, v1, lp]
theorem textOf_len {p : Int × Int} (hp : Bd p) : (textOf p).length ≤ 200 := by
  have h1 := bd_len hp.1
  have h2 := bd_len hp.2
  unfold textOf
  split
  · omega
  · rw [app_len, app_len, slash_len]
    omega
theorem readF_text {p : Int × Int} (hp : Bd p) (hl : Low p) : readF (textOf p) = some p := by
  have f1 : p.1.natAbs < 10 ^ 61 := Nat.lt_of_le_of_lt hp.1 (by decide)
  have f2 : p.2.natAbs < 10 ^ 61 := Nat.lt_of_le_of_lt hp.2 (by decide)
  have i1 := num_int (i := p.1) (Nat.lt_trans f1 (by decide))
  have i2 := num_int (i := p.2) (Nat.lt_trans f2 (by decide))
  have pb : partB p = true := (partB_iff p).mpr ⟨hp, hl⟩
  have pos := hl.pos
  by_cases h : p.2 = 1
  · have t : textOf p = num p.1 := if_pos h
    have e : Txt.partition (num p.1) slash = (num p.1, Str.empty, Str.empty) := TL.partition_none slash_tl (num_free p.1)
    have ne : (Str.empty == slash) = false := by decide +kernel
    unfold readF
    rw [t, e]
    simp only [fig_num f1, ne, Bool.not_false, Bool.true_or, Bool.and_true, if_true, i1, Bool.false_eq_true, if_false]
    have pe : p = (p.1, 1) := by rw [← h]
    rw [← pe, pb, t]
    simp
  · have t : textOf p = num p.1 ++ slash ++ num p.2 := if_neg h
    have e : Txt.partition (num p.1 ++ slash ++ num p.2) slash = (num p.1, slash, num p.2) := TL.partition_app slash_tl (num_free p.1)
    have fg : figB (num p.2) = true := figB_numL (by rw [num_tl, if_neg (by omega)]) f2
    unfold readF
    rw [t, e]
    simp only [fig_num f1, fg, beq_self_eq_true, Bool.not_true, Bool.or_true, Bool.and_true, if_true, i1, i2]
    rw [pb, t]
    simp
theorem readF_is {v : Str} {p : Int × Int} (h : readF v = some p) : partB p = true ∧ textOf p = v := by
  unfold readF at h
  split at h
  · split at h
    · split at h
      · rename_i c
        cases h
        rw [Bool.and_eq_true] at c
        exact ⟨c.1, eq_of_beq c.2⟩
      · cases h
    · cases h
  · cases h
end K04

namespace K04
open Pz Pz.R
open PySem hiding execs exec
theorem says_ok (n : Nat) (a b : Bool) : C (n + 1) 19 [.fz (.bool a), .fz (.bool b)] = .ok (.fz (.bool (a == b))) [] := by
  rw [C_succ (fd := fd19) rfl ⟨rfl, rfl, rfl⟩]
  simp only [fd19, Pz.execs, Pz.exec, Pz.ev, Pz.evT, Pz.ev2, Pz.evs, Pz.evl, Pz.evg, Pz.evi, Pz.evf, R.both_1, R.both_2, R.bind_ap, R.pure_ap, R.ofO_some, R.ofO_none, R.look_fz, R.look_bx, R.keep_fz, R.keep_bx, R.slot_fz, R.slot_bx, R.putV_fz, R.putV_bx, getV, setS, looks, tyD, asBool, asInt, asVw, asIntV, R.eqI, R.neI, R.ltI, R.leI, R.gtI, R.geI, R.eqB, R.neB, R.eqS, R.neS, R.isN, R.nisN, isNone, R.truthB, R.truthI, R.look_vw', R.callI1', R.callI2', frz, biV, mtKind, lenV, absV, R.intV_int, strV, tupleV, listV, strOf, Pz.ixD, R.at_0, R.at_1, R.opII, R.addI, R.subI, R.call1, R.call2, R.call3, R.call4, R.ret0_ok, R.ret0_ex, R.ret1_ok, Option.map_some, Option.map_none, Option.some_or, Option.none_or, List.getElem?_cons_zero, List.getElem?_cons_succ, List.getElem?_nil, List.set_cons_zero, List.set_cons_succ, List.length_cons, List.length_nil, List.length_append, List.length_set, List.map_cons, List.map_nil, List.cons_append, List.nil_append, ite_true, ite_false, if_true, if_false, Bool.not_true, Bool.not_false, endOf, outsOf, Nat.reduceAdd, Nat.reduceLT, Nat.reduceLeDiff, Nat.lt_add_left_iff_pos, Nat.zero_lt_succ, List.replicate, Nat.reduceSub, Nat.sub_self, reduceIte, reduceCtorEq, Bool.false_eq_true, decide_true, decide_false]
def l20 : Pz.Sm := (.par2 [] 3 4 (.call 28 (.io 1 .nil)) (.call 28 (.io 1 .nil)))
def l21 : Pz.Sm := (.ifs [4] (.or (.nt (.call 19 (.cons (.call 2 (.cons (.v 3) .nil)) (.cons (.c (.bool true)) .nil)))) (.nt (.call 19 (.cons (.call 8 (.cons (.v 3) (.cons (.v 4) .nil))) (.cons (.call 25 (.cons (.v 3) (.cons (.v 4) .nil))) .nil))))) (.cons (.ret [] (.c (.bool false))) .nil) .nil)
def l22 : Pz.Sm := (.for_ [] (.n 5) (.r1 (.c (.int (4)))) (.cons (.ifs [4] (.nt (.call 18 (.cons (.call 27 (.cons (.v 5) (.cons (.v 3) (.cons (.v 4) .nil)))) (.cons (.call 29 (.cons (.v 5) (.cons (.v 3) (.cons (.v 4) .nil)))) .nil)))) (.cons (.ret [] (.c (.bool false))) .nil) .nil) .nil))
def l22b : Sms := (.cons (.ifs [4] (.nt (.call 18 (.cons (.call 27 (.cons (.v 5) (.cons (.v 3) (.cons (.v 4) .nil)))) (.cons (.call 29 (.cons (.v 5) (.cons (.v 3) (.cons (.v 4) .nil)))) .nil)))) (.cons (.ret [] (.c (.bool false))) .nil) .nil) .nil)
def l23 : Pz.Sm := (.ifs [] (.an (.cmp .lt (.bi .abs (.cons (.ix (.v 3) (.c (.int (0)))) .nil)) (.bin .pow (.c (.int (10))) (.c (.int (30))))) (.cmp .lt (.ix (.v 3) (.c (.int (1)))) (.bin .pow (.c (.int (10))) (.c (.int (30)))))) (.cons (.ifs [] (.or (.cmp .ne (.call 13 (.cons (.v 3) .nil)) (.call 30 (.cons (.v 3) .nil))) (.nt (.call 18 (.cons (.call 27 (.cons (.c (.int (5))) (.cons (.call 13 (.cons (.v 3) .nil)) (.cons (.c (.none)) .nil)))) (.cons (.v 3) .nil))))) (.cons (.ret [] (.c (.bool false))) .nil) .nil) (.cons (.par2 [] 6 7 (.call 17 (.io 1 (.cons (.bin .add (.bi .len (.cons (.call 30 (.cons (.v 3) .nil)) .nil)) (.c (.int (1)))) .nil))) (.ix (.c (.str (Str.ofString "0-/ 7"))) (.call 17 (.io 1 (.cons (.c (.int (5))) .nil))))) (.cons (.asg [] 8 (.ix (.lst (.cons (.bin .add (.bin .add (.slH (.call 30 (.cons (.v 3) .nil)) (.v 6)) (.v 7)) (.slL (.call 30 (.cons (.v 3) .nil)) (.v 6))) (.cons (.bin .add (.slH (.call 30 (.cons (.v 3) .nil)) (.v 6)) (.slL (.call 30 (.cons (.v 3) .nil)) (.bin .add (.v 6) (.c (.int (1)))))) .nil))) (.call 17 (.io 1 (.cons (.c (.int (2))) .nil))))) (.cons (.asg [8] 9 (.call 27 (.cons (.c (.int (5))) (.cons (.v 8) (.cons (.c (.none)) .nil))))) (.cons (.ifs [9] (.an (.cmp .ne (.v 9) (.c (.str (Str.ofString "form")))) (.or (.nt (.call 19 (.cons (.call 2 (.cons (.v 9) .nil)) (.cons (.c (.bool true)) .nil)))) (.cmp .ne (.call 30 (.cons (.v 9) .nil)) (.v 8)))) (.cons (.ret [] (.c (.bool false))) .nil) .nil) .nil))))) .nil)
def l230 : Pz.Sm := (.ifs [] (.or (.cmp .ne (.call 13 (.cons (.v 3) .nil)) (.call 30 (.cons (.v 3) .nil))) (.nt (.call 18 (.cons (.call 27 (.cons (.c (.int (5))) (.cons (.call 13 (.cons (.v 3) .nil)) (.cons (.c (.none)) .nil)))) (.cons (.v 3) .nil))))) (.cons (.ret [] (.c (.bool false))) .nil) .nil)
def l231 : Pz.Sm := (.par2 [] 6 7 (.call 17 (.io 1 (.cons (.bin .add (.bi .len (.cons (.call 30 (.cons (.v 3) .nil)) .nil)) (.c (.int (1)))) .nil))) (.ix (.c (.str (Str.ofString "0-/ 7"))) (.call 17 (.io 1 (.cons (.c (.int (5))) .nil)))))
def l232 : Pz.Sm := (.asg [] 8 (.ix (.lst (.cons (.bin .add (.bin .add (.slH (.call 30 (.cons (.v 3) .nil)) (.v 6)) (.v 7)) (.slL (.call 30 (.cons (.v 3) .nil)) (.v 6))) (.cons (.bin .add (.slH (.call 30 (.cons (.v 3) .nil)) (.v 6)) (.slL (.call 30 (.cons (.v 3) .nil)) (.bin .add (.v 6) (.c (.int (1)))))) .nil))) (.call 17 (.io 1 (.cons (.c (.int (2))) .nil)))))
def l233 : Pz.Sm := (.asg [8] 9 (.call 27 (.cons (.c (.int (5))) (.cons (.v 8) (.cons (.c (.none)) .nil)))))
def l234 : Pz.Sm := (.ifs [9] (.an (.cmp .ne (.v 9) (.c (.str (Str.ofString "form")))) (.or (.nt (.call 19 (.cons (.call 2 (.cons (.v 9) .nil)) (.cons (.c (.bool true)) .nil)))) (.cmp .ne (.call 30 (.cons (.v 9) .nil)) (.v 8)))) (.cons (.ret [] (.c (.bool false))) .nil) .nil)
def l2b : Sms := (.cons (.par2 [] 3 4 (.call 28 (.io 1 .nil)) (.call 28 (.io 1 .nil))) (.cons (.ifs [4] (.or (.nt (.call 19 (.cons (.call 2 (.cons (.v 3) .nil)) (.cons (.c (.bool true)) .nil)))) (.nt (.call 19 (.cons (.call 8 (.cons (.v 3) (.cons (.v 4) .nil))) (.cons (.call 25 (.cons (.v 3) (.cons (.v 4) .nil))) .nil))))) (.cons (.ret [] (.c (.bool false))) .nil) .nil) (.cons (.for_ [] (.n 5) (.r1 (.c (.int (4)))) (.cons (.ifs [4] (.nt (.call 18 (.cons (.call 27 (.cons (.v 5) (.cons (.v 3) (.cons (.v 4) .nil)))) (.cons (.call 29 (.cons (.v 5) (.cons (.v 3) (.cons (.v 4) .nil)))) .nil)))) (.cons (.ret [] (.c (.bool false))) .nil) .nil) .nil)) (.cons (.ifs [] (.an (.cmp .lt (.bi .abs (.cons (.ix (.v 3) (.c (.int (0)))) .nil)) (.bin .pow (.c (.int (10))) (.c (.int (30))))) (.cmp .lt (.ix (.v 3) (.c (.int (1)))) (.bin .pow (.c (.int (10))) (.c (.int (30)))))) (.cons (.ifs [] (.or (.cmp .ne (.call 13 (.cons (.v 3) .nil)) (.call 30 (.cons (.v 3) .nil))) (.nt (.call 18 (.cons (.call 27 (.cons (.c (.int (5))) (.cons (.call 13 (.cons (.v 3) .nil)) (.cons (.c (.none)) .nil)))) (.cons (.v 3) .nil))))) (.cons (.ret [] (.c (.bool false))) .nil) .nil) (.cons (.par2 [] 6 7 (.call 17 (.io 1 (.cons (.bin .add (.bi .len (.cons (.call 30 (.cons (.v 3) .nil)) .nil)) (.c (.int (1)))) .nil))) (.ix (.c (.str (Str.ofString "0-/ 7"))) (.call 17 (.io 1 (.cons (.c (.int (5))) .nil))))) (.cons (.asg [] 8 (.ix (.lst (.cons (.bin .add (.bin .add (.slH (.call 30 (.cons (.v 3) .nil)) (.v 6)) (.v 7)) (.slL (.call 30 (.cons (.v 3) .nil)) (.v 6))) (.cons (.bin .add (.slH (.call 30 (.cons (.v 3) .nil)) (.v 6)) (.slL (.call 30 (.cons (.v 3) .nil)) (.bin .add (.v 6) (.c (.int (1)))))) .nil))) (.call 17 (.io 1 (.cons (.c (.int (2))) .nil))))) (.cons (.asg [8] 9 (.call 27 (.cons (.c (.int (5))) (.cons (.v 8) (.cons (.c (.none)) .nil))))) (.cons (.ifs [9] (.an (.cmp .ne (.v 9) (.c (.str (Str.ofString "form")))) (.or (.nt (.call 19 (.cons (.call 2 (.cons (.v 9) .nil)) (.cons (.c (.bool true)) .nil)))) (.cmp .ne (.call 30 (.cons (.v 9) .nil)) (.v 8)))) (.cons (.ret [] (.c (.bool false))) .nil) .nil) .nil))))) .nil) .nil))))
def Pl : Slot → Bool
  | .bx _ _ _ => false
  | _ => true
section
variable (n : Nat) (sc : List D) (s2 s3 s4 s5 s6 s7 s8 s9 s10 s11 s12 s13 s14 s15 s16 : Slot)
theorem l20_ok (l : List D) (hl : Ints l) : ∃ p q l', exec (G (n + 4)) l20 [.fz (.list sc), .bx (.l l) false false, s2, s3, s4, s5, s6, s7, s8, s9, s10, s11, s12, s13, s14, s15, s16] = .ok .nx [.fz (.list sc), .bx (.l l') false false, s2, .fz (pr p), .fz (pr q), s5, s6, s7, s8, s9, s10, s11, s12, s13, s14, s15, s16] ∧ Ints l' ∧ Bd p ∧ Low p ∧ Bd q ∧ Low q := by
  obtain ⟨p, l1, g1, g2, g3, g4⟩ := great_ok (n + 2) l hl
  obtain ⟨q, l2, k1, k2, k3, k4⟩ := great_ok (n + 2) l1 g2
  refine ⟨p, q, l2, ?_, k2, g3, g4, k3, k4⟩
  simp only [l20, Pz.execs, Pz.exec, Pz.ev, Pz.evT, Pz.ev2, Pz.evs, Pz.evl, Pz.evg, Pz.evi, Pz.evf, R.both_1, R.both_2, R.bind_ap, R.pure_ap, R.ofO_some, R.ofO_none, R.look_fz, R.look_bx, R.keep_fz, R.keep_bx, R.slot_fz, R.slot_bx, R.putV_fz, R.putV_bx, getV, setS, looks, tyD, asBool, asInt, asVw, asIntV, R.eqI, R.neI, R.ltI, R.leI, R.gtI, R.geI, R.eqB, R.neB, R.eqS, R.neS, R.isN, R.nisN, isNone, R.truthB, R.truthI, R.look_vw', R.callI1', R.callI2', frz, biV, mtKind, lenV, absV, R.intV_int, strV, tupleV, listV, strOf, Pz.ixD, R.at_0, R.at_1, R.opII, R.addI, R.subI, R.call1, R.call2, R.call3, R.call4, R.ret0_ok, R.ret0_ex, R.ret1_ok, Option.map_some, Option.map_none, Option.some_or, Option.none_or, List.getElem?_cons_zero, List.getElem?_cons_succ, List.getElem?_nil, List.set_cons_zero, List.set_cons_succ, List.length_cons, List.length_nil, List.length_append, List.length_set, List.map_cons, List.map_nil, List.cons_append, List.nil_append, ite_true, ite_false, if_true, if_false, Bool.not_true, Bool.not_false, endOf, outsOf, Nat.reduceAdd, Nat.reduceLT, Nat.reduceLeDiff, Nat.lt_add_left_iff_pos, Nat.zero_lt_succ, List.replicate, Nat.reduceSub, Nat.sub_self, reduceIte, reduceCtorEq, Bool.false_eq_true, decide_true, decide_false, g1, k1]
theorem l21_ok (l : List D) (p q : Int × Int) (hp : Bd p) (lp : Low p) (hq : Bd q) : exec (G (n + 4)) l21 [.fz (.list sc), .bx (.l l) false false, s2, .fz (pr p), .fz (pr q), s5, s6, s7, s8, s9, s10, s11, s12, s13, s14, s15, s16] = .ok .nx [.fz (.list sc), .bx (.l l) false false, s2, .fz (pr p), .fz (pr q), s5, s6, s7, s8, s9, s10, s11, s12, s13, s14, s15, s16] := by
  have c1 := is_part_ok (n + 2) p
  rw [(partB_iff p).mpr ⟨hp, lp⟩] at c1
  have c2 := says_ok (n + 3) true true
  have c3 := is_less_ok (n + 3) p q hp hq
  have c4 := law_less_ok (n + 3) p q hp hq
  have c5 := says_ok (n + 3) (decide (les p q)) (decide (les p q))
  simp only [l21, Pz.execs, Pz.exec, Pz.ev, Pz.evT, Pz.ev2, Pz.evs, Pz.evl, Pz.evg, Pz.evi, Pz.evf, R.both_1, R.both_2, R.bind_ap, R.pure_ap, R.ofO_some, R.ofO_none, R.look_fz, R.look_bx, R.keep_fz, R.keep_bx, R.slot_fz, R.slot_bx, R.putV_fz, R.putV_bx, getV, setS, looks, tyD, asBool, asInt, asVw, asIntV, R.eqI, R.neI, R.ltI, R.leI, R.gtI, R.geI, R.eqB, R.neB, R.eqS, R.neS, R.isN, R.nisN, isNone, R.truthB, R.truthI, R.look_vw', R.callI1', R.callI2', frz, biV, mtKind, lenV, absV, R.intV_int, strV, tupleV, listV, strOf, Pz.ixD, R.at_0, R.at_1, R.opII, R.addI, R.subI, R.call1, R.call2, R.call3, R.call4, R.ret0_ok, R.ret0_ex, R.ret1_ok, Option.map_some, Option.map_none, Option.some_or, Option.none_or, List.getElem?_cons_zero, List.getElem?_cons_succ, List.getElem?_nil, List.set_cons_zero, List.set_cons_succ, List.length_cons, List.length_nil, List.length_append, List.length_set, List.map_cons, List.map_nil, List.cons_append, List.nil_append, ite_true, ite_false, if_true, if_false, Bool.not_true, Bool.not_false, endOf, outsOf, Nat.reduceAdd, Nat.reduceLT, Nat.reduceLeDiff, Nat.lt_add_left_iff_pos, Nat.zero_lt_succ, List.replicate, Nat.reduceSub, Nat.sub_self, reduceIte, reduceCtorEq, Bool.false_eq_true, decide_true, decide_false, c1, c2, c3, c4, c5, beq_self_eq_true]
theorem l22b_ok (l : List D) (p q : Int × Int) (hp : Bd p) (lp : Low p) (hq : Bd q) (lq : Low q) (w : Nat) (hw : w < 4) : execs (G (n + 4)) l22b [.fz (.list sc), .bx (.l l) false false, s2, .fz (pr p), .fz (pr q), .fz (.int w), s6, s7, s8, s9, s10, s11, s12, s13, s14, s15, s16] = .ok .nx [.fz (.list sc), .bx (.l l) false false, s2, .fz (pr p), .fz (pr q), .fz (.int w), s6, s7, s8, s9, s10, s11, s12, s13, s14, s15, s16] := by
  have c1 := told_sums n w hw p q hp hq lp.pos lq.pos
  have c2 := law_due_ok (n + 1) w hw p q hp hq lp.pos lq.pos
  have c3 := alike_due (n + 2) (dueD w p q) (dueD_kind w p q)
  simp only [l22b, Pz.execs, Pz.exec, Pz.ev, Pz.evT, Pz.ev2, Pz.evs, Pz.evl, Pz.evg, Pz.evi, Pz.evf, R.both_1, R.both_2, R.bind_ap, R.pure_ap, R.ofO_some, R.ofO_none, R.look_fz, R.look_bx, R.keep_fz, R.keep_bx, R.slot_fz, R.slot_bx, R.putV_fz, R.putV_bx, getV, setS, looks, tyD, asBool, asInt, asVw, asIntV, R.eqI, R.neI, R.ltI, R.leI, R.gtI, R.geI, R.eqB, R.neB, R.eqS, R.neS, R.isN, R.nisN, isNone, R.truthB, R.truthI, R.look_vw', R.callI1', R.callI2', frz, biV, mtKind, lenV, absV, R.intV_int, strV, tupleV, listV, strOf, Pz.ixD, R.at_0, R.at_1, R.opII, R.addI, R.subI, R.call1, R.call2, R.call3, R.call4, R.ret0_ok, R.ret0_ex, R.ret1_ok, Option.map_some, Option.map_none, Option.some_or, Option.none_or, List.getElem?_cons_zero, List.getElem?_cons_succ, List.getElem?_nil, List.set_cons_zero, List.set_cons_succ, List.length_cons, List.length_nil, List.length_append, List.length_set, List.map_cons, List.map_nil, List.cons_append, List.nil_append, ite_true, ite_false, if_true, if_false, Bool.not_true, Bool.not_false, endOf, outsOf, Nat.reduceAdd, Nat.reduceLT, Nat.reduceLeDiff, Nat.lt_add_left_iff_pos, Nat.zero_lt_succ, List.replicate, Nat.reduceSub, Nat.sub_self, reduceIte, reduceCtorEq, Bool.false_eq_true, decide_true, decide_false, c1, c2, c3]
theorem l22_ok (l : List D) (p q : Int × Int) (hp : Bd p) (lp : Low p) (hq : Bd q) (lq : Low q) : ∃ s5', exec (G (n + 4)) l22 [.fz (.list sc), .bx (.l l) false false, s2, .fz (pr p), .fz (pr q), s5, s6, s7, s8, s9, s10, s11, s12, s13, s14, s15, s16] = .ok .nx [.fz (.list sc), .bx (.l l) false false, s2, .fz (pr p), .fz (pr q), s5', s6, s7, s8, s9, s10, s11, s12, s13, s14, s15, s16] := by
  show ∃ s5', exec (G (n + 4)) (.for_ [] (.n 5) (.r1 (.c (.int (4)))) l22b) _ = _
  rw [ex_for (ρ1 := [.fz (.list sc), .bx (.l l) false false, s2, .fz (pr p), .fz (pr q), s5, s6, s7, s8, s9, s10, s11, s12, s13, s14, s15, s16]) rfl (evi_r1 (i := 4) rfl (by decide))]
  obtain ⟨ρ', e, _, s5', rfl⟩ := loop_inv (turn := fun d => M.bind ((Tgt.n 5).put d) fun _ => execs (G (n + 4)) l22b) (fun ds ρ => (∀ d ∈ ds, ∃ w : Nat, d = .int w ∧ w < 4) ∧ ∃ s5, ρ = [.fz (.list sc), .bx (.l l) false false, s2, .fz (pr p), .fz (pr q), s5, s6, s7, s8, s9, s10, s11, s12, s13, s14, s15, s16])
    (fun d ds ρ ⟨h1, s5, h2⟩ => by
      subst h2
      obtain ⟨w, rfl, hw⟩ := h1 d (List.mem_cons_self ..)
      have := l22b_ok n sc s2 s6 s7 s8 s9 s10 s11 s12 s13 s14 s15 s16 l p q hp lp hq lq w hw
      exact ⟨_, this, fun d hd => h1 d (List.mem_cons_of_mem _ hd), _, rfl⟩) ((List.range (4 : Int).toNat).map fun (k : Nat) => .int k) _ ⟨fun d hd => by
        obtain ⟨w, hw, rfl⟩ := List.mem_map.mp hd
        exact ⟨w, rfl, List.mem_range.mp hw⟩, s5, rfl⟩
  exact ⟨s5', e⟩
theorem pow30 : opI .pow 10 30 = some (10 ^ 30) := by decide +kernel
theorem l230_ok (l : List D) (p : Int × Int) (hp : Bd p) (lp : Low p) : exec (G (n + 4)) l230 [.fz (.list sc), .bx (.l l) false false, s2, .fz (pr p), s4, s5, s6, s7, s8, s9, s10, s11, s12, s13, s14, s15, s16] = .ok .nx [.fz (.list sc), .bx (.l l) false false, s2, .fz (pr p), s4, s5, s6, s7, s8, s9, s10, s11, s12, s13, s14, s15, s16] := by
  have c1 := write_ok (n + 3) p hp
  have c2 := law_text_ok (n + 3) p hp
  have c3 := told_read n (textOf p) (Nat.le_trans (textOf_len hp) (by decide))
  rw [readF_text hp lp] at c3
  have c4 := alike_pr (n + 2) p
  simp only [l230, Pz.execs, Pz.exec, Pz.ev, Pz.evT, Pz.ev2, Pz.evs, Pz.evl, Pz.evg, Pz.evi, Pz.evf, R.both_1, R.both_2, R.bind_ap, R.pure_ap, R.ofO_some, R.ofO_none, R.look_fz, R.look_bx, R.keep_fz, R.keep_bx, R.slot_fz, R.slot_bx, R.putV_fz, R.putV_bx, getV, setS, looks, tyD, asBool, asInt, asVw, asIntV, R.eqI, R.neI, R.ltI, R.leI, R.gtI, R.geI, R.eqB, R.neB, R.eqS, R.neS, R.isN, R.nisN, isNone, R.truthB, R.truthI, R.look_vw', R.callI1', R.callI2', frz, biV, mtKind, lenV, absV, R.intV_int, strV, tupleV, listV, strOf, Pz.ixD, R.at_0, R.at_1, R.opII, R.addI, R.subI, R.call1, R.call2, R.call3, R.call4, R.ret0_ok, R.ret0_ex, R.ret1_ok, Option.map_some, Option.map_none, Option.some_or, Option.none_or, List.getElem?_cons_zero, List.getElem?_cons_succ, List.getElem?_nil, List.set_cons_zero, List.set_cons_succ, List.length_cons, List.length_nil, List.length_append, List.length_set, List.map_cons, List.map_nil, List.cons_append, List.nil_append, ite_true, ite_false, if_true, if_false, Bool.not_true, Bool.not_false, endOf, outsOf, Nat.reduceAdd, Nat.reduceLT, Nat.reduceLeDiff, Nat.lt_add_left_iff_pos, Nat.zero_lt_succ, List.replicate, Nat.reduceSub, Nat.sub_self, reduceIte, reduceCtorEq, Bool.false_eq_true, decide_true, decide_false, c1, c2, c3, c4, beq_self_eq_true]
theorem l231_ok (l : List D) (hl : Ints l) (p : Int × Int) (hp : Bd p) : ∃ k x l', exec (G (n + 4)) l231 [.fz (.list sc), .bx (.l l) false false, s2, .fz (pr p), s4, s5, s6, s7, s8, s9, s10, s11, s12, s13, s14, s15, s16] = .ok .nx [.fz (.list sc), .bx (.l l') false false, s2, .fz (pr p), s4, s5, .fz (.int k), .fz (.str x), s8, s9, s10, s11, s12, s13, s14, s15, s16] ∧ Ints l' ∧ x.length = 1 := by
  have c2 := law_text_ok (n + 3) p hp
  have tl := textOf_len hp
  obtain ⟨k, l1, t1, t2, t3, t4⟩ := take_at (n + 3) l hl (((textOf p).length : Int) + 1) (by omega)
  obtain ⟨j, l2, u1, u2, u3, u4⟩ := take_at (n + 3) l1 t4 5 (by decide)
  have ll : (textOf p).length ≤ lim := Nat.le_trans tl (by decide)
  obtain ⟨i, rfl⟩ := Int.eq_ofNat_of_zero_le u2
  have hi : i < 5 := by omega
  have hx : ∃ x, Pz.ixD (.str (Str.ofString "0-/ 7")) (.int (i : Int)) = some (.str x) ∧ x.length = 1 := by
    match i, hi with
    | 0, _ => exact ⟨_, rfl, rfl⟩
    | 1, _ => exact ⟨_, rfl, rfl⟩
    | 2, _ => exact ⟨_, rfl, rfl⟩
    | 3, _ => exact ⟨_, rfl, rfl⟩
    | 4, _ => exact ⟨_, rfl, rfl⟩
  obtain ⟨x, hx, xl⟩ := hx
  refine ⟨k, x, l2, ?_, u4, xl⟩
  simp only [l231, Pz.execs, Pz.exec, Pz.ev, Pz.evT, Pz.ev2, Pz.evs, Pz.evl, Pz.evg, R.both_1, R.bind_ap, R.pure_ap, R.ofO_some, R.look_fz, R.keep_fz, R.slot_fz, getV, setS, looks, asVw, frz, biV, lenV, R.opII, R.addI, Option.map_some, Option.some_or, List.getElem?_cons_zero, List.getElem?_cons_succ, List.set_cons_zero, List.set_cons_succ, List.length_cons, List.length_nil, if_true, Nat.reduceAdd, Nat.reduceLT, R.call1, R.callI2', R.ret0_ok, R.ret1_ok, c2, ll, t1, u1, hx]
theorem l232_ok (l : List D) (hl : Ints l) (p : Int × Int) (hp : Bd p) (k : Int) (x : Str) (hx : x.length = 1) : ∃ v l', exec (G (n + 4)) l232 [.fz (.list sc), .bx (.l l) false false, s2, .fz (pr p), s4, s5, .fz (.int k), .fz (.str x), s8, s9, s10, s11, s12, s13, s14, s15, s16] = .ok .nx [.fz (.list sc), .bx (.l l') false false, s2, .fz (pr p), s4, s5, .fz (.int k), .fz (.str x), .fz (.str v), s9, s10, s11, s12, s13, s14, s15, s16] ∧ Ints l' ∧ v.length ≤ 1000 := by
  have c2 := law_text_ok (n + 3) p hp
  have tl := textOf_len hp
  have ll : (textOf p).length ≤ lim := Nat.le_trans tl (by decide)
  obtain ⟨r, l1, t1, t2, t3, t4⟩ := take_at (n + 3) l hl 2 (by decide)
  have h1 : ∀ lo hi, slV (.str (textOf p)) lo hi = some (.fz (.str (L2.cutS (textOf p) lo hi))) := fun lo hi => if_pos ll
  have cl : ∀ lo hi, (L2.cutS (textOf p) lo hi).length ≤ 200 := fun lo hi => Nat.le_trans (L2.cutS_length _ _ _) tl
  have a1 : opV .add (.str (L2.cutS (textOf p) none (some k))) (.str x) = some (.fz (.str (L2.cutS (textOf p) none (some k) ++ x))) := if_pos (by have := cl none (some k); unfold lim; omega)
  have a2 : opV .add (.str (L2.cutS (textOf p) none (some k) ++ x)) (.str (L2.cutS (textOf p) (some k) none)) = some (.fz (.str (L2.cutS (textOf p) none (some k) ++ x ++ L2.cutS (textOf p) (some k) none))) := if_pos (by have := cl none (some k); have := cl (some k) none; rw [app_len]; unfold lim; omega)
  have a3 : opV .add (.str (L2.cutS (textOf p) none (some k))) (.str (L2.cutS (textOf p) (some (k + 1)) none)) = some (.fz (.str (L2.cutS (textOf p) none (some k) ++ L2.cutS (textOf p) (some (k + 1)) none))) := if_pos (by have := cl none (some k); have := cl (some (k + 1)) none; unfold lim; omega)
  have rr : r = 0 ∨ r = 1 := by omega
  rcases rr with rfl | rfl
  · refine ⟨L2.cutS (textOf p) none (some k) ++ x ++ L2.cutS (textOf p) (some k) none, l1, ?_, t4, by have := cl none (some k); have := cl (some k) none; rw [app_len, app_len]; omega⟩
    simp only [l232, Pz.execs, Pz.exec, Pz.ev, Pz.evT, Pz.ev2, Pz.evs, Pz.evl, Pz.evg, Pz.evi, Pz.evf, R.both_1, R.both_2, R.bind_ap, R.pure_ap, R.ofO_some, R.ofO_none, R.look_fz, R.look_bx, R.keep_fz, R.keep_bx, R.slot_fz, R.slot_bx, R.putV_fz, R.putV_bx, getV, setS, looks, tyD, asBool, asInt, asVw, asIntV, R.eqI, R.neI, R.ltI, R.leI, R.gtI, R.geI, R.eqB, R.neB, R.eqS, R.neS, R.isN, R.nisN, isNone, R.truthB, R.truthI, R.look_vw', R.callI1', R.callI2', frz, biV, mtKind, lenV, absV, R.intV_int, strV, tupleV, listV, strOf, Pz.ixD, R.at_0, R.at_1, R.opII, R.addI, R.subI, R.call1, R.call2, R.call3, R.call4, R.ret0_ok, R.ret0_ex, R.ret1_ok, Option.map_some, Option.map_none, Option.some_or, Option.none_or, List.getElem?_cons_zero, List.getElem?_cons_succ, List.getElem?_nil, List.set_cons_zero, List.set_cons_succ, List.length_cons, List.length_nil, List.length_append, List.length_set, List.map_cons, List.map_nil, List.cons_append, List.nil_append, ite_true, ite_false, if_true, if_false, Bool.not_true, Bool.not_false, endOf, outsOf, Nat.reduceAdd, Nat.reduceLT, Nat.reduceLeDiff, Nat.lt_add_left_iff_pos, Nat.zero_lt_succ, List.replicate, Nat.reduceSub, Nat.sub_self, reduceIte, reduceCtorEq, Bool.false_eq_true, decide_true, decide_false, c2, h1, a1, a2, a3, t1, Box.d]
  · refine ⟨L2.cutS (textOf p) none (some k) ++ L2.cutS (textOf p) (some (k + 1)) none, l1, ?_, t4, by have := cl none (some k); have := cl (some (k + 1)) none; rw [app_len]; omega⟩
    simp only [l232, Pz.execs, Pz.exec, Pz.ev, Pz.evT, Pz.ev2, Pz.evs, Pz.evl, Pz.evg, Pz.evi, Pz.evf, R.both_1, R.both_2, R.bind_ap, R.pure_ap, R.ofO_some, R.ofO_none, R.look_fz, R.look_bx, R.keep_fz, R.keep_bx, R.slot_fz, R.slot_bx, R.putV_fz, R.putV_bx, getV, setS, looks, tyD, asBool, asInt, asVw, asIntV, R.eqI, R.neI, R.ltI, R.leI, R.gtI, R.geI, R.eqB, R.neB, R.eqS, R.neS, R.isN, R.nisN, isNone, R.truthB, R.truthI, R.look_vw', R.callI1', R.callI2', frz, biV, mtKind, lenV, absV, R.intV_int, strV, tupleV, listV, strOf, Pz.ixD, R.at_0, R.at_1, R.opII, R.addI, R.subI, R.call1, R.call2, R.call3, R.call4, R.ret0_ok, R.ret0_ex, R.ret1_ok, Option.map_some, Option.map_none, Option.some_or, Option.none_or, List.getElem?_cons_zero, List.getElem?_cons_succ, List.getElem?_nil, List.set_cons_zero, List.set_cons_succ, List.length_cons, List.length_nil, List.length_append, List.length_set, List.map_cons, List.map_nil, List.cons_append, List.nil_append, ite_true, ite_false, if_true, if_false, Bool.not_true, Bool.not_false, endOf, outsOf, Nat.reduceAdd, Nat.reduceLT, Nat.reduceLeDiff, Nat.lt_add_left_iff_pos, Nat.zero_lt_succ, List.replicate, Nat.reduceSub, Nat.sub_self, reduceIte, reduceCtorEq, Bool.false_eq_true, decide_true, decide_false, c2, h1, a1, a2, a3, t1, Box.d]
theorem l234_ok (l : List D) (v : Str) (hv : v.length ≤ 1000) : ∃ d, execs (G (n + 4)) (.cons l233 (.cons l234 .nil)) [.fz (.list sc), .bx (.l l) false false, s2, s3, s4, s5, s6, s7, .fz (.str v), s9, s10, s11, s12, s13, s14, s15, s16] = .ok .nx [.fz (.list sc), .bx (.l l) false false, s2, s3, s4, s5, s6, s7, .fz (.str v), .fz d, s10, s11, s12, s13, s14, s15, s16] := by
  have c1 := told_read n v (Nat.le_trans hv (by decide))
  have e1 : ∀ (d : D), C (n + 4) 27 [.fz (.int 5), .fz (.str v), .fz .none] = .ok (.fz d) [] → exec (G (n + 4)) l233 [.fz (.list sc), .bx (.l l) false false, s2, s3, s4, s5, s6, s7, .fz (.str v), s9, s10, s11, s12, s13, s14, s15, s16] = .ok .nx [.fz (.list sc), .bx (.l l) false false, s2, s3, s4, s5, s6, s7, .fz (.str v), .fz d, s10, s11, s12, s13, s14, s15, s16] := fun d h => by
    simp only [l233, Pz.execs, Pz.exec, Pz.ev, Pz.evT, Pz.ev2, Pz.evs, Pz.evl, Pz.evg, Pz.evi, Pz.evf, R.both_1, R.both_2, R.bind_ap, R.pure_ap, R.ofO_some, R.ofO_none, R.look_fz, R.look_bx, R.keep_fz, R.keep_bx, R.slot_fz, R.slot_bx, R.putV_fz, R.putV_bx, getV, setS, looks, tyD, asBool, asInt, asVw, asIntV, R.eqI, R.neI, R.ltI, R.leI, R.gtI, R.geI, R.eqB, R.neB, R.eqS, R.neS, R.isN, R.nisN, isNone, R.truthB, R.truthI, R.look_vw', R.callI1', R.callI2', frz, biV, mtKind, lenV, absV, R.intV_int, strV, tupleV, listV, strOf, Pz.ixD, R.at_0, R.at_1, R.opII, R.addI, R.subI, R.call1, R.call2, R.call3, R.call4, R.ret0_ok, R.ret0_ex, R.ret1_ok, Option.map_some, Option.map_none, Option.some_or, Option.none_or, List.getElem?_cons_zero, List.getElem?_cons_succ, List.getElem?_nil, List.set_cons_zero, List.set_cons_succ, List.length_cons, List.length_nil, List.length_append, List.length_set, List.map_cons, List.map_nil, List.cons_append, List.nil_append, ite_true, ite_false, if_true, if_false, Bool.not_true, Bool.not_false, endOf, outsOf, Nat.reduceAdd, Nat.reduceLT, Nat.reduceLeDiff, Nat.lt_add_left_iff_pos, Nat.zero_lt_succ, List.replicate, Nat.reduceSub, Nat.sub_self, reduceIte, reduceCtorEq, Bool.false_eq_true, decide_true, decide_false, h]
  cases h : readF v with
  | none =>
    rw [h] at c1
    refine ⟨.str (Str.ofString "form"), ?_⟩
    rw [ex_nx (e1 _ c1)]
    simp only [l234, Pz.execs, Pz.exec, Pz.ev, Pz.evT, Pz.ev2, Pz.evs, Pz.evl, Pz.evg, Pz.evi, Pz.evf, R.both_1, R.both_2, R.bind_ap, R.pure_ap, R.ofO_some, R.ofO_none, R.look_fz, R.look_bx, R.keep_fz, R.keep_bx, R.slot_fz, R.slot_bx, R.putV_fz, R.putV_bx, getV, setS, looks, tyD, asBool, asInt, asVw, asIntV, R.eqI, R.neI, R.ltI, R.leI, R.gtI, R.geI, R.eqB, R.neB, R.eqS, R.neS, R.isN, R.nisN, isNone, R.truthB, R.truthI, R.look_vw', R.callI1', R.callI2', frz, biV, mtKind, lenV, absV, R.intV_int, strV, tupleV, listV, strOf, Pz.ixD, R.at_0, R.at_1, R.opII, R.addI, R.subI, R.call1, R.call2, R.call3, R.call4, R.ret0_ok, R.ret0_ex, R.ret1_ok, Option.map_some, Option.map_none, Option.some_or, Option.none_or, List.getElem?_cons_zero, List.getElem?_cons_succ, List.getElem?_nil, List.set_cons_zero, List.set_cons_succ, List.length_cons, List.length_nil, List.length_append, List.length_set, List.map_cons, List.map_nil, List.cons_append, List.nil_append, ite_true, ite_false, if_true, if_false, Bool.not_true, Bool.not_false, endOf, outsOf, Nat.reduceAdd, Nat.reduceLT, Nat.reduceLeDiff, Nat.lt_add_left_iff_pos, Nat.zero_lt_succ, List.replicate, Nat.reduceSub, Nat.sub_self, reduceIte, reduceCtorEq, Bool.false_eq_true, decide_true, decide_false, beq_self_eq_true]
  | some p =>
    rw [h] at c1
    refine ⟨pr p, ?_⟩
    rw [ex_nx (e1 _ c1)]
    obtain ⟨h1, h2⟩ := readF_is h
    have c2 := is_part_ok (n + 2) p
    rw [h1] at c2
    have c3 := says_ok (n + 3) true true
    have c4 := law_text_ok (n + 3) p ((partB_iff p).mp h1).1
    have ne : cmpD .ne (pr p) (.str (Str.ofString "form")) = some true := rfl
    simp only [l234, Pz.execs, Pz.exec, Pz.ev, Pz.evT, Pz.ev2, Pz.evs, Pz.evl, Pz.evg, Pz.evi, Pz.evf, R.both_1, R.both_2, R.bind_ap, R.pure_ap, R.ofO_some, R.ofO_none, R.look_fz, R.look_bx, R.keep_fz, R.keep_bx, R.slot_fz, R.slot_bx, R.putV_fz, R.putV_bx, getV, setS, looks, tyD, asBool, asInt, asVw, asIntV, R.eqI, R.neI, R.ltI, R.leI, R.gtI, R.geI, R.eqB, R.neB, R.eqS, R.neS, R.isN, R.nisN, isNone, R.truthB, R.truthI, R.look_vw', R.callI1', R.callI2', frz, biV, mtKind, lenV, absV, R.intV_int, strV, tupleV, listV, strOf, Pz.ixD, R.at_0, R.at_1, R.opII, R.addI, R.subI, R.call1, R.call2, R.call3, R.call4, R.ret0_ok, R.ret0_ex, R.ret1_ok, Option.map_some, Option.map_none, Option.some_or, Option.none_or, List.getElem?_cons_zero, List.getElem?_cons_succ, List.getElem?_nil, List.set_cons_zero, List.set_cons_succ, List.length_cons, List.length_nil, List.length_append, List.length_set, List.map_cons, List.map_nil, List.cons_append, List.nil_append, ite_true, ite_false, if_true, if_false, Bool.not_true, Bool.not_false, endOf, outsOf, Nat.reduceAdd, Nat.reduceLT, Nat.reduceLeDiff, Nat.lt_add_left_iff_pos, Nat.zero_lt_succ, List.replicate, Nat.reduceSub, Nat.sub_self, reduceIte, reduceCtorEq, Bool.false_eq_true, decide_true, decide_false, c2, c3, c4, h2, ne, beq_self_eq_true]
theorem l23_tt (l : List D) (p : Int × Int) : ∃ b, evT (G (n + 4)) (.an (.cmp .lt (.bi .abs (.cons (.ix (.v 3) (.c (.int (0)))) .nil)) (.bin .pow (.c (.int (10))) (.c (.int (30))))) (.cmp .lt (.ix (.v 3) (.c (.int (1)))) (.bin .pow (.c (.int (10))) (.c (.int (30)))))) [.fz (.list sc), .bx (.l l) false false, s2, .fz (pr p), s4, s5, s6, s7, s8, s9, s10, s11, s12, s13, s14, s15, s16] = .ok b [.fz (.list sc), .bx (.l l) false false, s2, .fz (pr p), s4, s5, s6, s7, s8, s9, s10, s11, s12, s13, s14, s15, s16] := by
  obtain ⟨x, hx⟩ : ∃ x, (if p.1 < 0 then -p.1 else p.1) = x := ⟨_, rfl⟩
  obtain ⟨y, hy⟩ : ∃ y : Int, opI .pow 10 30 = some y := ⟨_, pow30⟩
  cases h1 : decide (x < y) with
  | false => exact ⟨false, by simp only [pr, Pz.execs, Pz.exec, Pz.ev, Pz.evT, Pz.ev2, Pz.evs, Pz.evl, Pz.evg, Pz.evi, Pz.evf, R.both_1, R.both_2, R.bind_ap, R.pure_ap, R.ofO_some, R.ofO_none, R.look_fz, R.look_bx, R.keep_fz, R.keep_bx, R.slot_fz, R.slot_bx, R.putV_fz, R.putV_bx, getV, setS, looks, tyD, asBool, asInt, asVw, asIntV, R.eqI, R.neI, R.ltI, R.leI, R.gtI, R.geI, R.eqB, R.neB, R.eqS, R.neS, R.isN, R.nisN, isNone, R.truthB, R.truthI, R.look_vw', R.callI1', R.callI2', frz, biV, mtKind, lenV, absV, R.intV_int, strV, tupleV, listV, strOf, Pz.ixD, R.at_0, R.at_1, R.opII, R.addI, R.subI, R.call1, R.call2, R.call3, R.call4, R.ret0_ok, R.ret0_ex, R.ret1_ok, Option.map_some, Option.map_none, Option.some_or, Option.none_or, List.getElem?_cons_zero, List.getElem?_cons_succ, List.getElem?_nil, List.set_cons_zero, List.set_cons_succ, List.length_cons, List.length_nil, List.length_append, List.length_set, List.map_cons, List.map_nil, List.cons_append, List.nil_append, ite_true, ite_false, if_true, if_false, Bool.not_true, Bool.not_false, endOf, outsOf, Nat.reduceAdd, Nat.reduceLT, Nat.reduceLeDiff, Nat.lt_add_left_iff_pos, Nat.zero_lt_succ, List.replicate, Nat.reduceSub, Nat.sub_self, reduceIte, reduceCtorEq, Bool.false_eq_true, decide_true, decide_false, hx, hy, h1]⟩
  | true => exact ⟨decide (p.2 < y), by simp only [pr, Pz.execs, Pz.exec, Pz.ev, Pz.evT, Pz.ev2, Pz.evs, Pz.evl, Pz.evg, Pz.evi, Pz.evf, R.both_1, R.both_2, R.bind_ap, R.pure_ap, R.ofO_some, R.ofO_none, R.look_fz, R.look_bx, R.keep_fz, R.keep_bx, R.slot_fz, R.slot_bx, R.putV_fz, R.putV_bx, getV, setS, looks, tyD, asBool, asInt, asVw, asIntV, R.eqI, R.neI, R.ltI, R.leI, R.gtI, R.geI, R.eqB, R.neB, R.eqS, R.neS, R.isN, R.nisN, isNone, R.truthB, R.truthI, R.look_vw', R.callI1', R.callI2', frz, biV, mtKind, lenV, absV, R.intV_int, strV, tupleV, listV, strOf, Pz.ixD, R.at_0, R.at_1, R.opII, R.addI, R.subI, R.call1, R.call2, R.call3, R.call4, R.ret0_ok, R.ret0_ex, R.ret1_ok, Option.map_some, Option.map_none, Option.some_or, Option.none_or, List.getElem?_cons_zero, List.getElem?_cons_succ, List.getElem?_nil, List.set_cons_zero, List.set_cons_succ, List.length_cons, List.length_nil, List.length_append, List.length_set, List.map_cons, List.map_nil, List.cons_append, List.nil_append, ite_true, ite_false, if_true, if_false, Bool.not_true, Bool.not_false, endOf, outsOf, Nat.reduceAdd, Nat.reduceLT, Nat.reduceLeDiff, Nat.lt_add_left_iff_pos, Nat.zero_lt_succ, List.replicate, Nat.reduceSub, Nat.sub_self, reduceIte, reduceCtorEq, Bool.false_eq_true, decide_true, decide_false, hx, hy, h1]⟩
theorem l23_ok (l : List D) (hl : Ints l) (p : Int × Int) (hp : Bd p) (lp : Low p) : ∃ l' t6 t7 t8 t9, exec (G (n + 4)) l23 [.fz (.list sc), .bx (.l l) false false, s2, .fz (pr p), s4, s5, s6, s7, s8, s9, s10, s11, s12, s13, s14, s15, s16] = .ok .nx [.fz (.list sc), .bx (.l l') false false, s2, .fz (pr p), s4, s5, t6, t7, t8, t9, s10, s11, s12, s13, s14, s15, s16] ∧ Ints l' ∧ (Pl s6 = true → Pl t6 = true) := by
  obtain ⟨b, tt⟩ := l23_tt n sc s2 s4 s5 s6 s7 s8 s9 s10 s11 s12 s13 s14 s15 s16 l p
  show ∃ l' t6 t7 t8 t9, exec (G (n + 4)) (.ifs [] _ (.cons l230 (.cons l231 (.cons l232 (.cons l233 (.cons l234 .nil))))) .nil) _ = _ ∧ _
  rw [ex_if (ρ1 := [.fz (.list sc), .bx (.l l) false false, s2, .fz (pr p), s4, s5, s6, s7, s8, s9, s10, s11, s12, s13, s14, s15, s16]) rfl tt]
  cases b with
  | false => exact ⟨l, s6, s7, s8, s9, rfl, hl, id⟩
  | true =>
    rw [if_pos rfl, ex_nx (l230_ok n sc s2 s4 s5 s6 s7 s8 s9 s10 s11 s12 s13 s14 s15 s16 l p hp lp)]
    obtain ⟨k, x, l1, e1, i1, x1⟩ := l231_ok n sc s2 s4 s5 s6 s7 s8 s9 s10 s11 s12 s13 s14 s15 s16 l hl p hp
    rw [ex_nx e1]
    obtain ⟨v, l2, e2, i2, v2⟩ := l232_ok n sc s2 s4 s5 s8 s9 s10 s11 s12 s13 s14 s15 s16 l1 i1 p hp k x x1
    rw [ex_nx e2]
    obtain ⟨d, e3⟩ := l234_ok n sc s2 (.fz (pr p)) s4 s5 (.fz (.int k)) (.fz (.str x)) s9 s10 s11 s12 s13 s14 s15 s16 l2 v v2
    exact ⟨l2, _, _, _, _, e3, i2, fun _ => rfl⟩
theorem l2b_ok (l : List D) (hl : Ints l) : ∃ l' t3 t4 t5 t6 t7 t8 t9, execs (G (n + 4)) l2b [.fz (.list sc), .bx (.l l) false false, s2, s3, s4, s5, s6, s7, s8, s9, s10, s11, s12, s13, s14, s15, s16] = .ok .nx [.fz (.list sc), .bx (.l l') false false, s2, t3, t4, t5, t6, t7, t8, t9, s10, s11, s12, s13, s14, s15, s16] ∧ Ints l' ∧ Pl t3 = true ∧ (Pl s6 = true → Pl t6 = true) := by
  show ∃ l' t3 t4 t5 t6 t7 t8 t9, execs (G (n + 4)) (.cons l20 (.cons l21 (.cons l22 (.cons l23 .nil)))) _ = _ ∧ _
  obtain ⟨p, q, l1, e1, i1, hp, lp, hq, lq⟩ := l20_ok n sc s2 s3 s4 s5 s6 s7 s8 s9 s10 s11 s12 s13 s14 s15 s16 l hl
  rw [ex_nx e1, ex_nx (l21_ok n sc s2 s5 s6 s7 s8 s9 s10 s11 s12 s13 s14 s15 s16 l1 p q hp lp hq)]
  obtain ⟨s5', e2⟩ := l22_ok n sc s2 s5 s6 s7 s8 s9 s10 s11 s12 s13 s14 s15 s16 l1 p q hp lp hq lq
  rw [ex_nx e2]
  obtain ⟨l3, t6, t7, t8, t9, e3, i3, i4⟩ := l23_ok n sc s2 (.fz (pr q)) s5' s6 s7 s8 s9 s10 s11 s12 s13 s14 s15 s16 l1 i1 p hp lp
  rw [ex_nx e3]
  exact ⟨l3, _, _, _, _, _, _, _, rfl, i3, rfl, i4⟩
end
end K04

namespace K04
open Pz Pz.R
open PySem hiding execs exec
def addF (p q : Int × Int) : Int × Int := pt (p.1 * q.2 + q.1 * p.2) (p.2 * q.2)
def mulF (p q : Int × Int) : Int × Int := pt (p.1 * q.1) (p.2 * q.2)
def sumF (rows : List (Int × Int)) : Int × Int := rows.foldl addF (0, 1)
/-- a small part -/
structure Tn (p : Int × Int) : Prop where
  n : p.1.natAbs ≤ 225
  d : p.2.natAbs ≤ 36
  low : Low p
structure Bk (k : Nat) (p : Int × Int) : Prop where
  n : p.1.natAbs ≤ 300 ^ k
  d : p.2.natAbs ≤ 300 ^ k
  pos : 0 < p.2
theorem Tn.bd {p : Int × Int} (h : Tn p) : Bd p := ⟨Nat.le_trans h.n (by decide), Nat.le_trans h.d (by decide)⟩
theorem Bk.bd {p : Int × Int} {k : Nat} (h : Bk k p) (hk : k ≤ 20) : Bd p := by
  have : 300 ^ k ≤ 300 ^ 20 := Nat.pow_le_pow_right (by decide) hk
  have h2 : (300 : Nat) ^ 20 ≤ 10 ^ 60 := by decide
  exact ⟨Nat.le_trans h.n (Nat.le_trans this h2), Nat.le_trans h.d (Nat.le_trans this h2)⟩
theorem bk_add {p q : Int × Int} {k : Nat} (h : Bk k p) (hq : Tn q) : p.2 * q.2 ≠ 0 ∧ Bk (k + 1) (addF p q) := by
  have d0 : p.2 * q.2 ≠ 0 := Int.mul_ne_zero (by have := h.pos; omega) (by have := hq.low.pos; omega)
  have n1 : (p.1 * q.2 + q.1 * p.2).natAbs ≤ 300 ^ (k + 1) := by
    have a := Int.natAbs_add_le (p.1 * q.2) (q.1 * p.2)
    rw [Int.natAbs_mul, Int.natAbs_mul] at a
    have b := Nat.mul_le_mul h.n hq.d
    have c := Nat.mul_le_mul hq.n h.d
    rw [Nat.pow_succ]
    omega
  have n2 : (p.2 * q.2).natAbs ≤ 300 ^ (k + 1) := by
    rw [Int.natAbs_mul]
    have b := Nat.mul_le_mul h.d hq.d
    rw [Nat.pow_succ]
    omega
  exact ⟨d0, Nat.le_trans (pt_num d0) n1, Nat.le_trans (pt_den d0) n2, (pt_low d0).pos⟩
theorem rp_ok {n : Nat} {a b : Int} (h : b ≠ 0) (h2 : Bd (pt a b)) : rp n a b = .ok (.fz (pr (pt a b))) [] := by
  unfold rp
  rw [if_neg h, if_pos h2]
theorem plus_k (n : Nat) {p q : Int × Int} {k : Nat} (h : Bk k p) (hq : Tn q) (hk : k + 1 ≤ 20) : C (n + 2) 4 [.fz (pr p), .fz (pr q)] = .ok (.fz (pr (addF p q))) [] := by
  obtain ⟨d0, b⟩ := bk_add h hq
  rw [plus_ok n p q (h.bd (by omega)) hq.bd]
  exact rp_ok d0 (b.bd hk)
theorem law_plus_k (n : Nat) {p q : Int × Int} {k : Nat} (h : Bk k p) (hq : Tn q) (hk : k + 1 ≤ 20) : C (n + 2) 21 [.fz (pr p), .fz (pr q)] = .ok (.fz (pr (addF p q))) [] := by
  obtain ⟨d0, b⟩ := bk_add h hq
  exact law_plus_ok n p q (h.bd (by omega)) hq.bd d0
theorem sum_of_ok (n : Nat) (rows : List (Int × Int)) (hr : ∀ p ∈ rows, Tn p) (hl : rows.length ≤ 19) : C (n + 3) 11 [.fz (.list (rows.map pr))] = .ok (.fz (pr (sumF rows))) [] ∧ Bk rows.length (sumF rows) := by
  rw [C_succ (fd := fd11) rfl ⟨rfl, rfl, rfl⟩]
  have a1 : exec (G (n + 2)) (.asg [] 1 (.g 2)) [.fz (.list (rows.map pr)), .un, .un] = .ok .nx [.fz (.list (rows.map pr)), .fz (pr (0, 1)), .un] := by
    simp only [Pz.execs, Pz.exec, Pz.ev, Pz.evT, Pz.ev2, Pz.evs, Pz.evl, Pz.evg, Pz.evi, Pz.evf, R.both_1, R.both_2, R.bind_ap, R.pure_ap, R.ofO_some, R.ofO_none, R.look_fz, R.look_bx, R.keep_fz, R.keep_bx, R.slot_fz, R.slot_bx, R.putV_fz, R.putV_bx, getV, setS, looks, tyD, asBool, asInt, asVw, asIntV, R.eqI, R.neI, R.ltI, R.leI, R.gtI, R.geI, R.eqB, R.neB, R.eqS, R.neS, R.isN, R.nisN, isNone, R.truthB, R.truthI, R.look_vw', R.callI1', R.callI2', frz, biV, mtKind, lenV, absV, R.intV_int, strV, tupleV, listV, strOf, Pz.ixD, R.at_0, R.at_1, R.opII, R.addI, R.subI, R.call1, R.call2, R.call3, R.call4, R.ret0_ok, R.ret0_ex, R.ret1_ok, Option.map_some, Option.map_none, Option.some_or, Option.none_or, List.getElem?_cons_zero, List.getElem?_cons_succ, List.getElem?_nil, List.set_cons_zero, List.set_cons_succ, List.length_cons, List.length_nil, List.length_append, List.length_set, List.map_cons, List.map_nil, List.cons_append, List.nil_append, ite_true, ite_false, if_true, if_false, Bool.not_true, Bool.not_false, endOf, outsOf, Nat.reduceAdd, Nat.reduceLT, Nat.reduceLeDiff, Nat.lt_add_left_iff_pos, Nat.zero_lt_succ, List.replicate, Nat.reduceSub, Nat.sub_self, reduceIte, reduceCtorEq, Bool.false_eq_true, decide_true, decide_false, con2]
  have a2 : ∃ ρ', exec (G (n + 2)) (.for_ [] (.n 2) (.el (.v 0)) (.cons (.asg [1] 1 (.call 4 (.cons (.v 1) (.cons (.v 2) .nil)))) .nil)) [.fz (.list (rows.map pr)), .fz (pr (0, 1)), .un] = .ok .nx ρ' ∧ ∃ s, ρ' = [.fz (.list (rows.map pr)), .fz (pr (sumF rows)), s] ∧ Bk rows.length (sumF rows) := by
    rw [ex_for (ρ1 := [.fz (.list (rows.map pr)), .fz (pr (0, 1)), .un]) rfl (ds := rows.map pr) (ρ2 := [.fz (.list (rows.map pr)), .fz (pr (0, 1)), .un]) rfl]
    obtain ⟨ρ', e, acc, k, s, rest, h1, h2, h3, h4, h5⟩ := loop_inv (turn := fun d => M.bind ((Tgt.n 2).put d) fun _ => execs (G (n + 2)) (.cons (.asg [1] 1 (.call 4 (.cons (.v 1) (.cons (.v 2) .nil)))) .nil))
      (fun ds ρ => ∃ (acc : Int × Int) (k : Nat) (s : Slot) (rest : List (Int × Int)), ρ = [.fz (.list (rows.map pr)), .fz (pr acc), s] ∧ ds = rest.map pr ∧ Bk k acc ∧ k + rest.length = rows.length ∧ (∀ p ∈ rest, Tn p) ∧ rest.foldl addF acc = sumF rows)
      (fun d ds ρ ⟨acc, k, s, rest, h1, h2, h3, h4, h5, h6⟩ => by
        subst h1
        cases rest with
        | nil => cases h2
        | cons p rest =>
          rw [List.map_cons] at h2
          cases h2
          rw [List.length_cons] at h4
          have hp := h5 p (List.mem_cons_self ..)
          have c := plus_k n h3 hp (by omega)
          refine ⟨[.fz (.list (rows.map pr)), .fz (pr (addF acc p)), .fz (pr p)], ?_, addF acc p, k + 1, _, rest, rfl, rfl, (bk_add h3 hp).2, by omega, fun q hq => h5 q (List.mem_cons_of_mem _ hq), h6⟩
          simp only [Pz.execs, Pz.exec, Pz.ev, Pz.evT, Pz.ev2, Pz.evs, Pz.evl, Pz.evg, Pz.evi, Pz.evf, R.both_1, R.both_2, R.bind_ap, R.pure_ap, R.ofO_some, R.ofO_none, R.look_fz, R.look_bx, R.keep_fz, R.keep_bx, R.slot_fz, R.slot_bx, R.putV_fz, R.putV_bx, getV, setS, looks, tyD, asBool, asInt, asVw, asIntV, R.eqI, R.neI, R.ltI, R.leI, R.gtI, R.geI, R.eqB, R.neB, R.eqS, R.neS, R.isN, R.nisN, isNone, R.truthB, R.truthI, R.look_vw', R.callI1', R.callI2', frz, biV, mtKind, lenV, absV, R.intV_int, strV, tupleV, listV, strOf, Pz.ixD, R.at_0, R.at_1, R.opII, R.addI, R.subI, R.call1, R.call2, R.call3, R.call4, R.ret0_ok, R.ret0_ex, R.ret1_ok, Option.map_some, Option.map_none, Option.some_or, Option.none_or, List.getElem?_cons_zero, List.getElem?_cons_succ, List.getElem?_nil, List.set_cons_zero, List.set_cons_succ, List.length_cons, List.length_nil, List.length_append, List.length_set, List.map_cons, List.map_nil, List.cons_append, List.nil_append, ite_true, ite_false, if_true, if_false, Bool.not_true, Bool.not_false, endOf, outsOf, Nat.reduceAdd, Nat.reduceLT, Nat.reduceLeDiff, Nat.lt_add_left_iff_pos, Nat.zero_lt_succ, List.replicate, Nat.reduceSub, Nat.sub_self, reduceIte, reduceCtorEq, Bool.false_eq_true, decide_true, decide_false, Tgt.put, c]) (rows.map pr) _ ⟨(0, 1), 0, .un, rows, rfl, rfl, ⟨by decide, by decide, by decide⟩, by omega, hr, rfl⟩
    obtain ⟨h5, h6⟩ := h5
    have : rest = [] := List.map_eq_nil_iff.mp h2.symm
    subst this
    have h6 : acc = sumF rows := h6
    subst h6
    exact ⟨ρ', e, s, h1, by have : k = rows.length := h4; rw [← this]; exact h3⟩
  obtain ⟨ρ', e, s, rfl, hb⟩ := a2
  refine ⟨?_, hb⟩
  show endOf [] (execs (G (n + 2)) (.cons _ (.cons (.for_ [] (.n 2) (.el (.v 0)) _) (.cons (.retv 1) .nil))) [.fz (.list (rows.map pr)), .un, .un]) = _
  rw [ex_nx a1, ex_nx e]
  rfl
/-- a row's part -/
structure Rw (p : Int × Int) : Prop where
  n : p.1.natAbs ≤ 15
  d : p.2.natAbs ≤ 6
  low : Low p
theorem Rw.tn {p : Int × Int} (h : Rw p) : Tn p := ⟨Nat.le_trans h.n (by decide), Nat.le_trans h.d (by decide), h.low⟩
theorem rw_mul {p q : Int × Int} (hp : Rw p) (hq : Rw q) : p.2 * q.2 ≠ 0 ∧ Tn (mulF p q) := by
  have d0 : p.2 * q.2 ≠ 0 := Int.mul_ne_zero (by have := hp.low.pos; omega) (by have := hq.low.pos; omega)
  refine ⟨d0, Nat.le_trans (pt_num d0) ?_, Nat.le_trans (pt_den d0) ?_, pt_low d0⟩
  · rw [Int.natAbs_mul]
    exact Nat.mul_le_mul hp.n hq.n
  · rw [Int.natAbs_mul]
    exact Nat.mul_le_mul hp.d hq.d
theorem times_k (n : Nat) {p q : Int × Int} (hp : Rw p) (hq : Rw q) : C (n + 2) 6 [.fz (pr p), .fz (pr q)] = .ok (.fz (pr (mulF p q))) [] := by
  obtain ⟨d0, b⟩ := rw_mul hp hq
  rw [times_ok n p q hp.tn.bd hq.tn.bd]
  exact rp_ok d0 b.bd
theorem law_times_k (n : Nat) {p q : Int × Int} (hp : Rw p) (hq : Rw q) : C (n + 2) 23 [.fz (pr p), .fz (pr q)] = .ok (.fz (pr (mulF p q))) [] := by
  obtain ⟨d0, b⟩ := rw_mul hp hq
  exact law_times_ok n p q hp.tn.bd hq.tn.bd d0
def mulR (rows other : List (Int × Int)) : List (Int × Int) := (rows.zip other).map fun p => mulF p.1 p.2
theorem weighed_ok (n : Nat) (rows other : List (Int × Int)) (hr : ∀ p ∈ rows, Rw p) (ho : ∀ p ∈ other, Rw p) (hl : rows.length ≤ 19) : C (n + 4) 12 [.fz (.list (rows.map pr)), .fz (.list (other.map pr))] = .ok (.fz (pr (sumF (mulR rows other)))) [] := by
  rw [C_succ (fd := fd12) rfl ⟨rfl, rfl, rfl⟩]
  have hz : ∀ p ∈ mulR rows other, Tn p := fun p hp => by
    obtain ⟨q, hq, rfl⟩ := List.mem_map.mp hp
    exact (rw_mul (hr _ (List.of_mem_zip hq).1) (ho _ (List.of_mem_zip hq).2)).2
  have s := (sum_of_ok n (mulR rows other) hz (by unfold mulR; rw [List.length_map, List.length_zip]; omega)).1
  have z : zipD (.list (rows.map pr)) (.list (other.map pr)) = some ((rows.zip other).map fun p => .tuple [pr p.1, pr p.2]) := by
    show some _ = _
    rw [List.zip_map, List.map_map]
    rfl
  have comp : ev (G (n + 3)) (.cmp0 [2, 3] (.t [2, 3]) (.zip (.v 0) (.v 1)) (.call 6 (.cons (.v 2) (.cons (.v 3) .nil)))) [.fz (.list (rows.map pr)), .fz (.list (other.map pr)), .un, .un] = .ok (.bx (.l ((mulR rows other).map pr))) [.fz (.list (rows.map pr)), .fz (.list (other.map pr)), .un, .un] := by
    have h1 : evi (G (n + 3)) (.zip (.v 0) (.v 1)) [.fz (.list (rows.map pr)), .fz (.list (other.map pr)), .un, .un] = .ok ((rows.zip other).map fun p => .tuple [pr p.1, pr p.2]) [.fz (.list (rows.map pr)), .fz (.list (other.map pr)), .un, .un] := by
      simp only [Pz.execs, Pz.exec, Pz.ev, Pz.evT, Pz.ev2, Pz.evs, Pz.evl, Pz.evg, Pz.evi, Pz.evf, R.both_1, R.both_2, R.bind_ap, R.pure_ap, R.ofO_some, R.ofO_none, R.look_fz, R.look_bx, R.keep_fz, R.keep_bx, R.slot_fz, R.slot_bx, R.putV_fz, R.putV_bx, getV, setS, looks, tyD, asBool, asInt, asVw, asIntV, R.eqI, R.neI, R.ltI, R.leI, R.gtI, R.geI, R.eqB, R.neB, R.eqS, R.neS, R.isN, R.nisN, isNone, R.truthB, R.truthI, R.look_vw', R.callI1', R.callI2', frz, biV, mtKind, lenV, absV, R.intV_int, strV, tupleV, listV, strOf, Pz.ixD, R.at_0, R.at_1, R.opII, R.addI, R.subI, R.call1, R.call2, R.call3, R.call4, R.ret0_ok, R.ret0_ex, R.ret1_ok, Option.map_some, Option.map_none, Option.some_or, Option.none_or, List.getElem?_cons_zero, List.getElem?_cons_succ, List.getElem?_nil, List.set_cons_zero, List.set_cons_succ, List.length_cons, List.length_nil, List.length_append, List.length_set, List.map_cons, List.map_nil, List.cons_append, List.nil_append, ite_true, ite_false, if_true, if_false, Bool.not_true, Bool.not_false, endOf, outsOf, Nat.reduceAdd, Nat.reduceLT, Nat.reduceLeDiff, Nat.lt_add_left_iff_pos, Nat.zero_lt_succ, List.replicate, Nat.reduceSub, Nat.sub_self, reduceIte, reduceCtorEq, Bool.false_eq_true, decide_true, decide_false, z]
    obtain ⟨ys, ρ2, e, s2, s3, rest, a1, a2, a3, a4⟩ := comps_inv (own := [2, 3]) (turn := fun d => M.bind ((Tgt.t [2, 3]).put d) fun _ => M.bind (ev (G (n + 3)) (.call 6 (.cons (.v 2) (.cons (.v 3) .nil)))) fun x => M.bind (keep x) fun y => M.pure (some y))
      (fun ds acc ρ => ∃ (s2 s3 : Slot) (rest : List ((Int × Int) × (Int × Int))), ρ = [.fz (.list (rows.map pr)), .fz (.list (other.map pr)), s2, s3] ∧ ds = rest.map (fun p => .tuple [pr p.1, pr p.2]) ∧ (∀ p ∈ rest, Rw p.1 ∧ Rw p.2) ∧ acc ++ rest.map (fun p => pr (mulF p.1 p.2)) = (rows.zip other).map (fun p => pr (mulF p.1 p.2)))
      (fun d ds acc ρ ⟨s2, s3, rest, i1, i2, i3, i4⟩ => by
        subst i1
        cases rest with
        | nil => cases i2
        | cons p rest =>
          rw [List.map_cons] at i2
          cases i2
          obtain ⟨r1, r2⟩ := i3 p (List.mem_cons_self ..)
          have c := times_k (n + 1) r1 r2
          refine ⟨some (pr (mulF p.1 p.2)), [.fz (.list (rows.map pr)), .fz (.list (other.map pr)), .fz (pr p.1), .fz (pr p.2)], ?_, ?_, _, _, rest, rfl, rfl, fun q hq => i3 q (List.mem_cons_of_mem _ hq), by rw [← i4, List.map_cons]; simp⟩
          · simp only [Pz.execs, Pz.exec, Pz.ev, Pz.evT, Pz.ev2, Pz.evs, Pz.evl, Pz.evg, Pz.evi, Pz.evf, R.both_1, R.both_2, R.bind_ap, R.pure_ap, R.ofO_some, R.ofO_none, R.look_fz, R.look_bx, R.keep_fz, R.keep_bx, R.slot_fz, R.slot_bx, R.putV_fz, R.putV_bx, getV, setS, looks, tyD, asBool, asInt, asVw, asIntV, R.eqI, R.neI, R.ltI, R.leI, R.gtI, R.geI, R.eqB, R.neB, R.eqS, R.neS, R.isN, R.nisN, isNone, R.truthB, R.truthI, R.look_vw', R.callI1', R.callI2', frz, biV, mtKind, lenV, absV, R.intV_int, strV, tupleV, listV, strOf, Pz.ixD, R.at_0, R.at_1, R.opII, R.addI, R.subI, R.call1, R.call2, R.call3, R.call4, R.ret0_ok, R.ret0_ex, R.ret1_ok, Option.map_some, Option.map_none, Option.some_or, Option.none_or, List.getElem?_cons_zero, List.getElem?_cons_succ, List.getElem?_nil, List.set_cons_zero, List.set_cons_succ, List.length_cons, List.length_nil, List.length_append, List.length_set, List.map_cons, List.map_nil, List.cons_append, List.nil_append, ite_true, ite_false, if_true, if_false, Bool.not_true, Bool.not_false, endOf, outsOf, Nat.reduceAdd, Nat.reduceLT, Nat.reduceLeDiff, Nat.lt_add_left_iff_pos, Nat.zero_lt_succ, List.replicate, Nat.reduceSub, Nat.sub_self, reduceIte, reduceCtorEq, Bool.false_eq_true, decide_true, decide_false, Tgt.put, putL, wipe, List.foldl_cons, List.foldl_nil, c]
          · have : acc.length ≤ ((rows.zip other).map (fun p => pr (mulF p.1 p.2))).length := by rw [← i4, List.length_append]; omega
            rw [List.length_map, List.length_zip] at this
            unfold lim
            omega) ((rows.zip other).map fun p => .tuple [pr p.1, pr p.2]) [] [.fz (.list (rows.map pr)), .fz (.list (other.map pr)), .un, .un] ⟨.un, .un, rows.zip other, rfl, rfl, fun p hp => ⟨hr _ (List.of_mem_zip hp).1, ho _ (List.of_mem_zip hp).2⟩, rfl⟩
    have : rest = [] := List.map_eq_nil_iff.mp a2.symm
    subst this a1
    rw [List.map_nil, List.append_nil] at a4
    have hh := ev_cmp0 (own := [2, 3]) h1 rfl e
    have e4 : (rows.zip other).map (fun p => pr (mulF p.1 p.2)) = (mulR rows other).map pr := by
      unfold mulR
      rw [List.map_map]
      rfl
    rw [a4, e4] at hh
    exact hh
  show endOf [] (execs (G (n + 3)) (.cons (.ret [] (.call 11 (.cons (.cmp0 [2, 3] (.t [2, 3]) (.zip (.v 0) (.v 1)) (.call 6 (.cons (.v 2) (.cons (.v 3) .nil)))) .nil))) .nil) [.fz (.list (rows.map pr)), .fz (.list (other.map pr)), .un, .un]) = _
  have comp : (ev2 (G (n + 3)) (.cmp0 [2, 3] (.t [2, 3]) (.zip (.v 0) (.v 1)) (.call 6 (.cons (.v 2) (.cons (.v 3) .nil))))).1 [.fz (.list (rows.map pr)), .fz (.list (other.map pr)), .un, .un] = .ok (.bx (.l ((mulR rows other).map pr))) [.fz (.list (rows.map pr)), .fz (.list (other.map pr)), .un, .un] := comp
  generalize hT : (Tm.cmp0 [2, 3] (.t [2, 3]) (.zip (.v 0) (.v 1)) (.call 6 (.cons (.v 2) (.cons (.v 3) .nil)))) = T at comp ⊢
  simp only [Pz.execs, Pz.exec, Pz.ev, Pz.evT, Pz.ev2, Pz.evs, Pz.evl, Pz.evg, Pz.evi, Pz.evf, R.both_1, R.both_2, R.bind_ap, R.pure_ap, R.ofO_some, R.ofO_none, R.look_fz, R.look_bx, R.keep_fz, R.keep_bx, R.slot_fz, R.slot_bx, R.putV_fz, R.putV_bx, getV, setS, looks, tyD, asBool, asInt, asVw, asIntV, R.eqI, R.neI, R.ltI, R.leI, R.gtI, R.geI, R.eqB, R.neB, R.eqS, R.neS, R.isN, R.nisN, isNone, R.truthB, R.truthI, R.look_vw', R.callI1', R.callI2', frz, biV, mtKind, lenV, absV, R.intV_int, strV, tupleV, listV, strOf, Pz.ixD, R.at_0, R.at_1, R.opII, R.addI, R.subI, R.call1, R.call2, R.call3, R.call4, R.ret0_ok, R.ret0_ex, R.ret1_ok, Option.map_some, Option.map_none, Option.some_or, Option.none_or, List.getElem?_cons_zero, List.getElem?_cons_succ, List.getElem?_nil, List.set_cons_zero, List.set_cons_succ, List.length_cons, List.length_nil, List.length_append, List.length_set, List.map_cons, List.map_nil, List.cons_append, List.nil_append, ite_true, ite_false, if_true, if_false, Bool.not_true, Bool.not_false, endOf, outsOf, Nat.reduceAdd, Nat.reduceLT, Nat.reduceLeDiff, Nat.lt_add_left_iff_pos, Nat.zero_lt_succ, List.replicate, Nat.reduceSub, Nat.sub_self, reduceIte, reduceCtorEq, Bool.false_eq_true, decide_true, decide_false, comp, Box.d, s]
theorem law_weighed_ok (n : Nat) (rows other : List (Int × Int)) (hr : ∀ p ∈ rows, Rw p) (ho : ∀ p ∈ other, Rw p) (hl : rows.length ≤ 19) (he : other.length = rows.length) : C (n + 3) 26 [.fz (.list (rows.map pr)), .fz (.list (other.map pr))] = .ok (.fz (pr (sumF (mulR rows other)))) [] := by
  rw [C_succ (fd := fd26) rfl ⟨rfl, rfl, rfl⟩]
  have a1 : exec (G (n + 2)) (.asg [] 2 (.tup (.cons (.c (.int (0))) (.cons (.c (.int (1))) .nil)))) [.fz (.list (rows.map pr)), .fz (.list (other.map pr)), .un, .un] = .ok .nx [.fz (.list (rows.map pr)), .fz (.list (other.map pr)), .fz (pr (0, 1)), .un] := rfl
  have a2 : ∃ s, exec (G (n + 2)) (.for_ [] (.n 3) (.r1 (.bi .len (.cons (.v 0) .nil))) (.cons (.asg [2] 2 (.call 21 (.cons (.v 2) (.cons (.call 23 (.cons (.ix (.v 0) (.v 3)) (.cons (.ix (.v 1) (.v 3)) .nil))) .nil)))) .nil)) [.fz (.list (rows.map pr)), .fz (.list (other.map pr)), .fz (pr (0, 1)), .un]
      = .ok .nx [.fz (.list (rows.map pr)), .fz (.list (other.map pr)), .fz (pr (sumF (mulR rows other))), s] := by
    have hlen : (rows.map pr).length = rows.length := List.length_map _
    have h1 : evi (G (n + 2)) (.r1 (.bi .len (.cons (.v 0) .nil))) [.fz (.list (rows.map pr)), .fz (.list (other.map pr)), .fz (pr (0, 1)), .un] = .ok ((List.range rows.length).map fun (k : Nat) => .int k) [.fz (.list (rows.map pr)), .fz (.list (other.map pr)), .fz (pr (0, 1)), .un] := by
      refine (evi_r1 (i := (rows.length : Int)) (ρ1 := [.fz (.list (rows.map pr)), .fz (.list (other.map pr)), .fz (pr (0, 1)), .un]) ?_ ⟨by omega, by omega⟩).trans (by rw [Int.toNat_natCast])
      simp only [Pz.execs, Pz.exec, Pz.ev, Pz.evT, Pz.ev2, Pz.evs, Pz.evl, Pz.evg, Pz.evi, Pz.evf, R.both_1, R.both_2, R.bind_ap, R.pure_ap, R.ofO_some, R.ofO_none, R.look_fz, R.look_bx, R.keep_fz, R.keep_bx, R.slot_fz, R.slot_bx, R.putV_fz, R.putV_bx, getV, setS, looks, tyD, asBool, asInt, asVw, asIntV, R.eqI, R.neI, R.ltI, R.leI, R.gtI, R.geI, R.eqB, R.neB, R.eqS, R.neS, R.isN, R.nisN, isNone, R.truthB, R.truthI, R.look_vw', R.callI1', R.callI2', frz, biV, mtKind, lenV, absV, R.intV_int, strV, tupleV, listV, strOf, Pz.ixD, R.at_0, R.at_1, R.opII, R.addI, R.subI, R.call1, R.call2, R.call3, R.call4, R.ret0_ok, R.ret0_ex, R.ret1_ok, Option.map_some, Option.map_none, Option.some_or, Option.none_or, List.getElem?_cons_zero, List.getElem?_cons_succ, List.getElem?_nil, List.set_cons_zero, List.set_cons_succ, List.length_cons, List.length_nil, List.length_append, List.length_set, List.map_cons, List.map_nil, List.cons_append, List.nil_append, ite_true, ite_false, if_true, if_false, Bool.not_true, Bool.not_false, endOf, outsOf, Nat.reduceAdd, Nat.reduceLT, Nat.reduceLeDiff, Nat.lt_add_left_iff_pos, Nat.zero_lt_succ, List.replicate, Nat.reduceSub, Nat.sub_self, reduceIte, reduceCtorEq, Bool.false_eq_true, decide_true, decide_false, hlen]
    rw [ex_for (ρ1 := [.fz (.list (rows.map pr)), .fz (.list (other.map pr)), .fz (pr (0, 1)), .un]) rfl h1]
    have hml : (mulR rows other).length = rows.length := by unfold mulR; rw [List.length_map, List.length_zip]; omega
    obtain ⟨ρ', e, k, acc, s, h1, h2, h3, h4⟩ := loop_inv (turn := fun d => M.bind ((Tgt.n 3).put d) fun _ => execs (G (n + 2)) (.cons (.asg [2] 2 (.call 21 (.cons (.v 2) (.cons (.call 23 (.cons (.ix (.v 0) (.v 3)) (.cons (.ix (.v 1) (.v 3)) .nil))) .nil)))) .nil))
      (fun ds ρ => ∃ (k : Nat) (acc : Int × Int) (s : Slot), ρ = [.fz (.list (rows.map pr)), .fz (.list (other.map pr)), .fz (pr acc), s] ∧ ds = ((List.range rows.length).drop k).map (fun (j : Nat) => .int j) ∧ Bk k acc ∧ ((mulR rows other).drop k).foldl addF acc = sumF (mulR rows other))
      (fun d ds ρ ⟨k, acc, s, i1, i2, i3, i4⟩ => by
        subst i1
        by_cases hk : k < rows.length
        · have hd : (List.range rows.length).drop k = k :: (List.range rows.length).drop (k + 1) := by
            rw [List.drop_eq_getElem_cons (by rw [List.length_range]; exact hk), List.getElem_range]
          rw [hd, List.map_cons] at i2
          cases i2
          have r1 := hr rows[k] (List.getElem_mem _)
          have r2 := ho (other[k]'(by omega)) (List.getElem_mem _)
          have c := law_times_k n r1 r2
          obtain ⟨_, tn⟩ := rw_mul r1 r2
          have c2 := law_plus_k n i3 tn (by omega)
          have x1 : at_ (rows.map pr) (k : Int) = some (pr rows[k]) := by rw [at_nat (by rw [List.length_map]; exact hk), List.getElem?_map, List.getElem?_eq_getElem hk]; rfl
          have x2 : at_ (other.map pr) (k : Int) = some (pr (other[k]'(by omega))) := by rw [at_nat (by rw [List.length_map]; omega), List.getElem?_map, List.getElem?_eq_getElem (by omega)]; rfl
          have hm : (mulR rows other).drop k = mulF rows[k] (other[k]'(by omega)) :: (mulR rows other).drop (k + 1) := by
            rw [List.drop_eq_getElem_cons (by omega)]
            congr 1
            unfold mulR
            rw [List.getElem_map, List.getElem_zip]
          rw [hm, List.foldl_cons] at i4
          refine ⟨[.fz (.list (rows.map pr)), .fz (.list (other.map pr)), .fz (pr (addF acc (mulF rows[k] (other[k]'(by omega))))), .fz (.int k)], ?_, k + 1, _, _, rfl, rfl, (bk_add i3 tn).2, i4⟩
          simp only [Pz.execs, Pz.exec, Pz.ev, Pz.evT, Pz.ev2, Pz.evs, Pz.evl, Pz.evg, Pz.evi, Pz.evf, R.both_1, R.both_2, R.bind_ap, R.pure_ap, R.ofO_some, R.ofO_none, R.look_fz, R.look_bx, R.keep_fz, R.keep_bx, R.slot_fz, R.slot_bx, R.putV_fz, R.putV_bx, getV, setS, looks, tyD, asBool, asInt, asVw, asIntV, R.eqI, R.neI, R.ltI, R.leI, R.gtI, R.geI, R.eqB, R.neB, R.eqS, R.neS, R.isN, R.nisN, isNone, R.truthB, R.truthI, R.look_vw', R.callI1', R.callI2', frz, biV, mtKind, lenV, absV, R.intV_int, strV, tupleV, listV, strOf, Pz.ixD, R.at_0, R.at_1, R.opII, R.addI, R.subI, R.call1, R.call2, R.call3, R.call4, R.ret0_ok, R.ret0_ex, R.ret1_ok, Option.map_some, Option.map_none, Option.some_or, Option.none_or, List.getElem?_cons_zero, List.getElem?_cons_succ, List.getElem?_nil, List.set_cons_zero, List.set_cons_succ, List.length_cons, List.length_nil, List.length_append, List.length_set, List.map_cons, List.map_nil, List.cons_append, List.nil_append, ite_true, ite_false, if_true, if_false, Bool.not_true, Bool.not_false, endOf, outsOf, Nat.reduceAdd, Nat.reduceLT, Nat.reduceLeDiff, Nat.lt_add_left_iff_pos, Nat.zero_lt_succ, List.replicate, Nat.reduceSub, Nat.sub_self, reduceIte, reduceCtorEq, Bool.false_eq_true, decide_true, decide_false, Tgt.put, x1, x2, c, c2]
        · rw [List.drop_of_length_le (by rw [List.length_range]; omega)] at i2
          cases i2) _ _ ⟨0, (0, 1), .un, rfl, rfl, ⟨by decide, by decide, by decide⟩, rfl⟩
    have hk : rows.length ≤ k := by
      have := congrArg List.length h2
      rw [List.length_map, List.length_drop, List.length_range, List.length_nil] at this
      omega
    rw [List.drop_of_length_le (by omega)] at h4
    have h4 : acc = sumF (mulR rows other) := h4
    subst h4 h1
    exact ⟨s, e⟩
  obtain ⟨s, e⟩ := a2
  show endOf [] (execs (G (n + 2)) (.cons _ (.cons _ (.cons (.retv 2) .nil))) [.fz (.list (rows.map pr)), .fz (.list (other.map pr)), .un, .un]) = _
  rw [ex_nx a1, ex_nx e]
  rfl
def minF (f : Int × Int) (rest : List (Int × Int)) : Int × Int := rest.foldl (fun f o => if les o f then o else f) f
def maxF (f : Int × Int) (rest : List (Int × Int)) : Int × Int := rest.foldl (fun f o => if les f o then o else f) f
theorem minF_is : ∀ (rest : List (Int × Int)) (f : Int × Int), 0 < f.2 → (∀ p ∈ rest, 0 < p.2) → (minF f rest = f ∨ minF f rest ∈ rest) ∧ ¬ les f (minF f rest) ∧ ∀ o ∈ rest, ¬ les o (minF f rest)
  | [], f, _, _ => ⟨.inl rfl, les_irrefl f, fun o ho => by cases ho⟩
  | o :: rest, f, hf, hr => by
    have ho := hr o (List.mem_cons_self ..)
    have hr' : ∀ p ∈ rest, 0 < p.2 := fun p hp => hr p (List.mem_cons_of_mem _ hp)
    show (minF (if les o f then o else f) rest = f ∨ minF (if les o f then o else f) rest ∈ o :: rest) ∧ ¬ les f (minF (if les o f then o else f) rest) ∧ ∀ x ∈ o :: rest, ¬ les x (minF (if les o f then o else f) rest)
    by_cases h : les o f
    · rw [if_pos h]
      obtain ⟨a, b, c⟩ := minF_is rest o ho hr'
      have hm : 0 < (minF o rest).2 := by
        rcases a with a | a
        · rw [a]; exact ho
        · exact hr' _ a
      refine ⟨.inr ?_, les_trans hm ho hf b (les_asymm h), fun x hx => ?_⟩
      · rcases a with a | a
        · rw [a]; exact List.mem_cons_self ..
        · exact List.mem_cons_of_mem _ a
      · rcases List.mem_cons.mp hx with rfl | hx
        · exact b
        · exact c x hx
    · rw [if_neg h]
      obtain ⟨a, b, c⟩ := minF_is rest f hf hr'
      have hm : 0 < (minF f rest).2 := by
        rcases a with a | a
        · rw [a]; exact hf
        · exact hr' _ a
      refine ⟨a.imp id fun z => List.mem_cons_of_mem _ z, b, fun x hx => ?_⟩
      rcases List.mem_cons.mp hx with rfl | hx
      · exact les_trans hm hf ho b h
      · exact c x hx
theorem maxF_is : ∀ (rest : List (Int × Int)) (f : Int × Int), 0 < f.2 → (∀ p ∈ rest, 0 < p.2) → (maxF f rest = f ∨ maxF f rest ∈ rest) ∧ ¬ les (maxF f rest) f ∧ ∀ o ∈ rest, ¬ les (maxF f rest) o
  | [], f, _, _ => ⟨.inl rfl, les_irrefl f, fun o ho => by cases ho⟩
  | o :: rest, f, hf, hr => by
    have ho := hr o (List.mem_cons_self ..)
    have hr' : ∀ p ∈ rest, 0 < p.2 := fun p hp => hr p (List.mem_cons_of_mem _ hp)
    show (maxF (if les f o then o else f) rest = f ∨ maxF (if les f o then o else f) rest ∈ o :: rest) ∧ ¬ les (maxF (if les f o then o else f) rest) f ∧ ∀ x ∈ o :: rest, ¬ les (maxF (if les f o then o else f) rest) x
    by_cases h : les f o
    · rw [if_pos h]
      obtain ⟨a, b, c⟩ := maxF_is rest o ho hr'
      have hm : 0 < (maxF o rest).2 := by
        rcases a with a | a
        · rw [a]; exact ho
        · exact hr' _ a
      refine ⟨.inr ?_, les_trans hf ho hm (les_asymm h) b, fun x hx => ?_⟩
      · rcases a with a | a
        · rw [a]; exact List.mem_cons_self ..
        · exact List.mem_cons_of_mem _ a
      · rcases List.mem_cons.mp hx with rfl | hx
        · exact b
        · exact c x hx
    · rw [if_neg h]
      obtain ⟨a, b, c⟩ := maxF_is rest f hf hr'
      have hm : 0 < (maxF f rest).2 := by
        rcases a with a | a
        · rw [a]; exact hf
        · exact hr' _ a
      refine ⟨a.imp id fun z => List.mem_cons_of_mem _ z, b, fun x hx => ?_⟩
      rcases List.mem_cons.mp hx with rfl | hx
      · exact les_trans ho hf hm h b
      · exact c x hx
theorem sl1 (d : D) (ds : List D) : slV (.list (d :: ds)) (some 1) none = some (.bx (.l ds)) := by
  show some (Val.bx (.l (cutL (d :: ds) (some 1) none))) = _
  congr 3
  unfold cutL
  have := HT.sIx_nat (d :: ds).length 0 1
  rw [show ((1 : Nat) : Int) = 1 from rfl] at this
  rw [this, HT.sIx_none, List.length_cons, Nat.min_eq_left (by omega)]
  show (ds.take (ds.length + 1 - 1)) = ds
  exact List.take_of_length_le (by omega)
theorem least_ok (n : Nat) (f : Int × Int) (rest : List (Int × Int)) (hf : Bd f) (hr : ∀ p ∈ rest, Bd p) : C (n + 2) 9 [.fz (.list ((f :: rest).map pr))] = .ok (.fz (pr (minF f rest))) [] := by
  rw [C_succ (fd := fd9) rfl ⟨rfl, rfl, rfl⟩]
  have a1 : exec (G (n + 1)) (.asg [] 1 (.ix (.v 0) (.c (.int (0))))) [.fz (.list ((f :: rest).map pr)), .un, .un] = .ok .nx [.fz (.list ((f :: rest).map pr)), .fz (pr f), .un] := by
    simp only [Pz.execs, Pz.exec, Pz.ev, Pz.evT, Pz.ev2, Pz.evs, Pz.evl, Pz.evg, Pz.evi, Pz.evf, R.both_1, R.both_2, R.bind_ap, R.pure_ap, R.ofO_some, R.ofO_none, R.look_fz, R.look_bx, R.keep_fz, R.keep_bx, R.slot_fz, R.slot_bx, R.putV_fz, R.putV_bx, getV, setS, looks, tyD, asBool, asInt, asVw, asIntV, R.eqI, R.neI, R.ltI, R.leI, R.gtI, R.geI, R.eqB, R.neB, R.eqS, R.neS, R.isN, R.nisN, isNone, R.truthB, R.truthI, R.look_vw', R.callI1', R.callI2', frz, biV, mtKind, lenV, absV, R.intV_int, strV, tupleV, listV, strOf, Pz.ixD, R.at_0, R.at_1, R.opII, R.addI, R.subI, R.call1, R.call2, R.call3, R.call4, R.ret0_ok, R.ret0_ex, R.ret1_ok, Option.map_some, Option.map_none, Option.some_or, Option.none_or, List.getElem?_cons_zero, List.getElem?_cons_succ, List.getElem?_nil, List.set_cons_zero, List.set_cons_succ, List.length_cons, List.length_nil, List.length_append, List.length_set, List.map_cons, List.map_nil, List.cons_append, List.nil_append, ite_true, ite_false, if_true, if_false, Bool.not_true, Bool.not_false, endOf, outsOf, Nat.reduceAdd, Nat.reduceLT, Nat.reduceLeDiff, Nat.lt_add_left_iff_pos, Nat.zero_lt_succ, List.replicate, Nat.reduceSub, Nat.sub_self, reduceIte, reduceCtorEq, Bool.false_eq_true, decide_true, decide_false]
  have a2 : ∃ s, exec (G (n + 1)) (.for_ [] (.n 2) (.el (.slL (.v 0) (.c (.int (1))))) (.cons (.asg [1] 1 (.ie (.call 8 (.cons (.v 2) (.cons (.v 1) .nil))) (.v 2) (.v 1))) .nil)) [.fz (.list ((f :: rest).map pr)), .fz (pr f), .un]
      = .ok .nx [.fz (.list ((f :: rest).map pr)), .fz (pr (minF f rest)), s] := by
    have h1 : evi (G (n + 1)) (.el (.slL (.v 0) (.c (.int (1))))) [.fz (.list ((f :: rest).map pr)), .fz (pr f), .un] = .ok (rest.map pr) [.fz (.list ((f :: rest).map pr)), .fz (pr f), .un] := by
      simp only [Pz.execs, Pz.exec, Pz.ev, Pz.evT, Pz.ev2, Pz.evs, Pz.evl, Pz.evg, Pz.evi, Pz.evf, R.both_1, R.both_2, R.bind_ap, R.pure_ap, R.ofO_some, R.ofO_none, R.look_fz, R.look_bx, R.keep_fz, R.keep_bx, R.slot_fz, R.slot_bx, R.putV_fz, R.putV_bx, getV, setS, looks, tyD, asBool, asInt, asVw, asIntV, R.eqI, R.neI, R.ltI, R.leI, R.gtI, R.geI, R.eqB, R.neB, R.eqS, R.neS, R.isN, R.nisN, isNone, R.truthB, R.truthI, R.look_vw', R.callI1', R.callI2', frz, biV, mtKind, lenV, absV, R.intV_int, strV, tupleV, listV, strOf, Pz.ixD, R.at_0, R.at_1, R.opII, R.addI, R.subI, R.call1, R.call2, R.call3, R.call4, R.ret0_ok, R.ret0_ex, R.ret1_ok, Option.map_some, Option.map_none, Option.some_or, Option.none_or, List.getElem?_cons_zero, List.getElem?_cons_succ, List.getElem?_nil, List.set_cons_zero, List.set_cons_succ, List.length_cons, List.length_nil, List.length_append, List.length_set, List.map_cons, List.map_nil, List.cons_append, List.nil_append, ite_true, ite_false, if_true, if_false, Bool.not_true, Bool.not_false, endOf, outsOf, Nat.reduceAdd, Nat.reduceLT, Nat.reduceLeDiff, Nat.lt_add_left_iff_pos, Nat.zero_lt_succ, List.replicate, Nat.reduceSub, Nat.sub_self, reduceIte, reduceCtorEq, Bool.false_eq_true, decide_true, decide_false, sl1, Box.d, seqOf]
    rw [ex_for (ρ1 := [.fz (.list ((f :: rest).map pr)), .fz (pr f), .un]) rfl h1]
    obtain ⟨ρ', e, acc, s, l, i1, i2, i3, i4, i5⟩ := loop_inv (turn := fun d => M.bind ((Tgt.n 2).put d) fun _ => execs (G (n + 1)) (.cons (.asg [1] 1 (.ie (.call 8 (.cons (.v 2) (.cons (.v 1) .nil))) (.v 2) (.v 1))) .nil))
      (fun ds ρ => ∃ (acc : Int × Int) (s : Slot) (l : List (Int × Int)), ρ = [.fz (.list ((f :: rest).map pr)), .fz (pr acc), s] ∧ ds = l.map pr ∧ Bd acc ∧ (∀ p ∈ l, Bd p) ∧ minF acc l = minF f rest)
      (fun d ds ρ ⟨acc, s, l, i1, i2, i3, i4, i5⟩ => by
        subst i1
        cases l with
        | nil => cases i2
        | cons p l =>
          rw [List.map_cons] at i2
          cases i2
          have hp := i4 p (List.mem_cons_self ..)
          have c := is_less_ok n p acc hp i3
          refine ⟨[.fz (.list ((f :: rest).map pr)), .fz (pr (if les p acc then p else acc)), .fz (pr p)], ?_, (if les p acc then p else acc), _, l, rfl, rfl, ?_, fun q hq => i4 q (List.mem_cons_of_mem _ hq), i5⟩
          · by_cases h : les p acc
            · rw [if_pos h]
              simp only [Pz.execs, Pz.exec, Pz.ev, Pz.evT, Pz.ev2, Pz.evs, Pz.evl, Pz.evg, Pz.evi, Pz.evf, R.both_1, R.both_2, R.bind_ap, R.pure_ap, R.ofO_some, R.ofO_none, R.look_fz, R.look_bx, R.keep_fz, R.keep_bx, R.slot_fz, R.slot_bx, R.putV_fz, R.putV_bx, getV, setS, looks, tyD, asBool, asInt, asVw, asIntV, R.eqI, R.neI, R.ltI, R.leI, R.gtI, R.geI, R.eqB, R.neB, R.eqS, R.neS, R.isN, R.nisN, isNone, R.truthB, R.truthI, R.look_vw', R.callI1', R.callI2', frz, biV, mtKind, lenV, absV, R.intV_int, strV, tupleV, listV, strOf, Pz.ixD, R.at_0, R.at_1, R.opII, R.addI, R.subI, R.call1, R.call2, R.call3, R.call4, R.ret0_ok, R.ret0_ex, R.ret1_ok, Option.map_some, Option.map_none, Option.some_or, Option.none_or, List.getElem?_cons_zero, List.getElem?_cons_succ, List.getElem?_nil, List.set_cons_zero, List.set_cons_succ, List.length_cons, List.length_nil, List.length_append, List.length_set, List.map_cons, List.map_nil, List.cons_append, List.nil_append, ite_true, ite_false, if_true, if_false, Bool.not_true, Bool.not_false, endOf, outsOf, Nat.reduceAdd, Nat.reduceLT, Nat.reduceLeDiff, Nat.lt_add_left_iff_pos, Nat.zero_lt_succ, List.replicate, Nat.reduceSub, Nat.sub_self, reduceIte, reduceCtorEq, Bool.false_eq_true, decide_true, decide_false, Tgt.put, c, h]
            · rw [if_neg h]
              simp only [Pz.execs, Pz.exec, Pz.ev, Pz.evT, Pz.ev2, Pz.evs, Pz.evl, Pz.evg, Pz.evi, Pz.evf, R.both_1, R.both_2, R.bind_ap, R.pure_ap, R.ofO_some, R.ofO_none, R.look_fz, R.look_bx, R.keep_fz, R.keep_bx, R.slot_fz, R.slot_bx, R.putV_fz, R.putV_bx, getV, setS, looks, tyD, asBool, asInt, asVw, asIntV, R.eqI, R.neI, R.ltI, R.leI, R.gtI, R.geI, R.eqB, R.neB, R.eqS, R.neS, R.isN, R.nisN, isNone, R.truthB, R.truthI, R.look_vw', R.callI1', R.callI2', frz, biV, mtKind, lenV, absV, R.intV_int, strV, tupleV, listV, strOf, Pz.ixD, R.at_0, R.at_1, R.opII, R.addI, R.subI, R.call1, R.call2, R.call3, R.call4, R.ret0_ok, R.ret0_ex, R.ret1_ok, Option.map_some, Option.map_none, Option.some_or, Option.none_or, List.getElem?_cons_zero, List.getElem?_cons_succ, List.getElem?_nil, List.set_cons_zero, List.set_cons_succ, List.length_cons, List.length_nil, List.length_append, List.length_set, List.map_cons, List.map_nil, List.cons_append, List.nil_append, ite_true, ite_false, if_true, if_false, Bool.not_true, Bool.not_false, endOf, outsOf, Nat.reduceAdd, Nat.reduceLT, Nat.reduceLeDiff, Nat.lt_add_left_iff_pos, Nat.zero_lt_succ, List.replicate, Nat.reduceSub, Nat.sub_self, reduceIte, reduceCtorEq, Bool.false_eq_true, decide_true, decide_false, Tgt.put, c, h]
          · split
            · exact hp
            · exact i3) (rest.map pr) [.fz (.list ((f :: rest).map pr)), .fz (pr f), .un] ⟨f, .un, rest, rfl, rfl, hf, hr, rfl⟩
    have : l = [] := List.map_eq_nil_iff.mp i2.symm
    subst this
    have i5 : acc = minF f rest := i5
    subst i5 i1
    exact ⟨s, e⟩
  obtain ⟨s, e⟩ := a2
  show endOf [] (execs (G (n + 1)) (.cons _ (.cons _ (.cons (.retv 1) .nil))) [.fz (.list ((f :: rest).map pr)), .un, .un]) = _
  rw [ex_nx a1, ex_nx e]
  rfl
theorem most_ok (n : Nat) (f : Int × Int) (rest : List (Int × Int)) (hf : Bd f) (hr : ∀ p ∈ rest, Bd p) : C (n + 2) 10 [.fz (.list ((f :: rest).map pr))] = .ok (.fz (pr (maxF f rest))) [] := by
  rw [C_succ (fd := fd10) rfl ⟨rfl, rfl, rfl⟩]
  have a1 : exec (G (n + 1)) (.asg [] 1 (.ix (.v 0) (.c (.int (0))))) [.fz (.list ((f :: rest).map pr)), .un, .un] = .ok .nx [.fz (.list ((f :: rest).map pr)), .fz (pr f), .un] := by
    simp only [Pz.execs, Pz.exec, Pz.ev, Pz.evT, Pz.ev2, Pz.evs, Pz.evl, Pz.evg, Pz.evi, Pz.evf, R.both_1, R.both_2, R.bind_ap, R.pure_ap, R.ofO_some, R.ofO_none, R.look_fz, R.look_bx, R.keep_fz, R.keep_bx, R.slot_fz, R.slot_bx, R.putV_fz, R.putV_bx, getV, setS, looks, tyD, asBool, asInt, asVw, asIntV, R.eqI, R.neI, R.ltI, R.leI, R.gtI, R.geI, R.eqB, R.neB, R.eqS, R.neS, R.isN, R.nisN, isNone, R.truthB, R.truthI, R.look_vw', R.callI1', R.callI2', frz, biV, mtKind, lenV, absV, R.intV_int, strV, tupleV, listV, strOf, Pz.ixD, R.at_0, R.at_1, R.opII, R.addI, R.subI, R.call1, R.call2, R.call3, R.call4, R.ret0_ok, R.ret0_ex, R.ret1_ok, Option.map_some, Option.map_none, Option.some_or, Option.none_or, List.getElem?_cons_zero, List.getElem?_cons_succ, List.getElem?_nil, List.set_cons_zero, List.set_cons_succ, List.length_cons, List.length_nil, List.length_append, List.length_set, List.map_cons, List.map_nil, List.cons_append, List.nil_append, ite_true, ite_false, if_true, if_false, Bool.not_true, Bool.not_false, endOf, outsOf, Nat.reduceAdd, Nat.reduceLT, Nat.reduceLeDiff, Nat.lt_add_left_iff_pos, Nat.zero_lt_succ, List.replicate, Nat.reduceSub, Nat.sub_self, reduceIte, reduceCtorEq, Bool.false_eq_true, decide_true, decide_false]
  have a2 : ∃ s, exec (G (n + 1)) (.for_ [] (.n 2) (.el (.slL (.v 0) (.c (.int (1))))) (.cons (.asg [1] 1 (.ie (.call 8 (.cons (.v 1) (.cons (.v 2) .nil))) (.v 2) (.v 1))) .nil)) [.fz (.list ((f :: rest).map pr)), .fz (pr f), .un]
      = .ok .nx [.fz (.list ((f :: rest).map pr)), .fz (pr (maxF f rest)), s] := by
    have h1 : evi (G (n + 1)) (.el (.slL (.v 0) (.c (.int (1))))) [.fz (.list ((f :: rest).map pr)), .fz (pr f), .un] = .ok (rest.map pr) [.fz (.list ((f :: rest).map pr)), .fz (pr f), .un] := by
      simp only [Pz.execs, Pz.exec, Pz.ev, Pz.evT, Pz.ev2, Pz.evs, Pz.evl, Pz.evg, Pz.evi, Pz.evf, R.both_1, R.both_2, R.bind_ap, R.pure_ap, R.ofO_some, R.ofO_none, R.look_fz, R.look_bx, R.keep_fz, R.keep_bx, R.slot_fz, R.slot_bx, R.putV_fz, R.putV_bx, getV, setS, looks, tyD, asBool, asInt, asVw, asIntV, R.eqI, R.neI, R.ltI, R.leI, R.gtI, R.geI, R.eqB, R.neB, R.eqS, R.neS, R.isN, R.nisN, isNone, R.truthB, R.truthI, R.look_vw', R.callI1', R.callI2', frz, biV, mtKind, lenV, absV, R.intV_int, strV, tupleV, listV, strOf, Pz.ixD, R.at_0, R.at_1, R.opII, R.addI, R.subI, R.call1, R.call2, R.call3, R.call4, R.ret0_ok, R.ret0_ex, R.ret1_ok, Option.map_some, Option.map_none, Option.some_or, Option.none_or, List.getElem?_cons_zero, List.getElem?_cons_succ, List.getElem?_nil, List.set_cons_zero, List.set_cons_succ, List.length_cons, List.length_nil, List.length_append, List.length_set, List.map_cons, List.map_nil, List.cons_append, List.nil_append, ite_true, ite_false, if_true, if_false, Bool.not_true, Bool.not_false, endOf, outsOf, Nat.reduceAdd, Nat.reduceLT, Nat.reduceLeDiff, Nat.lt_add_left_iff_pos, Nat.zero_lt_succ, List.replicate, Nat.reduceSub, Nat.sub_self, reduceIte, reduceCtorEq, Bool.false_eq_true, decide_true, decide_false, sl1, Box.d, seqOf]
    rw [ex_for (ρ1 := [.fz (.list ((f :: rest).map pr)), .fz (pr f), .un]) rfl h1]
    obtain ⟨ρ', e, acc, s, l, i1, i2, i3, i4, i5⟩ := loop_inv (turn := fun d => M.bind ((Tgt.n 2).put d) fun _ => execs (G (n + 1)) (.cons (.asg [1] 1 (.ie (.call 8 (.cons (.v 1) (.cons (.v 2) .nil))) (.v 2) (.v 1))) .nil))
      (fun ds ρ => ∃ (acc : Int × Int) (s : Slot) (l : List (Int × Int)), ρ = [.fz (.list ((f :: rest).map pr)), .fz (pr acc), s] ∧ ds = l.map pr ∧ Bd acc ∧ (∀ p ∈ l, Bd p) ∧ maxF acc l = maxF f rest)
      (fun d ds ρ ⟨acc, s, l, i1, i2, i3, i4, i5⟩ => by
        subst i1
        cases l with
        | nil => cases i2
        | cons p l =>
          rw [List.map_cons] at i2
          cases i2
          have hp := i4 p (List.mem_cons_self ..)
          have c := is_less_ok n acc p i3 hp
          refine ⟨[.fz (.list ((f :: rest).map pr)), .fz (pr (if les acc p then p else acc)), .fz (pr p)], ?_, (if les acc p then p else acc), _, l, rfl, rfl, ?_, fun q hq => i4 q (List.mem_cons_of_mem _ hq), i5⟩
          · by_cases h : les acc p
            · rw [if_pos h]
              simp only [Pz.execs, Pz.exec, Pz.ev, Pz.evT, Pz.ev2, Pz.evs, Pz.evl, Pz.evg, Pz.evi, Pz.evf, R.both_1, R.both_2, R.bind_ap, R.pure_ap, R.ofO_some, R.ofO_none, R.look_fz, R.look_bx, R.keep_fz, R.keep_bx, R.slot_fz, R.slot_bx, R.putV_fz, R.putV_bx, getV, setS, looks, tyD, asBool, asInt, asVw, asIntV, R.eqI, R.neI, R.ltI, R.leI, R.gtI, R.geI, R.eqB, R.neB, R.eqS, R.neS, R.isN, R.nisN, isNone, R.truthB, R.truthI, R.look_vw', R.callI1', R.callI2', frz, biV, mtKind, lenV, absV, R.intV_int, strV, tupleV, listV, strOf, Pz.ixD, R.at_0, R.at_1, R.opII, R.addI, R.subI, R.call1, R.call2, R.call3, R.call4, R.ret0_ok, R.ret0_ex, R.ret1_ok, Option.map_some, Option.map_none, Option.some_or, Option.none_or, List.getElem?_cons_zero, List.getElem?_cons_succ, List.getElem?_nil, List.set_cons_zero, List.set_cons_succ, List.length_cons, List.length_nil, List.length_append, List.length_set, List.map_cons, List.map_nil, List.cons_append, List.nil_append, ite_true, ite_false, if_true, if_false, Bool.not_true, Bool.not_false, endOf, outsOf, Nat.reduceAdd, Nat.reduceLT, Nat.reduceLeDiff, Nat.lt_add_left_iff_pos, Nat.zero_lt_succ, List.replicate, Nat.reduceSub, Nat.sub_self, reduceIte, reduceCtorEq, Bool.false_eq_true, decide_true, decide_false, Tgt.put, c, h]
            · rw [if_neg h]
              simp only [Pz.execs, Pz.exec, Pz.ev, Pz.evT, Pz.ev2, Pz.evs, Pz.evl, Pz.evg, Pz.evi, Pz.evf, R.both_1, R.both_2, R.bind_ap, R.pure_ap, R.ofO_some, R.ofO_none, R.look_fz, R.look_bx, R.keep_fz, R.keep_bx, R.slot_fz, R.slot_bx, R.putV_fz, R.putV_bx, getV, setS, looks, tyD, asBool, asInt, asVw, asIntV, R.eqI, R.neI, R.ltI, R.leI, R.gtI, R.geI, R.eqB, R.neB, R.eqS, R.neS, R.isN, R.nisN, isNone, R.truthB, R.truthI, R.look_vw', R.callI1', R.callI2', frz, biV, mtKind, lenV, absV, R.intV_int, strV, tupleV, listV, strOf, Pz.ixD, R.at_0, R.at_1, R.opII, R.addI, R.subI, R.call1, R.call2, R.call3, R.call4, R.ret0_ok, R.ret0_ex, R.ret1_ok, Option.map_some, Option.map_none, Option.some_or, Option.none_or, List.getElem?_cons_zero, List.getElem?_cons_succ, List.getElem?_nil, List.set_cons_zero, List.set_cons_succ, List.length_cons, List.length_nil, List.length_append, List.length_set, List.map_cons, List.map_nil, List.cons_append, List.nil_append, ite_true, ite_false, if_true, if_false, Bool.not_true, Bool.not_false, endOf, outsOf, Nat.reduceAdd, Nat.reduceLT, Nat.reduceLeDiff, Nat.lt_add_left_iff_pos, Nat.zero_lt_succ, List.replicate, Nat.reduceSub, Nat.sub_self, reduceIte, reduceCtorEq, Bool.false_eq_true, decide_true, decide_false, Tgt.put, c, h]
          · split
            · exact hp
            · exact i3) (rest.map pr) [.fz (.list ((f :: rest).map pr)), .fz (pr f), .un] ⟨f, .un, rest, rfl, rfl, hf, hr, rfl⟩
    have : l = [] := List.map_eq_nil_iff.mp i2.symm
    subst this
    have i5 : acc = maxF f rest := i5
    subst i5 i1
    exact ⟨s, e⟩
  obtain ⟨s, e⟩ := a2
  show endOf [] (execs (G (n + 1)) (.cons _ (.cons _ (.cons (.retv 1) .nil))) [.fz (.list ((f :: rest).map pr)), .un, .un]) = _
  rw [ex_nx a1, ex_nx e]
  rfl
end K04

namespace K04
open Pz Pz.R
open PySem hiding execs exec
def l30 : Pz.Sm := (.par2 [] 10 11 (.bin .sub (.call 17 (.io 1 (.cons (.c (.int (400))) .nil))) (.c (.int (200)))) (.bin .sub (.call 17 (.io 1 (.cons (.c (.int (60))) .nil))) (.c (.int (30)))))
def l31 : Pz.Sm := (.ifs [] (.nt (.call 18 (.cons (.call 27 (.cons (.c (.int (4))) (.cons (.v 10) (.cons (.v 11) .nil)))) (.cons (.ie (.cmp .ne (.v 11) (.c (.int (0)))) (.call 20 (.cons (.v 10) (.cons (.v 11) .nil))) (.c (.str (Str.ofString "none")))) .nil)))) (.cons (.ret [] (.c (.bool false))) .nil) .nil)
def l32 : Pz.Sm := (.asg [] 12 (.cmp0 [6] (.n 6) (.r1 (.bin .add (.c (.int (1))) (.call 17 (.io 1 (.cons (.c (.int (5))) .nil))))) (.call 20 (.cons (.bin .sub (.call 17 (.io 1 (.cons (.c (.int (30))) .nil))) (.c (.int (15)))) (.cons (.bin .add (.c (.int (1))) (.call 17 (.io 1 (.cons (.c (.int (6))) .nil)))) .nil)))))
def l33 : Pz.Sm := (.asg [12] 4 (.cmp0 [3] (.n 3) (.el (.v 12)) (.call 20 (.cons (.bin .sub (.call 17 (.io 1 (.cons (.c (.int (30))) .nil))) (.c (.int (15)))) (.cons (.bin .add (.c (.int (1))) (.call 17 (.io 1 (.cons (.c (.int (6))) .nil)))) .nil)))))
def l34 : Pz.Sm := (.ifs [4, 12] (.or (.nt (.call 18 (.cons (.lst (.cons (.call 11 (.cons (.v 12) .nil)) (.cons (.call 12 (.cons (.v 12) (.cons (.v 4) .nil))) .nil))) (.cons (.lst (.cons (.call 26 (.cons (.v 12) (.cons (.bin .mul (.lst (.cons (.tup (.cons (.c (.int (1))) (.cons (.c (.int (1))) .nil))) .nil)) (.bi .len (.cons (.v 12) .nil))) .nil))) (.cons (.call 26 (.cons (.v 12) (.cons (.v 4) .nil))) .nil))) .nil)))) (.cmp .ne (.call 11 (.cons (.lst .nil) .nil)) (.tup (.cons (.c (.int (0))) (.cons (.c (.int (1))) .nil))))) (.cons (.ret [] (.c (.bool false))) .nil) .nil)
def l35 : Pz.Sm := (.ifs [12] (.or (.cmp .nin (.call 9 (.cons (.v 12) .nil)) (.v 12)) (.or (.cmp .nin (.call 10 (.cons (.v 12) .nil)) (.v 12)) (.cmp .ne (.cmp1 [3] (.n 3) (.el (.v 12)) (.or (.call 25 (.cons (.v 3) (.cons (.call 9 (.cons (.v 12) .nil)) .nil))) (.call 25 (.cons (.call 10 (.cons (.v 12) .nil)) (.cons (.v 3) .nil)))) (.v 3)) (.lst .nil)))) (.cons (.ret [] (.c (.bool false))) .nil) .nil)
def l3b : Sms := (.cons (.par2 [] 10 11 (.bin .sub (.call 17 (.io 1 (.cons (.c (.int (400))) .nil))) (.c (.int (200)))) (.bin .sub (.call 17 (.io 1 (.cons (.c (.int (60))) .nil))) (.c (.int (30))))) (.cons (.ifs [] (.nt (.call 18 (.cons (.call 27 (.cons (.c (.int (4))) (.cons (.v 10) (.cons (.v 11) .nil)))) (.cons (.ie (.cmp .ne (.v 11) (.c (.int (0)))) (.call 20 (.cons (.v 10) (.cons (.v 11) .nil))) (.c (.str (Str.ofString "none")))) .nil)))) (.cons (.ret [] (.c (.bool false))) .nil) .nil) (.cons (.asg [] 12 (.cmp0 [6] (.n 6) (.r1 (.bin .add (.c (.int (1))) (.call 17 (.io 1 (.cons (.c (.int (5))) .nil))))) (.call 20 (.cons (.bin .sub (.call 17 (.io 1 (.cons (.c (.int (30))) .nil))) (.c (.int (15)))) (.cons (.bin .add (.c (.int (1))) (.call 17 (.io 1 (.cons (.c (.int (6))) .nil)))) .nil))))) (.cons (.asg [12] 4 (.cmp0 [3] (.n 3) (.el (.v 12)) (.call 20 (.cons (.bin .sub (.call 17 (.io 1 (.cons (.c (.int (30))) .nil))) (.c (.int (15)))) (.cons (.bin .add (.c (.int (1))) (.call 17 (.io 1 (.cons (.c (.int (6))) .nil)))) .nil))))) (.cons (.ifs [4, 12] (.or (.nt (.call 18 (.cons (.lst (.cons (.call 11 (.cons (.v 12) .nil)) (.cons (.call 12 (.cons (.v 12) (.cons (.v 4) .nil))) .nil))) (.cons (.lst (.cons (.call 26 (.cons (.v 12) (.cons (.bin .mul (.lst (.cons (.tup (.cons (.c (.int (1))) (.cons (.c (.int (1))) .nil))) .nil)) (.bi .len (.cons (.v 12) .nil))) .nil))) (.cons (.call 26 (.cons (.v 12) (.cons (.v 4) .nil))) .nil))) .nil)))) (.cmp .ne (.call 11 (.cons (.lst .nil) .nil)) (.tup (.cons (.c (.int (0))) (.cons (.c (.int (1))) .nil))))) (.cons (.ret [] (.c (.bool false))) .nil) .nil) (.cons (.ifs [12] (.or (.cmp .nin (.call 9 (.cons (.v 12) .nil)) (.v 12)) (.or (.cmp .nin (.call 10 (.cons (.v 12) .nil)) (.v 12)) (.cmp .ne (.cmp1 [3] (.n 3) (.el (.v 12)) (.or (.call 25 (.cons (.v 3) (.cons (.call 9 (.cons (.v 12) .nil)) .nil))) (.call 25 (.cons (.call 10 (.cons (.v 12) .nil)) (.cons (.v 3) .nil)))) (.v 3)) (.lst .nil)))) (.cons (.ret [] (.c (.bool false))) .nil) .nil) .nil))))))
def rowT : Tm := .call 20 (.cons (.bin .sub (.call 17 (.io 1 (.cons (.c (.int (30))) .nil))) (.c (.int (15)))) (.cons (.bin .add (.c (.int (1))) (.call 17 (.io 1 (.cons (.c (.int (6))) .nil)))) .nil))
section
variable (n : Nat) (sc : List D) (s2 s3 s4 s5 s6 s7 s8 s9 s10 s11 s12 s13 s14 s15 s16 : Slot)
theorem l30_ok (l : List D) (hl : Ints l) : ∃ (a b : Int) (l' : List D), exec (G (n + 4)) l30 [.fz (.list sc), .bx (.l l) false false, s2, s3, s4, s5, s6, s7, s8, s9, s10, s11, s12, s13, s14, s15, s16] = .ok .nx [.fz (.list sc), .bx (.l l') false false, s2, s3, s4, s5, s6, s7, s8, s9, .fz (.int a), .fz (.int b), s12, s13, s14, s15, s16] ∧ Ints l' ∧ a.natAbs ≤ 200 ∧ b.natAbs ≤ 30 := by
  obtain ⟨u, l1, t1, t2, t3, t4⟩ := take_at (n + 3) l hl 400 (by decide)
  obtain ⟨v, l2, u1, u2, u3, u4⟩ := take_at (n + 3) l1 t4 60 (by decide)
  refine ⟨u - 200, v - 30, l2, ?_, u4, by omega, by omega⟩
  simp only [l30, Pz.execs, Pz.exec, Pz.ev, Pz.evT, Pz.ev2, Pz.evs, Pz.evl, Pz.evg, Pz.evi, Pz.evf, R.both_1, R.both_2, R.bind_ap, R.pure_ap, R.ofO_some, R.ofO_none, R.look_fz, R.look_bx, R.keep_fz, R.keep_bx, R.slot_fz, R.slot_bx, R.putV_fz, R.putV_bx, getV, setS, looks, tyD, asBool, asInt, asVw, asIntV, R.eqI, R.neI, R.ltI, R.leI, R.gtI, R.geI, R.eqB, R.neB, R.eqS, R.neS, R.isN, R.nisN, isNone, R.truthB, R.truthI, R.look_vw', R.callI1', R.callI2', frz, biV, mtKind, lenV, absV, R.intV_int, strV, tupleV, listV, strOf, Pz.ixD, R.at_0, R.at_1, R.opII, R.addI, R.subI, R.call1, R.call2, R.call3, R.call4, R.ret0_ok, R.ret0_ex, R.ret1_ok, Option.map_some, Option.map_none, Option.some_or, Option.none_or, List.getElem?_cons_zero, List.getElem?_cons_succ, List.getElem?_nil, List.set_cons_zero, List.set_cons_succ, List.length_cons, List.length_nil, List.length_append, List.length_set, List.map_cons, List.map_nil, List.cons_append, List.nil_append, ite_true, ite_false, if_true, if_false, Bool.not_true, Bool.not_false, endOf, outsOf, Nat.reduceAdd, Nat.reduceLT, Nat.reduceLeDiff, Nat.lt_add_left_iff_pos, Nat.zero_lt_succ, List.replicate, Nat.reduceSub, Nat.sub_self, reduceIte, reduceCtorEq, Bool.false_eq_true, decide_true, decide_false, t1, u1]
theorem l31_ok (l : List D) (a b : Int) (ha : a.natAbs ≤ 200) (hb : b.natAbs ≤ 30) : exec (G (n + 4)) l31 [.fz (.list sc), .bx (.l l) false false, s2, s3, s4, s5, s6, s7, s8, s9, .fz (.int a), .fz (.int b), s12, s13, s14, s15, s16] = .ok .nx [.fz (.list sc), .bx (.l l) false false, s2, s3, s4, s5, s6, s7, s8, s9, .fz (.int a), .fz (.int b), s12, s13, s14, s15, s16] := by
  have sa : Sm a := Nat.lt_of_le_of_lt ha (by decide)
  have sb : Sm b := Nat.lt_of_le_of_lt hb (by decide)
  have c1 := told_part (n + 2) a b sa sb
  by_cases h : b = 0
  · rw [if_pos h] at c1
    have e : (b == 0) = true := beq_iff_eq.mpr h
    have c2 := alike_str (n + 3) (Str.ofString "none")
    simp only [l31, Pz.execs, Pz.exec, Pz.ev, Pz.evT, Pz.ev2, Pz.evs, Pz.evl, Pz.evg, Pz.evi, Pz.evf, R.both_1, R.both_2, R.bind_ap, R.pure_ap, R.ofO_some, R.ofO_none, R.look_fz, R.look_bx, R.keep_fz, R.keep_bx, R.slot_fz, R.slot_bx, R.putV_fz, R.putV_bx, getV, setS, looks, tyD, asBool, asInt, asVw, asIntV, R.eqI, R.neI, R.ltI, R.leI, R.gtI, R.geI, R.eqB, R.neB, R.eqS, R.neS, R.isN, R.nisN, isNone, R.truthB, R.truthI, R.look_vw', R.callI1', R.callI2', frz, biV, mtKind, lenV, absV, R.intV_int, strV, tupleV, listV, strOf, Pz.ixD, R.at_0, R.at_1, R.opII, R.addI, R.subI, R.call1, R.call2, R.call3, R.call4, R.ret0_ok, R.ret0_ex, R.ret1_ok, Option.map_some, Option.map_none, Option.some_or, Option.none_or, List.getElem?_cons_zero, List.getElem?_cons_succ, List.getElem?_nil, List.set_cons_zero, List.set_cons_succ, List.length_cons, List.length_nil, List.length_append, List.length_set, List.map_cons, List.map_nil, List.cons_append, List.nil_append, ite_true, ite_false, if_true, if_false, Bool.not_true, Bool.not_false, endOf, outsOf, Nat.reduceAdd, Nat.reduceLT, Nat.reduceLeDiff, Nat.lt_add_left_iff_pos, Nat.zero_lt_succ, List.replicate, Nat.reduceSub, Nat.sub_self, reduceIte, reduceCtorEq, Bool.false_eq_true, decide_true, decide_false, c1, c2, e]
  · rw [if_neg h, if_pos (show Bd (pt a b) from ⟨Nat.le_trans (pt_num h) (Nat.le_trans ha (by decide)), Nat.le_trans (pt_den h) (Nat.le_trans hb (by decide))⟩)] at c1
    have e : (b == 0) = false := beq_eq_false_iff_ne.mpr h
    have c2 := alike_pr (n + 2) (pt a b)
    have c3 := law_part_ok (n + 3) a b sa sb h
    simp only [l31, Pz.execs, Pz.exec, Pz.ev, Pz.evT, Pz.ev2, Pz.evs, Pz.evl, Pz.evg, Pz.evi, Pz.evf, R.both_1, R.both_2, R.bind_ap, R.pure_ap, R.ofO_some, R.ofO_none, R.look_fz, R.look_bx, R.keep_fz, R.keep_bx, R.slot_fz, R.slot_bx, R.putV_fz, R.putV_bx, getV, setS, looks, tyD, asBool, asInt, asVw, asIntV, R.eqI, R.neI, R.ltI, R.leI, R.gtI, R.geI, R.eqB, R.neB, R.eqS, R.neS, R.isN, R.nisN, isNone, R.truthB, R.truthI, R.look_vw', R.callI1', R.callI2', frz, biV, mtKind, lenV, absV, R.intV_int, strV, tupleV, listV, strOf, Pz.ixD, R.at_0, R.at_1, R.opII, R.addI, R.subI, R.call1, R.call2, R.call3, R.call4, R.ret0_ok, R.ret0_ex, R.ret1_ok, Option.map_some, Option.map_none, Option.some_or, Option.none_or, List.getElem?_cons_zero, List.getElem?_cons_succ, List.getElem?_nil, List.set_cons_zero, List.set_cons_succ, List.length_cons, List.length_nil, List.length_append, List.length_set, List.map_cons, List.map_nil, List.cons_append, List.nil_append, ite_true, ite_false, if_true, if_false, Bool.not_true, Bool.not_false, endOf, outsOf, Nat.reduceAdd, Nat.reduceLT, Nat.reduceLeDiff, Nat.lt_add_left_iff_pos, Nat.zero_lt_succ, List.replicate, Nat.reduceSub, Nat.sub_self, reduceIte, reduceCtorEq, Bool.false_eq_true, decide_true, decide_false, c1, c2, c3, e]
/-- a drawn part of a row -/
theorem rowT_ok (l : List D) (hl : Ints l) : ∃ p l', ev (G (n + 4)) rowT [.fz (.list sc), .bx (.l l) false false, s2, s3, s4, s5, s6, s7, s8, s9, s10, s11, s12, s13, s14, s15, s16] = .ok (.fz (pr p)) [.fz (.list sc), .bx (.l l') false false, s2, s3, s4, s5, s6, s7, s8, s9, s10, s11, s12, s13, s14, s15, s16] ∧ Ints l' ∧ Rw p := by
  obtain ⟨u, l1, t1, t2, t3, t4⟩ := take_at (n + 3) l hl 30 (by decide)
  obtain ⟨v, l2, u1, u2, u3, u4⟩ := take_at (n + 3) l1 t4 6 (by decide)
  have b0 : (1 : Int) + v ≠ 0 := by omega
  have ha : (u - 15).natAbs ≤ 15 := by omega
  have hb : ((1 : Int) + v).natAbs ≤ 6 := by omega
  have c := law_part_ok (n + 3) (u - 15) (1 + v) (Nat.lt_of_le_of_lt ha (by decide)) (Nat.lt_of_le_of_lt hb (by decide)) b0
  refine ⟨_, l2, ?_, u4, Nat.le_trans (pt_num b0) ha, Nat.le_trans (pt_den b0) hb, pt_low b0⟩
  simp only [rowT, Pz.execs, Pz.exec, Pz.ev, Pz.evT, Pz.ev2, Pz.evs, Pz.evl, Pz.evg, Pz.evi, Pz.evf, R.both_1, R.both_2, R.bind_ap, R.pure_ap, R.ofO_some, R.ofO_none, R.look_fz, R.look_bx, R.keep_fz, R.keep_bx, R.slot_fz, R.slot_bx, R.putV_fz, R.putV_bx, getV, setS, looks, tyD, asBool, asInt, asVw, asIntV, R.eqI, R.neI, R.ltI, R.leI, R.gtI, R.geI, R.eqB, R.neB, R.eqS, R.neS, R.isN, R.nisN, isNone, R.truthB, R.truthI, R.look_vw', R.callI1', R.callI2', frz, biV, mtKind, lenV, absV, R.intV_int, strV, tupleV, listV, strOf, Pz.ixD, R.at_0, R.at_1, R.opII, R.addI, R.subI, R.call1, R.call2, R.call3, R.call4, R.ret0_ok, R.ret0_ex, R.ret1_ok, Option.map_some, Option.map_none, Option.some_or, Option.none_or, List.getElem?_cons_zero, List.getElem?_cons_succ, List.getElem?_nil, List.set_cons_zero, List.set_cons_succ, List.length_cons, List.length_nil, List.length_append, List.length_set, List.map_cons, List.map_nil, List.cons_append, List.nil_append, ite_true, ite_false, if_true, if_false, Bool.not_true, Bool.not_false, endOf, outsOf, Nat.reduceAdd, Nat.reduceLT, Nat.reduceLeDiff, Nat.lt_add_left_iff_pos, Nat.zero_lt_succ, List.replicate, Nat.reduceSub, Nat.sub_self, reduceIte, reduceCtorEq, Bool.false_eq_true, decide_true, decide_false, t1, u1, c]
theorem l32_ok (l : List D) (hl : Ints l) (h6 : Pl s6 = true) : ∃ f rest l', exec (G (n + 4)) l32 [.fz (.list sc), .bx (.l l) false false, s2, s3, s4, s5, s6, s7, s8, s9, s10, s11, s12, s13, s14, s15, s16] = .ok .nx [.fz (.list sc), .bx (.l l') false false, s2, s3, s4, s5, s6, s7, s8, s9, s10, s11, .bx (.l ((f :: rest).map pr)) false false, s13, s14, s15, s16] ∧ Ints l' ∧ (∀ p ∈ f :: rest, Rw p) ∧ (f :: rest).length ≤ 5 := by
  obtain ⟨r, l1, t1, t2, t3, t4⟩ := take_at (n + 3) l hl 5 (by decide)
  have h1 : evi (G (n + 4)) (.r1 (.bin .add (.c (.int (1))) (.call 17 (.io 1 (.cons (.c (.int (5))) .nil))))) [.fz (.list sc), .bx (.l l) false false, s2, s3, s4, s5, s6, s7, s8, s9, s10, s11, s12, s13, s14, s15, s16] = .ok ((List.range (1 + r).toNat).map fun (k : Nat) => .int k) [.fz (.list sc), .bx (.l l1) false false, s2, s3, s4, s5, s6, s7, s8, s9, s10, s11, s12, s13, s14, s15, s16] := by
    refine evi_r1 (i := 1 + r) ?_ ⟨by omega, by omega⟩
    simp only [Pz.execs, Pz.exec, Pz.ev, Pz.evT, Pz.ev2, Pz.evs, Pz.evl, Pz.evg, Pz.evi, Pz.evf, R.both_1, R.both_2, R.bind_ap, R.pure_ap, R.ofO_some, R.ofO_none, R.look_fz, R.look_bx, R.keep_fz, R.keep_bx, R.slot_fz, R.slot_bx, R.putV_fz, R.putV_bx, getV, setS, looks, tyD, asBool, asInt, asVw, asIntV, R.eqI, R.neI, R.ltI, R.leI, R.gtI, R.geI, R.eqB, R.neB, R.eqS, R.neS, R.isN, R.nisN, isNone, R.truthB, R.truthI, R.look_vw', R.callI1', R.callI2', frz, biV, mtKind, lenV, absV, R.intV_int, strV, tupleV, listV, strOf, Pz.ixD, R.at_0, R.at_1, R.opII, R.addI, R.subI, R.call1, R.call2, R.call3, R.call4, R.ret0_ok, R.ret0_ex, R.ret1_ok, Option.map_some, Option.map_none, Option.some_or, Option.none_or, List.getElem?_cons_zero, List.getElem?_cons_succ, List.getElem?_nil, List.set_cons_zero, List.set_cons_succ, List.length_cons, List.length_nil, List.length_append, List.length_set, List.map_cons, List.map_nil, List.cons_append, List.nil_append, ite_true, ite_false, if_true, if_false, Bool.not_true, Bool.not_false, endOf, outsOf, Nat.reduceAdd, Nat.reduceLT, Nat.reduceLeDiff, Nat.lt_add_left_iff_pos, Nat.zero_lt_succ, List.replicate, Nat.reduceSub, Nat.sub_self, reduceIte, reduceCtorEq, Bool.false_eq_true, decide_true, decide_false, t1]
  obtain ⟨ys, ρ2, e, s6', l2, rows, i1, i2, i3, i4, i5⟩ := comps_inv (own := [6]) (turn := fun d => M.bind ((Tgt.n 6).put d) fun _ => M.bind (ev (G (n + 4)) rowT) fun x => M.bind (keep x) fun y => M.pure (some y))
    (fun ds acc ρ => ∃ (s6 : Slot) (l' : List D) (rows : List (Int × Int)), ρ = [.fz (.list sc), .bx (.l l') false false, s2, s3, s4, s5, s6, s7, s8, s9, s10, s11, s12, s13, s14, s15, s16] ∧ Ints l' ∧ acc = rows.map pr ∧ (∀ p ∈ rows, Rw p) ∧ rows.length + ds.length = (1 + r).toNat)
    (fun d ds acc ρ ⟨s6, l', rows, i1, i2, i3, i4, i5⟩ => by
      subst i1
      obtain ⟨p, l2, g1, g2, g3⟩ := rowT_ok n sc s2 s3 s4 s5 (.fz d) s7 s8 s9 s10 s11 s12 s13 s14 s15 s16 l' i2
      rw [List.length_cons] at i5
      refine ⟨some (pr p), [.fz (.list sc), .bx (.l l2) false false, s2, s3, s4, s5, .fz d, s7, s8, s9, s10, s11, s12, s13, s14, s15, s16], ?_, ?_, .fz d, l2, rows ++ [p], rfl, g2, by rw [i3, List.map_append]; rfl, fun q hq => ?_, by rw [List.length_append, List.length_singleton]; omega⟩
      · show M.bind ((Tgt.n 6).put d) (fun _ => M.bind (ev (G (n + 4)) rowT) fun x => M.bind (keep x) fun y => M.pure (some y)) [.fz (.list sc), .bx (.l l') false false, s2, s3, s4, s5, .un, s7, s8, s9, s10, s11, s12, s13, s14, s15, s16] = _
        have pp : (Tgt.n 6).put d [.fz (.list sc), .bx (.l l') false false, s2, s3, s4, s5, .un, s7, s8, s9, s10, s11, s12, s13, s14, s15, s16] = .ok () [.fz (.list sc), .bx (.l l') false false, s2, s3, s4, s5, .fz d, s7, s8, s9, s10, s11, s12, s13, s14, s15, s16] := rfl
        rw [R.bind_ok pp, R.bind_ok g1]
        rfl
      · rw [i3, List.length_map]
        unfold lim
        omega
      · rcases List.mem_append.mp hq with hq | hq
        · exact i4 q hq
        · rw [List.mem_singleton.mp hq]; exact g3) ((List.range (1 + r).toNat).map fun (k : Nat) => .int k) [] [.fz (.list sc), .bx (.l l1) false false, s2, s3, s4, s5, s6, s7, s8, s9, s10, s11, s12, s13, s14, s15, s16] ⟨s6, l1, [], rfl, t4, rfl, (fun p hp => by cases hp), by simp⟩
  have hb : noBox [6] [.fz (.list sc), .bx (.l l1) false false, s2, s3, s4, s5, s6, s7, s8, s9, s10, s11, s12, s13, s14, s15, s16] = true := by
    cases s6 with
    | bx b io lk => cases h6
    | _ => rfl
  have hh := ev_cmp0 (own := [6]) h1 hb e
  cases rows with
  | nil =>
    exfalso
    simp at i5
    omega
  | cons f rest =>
    rw [i3, i1] at hh
    refine ⟨f, rest, l2, ?_, i2, i4, by simp at i5 ⊢; omega⟩
    exact ex_asg (ρ1 := [.fz (.list sc), .bx (.l l) false false, s2, s3, s4, s5, s6, s7, s8, s9, s10, s11, s12, s13, s14, s15, s16]) rfl hh rfl
theorem l33_ok (l : List D) (hl : Ints l) (h3 : Pl s3 = true) (rows : List (Int × Int)) (hr : rows.length ≤ 5) : ∃ (other : List (Int × Int)) (l' : List D), exec (G (n + 4)) l33 [.fz (.list sc), .bx (.l l) false false, s2, s3, s4, s5, s6, s7, s8, s9, s10, s11, .bx (.l (rows.map pr)) false false, s13, s14, s15, s16] = .ok .nx [.fz (.list sc), .bx (.l l') false false, s2, s3, .bx (.l (other.map pr)) false false, s5, s6, s7, s8, s9, s10, s11, .fz (.list (rows.map pr)), s13, s14, s15, s16] ∧ Ints l' ∧ (∀ p ∈ other, Rw p) ∧ other.length = rows.length := by
  have h1 : evi (G (n + 4)) (.el (.v 12)) [.fz (.list sc), .bx (.l l) false false, s2, s3, s4, s5, s6, s7, s8, s9, s10, s11, .fz (.list (rows.map pr)), s13, s14, s15, s16] = .ok (rows.map pr) [.fz (.list sc), .bx (.l l) false false, s2, s3, s4, s5, s6, s7, s8, s9, s10, s11, .fz (.list (rows.map pr)), s13, s14, s15, s16] := rfl
  obtain ⟨ys, ρ2, e, s3', l2, other, i1, i2, i3, i4, i5⟩ := comps_inv (own := [3]) (turn := fun d => M.bind ((Tgt.n 3).put d) fun _ => M.bind (ev (G (n + 4)) rowT) fun x => M.bind (keep x) fun y => M.pure (some y))
    (fun ds acc ρ => ∃ (s3 : Slot) (l' : List D) (other : List (Int × Int)), ρ = [.fz (.list sc), .bx (.l l') false false, s2, s3, s4, s5, s6, s7, s8, s9, s10, s11, .fz (.list (rows.map pr)), s13, s14, s15, s16] ∧ Ints l' ∧ acc = other.map pr ∧ (∀ p ∈ other, Rw p) ∧ other.length + ds.length = rows.length)
    (fun d ds acc ρ ⟨s3, l', other, i1, i2, i3, i4, i5⟩ => by
      subst i1
      obtain ⟨p, l2, g1, g2, g3⟩ := rowT_ok n sc s2 (.fz d) s4 s5 s6 s7 s8 s9 s10 s11 (.fz (.list (rows.map pr))) s13 s14 s15 s16 l' i2
      rw [List.length_cons] at i5
      refine ⟨some (pr p), [.fz (.list sc), .bx (.l l2) false false, s2, .fz d, s4, s5, s6, s7, s8, s9, s10, s11, .fz (.list (rows.map pr)), s13, s14, s15, s16], ?_, ?_, .fz d, l2, other ++ [p], rfl, g2, by rw [i3, List.map_append]; rfl, fun q hq => ?_, by rw [List.length_append, List.length_singleton]; omega⟩
      · show M.bind ((Tgt.n 3).put d) (fun _ => M.bind (ev (G (n + 4)) rowT) fun x => M.bind (keep x) fun y => M.pure (some y)) [.fz (.list sc), .bx (.l l') false false, s2, .un, s4, s5, s6, s7, s8, s9, s10, s11, .fz (.list (rows.map pr)), s13, s14, s15, s16] = _
        have pp : (Tgt.n 3).put d [.fz (.list sc), .bx (.l l') false false, s2, .un, s4, s5, s6, s7, s8, s9, s10, s11, .fz (.list (rows.map pr)), s13, s14, s15, s16] = .ok () [.fz (.list sc), .bx (.l l') false false, s2, .fz d, s4, s5, s6, s7, s8, s9, s10, s11, .fz (.list (rows.map pr)), s13, s14, s15, s16] := rfl
        rw [R.bind_ok pp, R.bind_ok g1]
        rfl
      · rw [i3, List.length_map]
        unfold lim
        omega
      · rcases List.mem_append.mp hq with hq | hq
        · exact i4 q hq
        · rw [List.mem_singleton.mp hq]; exact g3) (rows.map pr) [] [.fz (.list sc), .bx (.l l) false false, s2, s3, s4, s5, s6, s7, s8, s9, s10, s11, .fz (.list (rows.map pr)), s13, s14, s15, s16] ⟨s3, l, [], rfl, hl, rfl, (fun p hp => by cases hp), by simp⟩
  have hb : noBox [3] [.fz (.list sc), .bx (.l l) false false, s2, s3, s4, s5, s6, s7, s8, s9, s10, s11, .fz (.list (rows.map pr)), s13, s14, s15, s16] = true := by
    cases s3 with
    | bx b io lk => cases h3
    | _ => rfl
  have hh := ev_cmp0 (own := [3]) h1 hb e
  rw [i3, i1] at hh
  refine ⟨other, l2, ?_, i2, i4, by simpa using i5⟩
  exact ex_asg (ρ1 := [.fz (.list sc), .bx (.l l) false false, s2, s3, s4, s5, s6, s7, s8, s9, s10, s11, .fz (.list (rows.map pr)), s13, s14, s15, s16]) rfl hh rfl
theorem mulR_ones {rows : List (Int × Int)} (h : ∀ p ∈ rows, Rw p) : mulR rows (List.replicate rows.length (1, 1)) = rows := by
  induction rows with
  | nil => rfl
  | cons p rows ih =>
    unfold mulR
    rw [List.length_cons, List.replicate_succ, List.zip_cons_cons, List.map_cons]
    have e : mulF p (1, 1) = p := by
      unfold mulF
      rw [Int.mul_one, Int.mul_one]
      exact pt_id (h p (List.mem_cons_self ..)).low
    rw [e]
    congr 1
    exact ih fun q hq => h q (List.mem_cons_of_mem _ hq)
theorem l34_ok (l : List D) (rows other : List (Int × Int)) (hr : ∀ p ∈ rows, Rw p) (ho : ∀ p ∈ other, Rw p) (hl : rows.length ≤ 5) (he : other.length = rows.length) : exec (G (n + 4)) l34 [.fz (.list sc), .bx (.l l) false false, s2, s3, .bx (.l (other.map pr)) false false, s5, s6, s7, s8, s9, s10, s11, .fz (.list (rows.map pr)), s13, s14, s15, s16] = .ok .nx [.fz (.list sc), .bx (.l l) false false, s2, s3, .fz (.list (other.map pr)), s5, s6, s7, s8, s9, s10, s11, .fz (.list (rows.map pr)), s13, s14, s15, s16] := by
  have c1 := (sum_of_ok (n + 1) rows (fun p hp => (hr p hp).tn) (by omega)).1
  have c2 := weighed_ok n rows other hr ho (by omega)
  have one : ∀ p ∈ List.replicate rows.length ((1 : Int), (1 : Int)), Rw p := fun p hp => by
    rw [List.eq_of_mem_replicate hp]
    exact ⟨by decide, by decide, ⟨by decide, by decide⟩⟩
  have c3 := law_weighed_ok (n + 1) rows (List.replicate rows.length (1, 1)) hr one (by omega) (List.length_replicate ..)
  rw [mulR_ones hr] at c3
  have c4 := law_weighed_ok (n + 1) rows other hr ho (by omega) he
  have hlen : (rows.map pr).length = rows.length := List.length_map _
  have rep : repV .mul (.bx (.l [.tuple [.int 1, .int 1]])) (.int (rows.length : Int)) = some (.bx (.l ((List.replicate rows.length ((1 : Int), (1 : Int))).map pr))) := by
    show (if -1000000 ≤ (rows.length : Int) ∧ (rows.length : Int) ≤ 1000000 ∧ [PyData.tuple [.int 1, .int 1]].length * (rows.length : Int).toNat ≤ lim then some (Val.bx (.l (List.replicate (rows.length : Int).toNat [PyData.tuple [.int 1, .int 1]]).flatten)) else none) = _
    rw [if_pos ⟨by omega, by omega, by unfold lim; simp; omega⟩, Int.toNat_natCast]
    congr 3
    generalize rows.length = k
    induction k with
    | zero => rfl
    | succ k ih => rw [List.replicate_succ, List.replicate_succ, List.flatten_cons, ih]; rfl
  have ov : opV .mul (.list [.tuple [.int 1, .int 1]]) (.int (rows.length : Int)) = none := rfl
  have c5 := alike_rows (n + 3) (.list [pr (sumF rows), pr (sumF (mulR rows other))]) [pr (sumF rows), pr (sumF (mulR rows other))] (.inl rfl) (by show 2 ≤ 1000000; decide) (fun x hx => by
    simp only [List.mem_cons, List.not_mem_nil, or_false] at hx
    rcases hx with rfl | rfl
    · exact alike_pr (n + 1) _
    · exact alike_pr (n + 1) _)
  have c6 := (sum_of_ok (n + 1) [] (fun p hp => by cases hp) (by decide)).1
  have c6 : C (n + 4) 11 [.fz (.list [])] = .ok (.fz (.tuple [.int 0, .int 1])) [] := c6
  have ne : cmpD .ne (.tuple [.int 0, .int 1]) (.tuple [.int 0, .int 1]) = some false := rfl
  have len2 : (0 : Nat) + 1 + 1 ≤ lim := by decide
  simp only [l34, Pz.execs, Pz.exec, Pz.ev, Pz.evT, Pz.ev2, Pz.evs, Pz.evl, Pz.evg, Pz.evi, Pz.evf, R.both_1, R.both_2, R.bind_ap, R.pure_ap, R.ofO_some, R.ofO_none, R.look_fz, R.look_bx, R.keep_fz, R.keep_bx, R.slot_fz, R.slot_bx, R.putV_fz, R.putV_bx, getV, setS, looks, tyD, asBool, asInt, asVw, asIntV, R.eqI, R.neI, R.ltI, R.leI, R.gtI, R.geI, R.eqB, R.neB, R.eqS, R.neS, R.isN, R.nisN, isNone, R.truthB, R.truthI, R.look_vw', R.callI1', R.callI2', frz, biV, mtKind, lenV, absV, R.intV_int, strV, tupleV, listV, strOf, Pz.ixD, R.at_0, R.at_1, R.opII, R.addI, R.subI, R.call1, R.call2, R.call3, R.call4, R.ret0_ok, R.ret0_ex, R.ret1_ok, Option.map_some, Option.map_none, Option.some_or, Option.none_or, List.getElem?_cons_zero, List.getElem?_cons_succ, List.getElem?_nil, List.set_cons_zero, List.set_cons_succ, List.length_cons, List.length_nil, List.length_append, List.length_set, List.map_cons, List.map_nil, List.cons_append, List.nil_append, ite_true, ite_false, if_true, if_false, Bool.not_true, Bool.not_false, endOf, outsOf, Nat.reduceAdd, Nat.reduceLT, Nat.reduceLeDiff, Nat.lt_add_left_iff_pos, Nat.zero_lt_succ, List.replicate, Nat.reduceSub, Nat.sub_self, reduceIte, reduceCtorEq, Bool.false_eq_true, decide_true, decide_false, Box.d, c1, c2, c3, c4, hlen, rep, ov, c5, c6, ne]
theorem in_rows {m : Int × Int} {rows : List (Int × Int)} (h : m ∈ rows) : cmpD .nin (pr m) (.list (rows.map pr)) = some false := by
  show (inD (pr m) (.list (rows.map pr))).map (!·) = _
  have d : (pr m).depth ≤ 150 := by
    show (PyData.tuple [.int m.1, .int m.2]).depth ≤ 150
    have : (PyData.tuple [.int m.1, .int m.2]).depth = (PyData.tuple [.int 0, .int 0]).depth := rfl
    rw [this]
    decide +kernel
  have a : ((rows.map pr).any fun z => PyData.eqv z (pr m)) = true := List.any_eq_true.mpr ⟨pr m, List.mem_map.mpr ⟨m, h, rfl⟩, by
    show ((m.1 == m.1) && ((m.2 == m.2) && true)) = true
    simp⟩
  show ((if (pr m).depth ≤ 150 then some ((rows.map pr).any fun z => PyData.eqv z (pr m)) else none)).map (!·) = _
  rw [if_pos d, a]
  rfl
theorem l35_ok (l : List D) (f : Int × Int) (rest : List (Int × Int)) (hr : ∀ p ∈ f :: rest, Rw p) (h3 : Pl s3 = true) : exec (G (n + 4)) l35 [.fz (.list sc), .bx (.l l) false false, s2, s3, s4, s5, s6, s7, s8, s9, s10, s11, .fz (.list ((f :: rest).map pr)), s13, s14, s15, s16] = .ok .nx [.fz (.list sc), .bx (.l l) false false, s2, s3, s4, s5, s6, s7, s8, s9, s10, s11, .fz (.list ((f :: rest).map pr)), s13, s14, s15, s16] := by
  have hb : ∀ p ∈ f :: rest, Bd p := fun p hp => (hr p hp).tn.bd
  have hd : ∀ p ∈ f :: rest, 0 < p.2 := fun p hp => (hr p hp).low.pos
  have c1 := least_ok (n + 2) f rest (hb f (List.mem_cons_self ..)) fun p hp => hb p (List.mem_cons_of_mem _ hp)
  have c2 := most_ok (n + 2) f rest (hb f (List.mem_cons_self ..)) fun p hp => hb p (List.mem_cons_of_mem _ hp)
  obtain ⟨m1, m2, m3⟩ := minF_is rest f (hd f (List.mem_cons_self ..)) fun p hp => hd p (List.mem_cons_of_mem _ hp)
  obtain ⟨g1, g2, g3⟩ := maxF_is rest f (hd f (List.mem_cons_self ..)) fun p hp => hd p (List.mem_cons_of_mem _ hp)
  have mm : minF f rest ∈ f :: rest := List.mem_cons.mpr m1
  have gm : maxF f rest ∈ f :: rest := List.mem_cons.mpr g1
  have ml : ∀ p ∈ f :: rest, ¬ les p (minF f rest) := fun p hp => (List.mem_cons.mp hp).elim (fun z => by rw [z]; exact m2) (m3 p)
  have gl : ∀ p ∈ f :: rest, ¬ les (maxF f rest) p := fun p hp => (List.mem_cons.mp hp).elim (fun z => by rw [z]; exact g2) (g3 p)
  have i1 := in_rows mm
  have i2 := in_rows gm
  generalize hm : minF f rest = mn at *
  generalize hg : maxF f rest = mx at *
  generalize hR : f :: rest = rows at *
  have comp : ev (G (n + 4)) (.cmp1 [3] (.n 3) (.el (.v 12)) (.or (.call 25 (.cons (.v 3) (.cons (.call 9 (.cons (.v 12) .nil)) .nil))) (.call 25 (.cons (.call 10 (.cons (.v 12) .nil)) (.cons (.v 3) .nil)))) (.v 3)) [.fz (.list sc), .bx (.l l) false false, s2, s3, s4, s5, s6, s7, s8, s9, s10, s11, .fz (.list (rows.map pr)), s13, s14, s15, s16] = .ok (.bx (.l [])) [.fz (.list sc), .bx (.l l) false false, s2, s3, s4, s5, s6, s7, s8, s9, s10, s11, .fz (.list (rows.map pr)), s13, s14, s15, s16] := by
    have h1 : evi (G (n + 4)) (.el (.v 12)) [.fz (.list sc), .bx (.l l) false false, s2, s3, s4, s5, s6, s7, s8, s9, s10, s11, .fz (.list (rows.map pr)), s13, s14, s15, s16] = .ok (rows.map pr) [.fz (.list sc), .bx (.l l) false false, s2, s3, s4, s5, s6, s7, s8, s9, s10, s11, .fz (.list (rows.map pr)), s13, s14, s15, s16] := rfl
    obtain ⟨ys, ρ2, e, s3', q1, q2, q3⟩ := comps_inv (own := [3]) (turn := fun d => M.bind ((Tgt.n 3).put d) fun _ => M.bind (evT (G (n + 4)) (.or (.call 25 (.cons (.v 3) (.cons (.call 9 (.cons (.v 12) .nil)) .nil))) (.call 25 (.cons (.call 10 (.cons (.v 12) .nil)) (.cons (.v 3) .nil))))) fun k => if k then M.bind (ev (G (n + 4)) (.v 3)) fun x => M.bind (keep x) fun y => M.pure (some y) else M.pure none)
      (fun ds acc ρ => ∃ s3 : Slot, ρ = [.fz (.list sc), .bx (.l l) false false, s2, s3, s4, s5, s6, s7, s8, s9, s10, s11, .fz (.list (rows.map pr)), s13, s14, s15, s16] ∧ acc = [] ∧ ∀ d ∈ ds, ∃ p ∈ rows, d = pr p)
      (fun d ds acc ρ ⟨s3, q1, q2, q3⟩ => by
        subst q1 q2
        obtain ⟨p, hp, rfl⟩ := q3 _ (List.mem_cons_self ..)
        have k1 := law_less_ok (n + 3) p mn (hb p hp) (hb mn mm)
        have k2 := law_less_ok (n + 3) mx p (hb mx gm) (hb p hp)
        rw [decide_eq_false (ml p hp)] at k1
        rw [decide_eq_false (gl p hp)] at k2
        refine ⟨none, [.fz (.list sc), .bx (.l l) false false, s2, .fz (pr p), s4, s5, s6, s7, s8, s9, s10, s11, .fz (.list (rows.map pr)), s13, s14, s15, s16], ?_, .fz (pr p), rfl, rfl, fun d hd => q3 d (List.mem_cons_of_mem _ hd)⟩
        simp only [Pz.execs, Pz.exec, Pz.ev, Pz.evT, Pz.ev2, Pz.evs, Pz.evl, Pz.evg, Pz.evi, Pz.evf, R.both_1, R.both_2, R.bind_ap, R.pure_ap, R.ofO_some, R.ofO_none, R.look_fz, R.look_bx, R.keep_fz, R.keep_bx, R.slot_fz, R.slot_bx, R.putV_fz, R.putV_bx, getV, setS, looks, tyD, asBool, asInt, asVw, asIntV, R.eqI, R.neI, R.ltI, R.leI, R.gtI, R.geI, R.eqB, R.neB, R.eqS, R.neS, R.isN, R.nisN, isNone, R.truthB, R.truthI, R.look_vw', R.callI1', R.callI2', frz, biV, mtKind, lenV, absV, R.intV_int, strV, tupleV, listV, strOf, Pz.ixD, R.at_0, R.at_1, R.opII, R.addI, R.subI, R.call1, R.call2, R.call3, R.call4, R.ret0_ok, R.ret0_ex, R.ret1_ok, Option.map_some, Option.map_none, Option.some_or, Option.none_or, List.getElem?_cons_zero, List.getElem?_cons_succ, List.getElem?_nil, List.set_cons_zero, List.set_cons_succ, List.length_cons, List.length_nil, List.length_append, List.length_set, List.map_cons, List.map_nil, List.cons_append, List.nil_append, ite_true, ite_false, if_true, if_false, Bool.not_true, Bool.not_false, endOf, outsOf, Nat.reduceAdd, Nat.reduceLT, Nat.reduceLeDiff, Nat.lt_add_left_iff_pos, Nat.zero_lt_succ, List.replicate, Nat.reduceSub, Nat.sub_self, reduceIte, reduceCtorEq, Bool.false_eq_true, decide_true, decide_false, Tgt.put, wipe, List.foldl_cons, List.foldl_nil, c1, c2, k1, k2]) (rows.map pr) [] [.fz (.list sc), .bx (.l l) false false, s2, s3, s4, s5, s6, s7, s8, s9, s10, s11, .fz (.list (rows.map pr)), s13, s14, s15, s16] ⟨s3, rfl, rfl, fun d hd => by
          obtain ⟨p, hp, rfl⟩ := List.mem_map.mp hd
          exact ⟨p, hp, rfl⟩⟩
    have hnb : noBox [3] [.fz (.list sc), .bx (.l l) false false, s2, s3, s4, s5, s6, s7, s8, s9, s10, s11, .fz (.list (rows.map pr)), s13, s14, s15, s16] = true := by
      cases s3 with
      | bx b io lk => cases h3
      | _ => rfl
    have hh := ev_cmp1 (own := [3]) h1 hnb e
    rw [q1, q2] at hh
    exact hh
  have comp : (ev2 (G (n + 4)) (.cmp1 [3] (.n 3) (.el (.v 12)) (.or (.call 25 (.cons (.v 3) (.cons (.call 9 (.cons (.v 12) .nil)) .nil))) (.call 25 (.cons (.call 10 (.cons (.v 12) .nil)) (.cons (.v 3) .nil)))) (.v 3))).1 [.fz (.list sc), .bx (.l l) false false, s2, s3, s4, s5, s6, s7, s8, s9, s10, s11, .fz (.list (rows.map pr)), s13, s14, s15, s16] = .ok (.bx (.l [])) [.fz (.list sc), .bx (.l l) false false, s2, s3, s4, s5, s6, s7, s8, s9, s10, s11, .fz (.list (rows.map pr)), s13, s14, s15, s16] := comp
  show exec (G (n + 4)) (.ifs [12] (.or (.cmp .nin (.call 9 (.cons (.v 12) .nil)) (.v 12)) (.or (.cmp .nin (.call 10 (.cons (.v 12) .nil)) (.v 12)) (.cmp .ne (.cmp1 [3] (.n 3) (.el (.v 12)) (.or (.call 25 (.cons (.v 3) (.cons (.call 9 (.cons (.v 12) .nil)) .nil))) (.call 25 (.cons (.call 10 (.cons (.v 12) .nil)) (.cons (.v 3) .nil)))) (.v 3)) (.lst .nil)))) (.cons (.ret [] (.c (.bool false))) .nil) .nil) _ = _
  generalize hT : (Tm.cmp1 [3] (.n 3) (.el (.v 12)) (.or (.call 25 (.cons (.v 3) (.cons (.call 9 (.cons (.v 12) .nil)) .nil))) (.call 25 (.cons (.call 10 (.cons (.v 12) .nil)) (.cons (.v 3) .nil)))) (.v 3)) = T at comp ⊢
  have ne : cmpD .ne (.list []) (.list []) = some false := rfl
  simp only [Pz.execs, Pz.exec, Pz.ev, Pz.evT, Pz.ev2, Pz.evs, Pz.evl, Pz.evg, Pz.evi, Pz.evf, R.both_1, R.both_2, R.bind_ap, R.pure_ap, R.ofO_some, R.ofO_none, R.look_fz, R.look_bx, R.keep_fz, R.keep_bx, R.slot_fz, R.slot_bx, R.putV_fz, R.putV_bx, getV, setS, looks, tyD, asBool, asInt, asVw, asIntV, R.eqI, R.neI, R.ltI, R.leI, R.gtI, R.geI, R.eqB, R.neB, R.eqS, R.neS, R.isN, R.nisN, isNone, R.truthB, R.truthI, R.look_vw', R.callI1', R.callI2', frz, biV, mtKind, lenV, absV, R.intV_int, strV, tupleV, listV, strOf, Pz.ixD, R.at_0, R.at_1, R.opII, R.addI, R.subI, R.call1, R.call2, R.call3, R.call4, R.ret0_ok, R.ret0_ex, R.ret1_ok, Option.map_some, Option.map_none, Option.some_or, Option.none_or, List.getElem?_cons_zero, List.getElem?_cons_succ, List.getElem?_nil, List.set_cons_zero, List.set_cons_succ, List.length_cons, List.length_nil, List.length_append, List.length_set, List.map_cons, List.map_nil, List.cons_append, List.nil_append, ite_true, ite_false, if_true, if_false, Bool.not_true, Bool.not_false, endOf, outsOf, Nat.reduceAdd, Nat.reduceLT, Nat.reduceLeDiff, Nat.lt_add_left_iff_pos, Nat.zero_lt_succ, List.replicate, Nat.reduceSub, Nat.sub_self, reduceIte, reduceCtorEq, Bool.false_eq_true, decide_true, decide_false, Box.d, comp, c1, c2, i1, i2, ne]
theorem l3b_ok (l : List D) (hl : Ints l) (h3 : Pl s3 = true) (h6 : Pl s6 = true) : ∃ (l' : List D) (t4 t10 t11 t12 : Slot), execs (G (n + 4)) l3b [.fz (.list sc), .bx (.l l) false false, s2, s3, s4, s5, s6, s7, s8, s9, s10, s11, s12, s13, s14, s15, s16] = .ok .nx [.fz (.list sc), .bx (.l l') false false, s2, s3, t4, s5, s6, s7, s8, s9, t10, t11, t12, s13, s14, s15, s16] ∧ Ints l' := by
  show ∃ (l' : List D) (t4 t10 t11 t12 : Slot), execs (G (n + 4)) (.cons l30 (.cons l31 (.cons l32 (.cons l33 (.cons l34 (.cons l35 .nil)))))) _ = _ ∧ _
  obtain ⟨a, b, l1, e1, i1, ha, hb⟩ := l30_ok n sc s2 s3 s4 s5 s6 s7 s8 s9 s10 s11 s12 s13 s14 s15 s16 l hl
  rw [ex_nx e1, ex_nx (l31_ok n sc s2 s3 s4 s5 s6 s7 s8 s9 s12 s13 s14 s15 s16 l1 a b ha hb)]
  obtain ⟨f, rest, l2, e2, i2, hr, hlen⟩ := l32_ok n sc s2 s3 s4 s5 s6 s7 s8 s9 (.fz (.int a)) (.fz (.int b)) s12 s13 s14 s15 s16 l1 i1 h6
  rw [ex_nx e2]
  obtain ⟨other, l3, e3, i3, ho, he⟩ := l33_ok n sc s2 s3 s4 s5 s6 s7 s8 s9 (.fz (.int a)) (.fz (.int b)) s13 s14 s15 s16 l2 i2 h3 (f :: rest) hlen
  rw [ex_nx e3, ex_nx (l34_ok n sc s2 s3 s5 s6 s7 s8 s9 (.fz (.int a)) (.fz (.int b)) s13 s14 s15 s16 l3 (f :: rest) other hr ho hlen he), ex_nx (l35_ok n sc s2 s3 _ s5 s6 s7 s8 s9 (.fz (.int a)) (.fz (.int b)) s13 s14 s15 s16 l3 f rest hr h3)]
  exact ⟨l3, _, _, _, _, rfl, i3⟩
end
end K04

namespace K04
open Pz Pz.R
open PySem hiding execs exec
def l4 : Pz.Sm := (.asg [] 13 (.lst (.cons (.c (.none)) (.cons (.c (.int (1))) (.cons (.tup (.cons (.c (.int (1))) .nil)) (.cons (.tup (.cons (.c (.int (1))) (.cons (.c (.int (0))) .nil))) (.cons (.tup (.cons (.c (.int (2))) (.cons (.c (.int (4))) .nil))) (.cons (.tup (.cons (.c (.int (0))) (.cons (.c (.int (2))) .nil))) (.cons (.tup (.cons (.c (.int (1))) (.cons (.neg (.c (.int (1)))) .nil))) (.cons (.lst (.cons (.c (.int (1))) (.cons (.c (.int (2))) .nil))) (.cons (.tup (.cons (.c (.bool true)) (.cons (.c (.int (1))) .nil))) (.cons (.tup (.cons (.c (.int (1))) (.cons (.c (.bool true)) .nil))) (.cons (.tup (.cons (.bin .add (.bin .pow (.c (.int (10))) (.c (.int (60)))) (.c (.int (1)))) (.cons (.c (.int (1))) .nil))) (.cons (.tup (.cons (.c (.str (Str.ofString "1"))) (.cons (.c (.int (1))) .nil))) (.cons (.tup (.cons (.c (.int (1))) (.cons (.c (.int (1))) (.cons (.c (.int (1))) .nil)))) .nil)))))))))))))))
def l5 : Pz.Sm := (.asg [] 14 (.lst (.cons (.c (.none)) (.cons (.c (.int (5))) (.cons (.c (.str (Str.ofString ""))) (.cons (.c (.str (Str.ofString "-"))) (.cons (.c (.str (Str.ofString "/"))) (.cons (.c (.str (Str.ofString "1/"))) (.cons (.c (.str (Str.ofString "/2"))) (.cons (.c (.str (Str.ofString "01"))) (.cons (.c (.str (Str.ofString "+1"))) (.cons (.c (.str (Str.ofString "1/1"))) (.cons (.c (.str (Str.ofString "2/4"))) (.cons (.c (.str (Str.ofString "-0"))) (.cons (.c (.str (Str.ofString "1/-2"))) (.cons (.c (.str (Str.ofString "1.5"))) (.cons (.c (.str (Str.ofString " 1"))) (.cons (.c (.str (Str.ofString "1 "))) (.cons (.c (.str (Str.ofString "--1"))) (.cons (.c (.str (Str.ofString "1/0"))) (.cons (.c (.str (Str.ofString "0/3"))) (.cons (.bin .mul (.c (.str (Str.ofString "9"))) (.c (.int (61)))) .nil))))))))))))))))))))))
def l6 : Pz.Sm := (.ifs [13, 14] (.or (.cmp .ne (.cmp1 [15] (.n 15) (.el (.v 13)) (.nt (.call 19 (.cons (.call 2 (.cons (.v 15) .nil)) (.cons (.c (.bool false)) .nil)))) (.v 15)) (.lst .nil)) (.cmp .ne (.cmp1 [15] (.n 15) (.el (.v 14)) (.cmp .ne (.call 27 (.cons (.c (.int (5))) (.cons (.v 15) (.cons (.c (.none)) .nil)))) (.c (.str (Str.ofString "form")))) (.v 15)) (.lst .nil))) (.cons (.ret [] (.c (.bool false))) .nil) .nil)
def l7 : Pz.Sm := (.asg [] 16 (.lst (.cons (.c (.str (Str.ofString "a"))) (.cons (.c (.str (Str.ofString "abcdef"))) (.cons (.c (.str (Str.ofString ""))) (.cons (.c (.str (Str.ofString "abcdefg"))) (.cons (.c (.str (Str.ofString "A"))) (.cons (.c (.str (Str.ofString "a1"))) (.cons (.c (.none)) (.cons (.c (.int (5))) (.cons (.c (.str (Str.ofString "a b"))) .nil)))))))))))
def l8 : Pz.Sm := (.ifs [] (.cmp .ne (.cmp0 [6] (.n 6) (.r1 (.c (.int (9)))) (.call 19 (.cons (.call 1 (.cons (.ix (.v 16) (.v 6)) .nil)) (.cons (.cmp .lt (.v 6) (.c (.int (2)))) .nil)))) (.bin .mul (.lst (.cons (.c (.bool true)) .nil)) (.c (.int (9))))) (.cons (.ret [] (.c (.bool false))) .nil) .nil)
def l9 : Pz.Sm := (.ret [] (.cmp .eq (.cmp0 [15] (.n 15) (.el (.lst (.cons (.c (.int (0))) (.cons (.c (.int (5))) (.cons (.neg (.c (.int (1)))) (.cons (.c (.int (6))) (.cons (.c (.bool true)) (.cons (.c (.none)) (.cons (.c (.str (Str.ofString "3"))) (.cons (.c (.int (3))) .nil)))))))))) (.call 0 (.cons (.v 15) (.cons (.c (.int (0))) (.cons (.c (.int (5))) .nil))))) (.lst (.cons (.c (.bool true)) (.cons (.c (.bool true)) (.cons (.c (.bool false)) (.cons (.c (.bool false)) (.cons (.c (.bool false)) (.cons (.c (.bool false)) (.cons (.c (.bool false)) (.cons (.c (.bool true)) .nil)))))))))))
def tailS : Sms := .cons l4 (.cons l5 (.cons l6 (.cons l7 (.cons l8 (.cons l9 .nil)))))
def isT : Res Fl → Bool
  | .ok (.rt (.fz (.bool b))) _ => b
  | _ => false
theorem isT_ok {r : Res Fl} (h : isT r = true) : ∃ ρ, r = .ok (.rt (.fz (.bool true))) ρ := by
  match r, h with
  | .ok (.rt (.fz (.bool true))) ρ, _ => exact ⟨ρ, rfl⟩
  | .ok (.rt (.fz (.bool false))) ρ, h => cases h
theorem tail_fz (sc l : List D) (d6 : D) (s2 s3 s4 s5 s7 s8 s9 s10 s11 s12 s13 s14 s16 : Slot) : isT (execs (G 8) tailS [.fz (.list sc), .bx (.l l) false false, s2, s3, s4, s5, .fz d6, s7, s8, s9, s10, s11, s12, s13, s14, .un, s16]) = true := by
  kernel_rfl
theorem tail_un (sc l : List D) (s2 s3 s4 s5 s7 s8 s9 s10 s11 s12 s13 s14 s16 : Slot) : isT (execs (G 8) tailS [.fz (.list sc), .bx (.l l) false false, s2, s3, s4, s5, .un, s7, s8, s9, s10, s11, s12, s13, s14, .un, s16]) = true := by
  kernel_rfl
theorem tail_xc (sc l : List D) (c6 : Nat) (s2 s3 s4 s5 s7 s8 s9 s10 s11 s12 s13 s14 s16 : Slot) : isT (execs (G 8) tailS [.fz (.list sc), .bx (.l l) false false, s2, s3, s4, s5, .xc c6, s7, s8, s9, s10, s11, s12, s13, s14, .un, s16]) = true := by
  kernel_rfl
theorem tail_ok (sc l : List D) (s2 s3 s4 s5 s6 s7 s8 s9 s10 s11 s12 s13 s14 s16 : Slot) (h : Pl s6 = true) : isT (execs (G 8) tailS [.fz (.list sc), .bx (.l l) false false, s2, s3, s4, s5, s6, s7, s8, s9, s10, s11, s12, s13, s14, .un, s16]) = true := by
  cases s6 with
  | un => exact tail_un ..
  | fz d => exact tail_fz ..
  | xc c => exact tail_xc ..
  | bx b io lk => cases h
def l1 : Pz.Sm := (.ifs [] (.or (.cmp .ne (.g 2) (.tup (.cons (.c (.int (0))) (.cons (.c (.int (1))) .nil)))) (.cmp .ne (.g 3) (.tup (.cons (.c (.int (1))) (.cons (.c (.int (1))) .nil))))) (.cons (.ret [] (.c (.bool false))) .nil) .nil)
theorem loop2 (sc l : List D) (hl : Ints l) : ∃ (l' : List D) (s2 s3 s4 s5 s6 s7 s8 s9 : Slot), exec (G 8) (.for_ [] (.n 2) (.r1 (.c (.int (12)))) l2b) [.fz (.list sc), .bx (.l l) false false, .un, .un, .un, .un, .un, .un, .un, .un, .un, .un, .un, .un, .un, .un, .un]
    = .ok .nx [.fz (.list sc), .bx (.l l') false false, s2, s3, s4, s5, s6, s7, s8, s9, .un, .un, .un, .un, .un, .un, .un] ∧ Ints l' ∧ Pl s3 = true ∧ Pl s6 = true := by
  rw [ex_for (ρ1 := [.fz (.list sc), .bx (.l l) false false, .un, .un, .un, .un, .un, .un, .un, .un, .un, .un, .un, .un, .un, .un, .un]) rfl (evi_r1 (i := 12) rfl (by decide))]
  obtain ⟨ρ', e, l', s2, s3, s4, s5, s6, s7, s8, s9, i1, i2, i3, i4⟩ := loop_inv (turn := fun d => M.bind ((Tgt.n 2).put d) fun _ => execs (G 8) l2b)
    (fun _ ρ => ∃ (l' : List D) (s2 s3 s4 s5 s6 s7 s8 s9 : Slot), ρ = [.fz (.list sc), .bx (.l l') false false, s2, s3, s4, s5, s6, s7, s8, s9, .un, .un, .un, .un, .un, .un, .un] ∧ Ints l' ∧ Pl s3 = true ∧ Pl s6 = true)
    (fun d ds ρ ⟨l', s2, s3, s4, s5, s6, s7, s8, s9, i1, i2, i3, i4⟩ => by
      subst i1
      obtain ⟨l2, t3, t4, t5, t6, t7, t8, t9, e, j1, j2, j3⟩ := l2b_ok 4 sc (.fz d) s3 s4 s5 s6 s7 s8 s9 .un .un .un .un .un .un .un l' i2
      exact ⟨_, e, l2, .fz d, t3, t4, t5, t6, t7, t8, t9, rfl, j1, j2, j3 i4⟩) ((List.range (12 : Int).toNat).map fun (k : Nat) => .int k) _ ⟨l, .un, .un, .un, .un, .un, .un, .un, .un, rfl, hl, rfl, rfl⟩
  subst i1
  exact ⟨l', s2, s3, s4, s5, s6, s7, s8, s9, e, i2, i3, i4⟩
theorem loop3 (sc l : List D) (hl : Ints l) (s2 s3 s4 s5 s6 s7 s8 s9 : Slot) (h3 : Pl s3 = true) (h6 : Pl s6 = true) : ∃ (l' : List D) (t2 t4 t10 t11 t12 : Slot), exec (G 8) (.for_ [] (.n 2) (.r1 (.c (.int (6)))) l3b) [.fz (.list sc), .bx (.l l) false false, s2, s3, s4, s5, s6, s7, s8, s9, .un, .un, .un, .un, .un, .un, .un]
    = .ok .nx [.fz (.list sc), .bx (.l l') false false, t2, s3, t4, s5, s6, s7, s8, s9, t10, t11, t12, .un, .un, .un, .un] := by
  rw [ex_for (ρ1 := [.fz (.list sc), .bx (.l l) false false, s2, s3, s4, s5, s6, s7, s8, s9, .un, .un, .un, .un, .un, .un, .un]) rfl (evi_r1 (i := 6) rfl (by decide))]
  obtain ⟨ρ', e, l', t2, t4, t10, t11, t12, i1, i2⟩ := loop_inv (turn := fun d => M.bind ((Tgt.n 2).put d) fun _ => execs (G 8) l3b)
    (fun _ ρ => ∃ (l' : List D) (t2 t4 t10 t11 t12 : Slot), ρ = [.fz (.list sc), .bx (.l l') false false, t2, s3, t4, s5, s6, s7, s8, s9, t10, t11, t12, .un, .un, .un, .un] ∧ Ints l')
    (fun d ds ρ ⟨l', t2, t4, t10, t11, t12, i1, i2⟩ => by
      subst i1
      obtain ⟨l2, u4, u10, u11, u12, e, j1⟩ := l3b_ok 4 sc (.fz d) s3 t4 s5 s6 s7 s8 s9 t10 t11 t12 .un .un .un .un l' i2 h3 h6
      exact ⟨_, e, l2, .fz d, u4, u10, u11, u12, rfl, j1⟩) ((List.range (6 : Int).toNat).map fun (k : Nat) => .int k) _ ⟨l, s2, s4, .un, .un, .un, rfl, hl⟩
  subst i1
  exact ⟨l', t2, t4, t10, t11, t12, e⟩
theorem main (ns : List Int) (hl : ns.length ≤ 63) (hz : ∀ z ∈ ns, Builtin.Int.intBits z ≤ 1048576) : callN fds con E.sub E.word 2000 9 31 [.fz (.list (ns.map .int))] = .ok (.fz (.bool true)) [] := by
  show C (8 + 1) 31 [.fz (.list (ns.map .int))] = _
  rw [C_succ (fd := fd31) rfl ⟨rfl, rfl, rfl⟩]
  show endOf [] (execs (G 8) (.cons (.asg [] 1 (.call 16 (.cons (.v 0) .nil))) (.cons l1 (.cons (.for_ [] (.n 2) (.r1 (.c (.int (12)))) l2b) (.cons (.for_ [] (.n 2) (.r1 (.c (.int (6)))) l3b) tailS)))) [.fz (.list (ns.map .int)), .un, .un, .un, .un, .un, .un, .un, .un, .un, .un, .un, .un, .un, .un, .un, .un]) = _
  obtain ⟨l, d1, d2⟩ := draws_ok 7 ns hl hz
  generalize ns.map PyData.int = sc at *
  have a0 : exec (G 8) (.asg [] 1 (.call 16 (.cons (.v 0) .nil))) [.fz (.list sc), .un, .un, .un, .un, .un, .un, .un, .un, .un, .un, .un, .un, .un, .un, .un, .un] = .ok .nx [.fz (.list sc), .bx (.l l) false false, .un, .un, .un, .un, .un, .un, .un, .un, .un, .un, .un, .un, .un, .un, .un] := by
    simp only [Pz.execs, Pz.exec, Pz.ev, Pz.evT, Pz.ev2, Pz.evs, Pz.evl, Pz.evg, Pz.evi, Pz.evf, R.both_1, R.both_2, R.bind_ap, R.pure_ap, R.ofO_some, R.ofO_none, R.look_fz, R.look_bx, R.keep_fz, R.keep_bx, R.slot_fz, R.slot_bx, R.putV_fz, R.putV_bx, getV, setS, looks, tyD, asBool, asInt, asVw, asIntV, R.eqI, R.neI, R.ltI, R.leI, R.gtI, R.geI, R.eqB, R.neB, R.eqS, R.neS, R.isN, R.nisN, isNone, R.truthB, R.truthI, R.look_vw', R.callI1', R.callI2', frz, biV, mtKind, lenV, absV, R.intV_int, strV, tupleV, listV, strOf, Pz.ixD, R.at_0, R.at_1, R.opII, R.addI, R.subI, R.call1, R.call2, R.call3, R.call4, R.ret0_ok, R.ret0_ex, R.ret1_ok, Option.map_some, Option.map_none, Option.some_or, Option.none_or, List.getElem?_cons_zero, List.getElem?_cons_succ, List.getElem?_nil, List.set_cons_zero, List.set_cons_succ, List.length_cons, List.length_nil, List.length_append, List.length_set, List.map_cons, List.map_nil, List.cons_append, List.nil_append, ite_true, ite_false, if_true, if_false, Bool.not_true, Bool.not_false, endOf, outsOf, Nat.reduceAdd, Nat.reduceLT, Nat.reduceLeDiff, Nat.lt_add_left_iff_pos, Nat.zero_lt_succ, List.replicate, Nat.reduceSub, Nat.sub_self, reduceIte, reduceCtorEq, Bool.false_eq_true, decide_true, decide_false, d1]
  have a1 : exec (G 8) l1 [.fz (.list sc), .bx (.l l) false false, .un, .un, .un, .un, .un, .un, .un, .un, .un, .un, .un, .un, .un, .un, .un] = .ok .nx [.fz (.list sc), .bx (.l l) false false, .un, .un, .un, .un, .un, .un, .un, .un, .un, .un, .un, .un, .un, .un, .un] := by
    rfl
  rw [ex_nx a0, ex_nx a1]
  obtain ⟨l1, s2, s3, s4, s5, s6, s7, s8, s9, e2, i2, h3, h6⟩ := loop2 sc l d2
  rw [ex_nx e2]
  obtain ⟨l3, s2', s4', s10, s11, s12, e3⟩ := loop3 sc l1 i2 s2 s3 s4 s5 s6 s7 s8 s9 h3 h6
  rw [ex_nx e3]
  obtain ⟨ρ', e4⟩ := isT_ok (tail_ok sc l3 s2' s3 s4' s5 s6 s7 s8 s9 s10 s11 s12 .un .un .un h6)
  rw [e4]
  rfl
end K04

namespace K04
def depth : Nat := 8
end K04
namespace K04
open Pz PySem PySem.Spec PyProof.Rows L2
def gl : List (Str × Pz.Gk) := [((Str.ofString "isinstance"), .free), ((Str.ofString "int"), .free), ((Str.ofString "bool"), .free), ((Str.ofString "str"), .free), ((Str.ofString "all"), .free), ((Str.ofString "len"), .free), ((Str.ofString "LETTERS"), .txt 0), ((Str.ofString "gcd"), .gcd), ((Str.ofString "tuple"), .free), ((Str.ofString "is_number"), .fn 0 3), ((Str.ofString "MOST"), .con 1), ((Str.ofString "NotThere"), .exc 3), ((Str.ofString "TooMuch"), .exc 5), ((Str.ofString "abs"), .free), ((Str.ofString "part"), .fn 3 2), ((Str.ofString "is_less"), .fn 8 2), ((Str.ofString "ZERO"), .con 2), ((Str.ofString "plus"), .fn 4 2), ((Str.ofString "sum_of"), .fn 11 1), ((Str.ofString "times"), .fn 6 2), ((Str.ofString "zip"), .free), ((Str.ofString "Malformed"), .exc 2), ((Str.ofString "is_figures"), .fn 15 1), ((Str.ofString "is_part"), .fn 2 1), ((Str.ofString "write"), .fn 13 1), ((Str.ofString "FIGURES"), .txt 4), ((Str.ofString "range"), .free), ((Str.ofString "list"), .free), ((Str.ofString "reversed"), .free), ((Str.ofString "_law_alike"), .fn 18 2), ((Str.ofString "_law_part"), .fn 20 2), ((Str.ofString "_law_plus"), .fn 21 2), ((Str.ofString "_law_times"), .fn 23 2), ((Str.ofString "PaidError"), .exc 0), ((Str.ofString "read"), .fn 14 1), ((Str.ofString "minus"), .fn 5 2), ((Str.ofString "over"), .fn 7 2), ((Str.ofString "_law_take"), .fn 17 2), ((Str.ofString "_law_minus"), .fn 22 2), ((Str.ofString "_law_over"), .fn 24 2), ((Str.ofString "_law_draws"), .fn 16 1), ((Str.ofString "ONE"), .con 3), ((Str.ofString "_law_great"), .fn 28 1), ((Str.ofString "_law_told"), .fn 27 3), ((Str.ofString "_law_says"), .fn 19 2), ((Str.ofString "least_of"), .fn 9 1), ((Str.ofString "most_of"), .fn 10 1), ((Str.ofString "is_word"), .fn 1 1), ((Str.ofString "_law_less"), .fn 25 2), ((Str.ofString "_law_due"), .fn 29 3), ((Str.ofString "_law_text"), .fn 30 1), ((Str.ofString "weighed"), .fn 12 2), ((Str.ofString "_law_weighed"), .fn 26 2)]
def ds0 : Pz.DefS := ⟨(Str.ofString "is_number"), (Str.ofString "is_number"), defArgs (topS 10), defBody (topS 10), defScope (topS 10), [(Str.ofString "value"), (Str.ofString "least"), (Str.ofString "most")], [(Str.ofString "value"), (Str.ofString "least"), (Str.ofString "most")], false⟩
def ds1 : Pz.DefS := ⟨(Str.ofString "is_word"), (Str.ofString "is_word"), defArgs (topS 11), defBody (topS 11), defScope (topS 11), [(Str.ofString "value")], [(Str.ofString "value")], true⟩
def ds2 : Pz.DefS := ⟨(Str.ofString "is_part"), (Str.ofString "is_part"), defArgs (topS 17), defBody (topS 17), defScope (topS 17), [(Str.ofString "value")], [(Str.ofString "value")], false⟩
def ds3 : Pz.DefS := ⟨(Str.ofString "part"), (Str.ofString "part"), defArgs (topS 18), defBody (topS 18), defScope (topS 18), [(Str.ofString "one"), (Str.ofString "other")], [(Str.ofString "one"), (Str.ofString "other"), (Str.ofString "shared"), (Str.ofString "found")], false⟩
def ds4 : Pz.DefS := ⟨(Str.ofString "plus"), (Str.ofString "plus"), defArgs (topS 19), defBody (topS 19), defScope (topS 19), [(Str.ofString "one"), (Str.ofString "other")], [(Str.ofString "one"), (Str.ofString "other")], false⟩
def ds5 : Pz.DefS := ⟨(Str.ofString "minus"), (Str.ofString "minus"), defArgs (topS 20), defBody (topS 20), defScope (topS 20), [(Str.ofString "one"), (Str.ofString "other")], [(Str.ofString "one"), (Str.ofString "other")], false⟩
def ds6 : Pz.DefS := ⟨(Str.ofString "times"), (Str.ofString "times"), defArgs (topS 21), defBody (topS 21), defScope (topS 21), [(Str.ofString "one"), (Str.ofString "other")], [(Str.ofString "one"), (Str.ofString "other")], false⟩
def ds7 : Pz.DefS := ⟨(Str.ofString "over"), (Str.ofString "over"), defArgs (topS 22), defBody (topS 22), defScope (topS 22), [(Str.ofString "one"), (Str.ofString "other")], [(Str.ofString "one"), (Str.ofString "other")], false⟩
def ds8 : Pz.DefS := ⟨(Str.ofString "is_less"), (Str.ofString "is_less"), defArgs (topS 23), defBody (topS 23), defScope (topS 23), [(Str.ofString "one"), (Str.ofString "other")], [(Str.ofString "one"), (Str.ofString "other")], false⟩
def ds9 : Pz.DefS := ⟨(Str.ofString "least_of"), (Str.ofString "least_of"), defArgs (topS 24), defBody (topS 24), defScope (topS 24), [(Str.ofString "rows")], [(Str.ofString "rows"), (Str.ofString "found"), (Str.ofString "one")], false⟩
def ds10 : Pz.DefS := ⟨(Str.ofString "most_of"), (Str.ofString "most_of"), defArgs (topS 25), defBody (topS 25), defScope (topS 25), [(Str.ofString "rows")], [(Str.ofString "rows"), (Str.ofString "found"), (Str.ofString "one")], false⟩
def ds11 : Pz.DefS := ⟨(Str.ofString "sum_of"), (Str.ofString "sum_of"), defArgs (topS 26), defBody (topS 26), defScope (topS 26), [(Str.ofString "rows")], [(Str.ofString "rows"), (Str.ofString "found"), (Str.ofString "one")], false⟩
def ds12 : Pz.DefS := ⟨(Str.ofString "weighed"), (Str.ofString "weighed"), defArgs (topS 27), defBody (topS 27), defScope (topS 27), [(Str.ofString "row"), (Str.ofString "other")], [(Str.ofString "row"), (Str.ofString "other"), (Str.ofString "one"), (Str.ofString "two")], false⟩
def ds13 : Pz.DefS := ⟨(Str.ofString "write"), (Str.ofString "write"), defArgs (topS 28), defBody (topS 28), defScope (topS 28), [(Str.ofString "value")], [(Str.ofString "value")], false⟩
def ds14 : Pz.DefS := ⟨(Str.ofString "read"), (Str.ofString "read"), defArgs (topS 29), defBody (topS 29), defScope (topS 29), [(Str.ofString "value")], [(Str.ofString "value"), (Str.ofString "first"), (Str.ofString "bar"), (Str.ofString "second"), (Str.ofString "found")], false⟩
def ds15 : Pz.DefS := ⟨(Str.ofString "is_figures"), (Str.ofString "is_figures"), defArgs (topS 30), defBody (topS 30), defScope (topS 30), [(Str.ofString "value")], [(Str.ofString "value")], true⟩
def ds16 : Pz.DefS := ⟨(Str.ofString "_law_draws"), (Str.ofString "_law_draws"), defArgs (topS 32), defBody (topS 32), defScope (topS 32), [(Str.ofString "script")], [(Str.ofString "script"), (Str.ofString "draws"), (Str.ofString "cell"), (Str.ofString "number"), (Str.ofString "first"), (Str.ofString "k"), (Str.ofString "seed")], false⟩
def ds17 : Pz.DefS := ⟨(Str.ofString "_law_take"), (Str.ofString "_law_take"), defArgs (topS 33), defBody (topS 33), defScope (topS 33), [(Str.ofString "draws"), (Str.ofString "bound")], [(Str.ofString "draws"), (Str.ofString "bound")], false⟩
def ds18 : Pz.DefS := ⟨(Str.ofString "_law_alike"), (Str.ofString "_law_alike"), defArgs (topS 34), defBody (topS 34), defScope (topS 34), [(Str.ofString "found"), (Str.ofString "due")], [(Str.ofString "found"), (Str.ofString "due"), (Str.ofString "k")], false⟩
def ds19 : Pz.DefS := ⟨(Str.ofString "_law_says"), (Str.ofString "_law_says"), defArgs (topS 36), defBody (topS 36), defScope (topS 36), [(Str.ofString "found"), (Str.ofString "due")], [(Str.ofString "found"), (Str.ofString "due")], false⟩
def ds20 : Pz.DefS := ⟨(Str.ofString "_law_part"), (Str.ofString "_law_part"), defArgs (topS 37), defBody (topS 37), defScope (topS 37), [(Str.ofString "one"), (Str.ofString "other")], [(Str.ofString "one"), (Str.ofString "other"), (Str.ofString "first"), (Str.ofString "second"), (Str.ofString "sign")], false⟩
def ds21 : Pz.DefS := ⟨(Str.ofString "_law_plus"), (Str.ofString "_law_plus"), defArgs (topS 38), defBody (topS 38), defScope (topS 38), [(Str.ofString "one"), (Str.ofString "other")], [(Str.ofString "one"), (Str.ofString "other")], false⟩
def ds22 : Pz.DefS := ⟨(Str.ofString "_law_minus"), (Str.ofString "_law_minus"), defArgs (topS 39), defBody (topS 39), defScope (topS 39), [(Str.ofString "one"), (Str.ofString "other")], [(Str.ofString "one"), (Str.ofString "other")], false⟩
def ds23 : Pz.DefS := ⟨(Str.ofString "_law_times"), (Str.ofString "_law_times"), defArgs (topS 40), defBody (topS 40), defScope (topS 40), [(Str.ofString "one"), (Str.ofString "other")], [(Str.ofString "one"), (Str.ofString "other")], false⟩
def ds24 : Pz.DefS := ⟨(Str.ofString "_law_over"), (Str.ofString "_law_over"), defArgs (topS 41), defBody (topS 41), defScope (topS 41), [(Str.ofString "one"), (Str.ofString "other")], [(Str.ofString "one"), (Str.ofString "other")], false⟩
def ds25 : Pz.DefS := ⟨(Str.ofString "_law_less"), (Str.ofString "_law_less"), defArgs (topS 42), defBody (topS 42), defScope (topS 42), [(Str.ofString "one"), (Str.ofString "other")], [(Str.ofString "one"), (Str.ofString "other")], false⟩
def ds26 : Pz.DefS := ⟨(Str.ofString "_law_weighed"), (Str.ofString "_law_weighed"), defArgs (topS 43), defBody (topS 43), defScope (topS 43), [(Str.ofString "row"), (Str.ofString "other")], [(Str.ofString "row"), (Str.ofString "other"), (Str.ofString "found"), (Str.ofString "k")], false⟩
def ds27 : Pz.DefS := ⟨(Str.ofString "_law_told"), (Str.ofString "_law_told"), defArgs (topS 44), defBody (topS 44), defScope (topS 44), [(Str.ofString "which"), (Str.ofString "one"), (Str.ofString "other")], [(Str.ofString "which"), (Str.ofString "one"), (Str.ofString "other"), (Str.ofString "e")], false⟩
def ds28 : Pz.DefS := ⟨(Str.ofString "_law_great"), (Str.ofString "_law_great"), defArgs (topS 45), defBody (topS 45), defScope (topS 45), [(Str.ofString "draws")], [(Str.ofString "draws"), (Str.ofString "pick_one")], false⟩
def ds29 : Pz.DefS := ⟨(Str.ofString "_law_due"), (Str.ofString "_law_due"), defArgs (topS 46), defBody (topS 46), defScope (topS 46), [(Str.ofString "which"), (Str.ofString "one"), (Str.ofString "other")], [(Str.ofString "which"), (Str.ofString "one"), (Str.ofString "other"), (Str.ofString "due")], false⟩
def ds30 : Pz.DefS := ⟨(Str.ofString "_law_text"), (Str.ofString "_law_text"), defArgs (topS 47), defBody (topS 47), defScope (topS 47), [(Str.ofString "value")], [(Str.ofString "value")], false⟩
def ds31 : Pz.DefS := ⟨(Str.ofString "law"), (Str.ofString "law"), defArgs (topS 48), defBody (topS 48), defScope (topS 48), [(Str.ofString "script")], [(Str.ofString "script"), (Str.ofString "draws"), (Str.ofString "turn"), (Str.ofString "one"), (Str.ofString "other"), (Str.ofString "which"), (Str.ofString "k"), (Str.ofString "sign"), (Str.ofString "bent"), (Str.ofString "told"), (Str.ofString "first"), (Str.ofString "second"), (Str.ofString "row"), (Str.ofString "odd"), (Str.ofString "bad"), (Str.ofString "value"), (Str.ofString "words")], false⟩
def ds : List Pz.DefS := [ds0, ds1, ds2, ds3, ds4, ds5, ds6, ds7, ds8, ds9, ds10, ds11, ds12, ds13, ds14, ds15, ds16, ds17, ds18, ds19, ds20, ds21, ds22, ds23, ds24, ds25, ds26, ds27, ds28, ds29, ds30, ds31]
def L : Pz.Law := { gl := gl, con := con, E := E, hasW := true, ds := ds, fds := fds, fuel := 60, turns := 2000, depth := depth, at_ := 31, x := "script" }
theorem L_ok : L.okB = true := by decide +kernel
theorem bind0 : bindP ds0.params ds0.ps := fun _ _ _ _ _ _ _ _ _ _ us h => match us, h with
  | [_, _, _], _ => by rfl
theorem bind1 : bindP ds1.params ds1.ps := fun _ _ _ _ _ _ _ _ _ _ us h => match us, h with
  | [_], _ => by rfl
theorem bind2 : bindP ds2.params ds2.ps := fun _ _ _ _ _ _ _ _ _ _ us h => match us, h with
  | [_], _ => by rfl
theorem bind3 : bindP ds3.params ds3.ps := fun _ _ _ _ _ _ _ _ _ _ us h => match us, h with
  | [_, _], _ => by rfl
theorem bind4 : bindP ds4.params ds4.ps := fun _ _ _ _ _ _ _ _ _ _ us h => match us, h with
  | [_, _], _ => by rfl
theorem bind5 : bindP ds5.params ds5.ps := fun _ _ _ _ _ _ _ _ _ _ us h => match us, h with
  | [_, _], _ => by rfl
theorem bind6 : bindP ds6.params ds6.ps := fun _ _ _ _ _ _ _ _ _ _ us h => match us, h with
  | [_, _], _ => by rfl
theorem bind7 : bindP ds7.params ds7.ps := fun _ _ _ _ _ _ _ _ _ _ us h => match us, h with
  | [_, _], _ => by rfl
theorem bind8 : bindP ds8.params ds8.ps := fun _ _ _ _ _ _ _ _ _ _ us h => match us, h with
  | [_, _], _ => by rfl
theorem bind9 : bindP ds9.params ds9.ps := fun _ _ _ _ _ _ _ _ _ _ us h => match us, h with
  | [_], _ => by rfl
theorem bind10 : bindP ds10.params ds10.ps := fun _ _ _ _ _ _ _ _ _ _ us h => match us, h with
  | [_], _ => by rfl
theorem bind11 : bindP ds11.params ds11.ps := fun _ _ _ _ _ _ _ _ _ _ us h => match us, h with
  | [_], _ => by rfl
theorem bind12 : bindP ds12.params ds12.ps := fun _ _ _ _ _ _ _ _ _ _ us h => match us, h with
  | [_, _], _ => by rfl
theorem bind13 : bindP ds13.params ds13.ps := fun _ _ _ _ _ _ _ _ _ _ us h => match us, h with
  | [_], _ => by rfl
theorem bind14 : bindP ds14.params ds14.ps := fun _ _ _ _ _ _ _ _ _ _ us h => match us, h with
  | [_], _ => by rfl
theorem bind15 : bindP ds15.params ds15.ps := fun _ _ _ _ _ _ _ _ _ _ us h => match us, h with
  | [_], _ => by rfl
theorem bind16 : bindP ds16.params ds16.ps := fun _ _ _ _ _ _ _ _ _ _ us h => match us, h with
  | [_], _ => by rfl
theorem bind17 : bindP ds17.params ds17.ps := fun _ _ _ _ _ _ _ _ _ _ us h => match us, h with
  | [_, _], _ => by rfl
theorem bind18 : bindP ds18.params ds18.ps := fun _ _ _ _ _ _ _ _ _ _ us h => match us, h with
  | [_, _], _ => by rfl
theorem bind19 : bindP ds19.params ds19.ps := fun _ _ _ _ _ _ _ _ _ _ us h => match us, h with
  | [_, _], _ => by rfl
theorem bind20 : bindP ds20.params ds20.ps := fun _ _ _ _ _ _ _ _ _ _ us h => match us, h with
  | [_, _], _ => by rfl
theorem bind21 : bindP ds21.params ds21.ps := fun _ _ _ _ _ _ _ _ _ _ us h => match us, h with
  | [_, _], _ => by rfl
theorem bind22 : bindP ds22.params ds22.ps := fun _ _ _ _ _ _ _ _ _ _ us h => match us, h with
  | [_, _], _ => by rfl
theorem bind23 : bindP ds23.params ds23.ps := fun _ _ _ _ _ _ _ _ _ _ us h => match us, h with
  | [_, _], _ => by rfl
theorem bind24 : bindP ds24.params ds24.ps := fun _ _ _ _ _ _ _ _ _ _ us h => match us, h with
  | [_, _], _ => by rfl
theorem bind25 : bindP ds25.params ds25.ps := fun _ _ _ _ _ _ _ _ _ _ us h => match us, h with
  | [_, _], _ => by rfl
theorem bind26 : bindP ds26.params ds26.ps := fun _ _ _ _ _ _ _ _ _ _ us h => match us, h with
  | [_, _], _ => by rfl
theorem bind27 : bindP ds27.params ds27.ps := fun _ _ _ _ _ _ _ _ _ _ us h => match us, h with
  | [_, _, _], _ => by rfl
theorem bind28 : bindP ds28.params ds28.ps := fun _ _ _ _ _ _ _ _ _ _ us h => match us, h with
  | [_], _ => by rfl
theorem bind29 : bindP ds29.params ds29.ps := fun _ _ _ _ _ _ _ _ _ _ us h => match us, h with
  | [_, _, _], _ => by rfl
theorem bind30 : bindP ds30.params ds30.ps := fun _ _ _ _ _ _ _ _ _ _ us h => match us, h with
  | [_], _ => by rfl
theorem bind31 : bindP ds31.params ds31.ps := fun _ _ _ _ _ _ _ _ _ _ us h => match us, h with
  | [_], _ => by rfl
theorem binds : ∀ d ∈ L.ds, bindP d.params d.ps := fun d hd => by
  have hd : d ∈ ([ds0, ds1, ds2, ds3, ds4, ds5, ds6, ds7, ds8, ds9, ds10, ds11, ds12, ds13, ds14, ds15, ds16, ds17, ds18, ds19, ds20, ds21, ds22, ds23, ds24, ds25, ds26, ds27, ds28, ds29, ds30, ds31] : List DefS) := hd
  simp only [List.mem_cons, List.not_mem_nil, or_false] at hd
  rcases hd with rfl | rfl | rfl | rfl | rfl | rfl | rfl | rfl | rfl | rfl | rfl | rfl | rfl | rfl | rfl | rfl | rfl | rfl | rfl | rfl | rfl | rfl | rfl | rfl | rfl | rfl | rfl | rfl | rfl | rfl | rfl | rfl
  · exact bind0
  · exact bind1
  · exact bind2
  · exact bind3
  · exact bind4
  · exact bind5
  · exact bind6
  · exact bind7
  · exact bind8
  · exact bind9
  · exact bind10
  · exact bind11
  · exact bind12
  · exact bind13
  · exact bind14
  · exact bind15
  · exact bind16
  · exact bind17
  · exact bind18
  · exact bind19
  · exact bind20
  · exact bind21
  · exact bind22
  · exact bind23
  · exact bind24
  · exact bind25
  · exact bind26
  · exact bind27
  · exact bind28
  · exact bind29
  · exact bind30
  · exact bind31
def dW : Pz.DefS := ⟨"_law_word", "_law_word", defArgs (topS 35), defBody (topS 35), defScope (topS 35), ["e"], wN, false⟩
theorem wd : WordD dW := ⟨rfl, .mk rfl rfl rfl, rfl, ⟨rfl, rfl, rfl, by decide +kernel, rfl, by decide +kernel, by decide +kernel⟩, fun _ _ _ _ _ _ _ _ _ _ us h => match us, h with
  | [_], _ => by rfl⟩
def fn : List He.DefD := ds.map DefS.toD ++ [dW.toD]
theorem in_fn : ∀ d ∈ L.ds, d.toD ∈ fn := fun d hd => List.mem_append_left _ (List.mem_map.mpr ⟨d, hd, rfl⟩)
theorem word_fn : L.hasW = true → ∃ d : DefS, WordD d ∧ d.toD ∈ fn := fun h => ⟨dW, wd, List.mem_append_right _ (List.mem_singleton.mpr rfl)⟩
def ex (K : PySem.W.Frag) : Bool := factsB K gl con E true
def loose1 : List PySem.Str := [(Str.ofString "PaidError"), (Str.ofString "OutOfRange"), (Str.ofString "Malformed"), (Str.ofString "NotThere"), (Str.ofString "Refused"), (Str.ofString "TooMuch"), (Str.ofString "LETTERS"), (Str.ofString "is_number"), (Str.ofString "is_word"), (Str.ofString "MOST"), (Str.ofString "ZERO"), (Str.ofString "ONE"), (Str.ofString "FIGURES"), (Str.ofString "is_part"), (Str.ofString "part"), (Str.ofString "plus"), (Str.ofString "minus"), (Str.ofString "times"), (Str.ofString "over"), (Str.ofString "is_less"), (Str.ofString "least_of"), (Str.ofString "most_of"), (Str.ofString "sum_of"), (Str.ofString "weighed"), (Str.ofString "write"), (Str.ofString "read"), (Str.ofString "is_figures"), (Str.ofString "_law_draws"), (Str.ofString "_law_take"), (Str.ofString "_law_alike"), (Str.ofString "_law_word"), (Str.ofString "_law_says"), (Str.ofString "_law_part"), (Str.ofString "_law_plus"), (Str.ofString "_law_minus"), (Str.ofString "_law_times"), (Str.ofString "_law_over"), (Str.ofString "_law_less"), (Str.ofString "_law_weighed"), (Str.ofString "_law_told"), (Str.ofString "_law_great"), (Str.ofString "_law_due"), (Str.ofString "_law_text")]
abbrev R : PySem.W.OpenRow := PySem.W.OpenLaw.row PySem.Challenge.rw_paidallways_k04_whole_parts_and_their_te
abbrev hk : PySem.W.Hook := He.hookX 4 [] fn [] L.tf ex
def ob (s : PySem.W.SharedT) : He.AlX := He.obsX 4 [] fn [] L.tf ex (HeadRun.getT s)
theorem ob_eq (s : PySem.W.SharedT) : ob s = hk.obs s.abs := He.obsX_eq (HeadRun.getT_eq s)
theorem run (w : World) : HeadRun.RunEqI R (PySem.W.view R.prog [0, 48]) hk ob 4000 loose1 w := by
  unfold HeadRun.RunEqI
  kernel_rfl
end K04
open PySem PySem.W PySem.Calls PyProof.Rows
theorem PySem.Challenge.cw_paidallways_k04_whole_parts_and_their_te_holds : PySem.Challenge.rw_paidallways_k04_whole_parts_and_their_te.Holds := by
  w_on; o_law
  refine HeadRun.head_imp (r := OpenLaw.row PySem.Challenge.rw_paidallways_k04_whole_parts_and_their_te) (q := view (OpenLaw.row PySem.Challenge.rw_paidallways_k04_whole_parts_and_their_te).prog [0, 48]) (H := K04.hk) (ob := K04.ob) (M := 4000) (loose := K04.loose1) (d := HandSHeadRun.topDef (OpenLaw.row PySem.Challenge.rw_paidallways_k04_whole_parts_and_their_te).prog 48) (kwd := []) K04.ob_eq K04.run
    (by kernel_rfl) (by kernel_rfl) (by rfl) (by decide +kernel) (by decide +kernel) (by decide +kernel) ⟨rfl, rfl, rfl, rfl, rfl, by decide +kernel⟩ ?hw ?hc
  case hw => w_witness2
  case hc =>
    refine LamX.walk_ofTsE (l := PySem.Challenge.rw_paidallways_k04_whole_parts_and_their_te) (n := 63) (k := 100) (x := "script") (CX := fun w => L2N.CX (PySem.Challenge.rw_paidallways_k04_whole_parts_and_their_te).prog w) rfl (by decide) (by kernel_rfl) ⟨rfl, by decide, by decide⟩ ?F ?C
    case C => exact fun w H s e s' h => Pz.cx_no h
    case F =>
      intro w mg fa h Y G hmg0
      obtain ⟨K, KX, c⟩ := Y
      exact ⟨K, KX, Pz.law_at K04.L_ok KX G hmg0 c K04.in_fn K04.binds c.more K04.word_fn (by decide) K04.main⟩
