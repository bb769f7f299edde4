import PyProof.Rows.All
import Wide.All
import OpenK.AllK
import Wide.FinOn
import KE.KStateDown
import Lean
import HandS.ForMost
import HandS.More
import HandS.WordsExc
import HandS.Defaults
import HandS.IsInst
import HandS.Deep
import HandS.TupAny
import HandS.Style
import HandS.DictComp
import HandS.DictTup
import HandS.Zip
import HandS.Head0
import HandS.Head1
import HandS.Head2
import HandS.HeadEnd
import HandS.HeadHook1
import HandS.HeadHook2
import HandS.HeadWalk
import PySem.Challenge.RW_asifone_k63_counts_of_plans
set_option Elab.async false
set_option linter.all false
set_option maxRecDepth 100000
set_option maxHeartbeats 0
/-! A small interpreter: its values, its text, what it does. -/
namespace Mi
open PySem PySem.Spec PyProof.Rows L2
open Classical
noncomputable section

/-- a value: a tree, or a place of the store -/
inductive Val where
  | non | bl (b : Bool) | int (i : Int) | str (s : String)
  | tup (vs : List Val) | lst (vs : List Val) | lsk (vs : List Val) | tpk (vs : List Val)
  | ref (n : Nat) | ins (c : String) (fs : List (String × Val)) | fn (x : String)
  deriving Inhabited

/-- what lies in the store -/
inductive Cell where
  | lst (vs : List Val)
  | dK (kvs : List (Sum Int String × Val))
  | dT (kvs : List (List (Sum Int String) × Val))
  | ins (c : String) (fs : List (String × Val))
  deriving Inhabited
abbrev Sto := List Cell
abbrev Env' := List (Option Val)

inductive BOp where | add | sub | mul | fdiv | mod | pow | xor | shl | shr deriving DecidableEq
inductive COp where | eq | ne | lt | le | gt | ge | is_ | isn | in_ | nin deriving DecidableEq
inductive Bi where | len | abs | int | list | tuple | max | min | sum | maxd | divmod deriving DecidableEq
inductive Bm where | append | extend | pop | popat | insert | reverse deriving DecidableEq
inductive Ty where | int | bool | str | tuple | list deriving DecidableEq

/-- a target -/
inductive MT where
  | nm (i : Nat) | tup (t : MT) | nil | cons (t u : MT)

inductive ME where
  | var (i : Nat) | int (i : Int) | bl (b : Bool) | non | str (s : String) | glb (x : String)
  | bin (o : BOp) (a b : ME) | neg (a : ME)
  | cmp (o : COp) (a b : ME) | chain (o p : COp) (a b c : ME)
  | and (a b : ME) | or (a b : ME) | not (a : ME) | ife (c a b : ME)
  | ix (a i : ME) | sl (a lo hi : ME) | nul
  | tup (es : ME) | lst (mu : Bool) (es : ME) | enil | econs (e es : ME)
  | call (f : String) (es : ME) | callk (f : String) (es : ME) (ks : List Str) (kws : ME) | new (c : String) (es : ME) | meth (o : ME) (m : String) (es : ME)
  | bi (b : Bi) (es : ME) | bm (b : Bm) (o es : ME)
  | fld (o : ME) (f : String) | isi (a : ME) (t : Ty)
  | it (e : ME) | rng (es : ME) | enum (e : ME) | zip (a b : ME)
  | comp (mu : Bool) (own : List (Str × Nat)) (tg : MT) (it cond elt : ME)
  | dnewT | dnewK | dcomp (tk : Bool) (own : List (Str × Nat)) (tg : MT) (it cond key val : ME)

inductive MS where
  | nil | cons (s b : MS)
  | set (i : Nat) (e : ME) | setc (i : Nat) (e : ME) | asg (t : MT) (e : ME) | par (i j : Nat) (es : ME)
  | setix (o i e : ME) | setfld (o : ME) (f : String) (e : ME)
  | aug (i : Nat) (o : BOp) (e : ME) | augix (a i : ME) (o : BOp) (e : ME)
  | ex (e : ME) | ret (e : ME) | retn
  | ifs (c : ME) (a b : MS) | loop (t : MT) (it : ME) (b : MS) | whl (c : ME) (b : MS)
  | brk | cont | pass

inductive Flow' where | nx | rt (v : Val) | bk | ct

/-! ### helpers -/
/-- the items of a list or a tuple -/
def seqOf (S : Sto) : Val → Option (List Val)
  | .tup vs => some vs
  | .tpk vs => some vs
  | .lst vs => some vs
  | .lsk vs => some vs
  | .ref n => match S[n]? with
    | some (.lst vs) => some vs
    | _ => none
  | _ => none
/-- .. of a list that no other thing holds locked -/
def lstM (S : Sto) : Val → Option (List Val)
  | .lst vs => some vs
  | .ref n => match S[n]? with
    | some (.lst vs) => some vs
    | _ => none
  | _ => none
/-- the items of a list -/
def lstOf (S : Sto) : Val → Option (List Val)
  | .lst vs => some vs
  | .lsk vs => some vs
  | .ref n => match S[n]? with
    | some (.lst vs) => some vs
    | _ => none
  | _ => none
def tru (S : Sto) : Val → Option Bool
  | .non => some false
  | .bl b => some b
  | .int i => some (i != 0)
  | .str s => if (Str.ofString s).length ≤ sizeLine then some (((Str.ofString s).length : Int) != 0) else none
  | .tup vs => some (!vs.isEmpty)
  | .tpk vs => some (!vs.isEmpty)
  | .lst vs => some (!vs.isEmpty)
  | .lsk vs => some (!vs.isEmpty)
  | .ref n => match S[n]? with
    | some (.lst vs) => some (!vs.isEmpty)
    | some (.dK kvs) => some (!kvs.isEmpty)
    | _ => none
  | _ => none

mutual
def toD : Val → Option PyData
  | .non => some .none
  | .bl b => some (.bool b)
  | .int i => some (.int i)
  | .str s => some (.str (Str.ofString s))
  | .tup vs => (toDs vs).map .tuple
  | .tpk vs => (toDs vs).map .tuple
  | .lst vs => (toDs vs).map .list
  | _ => none
def toDs : List Val → Option (List PyData)
  | [] => some []
  | v :: vs => match toD v, toDs vs with
    | some d, some ds => some (d :: ds)
    | _, _ => none
end
/-- also a list of the store -/
def toDS (S : Sto) : Val → Option PyData
  | .ref n => match S[n]? with
    | some (.lst vs) => (toDs vs).map .list
    | _ => none
  | v => toD v
def eqD (S : Sto) (a b : Val) : Option Bool :=
  match toDS S a, toDS S b with
  | some d, some e => if SeqAt.shaped d = true ∧ SeqAt.shaped e = true then some (PyData.eqv d e) else none
  | _, _ => none
def cmpEq (S : Sto) : Val → Val → Option Bool
  | .int i, .int j => some (decide (i = j))
  | .str s, .str t => some (decide (s = t))
  | .bl a, .bl b => some (decide (a = b))
  | .non, .non => some true
  | .non, .int _ => some false
  | .int _, .non => some false
  | .non, .str _ => some false
  | .str _, .non => some false
  | .non, .bl _ => some false
  | .bl _, .non => some false
  | .int _, .str _ => some false
  | .str _, .int _ => some false
  | .bl _, .str _ => some false
  | .str _, .bl _ => some false
  | a, b => eqD S a b
/-- is one of the flat items -/
def flat : Val → Bool
  | .int _ => true
  | .str _ => true
  | _ => false
def flatEq : Val → Val → Bool
  | .int i, .int j => decide (i = j)
  | .str s, .str t => decide (s = t)
  | _, _ => false
def keyK : Val → Option (Sum Int String)
  | .int i => some (.inl i)
  | .str s => some (.inr s)
  | _ => none
def keysK : List Val → Option (List (Sum Int String))
  | [] => some []
  | v :: vs => match keyK v, keysK vs with
    | some k, some ks => some (k :: ks)
    | _, _ => none
def keyT : Val → Option (List (Sum Int String))
  | .tup vs => keysK vs
  | _ => none
/-- a dict's item; a dict with an item put -/
def getK {κ : Type} [DecidableEq κ] (kvs : List (κ × Val)) (k : κ) : Option Val := (kvs.find? fun q => decide (q.1 = k)).map (·.2)
def putM {κ : Type} [DecidableEq κ] (kvs : List (κ × Val)) (k : κ) (v : Val) : List (κ × Val) :=
  if (kvs.any fun q => decide (q.1 = k)) = true then kvs.map (fun q => if q.1 = k then (q.1, v) else q) else kvs ++ [(k, v)]
def memL (x : Val) (vs : List Val) : Option Bool :=
  if flat x = true ∧ vs.all flat = true then some (vs.any fun y => flatEq y x)
  else match toD x, toDs vs with
    | some d, some ds => if SeqAt.shaped d = true ∧ SeqAt.shaped (.list ds) = true then some (ds.any fun z => PyData.eqv z d) else none
    | _, _ => none
def memC (x : Val) : Option Cell → Option Bool
  | some (.lst vs) => memL x vs
  | some (.dT kvs) => (keyT x).map fun k => (getK kvs k).isSome
  | some (.dK kvs) => (keyK x).map fun k => (getK kvs k).isSome
  | _ => none
def memOf (S : Sto) (x : Val) : Val → Option Bool
  | .ref n => memC x S[n]?
  | .lst vs => memL x vs
  | .tup vs => memL x vs
  | .tpk vs => memL x vs
  | _ => none
def cmp2 (o : COp) (S : Sto) (a b : Val) : Option Bool :=
  match o with
  | .eq => cmpEq S a b
  | .ne => (cmpEq S a b).map (!·)
  | .lt => match a, b with
    | .int i, .int j => some (decide (i < j))
    | _, _ => none
  | .le => match a, b with
    | .int i, .int j => some (decide (i ≤ j))
    | _, _ => none
  | .gt => match a, b with
    | .int i, .int j => some (decide (j < i))
    | _, _ => none
  | .ge => match a, b with
    | .int i, .int j => some (decide (j ≤ i))
    | _, _ => none
  | .is_ => match b with
    | .non => match a with
      | .non => some true
      | _ => some false
    | _ => none
  | .isn => match b with
    | .non => match a with
      | .non => some false
      | _ => some true
    | _ => none
  | .in_ => memOf S a b
  | .nin => (memOf S a b).map (!·)
/-- great ints -/
def okMul (i j : Int) : Prop := (-(2 ^ 64) < i ∧ i < 2 ^ 64) ∨ (-(2 ^ 64) < j ∧ j < 2 ^ 64)
def int2 (o : BOp) (i j : Int) : Option Val :=
  match o with
  | .add => some (.int (i + j))
  | .sub => some (.int (i - j))
  | .mul => if okMul i j then some (.int (i * j)) else none
  | .fdiv => if 0 < j ∧ j < 1073741824 then some (.int (i / j)) else none
  | .mod => if 0 < j then some (.int (i % j)) else none
  | .pow => if 0 ≤ j ∧ j ≤ 1000000 ∧ i.natAbs < 2 ^ 64 then some (.int (i ^ j.toNat)) else none
  | .xor => some (.int (Builtin.bitXor i j))
  | .shl => if 0 ≤ j ∧ j ≤ 1000000 ∧ i.natAbs < 2 ^ 64 then some (.int (i * 2 ^ j.toNat)) else none
  | .shr => if 0 ≤ j then some (.int (i / 2 ^ j.toNat)) else none
def tupAdd (o : BOp) (vs ws : List Val) : Option Val :=
  match o with
  | .add => if vs.length + ws.length ≤ sizeLine then some (.tup (vs ++ ws)) else none
  | _ => none
def lstRep (o : BOp) (S : Sto) (a : Val) (k : Int) : Option Val :=
  match o, lstM S a with
  | .mul, some vs => if -(2 ^ 63) ≤ k ∧ k < 2 ^ 63 ∧ vs.length * k.toNat ≤ sizeLine then some (.lst (List.replicate k.toNat vs).flatten) else none
  | _, _ => none
def lstAdd (o : BOp) (S : Sto) (a b : Val) : Option Val :=
  match o, lstM S a, lstM S b with
  | .add, some vs, some ws => if vs.length + ws.length ≤ sizeLine then some (.lst (vs ++ ws)) else none
  | _, _, _ => none
def binV (o : BOp) (S : Sto) : Val → Val → Option Val
  | .int i, .int j => int2 o i j
  | .tup vs, .tup ws => tupAdd o vs ws
  | a, .int k => lstRep o S a k
  | a, b => lstAdd o S a b
def ixC : Option Cell → Val → Option Val
  | some (.lst vs), .int i => atI vs i
  | some (.dK kvs), k => (keyK k).bind (getK kvs)
  | some (.dT kvs), k => (keyT k).bind (getK kvs)
  | _, _ => none
def ixV (S : Sto) : Val → Val → Option Val
  | .ref n, i => ixC S[n]? i
  | .tup vs, .int i => atI vs i
  | .tpk vs, .int i => atI vs i
  | .lst vs, .int i => atI vs i
  | .lsk vs, .int i => atI vs i
  | _, _ => none
def cutM (vs : List Val) (lo hi : Option Int) : List Val :=
  (vs.drop (HT.sIx vs.length 0 lo)).take (HT.sIx vs.length vs.length hi - HT.sIx vs.length 0 lo)
def isNul : ME → Bool
  | .nul => true
  | _ => false
def prt (b : Bool) (S : Sto) (r : Option (Val × Sto)) : Option (Option Int × Sto) :=
  if b = true then some (none, S) else match r with
    | some (.int i, S') => some (some i, S')
    | _ => none
def slV (S : Sto) (a : Val) (lo hi : Option Int) : Option Val :=
  match a with
  | .tup vs => some (.tup (cutM vs lo hi))
  | .tpk _ => none
  | a => (lstOf S a).map fun vs => .lst (cutM vs lo hi)
def intsOf : List Val → Option (List Int)
  | [] => some []
  | .int i :: vs => (intsOf vs).map (i :: ·)
  | _ :: _ => none
def maxI : List Int → Option Int
  | [] => none
  | i :: is => some (is.foldl (fun m j => if j > m then j else m) i)
def minI : List Int → Option Int
  | [] => none
  | i :: is => some (is.foldl (fun m j => if j < m then j else m) i)
def lenV (S : Sto) : Val → Option Int
  | .str s => if (Str.ofString s).length ≤ sizeLine then some (Str.ofString s).length else none
  | .ref n => match S[n]? with
    | some (.lst vs) => some vs.length
    | some (.dK kvs) => some kvs.length
    | _ => none
  | .tup vs => some vs.length
  | .tpk vs => some vs.length
  | .lst vs => some vs.length
  | .lsk vs => some vs.length
  | _ => none
def absV' : Val → Option Val
  | .int i => some (.int (if i < 0 then -i else i))
  | _ => none
def intV : Val → Option Val
  | .int i => some (.int i)
  | .bl k => some (.int (if k then 1 else 0))
  | _ => none
def tupOf (S : Sto) : Val → Option Val
  | .tup vs => some (.tup vs)
  | .tpk vs => some (.tpk vs)
  | v => (lstOf S v).map .tup
def bi1 (S : Sto) (b : Bi) (v : Val) : Option Val :=
  match b with
  | .len => (lenV S v).map .int
  | .abs => absV' v
  | .int => intV v
  | .list => (seqOf S v).map .lst
  | .tuple => tupOf S v
  | .sum => ((lstOf S v).bind intsOf).map fun ns => .int ns.sum
  | .max => ((lstOf S v).bind intsOf).bind fun ns => (maxI ns).map .int
  | .min => ((lstOf S v).bind intsOf).bind fun ns => (minI ns).map .int
  | _ => none
def bi2 (S : Sto) (b : Bi) (v u : Val) : Option Val :=
  match b, v, u with
  | .max, .int i, .int j => some (.int (if j > i then j else i))
  | .min, .int i, .int j => some (.int (if j < i then j else i))
  | .divmod, .int i, .int j => if 0 < j ∧ j < 1073741824 then some (.tup [.int (i / j), .int (i % j)]) else none
  | .maxd, v, .int d => ((lstOf S v).bind intsOf).map fun ns => .int ((maxI ns).getD d)
  | _, _, _ => none
def biN (S : Sto) (b : Bi) : List Val → Option Val
  | [v] => bi1 S b v
  | [v, u] => bi2 S b v u
  | _ => none
def insL (vs : List Val) (i : Nat) (x : Val) : List Val := vs.take i ++ [x] ++ vs.drop i
def bm1 (S : Sto) (b : Bm) (n : Nat) (vs : List Val) : List Val → Option (Val × Sto)
  | [] => match b with
    | .pop => (vs[vs.length - 1]?).map fun y => (y, S.set n (.lst vs.dropLast))
    | .reverse => some (.non, S.set n (.lst vs.reverse))
    | _ => none
  | [x] => match b with
    | .append => if vs.length < sizeLine then some (.non, S.set n (.lst (vs ++ [x]))) else none
    | .extend => match lstM S x with
      | some ws => if vs.length + ws.length ≤ sizeLine then some (.non, S.set n (.lst (vs ++ ws))) else none
      | none => none
    | .popat => match x with
      | .int i => if -(2 ^ 63) ≤ i ∧ i < 2 ^ 63 then (match seqIndex? i vs.length with
        | some k => (vs[k]?).map fun y => (y, S.set n (.lst (vs.eraseIdx k)))
        | none => none) else none
      | _ => none
    | _ => none
  | [x, y] => match b, x with
    | .insert, .int i => if 0 ≤ i ∧ i < 2 ^ 63 ∧ vs.length < sizeLine then some (.non, S.set n (.lst (insL vs i.toNat y))) else none
    | _, _ => none
  | _ => none
def tyIs (S : Sto) : Ty → Val → Option Bool
  | t, .ref n => match S[n]? with
    | some (.lst _) => some (t == .list)
    | _ => none
  | t, .non => some false
  | t, .bl _ => some (t == .bool || t == .int)
  | t, .int _ => some (t == .int)
  | t, .str _ => some (t == .str)
  | t, .tup _ => some (t == .tuple)
  | t, .tpk _ => some (t == .tuple)
  | t, .lst _ => some (t == .list)
  | t, .lsk _ => some (t == .list)
  | _, _ => none
def clsOf (S : Sto) : Val → Option (String × List (String × Val))
  | .ins c fs => some (c, fs)
  | .ref n => match S[n]? with
    | some (.ins c fs) => some (c, fs)
    | _ => none
  | _ => none
def putS (f : String) (v : Val) : List (String × Val) → List (String × Val)
  | [] => [(f, v)]
  | (g, x) :: r => if g = f then (g, v) :: r else (g, x) :: putS f v r
def unT : Val → List Val
  | .tup vs => vs
  | _ => []

/-- o[i] = v -/
def putC : Option Cell → Val → Val → Option Cell
  | some (.lst vs), .int k, v => (ixN vs.length k).map fun j => .lst (vs.set j v)
  | some (.dK kvs), k, v => if kvs.length < sizeLine then (keyK k).map fun q => .dK (putM kvs q v) else none
  | some (.dT kvs), k, v => if kvs.length < sizeLine then (keyT k).map fun q => .dT (putM kvs q v) else none
  | _, _, _ => none

/-- binds a target -/
def bindT (S : Sto) : MT → Val → Env' → Option Env'
  | .nm i, v, env => if i < env.length then some (env.set i (some v)) else none
  | .tup t, v, env => match v with
    | .tup vs => bindT S t (.lst vs) env
    | .tpk vs => bindT S t (.lst vs) env
    | _ => none
  | .nil, v, env => match v with
    | .lst [] => some env
    | _ => none
  | .cons t u, v, env => match v with
    | .lst (x :: xs) => (bindT S t x env).bind fun env' => bindT S u (.lst xs) env'
    | _ => none
def wipeE (env : Env') : List Nat → Env'
  | [] => env
  | v :: vs => (wipeE env vs).set v none

/-- the items of what a for walks, and where they stand if they may change -/
def itemsOf (S : Sto) : Val → Option (List Val × Option (Nat × Cell))
  | .tup vs => some (vs, none)
  | .tpk vs => some (vs, none)
  | .lst vs => some (vs, none)
  | .lsk vs => some (vs, none)
  | .ref n => match S[n]? with
    | some (.lst vs) => some (vs, some (n, .lst vs))
    | _ => none
  | _ => none
def stays : Option (Nat × Cell) → Sto → Prop
  | none, _ => True
  | some (n, c), S => S[n]? = some c

/-! ### freezing -/
def seqOpt {α : Type} : List (Option α) → Option (List α)
  | [] => some []
  | some a :: r => (seqOpt r).map (a :: ·)
  | none :: _ => none
mutual
/-- no place of the store from b on -/
def below (b : Nat) : Val → Bool
  | .ref n => decide (n < b)
  | .tup vs => belows b vs
  | .lst vs => belows b vs
  | .lsk vs => belows b vs
  | .tpk vs => belows b vs
  | .ins _ fs => belowf b fs
  | _ => true
def belows (b : Nat) : List Val → Bool
  | [] => true
  | v :: vs => below b v && belows b vs
def belowf (b : Nat) : List (String × Val) → Bool
  | [] => true
  | (_, v) :: fs => below b v && belowf b fs
end
def belowC (b : Nat) : Cell → Bool
  | .lst vs => belows b vs
  | .dK kvs => kvs.all fun q => below b q.2
  | .dT kvs => kvs.all fun q => below b q.2
  | .ins _ fs => belowf b fs
/-- a value with what it names from b on written out; k: how deep -/
def frz (S : Sto) (b : Nat) : Nat → Val → Option Val
  | 0, v => if below b v then some v else none
  | k + 1, v => match v with
    | .ref n => if n < b then some (.ref n) else match S[n]? with
      | some (.lst vs) => (seqOpt (vs.map (frz S b k))).map .lst
      | some (.ins c fs) => (seqOpt (fs.map fun q => (frz S b k q.2).map fun v => (q.1, v))).map (.ins c)
      | _ => none
    | .tup vs => (seqOpt (vs.map (frz S b k))).map .tup
    | .lst vs => (seqOpt (vs.map (frz S b k))).map .lst
    | .ins c fs => (seqOpt (fs.map fun q => (frz S b k q.2).map fun v => (q.1, v))).map (.ins c)
    | v => if below b v then some v else none
/-- a call's end: the value frozen, the store cut -/
def leave (S : Sto) (b : Nat) (v : Val) : Option (Val × Sto) :=
  match frz S b 6 v with
  | some v' => if b ≤ S.length ∧ (S.take b).all (belowC b) = true then some (v', S.take b) else none
  | none => none

/-! ### running -/
abbrev Call' := String → String → List Val → Sto → Option (Val × Sto)
structure Run where
  call : Call'
  fz : String → Bool
  fd : String → String → Bool
  most : Nat

def compL (R : Val → Env' → Sto → Option (Option Val × Sto)) (src : Option (Nat × Cell)) : List Val → List Val → Env' → Sto → Option (List Val × Sto)
  | [], acc, _, S => some (acc, S)
  | v :: vs, acc, env, S => match R v env S with
    | some (some x, S') => if stays src S' ∧ acc.length < sizeLine then compL R src vs (acc ++ [x]) env S' else none
    | some (none, S') => if stays src S' then compL R src vs acc env S' else none
    | none => none
def compD (R : Val → Env' → Sto → Option (Option (Val × Val) × Sto)) (src : Option (Nat × Cell)) : List Val → Cell → Env' → Sto → Option (Cell × Sto)
  | [], acc, _, S => some (acc, S)
  | v :: vs, acc, env, S => match R v env S with
    | some (some kx, S') => if stays src S' then (putC (some acc) kx.1 kx.2).bind fun c => compD R src vs c env S' else none
    | some (none, S') => if stays src S' then compD R src vs acc env S' else none
    | none => none
def enumL : Nat → List Val → List Val
  | _, [] => []
  | n, v :: vs => .tup [.int n, v] :: enumL (n + 1) vs
def zipL : List Val → List Val → List Val
  | v :: vs, w :: ws => .tup [v, w] :: zipL vs ws
  | _, _ => []
def rngL (lo : Int) : Nat → List Val
  | 0 => []
  | n + 1 => .int lo :: rngL (lo + 1) n

def evE (R : Run) : ME → Env' → Sto → Option (Val × Sto)
  | .var i, env, S => match env[i]? with
    | some (some v) => some (v, S)
    | _ => none
  | .int i, _, S => some (.int i, S)
  | .bl b, _, S => some (.bl b, S)
  | .non, _, S => some (.non, S)
  | .str s, _, S => some (.str s, S)
  | .glb x, _, S => some (.fn x, S)
  | .bin o a b, env, S => match evE R a env S with
    | some (x, S1) => match evE R b env S1 with
      | some (y, S2) => (binV o S2 x y).map fun v => (v, S2)
      | none => none
    | none => none
  | .neg a, env, S => match evE R a env S with
    | some (.int i, S1) => some (.int (-i), S1)
    | _ => none
  | .cmp o a b, env, S => match evE R a env S with
    | some (x, S1) => match evE R b env S1 with
      | some (y, S2) => (cmp2 o S2 x y).map fun k => (.bl k, S2)
      | none => none
    | none => none
  | .chain o p a b c, env, S => match evE R a env S with
    | some (x, S1) => match evE R b env S1 with
      | some (y, S2) => match cmp2 o S2 x y with
        | some true => match evE R c env S2 with
          | some (z, S3) => (cmp2 p S3 y z).map fun k => (.bl k, S3)
          | none => none
        | some false => some (.bl false, S2)
        | none => none
      | none => none
    | none => none
  | .and a b, env, S => match evE R a env S with
    | some (.bl true, S1) => evE R b env S1
    | some (.bl false, S1) => some (.bl false, S1)
    | _ => none
  | .or a b, env, S => match evE R a env S with
    | some (.bl true, S1) => some (.bl true, S1)
    | some (.bl false, S1) => evE R b env S1
    | _ => none
  | .not a, env, S => match evE R a env S with
    | some (.bl k, S1) => some (.bl (!k), S1)
    | _ => none
  | .ife c a b, env, S => match evE R c env S with
    | some (v, S1) => match tru S1 v with
      | some true => evE R a env S1
      | some false => evE R b env S1
      | none => none
    | none => none
  | .ix a i, env, S => match evE R a env S with
    | some (x, S1) => match evE R i env S1 with
      | some (y, S2) => (ixV S2 x y).map fun v => (v, S2)
      | none => none
    | none => none
  | .sl a lo hi, env, S => match evE R a env S with
    | some (x, S1) => match prt (isNul lo) S1 (evE R lo env S1) with
      | some (l, S2) => match prt (isNul hi) S2 (evE R hi env S2) with
        | some (h, S3) => (slV S3 x l h).map fun v => (v, S3)
        | none => none
      | none => none
    | none => none
  | .nul, _, _ => none
  | .tup es, env, S => match evE R es env S with
    | some (.tup vs, S1) => if vs.length ≤ sizeLine then some (.tup vs, S1) else none
    | _ => none
  | .lst mu es, env, S => match evE R es env S with
    | some (.tup vs, S1) => if vs.length ≤ sizeLine then (if mu then some (.ref S1.length, S1 ++ [.lst vs]) else some (.lst vs, S1)) else none
    | _ => none
  | .enil, _, S => some (.tup [], S)
  | .econs e es, env, S => match evE R e env S with
    | some (x, S1) => match evE R es env S1 with
      | some (.tup vs, S2) => some (.tup (x :: vs), S2)
      | _ => none
    | none => none
  | .call f es, env, S => match evE R es env S with
    | some (.tup vs, S1) => R.call "" f vs S1
    | _ => none
  | .callk f es ks kws, env, S => match evE R es env S with
    | some (.tup vs, S1) => match evE R kws env S1 with
      | some (.tup ws, S2) => R.call "" f (vs ++ ws) S2
      | _ => none
    | _ => none
  | .new c es, env, S => match evE R es env S with
    | some (.tup vs, S1) => match R.call c "__init__" (.ref S1.length :: vs) (S1 ++ [.ins c []]) with
      | some (.non, S2) => if R.fz c then leave S2 S1.length (.ref S1.length) else some (.ref S1.length, S2)
      | _ => none
    | _ => none
  | .meth o m es, env, S => match evE R o env S with
    | some (x, S1) => match clsOf S1 x with
      | some (c, fs) => if (fs.lookup m).isNone = true ∧ c ≠ "" then (match evE R es env S1 with
        | some (.tup vs, S2) => R.call c m (x :: vs) S2
        | _ => none) else none
      | none => none
    | none => none
  | .bi b es, env, S => match evE R es env S with
    | some (.tup vs, S1) => (biN S1 b vs).map fun v => (v, S1)
    | _ => none
  | .bm b o es, env, S => match evE R o env S with
    | some (.ref n, S1) => match lstOf S1 (.ref n) with
      | some _ => (match evE R es env S1 with
        | some (.tup vs, S2) => match lstOf S2 (.ref n) with
          | some xs => bm1 S2 b n xs vs
          | none => none
        | _ => none)
      | none => none
    | _ => none
  | .fld o f, env, S => match evE R o env S with
    | some (x, S1) => (match clsOf S1 x with
      | some (c, fs) => if R.fd c f = true then (fs.lookup f).map fun v => (v, S1) else none
      | none => none)
    | none => none
  | .isi a t, env, S => match evE R a env S with
    | some (x, S1) => (tyIs S1 t x).map fun k => (.bl k, S1)
    | none => none
  | .it e, env, S => evE R e env S
  | .rng es, env, S => match evE R es env S with
    | some (.tup [.int j], S1) => if -(2 ^ 62) ≤ j ∧ j < 2 ^ 62 then some (.lst (rngL 0 j.toNat), S1) else none
    | some (.tup [.int i, .int j], S1) => if -(2 ^ 62) ≤ i ∧ i < 2 ^ 62 ∧ -(2 ^ 62) ≤ j ∧ j < 2 ^ 62 then some (.lst (rngL i (j - i).toNat), S1) else none
    | _ => none
  | .enum e, env, S => match evE R e env S with
    | some (.lst vs, S1) => some (.lst (enumL 0 vs), S1)
    | _ => none
  | .zip a b, env, S => match evE R a env S with
    | some (.lst vs, S1) => match evE R b env S1 with
      | some (.lst ws, S2) => some (.lst (zipL vs ws), S2)
      | _ => none
    | _ => none
  | .comp mu own tg it cond elt, env, S => match evE R it env S with
    | some (v, S1) => match itemsOf S1 v with
      | some (vs, src) => match compL (fun x env S => match bindT S tg x env with
          | some env' => match evE R cond env' S with
            | some (c, S2) => match tru S2 c with
              | some true => (evE R elt env' S2).map fun y => (some y.1, y.2)
              | some false => some (none, S2)
              | none => none
            | none => none
          | none => none) src vs [] (wipeE env (own.map (·.2))) S1 with
        | some (ys, S2) => if mu then some (.ref S2.length, S2 ++ [.lst ys]) else some (.lst ys, S2)
        | none => none
      | none => none
    | none => none
  | .dnewT, _, S => some (.ref S.length, S ++ [.dT []])
  | .dnewK, _, S => some (.ref S.length, S ++ [.dK []])
  | .dcomp tk own tg it cond key val, env, S => match evE R it env S with
    | some (v, S1) => match itemsOf S1 v with
      | some (vs, src) => match compD (fun x env S => match bindT S tg x env with
          | some env' => match evE R cond env' S with
            | some (c, S2) => match tru S2 c with
              | some true => match evE R key env' S2 with
                | some (k, S3) => (evE R val env' S3).map fun y => (some (k, y.1), y.2)
                | none => none
              | some false => some (none, S2)
              | none => none
            | none => none
          | none => none) src vs (if tk then .dT [] else .dK []) (wipeE env (own.map (·.2))) S1 with
        | some (c, S2) => some (.ref S2.length, S2 ++ [c])
        | none => none
      | none => none
    | none => none

def loopF (B : Val → Env' → Sto → Option (Flow' × Env' × Sto)) (src : Option (Nat × Cell)) : List Val → Env' → Sto → Option (Flow' × Env' × Sto)
  | [], env, S => some (.nx, env, S)
  | v :: vs, env, S => match B v env S with
    | some (.nx, env', S') => if stays src S' then loopF B src vs env' S' else none
    | some (.ct, env', S') => if stays src S' then loopF B src vs env' S' else none
    | some (.bk, env', S') => some (.nx, env', S')
    | some (.rt v, env', S') => some (.rt v, env', S')
    | none => none
def whileF (C : Env' → Sto → Option (Bool × Sto)) (B : Env' → Sto → Option (Flow' × Env' × Sto)) : Nat → Env' → Sto → Option (Flow' × Env' × Sto)
  | 0, _, _ => none
  | n + 1, env, S => match C env S with
    | some (true, S1) => match B env S1 with
      | some (.nx, env', S') => whileF C B n env' S'
      | some (.ct, env', S') => whileF C B n env' S'
      | some (.bk, env', S') => some (.nx, env', S')
      | some (.rt v, env', S') => some (.rt v, env', S')
      | none => none
    | some (false, S1) => some (.nx, env, S1)
    | none => none

def evS (R : Run) : MS → Env' → Sto → Option (Flow' × Env' × Sto)
  | .nil, env, S => some (.nx, env, S)
  | .cons s b, env, S => match evS R s env S with
    | some (.nx, env', S') => evS R b env' S'
    | r => r
  | .set i e, env, S => match evE R e env S with
    | some (v, S') => if i < env.length then some (.nx, env.set i (some v), S') else none
    | none => none
  | .setc i e, env, S => match evE R e env S with
    | some (v, S') => if i < env.length then some (.nx, env.set i (some v), S') else none
    | none => none
  | .asg t e, env, S => match evE R e env S with
    | some (v, S') => (bindT S' t v env).map fun env' => (.nx, env', S')
    | none => none
  | .par i j es, env, S => match evE R es env S with
    | some (.tup [v, w], S') => if i < env.length ∧ j < env.length then some (.nx, (env.set i (some v)).set j (some w), S') else none
    | _ => none
  | .setix o i e, env, S => match evE R e env S with
    | some (v, S1) => match evE R o env S1 with
      | some (.ref n, S2) => match evE R i env S2 with
        | some (k, S3) => match putC S3[n]? k v with
          | some c => some (.nx, env, S3.set n c)
          | none => none
        | none => none
      | _ => none
    | none => none
  | .setfld o f e, env, S => match evE R e env S with
    | some (v, S1) => match evE R o env S1 with
      | some (.ref n, S2) => match S2[n]? with
        | some (.ins c fs) => if fs.length < 1000 ∧ R.fd c f = true then some (.nx, env, S2.set n (.ins c (putS f v fs))) else none
        | _ => none
      | _ => none
    | none => none
  | .aug i o e, env, S => match env[i]? with
    | some (some x) => match evE R e env S with
      | some (y, S1) => match o with
        | .add => match x, y with
          | .int a, .int b => some (.nx, env.set i (some (.int (a + b))), S1)
          | _, _ => none
        | .sub => match x, y with
          | .int a, .int b => some (.nx, env.set i (some (.int (a - b))), S1)
          | _, _ => none
        | _ => none
      | none => none
    | _ => none
  | .augix a i o e, env, S => match evE R a env S with
    | some (.ref n, S1) => match evE R i env S1 with
      | some (.int k, S2) => match ixV S2 (.ref n) (.int k) with
        | some (.int x) => match evE R e env S2 with
          | some (.int y, S3) => match S3[n]?, o with
            | some (.lst vs), .add => (match ixN vs.length k with
              | some j => some (.nx, env, S3.set n (.lst (vs.set j (.int (x + y)))))
              | none => none)
            | _, _ => none
          | _ => none
        | _ => none
      | _ => none
    | _ => none
  | .ex e, env, S => match evE R e env S with
    | some (_, S') => some (.nx, env, S')
    | none => none
  | .ret e, env, S => match evE R e env S with
    | some (v, S') => some (.rt v, env, S')
    | none => none
  | .retn, env, S => some (.rt .non, env, S)
  | .ifs c a b, env, S => match evE R c env S with
    | some (v, S1) => match tru S1 v with
      | some true => evS R a env S1
      | some false => evS R b env S1
      | none => none
    | none => none
  | .loop t it b, env, S => match evE R it env S with
    | some (v, S1) => match itemsOf S1 v with
      | some (vs, src) => loopF (fun x env S => match bindT S t x env with
          | some env' => evS R b env' S
          | none => none) src vs env S1
      | none => none
    | none => none
  | .whl c b, env, S => whileF (fun env S => match evE R c env S with
      | some (v, S1) => (tru S1 v).map fun k => (k, S1)
      | none => none) (fun env S => evS R b env S) R.most env S
  | .brk, env, S => some (.bk, env, S)
  | .cont, env, S => some (.ct, env, S)
  | .pass, env, S => some (.nx, env, S)

/-- a def: how many parameters, how many names, its body; whether what it gives is frozen -/
structure Def where
  np : Nat
  nn : Nat
  body : MS
  pure_ : Bool
abbrev Tab := String → String → Option Def
def endF (d : Def) (b : Nat) : Option (Flow' × Env' × Sto) → Option (Val × Sto)
  | some (.rt v, _, S) => if d.pure_ then leave S b v else some (v, S)
  | some (.nx, _, S) => if d.pure_ then leave S b .non else some (.non, S)
  | _ => none
/-- what does not change while a program runs -/
structure Prg where
  tab : Tab
  fz : String → Bool
  fd : String → String → Bool
  most : Nat
def runB (d : Def) (R : Run) (args : List Val) (S : Sto) : Option (Val × Sto) :=
  if args.length = d.np then endF d S.length (evS R d.body (args.map some ++ List.replicate (d.nn - d.np) none) S) else none
def run (G : Prg) : Nat → Call'
  | 0, _, _, _, _ => none
  | k + 1, c, f, args, S => match G.tab c f with
    | some d => runB d ⟨run G k, G.fz, G.fd, G.most⟩ args S
    | none => none
end
end Mi

namespace Mi
open PySem PySem.Spec PyProof.Rows L2
open Classical

/-- what the interpreter owns: frozen objects, and where the places of the store lie -/
structure Wd where
  F : Hp
  r : Nat → Option Addr
def Own (W : Wd) (a : Addr) : Prop := W.F a ≠ none ∨ ∃ n, W.r n = some a

section
variable (K : PySem.W.Frag) (mg : Str → Option Value)
mutual
inductive VR (W : Wd) : Val → V → Prop
  | non : VR W .non .non
  | bl (b : Bool) : VR W (.bl b) (.bl b)
  | int (i : Int) : VR W (.int i) (.int i)
  | str (s : String) : VR W (.str s) (.str (Str.ofString s))
  | tup {a : Addr} {vs : List Val} {us : List V} (h : W.F a = some (.tup us)) (q : VRs W vs us) : VR W (.tup vs) (.ref a)
  | tpk {a : Addr} {vs : List Val} {us : List V} (h : SqT K W.F a us) (q : VRs W vs us) : VR W (.tpk vs) (.ref a)
  | lst {a : Addr} {vs : List Val} {us : List V} (h : W.F a = some (.lst us)) (q : VRs W vs us) : VR W (.lst vs) (.ref a)
  | lsk {a : Addr} {vs : List Val} {us : List V} (h : SqL K W.F a us) (q : VRs W vs us) : VR W (.lsk vs) (.ref a)
  | ref {n : Nat} {a : Addr} (h : W.r n = some a) : VR W (.ref n) (.ref a)
  | ins {c : String} {a C dx : Addr} {fs : List (String × Val)} {us : List (Str × V)} (h : W.F a = some (.ins C dx us)) (hc : mg (Str.ofString c) = some (.ref C)) (q : VRf W fs us) : VR W (.ins c fs) (.ref a)
  | fn {x : String} {a : Addr} (h : mg (Str.ofString x) = some (.ref a)) : VR W (.fn x) (.ref a)
inductive VRs (W : Wd) : List Val → List V → Prop
  | nil : VRs W [] []
  | cons {v : Val} {u : V} {vs : List Val} {us : List V} (h : VR W v u) (t : VRs W vs us) : VRs W (v :: vs) (u :: us)
inductive VRf (W : Wd) : List (String × Val) → List (Str × V) → Prop
  | nil : VRf W [] []
  | cons {x : String} {v : Val} {u : V} {vs : List (String × Val)} {us : List (Str × V)} (h : VR W v u) (t : VRf W vs us) : VRf W ((x, v) :: vs) ((Str.ofString x, u) :: us)
end
end

structure Le (W W' : Wd) : Prop where
  f : ∀ a o, W.F a = some o → W'.F a = some o
  r : ∀ n a, W.r n = some a → W'.r n = some a
theorem Le.refl (W : Wd) : Le W W := ⟨fun _ _ h => h, fun _ _ h => h⟩
theorem Le.trans {W W1 W2 : Wd} (a : Le W W1) (b : Le W1 W2) : Le W W2 := ⟨fun x o h => b.f x o (a.f x o h), fun n x h => b.r n x (a.r n x h)⟩

section
variable {K : PySem.W.Frag} {mg : Str → Option Value} {W W' : Wd}
theorem sqT_le (h : ∀ a o, W.F a = some o → W'.F a = some o) {a : Addr} {us : List V} (q : SqT K W.F a us) : SqT K W'.F a us := by
  rcases q with (q | ⟨o, q⟩) | q
  · exact .inl (.inl (h _ _ q))
  · exact .inl (.inr ⟨o, h _ _ q⟩)
  · exact .inr q
theorem sqL_le (h : ∀ a o, W.F a = some o → W'.F a = some o) {a : Addr} {us : List V} (q : SqL K W.F a us) : SqL K W'.F a us := by
  rcases q with (q | ⟨o, q⟩) | q
  · exact .inl (.inl (h _ _ q))
  · exact .inl (.inr ⟨o, h _ _ q⟩)
  · exact .inr q
theorem sqT_hp {H : Hp} (h : ∀ a o, W.F a = some o → H a = some o) {a : Addr} {us : List V} (q : SqT K W.F a us) : SqT K H a us := by
  rcases q with (q | ⟨o, q⟩) | q
  · exact .inl (.inl (h _ _ q))
  · exact .inl (.inr ⟨o, h _ _ q⟩)
  · exact .inr q
theorem sqL_hp {H : Hp} (h : ∀ a o, W.F a = some o → H a = some o) {a : Addr} {us : List V} (q : SqL K W.F a us) : SqL K H a us := by
  rcases q with (q | ⟨o, q⟩) | q
  · exact .inl (.inl (h _ _ q))
  · exact .inl (.inr ⟨o, h _ _ q⟩)
  · exact .inr q
mutual
theorem VR.le (l : Le W W') : ∀ {v : Val} {u : V}, VR K mg W v u → VR K mg W' v u
  | _, _, .non => .non
  | _, _, .bl b => .bl b
  | _, _, .int i => .int i
  | _, _, .str s => .str s
  | _, _, .tup h q => .tup (l.f _ _ h) (VRs.le l q)
  | _, _, .tpk h q => .tpk (sqT_le l.f h) (VRs.le l q)
  | _, _, .lst h q => .lst (l.f _ _ h) (VRs.le l q)
  | _, _, .lsk h q => .lsk (sqL_le l.f h) (VRs.le l q)
  | _, _, .ref h => .ref (l.r _ _ h)
  | _, _, .ins h hc q => .ins (l.f _ _ h) hc (VRf.le l q)
  | _, _, .fn h => .fn h
theorem VRs.le (l : Le W W') : ∀ {vs : List Val} {us : List V}, VRs K mg W vs us → VRs K mg W' vs us
  | _, _, .nil => .nil
  | _, _, .cons h t => .cons (VR.le l h) (VRs.le l t)
theorem VRf.le (l : Le W W') : ∀ {vs : List (String × Val)} {us : List (Str × V)}, VRf K mg W vs us → VRf K mg W' vs us
  | _, _, .nil => .nil
  | _, _, .cons h t => .cons (VR.le l h) (VRf.le l t)
end
theorem VRs.length : ∀ {vs : List Val} {us : List V}, VRs K mg W vs us → vs.length = us.length
  | _, _, .nil => rfl
  | _, _, .cons _ t => congrArg Nat.succ (VRs.length t)
theorem VRs.get : ∀ {vs : List Val} {us : List V} {i : Nat} {v : Val}, VRs K mg W vs us → vs[i]? = some v → ∃ u, us[i]? = some u ∧ VR K mg W v u
  | _, _, _, _, .nil, e => by simp at e
  | _, _, 0, _, .cons r _, e => by
    simp at e
    subst e
    exact ⟨_, rfl, r⟩
  | _, _, i + 1, v, .cons _ t, e => by
    obtain ⟨u, h1, h2⟩ := VRs.get (i := i) (v := v) t (by simpa using e)
    exact ⟨u, by simpa using h1, h2⟩
theorem VRs.get' : ∀ {vs : List Val} {us : List V} {i : Nat} {u : V}, VRs K mg W vs us → us[i]? = some u → ∃ v, vs[i]? = some v ∧ VR K mg W v u
  | _, _, _, _, .nil, e => by simp at e
  | _, _, 0, _, .cons r _, e => by
    simp at e
    subst e
    exact ⟨_, rfl, r⟩
  | _, _, i + 1, v, .cons _ t, e => by
    obtain ⟨u, h1, h2⟩ := VRs.get' (i := i) (u := v) t (by simpa using e)
    exact ⟨u, by simpa using h1, h2⟩
theorem VRs.app : ∀ {vs ws : List Val} {us zs : List V}, VRs K mg W vs us → VRs K mg W ws zs → VRs K mg W (vs ++ ws) (us ++ zs)
  | _, _, _, _, .nil, s => s
  | _, _, _, _, .cons r t, s => .cons r (VRs.app t s)
theorem VRs.put {v : Val} {u : V} (r : VR K mg W v u) : ∀ {vs : List Val} {us : List V} (i : Nat), VRs K mg W vs us → VRs K mg W (vs.set i v) (us.set i u)
  | _, _, _, .nil => .nil
  | _, _, 0, .cons _ t => .cons r t
  | _, _, i + 1, .cons q t => .cons q (VRs.put r i t)
theorem VRs.tk : ∀ {vs : List Val} {us : List V} (n : Nat), VRs K mg W vs us → VRs K mg W (vs.take n) (us.take n)
  | _, _, 0, _ => .nil
  | _, _, _ + 1, .nil => .nil
  | _, _, n + 1, .cons r t => .cons r (VRs.tk n t)
theorem VRs.dp : ∀ {vs : List Val} {us : List V} (n : Nat), VRs K mg W vs us → VRs K mg W (vs.drop n) (us.drop n)
  | _, _, 0, r => r
  | _, _, _ + 1, .nil => .nil
  | _, _, n + 1, .cons _ t => VRs.dp n t
theorem VRs.rep {vs : List Val} {us : List V} (h : VRs K mg W vs us) : ∀ k : Nat, VRs K mg W (List.replicate k vs).flatten (List.replicate k us).flatten
  | 0 => .nil
  | k + 1 => by
    rw [List.replicate_succ, List.replicate_succ, List.flatten_cons, List.flatten_cons]
    exact h.app (VRs.rep h k)
theorem VRs.rev {vs : List Val} {us : List V} (h : VRs K mg W vs us) : VRs K mg W vs.reverse us.reverse := by
  induction h using VRs.rec (motive_1 := fun _ _ _ => True) (motive_3 := fun _ _ _ => True) with
  | nil => exact .nil
  | cons r t _ ih =>
    rw [List.reverse_cons, List.reverse_cons]
    exact ih.app (.cons r .nil)
  | _ => trivial
theorem VRs.er : ∀ {vs : List Val} {us : List V} (n : Nat), VRs K mg W vs us → VRs K mg W (vs.eraseIdx n) (us.eraseIdx n)
  | _, _, _, .nil => .nil
  | _, _, 0, .cons _ t => t
  | _, _, n + 1, .cons r t => .cons r (VRs.er n t)
theorem VRs.dl {vs : List Val} {us : List V} (h : VRs K mg W vs us) : VRs K mg W vs.dropLast us.dropLast := by
  rw [List.dropLast_eq_take, List.dropLast_eq_take, h.length]
  exact h.tk _
theorem ofString_inj {s t : String} : Str.ofString s = Str.ofString t ↔ s = t := by
  constructor
  · intro h
    rw [Str.ofString_eq_toList, Str.ofString_eq_toList] at h
    have h1 : (s.toList.map Char.toNat) = (t.toList.map Char.toNat) := by simpa using h
    have h2 : s.toList = t.toList := by
      have inj : ∀ {l m : List Char}, l.map Char.toNat = m.map Char.toNat → l = m := by
        intro l
        induction l with
        | nil =>
          intro m q
          cases m with
          | nil => rfl
          | cons _ _ => simp at q
        | cons a l ih =>
          intro m q
          cases m with
          | nil => simp at q
          | cons b m =>
            simp only [List.map_cons, List.cons.injEq] at q
            have e : a = b := Char.ext (UInt32.toNat_inj.mp q.1)
            rw [e, ih q.2]
      exact inj h1
    exact String.toList_inj.mp h2
  · intro h
    rw [h]
theorem VRf.look : ∀ {vs : List (String × Val)} {us : List (Str × V)} (f : String), VRf K mg W vs us → (∀ v, vs.lookup f = some v → ∃ u, us.lookup (Str.ofString f) = some u ∧ VR K mg W v u) ∧ (vs.lookup f = none → us.lookup (Str.ofString f) = none)
  | _, _, f, .nil => ⟨fun _ h => by simp at h, fun _ => rfl⟩
  | _, _, f, .cons (x := x) (v := v) (u := u) (vs := vs) (us := us) h t => by
    have ih := VRf.look f t
    by_cases e : f = x
    · subst e
      refine ⟨fun v' h' => ?_, fun h' => ?_⟩
      · rw [List.lookup_cons_self] at h'
        cases h'
        exact ⟨u, by rw [List.lookup_cons_self], h⟩
      · rw [List.lookup_cons_self] at h'
        cases h'
    · have e1 : (f == x) = false := beq_eq_false_iff_ne.mpr e
      have e2 : (Str.ofString f == Str.ofString x) = false := beq_eq_false_iff_ne.mpr fun q => e (ofString_inj.mp q)
      rw [List.lookup_cons, List.lookup_cons, e1, e2]
      exact ih
theorem VRf.length : ∀ {vs : List (String × Val)} {us : List (Str × V)}, VRf K mg W vs us → vs.length = us.length
  | _, _, .nil => rfl
  | _, _, .cons _ t => congrArg Nat.succ (VRf.length t)
theorem VRf.put {v : Val} {u : V} (r : VR K mg W v u) : ∀ {vs : List (String × Val)} {us : List (Str × V)} (f : String), VRf K mg W vs us → VRf K mg W (putS f v vs) (putF (Str.ofString f) u us)
  | _, _, f, .nil => .cons r .nil
  | _, _, f, .cons (x := x) (v := v') (u := u') (vs := vs) (us := us) h t => by
    by_cases e : x = f
    · subst e
      show VRf K mg W (if x = x then (x, v) :: vs else _) (if Str.ofString x = Str.ofString x then (Str.ofString x, u) :: us else _)
      rw [if_pos rfl, if_pos rfl]
      exact .cons r t
    · show VRf K mg W (if x = f then _ else (x, v') :: putS f v vs) (if Str.ofString x = Str.ofString f then _ else (Str.ofString x, u') :: putF (Str.ofString f) u us)
      rw [if_neg e, if_neg fun q => e (ofString_inj.mp q)]
      exact .cons h (VRf.put r f t)
end

/-! ### the store and the heap -/
def kS : Sum Int String → Key
  | .inl i => .inl i
  | .inr s => .inr (Str.ofString s)
section
variable (K : PySem.W.Frag) (mg : Str → Option Value)
inductive KR (W : Wd) : List (Sum Int String × Val) → List (Key × V) → Prop
  | nil : KR W [] []
  | cons {k : Sum Int String} {v : Val} {u : V} {vs : List (Sum Int String × Val)} {us : List (Key × V)} (h : VR K mg W v u) (t : KR W vs us) : KR W ((k, v) :: vs) ((kS k, u) :: us)
inductive KRT (W : Wd) : List (List (Sum Int String) × Val) → List (List Key × V) → Prop
  | nil : KRT W [] []
  | cons {k : List (Sum Int String)} {v : Val} {u : V} {vs : List (List (Sum Int String) × Val)} {us : List (List Key × V)} (h : VR K mg W v u) (t : KRT W vs us) : KRT W ((k, v) :: vs) ((k.map kS, u) :: us)
/-- a cell and what lies at its address -/
inductive CR (W : Wd) : Cell → HO → Prop
  | lst {vs : List Val} {us : List V} (q : VRs K mg W vs us) : CR W (.lst vs) (.lst us)
  | dK {vs : List (Sum Int String × Val)} {us : List (Key × V)} (q : KR K mg W vs us) : CR W (.dK vs) (.dK us)
  | dT {vs : List (List (Sum Int String) × Val)} {us : List (List Key × V)} (q : KRT K mg W vs us) : CR W (.dT vs) (.dT us)
  | ins {c : String} {C dx : Addr} {fs : List (String × Val)} {us : List (Str × V)} (hc : mg (Str.ofString c) = some (.ref C)) (q : VRf K mg W fs us) : CR W (.ins c fs) (.ins C dx us)
structure Rel (W : Wd) (S : Sto) (H : Hp) : Prop where
  fz : ∀ a o, W.F a = some o → H a = some o
  lv : ∀ n c, S[n]? = some c → ∃ a o, W.r n = some a ∧ H a = some o ∧ CR K mg W c o
  df : ∀ n a, W.r n = some a → n < S.length
  inj : ∀ n m a, W.r n = some a → W.r m = some a → n = m
  sep : ∀ n a, W.r n = some a → W.F a = none
structure ER (W : Wd) (env : Env') (σ : L2.St) : Prop where
  len : env.length = σ.length
  get : ∀ (i : Nat) v, env[i]? = some (some v) → ∃ u, σ[i]? = some (some u) ∧ VR K mg W v u
end
/-- what stays from one state to a later one -/
structure Ext (W : Wd) (H : Hp) (W' : Wd) (H' : Hp) : Prop where
  le : Le W W'
  k : ∀ a o, H a = some o → ¬ Own W a → H' a = some o ∧ ¬ Own W' a
theorem Ext.refl (W : Wd) (H : Hp) : Ext W H W H := ⟨Le.refl W, fun _ _ h n => ⟨h, n⟩⟩
theorem Ext.trans {W W1 W2 : Wd} {H H1 H2 : Hp} (a : Ext W H W1 H1) (b : Ext W1 H1 W2 H2) : Ext W H W2 H2 :=
  ⟨a.le.trans b.le, fun x o h n => let ⟨h1, n1⟩ := a.k x o h n; b.k x o h1 n1⟩

section
variable {K : PySem.W.Frag} {mg : Str → Option Value} {W W' : Wd} {S : Sto} {H H' : Hp}
theorem KR.le (l : Le W W') : ∀ {vs : List (Sum Int String × Val)} {us : List (Key × V)}, KR K mg W vs us → KR K mg W' vs us
  | _, _, .nil => .nil
  | _, _, .cons h t => .cons (h.le l) (KR.le l t)
theorem KRT.le (l : Le W W') : ∀ {vs : List (List (Sum Int String) × Val)} {us : List (List Key × V)}, KRT K mg W vs us → KRT K mg W' vs us
  | _, _, .nil => .nil
  | _, _, .cons h t => .cons (h.le l) (KRT.le l t)
theorem CR.le (l : Le W W') {c : Cell} {o : HO} (h : CR K mg W c o) : CR K mg W' c o := by
  cases h with
  | lst q => exact .lst (q.le l)
  | dK q => exact .dK (q.le l)
  | dT q => exact .dT (q.le l)
  | ins hc q => exact .ins hc (q.le l)
theorem ER.le (l : Le W W') {env : Env'} {σ : L2.St} (h : ER K mg W env σ) : ER K mg W' env σ :=
  ⟨h.len, fun i v e => let ⟨u, e1, r⟩ := h.get i v e; ⟨u, e1, r.le l⟩⟩
theorem ER.ext {env : Env'} {σ : L2.St} (h : ER K mg W env σ) (x : Ext W H W' H') : ER K mg W' env σ := h.le x.le
theorem ER.put {env : Env'} {σ : L2.St} (h : ER K mg W env σ) {i : Nat} {v : Val} {u : V} (r : VR K mg W v u) (hi : i < env.length) : ER K mg W (env.set i (some v)) (σ.set i (some u)) := by
  refine ⟨by rw [List.length_set, List.length_set, h.len], fun j w e => ?_⟩
  by_cases q : i = j
  · subst q
    rw [List.getElem?_set_self hi] at e
    cases e
    exact ⟨u, by rw [List.getElem?_set_self (h.len ▸ hi)], r⟩
  · rw [List.getElem?_set_ne q] at e
    rw [List.getElem?_set_ne q]
    exact h.get j w e
theorem ER.wipe {env : Env'} {σ : L2.St} (h : ER K mg W env σ) : ∀ own : List Nat, ER K mg W (wipeE env own) (wipe σ own)
  | [] => h
  | v :: vs => by
    have ih := ER.wipe h vs
    unfold wipeE L2.wipe
    refine ⟨by rw [List.length_set, List.length_set, ih.len], fun j w e => ?_⟩
    by_cases q : v = j
    · subst q
      by_cases hv : v < (wipeE env vs).length
      · rw [List.getElem?_set_self hv] at e
        cases e
      · rw [List.getElem?_eq_none (by simpa using hv)] at e
        cases e
    · rw [List.getElem?_set_ne q] at e
      rw [List.getElem?_set_ne q]
      exact ih.get j w e
theorem Rel.own (R : Rel K mg W S H) {a : Addr} (h : Own W a) : ∃ o, H a = some o := by
  rcases h with h | ⟨n, h⟩
  · cases e : W.F a with
    | none => exact absurd e h
    | some o => exact ⟨o, R.fz _ _ e⟩
  · obtain ⟨hn, _⟩ := List.getElem?_eq_some_iff.mp (List.getElem?_eq_getElem (R.df n a h))
    obtain ⟨a', o, h1, h2, _⟩ := R.lv n _ (List.getElem?_eq_getElem (R.df n a h))
    rw [h] at h1
    cases h1
    exact ⟨o, h2⟩
theorem Rel.notOwn (R : Rel K mg W S H) {a : Addr} (h : H a = none) : ¬ Own W a := fun q => by
  obtain ⟨o, e⟩ := R.own q
  rw [h] at e
  cases e
/-- the heap changes where nothing is owned -/
theorem Rel.out (R : Rel K mg W S H) (h : ∀ a, Own W a → H' a = H a) : Rel K mg W S H' := by
  refine ⟨fun a o e => ?_, fun n c e => ?_, R.df, R.inj, R.sep⟩
  · rw [h a (.inl (by rw [e]; exact fun z => nomatch z))]
    exact R.fz a o e
  · obtain ⟨a, o, h1, h2, h3⟩ := R.lv n c e
    exact ⟨a, o, h1, by rw [h a (.inr ⟨n, h1⟩)]; exact h2, h3⟩
theorem Rel.updOut (R : Rel K mg W S H) {p : Addr} {o : HO} (h : ¬ Own W p) : Rel K mg W S (upd H p o) := R.out fun a ha => by
  by_cases e : a = p
  · subst e
    exact absurd ha h
  · exact upd_ne e
/-- a new object, frozen -/
def Wd.fr (W : Wd) (p : Addr) (o : HO) : Wd := ⟨upd W.F p o, W.r⟩
theorem Rel.newF (R : Rel K mg W S H) {p : Addr} (o : HO) (h : H p = none) : Rel K mg (W.fr p o) S (upd H p o) ∧ Ext W H (W.fr p o) (upd H p o) := by
  have nO := R.notOwn h
  have nF : W.F p = none := by
    cases e : W.F p with
    | none => rfl
    | some x => exact absurd (.inl (by rw [e]; exact fun z => nomatch z)) nO
  have l : Le W (W.fr p o) := ⟨fun a x e => by
    show upd W.F p o a = some x
    rw [upd_ne (ne_of_none e nF)]
    exact e, fun _ _ e => e⟩
  refine ⟨⟨fun a x e => ?_, fun n c e => ?_, R.df, R.inj, fun n a e => ?_⟩, ⟨l, fun a x e n => ⟨?_, fun q => ?_⟩⟩⟩
  · by_cases q : a = p
    · subst q
      have e : upd W.F a o a = some x := e
      rw [upd_same] at e ⊢
      exact e
    · have e : upd W.F p o a = some x := e
      rw [upd_ne q] at e ⊢
      exact R.fz a x e
  · obtain ⟨a, x, h1, h2, h3⟩ := R.lv n c e
    exact ⟨a, x, h1, by rw [upd_ne (ne_of_none h2 h)]; exact h2, h3.le l⟩
  · show upd W.F p o a = none
    rw [upd_ne fun q => nO (.inr ⟨n, by rw [← q]; exact e⟩)]
    exact R.sep n a e
  · rw [upd_ne (ne_of_none e h)]
    exact e
  · have ne : a ≠ p := ne_of_none e h
    refine n ?_
    rcases q with q | q
    · refine .inl fun z => q ?_
      show upd W.F p o a = none
      rw [upd_ne ne]
      exact z
    · exact .inr q
theorem fr_at {p : Addr} {o : HO} : (W.fr p o).F p = some o := upd_same
/-- a new object, a place of the store -/
def Wd.pl (W : Wd) (n : Nat) (p : Addr) : Wd := ⟨W.F, fun m => if m = n then some p else W.r m⟩
theorem pl_at {n : Nat} {p : Addr} : (W.pl n p).r n = some p := if_pos rfl
theorem Rel.newM (R : Rel K mg W S H) {p : Addr} {o : HO} {c : Cell} (h : H p = none) (q : CR K mg W c o) : Rel K mg (W.pl S.length p) (S ++ [c]) (upd H p o) ∧ Ext W H (W.pl S.length p) (upd H p o) := by
  have nO := R.notOwn h
  have l : Le W (W.pl S.length p) := ⟨fun _ _ e => e, fun n a e => by
    show (if n = S.length then some p else W.r n) = some a
    rw [if_neg (Nat.ne_of_lt (R.df n a e))]
    exact e⟩
  have at_ : ∀ n a, (W.pl S.length p).r n = some a → (n = S.length ∧ a = p) ∨ (n < S.length ∧ W.r n = some a) := fun n a e => by
    have e : (if n = S.length then some p else W.r n) = some a := e
    by_cases z : n = S.length
    · rw [if_pos z] at e
      cases e
      exact .inl ⟨z, rfl⟩
    · rw [if_neg z] at e
      exact .inr ⟨R.df n a e, e⟩
  refine ⟨⟨fun a x e => ?_, fun n c' e => ?_, fun n a e => ?_, fun n m a e1 e2 => ?_, fun n a e => ?_⟩, ⟨l, fun a x e n => ⟨?_, fun q => ?_⟩⟩⟩
  · rw [upd_ne (ne_of_none (R.fz a x e) h)]
    exact R.fz a x e
  · by_cases z : n < S.length
    · rw [List.getElem?_append_left z] at e
      obtain ⟨a, x, h1, h2, h3⟩ := R.lv n c' e
      exact ⟨a, x, l.r _ _ h1, by rw [upd_ne (ne_of_none h2 h)]; exact h2, h3.le l⟩
    · have hn : n = S.length := by
        obtain ⟨z2, _⟩ := List.getElem?_eq_some_iff.mp e
        rw [List.length_append, List.length_singleton] at z2
        omega
      subst hn
      rw [List.getElem?_append_right (Nat.le_refl _), Nat.sub_self] at e
      have e : some c = some c' := e
      cases e
      exact ⟨p, o, pl_at, upd_same, q.le l⟩
  · rw [List.length_append, List.length_singleton]
    rcases at_ n a e with ⟨z, _⟩ | ⟨z, _⟩ <;> omega
  · rcases at_ n a e1 with ⟨z1, y1⟩ | ⟨z1, y1⟩ <;> rcases at_ m a e2 with ⟨z2, y2⟩ | ⟨z2, y2⟩
    · rw [z1, z2]
    · exact absurd (.inr ⟨m, by rw [← y1]; exact y2⟩) nO
    · exact absurd (.inr ⟨n, by rw [← y2]; exact y1⟩) nO
    · exact R.inj n m a y1 y2
  · rcases at_ n a e with ⟨z, y⟩ | ⟨z, y⟩
    · subst y
      cases g : W.F a with
      | none => exact g
      | some x => exact absurd (.inl (by rw [g]; exact fun z => nomatch z)) nO
    · exact R.sep n a y
  · rw [upd_ne (ne_of_none e h)]
    exact e
  · rcases q with q | ⟨m, q⟩
    · exact n (.inl q)
    · rcases at_ m a q with ⟨z, y⟩ | ⟨z, y⟩
      · exact ne_of_none e h y
      · exact n (.inr ⟨m, y⟩)
/-- a place is written -/
theorem Rel.write (R : Rel K mg W S H) {n : Nat} {a : Addr} {o : HO} {c : Cell} (h : W.r n = some a) (q : CR K mg W c o) : Rel K mg W (S.set n c) (upd H a o) ∧ Ext W H W (upd H a o) := by
  have hn := R.df n a h
  refine ⟨⟨fun b x e => ?_, fun m c' e => ?_, fun m b e => by rw [List.length_set]; exact R.df m b e, R.inj, R.sep⟩, ⟨Le.refl W, fun b x e z => ⟨?_, z⟩⟩⟩
  · have ne : b ≠ a := fun z => by
      have y := R.sep n a h
      rw [← z, e] at y
      cases y
    rw [upd_ne ne]
    exact R.fz b x e
  · by_cases z : n = m
    · subst z
      rw [List.getElem?_set_self hn] at e
      cases e
      exact ⟨a, o, h, upd_same, q⟩
    · rw [List.getElem?_set_ne z] at e
      obtain ⟨b, x, h1, h2, h3⟩ := R.lv m c' e
      exact ⟨b, x, h1, by rw [upd_ne fun y => z (R.inj n m a h (by rw [← y]; exact h1))]; exact h2, h3⟩
  · rw [upd_ne fun y => z (.inr ⟨n, by rw [y]; exact h⟩)]
    exact e
theorem Rel.cell (R : Rel K mg W S H) {n : Nat} {a : Addr} (h : W.r n = some a) : ∃ c o, S[n]? = some c ∧ H a = some o ∧ CR K mg W c o := by
  obtain ⟨a', o, h1, h2, h3⟩ := R.lv n _ (List.getElem?_eq_getElem (R.df n a h))
  rw [h] at h1
  cases h1
  exact ⟨_, o, List.getElem?_eq_getElem (R.df n a h), h2, h3⟩
theorem Rel.cellAt (R : Rel K mg W S H) {n : Nat} {a : Addr} {c : Cell} (h : W.r n = some a) (e : S[n]? = some c) : ∃ o, H a = some o ∧ CR K mg W c o := by
  obtain ⟨c', o, e', h2, h3⟩ := R.cell h
  rw [e] at e'
  cases e'
  exact ⟨o, h2, h3⟩
theorem Rel.seqL (R : Rel K mg W S H) {v : Val} {u : V} {vs : List Val} (r : VR K mg W v u) (e : lstOf S v = some vs) : ∃ a us, u = .ref a ∧ SqL K H a us ∧ VRs K mg W vs us := by
  cases r with
  | lst h q =>
    cases e
    exact ⟨_, _, rfl, SqL.of (R.fz _ _ h), q⟩
  | lsk h q =>
    cases e
    exact ⟨_, _, rfl, sqL_hp R.fz h, q⟩
  | @ref n a h =>
    obtain ⟨c, o, e1, h2, h3⟩ := R.cell h
    dsimp only [lstOf] at e
    rw [e1] at e
    cases h3 with
    | lst q =>
      cases e
      exact ⟨_, _, rfl, SqL.of h2, q⟩
    | _ => cases e
  | _ => cases e
theorem Rel.seqM (R : Rel K mg W S H) {v : Val} {u : V} {vs : List Val} (r : VR K mg W v u) (e : lstM S v = some vs) : ∃ a us, u = .ref a ∧ H a = some (.lst us) ∧ VRs K mg W vs us := by
  cases r with
  | lst h q =>
    cases e
    exact ⟨_, _, rfl, R.fz _ _ h, q⟩
  | @ref n a h =>
    obtain ⟨c, o, e1, h2, h3⟩ := R.cell h
    dsimp only [lstM] at e
    rw [e1] at e
    cases h3 with
    | lst q =>
      cases e
      exact ⟨_, _, rfl, h2, q⟩
    | _ => cases e
  | _ => cases e
theorem Rel.seq (R : Rel K mg W S H) {v : Val} {u : V} {vs : List Val} (r : VR K mg W v u) (e : seqOf S v = some vs) : ∃ a us, u = .ref a ∧ (SqL K H a us ∨ SqT K H a us) ∧ VRs K mg W vs us := by
  cases r with
  | lst h q =>
    cases e
    exact ⟨_, _, rfl, .inl (SqL.of (R.fz _ _ h)), q⟩
  | lsk h q =>
    cases e
    exact ⟨_, _, rfl, .inl (sqL_hp R.fz h), q⟩
  | tup h q =>
    cases e
    exact ⟨_, _, rfl, .inr (SqT.of (R.fz _ _ h)), q⟩
  | tpk h q =>
    cases e
    exact ⟨_, _, rfl, .inr (sqT_hp R.fz h), q⟩
  | @ref n a h =>
    obtain ⟨c, o, e1, h2, h3⟩ := R.cell h
    dsimp only [seqOf] at e
    rw [e1] at e
    cases h3 with
    | lst q =>
      cases e
      exact ⟨_, _, rfl, .inl (SqL.of h2), q⟩
    | _ => cases e
  | _ => cases e
theorem VRs.ints : ∀ {vs : List Val} {us : List V} {ns : List Int}, VRs K mg W vs us → intsOf vs = some ns → us = ns.map V.int
  | _, _, _, .nil, e => by cases e; rfl
  | _, _, _, .cons (v := v) (vs := vs) h t, e => by
    cases h with
    | int i =>
      have e : (intsOf vs).map (i :: ·) = some _ := e
      cases q : intsOf vs with
      | none => rw [q] at e; cases e
      | some ms =>
        rw [q] at e
        cases e
        rw [List.map_cons, VRs.ints t q]
    | _ => cases e
end
end Mi

namespace Mi
open PySem PySem.Spec PyProof.Rows L2
open Classical

def BOp.py : BOp → Operator
  | .add => .Add | .sub => .Sub | .mul => .Mult | .fdiv => .FloorDiv | .mod => .Mod | .pow => .Pow | .xor => .BitXor | .shl => .LShift | .shr => .RShift
def COp.py : COp → CmpOp
  | .eq => .Eq | .ne => .NotEq | .lt => .Lt | .le => .LtE | .gt => .Gt | .ge => .GtE | .is_ => .Is | .isn => .IsNot | .in_ => .In | .nin => .NotIn
section
variable {K : PySem.W.Frag} {mg : Str → Option Value} {W W' : Wd} {S : Sto} {H H' : Hp}
/-- what follows a value, in the interpreter's words -/
def Post (K : PySem.W.Frag) (mg : Str → Option Value) (W : Wd) (H : Hp) (S' : Sto) (v : Val) (Q : VK) : Prop :=
  ∀ W' H' u, Ext W H W' H' → Rel K mg W' S' H' → VR K mg W' v u → Q u H'
theorem Post.here {Q : VK} {v : Val} {u : V} (p : Post K mg W H S v Q) (R : Rel K mg W S H) (r : VR K mg W v u) : Q u H := p W H u (Ext.refl W H) R r
theorem Post.newT {Q : VK} {vs : List Val} {us : List V} (p : Post K mg W H S (.tup vs) Q) (R : Rel K mg W S H) (r : VRs K mg W vs us) : ∀ a, H a = none → Q (.ref a) (upd H a (.tup us)) := fun a ha => by
  obtain ⟨R2, x⟩ := R.newF (.tup us) ha
  exact p _ _ _ x R2 (.tup fr_at (r.le x.le))
theorem Post.newL {Q : VK} {vs : List Val} {us : List V} (p : Post K mg W H S (.lst vs) Q) (R : Rel K mg W S H) (r : VRs K mg W vs us) : ∀ a, H a = none → Q (.ref a) (upd H a (.lst us)) := fun a ha => by
  obtain ⟨R2, x⟩ := R.newF (.lst us) ha
  exact p _ _ _ x R2 (.lst fr_at (r.le x.le))
/-- two values and an operation's answer -/
def rB (K : PySem.W.Frag) (mg : Str → Option Value) (o : BOp) : R2 := fun x y H Q => ∃ W S a b v, Rel K mg W S H ∧ VR K mg W a x ∧ VR K mg W b y ∧ binV o S a b = some v ∧ Post K mg W H S v Q
def rC (K : PySem.W.Frag) (mg : Str → Option Value) (o : COp) : R2 := fun x y H Q => ∃ W S a b k, Rel K mg W S H ∧ VR K mg W a x ∧ VR K mg W b y ∧ cmp2 o S a b = some k ∧ Q (.bl k) H
end

section
variable {X : Cx}
theorem op_int2 {o : BOp} {pins : List (Addr × Obj)} {s : Shared} {σ : L2.St} {H : Hp} {i j : Int} {v u : Value} {z : Val} {Q : VK} (I : Inv X pins σ H s) (rx : RelV (.int i) v) (ry : RelV (.int j) u)
    (h : int2 o i j = some z) (q : ∀ k, z = .int k → Q (.int k) H) : wpAny (model X.prog X.w) X.A (binaryOp o.py v u) (EP X pins σ Q) X.xe s := by
  cases o with
  | add =>
    cases h
    exact op_add pins s σ H _ _ v u Q I rx ry ⟨i, j, rfl, rfl, q _ rfl⟩
  | sub =>
    cases h
    exact op_sub pins s σ H _ _ v u Q I rx ry ⟨i, j, rfl, rfl, q _ rfl⟩
  | mul =>
    dsimp only [int2] at h
    split at h
    · cases h
      rename_i c
      exact op_mul pins s σ H _ _ v u Q I rx ry ⟨i, j, rfl, rfl, c, q _ rfl⟩
    · cases h
  | fdiv =>
    dsimp only [int2] at h
    split at h
    · cases h
      rename_i c
      exact op_fdiv pins s σ H _ _ v u Q I rx ry ⟨i, j, rfl, rfl, c, q _ rfl⟩
    · cases h
  | mod =>
    dsimp only [int2] at h
    split at h
    · cases h
      rename_i c
      exact op_mod pins s σ H _ _ v u Q I rx ry ⟨i, j, rfl, rfl, c, q _ rfl⟩
    · cases h
  | pow =>
    dsimp only [int2] at h
    split at h
    · cases h
      rename_i c
      exact op_pow pins s σ H _ _ v u Q I rx ry ⟨i, j, rfl, rfl, c, q _ rfl⟩
    · cases h
  | xor =>
    cases h
    exact op_xor pins s σ H _ _ v u Q I rx ry ⟨i, j, rfl, rfl, q _ rfl⟩
  | shl =>
    dsimp only [int2] at h
    split at h
    · cases h
      rename_i c
      exact op_shl pins s σ H _ _ v u Q I rx ry ⟨i, j, rfl, rfl, c, q _ rfl⟩
    · cases h
  | shr =>
    dsimp only [int2] at h
    split at h
    · cases h
      rename_i c
      exact op_shr pins s σ H _ _ v u Q I rx ry ⟨i, j, rfl, rfl, c, q _ rfl⟩
    · cases h
theorem op_rep2 {o : BOp} {pins : List (Addr × Obj)} {s : Shared} {σ : L2.St} {H : Hp} {W : Wd} {S : Sto} {a z : Val} {x : V} {k : Int} {v u : Value} {Q : VK} (I : Inv X pins σ H s) (R : Rel X.K X.mg W S H) (ra : VR X.K X.mg W a x) (rx : RelV x v) (ry : RelV (.int k) u)
    (e : lstRep o S a k = some z) (p : Post X.K X.mg W H S z Q) : wpAny (model X.prog X.w) X.A (binaryOp o.py v u) (EP X pins σ Q) X.xe s := by
  unfold lstRep at e
  split at e
  · rename_i vs hm
    split at e
    · rename_i c
      cases e
      obtain ⟨l, us, rfl, hl, r⟩ := R.seqM ra hm
      exact op_rep pins s σ H _ _ v u Q I rx ry ⟨l, k, us, rfl, rfl, hl, c.1, c.2.1, by rw [← r.length]; exact c.2.2, p.newL R (r.rep _)⟩
    · cases e
  · cases e
theorem op_app2 {o : BOp} {pins : List (Addr × Obj)} {s : Shared} {σ : L2.St} {H : Hp} {W : Wd} {S : Sto} {a b z : Val} {x y : V} {v u : Value} {Q : VK} (I : Inv X pins σ H s) (R : Rel X.K X.mg W S H) (ra : VR X.K X.mg W a x) (rb : VR X.K X.mg W b y) (rx : RelV x v) (ry : RelV y u)
    (e : lstAdd o S a b = some z) (p : Post X.K X.mg W H S z Q) : wpAny (model X.prog X.w) X.A (binaryOp o.py v u) (EP X pins σ Q) X.xe s := by
  unfold lstAdd at e
  split at e
  · rename_i vs ws hm hn
    split at e
    · rename_i c
      cases e
      obtain ⟨l, us, rfl, hl, r⟩ := R.seqM ra hm
      obtain ⟨l2, us2, rfl, hl2, r2⟩ := R.seqM rb hn
      exact op_cat pins s σ H _ _ v u Q I rx ry ⟨l, l2, us, us2, rfl, rfl, hl, hl2, by rw [← r.length, ← r2.length]; exact c, p.newL R (r.app r2)⟩
    · cases e
  · cases e
theorem op_bin (o : BOp) : OpR X (binaryOp o.py) (rB X.K X.mg o) := by
  intro pins s σ H x y v u Q I rx ry h
  obtain ⟨W, S, a, b, z, R, ra, rb, e, p⟩ := h
  unfold binV at e
  split at e
  · rename_i i j
    cases ra
    cases rb
    refine op_int2 I rx ry e fun k ek => ?_
    subst ek
    exact p.here R (.int k)
  · rename_i vs ws
    cases ra with
    | @tup a _ us g1 q1 =>
      cases rb with
      | @tup b _ us2 g2 q2 =>
        have h1 := R.fz _ _ g1
        have h2 := R.fz _ _ g2
        unfold tupAdd at e
        split at e
        · split at e
          · rename_i c
            cases e
            refine op_catA pins s σ H _ _ v u Q I rx ry ⟨a, b, us, us2, rfl, rfl, SqT.of h1, SqT.of h2, by rw [← q1.length, ← q2.length]; exact c, fun z => ?_, fun _ z => ?_, fun _ _ => p.newT R (q1.app q2)⟩
            · subst z
              cases q1
              exact p.here R (.tup g2 q2)
            · subst z
              cases q2
              rw [List.append_nil] at p
              exact p.here R (.tup g1 q1)
          · cases e
        · cases e
  · cases rb
    exact op_rep2 I R ra rx ry e p
  · exact op_app2 I R ra rb rx ry e p

/-! ### comparisons -/
mutual
theorem dp_of {W : Wd} {H : Hp} (hf : ∀ a o, W.F a = some o → H a = some o) : ∀ {v : Val} {u : V} {d : PyData}, VR X.K X.mg W v u → toD v = some d → Dp X.K H u d
  | .non, _, _, .non, e => by cases e; exact .non
  | .bl b, _, _, .bl _, e => by cases e; exact .bl b
  | .int i, _, _, .int _, e => by cases e; exact .int i
  | .str s, _, _, .str _, e => by cases e; exact .str _
  | .tup vs, _, _, .tup h q, e => by
    unfold toD at e
    cases g : toDs vs with
    | none => rw [g] at e; cases e
    | some ds =>
      rw [g] at e
      cases e
      exact .tup (SqT.of (hf _ _ h)) (dps_of hf q g)
  | .tpk vs, _, _, .tpk h q, e => by
    unfold toD at e
    cases g : toDs vs with
    | none => rw [g] at e; cases e
    | some ds =>
      rw [g] at e
      cases e
      exact .tup (sqT_hp hf h) (dps_of hf q g)
  | .lst vs, _, _, .lst h q, e => by
    unfold toD at e
    cases g : toDs vs with
    | none => rw [g] at e; cases e
    | some ds =>
      rw [g] at e
      cases e
      exact .lst (SqL.of (hf _ _ h)) (dps_of hf q g)
  | .lsk vs, _, _, _, e => by unfold toD at e; cases e
  | .ref n, _, _, _, e => by unfold toD at e; cases e
  | .ins _ _, _, _, _, e => by unfold toD at e; cases e
  | .fn _, _, _, _, e => by unfold toD at e; cases e
theorem dps_of {W : Wd} {H : Hp} (hf : ∀ a o, W.F a = some o → H a = some o) : ∀ {vs : List Val} {us : List V} {ds : List PyData}, VRs X.K X.mg W vs us → toDs vs = some ds → DpAll X.K H us ds
  | [], _, _, .nil, e => by unfold toDs at e; cases e; exact .nil
  | v :: vs, _, _, .cons h t, e => by
    unfold toDs at e
    cases g : toD v with
    | none => rw [g] at e; cases e
    | some d =>
      cases g2 : toDs vs with
      | none => rw [g, g2] at e; cases e
      | some ds =>
        rw [g, g2] at e
        cases e
        exact .cons (dp_of hf h g) (dps_of hf t g2)
end
theorem dpS_of {W : Wd} {S : Sto} {H : Hp} (R : Rel X.K X.mg W S H) {v : Val} {u : V} {d : PyData} (r : VR X.K X.mg W v u) (e : toDS S v = some d) : Dp X.K H u d := by
  unfold toDS at e
  split at e
  · rename_i n
    cases r with
    | @ref _ a h =>
      obtain ⟨c, o, e1, h2, h3⟩ := R.cell h
      rw [e1] at e
      cases h3 with
      | @lst vs us q =>
        have e : (toDs vs).map PyData.list = some d := e
        cases g : toDs vs with
        | none => rw [g] at e; cases e
        | some ds =>
          rw [g] at e
          cases e
          exact .lst (SqL.of h2) (dps_of R.fz q g)
      | _ => cases e
  · exact dp_of R.fz r e
theorem fin_k {pins : List (Addr × Obj)} {σ : L2.St} {H : Hp} {s : Shared} {Q : VK} {k k' : Bool} (q : Q (.bl k) H) (e : k' = k) : Q (.bl k') H := by
  rw [e]
  exact q
theorem op_eqDS {pins : List (Addr × Obj)} {s : Shared} {σ : L2.St} {H : Hp} {W : Wd} {S : Sto} {a b : Val} {x y : V} {v u : Value} {Q : VK} {k : Bool} {n : Nat} (hr : Room n X.A) (I : Inv X pins σ H s) (R : Rel X.K X.mg W S H) (ra : VR X.K X.mg W a x) (rb : VR X.K X.mg W b y) (rx : RelV x v) (ry : RelV y u)
    (e : eqD S a b = some k) (q : Q (.bl k) H) : wpAny (model X.prog X.w) X.A (compareOp .Eq v u) (EP X pins σ Q) X.xe s := by
  unfold eqD at e
  split at e
  · rename_i d d' h1 h2
    split at e
    · rename_i c
      cases e
      exact op_eqD hr.units pins s σ H x y v u Q I rx ry ⟨d, d', dpS_of R ra h1, dpS_of R rb h2, c.1, c.2, q⟩
    · cases e
  · cases e
theorem op_neDS {pins : List (Addr × Obj)} {s : Shared} {σ : L2.St} {H : Hp} {W : Wd} {S : Sto} {a b : Val} {x y : V} {v u : Value} {Q : VK} {k : Bool} {n : Nat} (hr : Room n X.A) (I : Inv X pins σ H s) (R : Rel X.K X.mg W S H) (ra : VR X.K X.mg W a x) (rb : VR X.K X.mg W b y) (rx : RelV x v) (ry : RelV y u)
    (e : eqD S a b = some k) (q : Q (.bl (!k)) H) : wpAny (model X.prog X.w) X.A (compareOp .NotEq v u) (EP X pins σ Q) X.xe s := by
  unfold eqD at e
  split at e
  · rename_i d d' h1 h2
    split at e
    · rename_i c
      cases e
      exact op_neD hr.units pins s σ H x y v u Q I rx ry ⟨d, d', dpS_of R ra h1, dpS_of R rb h2, c.1, c.2, q⟩
    · cases e
  · cases e
theorem scal_of {S : Sto} {a b : Val} {x y : V} {W : Wd} {k : Bool} (ra : VR X.K X.mg W a x) (rb : VR X.K X.mg W b y) (e : cmpEq S a b = some k) : (scal x y = true ∧ decide (x = y) = k) ∨ eqD S a b = some k := by
  unfold cmpEq at e
  split at e
  all_goals first
    | exact .inr e
    | (cases e; cases ra; cases rb; refine .inl ⟨rfl, ?_⟩; simp; done)
    | (cases e; cases ra; cases rb; refine .inl ⟨rfl, ?_⟩; rw [Bool.eq_iff_iff]; simp; exact ofString_inj)
theorem op_cmpEq {pins : List (Addr × Obj)} {s : Shared} {σ : L2.St} {H : Hp} {W : Wd} {S : Sto} {a b : Val} {x y : V} {v u : Value} {Q : VK} {k : Bool} {n : Nat} (hr : Room n X.A) (I : Inv X pins σ H s) (R : Rel X.K X.mg W S H) (ra : VR X.K X.mg W a x) (rb : VR X.K X.mg W b y) (rx : RelV x v) (ry : RelV y u)
    (e : cmpEq S a b = some k) (q : Q (.bl k) H) : wpAny (model X.prog X.w) X.A (compareOp .Eq v u) (EP X pins σ Q) X.xe s := by
  rcases scal_of ra rb e with ⟨h1, h2⟩ | h
  · exact op_eq pins s σ H x y v u Q I rx ry ⟨h1, by rw [h2]; exact q⟩
  · exact op_eqDS hr I R ra rb rx ry h q
theorem op_cmpNe {pins : List (Addr × Obj)} {s : Shared} {σ : L2.St} {H : Hp} {W : Wd} {S : Sto} {a b : Val} {x y : V} {v u : Value} {Q : VK} {k : Bool} {n : Nat} (hr : Room n X.A) (I : Inv X pins σ H s) (R : Rel X.K X.mg W S H) (ra : VR X.K X.mg W a x) (rb : VR X.K X.mg W b y) (rx : RelV x v) (ry : RelV y u)
    (e : cmpEq S a b = some k) (q : Q (.bl (!k)) H) : wpAny (model X.prog X.w) X.A (compareOp .NotEq v u) (EP X pins σ Q) X.xe s := by
  rcases scal_of ra rb e with ⟨h1, h2⟩ | h
  · exact op_ne pins s σ H x y v u Q I rx ry ⟨h1, by rw [h2]; exact q⟩
  · exact op_neDS hr I R ra rb rx ry h q

/-! ### in -/
theorem flat_of {W : Wd} {v : Val} {u : V} (r : VR X.K X.mg W v u) (f : flat v = true) : flatV u = true := by
  cases r <;> first | rfl | cases f
theorem flats_of {W : Wd} : ∀ {vs : List Val} {us : List V}, VRs X.K X.mg W vs us → vs.all flat = true → us.all flatV = true
  | _, _, .nil, _ => rfl
  | _, _, .cons h t, f => by
    rw [List.all_cons, Bool.and_eq_true] at f ⊢
    exact ⟨flat_of h f.1, flats_of t f.2⟩
theorem flatEq_of {W : Wd} {a b : Val} {x y : V} (ra : VR X.K X.mg W a x) (rb : VR X.K X.mg W b y) (fa : flat a = true) (fb : flat b = true) : eqV x y = flatEq a b := by
  cases ra with
  | int i =>
    cases rb with
    | int j =>
      show (i == j) = decide (i = j)
      rw [Bool.eq_iff_iff]
      simp
    | str s => rfl
    | _ => cases fb
  | str s =>
    cases rb with
    | int j => rfl
    | str t =>
      show (Str.ofString s == Str.ofString t) = decide (s = t)
      rw [Bool.eq_iff_iff]
      simp only [beq_iff_eq, decide_eq_true_eq]
      exact ofString_inj
    | _ => cases fb
  | _ => cases fa
theorem inV_of {W : Wd} {x : Val} {u : V} (r : VR X.K X.mg W x u) (f : flat x = true) : ∀ {vs : List Val} {us : List V}, VRs X.K X.mg W vs us → vs.all flat = true → inV u us = vs.any fun y => flatEq y x
  | _, _, .nil, _ => rfl
  | _, _, .cons h t, g => by
    rw [List.all_cons, Bool.and_eq_true] at g
    unfold inV
    rw [List.any_cons, List.any_cons, flatEq_of h r g.1 f]
    exact congrArg _ (inV_of r f t g.2)
theorem op_memL {n : Nat} (hr : Room n X.A) {pins : List (Addr × Obj)} {s : Shared} {σ : L2.St} {H : Hp} {W : Wd} {x : Val} {vs : List Val} {u : V} {us : List V} {a : Addr} {v w : Value} {Q : VK} {k : Bool} (I : Inv X pins σ H s)
    (hf : ∀ a o, W.F a = some o → H a = some o) (r : VR X.K X.mg W x u) (t : VRs X.K X.mg W vs us) (hs : SqL X.K H a us ∨ SqT X.K H a us) (ru : RelV u v) (rw' : RelV (.ref a) w) (e : memL x vs = some k) :
    (Q (.bl k) H → wpAny (model X.prog X.w) X.A (compareOp .In v w) (EP X pins σ Q) X.xe s) ∧ (Q (.bl (!k)) H → wpAny (model X.prog X.w) X.A (compareOp .NotIn v w) (EP X pins σ Q) X.xe s) := by
  unfold memL at e
  split at e
  · rename_i c
    cases e
    have fu := flat_of r c.1
    have fus := flats_of t c.2
    have ei := inV_of r c.1 t c.2
    exact ⟨fun q => op_in_seq pins s σ H _ _ v w Q I ru rw' ⟨a, us, rfl, hs, fu, fus, by show Q (.bl (inV u us)) H; rw [ei]; exact q⟩,
      fun q => op_notIn_seq pins s σ H _ _ v w Q I ru rw' ⟨a, us, rfl, hs, fu, fus, by show Q (.bl (!inV u us)) H; rw [ei]; exact q⟩⟩
  · split at e
    · rename_i d ds h1 h2
      split at e
      · rename_i c
        cases e
        have hd := dp_of hf r h1
        have hds := dps_of hf t h2
        have hu : X.A.units + 65 < cLine := by have := hr.un; omega
        rcases hs with hs | hs
        · exact ⟨fun q => op_inD hu pins s σ H _ _ v w Q I ru rw' ⟨d, ds, hd, .lst hs hds, c.1, c.2, q⟩, fun q => op_notInD hu pins s σ H _ _ v w Q I ru rw' ⟨d, ds, hd, .lst hs hds, c.1, c.2, q⟩⟩
        · obtain ⟨as, r1⟩ := Dp.reads I d _ v hd ru
          obtain ⟨bs, r2⟩ := Dp.reads I (.tuple ds) _ w (.tup hs hds) rw'
          have hx : PyData.canLayAll0 ds = true := SeqAt.canLay_of_shaped c.2
          have hm := room_in_shaped (xs := ds) c.1 hu
          exact ⟨fun q => SeqAt.in_tuple_reads r2 r1 hx (SeqAt.canLay_of_shaped c.1) hm ⟨.bl _, H, I, rfl, q⟩, fun q => SeqAt.notIn_tuple_reads r2 r1 hx (SeqAt.canLay_of_shaped c.1) hm ⟨.bl _, H, I, rfl, q⟩⟩
      · cases e
    · cases e

theorem kS_inj {k j : Sum Int String} : kS k = kS j ↔ k = j := by
  cases k with
  | inl i => cases j with
    | inl j => exact ⟨fun h => by cases h; rfl, fun h => by cases h; rfl⟩
    | inr t => exact ⟨fun h => (nomatch h), fun h => (nomatch h)⟩
  | inr s => cases j with
    | inl j => exact ⟨fun h => (nomatch h), fun h => (nomatch h)⟩
    | inr t => exact ⟨fun h => by rw [ofString_inj.mp (Sum.inr.inj h)], fun h => by cases h; rfl⟩
theorem kSs_inj : ∀ {k j : List (Sum Int String)}, k.map kS = j.map kS ↔ k = j
  | [], [] => ⟨fun _ => rfl, fun _ => rfl⟩
  | [], _ :: _ => ⟨fun h => by simp at h, fun h => by cases h⟩
  | _ :: _, [] => ⟨fun h => by simp at h, fun h => by cases h⟩
  | a :: k, b :: j => by
    rw [List.map_cons, List.map_cons]
    constructor
    · intro h
      obtain ⟨h1, h2⟩ := List.cons.inj h
      rw [kS_inj.mp h1, kSs_inj.mp h2]
    · intro h
      cases h
      rfl
theorem getK_pos {κ : Type} [DecidableEq κ] {k : κ} {v : Val} {r : List (κ × Val)} : getK ((k, v) :: r) k = some v := by
  unfold getK
  rw [List.find?_cons, decide_eq_true rfl]
  rfl
theorem getK_neg {κ : Type} [DecidableEq κ] {j k : κ} {v : Val} {r : List (κ × Val)} (e : ¬ j = k) : getK ((j, v) :: r) k = getK r k := by
  unfold getK
  rw [List.find?_cons, decide_eq_false (show ¬ ((j, v) : κ × Val).1 = k from e)]
def OR (K : PySem.W.Frag) (mg : Str → Option Value) (W : Wd) : Option Val → Option V → Prop
  | some v, some u => VR K mg W v u
  | none, none => True
  | _, _ => False
theorem KR.get {W : Wd} {K : PySem.W.Frag} {mg : Str → Option Value} (k : Sum Int String) : ∀ {vs : List (Sum Int String × Val)} {us : List (Key × V)}, KR K mg W vs us → OR K mg W (getK vs k) (valV us (kS k))
  | _, _, .nil => True.intro
  | _, _, .cons (k := j) (v := v) (u := u) (vs := vs) (us := us) h t => by
    have ih := KR.get k t
    by_cases e : j = k
    · subst e
      rw [valV_pos (p := (kS j, u)) rfl, getK_pos]
      exact h
    · rw [valV_neg (p := (kS j, u)) (fun z => e (kS_inj.mp z)), getK_neg e]
      exact ih
theorem KRT.get {W : Wd} {K : PySem.W.Frag} {mg : Str → Option Value} (k : List (Sum Int String)) : ∀ {vs : List (List (Sum Int String) × Val)} {us : List (List Key × V)}, KRT K mg W vs us → OR K mg W (getK vs k) (valV us (k.map kS))
  | _, _, .nil => True.intro
  | _, _, .cons (k := j) (v := v) (u := u) (vs := vs) (us := us) h t => by
    have ih := KRT.get k t
    by_cases e : j = k
    · subst e
      rw [valV_pos (p := (j.map kS, u)) rfl, getK_pos]
      exact h
    · rw [valV_neg (p := (j.map kS, u)) (fun z => e (kSs_inj.mp z)), getK_neg e]
      exact ih
theorem OR.isSome {W : Wd} {K : PySem.W.Frag} {mg : Str → Option Value} {o : Option Val} {p : Option V} (h : OR K mg W o p) : p.isSome = o.isSome := by
  cases o <;> cases p <;> first | rfl | exact h.elim
theorem keyK_of {W : Wd} {v : Val} {u : V} {k : Sum Int String} (r : VR X.K X.mg W v u) (e : keyK v = some k) : u = kV (kS k) := by
  cases r <;> first | (cases e; rfl) | cases e
theorem keysK_of {W : Wd} : ∀ {vs : List Val} {us : List V} {ks : List (Sum Int String)}, VRs X.K X.mg W vs us → keysK vs = some ks → us = (ks.map kS).map kV
  | _, _, _, .nil, e => by cases e; rfl
  | _, _, _, .cons (v := v) (vs := vs) h t, e => by
    unfold keysK at e
    split at e
    · rename_i k ks h1 h2
      cases e
      rw [List.map_cons, List.map_cons, keyK_of h h1, ← keysK_of t h2]
    · cases e
theorem keyT_of {W : Wd} {S : Sto} {H : Hp} (R : Rel X.K X.mg W S H) {v : Val} {u : V} {k : List (Sum Int String)} (r : VR X.K X.mg W v u) (e : keyT v = some k) : ∃ b, u = .ref b ∧ H b = some (.tup ((k.map kS).map kV)) := by
  unfold keyT at e
  split at e
  · cases r with
    | tup h q => exact ⟨_, rfl, by rw [R.fz _ _ h, keysK_of q e]⟩
  · cases e
theorem op_mem {n : Nat} (hr : Room n X.A) {pins : List (Addr × Obj)} {s : Shared} {σ : L2.St} {H : Hp} {W : Wd} {S : Sto} {x y : Val} {u u2 : V} {v w : Value} {Q : VK} {k : Bool} (I : Inv X pins σ H s)
    (R : Rel X.K X.mg W S H) (r : VR X.K X.mg W x u) (r2 : VR X.K X.mg W y u2) (ru : RelV u v) (rw' : RelV u2 w) (e : memOf S x y = some k) :
    (Q (.bl k) H → wpAny (model X.prog X.w) X.A (compareOp .In v w) (EP X pins σ Q) X.xe s) ∧ (Q (.bl (!k)) H → wpAny (model X.prog X.w) X.A (compareOp .NotIn v w) (EP X pins σ Q) X.xe s) := by
  unfold memOf at e
  have hu : X.A.units + 1 < cLine := by have := hr.un; omega
  split at e
  · rename_i m
    cases r2 with
    | @ref _ a h =>
      obtain ⟨c, o, e1, h2, h3⟩ := R.cell h
      rw [e1] at e
      cases h3 with
      | lst q => exact op_memL hr I R.fz r q (.inl (SqL.of h2)) ru rw' e
      | @dK vs us q =>
        have e : (keyK x).map (fun k => (getK vs k).isSome) = some k := e
        obtain ⟨j, e2, e3⟩ := Option.map_eq_some_iff.mp e
        have g := q.get j
        have e4 : (valV us (kS j)).isSome = k := by rw [g.isSome, e3]
        have dg : DGet H a u (valV us (kS j)) := by
          rw [keyK_of r e2]
          exact DGet.k h2
        cases (show w = Value.ref a from rw')
        exact ⟨fun q => d_in hu I dg ru fun s3 I3 => ⟨.bl _, H, I3, rfl, by rw [e4]; exact q⟩, fun q => d_notIn hu I dg ru fun s3 I3 => ⟨.bl _, H, I3, rfl, by rw [e4]; exact q⟩⟩
      | @dT vs us q =>
        have e : (keyT x).map (fun k => (getK vs k).isSome) = some k := e
        obtain ⟨j, e2, e3⟩ := Option.map_eq_some_iff.mp e
        have g := q.get j
        have e4 : (valV us (j.map kS)).isSome = k := by rw [g.isSome, e3]
        obtain ⟨b, eb, hb⟩ := keyT_of R r e2
        have dg : DGet H a u (valV us (j.map kS)) := by
          rw [eb]
          exact DGet.t h2 hb
        cases (show w = Value.ref a from rw')
        exact ⟨fun q => d_in hu I dg ru fun s3 I3 => ⟨.bl _, H, I3, rfl, by rw [e4]; exact q⟩, fun q => d_notIn hu I dg ru fun s3 I3 => ⟨.bl _, H, I3, rfl, by rw [e4]; exact q⟩⟩
      | _ => cases e
  · cases r2 with
    | lst h q => exact op_memL hr I R.fz r q (.inl (SqL.of (R.fz _ _ h))) ru rw' e
  · cases r2 with
    | tup h q => exact op_memL hr I R.fz r q (.inr (SqT.of (R.fz _ _ h))) ru rw' e
  · cases r2 with
    | tpk h q => exact op_memL hr I R.fz r q (.inr (sqT_hp R.fz h)) ru rw' e
  · cases e
theorem isN_of {W : Wd} {a : Val} {x : V} (r : VR X.K X.mg W a x) : decide (x = V.non) = (match a with | .non => true | _ => false) := by
  cases r <;> rfl
/-- all comparisons -/
theorem op_cmp {n : Nat} (hr : Room n X.A) (o : COp) : OpR X (compareOp o.py) (rC X.K X.mg o) := by
  intro pins s σ H x y v u Q I rx ry h
  obtain ⟨W, S, a, b, k, R, ra, rb, e, p⟩ := h
  cases o with
  | eq => exact op_cmpEq hr I R ra rb rx ry e p
  | ne =>
    have e : (cmpEq S a b).map (!·) = some k := e
    obtain ⟨j, e2, e3⟩ := Option.map_eq_some_iff.mp e
    subst e3
    exact op_cmpNe hr I R ra rb rx ry e2 p
  | in_ => exact (op_mem hr I R ra rb rx ry e).1 p
  | nin =>
    have e : (memOf S a b).map (!·) = some k := e
    obtain ⟨j, e2, e3⟩ := Option.map_eq_some_iff.mp e
    subst e3
    exact (op_mem hr I R ra rb rx ry e2).2 p
  | lt =>
    dsimp only [cmp2] at e
    split at e
    · cases ra
      cases rb
      cases e
      exact op_lt pins s σ H _ _ v u Q I rx ry ⟨_, _, rfl, rfl, p⟩
    · cases e
  | le =>
    dsimp only [cmp2] at e
    split at e
    · cases ra
      cases rb
      cases e
      exact op_le pins s σ H _ _ v u Q I rx ry ⟨_, _, rfl, rfl, p⟩
    · cases e
  | gt =>
    dsimp only [cmp2] at e
    split at e
    · cases ra
      cases rb
      cases e
      exact op_gt pins s σ H _ _ v u Q I rx ry ⟨_, _, rfl, rfl, p⟩
    · cases e
  | ge =>
    dsimp only [cmp2] at e
    split at e
    · cases ra
      cases rb
      cases e
      exact op_ge pins s σ H _ _ v u Q I rx ry ⟨_, _, rfl, rfl, p⟩
    · cases e
  | is_ =>
    cases rb with
    | non =>
      refine op_isN pins s σ H _ _ v u Q I rx ry ⟨rfl, ?_⟩
      rw [isN_of ra]
      cases a <;> cases e <;> exact p
    | _ => cases e
  | isn =>
    cases rb with
    | non =>
      refine op_notN pins s σ H _ _ v u Q I rx ry ⟨rfl, ?_⟩
      rw [isN_of ra]
      cases a <;> cases e <;> exact p
    | _ => cases e
end
end Mi

namespace Mi
open PySem PySem.Spec PyProof.Rows L2
open Classical

def Bi.fv : Bi → Value
  | .len => .builtin "len" | .abs => .builtin "abs" | .int => .type "int" | .list => .type "list" | .tuple => .type "tuple"
  | .max => .builtin "max" | .min => .builtin "min" | .sum => .builtin "sum" | .maxd => .builtin "max" | .divmod => .builtin "divmod"
def Bi.nm : Bi → Str
  | .len => "len" | .abs => "abs" | .int => "int" | .list => "list" | .tuple => "tuple" | .max => "max" | .min => "min" | .sum => "sum" | .maxd => "max" | .divmod => "divmod"
def rBi (K : PySem.W.Frag) (mg : Str → Option Value) (b : Bi) : List V → Hp → VK → Prop := fun us H Q => ∃ W S vs v, Rel K mg W S H ∧ VRs K mg W vs us ∧ biN S b vs = some v ∧ Post K mg W H S v Q

theorem max_fold : ∀ (is : List Int) (i m : Int), m ∈ i :: is → (∀ y, y ∈ i :: is → y ≤ m) → m = is.foldl (fun m j => if j > m then j else m) i := by
  have key : ∀ (is : List Int) (i : Int), i ≤ is.foldl (fun m j => if j > m then j else m) i ∧ (∀ y ∈ is, y ≤ is.foldl (fun m j => if j > m then j else m) i) ∧ is.foldl (fun m j => if j > m then j else m) i ∈ i :: is := by
    intro is
    induction is with
    | nil =>
      intro i
      simp
    | cons a is ih =>
      intro i
      rw [List.foldl_cons]
      by_cases h : a > i
      · rw [if_pos h]
        obtain ⟨h1, h2, h3⟩ := ih a
        refine ⟨by omega, fun y hy => ?_, List.mem_cons_of_mem _ h3⟩
        rcases List.mem_cons.mp hy with rfl | hy
        · exact h1
        · exact h2 y hy
      · rw [if_neg h]
        obtain ⟨h1, h2, h3⟩ := ih i
        refine ⟨h1, fun y hy => ?_, ?_⟩
        · rcases List.mem_cons.mp hy with rfl | hy
          · omega
          · exact h2 y hy
        · rcases List.mem_cons.mp h3 with e | h3
          · rw [e]
            exact List.mem_cons_self
          · exact List.mem_cons_of_mem _ (List.mem_cons_of_mem _ h3)
  intro is i m hm hy
  obtain ⟨h1, h2, h3⟩ := key is i
  have a := hy _ h3
  have b : m ≤ is.foldl (fun m j => if j > m then j else m) i := by
    rcases List.mem_cons.mp hm with rfl | hm
    · exact h1
    · exact h2 m hm
  omega
theorem min_fold : ∀ (is : List Int) (i m : Int), m ∈ i :: is → (∀ y, y ∈ i :: is → m ≤ y) → m = is.foldl (fun m j => if j < m then j else m) i := by
  have key : ∀ (is : List Int) (i : Int), is.foldl (fun m j => if j < m then j else m) i ≤ i ∧ (∀ y ∈ is, is.foldl (fun m j => if j < m then j else m) i ≤ y) ∧ is.foldl (fun m j => if j < m then j else m) i ∈ i :: is := by
    intro is
    induction is with
    | nil =>
      intro i
      simp
    | cons a is ih =>
      intro i
      rw [List.foldl_cons]
      by_cases h : a < i
      · rw [if_pos h]
        obtain ⟨h1, h2, h3⟩ := ih a
        refine ⟨by omega, fun y hy => ?_, List.mem_cons_of_mem _ h3⟩
        rcases List.mem_cons.mp hy with rfl | hy
        · exact h1
        · exact h2 y hy
      · rw [if_neg h]
        obtain ⟨h1, h2, h3⟩ := ih i
        refine ⟨h1, fun y hy => ?_, ?_⟩
        · rcases List.mem_cons.mp hy with rfl | hy
          · omega
          · exact h2 y hy
        · rcases List.mem_cons.mp h3 with e | h3
          · rw [e]
            exact List.mem_cons_self
          · exact List.mem_cons_of_mem _ (List.mem_cons_of_mem _ h3)
  intro is i m hm hy
  obtain ⟨h1, h2, h3⟩ := key is i
  have a := hy _ h3
  have b : is.foldl (fun m j => if j < m then j else m) i ≤ m := by
    rcases List.mem_cons.mp hm with rfl | hm
    · exact h1
    · exact h2 m hm
  omega
section
variable {X : Cx}
theorem lst_ints {W : Wd} {S : Sto} {H : Hp} (R : Rel X.K X.mg W S H) {v : Val} {u : V} {ns : List Int} (r : VR X.K X.mg W v u) (e : (lstOf S v).bind intsOf = some ns) : ∃ a, u = .ref a ∧ SqL X.K H a (ns.map V.int) := by
  cases g : lstOf S v with
  | none => rw [g] at e; cases e
  | some vs =>
    rw [g] at e
    have e : intsOf vs = some ns := e
    obtain ⟨a, us, eu, hs, q⟩ := R.seqL r g
    rw [q.ints e] at hs
    exact ⟨a, eu, hs⟩
theorem len_of {W : Wd} {S : Sto} {H : Hp} (R : Rel X.K X.mg W S H) {v : Val} {u : V} {i : Int} (r : VR X.K X.mg W v u) (e : lenV S v = some i) : (∃ n : Nat, i = n ∧ LenV X.K u H n) ∨ ∃ a kvs, u = .ref a ∧ H a = some (.dK kvs) ∧ i = kvs.length := by
  cases r with
  | str s =>
    dsimp only [lenV] at e
    split at e
    · rename_i c
      cases e
      exact .inl ⟨_, rfl, c, rfl⟩
    · cases e
  | tup h q =>
    cases e
    exact .inl ⟨_, rfl, .inr ⟨_, SqT.of (R.fz _ _ h), q.length⟩⟩
  | tpk h q =>
    cases e
    exact .inl ⟨_, rfl, .inr ⟨_, sqT_hp R.fz h, q.length⟩⟩
  | lst h q =>
    cases e
    exact .inl ⟨_, rfl, .inl ⟨_, SqL.of (R.fz _ _ h), q.length⟩⟩
  | lsk h q =>
    cases e
    exact .inl ⟨_, rfl, .inl ⟨_, sqL_hp R.fz h, q.length⟩⟩
  | @ref n a h =>
    obtain ⟨c, o, e1, h2, h3⟩ := R.cell h
    dsimp only [lenV] at e
    rw [e1] at e
    cases h3 with
    | lst q =>
      cases e
      exact .inl ⟨_, rfl, .inl ⟨_, SqL.of h2, q.length⟩⟩
    | @dK vs us q =>
      cases e
      have l : ∀ {vs : List (Sum Int String × Val)} {us : List (Key × V)}, KR X.K X.mg W vs us → vs.length = us.length := by
        intro vs us q
        induction q with
        | nil => rfl
        | cons _ _ ih => exact congrArg Nat.succ ih
      exact .inr ⟨a, us, rfl, h2, by rw [l q]⟩
    | _ => cases e
  | _ => cases e
theorem vrs1 {W : Wd} {v : Val} {us : List V} (r : VRs X.K X.mg W [v] us) : ∃ u, us = [u] ∧ VR X.K X.mg W v u := by
  cases r with
  | cons h t =>
    cases t
    exact ⟨_, rfl, h⟩
theorem vrs2 {W : Wd} {v w : Val} {us : List V} (r : VRs X.K X.mg W [v, w] us) : ∃ u z, us = [u, z] ∧ VR X.K X.mg W v u ∧ VR X.K X.mg W w z := by
  cases r with
  | cons h t =>
    obtain ⟨z, e, hz⟩ := vrs1 t
    exact ⟨_, z, by rw [e], h, hz⟩
theorem call_bi (hc : X.calm = true) (b : Bi) (hb : b ≠ .maxd) : CallR X b.fv (rBi X.K X.mg b) := by
  intro pins s σ H xs us Q I rv h
  obtain ⟨W, S, vs, v, R, r, e, p⟩ := h
  unfold biN at e
  split at e
  · rename_i x
    obtain ⟨u, rfl, ru⟩ := vrs1 r
    cases b with
    | len =>
      have e : (lenV S x).map Val.int = some v := e
      obtain ⟨i, e1, e2⟩ := Option.map_eq_some_iff.mp e
      subst e2
      rcases len_of R ru e1 with ⟨n, rfl, hl⟩ | ⟨a, kvs, rfl, hd, rfl⟩
      · exact call_len pins s σ H _ us Q I rv ⟨u, n, rfl, hl, p.here R (.int _)⟩
      · exact call_lenD pins s σ H _ us Q I rv ⟨a, kvs, rfl, hd, p.here R (.int _)⟩
    | abs =>
      have e : absV' x = some v := e
      unfold absV' at e
      split at e
      · cases e
        cases ru
        exact call_abs pins s σ H _ us Q I rv ⟨_, rfl, p.here R (.int _)⟩
      · cases e
    | int =>
      have e : intV x = some v := e
      unfold intV at e
      split at e
      · cases e
        cases ru
        exact call_int1 pins s σ H _ us Q I rv (.inl ⟨_, rfl, p.here R (.int _)⟩)
      · cases e
        cases ru
        exact call_int1 pins s σ H _ us Q I rv (.inr ⟨_, rfl, p.here R (.int _)⟩)
      · cases e
    | list =>
      have e : (seqOf S x).map Val.lst = some v := e
      obtain ⟨ws, e1, e2⟩ := Option.map_eq_some_iff.mp e
      subst e2
      obtain ⟨a, zs, rfl, hs, q⟩ := R.seq ru e1
      exact call_list_of pins s σ H _ us Q I rv ⟨a, zs, rfl, hs, p.newL R q⟩
    | tuple =>
      have e : tupOf S x = some v := e
      unfold tupOf at e
      split at e
      · cases e
        cases ru with
        | tup h q => exact call_tuple_of pins s σ H _ us Q I rv ⟨_, _, rfl, .inr ⟨SqT.of (R.fz _ _ h), p.here R (.tup h q)⟩⟩
      · cases e
        cases ru with
        | tpk h q => exact call_tuple_of pins s σ H _ us Q I rv ⟨_, _, rfl, .inr ⟨sqT_hp R.fz h, p.here R (.tpk h q)⟩⟩
      · obtain ⟨ws, e1, e2⟩ := Option.map_eq_some_iff.mp e
        subst e2
        obtain ⟨a, zs, rfl, hs, q⟩ := R.seqL ru e1
        exact call_tuple_of pins s σ H _ us Q I rv ⟨a, zs, rfl, .inl ⟨hs, p.newT R q⟩⟩
    | sum =>
      have e : ((lstOf S x).bind intsOf).map (fun ns => Val.int ns.sum) = some v := e
      obtain ⟨ns, e1, e2⟩ := Option.map_eq_some_iff.mp e
      subst e2
      obtain ⟨a, rfl, hs⟩ := lst_ints R ru e1
      exact cr_sum hc pins s σ H _ us Q I rv ⟨a, ns, rfl, hs, p.here R (.int _)⟩
    | max =>
      have e : ((lstOf S x).bind intsOf).bind (fun ns => (maxI ns).map Val.int) = some v := e
      obtain ⟨ns, e1, e2⟩ := Option.bind_eq_some_iff.mp e
      obtain ⟨a, rfl, hs⟩ := lst_ints R ru e1
      cases ns with
      | nil => cases e2
      | cons i is =>
        cases e2
        refine cr_max hc pins s σ H _ us Q I rv ⟨a, i :: is, rfl, hs, by simp, fun m h1 h2 => ?_⟩
        rw [max_fold is i m h1 h2]
        exact p.here R (.int _)
    | min =>
      have e : ((lstOf S x).bind intsOf).bind (fun ns => (minI ns).map Val.int) = some v := e
      obtain ⟨ns, e1, e2⟩ := Option.bind_eq_some_iff.mp e
      obtain ⟨a, rfl, hs⟩ := lst_ints R ru e1
      cases ns with
      | nil => cases e2
      | cons i is =>
        cases e2
        refine cr_min hc pins s σ H _ us Q I rv ⟨a, i :: is, rfl, hs, by simp, fun m h1 h2 => ?_⟩
        rw [min_fold is i m h1 h2]
        exact p.here R (.int _)
    | maxd => exact absurd rfl hb
    | divmod => cases e
  · rename_i x y
    obtain ⟨u, z, rfl, ru, rz⟩ := vrs2 r
    unfold bi2 at e
    split at e
    · cases e
      cases ru
      cases rz
      exact call_max2 hc pins s σ H _ us Q I rv ⟨_, _, rfl, p.here R (.int _)⟩
    · cases e
      cases ru
      cases rz
      exact call_min2 hc pins s σ H _ us Q I rv ⟨_, _, rfl, p.here R (.int _)⟩
    · split at e
      · rename_i c
        cases e
        cases ru
        cases rz
        exact call_divmod pins s σ H _ us Q I rv ⟨_, _, rfl, c, p.newT R (.cons (.int _) (.cons (.int _) .nil))⟩
      · cases e
    · exact absurd rfl hb
    · cases e
  · cases e
end
end Mi

namespace Mi
open PySem PySem.Spec PyProof.Rows L2
open Classical

/-! ### the text and its small form -/
structure SC where
  ns : List Str
  sc : Scope
  ws : Option Scope
structure Nms where
  fns : List String
  kfns : List (String × List Str)
  cls : List String
def SC.vis (C : SC) (x : Str) : Bool := match C.sc.names.lookup x with
  | some .local => true
  | some .cell => true
  | some .free => true
  | _ => false
def SC.gl (C : SC) (x : Str) : Bool := decide (C.sc.names.lookup x = some .globalImplicit)
def SC.tg (C : SC) (x : Str) : Bool := match C.sc.names.lookup x with
  | some .local => true
  | some .cell => (match C.ws with
    | none => true
    | some w => decide (w.names.lookup x = some .cell))
  | _ => false
def plainN (x : Str) : Bool := !(x == ("__debug__" : Str)) && (!(x == ("__classdict__" : Str)) && decide (x ≠ ("__name__" : Str)))
def SC.inn (C : SC) (scope : Scope) : SC := ⟨C.ns, relS scope C.sc, some scope⟩
def notStar : Expr → Bool
  | .Starred _ _ => false
  | _ => true
/-- receivers whose attribute has no form of its own -/
def recv : Expr → Bool
  | .Name _ _ => true
  | .Attribute _ _ _ => true
  | .Subscript _ _ _ => true
  | .Call _ (_ :: _) _ _ => true
  | _ => false
def isTru : ME → Bool
  | .bl true => true
  | _ => false
def Bm.nm : Bm → Str
  | .append => "append" | .extend => "extend" | .pop => "pop" | .popat => "pop" | .insert => "insert" | .reverse => "reverse"
def Ty.nm : Ty → Str
  | .int => "int" | .bool => "bool" | .str => "str" | .tuple => "tuple" | .list => "list"

mutual
def okT : MT → SC → Expr → Bool
  | .nm i, C, e => match e with
    | .Name x _ => decide (C.ns[i]? = some x) && C.tg x
    | _ => false
  | .tup t, C, e => match e with
    | .Tuple es _ _ => okTs t C es
    | _ => false
  | .nil, _, _ => false
  | .cons _ _, _, _ => false
def okTs : MT → SC → List Expr → Bool
  | .nil, _, es => es.isEmpty
  | .cons t u, C, es => match es with
    | e :: es => notStar e && (okT t C e && okTs u C es)
    | [] => false
  | .nm _, _, _ => false
  | .tup _, _, _ => false
end

def slots : MT → List Nat
  | .nm i => [i]
  | .tup t => slots t
  | .nil => []
  | .cons t u => slots t ++ slots u
mutual
def okE (N : Nms) : ME → SC → Expr → Bool
  | .var i, C, e => match e with
    | .Name x _ => decide (C.ns[i]? = some x) && (C.vis x && plainN x)
    | _ => false
  | .int i, _, e => match e with
    | .Constant (.int j) _ _ => decide (i = j)
    | _ => false
  | .bl b, _, e => match e with
    | .Constant (.bool c) _ _ => decide (b = c)
    | _ => false
  | .non, _, e => match e with
    | .Constant .none _ _ => true
    | _ => false
  | .str s, _, e => match e with
    | .Constant (.str x) _ _ => decide (Str.ofString s = x)
    | _ => false
  | .glb _, _, _ => false
  | .bin o a b, C, e => match e with
    | .BinOp l p r _ => decide (o.py = p) && (okE N a C l && okE N b C r)
    | _ => false
  | .neg a, C, e => match e with
    | .UnaryOp .USub x _ => okE N a C x
    | _ => false
  | .cmp o a b, C, e => match e with
    | .Compare l [p] [r] _ => decide (o.py = p) && (okE N a C l && okE N b C r)
    | _ => false
  | .chain o p a b c, C, e => match e with
    | .Compare l [o', p'] [m, r] _ => decide (o.py = o') && (decide (p.py = p') && (okE N a C l && (okE N b C m && okE N c C r)))
    | _ => false
  | .and a b, C, e => match e with
    | .BoolOp .And (x :: y :: rest) pos => okE N a C x && (if rest.isEmpty then okE N b C y else okE N b C (.BoolOp .And (y :: rest) pos))
    | _ => false
  | .or a b, C, e => match e with
    | .BoolOp .Or (x :: y :: rest) pos => okE N a C x && (if rest.isEmpty then okE N b C y else okE N b C (.BoolOp .Or (y :: rest) pos))
    | _ => false
  | .not a, C, e => match e with
    | .UnaryOp .Not x _ => okE N a C x
    | _ => false
  | .ife c a b, C, e => match e with
    | .IfExp t x y _ => okE N c C t && (okE N a C x && okE N b C y)
    | _ => false
  | .ix a i, C, e => match e with
    | .Subscript l r _ => okE N a C l && okE N i C r
    | _ => false
  | .sl a lo hi, C, e => match e with
    | .Subscript l (.Slice lo' hi' none _) _ => okE N a C l && ((match lo' with
      | none => isNul lo
      | some x => okE N lo C x) && (match hi' with
      | none => isNul hi
      | some x => okE N hi C x))
    | _ => false
  | .nul, _, _ => false
  | .tup es, C, e => match e with
    | .Tuple xs _ _ => okL N es C xs
    | _ => false
  | .lst _ es, C, e => match e with
    | .List xs _ => okL N es C xs
    | _ => false
  | .enil, _, _ => false
  | .econs _ _, _, _ => false
  | .call f es, C, e => match e with
    | .Call (.Name x _) xs [] _ => decide (Str.ofString f = x) && (decide (f ∈ N.fns) && (C.gl x && (plainN x && okL N es C xs)))
    | _ => false
  | .callk f es ks kws, C, e => match e with
    | .Call (.Name x _) xs kwds _ => decide (Str.ofString f = x) && (decide ((f, ks) ∈ N.kfns) && (C.gl x && (plainN x && (okL N es C xs && (!xs.isEmpty && (okK N kws C kwds && decide (kwds.map (·.arg) = ks.map some)))))))
    | _ => false
  | .new c es, C, e => match e with
    | .Call (.Name x _) xs [] _ => decide (Str.ofString c = x) && (decide (c ∈ N.cls) && (C.gl x && (plainN x && okL N es C xs)))
    | _ => false
  | .meth o m es, C, e => match e with
    | .Call (.Attribute r a apos) xs [] pos => decide (Str.ofString m = a) && (okE N o C r && (recv r && (okL N es C xs && (decide (xs.length < 29) && (apos.endLine == pos.line)))))
    | _ => false
  | .bi b es, C, e => match e with
    | .Call (.Name x _) xs kwds _ => (match b with
      | .maxd => (match es with
        | .econs a (.econs d .enil) => (match xs, kwds with
          | [y], [⟨some k, z, _⟩] => decide (x = ("max" : Str)) && (C.gl x && (decide (k = ("default" : Str)) && (okE N a C y && okE N d C z)))
          | _, _ => false)
        | _ => false)
      | _ => decide (b.nm = x) && (C.gl x && (kwds.isEmpty && (!xs.isEmpty && okL N es C xs))))
    | _ => false
  | .bm b o es, C, e => match e with
    | .Call (.Attribute r a apos) xs [] pos => decide (b.nm = a) && (okE N o C r && (recv r && (okL N es C xs && (decide (xs.length < 29) && (apos.endLine == pos.line)))))
    | _ => false
  | .fld o f, C, e => match e with
    | .Attribute r a _ => decide (Str.ofString f = a) && (okE N o C r && recv r)
    | _ => false
  | .isi a t, C, e => match e with
    | .Call (.Name x _) [y, .Name z _] [] _ => decide (x = ("isinstance" : Str)) && (C.gl x && (okE N a C y && (decide (t.nm = z) && C.gl z)))
    | _ => false
  | .it _, _, _ => false
  | .rng _, _, _ => false
  | .enum _, _, _ => false
  | .zip _ _, _, _ => false
  | .comp _ own tg it cond elt, C, e => match e with
    | .ListComp x [⟨t, i, ifs, asy⟩] scope _ => decide (asy = 0) && (okI N it C t i && (blkC C.ns C.sc scope own && (((slots tg).all fun i => decide (i ∈ own.map (·.2))) && (okT tg (C.inn scope) t && ((match ifs with
      | [] => isTru cond
      | [c] => okE N cond (C.inn scope) c
      | _ => false) && okE N elt (C.inn scope) x)))))
    | _ => false
  | .dnewT, _, e => match e with
    | .Dict [] [] _ => true
    | _ => false
  | .dnewK, _, e => match e with
    | .Dict [] [] _ => true
    | _ => false
  | .dcomp _ own tg it cond key val, C, e => match e with
    | .DictComp x y [⟨t, i, ifs, asy⟩] scope _ => decide (asy = 0) && (okI N it C t i && (blkC C.ns C.sc scope own && (((slots tg).all fun i => decide (i ∈ own.map (·.2))) && (okT tg (C.inn scope) t && ((match ifs with
      | [] => isTru cond
      | [c] => okE N cond (C.inn scope) c
      | _ => false) && (okE N key (C.inn scope) x && okE N val (C.inn scope) y))))))
    | _ => false
def okL (N : Nms) : ME → SC → List Expr → Bool
  | .enil, _, es => es.isEmpty
  | .econs a r, C, es => match es with
    | e :: es => notStar e && (okE N a C e && okL N r C es)
    | [] => false
  | _, _, _ => false
def okK (N : Nms) : ME → SC → List Keyword → Bool
  | .enil, _, ks => ks.isEmpty
  | .econs a r, C, ks => match ks with
    | ⟨_, v, _⟩ :: ks => okE N a C v && okK N r C ks
    | [] => false
  | _, _, _ => false
def okI (N : Nms) : ME → SC → Expr → Expr → Bool
  | .it e, C, _, x => okE N e C x
  | .rng es, C, _, x => match x with
    | .Call (.Name n _) xs [] _ => decide (n = ("range" : Str)) && (C.gl n && (okL N es C xs && (decide (xs.length = 1) || decide (xs.length = 2))))
    | _ => false
  | .enum e, C, t, x => match t, x with
    | .Tuple _ _ _, .Call (.Name n _) [y] [] _ => decide (n = ("enumerate" : Str)) && (C.gl n && okE N e C y)
    | _, _ => false
  | .zip a b, C, t, x => match t, x with
    | .Tuple _ _ _, .Call (.Name n _) [y, z] [] _ => decide (n = ("zip" : Str)) && (C.gl n && (okE N a C y && okE N b C z))
    | _, _ => false
  | _, _, _, _ => false
end
end Mi

namespace Mi
open PySem PySem.Spec PyProof.Rows L2
open Classical

/-! ### what is promised of a def; what stands behind the top -/
def spI (K : PySem.W.Frag) (mg : Str → Option Value) (call : Call') (c f : String) : Sp := fun us H Q _ => ∃ W S vs v S', Rel K mg W S H ∧ VRs K mg W vs us ∧ call c f vs S = some (v, S') ∧ Post K mg W H S' v Q
def freeNames : List Str := ["len", "abs", "int", "list", "tuple", "max", "min", "sum", "divmod", "isinstance", "range", "enumerate", "zip", "bool", "str"]
structure GOk (P : Program) (w : World) (K : PySem.W.Frag) (mg : Str → Option Value) (base : Heap) (N : Nms) (R : Run) (n : Nat) : Prop where
  fn : ∀ f ∈ N.fns, ∃ a fd ps, mg (Str.ofString f) = some (.ref a) ∧ PySem.W.keepIn K (.ref a) = true ∧ Binds K fd ps [] ∧ FnOk P w K mg base CX0 n a fd ps (spI K mg R.call "" f)
  kfn : ∀ f ks, (f, ks) ∈ N.kfns → ∃ a fd ps, mg (Str.ofString f) = some (.ref a) ∧ PySem.W.keepIn K (.ref a) = true ∧ KBinds K fd ps ks (fun us ws => us ++ ws) (fun us ws => us ++ ws) ∧ FnOk P w K mg base CX0 n a fd ps (spI K mg R.call "" f)
  cls : ∀ c ∈ N.cls, ∃ C fi fd ps, mg (Str.ofString c) = some (.ref C) ∧ Mk K C fi ∧ Binds K fd ps [] ∧ FnOk P w K mg base CX0 n fi fd ps (spI K mg R.call c "__init__")
  meth : ∀ c m vs S r, R.call c m vs S = some r → c ≠ "" → ∃ C a fd ps, mg (Str.ofString c) = some (.ref C) ∧ Cls K C ∧ Meth K C (Str.ofString m) a ∧ Binds K fd ps [] ∧ FnOk P w K mg base CX0 n a fd ps (spI K mg R.call c m)
  fd : ∀ c f C, R.fd c f = true → mg (Str.ofString c) = some (.ref C) → Cls K C ∧ NoAttr K C (Str.ofString f)
  free : ∀ x ∈ freeNames, mg x = none

/-- a context and its small form -/
structure XOk (X : Cx) (C : SC) (N : Nms) (R : Run) (n : Nat) : Prop where
  ns : X.N = C.ns
  nd : C.ns.Nodup
  sc : X.env.scope = C.sc
  fn : ∀ x, C.sc.names.lookup x = some .cell → (match C.ws with
    | none => True
    | some w => w.names.lookup x = some .cell) → X.fn x = true
  calm : X.calm = true
  room : Room (n + 1) X.A
  g : GOk X.prog X.w X.K X.mg X.base N R n
theorem and_t {a b : Bool} (h : (a && b) = true) : a = true ∧ b = true := Bool.and_eq_true_iff.mp h
theorem dec_t {p : Prop} [Decidable p] (h : decide p = true) : p := of_decide_eq_true h

section
variable {X : Cx} {C : SC} {N : Nms} {R : Run} {n : Nat}
theorem XOk.vis (o : XOk X C N R n) {x : Str} (h : C.vis x = true) : Vis X.env.scope x := by
  unfold SC.vis at h
  unfold Vis
  rw [o.sc]
  split at h
  · exact .inl ‹_›
  · exact .inr (.inl ‹_›)
  · exact .inr (.inr ‹_›)
  · cases h
theorem XOk.gl (o : XOk X C N R n) {x : Str} (h : C.gl x = true) : Gl X x := by
  show X.env.scope.names.lookup x = some .globalImplicit
  rw [o.sc]
  exact dec_t h
theorem XOk.tg (o : XOk X C N R n) {x : Str} (h : C.tg x = true) : L2.Loc X.env.scope x ∧ (X.fn x = true ∨ X.env.scope.names.lookup x = some .local) := by
  unfold SC.tg at h
  unfold L2.Loc
  rw [o.sc]
  split at h
  · exact ⟨.inl ‹_›, .inr ‹_›⟩
  · rename_i e
    refine ⟨.inr e, .inl (o.fn x e ?_)⟩
    split
    · trivial
    · rename_i w ew
      rw [ew] at h
      exact dec_t h
  · cases h
theorem plain1 {x : Str} (h : plainN x = true) : (x == ("__debug__" : Str)) = false := by
  have := (and_t h).1
  cases q : (x == ("__debug__" : Str)) with
  | false => rfl
  | true => rw [q] at this; cases this
theorem plain2 {x : Str} (h : plainN x = true) : (x == ("__classdict__" : Str)) = false := by
  have := (and_t (and_t h).2).1
  cases q : (x == ("__classdict__" : Str)) with
  | false => rfl
  | true => rw [q] at this; cases this
theorem star_of {e : Expr} {es : List Expr} {env : Env} (h : notStar e = true) : starEach (e :: es) env = (false, eval e env) :: starEach es env := by
  cases e <;> first | rfl | cases h
theorem base_of {e : Expr} {a : Str} {env : Env} (h : recv e = true) : attributeBase e a env (eval e env) = eval e env := by
  cases e with
  | Name _ _ => rfl
  | Attribute _ _ _ => rfl
  | Subscript _ _ _ => rfl
  | Call f as ks p =>
    cases as with
    | nil => cases h
    | cons a as =>
      cases f <;> rfl
  | _ => cases h

/-! ### readings -/
def rdE (K : PySem.W.Frag) (mg : Str → Option Value) (R : Run) (m : ME) : TE := fun σ H Q => ∃ W env S v S', Rel K mg W S H ∧ ER K mg W env σ ∧ evE R m env S = some (v, S') ∧ Post K mg W H S' v Q
def rdT (K : PySem.W.Frag) (mg : Str → Option Value) (R : Run) (m : ME) : TT := fun σ H Q => ∃ W env S v S' k, Rel K mg W S H ∧ ER K mg W env σ ∧ evE R m env S = some (v, S') ∧ tru S' v = some k ∧
  ∀ W' H', Ext W H W' H' → Rel K mg W' S' H' → Q k H'
def rdA (K : PySem.W.Frag) (mg : Str → Option Value) (R : Run) (m : ME) : TA := fun σ H Q => ∃ W env S vs S', Rel K mg W S H ∧ ER K mg W env σ ∧ evE R m env S = some (.tup vs, S') ∧
  ∀ W' H' us, Ext W H W' H' → Rel K mg W' S' H' → VRs K mg W' vs us → Q us H'
/-- what a for's iterator yields -/
def ItOk (K : PySem.W.Frag) (mg : Str → Option Value) (W : Wd) (vs : List Val) (src : Option (Nat × Cell)) (J : It) : Prop :=
  ∀ W' S' H', Le W W' → Rel K mg W' S' H' → stays src S' →
    (∀ i v, vs[i]? = some v → J.go i H' ∧ ∀ x H'', J.yld i H' x H'' → ∃ W'', Ext W' H' W'' H'' ∧ Rel K mg W'' S' H'' ∧ VR K mg W'' v x) ∧ J.stop vs.length H'
def rdI (K : PySem.W.Frag) (mg : Str → Option Value) (R : Run) (m : ME) : TI := fun σ H Q => ∃ W env S v S' vs src, Rel K mg W S H ∧ ER K mg W env σ ∧ evE R m env S = some (v, S') ∧ itemsOf S' v = some (vs, src) ∧
  ∀ W' H' J, Ext W H W' H' → Rel K mg W' S' H' → ItOk K mg W' vs src J → Q J H'
theorem _root_.L2.PE.imp {e : Expr} {t t' : TE} (h : PE X e t) (k : ∀ σ H Q, t' σ H Q → t σ H Q) : PE X e t' := ⟨fun pins s σ H Q I q => h.run pins s σ H Q I (k σ H Q q)⟩
theorem _root_.L2.PE.pick {e : Expr} {t' : TE} (h : ∀ σ H Q, t' σ H Q → ∃ t, PE X e t ∧ t σ H Q) : PE X e t' := ⟨fun pins s σ H Q I q => let ⟨_, a, b⟩ := h σ H Q q; a.run pins s σ H Q I b⟩
theorem _root_.L2.PT.imp {e : Expr} {t t' : TT} (h : PT X e t) (k : ∀ σ H Q, t' σ H Q → t σ H Q) : PT X e t' := ⟨fun pins s σ H Q I q => h.run pins s σ H Q I (k σ H Q q)⟩
theorem _root_.L2.PA.imp {e : List Expr} {t t' : TA} (h : PA X e t) (k : ∀ σ H Q, t' σ H Q → t σ H Q) : PA X e t' := ⟨fun pos pins s σ H Q I q => h.run pos pins s σ H Q I (k σ H Q q)⟩
theorem _root_.L2.PI.imp {tg e : Expr} {t t' : TI} (h : PI X tg e t) (k : ∀ σ H Q, t' σ H Q → t σ H Q) : PI X tg e t' := ⟨fun pins s σ H Q I q => h.run pins s σ H Q I (k σ H Q q)⟩
theorem _root_.L2.PI.pick {tg e : Expr} {t' : TI} (h : ∀ σ H Q, t' σ H Q → ∃ t, PI X tg e t ∧ t σ H Q) : PI X tg e t' := ⟨fun pins s σ H Q I q => let ⟨_, a, b⟩ := h σ H Q q; a.run pins s σ H Q I b⟩
/-- chaining -/
theorem Post.after {K : PySem.W.Frag} {mg : Str → Option Value} {W W1 : Wd} {H H1 : Hp} {S' : Sto} {v : Val} {Q : VK} (p : Post K mg W H S' v Q) (x : Ext W H W1 H1) : Post K mg W1 H1 S' v Q := fun W' H' u x' R r => p W' H' u (x.trans x') R r

/-- the truth of a value -/
theorem tru_of {K : PySem.W.Frag} {mg : Str → Option Value} {W : Wd} {S : Sto} {H : Hp} (R : Rel K mg W S H) {v : Val} {u : V} {k : Bool} (r : VR K mg W v u) (e : tru S v = some k) : TruV K u H k := by
  have emp : ∀ {vs : List Val} {us : List V}, VRs K mg W vs us → (!vs.isEmpty) = !us.isEmpty := fun q => by cases q <;> rfl
  cases r with
  | non => cases e; rfl
  | bl b => cases e; rfl
  | int i => cases e; rfl
  | str s =>
    dsimp only [tru] at e
    split at e
    · rename_i c
      cases e
      exact ⟨c, rfl⟩
    · cases e
  | tup h q =>
    cases e
    exact .inr (.inl ⟨_, SqT.of (R.fz _ _ h), emp q⟩)
  | tpk h q =>
    cases e
    exact .inr (.inl ⟨_, sqT_hp R.fz h, emp q⟩)
  | lst h q =>
    cases e
    exact .inl ⟨_, SqL.of (R.fz _ _ h), emp q⟩
  | lsk h q =>
    cases e
    exact .inl ⟨_, sqL_hp R.fz h, emp q⟩
  | @ref n a h =>
    obtain ⟨c, o, e1, h2, h3⟩ := R.cell h
    dsimp only [tru] at e
    rw [e1] at e
    cases h3 with
    | lst q =>
      cases e
      exact .inl ⟨_, SqL.of h2, emp q⟩
    | dK q =>
      cases e
      exact .inr (.inr ⟨_, h2, by cases q <;> rfl⟩)
    | _ => cases e
  | _ => cases e
/-- a test by its value -/
theorem pt_of {e : Expr} {m : ME} (h : PE X e (rdE X.K X.mg R m)) (he : ∀ whole, isTrue e X.env whole = (do let v ← whole; standAt e.pos; holding [v] (truthy v))) : PT X e (rdT X.K X.mg R m) :=
  (pt_truth h he).imp fun σ H Q ⟨W, env, S, v, S', k, r, E, e1, e2, p⟩ => ⟨W, env, S, v, S', r, E, e1, fun W' H' u x R' r' => ⟨k, tru_of R' r' e2, p W' H' x R'⟩⟩

/-! ### a small form does what the text does -/
def SE (m : ME) : Prop := ∀ (N : Nms) (R : Run) (n : Nat) (C : SC) (e : Expr), okE N m C e = true → ∀ X, XOk X C N R n → PE X e (rdE X.K X.mg R m) ∧ PT X e (rdT X.K X.mg R m)
def SL (m : ME) : Prop := ∀ (N : Nms) (R : Run) (n : Nat) (C : SC) (es : List Expr), okL N m C es = true → ∀ X, XOk X C N R n → PA X es (rdA X.K X.mg R m)
def SK (m : ME) : Prop := ∀ (N : Nms) (R : Run) (n : Nat) (C : SC) (ks : List Keyword), okK N m C ks = true → ∀ X, XOk X C N R n → PK X ks (rdA X.K X.mg R m)
def SI (m : ME) : Prop := ∀ (N : Nms) (R : Run) (n : Nat) (C : SC) (t e : Expr), okI N m C t e = true → ∀ X, XOk X C N R n → PI X t e (rdI X.K X.mg R m)
theorem SE.of_val {m : ME} (h : ∀ (N : Nms) (R : Run) (n : Nat) (C : SC) (e : Expr), okE N m C e = true → ∀ X, XOk X C N R n → PE X e (rdE X.K X.mg R m) ∧ ∀ whole, isTrue e X.env whole = (do let v ← whole; standAt e.pos; holding [v] (truthy v))) : SE m :=
  fun N R n C e ok X o => let ⟨a, b⟩ := h N R n C e ok X o; ⟨a, pt_of a b⟩

theorem s_var (i : Nat) : SE (.var i) := SE.of_val fun N R n C e ok X o => by
  cases e with
  | Name x p =>
    have ok : (decide (C.ns[i]? = some x) && (C.vis x && plainN x)) = true := ok
    obtain ⟨h1, h2⟩ := and_t ok
    obtain ⟨h2, h3⟩ := and_t h2
    refine ⟨(pe_var (i := i) (by rw [o.ns]; exact dec_t h1) (o.vis h2) (plain1 h3) (plain2 h3)).imp fun σ H Q ⟨W, env, S, v, S', r, E, e, p⟩ => ?_, fun _ => rfl⟩
    dsimp only [evE] at e
    split at e
    · rename_i w hw
      cases e
      obtain ⟨u, e2, ru⟩ := E.get i _ hw
      exact ⟨u, e2, p.here r ru⟩
    · cases e
  | _ => cases ok
theorem s_int (i : Int) : SE (.int i) := SE.of_val fun N R n C e ok X o => by
  cases e with
  | Constant c k p =>
    cases c with
    | int j =>
      cases dec_t ok
      exact ⟨pe_int.imp fun σ H Q ⟨W, env, S, v, S', r, E, e, p⟩ => by
        cases e
        exact p.here r (.int i), fun _ => rfl⟩
    | _ => cases ok
  | _ => cases ok
theorem s_bl (b : Bool) : SE (.bl b) := SE.of_val fun N R n C e ok X o => by
  cases e with
  | Constant c k p =>
    cases c with
    | bool j =>
      cases dec_t ok
      exact ⟨pe_bl.imp fun σ H Q ⟨W, env, S, v, S', r, E, e, p⟩ => by
        cases e
        exact p.here r (.bl b), fun _ => rfl⟩
    | _ => cases ok
  | _ => cases ok
theorem s_non : SE .non := SE.of_val fun N R n C e ok X o => by
  cases e with
  | Constant c k p =>
    cases c with
    | none =>
      exact ⟨pe_non.imp fun σ H Q ⟨W, env, S, v, S', r, E, e, p⟩ => by
        cases e
        exact p.here r .non, fun _ => rfl⟩
    | _ => cases ok
  | _ => cases ok
theorem s_str (s : String) : SE (.str s) := SE.of_val fun N R n C e ok X o => by
  cases e with
  | Constant c k p =>
    cases c with
    | str x =>
      have h : Str.ofString s = x := dec_t ok
      subst h
      exact ⟨pe_str.imp fun σ H Q ⟨W, env, S, v, S', r, E, e, p⟩ => by
        cases e
        exact p.here r (.str s), fun _ => rfl⟩
    | _ => cases ok
  | _ => cases ok
theorem s_bin {o : BOp} {a b : ME} (ha : SE a) (hb : SE b) : SE (.bin o a b) := SE.of_val fun N R n C e ok X x => by
  cases e with
  | BinOp l p r q =>
    have ok : (decide (o.py = p) && (okE N a C l && okE N b C r)) = true := ok
    obtain ⟨h1, h2⟩ := and_t ok
    obtain ⟨h2, h3⟩ := and_t h2
    cases dec_t h1
    refine ⟨(pe_op (op_bin o) (ha N R n C l h2 X x).1 (hb N R n C r h3 X x).1).imp fun σ H Q ⟨W, env, S, v, S', r, E, e, p⟩ => ?_, fun _ => rfl⟩
    dsimp only [evE] at e
    split at e
    · rename_i y S1 e1
      split at e
      · rename_i z S2 e2
        obtain ⟨w, e3, e4⟩ := Option.map_eq_some_iff.mp e
        cases e4
        exact ⟨W, env, S, _, _, r, E, e1, fun W1 H1 u1 x1 R1 r1 => ⟨W1, env, S1, _, _, R1, E.ext x1, e2, fun W2 H2 u2 x2 R2 r2 =>
          ⟨W2, S', _, _, _, R2, r1.le x2.le, r2, e3, p.after (x1.trans x2)⟩⟩⟩
      · cases e
    · cases e
  | _ => cases ok
theorem s_neg {a : ME} (ha : SE a) : SE (.neg a) := SE.of_val fun N R n C e ok X x => by
  cases e with
  | UnaryOp op y q =>
    cases op with
    | USub =>
      refine ⟨(pe_un un_neg (ha N R n C y ok X x).1).imp fun σ H Q ⟨W, env, S, v, S', r, E, e, p⟩ => ?_, fun _ => rfl⟩
      dsimp only [evE] at e
      split at e
      · rename_i i S1 e1
        cases e
        refine ⟨W, env, S, _, _, r, E, e1, fun W1 H1 u1 x1 R1 r1 => ?_⟩
        cases r1
        exact ⟨i, rfl, (p.after x1).here R1 (.int _)⟩
      · cases e
    | _ => cases ok
  | _ => cases ok
end
end Mi

namespace Mi
open PySem PySem.Spec PyProof.Rows L2
open Classical
section
variable {X : Cx} {C : SC} {N : Nms} {R : Run} {n : Nat}
theorem not_set {m : ME} {es : List Expr} {k : Nat} {p : Pos} (h : okE N m C (.Set es k p) = true) : False := by
  cases m <;> cases h
theorem not_slice {m : ME} {a b c : Option Expr} {p : Pos} (h : okE N m C (.Slice a b c p) = true) : False := by
  cases m <;> cases h
theorem not_star {m : ME} {e : Expr} {p : Pos} (h : okE N m C (.Starred e p) = true) : False := by
  cases m <;> cases h
theorem unmarked {m : ME} {e : Expr} {o : CmpOp} (h : okE N m C e = true) : behindInMarks o e = false := by
  cases e with
  | Set es k p => exact (not_set h).elim
  | _ => rfl
theorem plain_ix {m : ME} {e : Expr} (h : okE N m C e = true) : PlainIx e := by
  cases e with
  | Slice a b c p => exact (not_slice h).elim
  | _ => exact fun _ _ => rfl
theorem no_sl {m : ME} {e : Expr} (h : okE N m C e = true) : NoSl e := by
  cases e with
  | Slice a b c p => exact (not_slice h).elim
  | _ => exact fun _ _ => rfl
theorem s_cmp {o : COp} {a b : ME} (ha : SE a) (hb : SE b) : SE (.cmp o a b) := fun N R n C e ok X x => by
  cases e with
  | Compare l ops rs q =>
    cases ops with
    | nil => cases ok
    | cons p ops =>
      cases ops with
      | cons _ _ => cases ok
      | nil =>
        cases rs with
        | nil => cases ok
        | cons r rs =>
          cases rs with
          | cons _ _ => cases ok
          | nil =>
            have ok : (decide (o.py = p) && (okE N a C l && okE N b C r)) = true := ok
            obtain ⟨h1, h2⟩ := and_t ok
            obtain ⟨h2, h3⟩ := and_t h2
            cases dec_t h1
            have pa := (ha N R n C l h2 X x).1
            have pb := (hb N R n C r h3 X x).1
            refine ⟨(pe_cmpR (op_cmp x.room o) pa pb (unmarked h3)).imp fun σ H Q ⟨W, env, S, v, S', r, E, e, p⟩ => ?_, (pt_cmpR (op_cmp x.room o) pa pb (unmarked h3)).imp fun σ H Q ⟨W, env, S, v, S', k, r, E, e, tr, p⟩ => ?_⟩
            · dsimp only [evE] at e
              split at e
              · rename_i y S1 e1
                split at e
                · rename_i z S2 e2
                  obtain ⟨w, e3, e4⟩ := Option.map_eq_some_iff.mp e
                  cases e4
                  exact ⟨W, env, S, _, _, r, E, e1, fun W1 H1 u1 x1 R1 r1 => ⟨W1, env, S1, _, _, R1, E.ext x1, e2, fun W2 H2 u2 x2 R2 r2 =>
                    ⟨W2, S', _, _, _, R2, r1.le x2.le, r2, e3, (p.after (x1.trans x2)).here R2 (.bl _)⟩⟩⟩
                · cases e
              · cases e
            · dsimp only [evE] at e
              split at e
              · rename_i y S1 e1
                split at e
                · rename_i z S2 e2
                  obtain ⟨w, e3, e4⟩ := Option.map_eq_some_iff.mp e
                  cases e4
                  cases tr
                  exact ⟨W, env, S, _, _, r, E, e1, fun W1 H1 u1 x1 R1 r1 => ⟨W1, env, S1, _, _, R1, E.ext x1, e2, fun W2 H2 u2 x2 R2 r2 =>
                    ⟨W2, S', _, _, _, R2, r1.le x2.le, r2, e3, _, rfl, p _ _ (x1.trans x2) R2⟩⟩⟩
                · cases e
              · cases e
  | _ => cases ok
theorem last_marks {m : ME} {e b : Expr} {o p : CmpOp} (h : okE N m C e = true) : lastMarks [o, p] [b, e] = false := by
  show behindInMarks p e = false
  exact unmarked h
theorem s_chain {o p : COp} {a b c : ME} (ha : SE a) (hb : SE b) (hc : SE c) : SE (.chain o p a b c) := fun N R n C e ok X x => by
  cases e with
  | Compare l ops rs q =>
    rcases ops with _ | ⟨o', _ | ⟨p', _ | ⟨_, _⟩⟩⟩
    · cases ok
    · cases ok
    · rcases rs with _ | ⟨m, _ | ⟨r, _ | ⟨_, _⟩⟩⟩
      · cases ok
      · cases ok
      · have ok : (decide (o.py = o') && (decide (p.py = p') && (okE N a C l && (okE N b C m && okE N c C r)))) = true := ok
        obtain ⟨h1, h2⟩ := and_t ok
        obtain ⟨h2, h3⟩ := and_t h2
        obtain ⟨h3, h4⟩ := and_t h3
        obtain ⟨h4, h5⟩ := and_t h4
        cases dec_t h1
        cases dec_t h2
        have pa := (ha N R n C l h3 X x).1
        have pb := (hb N R n C m h4 X x).1
        have pc := (hc N R n C r h5 X x).1
        refine ⟨(pe_chain (op_cmp x.room o) (op_cmp x.room p) pa pb pc (last_marks h5)).imp fun σ H Q ⟨W, env, S, v, S', r, E, e, p⟩ => ?_, (pt_chain (op_cmp x.room o) (op_cmp x.room p) pa pb pc (last_marks h5)).imp fun σ H Q ⟨W, env, S, v, S', k, r, E, e, tr, p⟩ => ?_⟩
        · dsimp only [evE] at e
          split at e
          · rename_i y S1 e1
            split at e
            · rename_i z S2 e2
              refine ⟨W, env, S, _, _, r, E, e1, fun W1 H1 u1 x1 R1 r1 => ⟨W1, env, S1, _, _, R1, E.ext x1, e2, fun W2 H2 u2 x2 R2 r2 => ?_⟩⟩
              split at e
              · rename_i e3
                refine ⟨W2, S2, _, _, _, R2, r1.le x2.le, r2, e3, true, rfl, ?_⟩
                refine iteT ?_
                split at e
                · rename_i z' S3 e4
                  obtain ⟨w, e5, e6⟩ := Option.map_eq_some_iff.mp e
                  cases e6
                  exact ⟨W2, env, S2, _, _, R2, (E.ext x1).ext x2, e4, fun W3 H3 u3 x3 R3 r3 => ⟨W3, S', _, _, _, R3, r2.le x3.le, r3, e5, (p.after ((x1.trans x2).trans x3)).here R3 (.bl _)⟩⟩
                · cases e
              · rename_i e3
                cases e
                refine ⟨W2, _, _, _, _, R2, r1.le x2.le, r2, e3, false, rfl, ?_⟩
                refine iteF ?_
                exact (p.after (x1.trans x2)).here R2 (.bl _)
              · cases e
            · cases e
          · cases e
        · dsimp only [evE] at e
          split at e
          · rename_i y S1 e1
            split at e
            · rename_i z S2 e2
              refine ⟨W, env, S, _, _, r, E, e1, fun W1 H1 u1 x1 R1 r1 => ⟨W1, env, S1, _, _, R1, E.ext x1, e2, fun W2 H2 u2 x2 R2 r2 => ?_⟩⟩
              split at e
              · rename_i e3
                refine ⟨W2, S2, _, _, _, R2, r1.le x2.le, r2, e3, true, rfl, ?_⟩
                refine iteT ?_
                split at e
                · rename_i z' S3 e4
                  obtain ⟨w, e5, e6⟩ := Option.map_eq_some_iff.mp e
                  cases e6
                  cases tr
                  exact ⟨W2, env, S2, _, _, R2, (E.ext x1).ext x2, e4, fun W3 H3 u3 x3 R3 r3 => ⟨W3, S', _, _, _, R3, r2.le x3.le, r3, e5, _, rfl, p _ _ ((x1.trans x2).trans x3) R3⟩⟩
                · cases e
              · rename_i e3
                cases e
                cases tr
                refine ⟨W2, _, _, _, _, R2, r1.le x2.le, r2, e3, false, rfl, ?_⟩
                refine iteF ?_
                exact ⟨_, rfl, p _ _ (x1.trans x2) R2⟩
              · cases e
            · cases e
          · cases e
      · cases ok
    · cases ok
  | _ => cases ok
/-- a chain of and, or: whatever its 'whole' is -/
theorem pw_of {op : BoolOp} {es : List Expr} {p : Pos} {t : TT} (h : PT X (.BoolOp op es p) t) : PW X (.BoolOp op es p) t := ⟨fun whole pins s σ H Q I q => h.run pins s σ H Q I q⟩
theorem s_and {a b : ME} (ha : SE a) (hb : SE b) : SE (.and a b) := fun N R n C e ok X x => by
  cases e with
  | BoolOp op es q =>
    cases op with
    | Or => rcases es with _ | ⟨_, _ | ⟨_, _⟩⟩ <;> cases ok
    | And =>
      rcases es with _ | ⟨y, _ | ⟨z, rest⟩⟩
      · cases ok
      · cases ok
      · have ok : (okE N a C y && (if rest.isEmpty then okE N b C z else okE N b C (.BoolOp .And (z :: rest) q))) = true := ok
        obtain ⟨h1, h2⟩ := and_t ok
        obtain ⟨pa, ta⟩ := ha N R n C y h1 X x
        have hh : PE X (.BoolOp .And (z :: rest) q) (rdE X.K X.mg R b) ∧ PW X (.BoolOp .And (z :: rest) q) (rdT X.K X.mg R b) := by
          cases rest with
          | nil =>
            have h2 : okE N b C z = true := h2
            obtain ⟨pb, tb⟩ := hb N R n C z h2 X x
            exact ⟨pe_one pb, pw_and1 tb⟩
          | cons w rest =>
            have h2 : okE N b C (.BoolOp .And (z :: w :: rest) q) = true := h2
            obtain ⟨pb, tb⟩ := hb N R n C _ h2 X x
            exact ⟨pb, pw_of tb⟩
        refine ⟨(pe_and pa hh.1).imp fun σ H Q ⟨W, env, S, v, S', r, E, e, p⟩ => ?_, ((pw_and ta hh.2).pt).imp fun σ H Q ⟨W, env, S, v, S', k, r, E, e, tr, p⟩ => ?_⟩
        · dsimp only [evE] at e
          split at e
          · rename_i S1 e1
            refine ⟨W, env, S, _, _, r, E, e1, fun W1 H1 u1 x1 R1 r1 => ?_⟩
            cases r1
            refine ⟨true, rfl, ?_⟩
            refine iteT ?_
            exact ⟨W1, env, S1, _, _, R1, E.ext x1, e, p.after x1⟩
          · rename_i S1 e1
            cases e
            refine ⟨W, env, S, _, _, r, E, e1, fun W1 H1 u1 x1 R1 r1 => ?_⟩
            cases r1
            refine ⟨false, rfl, ?_⟩
            refine iteF ?_
            exact (p.after x1).here R1 (.bl _)
          · cases e
        · dsimp only [evE] at e
          split at e
          · rename_i S1 e1
            refine ⟨W, env, S, _, _, true, r, E, e1, rfl, fun W1 H1 x1 R1 => ?_⟩
            refine iteT ?_
            exact ⟨W1, env, S1, _, _, k, R1, E.ext x1, e, tr, fun W2 H2 x2 R2 => p _ _ (x1.trans x2) R2⟩
          · rename_i S1 e1
            cases e
            cases tr
            refine ⟨W, env, S, _, _, false, r, E, e1, rfl, fun W1 H1 x1 R1 => ?_⟩
            refine iteF ?_
            exact p _ _ x1 R1
          · cases e
  | _ => cases ok
theorem s_or {a b : ME} (ha : SE a) (hb : SE b) : SE (.or a b) := fun N R n C e ok X x => by
  cases e with
  | BoolOp op es q =>
    cases op with
    | And => rcases es with _ | ⟨_, _ | ⟨_, _⟩⟩ <;> cases ok
    | Or =>
      rcases es with _ | ⟨y, _ | ⟨z, rest⟩⟩
      · cases ok
      · cases ok
      · have ok : (okE N a C y && (if rest.isEmpty then okE N b C z else okE N b C (.BoolOp .Or (z :: rest) q))) = true := ok
        obtain ⟨h1, h2⟩ := and_t ok
        obtain ⟨pa, ta⟩ := ha N R n C y h1 X x
        have hh : PE X (.BoolOp .Or (z :: rest) q) (rdE X.K X.mg R b) ∧ PW X (.BoolOp .Or (z :: rest) q) (rdT X.K X.mg R b) := by
          cases rest with
          | nil =>
            have h2 : okE N b C z = true := h2
            obtain ⟨pb, tb⟩ := hb N R n C z h2 X x
            exact ⟨pe_one pb, pw_or1 tb⟩
          | cons w rest =>
            have h2 : okE N b C (.BoolOp .Or (z :: w :: rest) q) = true := h2
            obtain ⟨pb, tb⟩ := hb N R n C _ h2 X x
            exact ⟨pb, pw_of tb⟩
        refine ⟨(pe_or pa hh.1).imp fun σ H Q ⟨W, env, S, v, S', r, E, e, p⟩ => ?_, ((pw_or ta hh.2).pt).imp fun σ H Q ⟨W, env, S, v, S', k, r, E, e, tr, p⟩ => ?_⟩
        · dsimp only [evE] at e
          split at e
          · rename_i S1 e1
            cases e
            refine ⟨W, env, S, _, _, r, E, e1, fun W1 H1 u1 x1 R1 r1 => ?_⟩
            cases r1
            refine ⟨true, rfl, ?_⟩
            refine iteT ?_
            exact (p.after x1).here R1 (.bl _)
          · rename_i S1 e1
            refine ⟨W, env, S, _, _, r, E, e1, fun W1 H1 u1 x1 R1 r1 => ?_⟩
            cases r1
            refine ⟨false, rfl, ?_⟩
            refine iteF ?_
            exact ⟨W1, env, S1, _, _, R1, E.ext x1, e, p.after x1⟩
          · cases e
        · dsimp only [evE] at e
          split at e
          · rename_i S1 e1
            cases e
            cases tr
            refine ⟨W, env, S, _, _, true, r, E, e1, rfl, fun W1 H1 x1 R1 => ?_⟩
            refine iteT ?_
            exact p _ _ x1 R1
          · rename_i S1 e1
            refine ⟨W, env, S, _, _, false, r, E, e1, rfl, fun W1 H1 x1 R1 => ?_⟩
            refine iteF ?_
            exact ⟨W1, env, S1, _, _, k, R1, E.ext x1, e, tr, fun W2 H2 x2 R2 => p _ _ (x1.trans x2) R2⟩
          · cases e
  | _ => cases ok
theorem s_not {a : ME} (ha : SE a) : SE (.not a) := fun N R n C e ok X x => by
  cases e with
  | UnaryOp op y q =>
    cases op with
    | Not =>
      obtain ⟨pa, ta⟩ := ha N R n C y ok X x
      refine ⟨(pe_not pa).imp fun σ H Q ⟨W, env, S, v, S', r, E, e, p⟩ => ?_, (pt_not ta).imp fun σ H Q ⟨W, env, S, v, S', k, r, E, e, tr, p⟩ => ?_⟩
      · dsimp only [evE] at e
        split at e
        · rename_i k S1 e1
          cases e
          refine ⟨W, env, S, _, _, r, E, e1, fun W1 H1 u1 x1 R1 r1 => ?_⟩
          cases r1
          exact ⟨k, rfl, (p.after x1).here R1 (.bl _)⟩
        · cases e
      · dsimp only [evE] at e
        split at e
        · rename_i k S1 e1
          cases e
          cases tr
          exact ⟨W, env, S, _, _, k, r, E, e1, rfl, fun W1 H1 x1 R1 => p _ _ x1 R1⟩
        · cases e
    | _ => cases ok
  | _ => cases ok
theorem pt_ife {c a b : Expr} {p : Pos} {tc ta tb : TT} (hc : PT X c tc) (ha : PT X a ta) (hb : PT X b tb) : PT X (.IfExp c a b p) (fun σ H Q => tc σ H fun k H1 => if k = true then ta σ H1 Q else tb σ H1 Q) := by
  refine ⟨fun pins s σ H Q I h => ?_⟩
  refine isTrue_IfExp (thn (hc.run pins s σ H _ I h) fun d s1 ⟨H1, I1, q1⟩ => ?_)
  cases d with
  | true => exact ha.run pins s1 σ H1 Q I1 q1
  | false => exact hb.run pins s1 σ H1 Q I1 q1
theorem s_ife {c a b : ME} (hc : SE c) (ha : SE a) (hb : SE b) : SE (.ife c a b) := fun N R n C e ok X x => by
  cases e with
  | IfExp t y z q =>
    have ok : (okE N c C t && (okE N a C y && okE N b C z)) = true := ok
    obtain ⟨h1, h2⟩ := and_t ok
    obtain ⟨h2, h3⟩ := and_t h2
    obtain ⟨_, tc⟩ := hc N R n C t h1 X x
    obtain ⟨pa, ta⟩ := ha N R n C y h2 X x
    obtain ⟨pb, tb⟩ := hb N R n C z h3 X x
    refine ⟨(pe_ifExp tc pa pb).imp fun σ H Q ⟨W, env, S, v, S', r, E, e, p⟩ => ?_, (pt_ife tc ta tb).imp fun σ H Q ⟨W, env, S, v, S', k, r, E, e, tr, p⟩ => ?_⟩
    · dsimp only [evE] at e
      split at e
      · rename_i w S1 e1
        split at e
        · rename_i e2
          refine ⟨W, env, S, _, _, true, r, E, e1, e2, fun W1 H1 x1 R1 => ?_⟩
          refine iteT ?_
          exact ⟨W1, env, S1, _, _, R1, E.ext x1, e, p.after x1⟩
        · rename_i e2
          refine ⟨W, env, S, _, _, false, r, E, e1, e2, fun W1 H1 x1 R1 => ?_⟩
          refine iteF ?_
          exact ⟨W1, env, S1, _, _, R1, E.ext x1, e, p.after x1⟩
        · cases e
      · cases e
    · dsimp only [evE] at e
      split at e
      · rename_i w S1 e1
        split at e
        · rename_i e2
          refine ⟨W, env, S, _, _, true, r, E, e1, e2, fun W1 H1 x1 R1 => ?_⟩
          refine iteT ?_
          exact ⟨W1, env, S1, _, _, k, R1, E.ext x1, e, tr, fun W2 H2 x2 R2 => p _ _ (x1.trans x2) R2⟩
        · rename_i e2
          refine ⟨W, env, S, _, _, false, r, E, e1, e2, fun W1 H1 x1 R1 => ?_⟩
          refine iteF ?_
          exact ⟨W1, env, S1, _, _, k, R1, E.ext x1, e, tr, fun W2 H2 x2 R2 => p _ _ (x1.trans x2) R2⟩
        · cases e
      · cases e
  | _ => cases ok
theorem atI_rel {W : Wd} {K : PySem.W.Frag} {mg : Str → Option Value} {vs : List Val} {us : List V} (q : VRs K mg W vs us) {i : Int} {v : Val} (e : atI vs i = some v) : ∃ u, atI us i = some u ∧ VR K mg W v u := by
  unfold atI at e ⊢
  rw [← q.length]
  obtain ⟨j, e1, e2⟩ := Option.bind_eq_some_iff.mp e
  obtain ⟨u, e3, r⟩ := q.get e2
  exact ⟨u, by rw [e1]; exact e3, r⟩
theorem seqOf_ref {S : Sto} {n : Nat} {vs : List Val} (h : S[n]? = some (.lst vs)) : seqOf S (.ref n) = some vs := by
  dsimp only [seqOf]
  rw [h]
theorem s_ix {a b : ME} (ha : SE a) (hb : SE b) : SE (.ix a b) := SE.of_val fun N R n C e ok X x => by
  cases e with
  | Subscript l r q =>
    have ok : (okE N a C l && okE N b C r) = true := ok
    obtain ⟨h1, h2⟩ := and_t ok
    have pa := (ha N R n C l h1 X x).1
    have pb := (hb N R n C r h2 X x).1
    have hu : X.A.units + 1 < cLine := by have := x.room.un; omega
    refine ⟨PE.pick fun σ H Q ⟨W, env, S, v, S', r, E, e, p⟩ => ?_, fun _ => rfl⟩
    dsimp only [evE] at e
    split at e
    · rename_i y S1 e1
      split at e
      · rename_i z S2 e2
        obtain ⟨w, e3, e4⟩ := Option.map_eq_some_iff.mp e
        cases e4
        have sq : ∀ (vs : List Val) (i : Int), seqOf S' y = some vs → z = .int i → atI vs i = some v → ∃ t, PE X (.Subscript l ‹_› q) t ∧ t σ H Q := by
          intro vs i f1 f2 f3
          subst f2
          refine ⟨_, pe_ix ix_seq pa pb (plain_ix h2), ⟨W, env, S, _, _, r, E, e1, fun W1 H1 u1 x1 R1 r1 => ⟨W1, env, S1, _, _, R1, E.ext x1, e2, fun W2 H2 u2 x2 R2 r2 => ?_⟩⟩⟩
          cases r2
          obtain ⟨a', us, rfl, hs, qs⟩ := R2.seq (r1.le x2.le) f1
          obtain ⟨u, f4, ru⟩ := atI_rel qs f3
          have fin := (p.after (x1.trans x2)).here R2 ru
          rcases hs with hs | hs
          · exact .inl ⟨a', us, i, u, rfl, rfl, hs, f4, fin⟩
          · exact .inr (.inl ⟨a', us, i, u, rfl, rfl, hs, f4, fin⟩)
        unfold ixV at e3
        split at e3
        · rename_i m i
          unfold ixC at e3
          split at e3
          · rename_i vs j hc
            exact sq _ _ (seqOf_ref hc) rfl e3
          · rename_i kvs hc
            obtain ⟨k, f1, f2⟩ := Option.bind_eq_some_iff.mp e3
            refine ⟨_, pe_dget hu pa pb (no_sl h2), ⟨W, env, S, _, _, r, E, e1, fun W1 H1 u1 x1 R1 r1 => ⟨W1, env, S1, _, _, R1, E.ext x1, e2, fun W2 H2 u2 x2 R2 r2 => ?_⟩⟩⟩
            cases r1 with
            | @ref _ a' h =>
              obtain ⟨o, g1, g2⟩ := R2.cellAt (x2.le.r _ _ h) hc
              cases g2 with
              | @dK vs us qs =>
                have g3 := qs.get k
                rw [f2] at g3
                cases g4 : valV us (kS k) with
                | none => rw [g4] at g3; exact g3.elim
                | some u =>
                  rw [g4] at g3
                  exact ⟨a', u, rfl, by rw [keyK_of r2 f1, ← g4]; exact DGet.k g1, (p.after (x1.trans x2)).here R2 g3⟩
          · rename_i kvs hc
            obtain ⟨k, f1, f2⟩ := Option.bind_eq_some_iff.mp e3
            refine ⟨_, pe_dget hu pa pb (no_sl h2), ⟨W, env, S, _, _, r, E, e1, fun W1 H1 u1 x1 R1 r1 => ⟨W1, env, S1, _, _, R1, E.ext x1, e2, fun W2 H2 u2 x2 R2 r2 => ?_⟩⟩⟩
            cases r1 with
            | @ref _ a' h =>
              obtain ⟨o, g1, g2⟩ := R2.cellAt (x2.le.r _ _ h) hc
              cases g2 with
              | @dT vs us qs =>
                have g3 := qs.get k
                rw [f2] at g3
                cases g4 : valV us (k.map kS) with
                | none => rw [g4] at g3; exact g3.elim
                | some u =>
                  rw [g4] at g3
                  obtain ⟨b', eb, hb⟩ := keyT_of R2 r2 f1
                  exact ⟨a', u, rfl, by rw [eb, ← g4]; exact DGet.t g1 hb, (p.after (x1.trans x2)).here R2 g3⟩
          · cases e3
        · exact sq _ _ rfl rfl e3
        · exact sq _ _ rfl rfl e3
        · exact sq _ _ rfl rfl e3
        · exact sq _ _ rfl rfl e3
        · cases e3
      · cases e
    · cases e
  | _ => cases ok
end
end Mi

namespace Mi
open PySem PySem.Spec PyProof.Rows L2
open Classical

/-! ### leaving a call: all places from b on are frozen -/
noncomputable def Wd.cut (W0 W1 : Wd) (H : Hp) (b : Nat) : Wd := ⟨fun a => if W1.F a ≠ none then W1.F a else if ∃ n, b ≤ n ∧ W1.r n = some a then H a else none, W0.r⟩
section
variable {K : PySem.W.Frag} {mg : Str → Option Value} {W0 W1 : Wd} {S S1 : Sto} {H0 H : Hp} {b : Nat}
theorem cut_old {a : Addr} {o : HO} (h : W1.F a = some o) : (W0.cut W1 H b).F a = some o := by
  show (if W1.F a ≠ none then W1.F a else _) = some o
  rw [if_pos (by rw [h]; exact fun z => nomatch z)]
  exact h
theorem cut_new (R1 : Rel K mg W1 S1 H) {a : Addr} {n : Nat} (hb : b ≤ n) (h : W1.r n = some a) : (W0.cut W1 H b).F a = H a := by
  show (if W1.F a ≠ none then W1.F a else if ∃ n, b ≤ n ∧ W1.r n = some a then H a else none) = H a
  rw [if_neg (by rw [R1.sep n a h]; exact fun z => z rfl), if_pos ⟨n, hb, h⟩]
mutual
theorem below_vr (l : Le W0 W1) (d0 : ∀ n, n < b → ∃ a, W0.r n = some a) : ∀ {v : Val} {u : V}, VR K mg W1 v u → below b v = true → VR K mg (W0.cut W1 H b) v u
  | _, _, .non, _ => .non
  | _, _, .bl _, _ => .bl _
  | _, _, .int _, _ => .int _
  | _, _, .str _, _ => .str _
  | _, _, .tup h q, e => .tup (cut_old h) (belows_vr l d0 q e)
  | _, _, .tpk h q, e => .tpk (sqT_le (fun _ _ z => cut_old z) h) (belows_vr l d0 q e)
  | _, _, .lst h q, e => .lst (cut_old h) (belows_vr l d0 q e)
  | _, _, .lsk h q, e => .lsk (sqL_le (fun _ _ z => cut_old z) h) (belows_vr l d0 q e)
  | _, _, .ref (n := n) h, e => by
    obtain ⟨a, ha⟩ := d0 n (of_decide_eq_true e)
    have := l.r _ _ ha
    rw [h] at this
    cases this
    exact .ref ha
  | _, _, .ins h hc q, e => .ins (cut_old h) hc (belowf_vr l d0 q e)
  | _, _, .fn h, _ => .fn h
theorem belows_vr (l : Le W0 W1) (d0 : ∀ n, n < b → ∃ a, W0.r n = some a) : ∀ {vs : List Val} {us : List V}, VRs K mg W1 vs us → belows b vs = true → VRs K mg (W0.cut W1 H b) vs us
  | _, _, .nil, _ => .nil
  | _, _, .cons h t, e => .cons (below_vr l d0 h (Bool.and_eq_true_iff.mp e).1) (belows_vr l d0 t (Bool.and_eq_true_iff.mp e).2)
theorem belowf_vr (l : Le W0 W1) (d0 : ∀ n, n < b → ∃ a, W0.r n = some a) : ∀ {vs : List (String × Val)} {us : List (Str × V)}, VRf K mg W1 vs us → belowf b vs = true → VRf K mg (W0.cut W1 H b) vs us
  | _, _, .nil, _ => .nil
  | _, _, .cons h t, e => .cons (below_vr l d0 h (Bool.and_eq_true_iff.mp e).1) (belowf_vr l d0 t (Bool.and_eq_true_iff.mp e).2)
end
theorem seq_vr {W W' : Wd} {f : Val → Option Val} (h : ∀ v u v', VR K mg W v u → f v = some v' → VR K mg W' v' u) : ∀ {vs : List Val} {us : List V} {ws : List Val}, VRs K mg W vs us → seqOpt (vs.map f) = some ws → VRs K mg W' ws us
  | _, _, _, .nil, e => by cases e; exact .nil
  | _, _, _, .cons (v := v) (vs := vs) hv t, e => by
    rw [List.map_cons] at e
    cases g : f v with
    | none => rw [g] at e; cases e
    | some v' =>
      rw [g] at e
      have e : (seqOpt (vs.map f)).map (v' :: ·) = some _ := e
      obtain ⟨ws, e1, e2⟩ := Option.map_eq_some_iff.mp e
      subst e2
      exact .cons (h _ _ _ hv g) (seq_vr h t e1)
theorem seq_vf {W W' : Wd} {f : Val → Option Val} (h : ∀ v u v', VR K mg W v u → f v = some v' → VR K mg W' v' u) : ∀ {vs : List (String × Val)} {us : List (Str × V)} {ws : List (String × Val)}, VRf K mg W vs us → seqOpt (vs.map fun q => (f q.2).map fun v => (q.1, v)) = some ws → VRf K mg W' ws us
  | _, _, _, .nil, e => by cases e; exact .nil
  | _, _, _, .cons (x := x) (v := v) (vs := vs) hv t, e => by
    rw [List.map_cons] at e
    cases g : f v with
    | none => rw [g] at e; cases e
    | some v' =>
      rw [g] at e
      have e : (seqOpt (vs.map fun q => (f q.2).map fun v => (q.1, v))).map ((x, v') :: ·) = some _ := e
      obtain ⟨ws, e1, e2⟩ := Option.map_eq_some_iff.mp e
      subst e2
      exact .cons (h _ _ _ hv g) (seq_vf h t e1)
theorem frz_vr (R1 : Rel K mg W1 S1 H) (l : Le W0 W1) (d0 : ∀ n, n < b → ∃ a, W0.r n = some a) : ∀ (k : Nat) (v : Val) (u : V) (v' : Val), VR K mg W1 v u → frz S1 b k v = some v' → VR K mg (W0.cut W1 H b) v' u := by
  intro k
  induction k with
  | zero =>
    intro v u v' r e
    unfold frz at e
    split at e
    · cases e
      exact below_vr l d0 r ‹_›
    · cases e
  | succ k ih =>
    intro v u v' r e
    unfold frz at e
    split at e
    · rename_i n
      split at e
      · cases e
        exact below_vr l d0 r (decide_eq_true ‹_›)
      · rename_i hn
        cases r with
        | @ref _ a h =>
          obtain ⟨c, o, e1, h2, h3⟩ := R1.cell h
          have hF : (W0.cut W1 H b).F a = some o := by rw [cut_new R1 (by omega) h, h2]
          rw [e1] at e
          cases h3 with
          | @lst vs us q =>
            have e : (seqOpt (vs.map (frz S1 b k))).map Val.lst = some v' := e
            obtain ⟨ws, e2, e3⟩ := Option.map_eq_some_iff.mp e
            subst e3
            exact .lst hF (seq_vr (fun v u v' r e => ih v u v' r e) q e2)
          | @ins c C dx fs us hc q =>
            have e : (seqOpt (fs.map fun q => (frz S1 b k q.2).map fun v => (q.1, v))).map (Val.ins c) = some v' := e
            obtain ⟨ws, e2, e3⟩ := Option.map_eq_some_iff.mp e
            subst e3
            exact .ins hF hc (seq_vf (fun v u v' r e => ih v u v' r e) q e2)
          | _ => cases e
    · obtain ⟨ws, e2, e3⟩ := Option.map_eq_some_iff.mp e
      subst e3
      cases r with
      | tup h q => exact .tup (cut_old h) (seq_vr (fun v u v' r e => ih v u v' r e) q e2)
    · obtain ⟨ws, e2, e3⟩ := Option.map_eq_some_iff.mp e
      subst e3
      cases r with
      | lst h q => exact .lst (cut_old h) (seq_vr (fun v u v' r e => ih v u v' r e) q e2)
    · obtain ⟨ws, e2, e3⟩ := Option.map_eq_some_iff.mp e
      subst e3
      cases r with
      | ins h hc q => exact .ins (cut_old h) hc (seq_vf (fun v u v' r e => ih v u v' r e) q e2)
    · split at e
      · cases e
        exact below_vr l d0 r ‹_›
      · cases e
theorem belowK (l : Le W0 W1) (d0 : ∀ n, n < b → ∃ a, W0.r n = some a) : ∀ {vs : List (Sum Int String × Val)} {us : List (Key × V)}, KR K mg W1 vs us → (vs.all fun q => below b q.2) = true → KR K mg (W0.cut W1 H b) vs us
  | _, _, .nil, _ => .nil
  | _, _, .cons h t, e => by
    rw [List.all_cons, Bool.and_eq_true] at e
    exact .cons (below_vr l d0 h e.1) (belowK l d0 t e.2)
theorem belowT (l : Le W0 W1) (d0 : ∀ n, n < b → ∃ a, W0.r n = some a) : ∀ {vs : List (List (Sum Int String) × Val)} {us : List (List Key × V)}, KRT K mg W1 vs us → (vs.all fun q => below b q.2) = true → KRT K mg (W0.cut W1 H b) vs us
  | _, _, .nil, _ => .nil
  | _, _, .cons h t, e => by
    rw [List.all_cons, Bool.and_eq_true] at e
    exact .cons (below_vr l d0 h e.1) (belowT l d0 t e.2)
theorem belowC_cr (l : Le W0 W1) (d0 : ∀ n, n < b → ∃ a, W0.r n = some a) {c : Cell} {o : HO} (h : CR K mg W1 c o) (e : belowC b c = true) : CR K mg (W0.cut W1 H b) c o := by
  cases h with
  | lst q => exact .lst (belows_vr l d0 q e)
  | dK q => exact .dK (belowK l d0 q e)
  | dT q => exact .dT (belowT l d0 q e)
  | ins hc q => exact .ins hc (belowf_vr l d0 q e)
/-- a call is left -/
theorem leave_ok (R0 : Rel K mg W0 S H0) (x : Ext W0 H0 W1 H) (R1 : Rel K mg W1 S1 H) {v v' : Val} {u : V} {S2 : Sto} (r : VR K mg W1 v u) (e : leave S1 S.length v = some (v', S2)) :
    ∃ W2, Ext W0 H0 W2 H ∧ Rel K mg W2 S2 H ∧ VR K mg W2 v' u := by
  unfold leave at e
  have d0 : ∀ n, n < S.length → ∃ a, W0.r n = some a := fun n hn => by
    obtain ⟨a, o, h, _⟩ := R0.lv n _ (List.getElem?_eq_getElem hn)
    exact ⟨a, h⟩
  split at e
  · rename_i w hw
    split at e
    · rename_i c
      cases e
      refine ⟨W0.cut W1 H S.length, ⟨⟨fun a o h => cut_old (x.le.f a o h), fun _ _ h => h⟩, fun a o h nO => ?_⟩, ⟨fun a o h => ?_, fun n c' h => ?_, fun n a h => ?_, fun n m a h1 h2 => R1.inj n m a (x.le.r _ _ h1) (x.le.r _ _ h2), fun n a h => ?_⟩, frz_vr R1 x.le d0 _ _ _ _ r hw⟩
      · obtain ⟨h1, h2⟩ := x.k a o h nO
        refine ⟨h1, fun q => h2 ?_⟩
        rcases q with q | ⟨n, q⟩
        · have q : (if W1.F a ≠ none then W1.F a else if ∃ n, S.length ≤ n ∧ W1.r n = some a then H a else none) ≠ none := q
          by_cases z : W1.F a ≠ none
          · exact .inl z
          · rw [if_neg z] at q
            by_cases y : ∃ n, S.length ≤ n ∧ W1.r n = some a
            · obtain ⟨n, _, y⟩ := y
              exact .inr ⟨n, y⟩
            · rw [if_neg y] at q
              exact absurd rfl q
        · exact .inr ⟨n, x.le.r _ _ q⟩
      · have h : (if W1.F a ≠ none then W1.F a else if ∃ n, S.length ≤ n ∧ W1.r n = some a then H a else none) = some o := h
        by_cases z : W1.F a ≠ none
        · rw [if_pos z] at h
          exact R1.fz a o h
        · rw [if_neg z] at h
          by_cases y : ∃ n, S.length ≤ n ∧ W1.r n = some a
          · rw [if_pos y] at h
            exact h
          · rw [if_neg y] at h
            cases h
      · have hn : n < S.length := by
          obtain ⟨z, _⟩ := List.getElem?_eq_some_iff.mp h
          rw [List.length_take] at z
          omega
        have h' : S1[n]? = some c' := by
          rw [List.getElem?_take_of_lt hn] at h
          exact h
        obtain ⟨a, o, h1, h2, h3⟩ := R1.lv n c' h'
        obtain ⟨a', ha⟩ := d0 n hn
        have := x.le.r _ _ ha
        rw [h1] at this
        cases this
        exact ⟨a, o, ha, h2, belowC_cr x.le d0 h3 (List.all_eq_true.mp c.2 c' (List.mem_of_getElem? h))⟩
      · rw [List.length_take]
        have := R0.df n a h
        have := c.1
        omega
      · show (if W1.F a ≠ none then W1.F a else if ∃ n, S.length ≤ n ∧ W1.r n = some a then H a else none) = none
        rw [if_neg (by rw [R1.sep n a (x.le.r _ _ h)]; exact fun z => z rfl), if_neg]
        rintro ⟨m, hm, y⟩
        have e1 := R1.inj n m a (x.le.r _ _ h) y
        have := R0.df n a h
        omega
    · cases e
  · cases e

/-! ### an object that was made beside -/
theorem adoptF (x : Ext W0 H0 W1 H) (R1 : Rel K mg W1 S1 H) {D : Addr} {o : HO} (h0 : H0 D = none) (hD : H D = some o) (nO : ¬ Own W1 D) : Ext W0 H0 (W1.fr D o) H ∧ Rel K mg (W1.fr D o) S1 H ∧ Le W1 (W1.fr D o) := by
  have nF : W1.F D = none := by
    cases e : W1.F D with
    | none => rfl
    | some z => exact absurd (.inl (by rw [e]; exact fun z => nomatch z)) nO
  have l : Le W1 (W1.fr D o) := ⟨fun a z e => by
    show upd W1.F D o a = some z
    rw [upd_ne (ne_of_none e nF)]
    exact e, fun _ _ e => e⟩
  refine ⟨⟨x.le.trans l, fun a z e n => ?_⟩, ⟨fun a z e => ?_, fun n c e => ?_, R1.df, R1.inj, fun n a e => ?_⟩, l⟩
  · obtain ⟨e1, e2⟩ := x.k a z e n
    refine ⟨e1, fun q => e2 ?_⟩
    rcases q with q | q
    · refine .inl fun y => q ?_
      show upd W1.F D o a = none
      rw [upd_ne (ne_of_none e h0)]
      exact y
    · exact .inr q
  · by_cases q : a = D
    · subst q
      have e : upd W1.F a o a = some z := e
      rw [upd_same] at e
      rw [hD]
      exact e
    · have e : upd W1.F D o a = some z := e
      rw [upd_ne q] at e
      exact R1.fz a z e
  · obtain ⟨a, z, h1, h2, h3⟩ := R1.lv n c e
    exact ⟨a, z, h1, h2, h3.le l⟩
  · show upd W1.F D o a = none
    rw [upd_ne fun q => nO (.inr ⟨n, by rw [← q]; exact e⟩)]
    exact R1.sep n a e
theorem adoptM (x : Ext W0 H0 W1 H) (R1 : Rel K mg W1 S1 H) {D : Addr} {o : HO} {c : Cell} (h0 : H0 D = none) (hD : H D = some o) (nO : ¬ Own W1 D) (q : CR K mg W1 c o) : Ext W0 H0 (W1.pl S1.length D) H ∧ Rel K mg (W1.pl S1.length D) (S1 ++ [c]) H := by
  have l : Le W1 (W1.pl S1.length D) := ⟨fun _ _ e => e, fun n a e => by
    show (if n = S1.length then some D else W1.r n) = some a
    rw [if_neg (Nat.ne_of_lt (R1.df n a e))]
    exact e⟩
  have at_ : ∀ n a, (W1.pl S1.length D).r n = some a → (n = S1.length ∧ a = D) ∨ (n < S1.length ∧ W1.r n = some a) := fun n a e => by
    have e : (if n = S1.length then some D else W1.r n) = some a := e
    by_cases z : n = S1.length
    · rw [if_pos z] at e
      cases e
      exact .inl ⟨z, rfl⟩
    · rw [if_neg z] at e
      exact .inr ⟨R1.df n a e, e⟩
  refine ⟨⟨x.le.trans l, fun a z e n => ?_⟩, ⟨R1.fz, fun n c' e => ?_, fun n a e => ?_, fun n m a e1 e2 => ?_, fun n a e => ?_⟩⟩
  · obtain ⟨e1, e2⟩ := x.k a z e n
    refine ⟨e1, fun q => e2 ?_⟩
    rcases q with q | ⟨m, q⟩
    · exact .inl q
    · rcases at_ m a q with ⟨_, y⟩ | ⟨_, y⟩
      · exact absurd y (ne_of_none e h0)
      · exact .inr ⟨m, y⟩
  · by_cases z : n < S1.length
    · rw [List.getElem?_append_left z] at e
      obtain ⟨a, y, h1, h2, h3⟩ := R1.lv n c' e
      exact ⟨a, y, l.r _ _ h1, h2, h3.le l⟩
    · have hn : n = S1.length := by
        obtain ⟨z2, _⟩ := List.getElem?_eq_some_iff.mp e
        rw [List.length_append, List.length_singleton] at z2
        omega
      subst hn
      rw [List.getElem?_append_right (Nat.le_refl _), Nat.sub_self] at e
      have e : some c = some c' := e
      cases e
      exact ⟨D, o, pl_at, hD, q.le l⟩
  · rw [List.length_append, List.length_singleton]
    rcases at_ n a e with ⟨z, _⟩ | ⟨z, _⟩ <;> omega
  · rcases at_ n a e1 with ⟨z1, y1⟩ | ⟨z1, y1⟩ <;> rcases at_ m a e2 with ⟨z2, y2⟩ | ⟨z2, y2⟩
    · rw [z1, z2]
    · exact absurd (.inr ⟨m, by rw [← y1]; exact y2⟩) nO
    · exact absurd (.inr ⟨n, by rw [← y2]; exact y1⟩) nO
    · exact R1.inj n m a y1 y2
  · rcases at_ n a e with ⟨z, y⟩ | ⟨z, y⟩
    · subst y
      cases g : W1.F a with
      | none => exact g
      | some z => exact absurd (.inl (by rw [g]; exact fun z => nomatch z)) nO
    · exact R1.sep n a y
end
end Mi

namespace Mi
open PySem PySem.Spec PyProof.Rows L2
open Classical
section
variable {X : Cx} {C : SC} {N : Nms} {R : Run} {n : Nat}
/-! ### lists of expressions -/
theorem sl_nil : SL .enil := fun N R n C es ok X x => by
  cases es with
  | cons _ _ => cases ok
  | nil =>
    refine pa_nil.imp fun σ H Q ⟨W, env, S, vs, S', r, E, e, p⟩ => ?_
    cases e
    exact p _ _ [] (Ext.refl _ _) r .nil
theorem sl_cons {a r : ME} (ha : SE a) (hr : SL r) : SL (.econs a r) := fun N R n C es ok X x => by
  cases es with
  | nil => cases ok
  | cons y ys =>
    have ok : (notStar y && (okE N a C y && okL N r C ys)) = true := ok
    obtain ⟨h1, h2⟩ := and_t ok
    obtain ⟨h2, h3⟩ := and_t h2
    refine (pa_cons (ha N R n C y h2 X x).1 (hr N R n C ys h3 X x) (star_of h1)).imp fun σ H Q ⟨W, env, S, vs, S', r, E, e, p⟩ => ?_
    dsimp only [evE] at e
    split at e
    · rename_i z S1 e1
      split at e
      · rename_i ws S2 e2
        cases e
        exact ⟨W, env, S, _, _, r, E, e1, fun W1 H1 u1 x1 R1 r1 => ⟨W1, env, S1, _, _, R1, E.ext x1, e2, fun W2 H2 us x2 R2 r2 => p _ _ _ (x1.trans x2) R2 (.cons (r1.le x2.le) r2)⟩⟩
      · cases e
    · cases e
theorem sk_nil : SK .enil := fun N R n C es ok X x => by
  cases es with
  | cons _ _ => cases ok
  | nil => exact ⟨fun pos pins s σ H Q I ⟨W, env, S, vs, S', r, E, e, p⟩ => by
      cases e
      exact pk_nil.run pos pins s σ H Q I (p _ _ [] (Ext.refl _ _) r .nil)⟩
theorem sk_cons {a r : ME} (ha : SE a) (hr : SK r) : SK (.econs a r) := fun N R n C es ok X x => by
  cases es with
  | nil => cases ok
  | cons y ys =>
    obtain ⟨nm, v, kp⟩ := y
    have ok : (okE N a C v && okK N r C ys) = true := ok
    obtain ⟨h2, h3⟩ := and_t ok
    refine ⟨fun pos pins s σ H Q I ⟨W, env, S, vs, S', r, E, e, p⟩ => (pk_cons (ha N R n C v h2 X x).1 (hr N R n C ys h3 X x)).run pos pins s σ H Q I ?_⟩
    dsimp only [evE] at e
    split at e
    · rename_i z S1 e1
      split at e
      · rename_i ws S2 e2
        cases e
        exact ⟨W, env, S, _, _, r, E, e1, fun W1 H1 u1 x1 R1 r1 => ⟨W1, env, S1, _, _, R1, E.ext x1, e2, fun W2 H2 us x2 R2 r2 => p _ _ _ (x1.trans x2) R2 (.cons (r1.le x2.le) r2)⟩⟩
      · cases e
    · cases e
theorem s_tup {es : ME} (h : SL es) : SE (.tup es) := SE.of_val fun N R n C e ok X x => by
  cases e with
  | Tuple xs k q =>
    refine ⟨(pe_tup (h N R n C xs ok X x)).imp fun σ H Q ⟨W, env, S, v, S', r, E, e, p⟩ => ?_, fun _ => rfl⟩
    dsimp only [evE] at e
    split at e
    · rename_i ws S1 e1
      split at e
      · rename_i c
        cases e
        exact ⟨W, env, S, _, _, r, E, e1, fun W1 H1 us x1 R1 r1 => ⟨by rw [← r1.length]; exact c, (p.after x1).newT R1 r1⟩⟩
      · cases e
    · cases e
  | _ => cases ok
theorem s_lst {mu : Bool} {es : ME} (h : SL es) : SE (.lst mu es) := SE.of_val fun N R n C e ok X x => by
  cases e with
  | List xs q =>
    refine ⟨(pe_lst (h N R n C xs ok X x)).imp fun σ H Q ⟨W, env, S, v, S', r, E, e, p⟩ => ?_, fun _ => rfl⟩
    dsimp only [evE] at e
    split at e
    · rename_i ws S1 e1
      split at e
      · rename_i c
        refine ⟨W, env, S, _, _, r, E, e1, fun W1 H1 us x1 R1 r1 => ⟨by rw [← r1.length]; exact c, fun a ha => ?_⟩⟩
        split at e
        · cases e
          obtain ⟨R2, x2⟩ := R1.newM ha (.lst r1)
          exact p _ _ _ (x1.trans x2) R2 (.ref pl_at)
        · cases e
          exact (p.after x1).newL R1 r1 a ha
      · cases e
    · cases e
  | _ => cases ok
/-! ### slices -/
theorem cut_rel {W : Wd} {K : PySem.W.Frag} {mg : Str → Option Value} {vs : List Val} {us : List V} (q : VRs K mg W vs us) (lo hi : Option Int) : VRs K mg W (cutM vs lo hi) (cutV us lo hi) := by
  unfold cutM cutV
  rw [q.length]
  exact (q.dp _).tk _
theorem cut_whole {vs : List Val} {lo hi : Option Int} (h : HT.sIx vs.length 0 lo = 0 ∧ HT.sIx vs.length vs.length hi = vs.length) : cutM vs lo hi = vs := by
  unfold cutM
  rw [h.1, h.2]
  simp
def rdO (K : PySem.W.Frag) (mg : Str → Option Value) (R : Run) (m : ME) : TO := fun σ H Q => ∃ W env S o S', Rel K mg W S H ∧ ER K mg W env σ ∧ prt (isNul m) S (evE R m env S) = some (o, S') ∧ ∀ W' H', Ext W H W' H' → Rel K mg W' S' H' → Q o H'
theorem s_part0 {m : ME} (ok : isNul m = true) : PO X none (rdO X.K X.mg R m) := by
  refine ⟨fun pins s σ H Q I ⟨W, env, S, o, S', r, E, e, p⟩ => po_none.run pins s σ H Q I ?_⟩
  unfold prt at e
  rw [if_pos ok] at e
  cases e
  exact p _ _ (Ext.refl _ _) r
theorem s_part1 {m : ME} (h : SE m) {y : Expr} (ok : okE N m C y = true) (x : XOk X C N R n) : PO X (some y) (rdO X.K X.mg R m) := by
  refine ⟨fun pins s σ H Q I ⟨W, env, S, o, S', r, E, e, p⟩ => (po_some (h N R n C y ok X x).1).run pins s σ H Q I ?_⟩
  have nn : isNul m = false := by
    cases m with
    | nul => cases y <;> cases ok
    | _ => rfl
  unfold prt at e
  rw [nn, if_neg Bool.false_ne_true] at e
  split at e
  · rename_i i S1 e1
    cases e
    refine ⟨W, env, S, _, _, r, E, e1, fun W1 H1 u1 x1 R1 r1 => ?_⟩
    cases r1
    exact ⟨i, rfl, p _ _ x1 R1⟩
  · cases e
theorem s_sl {a lo hi : ME} (ha : SE a) (hl : SE lo) (hh : SE hi) : SE (.sl a lo hi) := SE.of_val fun N R n C e ok X x => by
  cases e with
  | Subscript l r q =>
    cases r with
    | Slice lo' hi' st q2 =>
      cases st with
      | some _ => cases ok
      | none =>
        have parts : PE X l (rdE X.K X.mg R a) ∧ PO X lo' (rdO X.K X.mg R lo) ∧ PO X hi' (rdO X.K X.mg R hi) := by
          cases lo' with
          | none =>
            cases hi' with
            | none =>
              have ok : (okE N a C l && (isNul lo && isNul hi)) = true := ok
              exact ⟨(ha N R n C l (and_t ok).1 X x).1, s_part0 (and_t (and_t ok).2).1, s_part0 (and_t (and_t ok).2).2⟩
            | some z =>
              have ok : (okE N a C l && (isNul lo && okE N hi C z)) = true := ok
              exact ⟨(ha N R n C l (and_t ok).1 X x).1, s_part0 (and_t (and_t ok).2).1, s_part1 hh (and_t (and_t ok).2).2 x⟩
          | some y =>
            cases hi' with
            | none =>
              have ok : (okE N a C l && (okE N lo C y && isNul hi)) = true := ok
              exact ⟨(ha N R n C l (and_t ok).1 X x).1, s_part1 hl (and_t (and_t ok).2).1 x, s_part0 (and_t (and_t ok).2).2⟩
            | some z =>
              have ok : (okE N a C l && (okE N lo C y && okE N hi C z)) = true := ok
              exact ⟨(ha N R n C l (and_t ok).1 X x).1, s_part1 hl (and_t (and_t ok).2).1 x, s_part1 hh (and_t (and_t ok).2).2 x⟩
        obtain ⟨pa, pl, ph⟩ := parts
        refine ⟨(pe_slice (sl_list.or sl_tupA) pa pl ph).imp fun σ H Q ⟨W, env, S, v, S', r, E, e, p⟩ => ?_, fun _ => rfl⟩
        dsimp only [evE] at e
        split at e
        · rename_i y S1 e1
          split at e
          · rename_i o1 S2 e2
            split at e
            · rename_i o2 S3 e3
              obtain ⟨w, e4, e5⟩ := Option.map_eq_some_iff.mp e
              cases e5
              refine ⟨W, env, S, _, _, r, E, e1, fun W1 H1 u1 x1 R1 r1 => ⟨W1, env, S1, _, _, R1, E.ext x1, e2, fun W2 H2 x2 R2 => ⟨W2, env, S2, _, _, R2, (E.ext x1).ext x2, e3, fun W3 H3 x3 R3 => ?_⟩⟩⟩
              have r3 := (r1.le x2.le).le x3.le
              have pp := p.after ((x1.trans x2).trans x3)
              unfold slV at e4
              split at e4
              · rename_i vs
                cases e4
                cases r3 with
                | @tup a' _ us g q =>
                  refine .inr ⟨a', us, rfl, SqT.of (R3.fz _ _ g), fun hw => ?_, fun _ => pp.newT R3 (cut_rel q _ _)⟩
                  rw [← q.length] at hw
                  rw [cut_whole hw] at pp
                  exact pp.here R3 (.tup g q)
              · cases e4
              · obtain ⟨vs, e5, e6⟩ := Option.map_eq_some_iff.mp e4
                subst e6
                obtain ⟨a', us, rfl, hs, q⟩ := R3.seqL r3 e5
                exact .inl ⟨a', us, rfl, hs, pp.newL R3 (cut_rel q _ _)⟩
            · cases e
          · cases e
        · cases e
    | _ => cases ok
  | _ => cases ok
end
end Mi

namespace Mi
open PySem PySem.Spec PyProof.Rows L2
open Classical
section
variable {X : Cx} {C : SC} {N : Nms} {R : Run} {n : Nat}
theorem okL_star {m : ME} {e : Expr} {es : List Expr} (h : okL N m C (e :: es) = true) : notStar e = true ∧ ∃ r, okL N r C es = true := by
  cases m with
  | econs a r => exact ⟨(and_t h).1, r, (and_t (and_t h).2).2⟩
  | _ => cases h
theorem stars : ∀ {es : List Expr} {m : ME} {env : Env}, okL N m C es = true → ∀ y ∈ starEach es env, y.1 = false
  | [], _, _, _, y, hy => by cases hy
  | e :: es, m, env, h, y, hy => by
    obtain ⟨h1, r, h2⟩ := okL_star h
    rw [star_of h1] at hy
    rcases List.mem_cons.mp hy with rfl | hy
    · rfl
    · exact stars h2 y hy
theorem no_stars {es : List Expr} {m : ME} {env : Env} {pos : Pos} (h : okL N m C es = true) : (backTo pos (starEach es env)).any (·.1) = false := by
  rw [List.any_eq_false]
  intro y hy
  obtain ⟨z, hz, rfl⟩ := List.mem_map.mp (show y ∈ (starEach es env).map _ from hy)
  have := stars h z hz
  show ¬ z.1 = true
  rw [this]
  exact Bool.false_ne_true
theorem few_args {es : List Expr} {m : ME} {env : Env} {pos : Pos} (h : okL N m C es = true) (hl : es.length < 29) :
    ((backTo pos (starEach es env)).all (fun x => !x.1) && (backToKw pos (keywordEach [] env)).all (fun x => x.1.isSome) && decide (es.length + ([] : List Keyword).length + (if ([] : List Keyword).isEmpty then 0 else 1) < 30)) = true := by
  rw [Bool.and_eq_true, Bool.and_eq_true]
  refine ⟨⟨?_, rfl⟩, decide_eq_true (by show es.length + 0 + 0 < 30; omega)⟩
  rw [List.all_eq_true]
  intro y hy
  obtain ⟨z, hz, rfl⟩ := List.mem_map.mp (show y ∈ (starEach es env).map _ from hy)
  have := stars h z hz
  show (!z.1) = true
  rw [this]
  rfl
theorem okL_nil {m : ME} (h : okL N m C [] = true) {env : Env'} {S : Sto} : evE R m env S = some (.tup [], S) := by
  cases m with
  | enil => rfl
  | _ => cases h
/-- the body of a def's call -/
theorem call_rd {K : PySem.W.Frag} {mg : Str → Option Value} {c f : String} {es : ME} {σ : L2.St} {H : Hp} {Q : VK} {E0 : XK} (h : ∃ W env S vs S1 v S', Rel K mg W S H ∧ ER K mg W env σ ∧ evE R es env S = some (.tup vs, S1) ∧ R.call c f vs S1 = some (v, S') ∧ Post K mg W H S' v Q) :
    tCall (spI K mg R.call c f) [] E0 (rdA K mg R es) σ H Q := by
  obtain ⟨W, env, S, vs, S1, v, S', r, E, e1, e2, p⟩ := h
  refine ⟨W, env, S, vs, S1, r, E, e1, fun W1 H1 us x1 R1 r1 => ?_⟩
  show spI K mg R.call c f (us ++ []) H1 Q E0
  rw [List.append_nil]
  exact ⟨W1, S1, vs, v, S', R1, r1, e2, p.after x1⟩
theorem s_call {f : String} {es : ME} (h : SL es) : SE (.call f es) := SE.of_val fun N R n C e ok X x => by
  cases e with
  | Call fn xs ks q =>
    cases fn with
    | Name y p =>
      cases ks with
      | cons _ _ => cases ok
      | nil =>
        have ok : (decide (Str.ofString f = y) && (decide (f ∈ N.fns) && (C.gl y && (plainN y && okL N es C xs)))) = true := ok
        obtain ⟨z1, j1⟩ := and_t ok
        cases dec_t z1
        obtain ⟨z2, j2⟩ := and_t j1
        obtain ⟨z3, j3⟩ := and_t j2
        obtain ⟨z4, z5⟩ := and_t j3
        obtain ⟨a, fd, ps, g1, g2, g3, g4⟩ := x.g.fn f (dec_t z2)
        have rd : ∀ σ H Q, rdE X.K X.mg R (.call f es) σ H Q → ∃ W env S vs S1 v S', Rel X.K X.mg W S H ∧ ER X.K X.mg W env σ ∧ evE R es env S = some (.tup vs, S1) ∧ R.call "" f vs S1 = some (v, S') ∧ Post X.K X.mg W H S' v Q := by
          rintro σ H Q ⟨W, env, S, v, S', r, E, e, p⟩
          dsimp only [evE] at e
          split at e
          · exact ⟨W, env, S, _, _, v, S', r, E, ‹_›, e, p⟩
          · cases e
        refine ⟨?_, fun _ => by cases xs <;> rfl⟩
        cases xs with
        | nil =>
          refine (pe_call0 g4 (x.room.mono (Nat.le_succ n)) (x.gl z3) g1 g2 g3 .nil pass0 (plain1 z4)).imp fun σ H Q q => ?_
          obtain ⟨W, env, S, vs, S1, v, S', r, E, e1, e2, p⟩ := rd σ H Q q
          rw [okL_nil z5] at e1
          cases e1
          exact ⟨W, _, [], v, S', r, .nil, e2, p⟩
        | cons z zs =>
          obtain ⟨i1, r', i2⟩ := okL_star z5
          exact (pe_call g4 (x.room.mono (Nat.le_succ n)) (x.gl z3) g1 g2 g3 .nil pass0 (h N R n C _ z5 X x) (plain1 z4) (star_of i1) (no_stars i2)).imp fun σ H Q q => call_rd (rd σ H Q q)
    | _ => cases ok
  | _ => cases ok
theorem kw_all {ks : List Keyword} {nm : List Str} {env : Env} {pos : Pos} (h : ks.map (·.arg) = nm.map some) : (backToKw pos (keywordEach ks env)).all (·.1.isSome) = true ∧ (backToKw pos (keywordEach ks env)).filterMap (·.1) = nm ∧ (backToKw pos (keywordEach ks env)).any (·.1.isNone) = false := by
  induction ks generalizing nm with
  | nil =>
    cases nm with
    | nil => exact ⟨rfl, rfl, rfl⟩
    | cons _ _ => cases h
  | cons k ks ih =>
    obtain ⟨a, v, kp⟩ := k
    cases nm with
    | nil => cases h
    | cons b nm =>
      obtain ⟨h1, h2⟩ := List.cons.inj h
      have h1 : a = some b := h1
      subst h1
      obtain ⟨i1, i2, i3⟩ := ih h2
      refine ⟨?_, ?_, ?_⟩
      · show (true && (backToKw pos (keywordEach ks env)).all (·.1.isSome)) = true
        rw [i1]
        rfl
      · show b :: (backToKw pos (keywordEach ks env)).filterMap (·.1) = b :: nm
        rw [i2]
      · show (false || (backToKw pos (keywordEach ks env)).any (·.1.isNone)) = false
        rw [i3]
        rfl
theorem s_callk {f : String} {es kws : ME} {ks : List Str} (h : SL es) (hk : SK kws) : SE (.callk f es ks kws) := SE.of_val fun N R n C e ok X x => by
  cases e with
  | Call fn xs kwds q =>
    cases fn with
    | Name y p =>
      have ok : (decide (Str.ofString f = y) && (decide ((f, ks) ∈ N.kfns) && (C.gl y && (plainN y && (okL N es C xs && (!xs.isEmpty && (okK N kws C kwds && decide (kwds.map (·.arg) = ks.map some)))))))) = true := ok
      obtain ⟨z1, j1⟩ := and_t ok
      cases dec_t z1
      obtain ⟨z2, j2⟩ := and_t j1
      obtain ⟨z3, j3⟩ := and_t j2
      obtain ⟨z4, j4⟩ := and_t j3
      obtain ⟨z5, j5⟩ := and_t j4
      obtain ⟨z6, j6⟩ := and_t j5
      obtain ⟨z7, z8⟩ := and_t j6
      obtain ⟨a, fd, ps, g1, g2, g3, g4⟩ := x.g.kfn f ks (dec_t z2)
      cases xs with
      | nil => cases z6
      | cons z zs =>
        obtain ⟨i1, r', i2⟩ := okL_star z5
        have kk := kw_all (env := X.env) (pos := q) (dec_t z8)
        refine ⟨(pe_callK g4 (x.room.mono (Nat.le_succ n)) (x.gl z3) g1 g2 g3 pass0 (h N R n C _ z5 X x) (hk N R n C _ z7 X x) kk.1 kk.2.1 (plain1 z4) (star_of i1) (by rw [no_stars z5, kk.2.2]; rfl)).imp fun σ H Q ⟨W, env, S, v, S', r, E, e, p⟩ => ?_, fun _ => rfl⟩
        dsimp only [evE] at e
        split at e
        · rename_i vs S1 e1
          split at e
          · rename_i ws S2 e2
            exact ⟨W, env, S, _, _, r, E, e1, fun W1 H1 us x1 R1 r1 => ⟨W1, env, S1, _, _, R1, E.ext x1, e2, fun W2 H2 zs x2 R2 r2 => ⟨W2, S2, vs ++ ws, v, S', R2, (r1.le x2.le).app r2, e, p.after (x1.trans x2)⟩⟩⟩
          · cases e
        · cases e
    | _ => cases ok
  | _ => cases ok
theorem new_rd {K : PySem.W.Frag} {mg : Str → Option Value} {c : String} {es : ME} {Cl : Addr} {σ : L2.St} {H : Hp} {Q : VK} {E0 : XK} {ta : TA} (hc : mg (Str.ofString c) = some (.ref Cl)) {W : Wd} {S : Sto} {vs : List Val} {us : List V} {v : Val} {S' : Sto}
    (R1 : Rel K mg W S H) (r1 : VRs K mg W vs us) (e : (match R.call c "__init__" (.ref S.length :: vs) (S ++ [.ins c []]) with
      | some (.non, S2) => if R.fz c then leave S2 S.length (.ref S.length) else some (.ref S.length, S2)
      | _ => none) = some (v, S')) (p : Post K mg W H S' v Q) :
    ∀ x dx, H x = none → H dx = none → dx ≠ x → spI K mg R.call c "__init__" (.ref x :: (us ++ [])) (upd (upd H dx (.own x)) x (.ins Cl dx [])) (fun v H2 => v = .non ∧ Q (.ref x) H2) E0 := by
  intro x dx hx hdx ne
  have R2 := R1.updOut (o := .own x) (R1.notOwn hdx)
  have hx2 : (upd H dx (.own x)) x = none := by rw [upd_ne (Ne.symm ne)]; exact hx
  have xx : Ext W H W (upd H dx (.own x)) := ⟨Le.refl W, fun a o h n => ⟨by rw [upd_ne (ne_of_none h hdx)]; exact h, n⟩⟩
  obtain ⟨R3, x3⟩ := R2.newM (o := .ins Cl dx []) (c := .ins c []) hx2 (.ins hc .nil)
  rw [List.append_nil]
  split at e
  · rename_i S2 e2
    refine ⟨_, _, .ref S.length :: vs, .non, S2, R3, .cons (.ref pl_at) (r1.le (xx.trans x3).le), e2, fun W4 H4 u x4 R4 r4 => ?_⟩
    have all := (xx.trans x3).trans x4
    have rv : VR K mg W4 (.ref S.length) (.ref x) := .ref (x4.le.r _ _ pl_at)
    cases r4
    refine ⟨rfl, ?_⟩
    split at e
    · obtain ⟨W5, x5, R5, r5⟩ := leave_ok R1 all R4 rv e
      exact p _ _ _ x5 R5 r5
    · cases e
      exact p _ _ _ all R4 rv
  · cases e
theorem s_new {c : String} {es : ME} (h : SL es) : SE (.new c es) := SE.of_val fun N R n C e ok X x => by
  cases e with
  | Call fn xs ks q =>
    cases fn with
    | Name y p =>
      cases ks with
      | cons _ _ => cases ok
      | nil =>
        have ok : (decide (Str.ofString c = y) && (decide (c ∈ N.cls) && (C.gl y && (plainN y && okL N es C xs)))) = true := ok
        obtain ⟨z1, j1⟩ := and_t ok
        cases dec_t z1
        obtain ⟨z2, j2⟩ := and_t j1
        obtain ⟨z3, j3⟩ := and_t j2
        obtain ⟨z4, z5⟩ := and_t j3
        obtain ⟨Cl, fi, fd, ps, g1, g2, g3, g4⟩ := x.g.cls c (dec_t z2)
        refine ⟨?_, fun _ => by cases xs <;> rfl⟩
        cases xs with
        | nil =>
          refine (pe_make0 g2 g4 x.room (x.gl z3) g1 g3 .nil pass0 (plain1 z4)).imp fun σ H Q ⟨W, env, S, v, S', r, E, e, p⟩ => ?_
          dsimp only [evE] at e
          rw [okL_nil z5] at e
          exact new_rd (es := es) (σ := σ) (ta := tNil) g1 r .nil e p
        | cons z zs =>
          obtain ⟨i1, r', i2⟩ := okL_star z5
          refine (pe_make g2 g4 x.room (x.gl z3) g1 g3 .nil pass0 (h N R n C _ z5 X x) (plain1 z4) (star_of i1) (no_stars i2)).imp fun σ H Q ⟨W, env, S, v, S', r, E, e, p⟩ => ?_
          dsimp only [evE] at e
          split at e
          · rename_i vs S1 e1
            exact ⟨W, env, S, _, _, r, E, e1, fun W1 H1 us x1 R1 r1 => new_rd (es := es) (σ := σ) (ta := tNil) g1 R1 r1 e (p.after x1)⟩
          · cases e
    | _ => cases ok
  | _ => cases ok
/-- an instance's class -/
theorem cls_of {K : PySem.W.Frag} {mg : Str → Option Value} {W : Wd} {S : Sto} {H : Hp} (R1 : Rel K mg W S H) {v : Val} {u : V} {c : String} {fs : List (String × Val)} (r : VR K mg W v u) (e : clsOf S v = some (c, fs)) :
    ∃ a Cl dx us, u = .ref a ∧ H a = some (.ins Cl dx us) ∧ mg (Str.ofString c) = some (.ref Cl) ∧ VRf K mg W fs us := by
  unfold clsOf at e
  split at e
  · cases e
    cases r with
    | ins h hc q => exact ⟨_, _, _, _, rfl, R1.fz _ _ h, hc, q⟩
  · cases r with
    | @ref n a h =>
      obtain ⟨c', o, e1, h2, h3⟩ := R1.cell h
      rw [e1] at e
      cases h3 with
      | ins hc q =>
        cases e
        exact ⟨a, _, _, _, rfl, h2, hc, q⟩
      | _ => cases e
  · cases e
theorem s_fld {o : ME} {f : String} (h : SE o) : SE (.fld o f) := SE.of_val fun N R n C e ok X x => by
  cases e with
  | Attribute r a q =>
    have ok : (decide (Str.ofString f = a) && (okE N o C r && recv r)) = true := ok
    obtain ⟨z1, j1⟩ := and_t ok
    cases dec_t z1
    obtain ⟨z2, z3⟩ := and_t j1
    refine ⟨(pe_fld (h N R n C r z2 X x).1 (base_of z3)).imp fun σ H Q ⟨W, env, S, v, S', r, E, e, p⟩ => ?_, fun _ => rfl⟩
    dsimp only [evE] at e
    split at e
    · rename_i y S1 e1
      split at e
      · rename_i c fs e2
        split at e
        · rename_i cf
          obtain ⟨w, e3, e4⟩ := Option.map_eq_some_iff.mp e
          cases e4
          refine ⟨W, env, S, _, _, r, E, e1, fun W1 H1 u1 x1 R1 r1 => ?_⟩
          obtain ⟨a, Cl, dx, us, rfl, ha, hc, q⟩ := cls_of R1 r1 e2
          obtain ⟨u, e5, ru⟩ := (q.look f).1 _ e3
          obtain ⟨k1, k2⟩ := x.g.fd c f Cl cf hc
          exact ⟨a, Cl, dx, us, u, rfl, ha, k1, k2, e5, (p.after x1).here R1 ru⟩
        · cases e
      · cases e
    · cases e
  | _ => cases ok
theorem call_tree {o : Expr} {m : Str} {es : List Expr} {env : Env} {apos pos : Pos} {me : ME} (hr : recv o = true) (hL : okL N me C es = true) (hl : es.length < 29) (hp : (apos.endLine == pos.line) = true) :
    eval (.Call (.Attribute o m apos) es [] pos) env = (do
      let ov ← eval o env
      standAt apos.atName
      let (f, first) ← holding [ov] (getMethod ov m (plainOf o env))
      callWith pos f first (backTo pos (starEach es env)) (backToKw pos (keywordEach [] env))) := by
  show (do
    let ov ← attributeBase o m env (eval o env)
    standAt apos.atName
    methodCall o m apos pos env ov (es.length + ([] : List Keyword).length) (backTo pos (starEach es env)) (backToKw pos (keywordEach [] env))) = _
  rw [base_of hr]
  have f := few_args (env := env) (pos := pos) hL hl
  congr 1
  funext ov
  congr 1
  funext _
  exact mcall_line f hp
theorem s_meth {o es : ME} {m : String} (h : SE o) (hs : SL es) : SE (.meth o m es) := SE.of_val fun N R n C e ok X x => by
  cases e with
  | Call fn xs ks q =>
    cases fn with
    | Attribute r a apos =>
      cases ks with
      | cons _ _ => cases ok
      | nil =>
        have ok : (decide (Str.ofString m = a) && (okE N o C r && (recv r && (okL N es C xs && (decide (xs.length < 29) && (apos.endLine == q.line)))))) = true := ok
        obtain ⟨z1, j1⟩ := and_t ok
        cases dec_t z1
        obtain ⟨z2, j2⟩ := and_t j1
        obtain ⟨z3, j3⟩ := and_t j2
        obtain ⟨z4, j4⟩ := and_t j3
        obtain ⟨z5, z6⟩ := and_t j4
        refine ⟨PE.pick fun σ H Q ⟨W, env, S, v, S', r, E, e, p⟩ => ?_, fun _ => by cases xs <;> rfl⟩
        dsimp only [evE] at e
        split at e
        · rename_i y S1 e1
          split at e
          · rename_i c fs e2
            split at e
            · rename_i cc
              split at e
              · rename_i vs S2 e3
                obtain ⟨Cl, fa, fd, ps, g1, g2, g3, g4, g5⟩ := x.g.meth c m _ _ _ e cc.2
                have tree := call_tree (env := X.env) (m := Str.ofString m) (apos := apos) (pos := q) z3 z4 (dec_t z5) z6
                have look : ∀ {W1 : Wd} {H1 : Hp} {u1 : V}, Rel X.K X.mg W1 S1 H1 → VR X.K X.mg W1 y u1 → ∃ a dx us, u1 = .ref a ∧ H1 a = some (.ins Cl dx us) ∧ us.lookup (Str.ofString m) = none := by
                  intro W1 H1 u1 R1 r1
                  obtain ⟨a, Cl', dx, us, rfl, ha, hc, q⟩ := cls_of R1 r1 e2
                  rw [g1] at hc
                  cases hc
                  refine ⟨a, dx, us, rfl, ha, (q.look m).2 ?_⟩
                  have := cc.1
                  cases g : fs.lookup m with
                  | none => rfl
                  | some _ => rw [g] at this; cases this
                cases xs with
                | nil =>
                  rw [okL_nil z4] at e3
                  cases e3
                  refine ⟨_, pe_meth0 (h N R n C _ z2 X x).1 g2 g3 g5 (x.room.mono (Nat.le_succ n)) g4 .nil pass0 tree, ⟨W, env, S, _, _, r, E, e1, fun W1 H1 u1 x1 R1 r1 => ?_⟩⟩
                  obtain ⟨a, dx, us, rfl, ha, hn⟩ := look R1 r1
                  exact ⟨a, dx, us, rfl, ha, hn, W1, _, [y], v, S', R1, .cons r1 .nil, e, p.after x1⟩
                | cons z zs =>
                  obtain ⟨i1, r', i2⟩ := okL_star z4
                  refine ⟨_, pe_meth (h N R n C _ z2 X x).1 g2 g3 g5 (x.room.mono (Nat.le_succ n)) g4 .nil pass0 (hs N R n C _ z4 X x) (star_of i1) (no_stars i2) tree, ⟨W, env, S, _, _, r, E, e1, fun W1 H1 u1 x1 R1 r1 => ?_⟩⟩
                  obtain ⟨a, dx, us, rfl, ha, hn⟩ := look R1 r1
                  refine ⟨a, dx, us, rfl, ha, hn, W1, env, S1, _, _, R1, E.ext x1, e3, fun W2 H2 zs x2 R2 r2 => ?_⟩
                  show spI X.K X.mg R.call c m (V.ref a :: (zs ++ [])) H2 Q E0
                  rw [List.append_nil]
                  exact ⟨W2, S2, y :: vs, v, S', R2, .cons (r1.le x2.le) r2, e, p.after (x1.trans x2)⟩
              · cases e
            · cases e
          · cases e
        · cases e
    | _ => cases ok
  | _ => cases ok
end
end Mi

namespace Mi
open PySem PySem.Spec PyProof.Rows L2
open Classical
section
variable {X : Cx} {C : SC} {N : Nms} {R : Run} {n : Nat}
theorem bi_free : ∀ b : Bi, b.nm ∈ freeNames := by
  intro b
  cases b <;> decide +kernel
theorem bi_boot : ∀ b : Bi, bootBuiltins b.nm = some b.fv := by
  intro b
  cases b <;> decide +kernel
theorem bi_name : ∀ b : Bi, b.nm ≠ "__name__" := by
  intro b
  cases b <;> decide +kernel
theorem bi_debug : ∀ b : Bi, (b.nm == ("__debug__" : Str)) = false := by
  intro b
  cases b <;> decide +kernel
theorem pe_bi {b : Bi} (hb : b ≠ .maxd) {r : List V → Hp → VK → Prop} (hr : CallR X b.fv r) {e : Expr} {es : List Expr} {p pos : Pos} {t : TA} (hg : Gl X b.nm) (hm : X.mg b.nm = none) (ha : PA X (e :: es) t)
    (he : starEach (e :: es) X.env = (false, eval e X.env) :: starEach es X.env) (hpl : (backTo pos (starEach es X.env)).any (·.1) = false) : PE X (.Call (.Name b.nm p) (e :: es) [] pos) (tCB r t) := by
  cases b with
  | maxd => exact absurd rfl hb
  | len => exact pe_callB hr hg hm (bi_boot _) ha (bi_name .len) (bi_debug .len) he hpl
  | abs => exact pe_callB hr hg hm (bi_boot _) ha (bi_name .abs) (bi_debug .abs) he hpl
  | int => exact pe_callTy hr hg hm (bi_boot _) ha (bi_name .int) (bi_debug .int) he hpl
  | list => exact pe_callTy hr hg hm (bi_boot _) ha (bi_name .list) (bi_debug .list) he hpl
  | tuple => exact pe_callTy hr hg hm (bi_boot _) ha (bi_name .tuple) (bi_debug .tuple) he hpl
  | max => exact pe_callB hr hg hm (bi_boot _) ha (bi_name .max) (bi_debug .max) he hpl
  | min => exact pe_callB hr hg hm (bi_boot _) ha (bi_name .min) (bi_debug .min) he hpl
  | sum => exact pe_callB hr hg hm (bi_boot _) ha (bi_name .sum) (bi_debug .sum) he hpl
  | divmod => exact pe_callB hr hg hm (bi_boot _) ha (bi_name .divmod) (bi_debug .divmod) he hpl
theorem bi_rd {b : Bi} {es : ME} {K : PySem.W.Frag} {mg : Str → Option Value} {σ : L2.St} {H : Hp} {Q : VK} (h : rdE K mg R (.bi b es) σ H Q) : tCB (rBi K mg b) (rdA K mg R es) σ H Q := by
  obtain ⟨W, env, S, v, S', r, E, e, p⟩ := h
  dsimp only [evE] at e
  split at e
  · rename_i vs S1 e1
    obtain ⟨w, e2, e3⟩ := Option.map_eq_some_iff.mp e
    cases e3
    exact ⟨W, env, S, _, _, r, E, e1, fun W1 H1 us x1 R1 r1 => ⟨W1, S', vs, v, R1, r1, e2, p.after x1⟩⟩
  · cases e
theorem s_bi {b : Bi} {es : ME} (h : SL es) (hb : b ≠ .maxd) : SE (.bi b es) := SE.of_val fun N R n C e ok X x => by
  cases e with
  | Call fn xs ks q =>
    cases fn with
    | Name y p =>
      have ok : (decide (b.nm = y) && (C.gl y && (ks.isEmpty && (!xs.isEmpty && okL N es C xs)))) = true := by
        cases b <;> first | exact ok | exact absurd rfl hb
      obtain ⟨z1, j1⟩ := and_t ok
      cases dec_t z1
      obtain ⟨z2, j2⟩ := and_t j1
      obtain ⟨z3, j3⟩ := and_t j2
      obtain ⟨z4, z5⟩ := and_t j3
      cases ks with
      | cons _ _ => cases z3
      | nil =>
        cases xs with
        | nil => cases z4
        | cons z zs =>
          obtain ⟨i1, r', i2⟩ := okL_star z5
          exact ⟨(pe_bi hb (call_bi x.calm b hb) (x.gl z2) (x.g.free _ (bi_free b)) (h N R n C _ z5 X x) (star_of i1) (no_stars i2)).imp fun σ H Q q => bi_rd q, fun _ => rfl⟩
    | _ => cases ok
  | _ => cases ok
/-! ### methods of lists -/
def Bm.id : Bm → String
  | .append => "list.append" | .extend => "list.extend" | .pop => "list.pop" | .popat => "list.pop" | .insert => "list.insert" | .reverse => "list.reverse"
theorem pe_bmZ (b : Bm) {r : V → List V → Hp → VK → Prop} (hm : MtR X b.id r) {o : Expr} {to : TE} {apos pos : Pos} (hp : (apos.endLine == pos.line) = true) (hr : recv o = true) (ho : PE X o to) :
    PE X (.Call (.Attribute o b.nm apos) [] [] pos) (tBM0 X.K "list" r to) := by
  cases b with
  | append => exact pe_bm0 PySem.F.plainAttrs_list PySem.F.slot_list_append PySem.F.type_list_append hm ho (base_of hr) hp
  | extend => exact pe_bm0 PySem.F.plainAttrs_list PySem.F.slot_list_extend PySem.F.type_list_extend hm ho (base_of hr) hp
  | pop => exact pe_bm0 PySem.F.plainAttrs_list PySem.F.slot_list_pop PySem.F.type_list_pop hm ho (base_of hr) hp
  | popat => exact pe_bm0 PySem.F.plainAttrs_list PySem.F.slot_list_pop PySem.F.type_list_pop hm ho (base_of hr) hp
  | insert => exact pe_bm0 PySem.F.plainAttrs_list PySem.F.slot_list_insert PySem.F.type_list_insert hm ho (base_of hr) hp
  | reverse => exact pe_bm0 PySem.F.plainAttrs_list PySem.F.slot_list_reverse PySem.F.type_list_reverse hm ho (base_of hr) hp
theorem pe_bmN (b : Bm) {r : V → List V → Hp → VK → Prop} (hm : MtR X b.id r) {o z : Expr} {zs : List Expr} {to : TE} {t : TA} {apos pos : Pos} {me : ME} (hp : (apos.endLine == pos.line) = true) (hL : okL N me C (z :: zs) = true) (hl : (z :: zs).length < 29) (hr : recv o = true) (ho : PE X o to) (ha : PA X (z :: zs) t) :
    PE X (.Call (.Attribute o b.nm apos) (z :: zs) [] pos) (tBM X.K "list" r to t) := by
  obtain ⟨i1, r', i2⟩ := okL_star hL
  cases b with
  | append => exact pe_bm PySem.F.plainAttrs_list PySem.F.slot_list_append PySem.F.type_list_append hm ho ha (base_of hr) (few_args hL hl) hp (star_of i1) (no_stars i2)
  | extend => exact pe_bm PySem.F.plainAttrs_list PySem.F.slot_list_extend PySem.F.type_list_extend hm ho ha (base_of hr) (few_args hL hl) hp (star_of i1) (no_stars i2)
  | pop => exact pe_bm PySem.F.plainAttrs_list PySem.F.slot_list_pop PySem.F.type_list_pop hm ho ha (base_of hr) (few_args hL hl) hp (star_of i1) (no_stars i2)
  | popat => exact pe_bm PySem.F.plainAttrs_list PySem.F.slot_list_pop PySem.F.type_list_pop hm ho ha (base_of hr) (few_args hL hl) hp (star_of i1) (no_stars i2)
  | insert => exact pe_bm PySem.F.plainAttrs_list PySem.F.slot_list_insert PySem.F.type_list_insert hm ho ha (base_of hr) (few_args hL hl) hp (star_of i1) (no_stars i2)
  | reverse => exact pe_bm PySem.F.plainAttrs_list PySem.F.slot_list_reverse PySem.F.type_list_reverse hm ho ha (base_of hr) (few_args hL hl) hp (star_of i1) (no_stars i2)
/-- what a list's method does -/
def rBm (K : PySem.W.Frag) (mg : Str → Option Value) (b : Bm) : V → List V → Hp → VK → Prop := fun x us H Q => ∃ W S n a ys vs v S', Rel K mg W S H ∧ W.r n = some a ∧ x = .ref a ∧ lstOf S (.ref n) = some ys ∧ VRs K mg W vs us ∧ bm1 S b n ys vs = some (v, S') ∧ Post K mg W H S' v Q
theorem lst_cell {S : Sto} {n : Nat} {ys : List Val} (h : lstOf S (.ref n) = some ys) : S[n]? = some (.lst ys) := by
  dsimp only [lstOf] at h
  split at h
  · cases h
    assumption
  · cases h
theorem mt_bm (b : Bm) : MtR X b.id (rBm X.K X.mg b) := by
  intro pins s σ H x us u uu Q I rx rv h
  obtain ⟨W, S, n, a, ys, vs, v, S', R, hn, rfl, hl, rs, e, p⟩ := h
  obtain ⟨o, hH, c⟩ := R.cellAt hn (lst_cell hl)
  cases c with
  | @lst _ zs q =>
    have wr : ∀ {ws : List Val} {ts : List V}, VRs X.K X.mg W ws ts → Rel X.K X.mg W (S.set n (.lst ws)) (upd H a (.lst ts)) ∧ Ext W H W (upd H a (.lst ts)) := fun q => R.write hn (.lst q)
    unfold bm1 at e
    split at e
    · cases rs
      split at e
      · obtain ⟨y, e1, e2⟩ := Option.map_eq_some_iff.mp e
        cases e2
        obtain ⟨R2, x2⟩ := wr q.dl
        rw [q.length] at e1
        obtain ⟨t, e3, rt⟩ := q.get e1
        exact mt_pop pins s σ H _ _ u uu Q I rx rv ⟨a, zs, t, rfl, rfl, hH, e3, p _ _ _ x2 R2 rt⟩
      · cases e
        obtain ⟨R2, x2⟩ := wr q.rev
        exact mt_reverse pins s σ H _ _ u uu Q I rx rv ⟨a, zs, rfl, rfl, hH, p _ _ _ x2 R2 .non⟩
      · cases e
    · rename_i w
      obtain ⟨t, rfl, rt⟩ := vrs1 rs
      split at e
      · split at e
        · rename_i c
          cases e
          obtain ⟨R2, x2⟩ := wr (q.app (.cons rt .nil))
          exact mt_append pins s σ H _ _ u uu Q I rx rv ⟨a, zs, t, rfl, rfl, hH, by rw [← q.length]; exact c, p _ _ _ x2 R2 .non⟩
        · cases e
      · split at e
        · rename_i ws hw
          split at e
          · rename_i c
            cases e
            obtain ⟨b', ts, rfl, hb, q2⟩ := R.seqM rt hw
            obtain ⟨R2, x2⟩ := wr (q.app q2)
            exact mt_extend pins s σ H _ _ u uu Q I rx rv ⟨a, b', zs, ts, rfl, rfl, hH, hb, by rw [← q.length, ← q2.length]; exact c, p _ _ _ x2 R2 .non⟩
          · cases e
        · cases e
      · split at e
        · rename_i i
          split at e
          · rename_i c
            split at e
            · rename_i k hk
              obtain ⟨y, e1, e2⟩ := Option.map_eq_some_iff.mp e
              cases e2
              obtain ⟨R2, x2⟩ := wr (q.er k)
              obtain ⟨t', e3, rt'⟩ := q.get e1
              cases rt
              exact mt_popAt pins s σ H _ _ u uu Q I rx rv ⟨a, zs, i, k, t', rfl, rfl, hH, c.1, c.2, by rw [← q.length]; exact hk, e3, p _ _ _ x2 R2 rt'⟩
            · cases e
          · cases e
        · cases e
      · cases e
    · rename_i w w2
      obtain ⟨t, t2, rfl, rt, rt2⟩ := vrs2 rs
      split at e
      · split at e
        · rename_i i c
          cases e
          cases rt
          obtain ⟨R2, x2⟩ := wr (ws := insL ys i.toNat w2) (((q.tk i.toNat).app (.cons rt2 .nil)).app (q.dp i.toNat))
          exact mt_insert pins s σ H _ _ u uu Q I rx rv ⟨a, zs, i, t2, rfl, rfl, hH, by rw [← q.length]; exact c.2.2, c.1, c.2.1, p _ _ _ x2 R2 .non⟩
        · cases e
      · cases e
    · cases e
theorem s_bm {b : Bm} {o es : ME} (ho : SE o) (hs : SL es) : SE (.bm b o es) := SE.of_val fun N R n C e ok X x => by
  cases e with
  | Call fn xs ks q =>
    cases fn with
    | Attribute r a apos =>
      cases ks with
      | cons _ _ => cases ok
      | nil =>
        have ok : (decide (b.nm = a) && (okE N o C r && (recv r && (okL N es C xs && (decide (xs.length < 29) && (apos.endLine == q.line)))))) = true := ok
        obtain ⟨z1, j1⟩ := and_t ok
        cases dec_t z1
        obtain ⟨z2, j2⟩ := and_t j1
        obtain ⟨z3, j3⟩ := and_t j2
        obtain ⟨z4, j4⟩ := and_t j3
        obtain ⟨z5, z6⟩ := and_t j4
        have po := (ho N R n C r z2 X x).1
        have tyl : ∀ {W1 : Wd} {S1 : Sto} {H1 : Hp} {m : Nat} {u1 : V} {ys : List Val}, Rel X.K X.mg W1 S1 H1 → VR X.K X.mg W1 (.ref m) u1 → lstOf S1 (.ref m) = some ys → tyV X.K "list" u1 H1 ∧ ∃ a, u1 = .ref a ∧ W1.r m = some a := by
          intro W1 S1 H1 m u1 ys R1 r1 hl
          obtain ⟨a, us, rfl, hs, q⟩ := R1.seqL r1 hl
          cases r1 with
          | ref h => exact ⟨.inl ⟨rfl, us, hs⟩, a, rfl, h⟩
        cases xs with
        | nil =>
          refine ⟨(pe_bmZ b (mt_bm b) z6 z3 po).imp fun σ H Q ⟨W, env, S, v, S', r, E, e, p⟩ => ?_, fun _ => rfl⟩
          dsimp only [evE] at e
          split at e
          · rename_i m S1 e1
            split at e
            · rename_i ys0 e0
              rw [okL_nil z4] at e
              dsimp only at e
              split at e
              · rename_i ys e3
                refine ⟨W, env, S, _, _, r, E, e1, fun W1 H1 u1 x1 R1 r1 => ?_⟩
                obtain ⟨t1, a, rfl, ha⟩ := tyl R1 r1 e3
                exact ⟨t1, W1, _, m, a, ys, [], v, S', R1, ha, rfl, e3, .nil, e, p.after x1⟩
              · cases e
            · cases e
          · cases e
        | cons z zs =>
          refine ⟨(pe_bmN b (mt_bm b) z6 z4 (dec_t z5) z3 po (hs N R n C _ z4 X x)).imp fun σ H Q ⟨W, env, S, v, S', r, E, e, p⟩ => ?_, fun _ => rfl⟩
          dsimp only [evE] at e
          split at e
          · rename_i m S1 e1
            split at e
            · rename_i ys0 e0
              split at e
              · rename_i vs S2 e2
                split at e
                · rename_i ys e3
                  refine ⟨W, env, S, _, _, r, E, e1, fun W1 H1 u1 x1 R1 r1 => ?_⟩
                  obtain ⟨t1, a, rfl, ha⟩ := tyl R1 r1 e0
                  refine ⟨t1, W1, env, S1, _, _, R1, E.ext x1, e2, fun W2 H2 us x2 R2 r2 => ?_⟩
                  exact ⟨W2, S2, m, a, ys, vs, v, S', R2, x2.le.r _ _ ha, rfl, e3, r2, e, p.after (x1.trans x2)⟩
                · cases e
              · cases e
            · cases e
          · cases e
    | _ => cases ok
  | _ => cases ok
/-! ### isinstance, new dicts -/
def tyN : Val → String
  | .non => "NoneType" | .bl _ => "bool" | .int _ => "int" | .str _ => "str" | .tup _ => "tuple" | .tpk _ => "tuple" | _ => "list"
def Ty.s : Ty → String
  | .int => "int" | .bool => "bool" | .str => "str" | .tuple => "tuple" | .list => "list"
theorem ty_boot : ∀ t : Ty, bootBuiltins t.nm = some (.type t.s) := by
  intro t
  cases t <;> decide +kernel
theorem ty_free : ∀ t : Ty, t.nm ∈ freeNames ∧ t.nm ≠ "__name__" ∧ (t.nm == ("__debug__" : Str)) = false := by
  intro t
  cases t <;> decide +kernel
theorem kits : ∀ t : Ty, kitB "NoneType" t.s = some false ∧ kitB "bool" t.s = some (t == .bool || t == .int) ∧ kitB "int" t.s = some (t == .int) ∧ kitB "str" t.s = some (t == .str) ∧ kitB "tuple" t.s = some (t == .tuple) ∧ kitB "list" t.s = some (t == .list) := by
  intro t
  cases t <;> decide +kernel
theorem ty_of {W : Wd} {S : Sto} {H : Hp} (R1 : Rel X.K X.mg W S H) {v : Val} {u : V} {t : Ty} {k : Bool} (r : VR X.K X.mg W v u) (e : tyIs S t v = some k) : TyX X.K H u (.type (tyN v)) ∧ kitB (tyN v) t.s = some k := by
  obtain ⟨k0, k1, k2, k3, k4, k5⟩ := kits t
  unfold tyIs at e
  split at e
  · rename_i m
    cases r with
    | @ref _ a h =>
      obtain ⟨c, o, e1, h2, h3⟩ := R1.cell h
      rw [e1] at e
      cases h3 with
      | lst q =>
        cases e
        exact ⟨.base (.lst h2), k5⟩
      | _ => cases e
  · cases e
    cases r
    exact ⟨.base .non, k0⟩
  · cases e
    cases r
    exact ⟨.base (.bl _), k1⟩
  · cases e
    cases r
    exact ⟨.base (.int _), k2⟩
  · cases e
    cases r
    exact ⟨.base (.str _), k3⟩
  · cases e
    cases r with
    | tup h q => exact ⟨.base (.tup (R1.fz _ _ h)), k4⟩
  · cases e
    cases r with
    | tpk h q =>
      refine ⟨?_, k4⟩
      rcases h with (h | ⟨o, h⟩) | ⟨o, its, m, h, c, _⟩
      · exact .base (.tup (R1.fz _ _ h))
      · exact .fTuple (R1.fz _ _ h)
      · exact .kTuple h c
  · cases e
    cases r with
    | lst h q => exact ⟨.base (.lst (R1.fz _ _ h)), k5⟩
  · cases e
    cases r with
    | lsk h q =>
      refine ⟨?_, k5⟩
      rcases h with (h | ⟨o, h⟩) | ⟨o, its, m, h, c, _⟩
      · exact .base (.lst (R1.fz _ _ h))
      · exact .base (.frz (R1.fz _ _ h))
      · exact .kList h c
  · cases e
theorem s_isi {a : ME} {t : Ty} (h : SE a) : SE (.isi a t) := SE.of_val fun N R n C e ok X x => by
  cases e with
  | Call fn xs ks q =>
    cases fn with
    | Name f p =>
      rcases xs with _ | ⟨y, _ | ⟨z, _ | ⟨_, _⟩⟩⟩
      · cases ok
      · cases ok
      · cases z with
        | Name z zp =>
          cases ks with
          | cons _ _ => cases ok
          | nil =>
            have ok : (decide (f = ("isinstance" : Str)) && (C.gl f && (okE N a C y && (decide (t.nm = z) && C.gl z)))) = true := ok
            obtain ⟨z1, j1⟩ := and_t ok
            cases dec_t z1
            obtain ⟨z2, j2⟩ := and_t j1
            obtain ⟨z3, j3⟩ := and_t j2
            obtain ⟨z4, z5⟩ := and_t j3
            cases dec_t z4
            obtain ⟨f1, f2, f3⟩ := ty_free t
            have ns : notStar y = true := by
              cases y with
              | Starred _ _ => exact (not_star z3).elim
              | _ => rfl
            refine ⟨(pe_callB call_isi (x.gl z2) (x.g.free _ (by decide +kernel)) PyProof.Rows.boot_isinstance (pa_cons (h N R n C y z3 X x).1 (pa_cons (pe_bltn (v := .ty t.s) (x.gl z5) (x.g.free _ f1) (ty_boot t) rfl f2 f3) pa_nil) (star_of ns)) (by decide +kernel) (by decide +kernel) (star_of ns)).imp fun σ H Q ⟨W, env, S, v, S', r, E, e, p⟩ => ?_, fun _ => rfl⟩
            dsimp only [evE] at e
            split at e
            · rename_i w S1 e1
              obtain ⟨k, e2, e3⟩ := Option.map_eq_some_iff.mp e
              cases e3
              refine ⟨W, env, S, _, _, r, E, e1, fun W1 H1 u1 x1 R1 r1 => ?_⟩
              obtain ⟨g1, g2⟩ := ty_of R1 r1 e2
              exact ⟨u1, .ty t.s, _, _, k, rfl, .ty _, g1, kit_ty g2, (p.after x1).here R1 (.bl _)⟩
            · cases e
        | _ => cases ok
      · cases z <;> cases ks <;> cases ok
    | _ => cases ok
  | _ => cases ok
theorem s_dnewT : SE .dnewT := SE.of_val fun N R n C e ok X x => by
  cases e with
  | Dict ks vs q =>
    cases ks with
    | cons _ _ => cases ok
    | nil =>
      cases vs with
      | cons _ _ => cases ok
      | nil =>
        refine ⟨pe_dnewT.imp fun σ H Q ⟨W, env, S, v, S', r, E, e, p⟩ => ?_, fun _ => rfl⟩
        cases e
        intro a ha
        obtain ⟨R2, x2⟩ := r.newM ha (.dT .nil)
        exact p _ _ _ x2 R2 (.ref pl_at)
  | _ => cases ok
theorem s_dnewK : SE .dnewK := SE.of_val fun N R n C e ok X x => by
  cases e with
  | Dict ks vs q =>
    cases ks with
    | cons _ _ => cases ok
    | nil =>
      cases vs with
      | cons _ _ => cases ok
      | nil =>
        refine ⟨pe_dnewK.imp fun σ H Q ⟨W, env, S, v, S', r, E, e, p⟩ => ?_, fun _ => rfl⟩
        cases e
        intro a ha
        obtain ⟨R2, x2⟩ := r.newM ha (.dK .nil)
        exact p _ _ _ x2 R2 (.ref pl_at)
  | _ => cases ok
end
end Mi

namespace Mi
open PySem PySem.Spec PyProof.Rows L2
open Classical
section
variable {X : Cx} {C : SC} {N : Nms} {R : Run} {n : Nat}
/-! ### what is walked -/
theorem it_list {K : PySem.W.Frag} {mg : Str → Option Value} {W : Wd} {a : Addr} {vs : List Val} {us : List V} {src : Option (Nat × Cell)} (h : ∀ W' S' H', Le W W' → Rel K mg W' S' H' → stays src S' → ∃ us, SqL K H' a us ∧ VRs K mg W' vs us) : ItOk K mg W vs src (Itl K a) := by
  intro W' S' H' l R' st
  obtain ⟨us, hs, q⟩ := h W' S' H' l R' st
  refine ⟨fun i v e => ?_, us, hs, by rw [q.length]; exact Nat.le_refl _⟩
  obtain ⟨u, e1, r⟩ := q.get e
  refine ⟨⟨us, u, hs, e1⟩, fun x H'' ⟨eH, y⟩ => ?_⟩
  subst eH
  have e2 := y us hs
  rw [e1] at e2
  cases e2
  exact ⟨W', Ext.refl _ _, R', r⟩
theorem it_tup {K : PySem.W.Frag} {mg : Str → Option Value} {W : Wd} {a : Addr} {vs : List Val} {us : List V} (h : ∀ W' S' H', Le W W' → Rel K mg W' S' H' → ∃ us, SqT K H' a us ∧ VRs K mg W' vs us) : ItOk K mg W vs none (Itt K a) := by
  intro W' S' H' l R' st
  obtain ⟨us, hs, q⟩ := h W' S' H' l R'
  refine ⟨fun i v e => ?_, us, hs, by rw [q.length]; exact Nat.le_refl _⟩
  obtain ⟨u, e1, r⟩ := q.get e
  refine ⟨⟨us, u, hs, e1⟩, fun x H'' ⟨eH, y⟩ => ?_⟩
  subst eH
  have e2 := y us hs
  rw [e1] at e2
  cases e2
  exact ⟨W', Ext.refl _ _, R', r⟩
theorem rngL_get : ∀ (n : Nat) (lo : Int) (i : Nat) (v : Val), (rngL lo n)[i]? = some v → i < n ∧ v = .int (lo + i)
  | 0, _, _, _, h => by simp [rngL] at h
  | n + 1, lo, 0, v, h => by
    simp [rngL] at h
    subst h
    exact ⟨Nat.succ_pos _, by simp⟩
  | n + 1, lo, i + 1, v, h => by
    have h : (rngL (lo + 1) n)[i]? = some v := by simpa [rngL] using h
    obtain ⟨h1, h2⟩ := rngL_get n (lo + 1) i v h
    refine ⟨Nat.succ_lt_succ h1, ?_⟩
    rw [h2]
    congr 1
    omega
theorem rngL_len : ∀ (n : Nat) (lo : Int), (rngL lo n).length = n
  | 0, _ => rfl
  | n + 1, lo => congrArg Nat.succ (rngL_len n (lo + 1))
theorem it_rng {K : PySem.W.Frag} {mg : Str → Option Value} {W : Wd} (lo : Int) (m : Nat) : ItOk K mg W (rngL lo m) none (Itr lo m) := by
  intro W' S' H' l R' st
  refine ⟨fun i v e => ?_, Nat.le_of_eq (rngL_len m lo).symm⟩
  obtain ⟨h1, h2⟩ := rngL_get m lo i v e
  subst h2
  exact ⟨h1, fun x H'' ⟨eH, y⟩ => by
    subst eH
    subst y
    exact ⟨W', Ext.refl _ _, R', .int _⟩⟩
theorem enumL_get : ∀ (vs : List Val) (k i : Nat) (v : Val), (enumL k vs)[i]? = some v → ∃ w, vs[i]? = some w ∧ v = .tup [.int ((k + i : Nat) : Int), w]
  | [], _, _, _, h => by simp [enumL] at h
  | w :: vs, k, 0, v, h => by
    simp [enumL] at h
    subst h
    exact ⟨w, rfl, rfl⟩
  | w :: vs, k, i + 1, v, h => by
    obtain ⟨z, h1, h2⟩ := enumL_get vs (k + 1) i v (by simpa [enumL] using h)
    refine ⟨z, by simpa using h1, ?_⟩
    rw [h2, show k + 1 + i = k + (i + 1) by omega]
theorem enumL_len : ∀ (vs : List Val) (k : Nat), (enumL k vs).length = vs.length
  | [], _ => rfl
  | _ :: vs, k => congrArg Nat.succ (enumL_len vs (k + 1))
theorem zipL_get : ∀ (vs ws : List Val) (i : Nat) (v : Val), (zipL vs ws)[i]? = some v → ∃ x y, vs[i]? = some x ∧ ws[i]? = some y ∧ v = .tup [x, y]
  | [], _, _, _, h => by simp [zipL] at h
  | _ :: _, [], _, _, h => by simp [zipL] at h
  | x :: vs, y :: ws, 0, v, h => by
    simp [zipL] at h
    subst h
    exact ⟨x, y, rfl, rfl, rfl⟩
  | x :: vs, y :: ws, i + 1, v, h => by
    obtain ⟨p, q, h1, h2, h3⟩ := zipL_get vs ws i v (by simpa [zipL] using h)
    exact ⟨p, q, by simpa using h1, by simpa using h2, h3⟩
theorem zipL_len : ∀ (vs ws : List Val), (zipL vs ws).length = min vs.length ws.length
  | [], _ => by simp [zipL]
  | _ :: _, [] => by simp [zipL]
  | _ :: vs, _ :: ws => by simp [zipL, zipL_len vs ws]
theorem s_it {e : ME} (h : SE e) : SI (.it e) := fun N R n C t y ok X x => by
  have pe := (h N R n C y ok X x).1
  refine PI.pick fun σ H Q ⟨W, env, S, v, S', vs, src, r, E, e1, e2, p⟩ => ?_
  have e1 : evE R e env S = some (v, S') := e1
  unfold itemsOf at e2
  split at e2
  · cases e2
    refine ⟨_, pi_tup pe, W, env, S, _, _, r, E, e1, fun W1 H1 u1 x1 R1 r1 => ?_⟩
    cases r1 with
    | @tup a _ us g q => exact ⟨a, rfl, ⟨us, SqT.of (R1.fz _ _ g)⟩, p _ _ _ x1 R1 (it_tup (us := us) fun W' S' H' l R' => ⟨us, SqT.of (R'.fz _ _ (l.f _ _ g)), q.le l⟩)⟩
  · cases e2
    refine ⟨_, pi_tup pe, W, env, S, _, _, r, E, e1, fun W1 H1 u1 x1 R1 r1 => ?_⟩
    cases r1 with
    | @tpk a _ us g q => exact ⟨a, rfl, ⟨us, sqT_hp R1.fz g⟩, p _ _ _ x1 R1 (it_tup (us := us) fun W' S' H' l R' => ⟨us, sqT_hp R'.fz (sqT_le l.f g), q.le l⟩)⟩
  · cases e2
    refine ⟨_, pi_list pe, W, env, S, _, _, r, E, e1, fun W1 H1 u1 x1 R1 r1 => ?_⟩
    cases r1 with
    | @lst a _ us g q => exact ⟨a, rfl, ⟨us, SqL.of (R1.fz _ _ g)⟩, p _ _ _ x1 R1 (it_list (us := us) fun W' S' H' l R' _ => ⟨us, SqL.of (R'.fz _ _ (l.f _ _ g)), q.le l⟩)⟩
  · cases e2
    refine ⟨_, pi_list pe, W, env, S, _, _, r, E, e1, fun W1 H1 u1 x1 R1 r1 => ?_⟩
    cases r1 with
    | @lsk a _ us g q => exact ⟨a, rfl, ⟨us, sqL_hp R1.fz g⟩, p _ _ _ x1 R1 (it_list (us := us) fun W' S' H' l R' _ => ⟨us, sqL_hp R'.fz (sqL_le l.f g), q.le l⟩)⟩
  · rename_i m _
    split at e2
    · rename_i vs' hm
      cases e2
      refine ⟨_, pi_list pe, W, env, S, _, _, r, E, e1, fun W1 H1 u1 x1 R1 r1 => ?_⟩
      cases r1 with
      | @ref _ a g =>
        have look : ∀ W' S'' H', Le W1 W' → Rel X.K X.mg W' S'' H' → stays (some (m, .lst vs)) S'' → ∃ us, SqL X.K H' a us ∧ VRs X.K X.mg W' vs us := by
          intro W' S'' H' l R' st
          obtain ⟨o, h1, h2⟩ := R'.cellAt (l.r _ _ g) st
          cases h2 with
          | @lst _ us q => exact ⟨us, SqL.of h1, q⟩
        obtain ⟨us, hs, q⟩ := look W1 S' H1 (Le.refl _) R1 hm
        exact ⟨a, rfl, ⟨us, hs⟩, p _ _ _ x1 R1 (it_list (us := us) look)⟩
    · cases e2
  · cases e2
theorem s_rng {es : ME} (h : SL es) : SI (.rng es) := fun N R n C t y ok X x => by
  cases y with
  | Call fn xs ks q =>
    cases fn with
    | Name f p =>
      cases ks with
      | cons _ _ => cases ok
      | nil =>
        have ok : (decide (f = ("range" : Str)) && (C.gl f && (okL N es C xs && (decide (xs.length = 1) || decide (xs.length = 2))))) = true := ok
        obtain ⟨z1, j1⟩ := and_t ok
        cases dec_t z1
        obtain ⟨z2, j2⟩ := and_t j1
        obtain ⟨z3, z4⟩ := and_t j2
        have pa := h N R n C xs z3 X x
        have fr := x.g.free "range" (by decide +kernel)
        rcases xs with _ | ⟨y1, _ | ⟨y2, _ | ⟨y3, ys⟩⟩⟩
        · cases z4
        · obtain ⟨i1, r', i2⟩ := okL_star z3
          refine (pi_range1 (x.gl z2) fr pa (star_of i1)).imp fun σ H Q ⟨W, env, S, v, S', vs, src, r, E, e1, e2, p⟩ => ?_
          dsimp only [evE] at e1
          split at e1
          · rename_i j S1 e3
            split at e1
            · rename_i c
              cases e1
              cases e2
              refine ⟨W, env, S, _, _, r, E, e3, fun W1 H1 us x1 R1 r1 => ?_⟩
              obtain ⟨u, rfl, ru⟩ := vrs1 r1
              cases ru
              exact ⟨j, rfl, c.1, c.2, p _ _ _ x1 R1 (it_rng 0 _)⟩
            · cases e1
          · rename_i i j S1 e3
            split at e1
            · cases e1
              exfalso
              have l : ∀ {m : ME} {z : Expr}, okL N m C [z] = true → ∀ {vs : List Val} {S1 : Sto}, evE R m env S = some (.tup vs, S1) → vs.length = 1 := by
                intro m z hz vs S1 hv
                cases m with
                | econs a r =>
                  have hz : (notStar z && (okE N a C z && okL N r C [])) = true := hz
                  dsimp only [evE] at hv
                  split at hv
                  · rw [okL_nil (and_t (and_t hz).2).2] at hv
                    cases hv
                    rfl
                  · cases hv
                | _ => cases hz
              have := l z3 e3
              simp at this
            · cases e1
          · cases e1
        · obtain ⟨i1, r', i2⟩ := okL_star z3
          obtain ⟨i3, r'', i4⟩ := okL_star i2
          refine (pi_range2 (x.gl z2) fr pa (by rw [star_of i1, star_of i3]; rfl) (by rw [star_of i3]; rfl)).imp fun σ H Q ⟨W, env, S, v, S', vs, src, r, E, e1, e2, p⟩ => ?_
          dsimp only [evE] at e1
          split at e1
          · rename_i j S1 e3
            split at e1
            · cases e1
              exfalso
              have l : ∀ {m : ME} {z z' : Expr}, okL N m C [z, z'] = true → ∀ {vs : List Val} {S1 : Sto}, evE R m env S = some (.tup vs, S1) → vs.length = 2 := by
                intro m z z' hz vs S1 hv
                cases m with
                | econs a r =>
                  have hz : (notStar z && (okE N a C z && okL N r C [z'])) = true := hz
                  dsimp only [evE] at hv
                  split at hv
                  · cases r with
                    | econs a2 r2 =>
                      have hz2 : (notStar z' && (okE N a2 C z' && okL N r2 C [])) = true := (and_t (and_t hz).2).2
                      dsimp only [evE] at hv
                      split at hv
                      · rename_i w S3 hw
                        split at hw
                        · rw [okL_nil (and_t (and_t hz2).2).2] at hw
                          cases hw
                          cases hv
                          rfl
                        · cases hw
                      · cases hv
                    | _ => cases (and_t (and_t hz).2).2
                  · cases hv
                | _ => cases hz
              have := l z3 e3
              simp at this
            · cases e1
          · rename_i i j S1 e3
            split at e1
            · rename_i c
              cases e1
              cases e2
              refine ⟨W, env, S, _, _, r, E, e3, fun W1 H1 us x1 R1 r1 => ?_⟩
              obtain ⟨u, u2, rfl, ru, ru2⟩ := vrs2 r1
              cases ru
              cases ru2
              exact ⟨i, j, rfl, c, p _ _ _ x1 R1 (it_rng i _)⟩
            · cases e1
          · cases e1
        · cases z4
    | _ => cases ok
  | _ => cases ok
theorem ns_of {m : ME} {y : Expr} (h : okE N m C y = true) : notStar y = true := by
  cases y with
  | Starred _ _ => exact (not_star h).elim
  | _ => rfl
theorem s_enum {e : ME} (h : SE e) : SI (.enum e) := fun N R n C t y ok X x => by
  cases t with
  | Tuple ts kk tp =>
    cases y with
    | Call fn xs ks q =>
      cases fn with
      | Name f p =>
        rcases xs with _ | ⟨y1, _ | ⟨y2, ys⟩⟩
        · cases ok
        · cases ks with
          | cons _ _ => cases ok
          | nil =>
            have ok : (decide (f = ("enumerate" : Str)) && (C.gl f && okE N e C y1)) = true := ok
            obtain ⟨z1, j1⟩ := and_t ok
            cases dec_t z1
            obtain ⟨z2, z3⟩ := and_t j1
            have fr := x.g.free "enumerate" (by decide +kernel)
            have ns := ns_of z3
            refine (pi_enum (x.gl z2) fr (pa_cons (h N R n C y1 z3 X x).1 pa_nil (star_of ns)) (star_of ns)).imp fun σ H Q ⟨W, env, S, v, S', vs, src, r, E, e1, e2, p⟩ => ?_
            dsimp only [evE] at e1
            split at e1
            · rename_i ws S1 e3
              cases e1
              cases e2
              refine ⟨W, env, S, _, _, r, E, e3, fun W1 H1 u1 x1 R1 r1 => ?_⟩
              cases r1 with
              | @lst a _ us g q =>
                refine ⟨a, us, rfl, SqL.of (R1.fz _ _ g), p _ _ _ x1 R1 ?_⟩
                intro W' S'' H' l R' st
                have hs : SqL X.K H' a us := SqL.of (R'.fz _ _ (l.f _ _ g))
                refine ⟨fun i v e => ?_, us, hs, by rw [enumL_len, q.length]; exact Nat.le_refl _⟩
                obtain ⟨w, e4, e5⟩ := enumL_get ws 0 i v e
                obtain ⟨u, e6, r6⟩ := (q.le l).get e4
                refine ⟨⟨us, u, hs, e6⟩, fun z H'' ⟨T, z', ez, hT, eH, y⟩ => ?_⟩
                subst ez eH e5
                have e7 := y us hs
                rw [e6] at e7
                cases e7
                obtain ⟨R2, x2⟩ := R'.newF (.tup [.int (i : Nat), u]) hT
                refine ⟨_, x2, R2, .tup fr_at (.cons ?_ (.cons (r6.le x2.le) .nil))⟩
                rw [Nat.zero_add]
                exact .int _
            · cases e1
        · cases ks <;> cases ok
      | _ => cases ok
    | _ => cases ok
  | _ => cases y <;> cases ok
theorem s_zip {a b : ME} (ha : SE a) (hb : SE b) : SI (.zip a b) := fun N R n C t y ok X x => by
  cases t with
  | Tuple ts kk tp =>
    cases y with
    | Call fn xs ks q =>
      cases fn with
      | Name f p =>
        rcases xs with _ | ⟨y1, _ | ⟨y2, _ | ⟨y3, ys⟩⟩⟩
        · cases ok
        · cases ok
        · cases ks with
          | cons _ _ => cases ok
          | nil =>
            have ok : (decide (f = ("zip" : Str)) && (C.gl f && (okE N a C y1 && okE N b C y2))) = true := ok
            obtain ⟨z1, j1⟩ := and_t ok
            cases dec_t z1
            obtain ⟨z2, j2⟩ := and_t j1
            obtain ⟨z3, z4⟩ := and_t j2
            have fr := x.g.free "zip" (by decide +kernel)
            have ns := ns_of z3
            have ns2 := ns_of z4
            refine (pi_zip (x.gl z2) fr (pa_cons (ha N R n C y1 z3 X x).1 (pa_cons (hb N R n C y2 z4 X x).1 pa_nil (star_of ns2)) (star_of ns)) (star_of ns) (by rw [star_of ns2]; rfl)).imp fun σ H Q ⟨W, env, S, v, S', vs, src, r, E, e1, e2, p⟩ => ?_
            dsimp only [evE] at e1
            split at e1
            · rename_i ws S1 e3
              split at e1
              · rename_i zs S2 e4
                cases e1
                cases e2
                refine ⟨W, env, S, _, _, r, E, e3, fun W1 H1 u1 x1 R1 r1 => ⟨W1, env, S1, _, _, R1, E.ext x1, e4, fun W2 H2 u2 x2 R2 r2 => ?_⟩⟩
                cases r1 with
                | @lst a' _ us g q =>
                  cases r2 with
                  | @lst b' _ us2 g2 q2 =>
                    have g := x2.le.f _ _ g
                    have q := q.le x2.le
                    refine ⟨a', b', us, us2, rfl, SqL.of (R2.fz _ _ g), SqL.of (R2.fz _ _ g2), p _ _ _ (x1.trans x2) R2 ?_⟩
                    intro W' S'' H' l R' st
                    have hs : SqL X.K H' a' us := SqL.of (R'.fz _ _ (l.f _ _ g))
                    have hs2 : SqL X.K H' b' us2 := SqL.of (R'.fz _ _ (l.f _ _ g2))
                    refine ⟨fun i v e => ?_, us, us2, hs, hs2, by rw [zipL_len, q.length, q2.length]; omega⟩
                    obtain ⟨w, w2, e5, e6, e7⟩ := zipL_get ws zs i v e
                    obtain ⟨u, e8, r8⟩ := (q.le l).get e5
                    obtain ⟨u2, e9, r9⟩ := (q2.le l).get e6
                    refine ⟨⟨us, us2, u, u2, hs, hs2, e8, e9⟩, fun z H'' ⟨T, z', z'', ez, hT, eH, y, y'⟩ => ?_⟩
                    subst ez eH e7
                    have f1 := y us hs
                    rw [e8] at f1
                    cases f1
                    have f2 := y' us2 hs2
                    rw [e9] at f2
                    cases f2
                    obtain ⟨R3, x3⟩ := R'.newF (.tup [u, u2]) hT
                    exact ⟨_, x3, R3, .tup fr_at (.cons (r8.le x3.le) (.cons (r9.le x3.le) .nil))⟩
              · cases e1
            · cases e1
        · cases ks <;> cases ok
      | _ => cases ok
    | _ => cases ok
  | _ => cases y <;> cases ok
end
end Mi

namespace Mi
open PySem PySem.Spec PyProof.Rows L2
open Classical
section
variable {X : Cx} {C : SC} {N : Nms} {R : Run} {n : Nat}
/-! ### targets -/
theorem wipe_get (σ : L2.St) (j : Nat) : ∀ own : List Nat, (L2.wipe σ own)[j]? = if j ∈ own ∧ j < σ.length then some none else σ[j]?
  | [] => by
    unfold L2.wipe
    rw [if_neg (by simp)]
  | v :: vs => by
    have ih := wipe_get σ j vs
    unfold L2.wipe
    by_cases e : v = j
    · subst e
      by_cases h : v < σ.length
      · rw [List.getElem?_set_self (by rw [wipe_length]; exact h), if_pos ⟨List.mem_cons_self, h⟩]
      · rw [if_neg fun q => h q.2, List.getElem?_eq_none (by rw [List.length_set, wipe_length]; omega), List.getElem?_eq_none (by omega)]
    · rw [List.getElem?_set_ne e, ih]
      by_cases h : j ∈ vs ∧ j < σ.length
      · rw [if_pos h, if_pos ⟨List.mem_cons_of_mem _ h.1, h.2⟩]
      · rw [if_neg h, if_neg]
        rintro ⟨h1, h2⟩
        rcases List.mem_cons.mp h1 with q | q
        · exact e q.symm
        · exact h ⟨q, h2⟩
theorem wipe_put {σ : L2.St} {i : Nat} {x : Option V} {own : List Nat} (h : i ∈ own) : L2.wipe (σ.set i x) own = L2.wipe σ own := by
  apply List.ext_getElem?
  intro j
  rw [wipe_get, wipe_get, List.length_set]
  by_cases c : j ∈ own ∧ j < σ.length
  · rw [if_pos c, if_pos c]
  · rw [if_neg c, if_neg c]
    by_cases e : i = j
    · subst e
      have : ¬ i < σ.length := fun q => c ⟨h, q⟩
      rw [List.getElem?_eq_none (by rw [List.length_set]; omega), List.getElem?_eq_none (by omega)]
    · rw [List.getElem?_set_ne e]
theorem wipe_idem {σ : L2.St} {own : List Nat} : L2.wipe (L2.wipe σ own) own = L2.wipe σ own := by
  apply List.ext_getElem?
  intro j
  rw [wipe_get (L2.wipe σ own), wipe_length]
  by_cases c : j ∈ own ∧ j < σ.length
  · rw [if_pos c, wipe_get, if_pos c]
  · rw [if_neg c]
def rdG (K : PySem.W.Frag) (mg : Str → Option Value) (t : MT) : TG := fun u σ H Q => ∃ W env S v env', Rel K mg W S H ∧ ER K mg W env σ ∧ VR K mg W v u ∧ bindT S t v env = some env' ∧
  ∀ σ', ER K mg W env' σ' → (∀ own, (∀ i ∈ slots t, i ∈ own) → L2.wipe σ' own = L2.wipe σ own) → Q σ' H
def rdGs (K : PySem.W.Frag) (mg : Str → Option Value) (t : MT) : TGs := fun us σ H Q => ∃ W env S vs env', Rel K mg W S H ∧ ER K mg W env σ ∧ VRs K mg W vs us ∧ bindT S t (.lst vs) env = some env' ∧
  ∀ σ', ER K mg W env' σ' → (∀ own, (∀ i ∈ slots t, i ∈ own) → L2.wipe σ' own = L2.wipe σ own) → Q σ' H
theorem _root_.L2.PG.imp {e : Expr} {t t' : TG} (h : PG X e t) (k : ∀ u σ H Q, t' u σ H Q → t u σ H Q) : PG X e t' := ⟨fun pins s σ H v u Q I r q => h.run pins s σ H v u Q I r (k v σ H Q q)⟩
theorem _root_.L2.PGs.imp {e : List Expr} {t t' : TGs} (h : PGs X e t) (k : ∀ u σ H Q, t' u σ H Q → t u σ H Q) : PGs X e t' := ⟨fun pins s σ H v u Q I r q => h.run pins s σ H v u Q I r (k v σ H Q q)⟩
theorem okTs_len : ∀ {t : MT} {es : List Expr} {S : Sto} {vs : List Val} {env env' : Env'}, okTs t C es = true → bindT S t (.lst vs) env = some env' → vs.length = es.length
  | .nil, es, S, vs, env, env', h, e => by
    cases es with
    | cons _ _ => cases h
    | nil =>
      cases vs with
      | nil => rfl
      | cons _ _ => cases e
  | .cons t u, es, S, vs, env, env', h, e => by
    cases es with
    | nil => cases h
    | cons y es =>
      have h : (notStar y && (okT t C y && okTs u C es)) = true := h
      cases vs with
      | nil => cases e
      | cons v vs =>
        have e : (bindT S t v env).bind (fun env' => bindT S u (.lst vs) env') = some env' := e
        obtain ⟨env1, e1, e2⟩ := Option.bind_eq_some_iff.mp e
        exact congrArg Nat.succ (okTs_len (and_t (and_t h).2).2 e2)
  | .nm _, _, _, _, _, _, h, _ => by cases h
  | .tup _, _, _, _, _, _, h, _ => by cases h
theorem asg_each : ∀ {t : MT} {es : List Expr} {env : Env}, okTs t C es = true → (assignEach es env).length = es.length ∧ (assignEach es env).findIdx? (·.1) = none ∧ (assignEach es env).map (·.2) = es.map fun e => assign e env
  | .nil, es, env, h => by
    cases es with
    | cons _ _ => cases h
    | nil => exact ⟨rfl, rfl, rfl⟩
  | .cons t u, es, env, h => by
    cases es with
    | nil => cases h
    | cons y es =>
      have h : (notStar y && (okT t C y && okTs u C es)) = true := h
      obtain ⟨i1, i2, i3⟩ := asg_each (env := env) (and_t (and_t h).2).2
      have e : assignEach (y :: es) env = (false, assign y env) :: assignEach es env := by
        have ns := (and_t h).1
        cases y <;> first | rfl | cases ns
      rw [e]
      refine ⟨congrArg Nat.succ i1, ?_, ?_⟩
      · rw [List.findIdx?_cons]
        simp [i2]
      · rw [List.map_cons, List.map_cons, i3]
  | .nm _, _, _, h => by cases h
  | .tup _, _, _, h => by cases h
mutual
theorem s_tg : ∀ (t : MT) (e : Expr), okT t C e = true → XOk X C N R n → PG X e (rdG X.K X.mg t)
  | .nm i, e, ok, x => by
    cases e with
    | Name y p =>
      obtain ⟨z1, z2⟩ := and_t (show (decide (C.ns[i]? = some y) && C.tg y) = true from ok)
      refine (pg_name (i := i) (by rw [x.ns]; exact x.nd) (by rw [x.ns]; exact dec_t z1) (x.tg z2).1 (x.tg z2).2).imp fun u σ H Q ⟨W, env, S, v, env', r, E, rv, e, p⟩ => ?_
      dsimp only [bindT] at e
      split at e
      · cases e
        exact p _ (E.put rv ‹_›) fun own h => wipe_put (h i (by unfold slots; simp))
      · cases e
    | _ => cases ok
  | .tup t, e, ok, x => by
    cases e with
    | Tuple es k p =>
      have ok : okTs t C es = true := ok
      obtain ⟨a1, a2, a3⟩ := asg_each (env := X.env) ok
      refine (pg_tup x.calm (s_tgs t es ok x) a1 a2).imp fun u σ H Q ⟨W, env, S, v, env', r, E, rv, e, p⟩ => ?_
      dsimp only [bindT] at e
      split at e
      · cases rv with
        | tup g q => exact ⟨_, _, rfl, SqT.of (r.fz _ _ g), by rw [← q.length]; exact okTs_len ok e, W, env, S, _, env', r, E, q, e, p⟩
      · cases rv with
        | tpk g q => exact ⟨_, _, rfl, sqT_hp r.fz g, by rw [← q.length]; exact okTs_len ok e, W, env, S, _, env', r, E, q, e, p⟩
      · cases e
    | _ => cases ok
  | .nil, e, ok, x => by cases ok
  | .cons _ _, e, ok, x => by cases ok
theorem s_tgs : ∀ (t : MT) (es : List Expr), okTs t C es = true → XOk X C N R n → PGs X es (rdGs X.K X.mg t)
  | .nil, es, ok, x => by
    cases es with
    | cons _ _ => cases ok
    | nil =>
      refine pgs_nil.imp fun u σ H Q ⟨W, env, S, vs, env', r, E, q, e, p⟩ => ?_
      cases q with
      | nil =>
        cases e
        exact ⟨rfl, p _ E fun _ _ => rfl⟩
      | cons _ _ => cases e
  | .cons t u, es, ok, x => by
    cases es with
    | nil => cases ok
    | cons y es =>
      have ok : (notStar y && (okT t C y && okTs u C es)) = true := ok
      obtain ⟨z1, j1⟩ := and_t ok
      obtain ⟨z2, z3⟩ := and_t j1
      have hs : (assignEach (y :: es) X.env).map (·.2) = assign y X.env :: (assignEach es X.env).map (·.2) := by
        cases y <;> first | rfl | cases z1
      refine (pgs_cons (s_tg t y z2 x) (s_tgs u es z3 x) hs).imp fun us σ H Q ⟨W, env, S, vs, env', r, E, q, e, p⟩ => ?_
      cases q with
      | nil => cases e
      | @cons v w vs us h ts =>
        have e : (bindT S t v env).bind (fun env' => bindT S u (.lst vs) env') = some env' := e
        obtain ⟨env1, e1, e2⟩ := Option.bind_eq_some_iff.mp e
        refine ⟨w, us, rfl, W, env, S, v, env1, r, E, h, e1, fun σ1 E1 w1 => ⟨W, env1, S, vs, env', r, E1, ts, e2, fun σ2 E2 w2 => p σ2 E2 fun own ho => ?_⟩⟩
        rw [w2 own fun i hi => ho i (by unfold slots; exact List.mem_append_right _ hi), w1 own fun i hi => ho i (by unfold slots; exact List.mem_append_left _ hi)]
  | .nm _, es, ok, x => by cases ok
  | .tup _, es, ok, x => by cases ok
end
/-! ### comprehensions -/
theorem inner (x : XOk X C N R n) {s : Shared} {H : Hp} {scope : Scope} {cl : List (Str × Addr)} {D : Addr} {fp : List Addr} : XOk (X.blk s H scope (compEnvC scope cl D X.env) fp) (C.inn scope) N R n where
  ns := x.ns
  nd := x.nd
  sc := by
    show relS scope X.env.scope = relS scope C.sc
    rw [x.sc]
  fn := fun y _ h => by
    have h : scope.names.lookup y = some .cell := h
    show (scope.names.lookup y == some .cell) = true
    rw [h]
    rfl
  calm := x.calm
  room := x.room
  g := x.g
theorem _root_.L2.PTs.imp {e : List Expr} {t t' : TT} (h : PTs X e t) (k : ∀ σ H Q, t' σ H Q → t σ H Q) : PTs X e t' := ⟨fun pins s σ H Q I q => h.run pins s σ H Q I (k σ H Q q)⟩
theorem s_tests {cond : ME} (h : SE cond) {ifs : List Expr} (ok : ifs = [] ∧ isTru cond = true ∨ ∃ c, ifs = [c] ∧ okE N cond C c = true) (x : XOk X C N R n) : PTs X ifs (rdT X.K X.mg R cond) := by
  rcases ok with ⟨rfl, h2⟩ | ⟨c, rfl, h2⟩
  · refine pts_nil.imp fun σ H Q ⟨W, env, S, v, S', k, r, E, e, tr, p⟩ => ?_
    cases cond with
    | bl b =>
      cases b with
      | true =>
        cases e
        cases tr
        exact p _ _ (Ext.refl _ _) r
      | false => cases h2
    | _ => cases h2
  · exact pts_one (h N R n C c h2 X x).2
/-- the loop of a comprehension, in the interpreter's words -/
theorem comp_rd {own : List Nat} {tg : MT} {cond elt : ME} {mu : Bool} {K : PySem.W.Frag} {mg : Str → Option Value} {it : ME} {σ : L2.St} {H : Hp} {Q : VK} (ho : ∀ i ∈ slots tg, i ∈ own) {W : Wd} {env : Env'} {S : Sto} {v w : Val} {S1 S' : Sto} {vs : List Val} {src : Option (Nat × Cell)} {ys : List Val} {S2 : Sto}
    (r : Rel K mg W S H) (E : ER K mg W env σ) (e1 : evE R it env S = some (v, S1)) (e2 : itemsOf S1 v = some (vs, src)) (st0 : stays src S1)
    (e3 : compL (fun x env S => match bindT S tg x env with
          | some env' => match evE R cond env' S with
            | some (c, S2) => match tru S2 c with
              | some true => (evE R elt env' S2).map fun y => (some y.1, y.2)
              | some false => some (none, S2)
              | none => none
            | none => none
          | none => none) src vs [] (wipeE env own) S1 = some (ys, S2)) (e4 : (if mu then some (.ref S2.length, S2 ++ [.lst ys]) else some (.lst ys, S2)) = some (w, S')) (p : Post K mg W H S' w Q) :
    tLc (rdI K mg R it) (rdG K mg tg) (rdT K mg R cond) (rdE K mg R elt) own σ H Q := by
  refine ⟨W, env, S, v, S1, vs, src, r, E, e1, e2, fun W1 H1 J x1 R1 iok D hD => ?_⟩
  have nD := R1.notOwn hD
  refine ⟨fun i m Hi => m = vs.length - i ∧ i ≤ vs.length ∧ ∃ Wi Si acc us, Ext W1 H1 Wi Hi ∧ Rel K mg Wi Si Hi ∧ ¬ Own Wi D ∧ Hi D = some (.lst us) ∧ VRs K mg Wi acc us ∧ stays src Si ∧ compL _ src (vs.drop i) acc (wipeE env own) Si = some (ys, S2),
    ⟨vs.length, by simp, Nat.zero_le _, W1, S1, [], [], ⟨Le.refl _, fun a o h n => ⟨by rw [upd_ne (ne_of_none h hD)]; exact h, n⟩⟩, R1.updOut nD, nD, upd_same, .nil, st0, e3⟩, ?_⟩
  rintro i m Hi ⟨rfl, hi, Wi, Si, acc, us, xi, Ri, ni, hDi, qi, st, ei⟩
  obtain ⟨step, stop⟩ := iok Wi Si Hi xi.le Ri st
  by_cases hlt : i < vs.length
  · refine .inr ?_
    have ev : vs[i]? = some vs[i] := List.getElem?_eq_getElem hlt
    obtain ⟨go, yld⟩ := step i _ ev
    rw [List.drop_eq_getElem_cons hlt] at ei
    dsimp only [compL] at ei
    refine ⟨go, fun H' => ∃ m', m' < vs.length - i ∧ (m' = vs.length - (i + 1) ∧ i + 1 ≤ vs.length ∧ ∃ Wi Si acc us, Ext W1 H1 Wi H' ∧ Rel K mg Wi Si H' ∧ ¬ Own Wi D ∧ H' D = some (.lst us) ∧ VRs K mg Wi acc us ∧ stays src Si ∧ compL _ src (vs.drop (i + 1)) acc (wipeE env own) Si = some (ys, S2)), fun H' h => h, fun x H' y => ?_⟩
    obtain ⟨W2, x2, R2, rv⟩ := yld x H' y
    obtain ⟨hD2, n2⟩ := x2.k D _ hDi ni
    cases eb : bindT Si tg vs[i] (wipeE env own) with
    | none => rw [eb] at ei; cases ei
    | some env' =>
      rw [eb] at ei
      dsimp only at ei
      have E2 : ER K mg W2 (wipeE env own) (L2.wipe σ own) := ((E.ext x1).le (xi.le.trans x2.le)).wipe own
      refine ⟨W2, wipeE env own, Si, vs[i], env', R2, E2, rv, eb, fun σ2 E3 hw => ⟨?_, ?_⟩⟩
      · rw [hw own ho, wipe_idem]
      · cases ec : evE R cond env' Si with
        | none => rw [ec] at ei; cases ei
        | some cs =>
          obtain ⟨c, S3⟩ := cs
          rw [ec] at ei
          dsimp only at ei
          cases et : tru S3 c with
          | none => rw [et] at ei; cases ei
          | some k =>
            rw [et] at ei
            refine ⟨W2, env', Si, c, S3, k, R2, E3, ec, et, fun W3 H3 x3 R3 => ?_⟩
            obtain ⟨hD3, n3⟩ := x3.k D _ hD2 n2
            cases k with
            | true =>
              refine iteT ?_
              cases ee : evE R elt env' S3 with
              | none => rw [ee] at ei; cases ei
              | some yz =>
                obtain ⟨y', S4⟩ := yz
                rw [ee] at ei
                dsimp only [Option.map_some] at ei
                split at ei
                · rename_i cc
                  refine ⟨W3, env', S3, y', S4, R3, E3.le x3.le, ee, fun W4 H4 u4 x4 R4 r4 => ?_⟩
                  obtain ⟨hD4, n4⟩ := x4.k D _ hD3 n3
                  refine ⟨us, hD4, by rw [← qi.length]; exact cc.2, vs.length - (i + 1), by omega, rfl, hlt, W4, S4, acc ++ [y'], us ++ [u4], ?_, R4.updOut n4, n4, upd_same, (qi.le (x2.le.trans (x3.le.trans x4.le))).app (.cons r4 .nil), cc.1, ei⟩
                  have all := ((xi.trans x2).trans x3).trans x4
                  exact ⟨all.le, fun a o h n => by
                    obtain ⟨h1, h2⟩ := all.k a o h n
                    exact ⟨by rw [upd_ne (ne_of_none h hD)]; exact h1, h2⟩⟩
                · cases ei
            | false =>
              refine iteF ?_
              dsimp only at ei
              split at ei
              · rename_i cc
                exact ⟨vs.length - (i + 1), by omega, rfl, hlt, W3, S3, acc, us, (xi.trans x2).trans x3, R3, n3, hD3, qi.le (x2.le.trans x3.le), cc, ei⟩
              · cases ei
  · have e : i = vs.length := by omega
    subst e
    rw [List.drop_length] at ei
    cases ei
    refine .inl ⟨stop, ?_⟩
    cases mu with
    | true =>
      cases e4
      obtain ⟨x5, R5⟩ := adoptM xi Ri hD hDi ni (.lst qi)
      exact p _ _ _ (x1.trans x5) R5 (.ref pl_at)
    | false =>
      cases e4
      obtain ⟨x5, R5, l5⟩ := adoptF xi Ri hD hDi ni
      exact p _ _ _ (x1.trans x5) R5 (.lst fr_at (qi.le l5))
theorem not_folded {t i : Expr} {it : ME} (h : okI N it C t i = true) {env : Env} : ∀ v, foldedSetIterable i env v = pure v := by
  cases i with
  | Set es k p =>
    cases it with
    | it e => exact (not_set (show okE N e C (.Set es k p) = true from h)).elim
    | enum e => cases t <;> cases h
    | zip a b => cases t <;> cases h
    | _ => cases h
  | _ => exact fun _ => rfl
theorem items_stay {S : Sto} {v : Val} {vs : List Val} {src : Option (Nat × Cell)} (h : itemsOf S v = some (vs, src)) : stays src S := by
  unfold itemsOf at h
  split at h
  · cases h; trivial
  · cases h; trivial
  · cases h; trivial
  · cases h; trivial
  · split at h
    · cases h
      assumption
    · cases h
  · cases h
/-- the parts of a comprehension's text -/
theorem comp_parts {mu : Bool} {own : List (Str × Nat)} {tg : MT} {it cond elt : ME} {t i x0 : Expr} {ifs : List Expr} {asy : Int} {scope : Scope} {p : Pos} (ok : okE N (.comp mu own tg it cond elt) C (.ListComp x0 [⟨t, i, ifs, asy⟩] scope p) = true) :
    asy = 0 ∧ okI N it C t i = true ∧ blkC C.ns C.sc scope own = true ∧ (∀ j ∈ slots tg, j ∈ own.map (·.2)) ∧ okT tg (C.inn scope) t = true ∧ (ifs = [] ∧ isTru cond = true ∨ ∃ c, ifs = [c] ∧ okE N cond (C.inn scope) c = true) ∧ okE N elt (C.inn scope) x0 = true := by
  have fin : ∀ {q : Bool}, (decide (asy = 0) && (okI N it C t i && (blkC C.ns C.sc scope own && (((slots tg).all fun i => decide (i ∈ own.map (·.2))) && (okT tg (C.inn scope) t && (q && okE N elt (C.inn scope) x0)))))) = true → asy = 0 ∧ okI N it C t i = true ∧ blkC C.ns C.sc scope own = true ∧ (∀ j ∈ slots tg, j ∈ own.map (·.2)) ∧ okT tg (C.inn scope) t = true ∧ q = true ∧ okE N elt (C.inn scope) x0 = true := by
    intro q ok
    obtain ⟨z1, j1⟩ := and_t ok
    obtain ⟨z2, j2⟩ := and_t j1
    obtain ⟨z3, j3⟩ := and_t j2
    obtain ⟨z4, j4⟩ := and_t j3
    obtain ⟨z5, j5⟩ := and_t j4
    obtain ⟨z6, z7⟩ := and_t j5
    exact ⟨dec_t z1, z2, z3, fun j hj => dec_t (List.all_eq_true.mp z4 j hj), z5, z6, z7⟩
  rcases ifs with _ | ⟨c, _ | ⟨c', cs⟩⟩
  · obtain ⟨a, b, c, d, e, f, g⟩ := fin (q := isTru cond) ok
    exact ⟨a, b, c, d, e, .inl ⟨rfl, f⟩, g⟩
  · obtain ⟨a, b, c', d, e, f, g⟩ := fin (q := okE N cond (C.inn scope) c) ok
    exact ⟨a, b, c', d, e, .inr ⟨c, rfl, f⟩, g⟩
  · obtain ⟨a, b, c, d, e, f, g⟩ := fin (q := false) ok
    cases f
theorem comp_ev {mu : Bool} {own : List (Str × Nat)} {tg : MT} {it cond elt : ME} {K : PySem.W.Frag} {mg : Str → Option Value} {σ : L2.St} {H : Hp} {Q : VK} (ho : ∀ j ∈ slots tg, j ∈ own.map (·.2)) (h : rdE K mg R (.comp mu own tg it cond elt) σ H Q) :
    tLc (rdI K mg R it) (rdG K mg tg) (rdT K mg R cond) (rdE K mg R elt) (own.map (·.2)) σ H Q := by
  obtain ⟨W, env, S, v, S', r, E, e, p⟩ := h
  dsimp only [evE] at e
  split at e
  · rename_i z S1 e1
    split at e
    · rename_i vs src e2
      split at e
      · rename_i ys S2 e3
        exact comp_rd ho r E e1 e2 (items_stay e2) e3 e p
      · cases e
    · cases e
  · cases e
theorem s_comp {mu : Bool} {own : List (Str × Nat)} {tg : MT} {it cond elt : ME} (hi : SI it) (hc : SE cond) (he : SE elt) : SE (.comp mu own tg it cond elt) := SE.of_val fun N R n C e ok X x => by
  cases e with
  | ListComp x0 gs scope p =>
    rcases gs with _ | ⟨⟨t, i, ifs, asy⟩, _ | ⟨_, _⟩⟩
    · cases ok
    · obtain ⟨z1, z2, z3, z4, z5, z6, z7⟩ := comp_parts ok
      subst z1
      refine ⟨(pe_lc (own := own) x.calm (by rw [x.ns]; exact x.nd) (hi N R n C t i z2 X x) (by rw [x.ns, x.sc]; exact blkOk_by z3) (fun s H D cl fp => s_tg tg t z5 (inner x)) (fun s H D cl fp => s_tests hc z6 (inner x)) (fun s H D cl fp => (he N R n _ x0 z7 _ (inner x)).1) (not_folded z2)).imp fun σ H Q q => comp_ev z4 q, fun _ => rfl⟩
    · cases ok
  | _ => cases ok
end
end Mi

namespace Mi
open PySem PySem.Spec PyProof.Rows L2
open Classical
/-! ### statements: the text and its small form -/
/-- a value whose store is a store and no more -/
def swF (C : SC) (v : Expr) (x : Str) (p' : Pos) : Bool := match v with
  | .ListComp _ _ scope p => !(decide (C.sc.names.lookup x = some .local)) || (!(p'.line == p.line) || scope.names.any fun (n, k) => n == x && (k == .local || k == .cell))
  | .SetComp _ _ _ _ => false
  | .DictComp _ _ _ scope p => !(decide (C.sc.names.lookup x = some .local)) || (!(p'.line == p.line) || scope.names.any fun (n, k) => n == x && (k == .local || k == .cell))
  | _ => true
def noComp : Expr → Bool
  | .ListComp _ _ _ _ => false
  | .SetComp _ _ _ _ => false
  | .DictComp _ _ _ _ _ => false
  | _ => true
def noTup : Expr → Bool
  | .Tuple _ _ _ => false
  | _ => true
def noSlice : Expr → Bool
  | .Slice _ _ _ _ => false
  | _ => true
mutual
def okS (N : Nms) : MS → SC → Stmt → Bool
  | .nil, _, _ => false
  | .cons _ _, _, _ => false
  | .set i e, C, s => match s with
    | .Assign [.Name x p'] v _ => decide (C.ns[i]? = some x) && (C.tg x && (okE N e C v && swF C v x p'))
    | _ => false
  | .setc i e, C, s => match e, s with
    | .comp mu own tg it cond elt, .Assign [.Name x p'] (.ListComp x0 [⟨t, it', ifs, asy⟩] scope p) _ => decide (C.ns[i]? = some x) && (decide (C.sc.names.lookup x = some .local) && (decide (C.sc.kind = .function) && ((p'.line == p.line) && (!(scope.names.any fun (n, k) => n == x && (k == .local || k == .cell)) &&
        okE N (.comp mu own tg it cond elt) C (.ListComp x0 [⟨t, it', ifs, asy⟩] scope p)))))
    | _, _ => false
  | .asg t e, C, s => match s with
    | .Assign [.Tuple es k p] v _ => okT t C (.Tuple es k p) && (okE N e C v && noTup v)
    | _ => false
  | .par i j es, C, s => match s with
    | .Assign [.Tuple [.Name x px, .Name y py] _ _] (.Tuple [a, b] _ _) _ => decide (C.ns[i]? = some x) && (decide (C.ns[j]? = some y) && (decide (i ≠ j) && (decide (x ≠ y) && (decide (C.sc.names.lookup x = some .local) && (decide (C.sc.names.lookup y = some .local) &&
        (decide (C.sc.kind = .function) && (decide (py.line = px.line) && (!([a, b].all (foldedForSure 8)) && (!([a, b].all (constantsAlone 8)) && okL N es C [a, b])))))))))
    | _ => false
  | .setix o i e, C, s => match s with
    | .Assign [.Subscript a b _] v _ => okE N o C a && (okE N i C b && (okE N e C v && noSlice b))
    | _ => false
  | .setfld o f e, C, s => match s with
    | .Assign [.Attribute a b _] v _ => decide (Str.ofString f = b) && (okE N o C a && okE N e C v)
    | _ => false
  | .aug i o e, C, s => match s with
    | .AugAssign (.Name x _) p v _ => decide (C.ns[i]? = some x) && (C.tg x && (decide (o.py = p) && okE N e C v))
    | _ => false
  | .augix _ _ _ _, _, _ => false
  | .ex e, C, s => match s with
    | .Expr v _ => okE N e C v && noComp v
    | _ => false
  | .ret e, C, s => match s with
    | .Return (some v) _ => okE N e C v
    | _ => false
  | .retn, _, s => match s with
    | .Return none _ => true
    | _ => false
  | .ifs c a b, C, s => match s with
    | .If t x y _ => okE N c C t && (okB N a C x && okB N b C y)
    | _ => false
  | .loop t it b, C, s => match s with
    | .For tg i body [] _ => okT t C tg && (okI N it C tg i && okB N b C body)
    | _ => false
  | .whl c b, C, s => match s with
    | .While t body [] _ => okE N c C t && okB N b C body
    | _ => false
  | .brk, _, s => match s with
    | .Break _ => true
    | _ => false
  | .cont, _, s => match s with
    | .Continue _ => true
    | _ => false
  | .pass, _, s => match s with
    | .Pass _ => true
    | .Expr (.Constant (.str _) _ _) _ => true
    | _ => false
def okB (N : Nms) : MS → SC → List Stmt → Bool
  | .nil, _, ss => ss.isEmpty
  | .cons s b, C, ss => match ss with
    | x :: xs => okS N s C x && okB N b C xs
    | [] => false
  | _, _, _ => false
end
/-! ### readings -/
/-- what is known behind a statement -/
def PostS (K : PySem.W.Frag) (mg : Str → Option Value) (W : Wd) (H : Hp) (D : Ends) : Flow' → Env' → Sto → Prop
  | .nx, env, S => ∀ W' H' σ', Ext W H W' H' → Rel K mg W' S H' → ER K mg W' env σ' → D.nx σ' H'
  | .bk, env, S => ∀ W' H' σ', Ext W H W' H' → Rel K mg W' S H' → ER K mg W' env σ' → D.bk σ' H'
  | .ct, env, S => ∀ W' H' σ', Ext W H W' H' → Rel K mg W' S H' → ER K mg W' env σ' → D.ct σ' H'
  | .rt v, _, S => ∀ W' H' u, Ext W H W' H' → Rel K mg W' S H' → VR K mg W' v u → D.rt u H'
def rdS (K : PySem.W.Frag) (mg : Str → Option Value) (R : Run) (m : MS) : TS := fun D σ H => ∃ W env S f env' S', Rel K mg W S H ∧ ER K mg W env σ ∧ evS R m env S = some (f, env', S') ∧ PostS K mg W H D f env' S'
theorem PostS.after {K : PySem.W.Frag} {mg : Str → Option Value} {W W1 : Wd} {H H1 : Hp} {D : Ends} {f : Flow'} {env : Env'} {S : Sto} (p : PostS K mg W H D f env S) (x : Ext W H W1 H1) : PostS K mg W1 H1 D f env S := by
  cases f with
  | nx => exact fun W' H' σ' x' R E => p W' H' σ' (x.trans x') R E
  | bk => exact fun W' H' σ' x' R E => p W' H' σ' (x.trans x') R E
  | ct => exact fun W' H' σ' x' R E => p W' H' σ' (x.trans x') R E
  | rt v => exact fun W' H' u x' R r => p W' H' u (x.trans x') R r
theorem _root_.L2.PS.imp {X : Cx} {e : Stmt} {t t' : TS} (h : PS X e t) (k : ∀ D σ H, t' D σ H → t D σ H) : PS X e t' := ⟨fun pins s σ H D I q => h.run pins s σ H D I (k D σ H q)⟩
theorem _root_.L2.PSs.imp {X : Cx} {e : List Stmt} {t t' : TS} (h : PSs X e t) (k : ∀ D σ H, t' D σ H → t D σ H) : PSs X e t' := ⟨fun pins s σ H D I q => h.run pins s σ H D I (k D σ H q)⟩
theorem _root_.L2.PS.pick {X : Cx} {e : Stmt} {t' : TS} (h : ∀ D σ H, t' D σ H → ∃ t, PS X e t ∧ t D σ H) : PS X e t' := ⟨fun pins s σ H D I q => let ⟨_, a, b⟩ := h D σ H q; a.run pins s σ H D I b⟩
def SS (m : MS) : Prop := ∀ (N : Nms) (R : Run) (n : Nat) (C : SC) (s : Stmt), okS N m C s = true → ∀ X, XOk X C N R n → PassesOwn (model X.prog X.w) X.A X.env X.xe → PS X s (rdS X.K X.mg R m)
def SB (m : MS) : Prop := ∀ (N : Nms) (R : Run) (n : Nat) (C : SC) (ss : List Stmt), okB N m C ss = true → ∀ X, XOk X C N R n → PassesOwn (model X.prog X.w) X.A X.env X.xe → PSs X ss (rdS X.K X.mg R m)
theorem sw_set {C : SC} {v : Expr} {x : Str} {p' : Pos} {l : Nat} {env : Env} (hs : env.scope = C.sc) (h : swF C v x p' = true) : swapsWith v (some (.Name x p')) l env = pure false := by
  have key : ∀ {scope : Scope} {p : Pos} {b : Bool}, (!(decide (C.sc.names.lookup x = some .local)) || (!(p'.line == p.line) || scope.names.any fun (n, k) => n == x && (k == .local || k == .cell))) = true →
      (b && (env.kindOf x == some .local) && (p'.line == p.line) && !(scope.names.any fun (n, k) => n == x && (k == .local || k == .cell))) = false := by
    intro scope p b h
    have ky : env.kindOf x = C.sc.names.lookup x := by
      show env.scope.names.lookup x = _
      rw [hs]
    rw [ky]
    by_cases q : C.sc.names.lookup x = some .local
    · rw [decide_eq_true q] at h
      cases z : p'.line == p.line with
      | false => simp
      | true =>
        rw [z] at h
        have h : (scope.names.any fun (n, k) => n == x && (k == .local || k == .cell)) = true := h
        rw [h]
        simp
    · have : (C.sc.names.lookup x == some .local) = false := beq_eq_false_iff_ne.mpr q
      rw [this]
      simp
  cases v with
  | ListComp a b scope p =>
    show (pure _ : Sem Bool) = pure false
    exact congrArg pure (key h)
  | DictComp a b c scope p =>
    show (pure _ : Sem Bool) = pure false
    exact congrArg pure (key h)
  | SetComp _ _ _ _ => cases h
  | _ => rfl
theorem sw_sub {v o i : Expr} {p' : Pos} {l : Nat} {env : Env} : swapsWith v (some (.Subscript o i p')) l env = pure false := by cases v <;> rfl
theorem sw_att {v o : Expr} {a : Str} {p' : Pos} {l : Nat} {env : Env} : swapsWith v (some (.Attribute o a p')) l env = pure false := by cases v <;> rfl
theorem sw_tup {v : Expr} {es : List Expr} {k : Nat} {p' : Pos} {l : Nat} {env : Env} : swapsWithSole [.Tuple es k p'] v l env = pure false := by cases v <;> rfl
theorem sw_non {v : Expr} {l : Nat} {env : Env} (h : noComp v = true) : swapsWith v none l env = pure false := by cases v <;> first | rfl | cases h
section
variable {X : Cx} {C : SC} {N : Nms} {R : Run} {n : Nat}
/-- a store that a value comes ahead of -/
theorem nx_here {K : PySem.W.Frag} {mg : Str → Option Value} {W : Wd} {H : Hp} {D : Ends} {env : Env'} {S : Sto} {σ : L2.St} (p : PostS K mg W H D .nx env S) (r : Rel K mg W S H) (E : ER K mg W env σ) : D.nx σ H := p W H σ (Ext.refl _ _) r E
theorem s_set {i : Nat} {e : ME} (h : SE e) : SS (.set i e) := fun N R n C s ok X x hp => by
  cases s with
  | Assign ts v p =>
    rcases ts with _ | ⟨t, _ | ⟨_, _⟩⟩
    · cases ok
    · cases t with
      | Name y p' =>
        have ok : (decide (C.ns[i]? = some y) && (C.tg y && (okE N e C v && swF C v y p'))) = true := ok
        obtain ⟨z1, j1⟩ := and_t ok
        obtain ⟨z2, j2⟩ := and_t j1
        obtain ⟨z3, z4⟩ := and_t j2
        refine (ps_set (i := i) (by rw [x.ns]; exact x.nd) (by rw [x.ns]; exact dec_t z1) (x.tg z2).1 (h N R n C v z3 X x).1 (sw_set x.sc z4) (x.tg z2).2).imp fun D σ H ⟨W, env, S, f, env', S', r, E, e, p⟩ => ?_
        dsimp only [evS] at e
        split at e
        · split at e
          · cases e
            exact ⟨W, env, S, _, _, r, E, ‹_›, fun W1 H1 u x1 R1 r1 => nx_here (p.after x1) R1 ((E.ext x1).put r1 ‹_›)⟩
          · cases e
        · cases e
      | _ => cases ok
    · cases t <;> cases ok
  | _ => cases ok
theorem s_asg {t : MT} {e : ME} (h : SE e) : SS (.asg t e) := fun N R n C s ok X x hp => by
  cases s with
  | Assign ts v p =>
    rcases ts with _ | ⟨y, _ | ⟨_, _⟩⟩
    · cases ok
    · cases y with
      | Tuple es k p' =>
        have ok : (okT t C (.Tuple es k p') && (okE N e C v && noTup v)) = true := ok
        obtain ⟨z1, j1⟩ := and_t ok
        obtain ⟨z2, z3⟩ := and_t j1
        have hw : swappedStores [.Tuple es k p'] v X.env = pure none := by cases v <;> first | rfl | cases z3
        refine (ps_asg (h N R n C v z2 X x).1 (s_tg t _ z1 x) sw_tup hw).imp fun D σ H ⟨W, env, S, f, env', S', r, E, e, p⟩ => ?_
        dsimp only [evS] at e
        split at e
        · rename_i w S1 e1
          obtain ⟨env1, e2, e3⟩ := Option.map_eq_some_iff.mp e
          cases e3
          exact ⟨W, env, S, _, _, r, E, e1, fun W1 H1 u x1 R1 r1 => ⟨W1, env, _, w, _, R1, E.ext x1, r1, e2, fun σ' E' _ => nx_here (p.after x1) R1 E'⟩⟩
        · cases e
      | _ => cases ok
    · cases y <;> cases ok
  | _ => cases ok
theorem s_setc {i : Nat} {e : ME} (hs : ∀ mu own tg it cond elt, e = .comp mu own tg it cond elt → SI it ∧ SE cond ∧ SE elt) : SS (.setc i e) := fun N R n C s ok X x hp => by
  cases e with
  | comp mu own tg it cond elt =>
    obtain ⟨hi, hc, he⟩ := hs _ _ _ _ _ _ rfl
    cases s with
    | Assign ts v p =>
      rcases ts with _ | ⟨y, _ | ⟨_, _⟩⟩
      · cases ok
      · cases y with
        | Name y p' =>
          cases v with
          | ListComp x0 gs scope q =>
            rcases gs with _ | ⟨⟨t, i', ifs, asy⟩, _ | ⟨_, _⟩⟩
            · cases ok
            · have ok : (decide (C.ns[i]? = some y) && (decide (C.sc.names.lookup y = some .local) && (decide (C.sc.kind = .function) && ((p'.line == q.line) && (!(scope.names.any fun (n, k) => n == y && (k == .local || k == .cell)) &&
                okE N (.comp mu own tg it cond elt) C (.ListComp x0 [⟨t, i', ifs, asy⟩] scope q)))))) = true := ok
              obtain ⟨y1, j1⟩ := and_t ok
              obtain ⟨y2, j2⟩ := and_t j1
              obtain ⟨y3, j3⟩ := and_t j2
              obtain ⟨y4, j4⟩ := and_t j3
              obtain ⟨y5, y6⟩ := and_t j4
              obtain ⟨z1, z2, z3, z4, z5, z6, z7⟩ := comp_parts y6
              subst z1
              have hl : X.env.scope.names.lookup y = some .local := by rw [x.sc]; exact dec_t y2
              have y5 : (scope.names.any fun (n, k) => n == y && (k == .local || k == .cell)) = false := by
                cases g : scope.names.any fun (n, k) => n == y && (k == .local || k == .cell) with
                | false => rfl
                | true => rw [g] at y5; cases y5
              refine (ps_setLc (wi := rdI X.K X.mg R it) (g := rdG X.K X.mg tg) (tt := rdT X.K X.mg R cond) (te := rdE X.K X.mg R elt) (own := own) (i := i) x.calm (by rw [x.ns]; exact x.nd) (by rw [x.ns]; exact dec_t y1) hl (sw_true (by rw [x.sc]; exact dec_t y3) hl y4 y5) (hi N R n C t i' z2 X x) (by rw [x.ns, x.sc]; exact blkOk_by z3) (fun s H D cl fp => s_tg tg t z5 (inner x)) (fun s H D cl fp => s_tests hc z6 (inner x)) (fun s H D cl fp => (he N R n _ x0 z7 _ (inner x)).1) (not_folded z2)).imp fun D σ H ⟨W, env, S, f, env', S', r, E, e, p⟩ => ?_
              refine comp_ev z4 (mu := mu) ?_
              dsimp only [evS] at e
              split at e
              · split at e
                · cases e
                  exact ⟨W, env, S, _, _, r, E, ‹_›, fun W1 H1 u x1 R1 r1 => nx_here (p.after x1) R1 ((E.ext x1).put r1 ‹_›)⟩
                · cases e
              · cases e
            · cases ok
          | _ => cases ok
        | _ => cases ok
      · cases y <;> cases ok
    | _ => cases ok
  | _ => cases ok
theorem sw_par {x y : Str} {px py pt pt2 : Pos} {kt k2 : Nat} {a b : Expr} {env : Env} (hk : env.scope.kind = .function) (hx : env.scope.names.lookup x = some .local) (hy : env.scope.names.lookup y = some .local) (hl : py.line = px.line) (hxy : x ≠ y)
    (hf : ([a, b].all (foldedForSure 8)) = false) (hc : ([a, b].all (constantsAlone 8)) = false) (ha : notStar a = true) (hb : notStar b = true) :
    swappedStores [.Tuple [.Name x px, .Name y py] kt pt] (.Tuple [a, b] k2 pt2) env = pure (some [x, y]) := by
  have kx : env.kindOf x = some .local := hx
  have ky : env.kindOf y = some .local := hy
  have hbk : env.blockKind = .function := by unfold Env.blockKind; rw [hk]; rfl
  have hs : ([a, b].any fun | .Starred .. => true | _ => false) = false := by
    cases a <;> first | (cases ha; done) | (cases b <;> first | rfl | cases hb)
  have hd : ([x, y].eraseDups.length != 2) = false := by
    have : (y == x) = false := beq_eq_false_iff_ne.mpr (Ne.symm hxy)
    simp [List.eraseDups_cons, this]
  unfold swappedStores
  simp only [hbk, hs, hf, hc, kx, ky, Expr.pos, hl, List.filterMap_cons, List.filterMap_nil, List.length_cons, List.length_nil, List.head?_cons, Option.map_some, Option.getD_some, beq_self_eq_true, Bool.and_self, if_true]
  simp [hd]
  rintro (h | h)
  · cases a <;> first | (cases ha; done) | cases h
  · cases b <;> first | (cases hb; done) | cases h
theorem s_par {i j : Nat} {es : ME} (h : SL es) : SS (.par i j es) := fun N R n C s ok X x hp => by
  cases s with
  | Assign ts v p =>
    rcases ts with _ | ⟨t, _ | ⟨_, _⟩⟩
    · cases ok
    · cases t with
      | Tuple tes k p' =>
        rcases tes with _ | ⟨t1, _ | ⟨t2, _ | ⟨_, _⟩⟩⟩
        · cases ok
        · cases t1 <;> cases ok
        · cases t1 with
          | Name y py =>
            cases t2 with
            | Name z pz =>
              cases v with
              | Tuple ves k2 p2 =>
                rcases ves with _ | ⟨a, _ | ⟨b, _ | ⟨_, _⟩⟩⟩
                · cases ok
                · cases ok
                · have ok : (decide (C.ns[i]? = some y) && (decide (C.ns[j]? = some z) && (decide (i ≠ j) && (decide (y ≠ z) && (decide (C.sc.names.lookup y = some .local) && (decide (C.sc.names.lookup z = some .local) &&
                    (decide (C.sc.kind = .function) && (decide (pz.line = py.line) && (!([a, b].all (foldedForSure 8)) && (!([a, b].all (constantsAlone 8)) && okL N es C [a, b])))))))))) = true := ok
                  obtain ⟨y1, j1⟩ := and_t ok
                  obtain ⟨y2, j2⟩ := and_t j1
                  obtain ⟨y3, j3⟩ := and_t j2
                  obtain ⟨y4, j4⟩ := and_t j3
                  obtain ⟨y5, j5⟩ := and_t j4
                  obtain ⟨y6, j6⟩ := and_t j5
                  obtain ⟨y7, j7⟩ := and_t j6
                  obtain ⟨y8, j8⟩ := and_t j7
                  obtain ⟨y9, j9⟩ := and_t j8
                  obtain ⟨y10, y11⟩ := and_t j9
                  have neg : ∀ {b : Bool}, (!b) = true → b = false := fun {b} h => by cases b <;> first | rfl | cases h
                  have hx : X.env.scope.names.lookup y = some .local := by rw [x.sc]; exact dec_t y5
                  have hy : X.env.scope.names.lookup z = some .local := by rw [x.sc]; exact dec_t y6
                  obtain ⟨sa, r', y12⟩ := okL_star y11
                  obtain ⟨sb, _, _⟩ := okL_star y12
                  refine (ps_par (i := i) (j := j) x.calm (by rw [x.ns]; exact x.nd) (by rw [x.ns]; exact dec_t y1) (by rw [x.ns]; exact dec_t y2) (dec_t y3) hx hy (h N R n C _ y11 X x) (sw_par (by rw [x.sc]; exact dec_t y7) hx hy (dec_t y8) (dec_t y4) (neg y9) (neg y10) sa sb) sw_tup).imp fun D σ H ⟨W, env, S, f, env', S', r, E, e, p⟩ => ?_
                  dsimp only [evS] at e
                  split at e
                  · rename_i v w S1 e1
                    split at e
                    · rename_i hlt
                      cases e
                      refine ⟨W, env, S, _, _, r, E, e1, fun W1 H1 us x1 R1 r1 => ?_⟩
                      cases r1 with
                      | cons ra t =>
                        cases t with
                        | cons rb t =>
                          cases t
                          exact ⟨_, _, rfl, nx_here (p.after x1) R1 (((E.ext x1).put ra hlt.1).put rb (by rw [List.length_set]; exact hlt.2))⟩
                    · cases e
                  · cases e
                · cases ok
              | _ => cases ok
            | _ => cases ok
          | _ => cases ok
        · cases t1 with
          | Name _ _ => cases t2 <;> cases ok
          | _ => cases ok
      | _ => cases ok
    · simp [okS] at ok
  | _ => cases ok
end
end Mi

namespace Mi
open PySem PySem.Spec PyProof.Rows L2
open Classical
section
variable {K : PySem.W.Frag} {mg : Str → Option Value} {W : Wd}
theorem KR.any {k : Sum Int String} : ∀ {vs : List (Sum Int String × Val)} {us : List (Key × V)}, KR K mg W vs us → (us.any fun q => decide (q.1 = kS k)) = (vs.any fun q => decide (q.1 = k))
  | _, _, .nil => rfl
  | _, _, .cons (k := j) h t => by
    rw [List.any_cons, List.any_cons, KR.any t]
    congr 1
    exact decide_eq_decide.mpr kS_inj
theorem KR.snoc {k : Sum Int String} {v : Val} {u : V} (r : VR K mg W v u) : ∀ {vs : List (Sum Int String × Val)} {us : List (Key × V)}, KR K mg W vs us → KR K mg W (vs ++ [(k, v)]) (us ++ [(kS k, u)])
  | _, _, .nil => .cons r .nil
  | _, _, .cons h t => .cons h (KR.snoc r t)
theorem KR.upd {k : Sum Int String} {v : Val} {u : V} (r : VR K mg W v u) : ∀ {vs : List (Sum Int String × Val)} {us : List (Key × V)}, KR K mg W vs us → KR K mg W (vs.map fun q => if q.1 = k then (q.1, v) else q) (us.map fun q => if q.1 = kS k then (q.1, u) else q)
  | _, _, .nil => .nil
  | _, _, .cons (k := j) (v := w) (u := z) h t => by
    rw [List.map_cons, List.map_cons]
    dsimp only
    by_cases e : j = k
    · rw [if_pos e, if_pos (kS_inj.mpr e)]
      exact .cons r (KR.upd r t)
    · rw [if_neg e, if_neg fun q => e (kS_inj.mp q)]
      exact .cons h (KR.upd r t)
theorem KR.put {k : Sum Int String} {v : Val} {u : V} (r : VR K mg W v u) {vs : List (Sum Int String × Val)} {us : List (Key × V)} (h : KR K mg W vs us) : KR K mg W (putM vs k v) (putK us (kS k) u) := by
  unfold putM putK
  have e := h.any (k := k)
  by_cases c : (vs.any fun q => decide (q.1 = k)) = true
  · rw [if_pos c, if_pos (e.trans c)]
    exact h.upd r
  · rw [if_neg c, if_neg fun z => c (e.symm.trans z)]
    exact h.snoc r
theorem KR.length : ∀ {vs : List (Sum Int String × Val)} {us : List (Key × V)}, KR K mg W vs us → vs.length = us.length
  | _, _, .nil => rfl
  | _, _, .cons _ t => congrArg Nat.succ (KR.length t)
theorem KRT.any {k : List (Sum Int String)} : ∀ {vs : List (List (Sum Int String) × Val)} {us : List (List Key × V)}, KRT K mg W vs us → (us.any fun q => decide (q.1 = k.map kS)) = (vs.any fun q => decide (q.1 = k))
  | _, _, .nil => rfl
  | _, _, .cons (k := j) h t => by
    rw [List.any_cons, List.any_cons, KRT.any t]
    congr 1
    exact decide_eq_decide.mpr kSs_inj
theorem KRT.snoc {k : List (Sum Int String)} {v : Val} {u : V} (r : VR K mg W v u) : ∀ {vs : List (List (Sum Int String) × Val)} {us : List (List Key × V)}, KRT K mg W vs us → KRT K mg W (vs ++ [(k, v)]) (us ++ [(k.map kS, u)])
  | _, _, .nil => .cons r .nil
  | _, _, .cons h t => .cons h (KRT.snoc r t)
theorem KRT.upd {k : List (Sum Int String)} {v : Val} {u : V} (r : VR K mg W v u) : ∀ {vs : List (List (Sum Int String) × Val)} {us : List (List Key × V)}, KRT K mg W vs us → KRT K mg W (vs.map fun q => if q.1 = k then (q.1, v) else q) (us.map fun q => if q.1 = k.map kS then (q.1, u) else q)
  | _, _, .nil => .nil
  | _, _, .cons (k := j) (v := w) (u := z) h t => by
    rw [List.map_cons, List.map_cons]
    dsimp only
    by_cases e : j = k
    · rw [if_pos e, if_pos (kSs_inj.mpr e)]
      exact .cons r (KRT.upd r t)
    · rw [if_neg e, if_neg fun q => e (kSs_inj.mp q)]
      exact .cons h (KRT.upd r t)
theorem KRT.put {k : List (Sum Int String)} {v : Val} {u : V} (r : VR K mg W v u) {vs : List (List (Sum Int String) × Val)} {us : List (List Key × V)} (h : KRT K mg W vs us) : KRT K mg W (putM vs k v) (putK us (k.map kS) u) := by
  unfold putM putK
  have e := h.any (k := k)
  by_cases c : (vs.any fun q => decide (q.1 = k)) = true
  · rw [if_pos c, if_pos (e.trans c)]
    exact h.upd r
  · rw [if_neg c, if_neg fun z => c (e.symm.trans z)]
    exact h.snoc r
theorem KRT.length : ∀ {vs : List (List (Sum Int String) × Val)} {us : List (List Key × V)}, KRT K mg W vs us → vs.length = us.length
  | _, _, .nil => rfl
  | _, _, .cons _ t => congrArg Nat.succ (KRT.length t)
end
section
variable {X : Cx} {C : SC} {N : Nms} {R : Run} {n : Nat}
theorem assign_sub {o i : Expr} {pos : Pos} {env : Env} (h : noSlice i = true) (v : Value) : assign (.Subscript o i pos) env v = (do
      let ov ← holding [v] (eval o env)
      let iv ← holding [v, ov] (eval i env)
      standAt pos
      holding [v, ov, iv] (setItem ov iv v)
      release [v, ov, iv] []) := by
  cases i <;> first | rfl | cases h
theorem sw_subS {v o i : Expr} {p' : Pos} {l : Nat} {env : Env} : swapsWithSole [.Subscript o i p'] v l env = pure false := by cases v <;> rfl
theorem s_setix {o i e : ME} (h1 : SE o) (h2 : SE i) (h3 : SE e) : SS (.setix o i e) := fun N R n C s ok X x hp => by
  cases s with
  | Assign ts v p =>
    rcases ts with _ | ⟨t, _ | ⟨_, _⟩⟩
    · cases ok
    · cases t with
      | Subscript a b q =>
        have ok : (okE N o C a && (okE N i C b && (okE N e C v && noSlice b))) = true := ok
        obtain ⟨z1, j1⟩ := and_t ok
        obtain ⟨z2, j2⟩ := and_t j1
        obtain ⟨z3, z4⟩ := and_t j2
        have po := (h1 N R n C a z1 X x).1
        have pi := (h2 N R n C b z2 X x).1
        have pv := (h3 N R n C v z3 X x).1
        have hu : X.A.units + 1 < cLine := by have := x.room.un; omega
        refine PS.pick fun D σ H ⟨W, env, S, f, env', S', r, E, ev, p⟩ => ?_
        dsimp only [evS] at ev
        split at ev
        · rename_i vv S1 e1
          split at ev
          · rename_i m S2 e2
            split at ev
            · rename_i kk S3 e3
              split at ev
              · rename_i c e4
                cases ev
                unfold putC at e4
                split at e4
                · rename_i vs k hc
                  obtain ⟨j, f1, f2⟩ := Option.map_eq_some_iff.mp e4
                  subst f2
                  refine ⟨_, ps_asg pv (pg_sub po pi set_list (assign_sub z4)) sw_subS (by cases v <;> rfl), ⟨W, env, S, _, _, r, E, e1, fun W1 H1 u1 x1 R1 r1 => ⟨W1, env, S1, _, _, R1, E.ext x1, e2, fun W2 H2 u2 x2 R2 r2 => ⟨W2, env, S2, _, _, R2, (E.ext x1).ext x2, e3, fun W3 H3 u3 x3 R3 r3 => ?_⟩⟩⟩⟩
                  cases r2 with
                  | @ref _ a' h =>
                    have h := x3.le.r _ _ h
                    obtain ⟨ob, g1, g2⟩ := R3.cellAt h hc
                    cases r3
                    cases g2 with
                    | lst qs =>
                      obtain ⟨R4, x4⟩ := R3.write h (.lst (qs.put ((r1.le x2.le).le x3.le) j))
                      exact ⟨a', _, k, j, rfl, rfl, g1, by rw [← qs.length]; exact f1, nx_here (p.after (((x1.trans x2).trans x3).trans x4)) R4 ((((E.ext x1).ext x2).ext x3).ext x4)⟩
                · rename_i kvs k w hc
                  split at e4
                  · rename_i hl
                    obtain ⟨j, f1, f2⟩ := Option.map_eq_some_iff.mp e4
                    subst f2
                    refine ⟨_, ps_dput hu po pi pv sw_sub, ⟨W, env, S, _, _, r, E, e1, fun W1 H1 u1 x1 R1 r1 => ⟨W1, env, S1, _, _, R1, E.ext x1, e2, fun W2 H2 u2 x2 R2 r2 => ⟨W2, env, S2, _, _, R2, (E.ext x1).ext x2, e3, fun W3 H3 u3 x3 R3 r3 => ?_⟩⟩⟩⟩
                    cases r2 with
                    | @ref _ a' h =>
                      have h := x3.le.r _ _ h
                      obtain ⟨ob, g1, g2⟩ := R3.cellAt h hc
                      cases g2 with
                      | dK qs =>
                        obtain ⟨R4, x4⟩ := R3.write h (.dK (qs.put (k := j) ((r1.le x2.le).le x3.le)))
                        exact ⟨a', _, rfl, by rw [keyK_of r3 f1]; exact DPut.k g1 (by rw [← qs.length]; exact hl), nx_here (p.after (((x1.trans x2).trans x3).trans x4)) R4 ((((E.ext x1).ext x2).ext x3).ext x4)⟩
                  · cases e4
                · rename_i kvs k w hc
                  split at e4
                  · rename_i hl
                    obtain ⟨j, f1, f2⟩ := Option.map_eq_some_iff.mp e4
                    subst f2
                    refine ⟨_, ps_dput hu po pi pv sw_sub, ⟨W, env, S, _, _, r, E, e1, fun W1 H1 u1 x1 R1 r1 => ⟨W1, env, S1, _, _, R1, E.ext x1, e2, fun W2 H2 u2 x2 R2 r2 => ⟨W2, env, S2, _, _, R2, (E.ext x1).ext x2, e3, fun W3 H3 u3 x3 R3 r3 => ?_⟩⟩⟩⟩
                    cases r2 with
                    | @ref _ a' h =>
                      have h := x3.le.r _ _ h
                      obtain ⟨ob, g1, g2⟩ := R3.cellAt h hc
                      cases g2 with
                      | dT qs =>
                        obtain ⟨R4, x4⟩ := R3.write h (.dT (qs.put (k := j) ((r1.le x2.le).le x3.le)))
                        obtain ⟨b', eb, hb⟩ := keyT_of R3 r3 f1
                        exact ⟨a', _, rfl, by rw [eb]; exact DPut.t g1 hb (by rw [← qs.length]; exact hl), nx_here (p.after (((x1.trans x2).trans x3).trans x4)) R4 ((((E.ext x1).ext x2).ext x3).ext x4)⟩
                  · cases e4
                · cases e4
              · cases ev
            · cases ev
          · cases ev
        · cases ev
      | _ => cases ok
    · cases t <;> cases ok
  | _ => cases ok
theorem s_setfld {o e : ME} {f : String} (h1 : SE o) (h3 : SE e) : SS (.setfld o f e) := fun N R n C s ok X x hp => by
  cases s with
  | Assign ts v p =>
    rcases ts with _ | ⟨t, _ | ⟨_, _⟩⟩
    · cases ok
    · cases t with
      | Attribute a b q =>
        have ok : (decide (Str.ofString f = b) && (okE N o C a && okE N e C v)) = true := ok
        obtain ⟨z1, j1⟩ := and_t ok
        cases dec_t z1
        obtain ⟨z2, z3⟩ := and_t j1
        refine (ps_fld (h1 N R n C a z2 X x).1 (h3 N R n C v z3 X x).1 sw_att).imp fun D σ H ⟨W, env, S, f', env', S', r, E, ev, p⟩ => ?_
        dsimp only [evS] at ev
        split at ev
        · rename_i vv S1 e1
          split at ev
          · rename_i m S2 e2
            split at ev
            · rename_i c fs hc
              split at ev
              · rename_i cf
                cases ev
                refine ⟨W, env, S, _, _, r, E, e1, fun W1 H1 u1 x1 R1 r1 => ⟨W1, env, S1, _, _, R1, E.ext x1, e2, fun W2 H2 u2 x2 R2 r2 => ?_⟩⟩
                cases r2 with
                | @ref _ a' h =>
                  obtain ⟨ob, g1, g2⟩ := R2.cellAt h hc
                  cases g2 with
                  | @ins _ Cl dx _ us gc qs =>
                    obtain ⟨R4, x4⟩ := R2.write h (.ins gc (qs.put (r1.le x2.le) f) (dx := dx))
                    obtain ⟨k1, k2⟩ := x.g.fd c f Cl cf.2 gc
                    exact ⟨a', Cl, dx, us, rfl, g1, k1, k2, by rw [← qs.length]; exact cf.1, nx_here (p.after ((x1.trans x2).trans x4)) R4 (((E.ext x1).ext x2).ext x4)⟩
              · cases ev
            · cases ev
          · cases ev
        · cases ev
      | _ => cases ok
    · cases t <;> cases ok
  | _ => cases ok
theorem s_aug {i : Nat} {o : BOp} {e : ME} (h : SE e) : SS (.aug i o e) := fun N R n C s ok X x hp => by
  cases s with
  | AugAssign t op v p =>
    cases t with
    | Name y p' =>
      have ok : (decide (C.ns[i]? = some y) && (C.tg y && (decide (o.py = op) && okE N e C v))) = true := ok
      obtain ⟨z1, j1⟩ := and_t ok
      obtain ⟨z2, j2⟩ := and_t j1
      obtain ⟨z3, z4⟩ := and_t j2
      cases dec_t z3
      have pe := (h N R n C v z4 X x).1
      refine PS.pick fun D σ H ⟨W, env, S, f', env', S', r, E, ev, p⟩ => ?_
      dsimp only [evS] at ev
      split at ev
      · rename_i a0 ha
        obtain ⟨u0, hu0, ru0⟩ := E.get i _ ha
        have hi : i < env.length := (List.getElem?_eq_some_iff.mp ha).1
        split at ev
        · rename_i b S1 e1
          cases o with
          | add =>
            dsimp only at ev
            split at ev
            · rename_i a b
              cases ev
              cases ru0
              refine ⟨_, ps_aug (i := i) (by rw [x.ns]; exact x.nd) (by rw [x.ns]; exact dec_t z1) (x.tg z2).1 pe ip_add (x.tg z2).2, ⟨_, hu0, W, env, S, _, _, r, E, e1, fun W1 H1 u1 x1 R1 r1 => ?_⟩⟩
              cases r1
              exact ⟨a, b, rfl, rfl, nx_here (p.after x1) R1 ((E.ext x1).put (.int _) hi)⟩
            · cases ev
          | sub =>
            dsimp only at ev
            split at ev
            · rename_i a b
              cases ev
              cases ru0
              refine ⟨_, ps_aug (i := i) (by rw [x.ns]; exact x.nd) (by rw [x.ns]; exact dec_t z1) (x.tg z2).1 pe ip_sub (x.tg z2).2, ⟨_, hu0, W, env, S, _, _, r, E, e1, fun W1 H1 u1 x1 R1 r1 => ?_⟩⟩
              cases r1
              exact ⟨a, b, rfl, rfl, nx_here (p.after x1) R1 ((E.ext x1).put (.int _) hi)⟩
            · cases ev
          | _ => cases ev
        · cases ev
      · cases ev
    | _ => cases ok
  | _ => cases ok
theorem s_ex {e : ME} (h : SE e) : SS (.ex e) := fun N R n C s ok X x hp => by
  cases s with
  | Expr v p =>
    obtain ⟨z1, z2⟩ := and_t (show (okE N e C v && noComp v) = true from ok)
    refine (ps_expr (h N R n C v z1 X x).1 (sw_non z2)).imp fun D σ H ⟨W, env, S, f', env', S', r, E, ev, p⟩ => ?_
    dsimp only [evS] at ev
    split at ev
    · cases ev
      exact ⟨W, env, S, _, _, r, E, ‹_›, fun W1 H1 u1 x1 R1 r1 => nx_here (p.after x1) R1 (E.ext x1)⟩
    · cases ev
  | _ => cases ok
theorem s_ret {e : ME} (h : SE e) : SS (.ret e) := fun N R n C s ok X x hp => by
  cases s with
  | Return v p =>
    cases v with
    | none => cases ok
    | some v =>
      refine (ps_ret (h N R n C v ok X x).1).imp fun D σ H ⟨W, env, S, f', env', S', r, E, ev, p⟩ => ?_
      dsimp only [evS] at ev
      split at ev
      · cases ev
        exact ⟨W, env, S, _, _, r, E, ‹_›, fun W1 H1 u1 x1 R1 r1 => p W1 H1 u1 x1 R1 r1⟩
      · cases ev
  | _ => cases ok
theorem s_retn : SS .retn := fun N R n C s ok X x hp => by
  cases s with
  | Return v p =>
    cases v with
    | none =>
      refine ps_retN.imp fun D σ H ⟨W, env, S, f', env', S', r, E, ev, p⟩ => ?_
      cases ev
      exact p W H _ (Ext.refl _ _) r .non
    | some v => cases ok
  | _ => cases ok
theorem s_brk : SS .brk := fun N R n C s ok X x hp => by
  cases s with
  | Break p =>
    refine ps_break.imp fun D σ H ⟨W, env, S, f', env', S', r, E, ev, p⟩ => ?_
    cases ev
    exact p W H _ (Ext.refl _ _) r E
  | _ => cases ok
theorem s_cont : SS .cont := fun N R n C s ok X x hp => by
  cases s with
  | Continue p =>
    refine ps_continue.imp fun D σ H ⟨W, env, S, f', env', S', r, E, ev, p⟩ => ?_
    cases ev
    exact p W H _ (Ext.refl _ _) r E
  | _ => cases ok
theorem s_pass : SS .pass := fun N R n C s ok X x hp => by
  have fin : ∀ D σ H, rdS X.K X.mg R .pass D σ H → tNext D σ H := fun D σ H ⟨W, env, S, f', env', S', r, E, ev, p⟩ => by
    cases ev
    exact p W H _ (Ext.refl _ _) r E
  cases s with
  | Pass p => exact ps_pass.imp fin
  | Expr v p =>
    cases v with
    | Constant c _ _ =>
      cases c with
      | str z => exact ps_doc.imp fin
      | _ => cases ok
    | _ => cases ok
  | _ => cases ok
theorem s_nilB : SB .nil := fun N R n C ss ok X x hp => by
  cases ss with
  | nil =>
    refine pss_nil.imp fun D σ H ⟨W, env, S, f', env', S', r, E, ev, p⟩ => ?_
    cases ev
    exact p W H _ (Ext.refl _ _) r E
  | cons _ _ => cases ok
theorem s_consB {s b : MS} (h1 : SS s) (h2 : SB b) : SB (.cons s b) := fun N R n C ss ok X x hp => by
  cases ss with
  | nil => cases ok
  | cons y ys =>
    obtain ⟨z1, z2⟩ := and_t (show (okS N s C y && okB N b C ys) = true from ok)
    refine (pss_cons (h1 N R n C y z1 X x hp) (h2 N R n C ys z2 X x hp)).imp fun D σ H ⟨W, env, S, f', env', S', r, E, ev, p⟩ => ?_
    dsimp only [evS] at ev
    cases e1 : evS R s env S with
    | none => rw [e1] at ev; cases ev
    | some q =>
      obtain ⟨f, env1, S1⟩ := q
      rw [e1] at ev
      cases f with
      | nx => exact ⟨W, env, S, .nx, env1, S1, r, E, e1, fun W1 H1 σ1 x1 R1 E1 => ⟨W1, env1, S1, f', env', S', R1, E1, ev, p.after x1⟩⟩
      | bk =>
        cases ev
        exact ⟨W, env, S, .bk, _, _, r, E, e1, p⟩
      | ct =>
        cases ev
        exact ⟨W, env, S, .ct, _, _, r, E, e1, p⟩
      | rt v =>
        cases ev
        exact ⟨W, env, S, .rt v, _, _, r, E, e1, p⟩
theorem s_ifs {c : ME} {a b : MS} (hc : SE c) (h1 : SB a) (h2 : SB b) : SS (.ifs c a b) := fun N R n C s ok X x hp => by
  cases s with
  | If t y z p =>
    have ok : (okE N c C t && (okB N a C y && okB N b C z)) = true := ok
    obtain ⟨z1, j1⟩ := and_t ok
    obtain ⟨z2, z3⟩ := and_t j1
    refine (ps_if (hc N R n C t z1 X x).2 (h1 N R n C y z2 X x hp) (h2 N R n C z z3 X x hp)).imp fun D σ H ⟨W, env, S, f', env', S', r, E, ev, p⟩ => ?_
    dsimp only [evS] at ev
    split at ev
    · rename_i v S1 e1
      cases e2 : tru S1 v with
      | none => rw [e2] at ev; cases ev
      | some k =>
        rw [e2] at ev
        refine ⟨W, env, S, v, S1, k, r, E, e1, e2, fun W1 H1 x1 R1 => ?_⟩
        cases k with
        | true => exact iteT ⟨W1, env, S1, f', env', S', R1, E.ext x1, ev, p.after x1⟩
        | false => exact iteF ⟨W1, env, S1, f', env', S', R1, E.ext x1, ev, p.after x1⟩
    · cases ev
  | _ => cases ok
/-- the end of a loop's turn -/
def EndsL (D : Ends) (N : L2.St → Hp → Prop) : Ends := { D with nx := N, ct := N, bk := D.nx }
theorem s_loop {t : MT} {it : ME} {b : MS} (hi : SI it) (hb : SB b) : SS (.loop t it b) := fun N R n C s ok X x hp => by
  cases s with
  | For tg i body orelse q =>
    cases orelse with
    | cons _ _ => cases ok
    | nil =>
      have ok : (okT t C tg && (okI N it C tg i && okB N b C body)) = true := ok
      obtain ⟨z1, j1⟩ := and_t ok
      obtain ⟨z2, z3⟩ := and_t j1
      refine (ps_for hp x.calm (hi N R n C tg i z2 X x) (s_tg t tg z1 x) (hb N R n C body z3 X x hp) (not_folded z2)).imp fun D σ H ⟨W, env, S, f', env', S', r, E, ev, p⟩ => ?_
      dsimp only [evS] at ev
      split at ev
      · rename_i v S1 e1
        split at ev
        · rename_i vs src e2
          have st0 := items_stay e2
          refine ⟨W, env, S, v, S1, vs, src, r, E, e1, e2, fun W1 H1 J x1 R1 iok => ?_⟩
          refine ⟨fun i m σi Hi => m = vs.length - i ∧ i ≤ vs.length ∧ ∃ Wi Si envi, Ext W1 H1 Wi Hi ∧ Rel X.K X.mg Wi Si Hi ∧ ER X.K X.mg Wi envi σi ∧ stays src Si ∧ loopF _ src (vs.drop i) envi Si = some (f', env', S'),
            ⟨vs.length, by simp, Nat.zero_le _, W1, S1, env, Ext.refl _ _, R1, E.ext x1, st0, ev⟩, ?_⟩
          rintro i m σi Hi ⟨rfl, hi, Wi, Si, envi, xi, Ri, Ei, st, ei⟩
          obtain ⟨step, stop⟩ := iok Wi Si Hi xi.le Ri st
          by_cases hlt : i < vs.length
          · refine .inr ?_
            have ev : vs[i]? = some vs[i] := List.getElem?_eq_getElem hlt
            obtain ⟨go, yld⟩ := step i _ ev
            rw [List.drop_eq_getElem_cons hlt] at ei
            dsimp only [loopF] at ei
            refine ⟨go, fun σ' H' => ∃ m', m' < vs.length - i ∧ (m' = vs.length - (i + 1) ∧ i + 1 ≤ vs.length ∧ ∃ Wi Si envi, Ext W1 H1 Wi H' ∧ Rel X.K X.mg Wi Si H' ∧ ER X.K X.mg Wi envi σ' ∧ stays src Si ∧ loopF _ src (vs.drop (i + 1)) envi Si = some (f', env', S')), fun σ' H' h => h, fun y H' yl => ?_⟩
            obtain ⟨W2, x2, R2, rv⟩ := yld y H' yl
            cases eb : bindT Si t vs[i] envi with
            | none => rw [eb] at ei; cases ei
            | some env2 =>
              rw [eb] at ei
              dsimp only at ei
              refine ⟨W2, envi, Si, vs[i], env2, R2, Ei.ext x2, rv, eb, fun σ2 E2 _ => ?_⟩
              have more : ∀ {B : Val → Env' → Sto → Option (Flow' × Env' × Sto)} {env3 : Env'} {S3 : Sto}, (if stays src S3 then loopF B src (vs.drop (i + 1)) env3 S3 else none) = some (f', env', S') → ∀ W3 H3 σ3, Ext W2 H' W3 H3 → Rel X.K X.mg W3 S3 H3 → ER X.K X.mg W3 env3 σ3 → ∃ m', m' < vs.length - i ∧ (m' = vs.length - (i + 1) ∧ i + 1 ≤ vs.length ∧ ∃ Wi Si envi, Ext W1 H1 Wi H3 ∧ Rel X.K X.mg Wi Si H3 ∧ ER X.K X.mg Wi envi σ3 ∧ stays src Si ∧ loopF B src (vs.drop (i + 1)) envi Si = some (f', env', S')) := by
                intro B env3 S3 e3 W3 H3 σ3 x3 R3 E3
                split at e3
                · exact ⟨vs.length - (i + 1), by omega, rfl, hlt, W3, S3, env3, (xi.trans x2).trans x3, R3, E3, ‹_›, e3⟩
                · cases e3
              cases eb2 : evS R b env2 Si with
              | none => rw [eb2] at ei; cases ei
              | some q =>
                obtain ⟨f, env3, S3⟩ := q
                rw [eb2] at ei
                cases f with
                | nx => exact ⟨W2, env2, Si, .nx, env3, S3, R2, E2, eb2, more ei⟩
                | ct => exact ⟨W2, env2, Si, .ct, env3, S3, R2, E2, eb2, more ei⟩
                | bk =>
                  cases ei
                  exact ⟨W2, env2, Si, .bk, _, _, R2, E2, eb2, p.after (x1.trans (xi.trans x2))⟩
                | rt w =>
                  cases ei
                  exact ⟨W2, env2, Si, .rt w, _, _, R2, E2, eb2, p.after (x1.trans (xi.trans x2))⟩
          · have e : i = vs.length := by omega
            subst e
            rw [List.drop_length] at ei
            cases ei
            exact .inl ⟨stop, nx_here (p.after (x1.trans xi)) Ri Ei⟩
        · cases ev
      · cases ev
  | _ => cases ok
theorem s_whl {c : ME} {b : MS} (hc : SE c) (hb : SB b) : SS (.whl c b) := fun N R n C s ok X x hp => by
  cases s with
  | While t body orelse q =>
    cases orelse with
    | cons _ _ => cases ok
    | nil =>
      obtain ⟨z1, z2⟩ := and_t (show (okE N c C t && okB N b C body) = true from ok)
      refine (ps_while hp (hc N R n C t z1 X x).2 (hb N R n C body z2 X x hp)).imp fun D σ H ⟨W, env, S, f', env', S', r, E, ev, p⟩ => ?_
      dsimp only [evS] at ev
      refine ⟨fun m σi Hi => ∃ Wi Si envi, Ext W H Wi Hi ∧ Rel X.K X.mg Wi Si Hi ∧ ER X.K X.mg Wi envi σi ∧ whileF _ _ m envi Si = some (f', env', S'), ⟨R.most, W, S, env, Ext.refl _ _, r, E, ev⟩, ?_⟩
      rintro m σi Hi ⟨Wi, Si, envi, xi, Ri, Ei, ei⟩
      cases m with
      | zero => cases ei
      | succ m =>
        dsimp only [whileF] at ei
        cases e1 : evE R c envi Si with
        | none => rw [e1] at ei; cases ei
        | some q =>
          obtain ⟨v, S1⟩ := q
          rw [e1] at ei
          dsimp only at ei
          cases e2 : tru S1 v with
          | none => rw [e2] at ei; cases ei
          | some k =>
            rw [e2] at ei
            refine ⟨Wi, envi, Si, v, S1, k, Ri, Ei, e1, e2, fun W1 H1 x1 R1 => ?_⟩
            cases k with
            | false =>
              cases ei
              exact iteF (nx_here (p.after (xi.trans x1)) R1 (Ei.ext x1))
            | true =>
              refine iteT ⟨_, fun σ' H' h => ⟨m, Nat.lt_succ_self m, h⟩, ?_⟩
              dsimp only [Option.map_some] at ei
              cases eb2 : evS R b envi S1 with
              | none => rw [eb2] at ei; cases ei
              | some q =>
                obtain ⟨f, env3, S3⟩ := q
                rw [eb2] at ei
                cases f with
                | nx => exact ⟨W1, envi, S1, .nx, env3, S3, R1, Ei.ext x1, eb2, fun W3 H3 σ3 x3 R3 E3 => ⟨W3, S3, env3, (xi.trans x1).trans x3, R3, E3, ei⟩⟩
                | ct => exact ⟨W1, envi, S1, .ct, env3, S3, R1, Ei.ext x1, eb2, fun W3 H3 σ3 x3 R3 E3 => ⟨W3, S3, env3, (xi.trans x1).trans x3, R3, E3, ei⟩⟩
                | bk =>
                  cases ei
                  exact ⟨W1, envi, S1, .bk, _, _, R1, Ei.ext x1, eb2, p.after (xi.trans x1)⟩
                | rt w =>
                  cases ei
                  exact ⟨W1, envi, S1, .rt w, _, _, R1, Ei.ext x1, eb2, p.after (xi.trans x1)⟩
  | _ => cases ok
end
end Mi

namespace Mi
open PySem PySem.Spec PyProof.Rows L2
open Classical
/-! ### max(xs, default=d) -/
section
variable {prog : Program} {w : World} {A : Around}
theorem mx_word : (toString "max" ++ toString ".loop" : String) = "max.loop" := by decide
theorem mx_turns {R : Result → Shared → Prop} {I T : Addr} {fp wr : List Addr} {n : Nat} {P : Nat → Value → Prop} {St : Nat → Heap → Prop} {kw : List (Str × Value)} (Wk : Walks prog w A.in1 I fp wr n P St) (gt : Nat → Nat → Bool) (hc : CmpOf prog w A.in1 .Gt P gt) (hT : T ∉ fp) :
    ∀ (d j : Nat) (s : Shared) (u : Value) (c : Nat), n = j + 1 + d → St (j + 1) s.heap → P (argBest gt j) u → s.heap.get? T = some { cls := .type "list", data := .seq #[u, u] c } →
      (∀ v g tk, P (argBest gt (n - 1)) v → (∀ b o, b ∉ wr → b ≠ T → s.heap.get? b = some o → g.get? b = some o) → R (.ok (.ret v)) { s with heap := g, toks := tk }) →
      codeAny (model prog w) A (.builtin "max.loop" ⟨[.ref I, .none, .ref T], kw⟩) R s := by
  have hw : T ∉ wr := fun q => hT (Wk.sub _ q)
  intro d
  induction d with
  | zero =>
    intro j s u c hn st hu hg hR
    refine codeAny_builtin F.entry_max_loop ?_
    rw [Around.under_plainId F.plain_max_loop _]
    show wpAny _ A.in1 (seqItems? (.ref T) >>= _) _ _ s
    refine wpAny_bind (wpAny_seqItems hg rfl ?_)
    show wpAny _ A.in1 (tryCatch (pyNext (.ref I)) _ >>= _) _ _ s
    have st : St n s.heap := by rw [hn]; exact st
    refine wpAny_bind (wpAny_tryCatch (Wk.done s _ _ st fun g tk keep => ?_))
    have hg' := keep T _ hw hg
    show wpAny _ A.in1 (updateSeq T (fun _ => #[]) >>= _) _ _ _
    refine wpAny_bind (wpAny_updateSeq hg' rfl (wpAny_bind (wpAny_letGo (wpAny_pure ?_))))
    refine hR u _ tk (by rw [hn]; exact hu) fun b o b1 b2 e => ?_
    exact (Heap.get?_update_other _ _ (Ne.symm b2)).trans (keep b o b1 e)
  | succ d ih =>
    intro j s u c hn st hu hg hR
    have lt : j + 1 < n := by omega
    refine codeAny_builtin F.entry_max_loop ?_
    rw [Around.under_plainId F.plain_max_loop _]
    show wpAny _ A.in1 (seqItems? (.ref T) >>= _) _ _ s
    refine wpAny_bind (wpAny_seqItems hg rfl ?_)
    show wpAny _ A.in1 (tryCatch (pyNext (.ref I)) _ >>= _) _ _ s
    refine wpAny_bind (wpAny_tryCatch (Wk.item (j + 1) s _ _ lt st fun v g tk hv st2 keep => ?_))
    have hg' := keep T _ hw hg
    show wpAny _ A.in1 (tryCatch (holding [v, v] (richCompare .Gt v u >>= _)) _ >>= _) _ _ _
    refine wpAny_bind (wpAny_tryCatch (wpAny_holding (wpAny_bind (hc (j + 1) (argBest gt j) v u _ _ _ hv hu ?_))))
    refine wpAny_bind (wpAny_holding (wpAny_truthy_bool (wpAny_bind (wpAny_letGo (wpAny_pure ?_)))))
    cases q : gt (j + 1) (argBest gt j) with
    | true =>
      simp only [if_true]
      refine wpAny_bind (wpAny_updateSeq hg' rfl (wpAny_bind (wpAny_letGo ?_)))
      rw [mx_word]
      refine wpAny_pure ⟨plainId_quiet F.plain_max_loop _, ih (j + 1) _ v _ (by omega) (Wk.frame _ _ _ st2 fun b hb o e => ?_) (by simp only [argBest, q, if_true]; exact hv) (Heap.get?_update_self _ hg' rfl) fun x g2 tk2 hx keep2 => ?_⟩
      · exact (Heap.get?_update_other _ _ (fun z : T = b => hT (by rw [z]; exact hb))).trans e
      · exact hR x g2 tk2 hx fun b o b1 b2 e => keep2 b o b1 b2 ((Heap.get?_update_other _ _ (Ne.symm b2)).trans (keep b o b1 e))
    | false =>
      simp only [Bool.false_eq_true, if_false]
      refine wpAny_bind (wpAny_letGo ?_)
      rw [mx_word]
      refine wpAny_pure ⟨plainId_quiet F.plain_max_loop _, ih (j + 1) _ u c (by omega) st2 (by simp only [argBest, q, Bool.false_eq_true, if_false]; exact hu) hg' fun x g2 tk2 hx keep2 => ?_⟩
      exact hR x g2 tk2 hx fun b o b1 b2 e => keep2 b o b1 b2 (keep b o b1 e)
/-- the loop from its first turn, a default by -/
theorem mx_first {R : Result → Shared → Prop} {I T : Addr} {fp wr : List Addr} {n : Nat} {P : Nat → Value → Prop} {St : Nat → Heap → Prop} {k : Str} {d : Value} (Wk : Walks prog w A.in1 I fp wr n P St) (gt : Nat → Nat → Bool) (hc : CmpOf prog w A.in1 .Gt P gt) (hT : T ∉ fp) {s : Shared} {c : Nat} (st : St 0 s.heap)
    (hg : s.heap.get? T = some { cls := .type "list", data := .seq #[] c })
    (h0 : n = 0 → ∀ g tk, (∀ b o, b ∉ wr → b ≠ T → s.heap.get? b = some o → g.get? b = some o) → R (.ok (.ret d)) { s with heap := g, toks := tk })
    (hR : 0 < n → ∀ v g tk, P (argBest gt (n - 1)) v → (∀ b o, b ∉ wr → b ≠ T → s.heap.get? b = some o → g.get? b = some o) → R (.ok (.ret v)) { s with heap := g, toks := tk }) :
    codeAny (model prog w) A (.builtin "max.loop" ⟨[.ref I, .none, .ref T], [(k, d)]⟩) R s := by
  have hw : T ∉ wr := fun q => hT (Wk.sub _ q)
  refine codeAny_builtin F.entry_max_loop ?_
  rw [Around.under_plainId F.plain_max_loop _]
  show wpAny _ A.in1 (seqItems? (.ref T) >>= _) _ _ s
  refine wpAny_bind (wpAny_seqItems hg rfl ?_)
  show wpAny _ A.in1 (tryCatch (pyNext (.ref I)) _ >>= _) _ _ s
  by_cases z : n = 0
  · have st : St n s.heap := by rw [z]; exact st
    refine wpAny_bind (wpAny_tryCatch (Wk.done s _ _ st fun g tk keep => ?_))
    refine wpAny_bind (wpAny_rule (wpAny_pure ?_))
    exact h0 z g tk fun b o b1 b2 e => keep b o b1 e
  · have lt : 0 < n := by omega
    refine wpAny_bind (wpAny_tryCatch (Wk.item 0 s _ _ lt st fun v g tk hv st2 keep => ?_))
    have hg' := keep T _ hw hg
    show wpAny _ A.in1 (updateSeq T (fun _ => #[v, v]) >>= _) _ _ _
    refine wpAny_bind (wpAny_updateSeq hg' rfl ?_)
    rw [mx_word]
    refine wpAny_pure ⟨plainId_quiet F.plain_max_loop _, mx_turns Wk gt hc hT (n - 1) 0 _ v _ (by omega) (Wk.frame _ _ _ st2 fun b hb o e => ?_) hv (Heap.get?_update_self _ hg' rfl) fun x g2 tk2 hx keep2 => ?_⟩
    · exact (Heap.get?_update_other _ _ (fun z : T = b => hT (by rw [z]; exact hb))).trans e
    · exact hR lt x g2 tk2 hx fun b o b1 b2 e => keep2 b o b1 b2 ((Heap.get?_update_other _ _ (Ne.symm b2)).trans (keep b o b1 e))
theorem mx_bind (d : Value) : Builtin.Builtins.bindParams "max" ["key", "default"] 0 ⟨[], [(("default" : Str), d)]⟩ = pure [none, some d] := by kernel_rfl
theorem mx_args (a d : Value) : argsOk "max" ⟨[a], [(("default" : Str), d)]⟩ := by unfold argsOk; kernel_rfl
theorem mx_call {E : Value → Shared → Prop} {s : Shared} {x d : Value} {Q : Value → Shared → Prop}
    (h : wpAny (model prog w) A.in1 (pyIter x) (fun it s₂ => ∃ I fp wr n P St gt, it = .ref I ∧ Walks prog w A.in1 I fp wr n P St ∧ St 0 s₂.heap ∧ (∀ b ∈ fp, b < s₂.heap.objs.size) ∧ CmpOf prog w A.in1 .Gt P gt ∧
      (n = 0 → ∀ g tk, (∀ b o, b ∉ wr → s₂.heap.get? b = some o → g.get? b = some o) → Q d { s₂ with heap := g, toks := tk }) ∧
      (0 < n → ∀ v g tk, P (argBest gt (n - 1)) v → (∀ b o, b ∉ wr → s₂.heap.get? b = some o → g.get? b = some o) → Q v { s₂ with heap := g, toks := tk })) E s) :
    wpAny (model prog w) A (call (.builtin "max") [x] [(("default" : Str), d)]) Q E s := by
  refine wpAny_call (codeAny_call_builtin F.plain_max F.entry_max ?_)
  have go : wpAny (model prog w) A.in1 (Builtin.«max» ⟨[x], [(("default" : Str), d)]⟩) (fun fin s' => match fin with
      | .done f => (match (Except.ok f : Result) with | .ok (.ret v) => Q v s' | .ok _ => False | .error e => E e s')
      | .again c => c.quiet = true ∧ codeAny (model prog w) A c (fun r s' => match r with | .ok (.ret v) => Q v s' | .ok _ => False | .error e => E e s') s') E s := by
    show wpAny _ A.in1 (Builtin.Builtins.bindParams "max" ["key", "default"] 0 ⟨[], [(("default" : Str), d)]⟩ >>= _) _ _ s
    refine wpAny_bind (wpAny_of_eq (mx_bind d) ?_)
    refine wpAny_bind (wpAny_pure (wpAny_bind (wpAny_mono h (fun it s₂ h₂ => ?_) fun _ _ e => e)))
    obtain ⟨I, fp, wr, n, P, St, gt, rfl, Wk, st, hf, hc, q0, q1⟩ := h₂
    refine wpAny_bind (wpAny_newObj_type ?_)
    have hT : s₂.heap.objs.size ∉ fp := fun m => Nat.lt_irrefl _ (hf _ m)
    rw [mx_word]
    refine wpAny_pure ⟨plainId_quiet F.plain_max_loop _, mx_first Wk gt hc hT (Wk.frame _ _ _ st fun b _ o e => Heap.get?_push_of_some _ e) (Heap.get?_push_size _ rfl) (fun z g tk keep => ?_) fun z v g tk hv keep => ?_⟩
    · exact q0 z g tk fun b o b1 e => keep b o b1 (Nat.ne_of_lt (Heap.lt_size e)) (Heap.get?_push_of_some _ e)
    · exact q1 z v g tk hv fun b o b1 e => keep b o b1 (Nat.ne_of_lt (Heap.lt_size e)) (Heap.get?_push_of_some _ e)
  simp only [checkBuiltinCall, F.kind_max]
  have ha := mx_args x d
  cases hsig : Manifest.signature? "max" with
  | none => exact wpAny_pure go
  | some sig =>
    simp only [argsOk, hsig] at ha
    have h2 : Bind.checkArgs "max" sig ⟨[x], [(("default" : Str), d)]⟩ = pure () := ha
    show wpAny _ A.in1 (Bind.checkArgs "max" sig ⟨[x], [(("default" : Str), d)]⟩) _ _ s
    rw [h2]
    exact wpAny_pure go
/-- .. of a list of ints -/
theorem mx_ints {E : Value → Shared → Prop} {s : Shared} {l : Addr} {its : List Value} {ns : List Int} {d : Value} {Q : Value → Shared → Prop} (hh : A.handled = none) (hl : s.heap.IsList l its.toArray) (hi : IntsAre its ns)
    (h0 : ns = [] → ∀ g tk, (∀ b o, s.heap.get? b = some o → g.get? b = some o) → Q d { s with heap := g, toks := tk })
    (h1 : 0 < ns.length → ∀ g tk m t, (∀ b o, s.heap.get? b = some o → g.get? b = some o) → m ∈ ns → (∀ a, a ∈ ns → a ≤ m) → Q (.int m t) { s with heap := g, toks := tk }) :
    wpAny (model prog w) A (call (.builtin "max") [.ref l] [(("default" : Str), d)]) Q E s := by
  obtain ⟨xs, e⟩ := hi.allInts.items
  have hn : numsOf (intItems xs).toList = ns := by rw [← e]; exact hi.numsOf
  rw [nums_intItems] at hn
  subst hn
  rw [e] at hl
  refine mx_call (iter_intList hl fun s₂ e st hf hI => ?_)
  subst e
  refine ⟨_, _, _, _, _, _, _, rfl, Walks.list (A := A.in1) hh _ l hI (intItems xs), st, hf, CmpOf.ints_gt (numAt xs) (fun _ _ => intItems_at), fun z g tk keep => ?_, fun z v g tk hv keep => ?_⟩
  · have z : (intItems xs).size = 0 := z
    exact h0 (by
      have : xs.size = 0 := by simpa [intItems] using z
      simp [Array.eq_empty_of_size_eq_zero this]) g tk (old_kept keep)
  · have z : 0 < xs.size := by simpa [intItems] using z
    have hv : (intItems xs)[argBest (fun i j => decide (numAt xs i > numAt xs j)) (xs.size - 1)]? = some v := by simpa [intItems] using hv
    obtain ⟨t, rfl⟩ := intItems_at hv
    obtain ⟨g1, g2⟩ := argBest_gt (numAt xs) (xs.size - 1)
    refine h1 (by simpa using z) g tk _ t (old_kept keep) ?_ fun a ha => ?_
    · rw [numAt_eq]
      exact PySem.getD_mem (by rw [List.length_map, Array.length_toList]; omega)
    · obtain ⟨j, hj, rfl⟩ := mem_getD ha
      rw [List.length_map, Array.length_toList] at hj
      rw [← numAt_eq]
      exact g2 j (by omega)
end
end Mi

namespace Mi
open PySem PySem.Spec PyProof.Rows L2
open Classical
section
variable {X : Cx} {C : SC} {N : Nms} {R : Run} {n : Nat}
def mxQ (K : PySem.W.Frag) (Q : VK) (x d : V) (H : Hp) : Prop := ∃ a ns, x = .ref a ∧ SqL K H a (ns.map V.int) ∧ (ns = [] → Q d H) ∧ ∀ m, m ∈ ns → (∀ y, y ∈ ns → y ≤ m) → Q (.int m) H
def tMx (K : PySem.W.Frag) (ta td : TE) : TE := fun σ H Q => ta σ H fun x H1 => td σ H1 fun d H2 => mxQ K Q x d H2
theorem keeps_blt {id : String} (h : Heap) (_ : True) {M : Model} : ∃ k, (k = Keeper.frame ∨ k = Keeper.machine ∨ k = Keeper.boundFrame) ∧ PySem.W.Looks M h (keeperOf (.builtin id)) k :=
  ⟨.machine, .inr (.inl rfl), PySem.W.Looks.of_pure rfl⟩
theorem pe_mx {e z : Expr} {p pos kp : Pos} {ta td : TE} (hc : X.calm = true) (hg : Gl X "max") (hm : X.mg "max" = none) (ha : PE X e ta) (hd : PE X z td) (he : notStar e = true) :
    PE X (.Call (.Name "max" p) [e] [⟨some "default", z, kp⟩] pos) (tMx X.K ta td) := by
  refine ⟨fun pins s σ H Q I h => ?_⟩
  refine wpAny_Call_Name_kw (ld_blt I hg hm (bi_boot .max) ?_ (bi_name .max) (bi_debug .max))
  refine PySem.W.callWith_of (P := fun _ => True) ?_ (fun h t => keeps_blt h t) ?_
  · have : starEach [e] X.env = [(false, eval e X.env)] := star_of he
    rw [this]
    rfl
  · refine PyProof.Rows.evalArgs_kw2 rfl ?_ (star_of he)
    have pa : PA X [e] (tCons ta tNil) := pa_cons ha pa_nil (star_of he)
    refine thn (pa.run pos pins s σ H (fun vs H1 => match vs with
      | [x] => td σ H1 fun d H2 => mxQ X.K Q x d H2
      | _ => False) I h) fun us s1 ⟨vs, H1, I1, r1, q1⟩ => ?_
    dsimp only at q1
    split at q1
    · rename_i x
      have pk : PK X [⟨some "default", z, kp⟩] (tCons td tNil) := pk_cons hd pk_nil
      refine thn (pk.run pos pins s1 σ H1 (fun ws H2 => match ws with
        | [d] => mxQ X.K Q x d H2
        | _ => False) I1 q1) fun ws s2 ⟨zs, H2, I2, r2, q2⟩ => ?_
      dsimp only at q2
      split at q2
      · rename_i d
        obtain ⟨a, ns, rfl, hl, q0, q3⟩ := q2
        obtain ⟨its, rv, hl, _⟩ := I2.list hl
        refine ⟨trivial, ?_⟩
        rw [Vals.ref1 r1]
        cases r2 with
        | @cons _ dv _ _ rd t =>
          cases t
          refine mx_ints (I2.ok.hd hc) hl.isList rv.ints (fun e g tk keep => ?_) fun e g tk m t keep h1 h2 => ?_
          · exact ⟨d, H2, I2.kept keep, rd, q0 e⟩
          · exact ⟨.int m, H2, I2.kept keep, ⟨_, rfl⟩, q3 m h1 h2⟩
      · exact q2.elim
    · exact q1.elim
theorem s_maxd {es : ME} (hs : ∀ a d, es = .econs a (.econs d .enil) → SE a ∧ SE d) : SE (.bi .maxd es) := SE.of_val fun N R n C e ok X x => by
  cases e with
  | Call fn xs ks q =>
    cases fn with
    | Name y p =>
      cases es with
      | econs a r =>
        cases r with
        | econs d r =>
          cases r with
          | enil =>
            obtain ⟨ha, hd⟩ := hs a d rfl
            rcases xs with _ | ⟨e, _ | ⟨_, _⟩⟩
            · cases ok
            · rcases ks with _ | ⟨⟨kn, z, kp⟩, _ | ⟨_, _⟩⟩
              · cases ok
              · cases kn with
                | none => cases ok
                | some k =>
                  have ok : (decide (y = ("max" : Str)) && (C.gl y && (decide (k = ("default" : Str)) && (okE N a C e && okE N d C z)))) = true := ok
                  obtain ⟨z1, j1⟩ := and_t ok
                  obtain ⟨z2, j2⟩ := and_t j1
                  obtain ⟨z3, j3⟩ := and_t j2
                  obtain ⟨z4, z5⟩ := and_t j3
                  cases dec_t z1
                  cases dec_t z3
                  have ns : notStar e = true := by
                    cases e with
                    | Starred _ _ => exact (not_star z4).elim
                    | _ => rfl
                  refine ⟨(pe_mx x.calm (x.gl z2) (x.g.free _ (bi_free .max)) (ha N R n C e z4 X x).1 (hd N R n C z z5 X x).1 ns).imp fun σ H Q ⟨W, env, S, v, S', r, E, e, p⟩ => ?_, fun _ => rfl⟩
                  dsimp only [evE] at e
                  cases e1 : evE R a env S with
                  | none => rw [e1] at e; cases e
                  | some q1 =>
                    obtain ⟨v1, S1⟩ := q1
                    rw [e1] at e
                    dsimp only at e
                    cases e2 : evE R d env S1 with
                    | none => rw [e2] at e; cases e
                    | some q2 =>
                      obtain ⟨v2, S2⟩ := q2
                      rw [e2] at e
                      have e : (bi2 S2 .maxd v1 v2).map (fun v => (v, S2)) = some (v, S') := e
                      obtain ⟨w, e3, e4⟩ := Option.map_eq_some_iff.mp e
                      cases e4
                      refine ⟨W, env, S, v1, S1, r, E, e1, fun W1 H1 u1 x1 R1 r1 => ⟨W1, env, S1, v2, S', R1, E.ext x1, e2, fun W2 H2 u2 x2 R2 r2 => ?_⟩⟩
                      cases v2 with
                      | int dd =>
                        have e3 : ((lstOf S' v1).bind intsOf).map (fun ns => Val.int ((maxI ns).getD dd)) = some v := by cases v1 <;> exact e3
                        obtain ⟨ns, e5, e6⟩ := Option.map_eq_some_iff.mp e3
                        subst e6
                        obtain ⟨l, rfl, hl⟩ := lst_ints R2 (r1.le x2.le) e5
                        cases r2
                        have fin := (p.after (x1.trans x2)).here R2 (.int _)
                        refine ⟨l, ns, rfl, hl, fun e => ?_, fun m h1 h2 => ?_⟩
                        · subst e
                          exact fin
                        · cases ns with
                          | nil => cases h1
                          | cons i is =>
                            rw [max_fold is i m h1 h2]
                            exact fin
                      | _ => cases v1 <;> cases e3
              · cases kn <;> cases ok
            · cases ok
          | _ => cases ok
        | _ => cases ok
      | _ => cases ok
    | _ => cases ok
  | _ => cases ok
end
end Mi

namespace Mi
open PySem PySem.Spec PyProof.Rows L2
open Classical
/-! ### dict comprehensions, keys of either kind -/
/-- an empty dict of a kind -/
def emO (tk : Bool) : HO := if tk then .dT [] else .dK []
theorem em_ok {P : Program} {w : World} {H : Hp} (tk : Bool) (h : Heap) (hb : sysModules < h.objs.size) : ObjOk P w H (h.push { cls := .type "dict", data := .dict #[] }) h.objs.size (emO tk) := by
  cases tk with
  | true => exact dt_empty h hb
  | false => exact dk_empty h hb
section
variable {X : Cx}
theorem dict_put {pins : List (Addr × Obj)} {σ : L2.St} {H H' : Hp} {s : Shared} {E : Value → Shared → Prop} {D : Addr} {y v : V} {u r : Value} {Q : Unit → Shared → Prop} (hu : X.A.units < cLine) (I : Inv X pins σ H s) (g : DPut H D y v H') (ry : RelV y u) (rv : RelV v r)
    (h : ∀ s', Inv X pins σ H' s' → Q () s') : wpAny (model X.prog X.w) X.A (dictSet D u r) Q E s := by
  rcases g with ⟨kvs, k, e, ey, l, eH⟩ | ⟨kvs, k, b, e, ey, eb, l, eH⟩
  · subst ey
    subst eH
    exact d_dictSet I e l ry rv h
  · subst ey
    subst eH
    cases (show u = Value.ref b from ry)
    obtain ⟨z, nd, ps, rel, dd⟩ := dt_of I.hok e
    have hz : ps.length ≤ sizeLine := by rw [← Paired.length rel]; exact z
    have hl : (putK kvs k v).length ≤ sizeLine := Nat.le_trans (length_putK kvs k v) l
    refine wpAny_dictSet_heap (hsz := hz) hu (key_of I.hok eb) dd fun g' dd' keep => h _ ?_
    obtain ⟨q, es, ep, hq, k2, k3, k4, _, k5⟩ := dd'
    refine d_write I (by rw [e]; exact True.intro) keep ⟨q, hq⟩ ⟨hl, nd, _, (rel.put k eb rv).keeps fun c ys ec => ?_, q, es, ep, hq, k2, k3, k4, k5⟩
    rw [upd_ne (ne_of ec e (fun z => nomatch z)), ec]
/-- {k: v for .. in .. if ..}: D the new dict -/
def tDX (tk : Bool) (wi : TI) (g : TG) (tt : TT) (tkey tval : TE) (vs : List Nat) : TE := fun σ H Q => wi σ H fun J H1 => ∀ D, H1 D = none → ∃ W : Nat → Nat → Hp → Prop, (∃ m, W 0 m (upd H1 D (emO tk))) ∧ ∀ i m H, W i m H →
  (J.stop i H ∧ Q (.ref D) H) ∨ (J.go i H ∧ ∃ Nx : Hp → Prop, (∀ H', Nx H' → ∃ m', m' < m ∧ W (i + 1) m' H') ∧ ∀ x H', J.yld i H x H' → g x (L2.wipe σ vs) H' fun σ2 H2 => L2.wipe σ2 vs = L2.wipe σ vs ∧ tt σ2 H2 fun b H3 =>
    if b = true then tkey σ2 H3 fun y H4 => tval σ2 H4 fun z H5 => ∃ H6, DPut H5 D y z H6 ∧ Nx H6 else Nx H3)
theorem pe_dx (tk : Bool) {kx vx tg iter : Expr} {ifs : List Expr} {scope : Scope} {own : List (Str × Nat)} {pos : Pos} {wi : TI} {g : TG} {tt : TT} {tkey tval : TE} (hu : X.A.units < cLine) (calm : X.calm = true) (nd : X.N.Nodup) (hi : PI X tg iter wi) (blk : BlkOk X.N X.env.scope scope own)
    (hg : ∀ (s : Shared) (H : Hp) (C : Addr) (cl : List (Str × Addr)) (fp : List Addr), PG (X.blk s H scope (compEnvC scope cl C X.env) fp) tg g)
    (ht : ∀ (s : Shared) (H : Hp) (C : Addr) (cl : List (Str × Addr)) (fp : List Addr), PTs (X.blk s H scope (compEnvC scope cl C X.env) fp) ifs tt)
    (hk : ∀ (s : Shared) (H : Hp) (C : Addr) (cl : List (Str × Addr)) (fp : List Addr), PE (X.blk s H scope (compEnvC scope cl C X.env) fp) kx tkey)
    (hv : ∀ (s : Shared) (H : Hp) (C : Addr) (cl : List (Str × Addr)) (fp : List Addr), PE (X.blk s H scope (compEnvC scope cl C X.env) fp) vx tval) (plain : ∀ x, foldedSetIterable iter X.env x = pure x) :
    PE X (.DictComp kx vx [⟨tg, iter, ifs, 0⟩] scope pos) (tDX tk wi g tt tkey tval (own.map (·.2))) := by
  refine ⟨fun pins s σ H Q I walk => ?_⟩
  rw [arm_eval_DictComp]
  have cells : ∀ y ∈ scope.names, y.2 = .free → ∃ c, X.env.cells.lookup y.1 = some c := fun y hy e => (blk.free y hy e).elim (fun k => I.ok.has _ (.inl k)) fun k => I.ok.has _ (.inr k)
  refine wpAny_comprehension_free (use := none) rfl plain (closure_ok cells) blk.kind (fun y hy e => by rw [blk.uniq y hy, e]) (thn (hi.run pins s σ H _ I walk) fun xv s1 hx => thn hx fun itv s2 h2 => ?_)
  obtain ⟨it, fp, tn, J, Ha, ei, Ia, T, sa, fa, rest⟩ := h2
  subst ei
  refine wpAny_newObj_type (newEnv_comp ?_)
  generalize hD : s2.heap.objs.size = D
  have freshD : Ha D = none := Ia.hok.fresh (Nat.le_of_eq hD)
  obtain ⟨W, ⟨m0, w0⟩, turn⟩ := rest D freshD
  generalize hs3 : ({ s2 with heap := s2.heap.push { cls := .type "dict", data := .dict #[] } } : Shared) = sd
  have hp3 : sd.heap = s2.heap.push { cls := .type "dict", data := .dict #[] } := by rw [← hs3]
  have Id : Inv X pins σ (upd Ha D (emO tk)) sd := by
    rw [← hs3]
    refine Ia.laid (t' := s2.toks) (fun b o q => Heap.get?_push_of_some _ q) (Nat.le_of_eq hD) ?_
    rw [← hD]
    exact em_ok tk s2.heap Ia.big
  have fd : ∀ b ∈ fp, FpOk X pins (upd Ha D (emO tk)) b ∧ b < sd.heap.objs.size := fun b hb => by
    obtain ⟨o, q, _⟩ := T.obj _ _ sa b hb
    have lt := Heap.lt_size q
    refine ⟨⟨?_, (fa b hb).2⟩, by rw [hp3, Heap.size_push]; exact Nat.lt_succ_of_lt lt⟩
    rw [upd_ne (by rw [← hD]; exact Nat.ne_of_lt lt)]
    exact (fa b hb).1
  have ta : tn 0 sd.heap := T.keep _ _ _ sa fun b _ o q => by rw [hp3]; exact Heap.get?_push_of_some _ q
  have Ib := block_start Id blk nd fd
  have pg := hg sd (upd Ha D (emO tk)) sd.heap.objs.size (cellsFrom (sd.heap.objs.size + 1) scope.names (cloFrom X.env.cells scope.names [])) fp
  have pt := ht sd (upd Ha D (emO tk)) sd.heap.objs.size (cellsFrom (sd.heap.objs.size + 1) scope.names (cloFrom X.env.cells scope.names [])) fp
  have pk := hk sd (upd Ha D (emO tk)) sd.heap.objs.size (cellsFrom (sd.heap.objs.size + 1) scope.names (cloFrom X.env.cells scope.names [])) fp
  have pv := hv sd (upd Ha D (emO tk)) sd.heap.objs.size (cellsFrom (sd.heap.objs.size + 1) scope.names (cloFrom X.env.cells scope.names [])) fp
  show codeAny _ _ (.compStart (.DictComp kx vx [⟨tg, iter, ifs, 0⟩] scope pos) 0 (.ref it) (.ref D) (compEnvC scope (cellsFrom (sd.heap.objs.size + 1) scope.names (cloFrom X.env.cells scope.names [])) sd.heap.objs.size X.env)) (compPost (model X.prog X.w) X.A X.xe none (EP X pins σ Q) (.ref D) sd.heap.objs.size) { sd with heap := pushCells (sd.heap.push { cls := .type "dict", data := .dict #[] }) scope.names }
  have nfp : ∀ b ∈ fp, (upd Ha D (emO tk)) b = none := fun b hb => (fd b hb).1.1
  generalize hce : compEnvC scope (cellsFrom (sd.heap.objs.size + 1) scope.names (cloFrom X.env.cells scope.names [])) sd.heap.objs.size X.env = ce at Ib pg pt pk pv ⊢
  have cL : ce.locals = sd.heap.objs.size := by subst hce; rfl
  generalize hHd : upd Ha D (emO tk) = Hd at Id Ib pg pt pk pv w0 nfp fd
  generalize hsb : ({ sd with heap := pushCells (sd.heap.push { cls := .type "dict", data := .dict #[] }) scope.names } : Shared) = sb at Ib ⊢
  have tb : tn 0 sb.heap := T.keep _ _ _ ta fun b _ o q => by rw [← hsb]; exact pushCells_keeps _ _ _ _ (Heap.get?_push_of_some _ q)
  have still : ∀ {τ : L2.St} {G : Hp} {t : Shared}, Inv (X.blk sd Hd scope ce fp) [] τ G t → (∀ b ∈ fp, G b = none) → ∀ b ∈ fp, FpOk (X.blk sd Hd scope ce fp) [] G b := fun {τ G t} J' no b hb =>
    ⟨no b hb, (J'.ok.exf b hb).1, J'.ok.exfs b hb, .inl hb, fun x c q => (J'.ok.exf b hb).2 x c q, fun p hp => absurd (show p ∈ ([] : List (Addr × Obj)) ++ [] from hp) (by simp)⟩
  have loop : codeAny (model X.prog X.w) X.A (.compLoop (.DictComp kx vx [⟨tg, iter, ifs, 0⟩] scope pos) 0 (.ref it) (.ref D) ce) (compPost (model X.prog X.w) X.A X.xe none (EP X pins σ Q) (.ref D) sd.heap.objs.size) sb := by
    refine compLoop_anyD (fun n t => ∃ i G, Inv (X.blk sd Hd scope ce fp) [] (L2.wipe σ (own.map (·.2))) G t ∧ tn i t.heap ∧ (∀ b ∈ fp, G b = none) ∧ W i n G) ?_ m0 ⟨0, Hd, Ib, tb, nfp, w0⟩
    rintro n t5 ⟨i, G5, J5, tn5, no5, w5⟩
    rcases turn i n G5 w5 with ⟨stop, qq⟩ | ⟨go, Nx, hNx, step⟩
    · refine thnF (T.done (X.blk sd Hd scope ce fp) rfl rfl rfl calm i [] t5 _ G5 (fun _ _ => False) J5 (still J5 no5) tn5 stop) fun r t6 ⟨hr, J6⟩ => ?_
      subst hr
      have I7 : Inv X pins σ G5 t6 := Id.call' (ch := fp) J6.os J6.base J6.hok J6.bare fun b hb => ⟨(fd b hb).1.2.2.2.1, (fd b hb).1.2.1, (fd b hb).1.2.2.2.2.1, (fd b hb).1.2.2.2.2.2⟩
      have nC : G5 sd.heap.objs.size = none := by
        have z : G5 ce.locals = none := J6.free
        rw [cL] at z
        exact z
      obtain ⟨m, hn, _⟩ := J6.loc
      have hn : t6.heap.Ns ce.locals m := hn
      rw [cL] at hn
      obtain ⟨f0, f1, f2, f3, f4, f5⟩ := Id.fpOk (Nat.le_refl _) nC
      refine ⟨m, hn, fun g' sb' => ⟨.ref D, G5, I7.turned (t' := t6.toks) (fun b o hb q => (sb'.2 b hb).trans q) f0 f1 f3 f4 f5, rfl, qq⟩⟩
    · refine thnF (T.item (X.blk sd Hd scope ce fp) rfl rfl rfl calm i [] t5 _ G5 (fun _ _ => False) J5 (still J5 no5) tn5 go) fun r t6 ⟨u, hr, h6⟩ => ?_
      subst hr
      refine thnF h6 fun _ t7 ⟨x, G7, J7, r7, y7, tn7, no7⟩ => ?_
      have J7' := J7.pinned (still J7 no7) (T.obj _ _ tn7)
      refine thnF (pg.run _ t7 _ G7 x u _ J7' r7 (step x G7 y7)) fun _ t8 ⟨τ, G8, J8, hw8, q8⟩ => ?_
      refine thnF (pt.run _ t8 τ G8 _ J8 q8) fun b t9 ⟨G9, J9, q9⟩ => ?_
      have again : ∀ {t : Shared} {G : Hp}, Inv (X.blk sd Hd scope ce fp) ([] ++ pinsAt fp t7.heap) τ G t → Nx G → ∃ m, m < n ∧ ∃ i G, Inv (X.blk sd Hd scope ce fp) [] (L2.wipe σ (own.map (·.2))) G t ∧ tn i t.heap ∧ (∀ b ∈ fp, G b = none) ∧ W i m G := fun {t G} J' nx => by
        obtain ⟨m', lt, w'⟩ := hNx G nx
        have pin' : ∀ b ∈ fp, ∀ o, t7.heap.get? b = some o → t.heap.get? b = some o ∧ G b = none := fun b hb o q =>
          let z := J'.pin (b, o) (List.mem_append_right _ (List.mem_append_right _ (mem_pinsAt hb q)))
          ⟨z.1, z.2.1⟩
        have len : (L2.wipe σ (own.map (·.2))).length = τ.length := by rw [← hw8, wipe_length]
        refine ⟨m', lt, i + 1, G, (J'.unpinned (pins := [])).weak len (fun j v q => ?_), T.keep _ _ _ tn7 fun b hb o q => (pin' b hb o q).1, fun b hb => ?_, w'⟩
        · rw [← hw8] at q
          exact (wipe_some q).1
        · obtain ⟨o, q, _⟩ := T.obj _ _ tn7 b hb
          exact (pin' b hb o q).2
      cases b with
      | false =>
        rw [if_neg Bool.false_ne_true] at q9 ⊢
        exact again J9 q9
      | true =>
        rw [if_pos rfl] at q9 ⊢
        refine thnF (pk.run _ t9 τ G9 _ J9 q9) fun z ta ⟨yk, Gk, Jk, rk, qk⟩ => ?_
        refine thnF (pv.run _ ta τ Gk _ Jk qk) fun z2 tb ⟨yv, Gv, Jv, rv, G6, put, nx⟩ => ?_
        exact dict_put (X := X.blk sd Hd scope ce fp) hu Jv put rk rv fun tc Jc => again Jc nx
  exact codeAny_compStart_dict loop (T.self X.A 0 _ _ _ tb loop)
end
end Mi

namespace Mi
open PySem PySem.Spec PyProof.Rows L2
open Classical
section
variable {X : Cx} {C : SC} {N : Nms} {R : Run} {n : Nat}
def emC (tk : Bool) : Cell := if tk then .dT [] else .dK []
theorem em_cr {K : PySem.W.Frag} {mg : Str → Option Value} {W : Wd} (tk : Bool) : CR K mg W (emC tk) (emO tk) := by
  cases tk with
  | true => exact .dT .nil
  | false => exact .dK .nil
def isD : Cell → Bool
  | .dK _ => true
  | .dT _ => true
  | _ => false
/-- a dict's cell, put to -/
theorem put_of {K : PySem.W.Frag} {mg : Str → Option Value} {W : Wd} {S : Sto} {H : Hp} (r : Rel K mg W S H) {D : Addr} {c c' : Cell} {o : HO} {k x : Val} {y z : V} (hd : isD c = true) (hD : H D = some o) (q : CR K mg W c o) (rk : VR X.K X.mg W k y) (hK : X.K = K) (hm : X.mg = mg) (rx : VR K mg W x z) (e : putC (some c) k x = some c') :
    ∃ o', DPut H D y z (upd H D o') ∧ CR K mg W c' o' ∧ isD c' = true := by
  subst hK
  subst hm
  cases q with
  | dK qs =>
    dsimp only [putC] at e
    split at e
    · rename_i hl
      obtain ⟨j, f1, f2⟩ := Option.map_eq_some_iff.mp e
      subst f2
      exact ⟨_, by rw [keyK_of rk f1]; exact DPut.k hD (by rw [← qs.length]; exact hl), .dK (qs.put (k := j) rx), rfl⟩
    · cases e
  | dT qs =>
    dsimp only [putC] at e
    split at e
    · rename_i hl
      obtain ⟨j, f1, f2⟩ := Option.map_eq_some_iff.mp e
      subst f2
      obtain ⟨b', eb, hb⟩ := keyT_of r rk f1
      exact ⟨_, by rw [eb]; exact DPut.t hD hb (by rw [← qs.length]; exact hl), .dT (qs.put (k := j) rx), rfl⟩
    · cases e
  | _ => cases hd
theorem dcomp_rd {own : List Nat} {tk : Bool} {tg : MT} {cond key val : ME} {it : ME} {σ : L2.St} {H : Hp} {Q : VK} (ho : ∀ i ∈ slots tg, i ∈ own) {W : Wd} {env : Env'} {S : Sto} {v w : Val} {S1 S' : Sto} {vs : List Val} {src : Option (Nat × Cell)} {cc : Cell} {S2 : Sto}
    (r : Rel X.K X.mg W S H) (E : ER X.K X.mg W env σ) (e1 : evE R it env S = some (v, S1)) (e2 : itemsOf S1 v = some (vs, src)) (st0 : stays src S1)
    (e3 : compD (fun x env S => match bindT S tg x env with
          | some env' => match evE R cond env' S with
            | some (c, S2) => match tru S2 c with
              | some true => match evE R key env' S2 with
                | some (k, S3) => (evE R val env' S3).map fun y => (some (k, y.1), y.2)
                | none => none
              | some false => some (none, S2)
              | none => none
            | none => none
          | none => none) src vs (emC tk) (wipeE env own) S1 = some (cc, S2)) (e4 : some (Val.ref S2.length, S2 ++ [cc]) = some (w, S')) (p : Post X.K X.mg W H S' w Q) :
    tDX tk (rdI X.K X.mg R it) (rdG X.K X.mg tg) (rdT X.K X.mg R cond) (rdE X.K X.mg R key) (rdE X.K X.mg R val) own σ H Q := by
  refine ⟨W, env, S, v, S1, vs, src, r, E, e1, e2, fun W1 H1 J x1 R1 iok D hD => ?_⟩
  have nD := R1.notOwn hD
  refine ⟨fun i m Hi => m = vs.length - i ∧ i ≤ vs.length ∧ ∃ Wi Si acc o, Ext W1 H1 Wi Hi ∧ Rel X.K X.mg Wi Si Hi ∧ ¬ Own Wi D ∧ Hi D = some o ∧ CR X.K X.mg Wi acc o ∧ isD acc = true ∧ stays src Si ∧ compD _ src (vs.drop i) acc (wipeE env own) Si = some (cc, S2),
    ⟨vs.length, by simp, Nat.zero_le _, W1, S1, emC tk, emO tk, ⟨Le.refl _, fun a o h n => ⟨by rw [upd_ne (ne_of_none h hD)]; exact h, n⟩⟩, R1.updOut nD, nD, upd_same, em_cr tk, by cases tk <;> rfl, st0, e3⟩, ?_⟩
  rintro i m Hi ⟨rfl, hi, Wi, Si, acc, o, xi, Ri, ni, hDi, qi, di, st, ei⟩
  obtain ⟨step, stop⟩ := iok Wi Si Hi xi.le Ri st
  by_cases hlt : i < vs.length
  · refine .inr ?_
    have ev : vs[i]? = some vs[i] := List.getElem?_eq_getElem hlt
    obtain ⟨go, yld⟩ := step i _ ev
    rw [List.drop_eq_getElem_cons hlt] at ei
    dsimp only [compD] at ei
    refine ⟨go, fun H' => ∃ m', m' < vs.length - i ∧ (m' = vs.length - (i + 1) ∧ i + 1 ≤ vs.length ∧ ∃ Wi Si acc o, Ext W1 H1 Wi H' ∧ Rel X.K X.mg Wi Si H' ∧ ¬ Own Wi D ∧ H' D = some o ∧ CR X.K X.mg Wi acc o ∧ isD acc = true ∧ stays src Si ∧ compD _ src (vs.drop (i + 1)) acc (wipeE env own) Si = some (cc, S2)), fun H' h => h, fun x H' y => ?_⟩
    obtain ⟨W2, x2, R2, rv⟩ := yld x H' y
    obtain ⟨hD2, n2⟩ := x2.k D _ hDi ni
    cases eb : bindT Si tg vs[i] (wipeE env own) with
    | none => rw [eb] at ei; cases ei
    | some env' =>
      rw [eb] at ei
      dsimp only at ei
      have E2 : ER X.K X.mg W2 (wipeE env own) (L2.wipe σ own) := ((E.ext x1).le (xi.le.trans x2.le)).wipe own
      refine ⟨W2, wipeE env own, Si, vs[i], env', R2, E2, rv, eb, fun σ2 E3 hw => ⟨?_, ?_⟩⟩
      · rw [hw own ho, wipe_idem]
      · cases ec : evE R cond env' Si with
        | none => rw [ec] at ei; cases ei
        | some cs =>
          obtain ⟨c, S3⟩ := cs
          rw [ec] at ei
          dsimp only at ei
          cases et : tru S3 c with
          | none => rw [et] at ei; cases ei
          | some k =>
            rw [et] at ei
            refine ⟨W2, env', Si, c, S3, k, R2, E3, ec, et, fun W3 H3 x3 R3 => ?_⟩
            obtain ⟨hD3, n3⟩ := x3.k D _ hD2 n2
            cases k with
            | true =>
              refine iteT ?_
              dsimp only at ei
              cases ek : evE R key env' S3 with
              | none => rw [ek] at ei; cases ei
              | some yk =>
                obtain ⟨kk, S4⟩ := yk
                rw [ek] at ei
                dsimp only at ei
                cases ee : evE R val env' S4 with
                | none => rw [ee] at ei; cases ei
                | some yz =>
                  obtain ⟨y', S5⟩ := yz
                  rw [ee] at ei
                  dsimp only [Option.map_some] at ei
                  split at ei
                  · rename_i cst
                    obtain ⟨c', e5, e6⟩ := Option.bind_eq_some_iff.mp ei
                    refine ⟨W3, env', S3, kk, S4, R3, E3.le x3.le, ek, fun W4 H4 u4 x4 R4 r4 => ?_⟩
                    obtain ⟨hD4, n4⟩ := x4.k D _ hD3 n3
                    refine ⟨W4, env', S4, y', S5, R4, (E3.le x3.le).le x4.le, ee, fun W5 H5 u5 x5 R5 r5 => ?_⟩
                    obtain ⟨hD5, n5⟩ := x5.k D _ hD4 n4
                    have lall := x2.le.trans (x3.le.trans (x4.le.trans x5.le))
                    obtain ⟨o', g1, g2, g3⟩ := put_of (X := X) R5 di hD5 (qi.le lall) (r4.le x5.le) rfl rfl r5 e5
                    refine ⟨_, g1, vs.length - (i + 1), by omega, rfl, hlt, W5, S5, c', o', ?_, R5.updOut n5, n5, upd_same, g2, g3, cst, e6⟩
                    have all := (((xi.trans x2).trans x3).trans x4).trans x5
                    exact ⟨all.le, fun a o h n => by
                      obtain ⟨h1, h2⟩ := all.k a o h n
                      exact ⟨by rw [upd_ne (ne_of_none h hD)]; exact h1, h2⟩⟩
                  · cases ei
            | false =>
              refine iteF ?_
              dsimp only at ei
              split at ei
              · rename_i cst
                exact ⟨vs.length - (i + 1), by omega, rfl, hlt, W3, S3, acc, o, (xi.trans x2).trans x3, R3, n3, hD3, qi.le (x2.le.trans x3.le), di, cst, ei⟩
              · cases ei
  · have e : i = vs.length := by omega
    subst e
    rw [List.drop_length] at ei
    cases ei
    cases e4
    obtain ⟨x5, R5⟩ := adoptM xi Ri hD hDi ni qi
    exact .inl ⟨stop, p _ _ _ (x1.trans x5) R5 (.ref pl_at)⟩
theorem dcomp_parts {tk : Bool} {own : List (Str × Nat)} {tg : MT} {it cond key val : ME} {t i x0 y0 : Expr} {ifs : List Expr} {asy : Int} {scope : Scope} {p : Pos} (ok : okE N (.dcomp tk own tg it cond key val) C (.DictComp x0 y0 [⟨t, i, ifs, asy⟩] scope p) = true) :
    asy = 0 ∧ okI N it C t i = true ∧ blkC C.ns C.sc scope own = true ∧ (∀ j ∈ slots tg, j ∈ own.map (·.2)) ∧ okT tg (C.inn scope) t = true ∧ (ifs = [] ∧ isTru cond = true ∨ ∃ c, ifs = [c] ∧ okE N cond (C.inn scope) c = true) ∧ okE N key (C.inn scope) x0 = true ∧ okE N val (C.inn scope) y0 = true := by
  have fin : ∀ {q : Bool}, (decide (asy = 0) && (okI N it C t i && (blkC C.ns C.sc scope own && (((slots tg).all fun i => decide (i ∈ own.map (·.2))) && (okT tg (C.inn scope) t && (q && (okE N key (C.inn scope) x0 && okE N val (C.inn scope) y0))))))) = true → asy = 0 ∧ okI N it C t i = true ∧ blkC C.ns C.sc scope own = true ∧ (∀ j ∈ slots tg, j ∈ own.map (·.2)) ∧ okT tg (C.inn scope) t = true ∧ q = true ∧ okE N key (C.inn scope) x0 = true ∧ okE N val (C.inn scope) y0 = true := by
    intro q ok
    obtain ⟨z1, j1⟩ := and_t ok
    obtain ⟨z2, j2⟩ := and_t j1
    obtain ⟨z3, j3⟩ := and_t j2
    obtain ⟨z4, j4⟩ := and_t j3
    obtain ⟨z5, j5⟩ := and_t j4
    obtain ⟨z6, z7⟩ := and_t j5
    exact ⟨dec_t z1, z2, z3, fun j hj => dec_t (List.all_eq_true.mp z4 j hj), z5, z6, and_t z7⟩
  rcases ifs with _ | ⟨c, _ | ⟨c', cs⟩⟩
  · obtain ⟨a, b, c, d, e, f, g⟩ := fin (q := isTru cond) ok
    exact ⟨a, b, c, d, e, .inl ⟨rfl, f⟩, g⟩
  · obtain ⟨a, b, c', d, e, f, g⟩ := fin (q := okE N cond (C.inn scope) c) ok
    exact ⟨a, b, c', d, e, .inr ⟨c, rfl, f⟩, g⟩
  · obtain ⟨a, b, c, d, e, f, g⟩ := fin (q := false) ok
    cases f
theorem s_dcomp {tk : Bool} {own : List (Str × Nat)} {tg : MT} {it cond key val : ME} (hi : SI it) (hc : SE cond) (hk : SE key) (hv : SE val) : SE (.dcomp tk own tg it cond key val) := SE.of_val fun N R n C e ok X x => by
  cases e with
  | DictComp x0 y0 gs scope p =>
    rcases gs with _ | ⟨⟨t, i, ifs, asy⟩, _ | ⟨_, _⟩⟩
    · cases ok
    · obtain ⟨z1, z2, z3, z4, z5, z6, z7, z8⟩ := dcomp_parts ok
      subst z1
      have hu : X.A.units < cLine := by have := x.room.un; omega
      refine ⟨(pe_dx tk (wi := rdI X.K X.mg R it) (g := rdG X.K X.mg tg) (tt := rdT X.K X.mg R cond) (tkey := rdE X.K X.mg R key) (tval := rdE X.K X.mg R val) (own := own) hu x.calm (by rw [x.ns]; exact x.nd) (hi N R n C t i z2 X x) (by rw [x.ns, x.sc]; exact blkOk_by z3) (fun s H D cl fp => s_tg tg t z5 (inner x)) (fun s H D cl fp => s_tests hc z6 (inner x)) (fun s H D cl fp => (hk N R n _ x0 z7 _ (inner x)).1) (fun s H D cl fp => (hv N R n _ y0 z8 _ (inner x)).1) (not_folded z2)).imp fun σ H Q ⟨W, env, S, v, S', r, E, e, p⟩ => ?_, fun _ => rfl⟩
      dsimp only [evE] at e
      split at e
      · rename_i z S1 e1
        split at e
        · rename_i vs src e2
          split at e
          · rename_i ys S2 e3
            exact dcomp_rd (X := X) z4 r E e1 e2 (items_stay e2) e3 e p
          · cases e
        · cases e
      · cases e
    · cases ok
  | _ => cases ok
end
end Mi

namespace Mi
open PySem PySem.Spec PyProof.Rows L2
open Classical
/-! ### all of the small text -/
structure All (m : ME) : Prop where
  e : SE m
  l : SL m
  k : SK m
  i : SI m
  sub : ∀ a r, m = .econs a r → SE a ∧ ∀ d q, r = .econs d q → SE d
  com : ∀ mu own tg it cond elt, m = .comp mu own tg it cond elt → SI it ∧ SE cond ∧ SE elt
theorem noL {m : ME} (h : ∀ N C es, okL N m C es = false) : SL m := fun N R n C es ok => by
  rw [h] at ok
  cases ok
theorem noK {m : ME} (h : ∀ N C es, okK N m C es = false) : SK m := fun N R n C es ok => by
  rw [h] at ok
  cases ok
theorem noI {m : ME} (h : ∀ N C t e, okI N m C t e = false) : SI m := fun N R n C t e ok => by
  rw [h] at ok
  cases ok
theorem noE {m : ME} (h : ∀ N C e, okE N m C e = false) : SE m := fun N R n C e ok => by
  rw [h] at ok
  cases ok
/-- a small form that stands for a value alone -/
theorem onlyE {m : ME} (h : SE m) (l : ∀ N C es, okL N m C es = false) (k : ∀ N C es, okK N m C es = false) (i : ∀ N C t e, okI N m C t e = false) (n : ∀ a r, m ≠ .econs a r) (c : ∀ mu own tg it cond elt, m ≠ .comp mu own tg it cond elt) : All m :=
  ⟨h, noL l, noK k, noI i, fun a r q => absurd q (n a r), fun _ _ _ _ _ _ q => absurd q (c _ _ _ _ _ _)⟩
theorem onlyI {m : ME} (h : SI m) (l : ∀ N C es, okL N m C es = false) (k : ∀ N C es, okK N m C es = false) (i : ∀ N C e, okE N m C e = false) (n : ∀ a r, m ≠ .econs a r) (c : ∀ mu own tg it cond elt, m ≠ .comp mu own tg it cond elt) : All m :=
  ⟨noE i, noL l, noK k, h, fun a r q => absurd q (n a r), fun _ _ _ _ _ _ q => absurd q (c _ _ _ _ _ _)⟩
theorem all_me (m : ME) : All m := by
  induction m with
  | var i => exact onlyE (s_var i) (fun _ _ _ => rfl) (fun _ _ _ => rfl) (fun _ _ _ _ => rfl) (fun _ _ q => nomatch q) (fun _ _ _ _ _ _ q => nomatch q)
  | int i => exact onlyE (s_int i) (fun _ _ _ => rfl) (fun _ _ _ => rfl) (fun _ _ _ _ => rfl) (fun _ _ q => nomatch q) (fun _ _ _ _ _ _ q => nomatch q)
  | bl b => exact onlyE (s_bl b) (fun _ _ _ => rfl) (fun _ _ _ => rfl) (fun _ _ _ _ => rfl) (fun _ _ q => nomatch q) (fun _ _ _ _ _ _ q => nomatch q)
  | non => exact onlyE (s_non) (fun _ _ _ => rfl) (fun _ _ _ => rfl) (fun _ _ _ _ => rfl) (fun _ _ q => nomatch q) (fun _ _ _ _ _ _ q => nomatch q)
  | str s => exact onlyE (s_str s) (fun _ _ _ => rfl) (fun _ _ _ => rfl) (fun _ _ _ _ => rfl) (fun _ _ q => nomatch q) (fun _ _ _ _ _ _ q => nomatch q)
  | glb x => exact onlyE (noE fun _ _ _ => rfl) (fun _ _ _ => rfl) (fun _ _ _ => rfl) (fun _ _ _ _ => rfl) (fun _ _ q => nomatch q) (fun _ _ _ _ _ _ q => nomatch q)
  | bin o a b ha hb => exact onlyE (s_bin ha.e hb.e) (fun _ _ _ => rfl) (fun _ _ _ => rfl) (fun _ _ _ _ => rfl) (fun _ _ q => nomatch q) (fun _ _ _ _ _ _ q => nomatch q)
  | neg a ha => exact onlyE (s_neg ha.e) (fun _ _ _ => rfl) (fun _ _ _ => rfl) (fun _ _ _ _ => rfl) (fun _ _ q => nomatch q) (fun _ _ _ _ _ _ q => nomatch q)
  | cmp o a b ha hb => exact onlyE (s_cmp ha.e hb.e) (fun _ _ _ => rfl) (fun _ _ _ => rfl) (fun _ _ _ _ => rfl) (fun _ _ q => nomatch q) (fun _ _ _ _ _ _ q => nomatch q)
  | chain o p a b c ha hb hc => exact onlyE (s_chain ha.e hb.e hc.e) (fun _ _ _ => rfl) (fun _ _ _ => rfl) (fun _ _ _ _ => rfl) (fun _ _ q => nomatch q) (fun _ _ _ _ _ _ q => nomatch q)
  | and a b ha hb => exact onlyE (s_and ha.e hb.e) (fun _ _ _ => rfl) (fun _ _ _ => rfl) (fun _ _ _ _ => rfl) (fun _ _ q => nomatch q) (fun _ _ _ _ _ _ q => nomatch q)
  | or a b ha hb => exact onlyE (s_or ha.e hb.e) (fun _ _ _ => rfl) (fun _ _ _ => rfl) (fun _ _ _ _ => rfl) (fun _ _ q => nomatch q) (fun _ _ _ _ _ _ q => nomatch q)
  | not a ha => exact onlyE (s_not ha.e) (fun _ _ _ => rfl) (fun _ _ _ => rfl) (fun _ _ _ _ => rfl) (fun _ _ q => nomatch q) (fun _ _ _ _ _ _ q => nomatch q)
  | ife c a b hc ha hb => exact onlyE (s_ife hc.e ha.e hb.e) (fun _ _ _ => rfl) (fun _ _ _ => rfl) (fun _ _ _ _ => rfl) (fun _ _ q => nomatch q) (fun _ _ _ _ _ _ q => nomatch q)
  | ix a i ha hi => exact onlyE (s_ix ha.e hi.e) (fun _ _ _ => rfl) (fun _ _ _ => rfl) (fun _ _ _ _ => rfl) (fun _ _ q => nomatch q) (fun _ _ _ _ _ _ q => nomatch q)
  | sl a lo hi ha hl hh => exact onlyE (s_sl ha.e hl.e hh.e) (fun _ _ _ => rfl) (fun _ _ _ => rfl) (fun _ _ _ _ => rfl) (fun _ _ q => nomatch q) (fun _ _ _ _ _ _ q => nomatch q)
  | nul => exact onlyE (noE fun _ _ _ => rfl) (fun _ _ _ => rfl) (fun _ _ _ => rfl) (fun _ _ _ _ => rfl) (fun _ _ q => nomatch q) (fun _ _ _ _ _ _ q => nomatch q)
  | tup es h => exact onlyE (s_tup h.l) (fun _ _ _ => rfl) (fun _ _ _ => rfl) (fun _ _ _ _ => rfl) (fun _ _ q => nomatch q) (fun _ _ _ _ _ _ q => nomatch q)
  | lst mu es h => exact onlyE (s_lst h.l) (fun _ _ _ => rfl) (fun _ _ _ => rfl) (fun _ _ _ _ => rfl) (fun _ _ q => nomatch q) (fun _ _ _ _ _ _ q => nomatch q)
  | enil => exact ⟨noE fun _ _ _ => rfl, sl_nil, sk_nil, noI fun _ _ _ _ => rfl, (fun _ _ q => nomatch q), (fun _ _ _ _ _ _ q => nomatch q)⟩
  | econs a r ha hr => exact ⟨noE fun _ _ _ => rfl, sl_cons ha.e hr.l, sk_cons ha.e hr.k, noI fun _ _ _ _ => rfl, fun a' r' q => by
      cases q
      exact ⟨ha.e, fun d q' e => (hr.sub d q' e).1⟩, (fun _ _ _ _ _ _ q => nomatch q)⟩
  | call f es h => exact onlyE (s_call h.l) (fun _ _ _ => rfl) (fun _ _ _ => rfl) (fun _ _ _ _ => rfl) (fun _ _ q => nomatch q) (fun _ _ _ _ _ _ q => nomatch q)
  | callk f es ks kws h hk => exact onlyE (s_callk h.l hk.k) (fun _ _ _ => rfl) (fun _ _ _ => rfl) (fun _ _ _ _ => rfl) (fun _ _ q => nomatch q) (fun _ _ _ _ _ _ q => nomatch q)
  | new c es h => exact onlyE (s_new h.l) (fun _ _ _ => rfl) (fun _ _ _ => rfl) (fun _ _ _ _ => rfl) (fun _ _ q => nomatch q) (fun _ _ _ _ _ _ q => nomatch q)
  | meth o m es ho h => exact onlyE (s_meth ho.e h.l) (fun _ _ _ => rfl) (fun _ _ _ => rfl) (fun _ _ _ _ => rfl) (fun _ _ q => nomatch q) (fun _ _ _ _ _ _ q => nomatch q)
  | bi b es h =>
    by_cases hb : b = .maxd
    · subst hb
      exact onlyE (s_maxd fun a d q => ⟨(h.sub a _ q).1, (h.sub a _ q).2 d _ rfl⟩) (fun _ _ _ => rfl) (fun _ _ _ => rfl) (fun _ _ _ _ => rfl) (fun _ _ q => nomatch q) (fun _ _ _ _ _ _ q => nomatch q)
    · exact onlyE (s_bi h.l hb) (fun _ _ _ => rfl) (fun _ _ _ => rfl) (fun _ _ _ _ => rfl) (fun _ _ q => nomatch q) (fun _ _ _ _ _ _ q => nomatch q)
  | bm b o es ho h => exact onlyE (s_bm ho.e h.l) (fun _ _ _ => rfl) (fun _ _ _ => rfl) (fun _ _ _ _ => rfl) (fun _ _ q => nomatch q) (fun _ _ _ _ _ _ q => nomatch q)
  | fld o f ho => exact onlyE (s_fld ho.e) (fun _ _ _ => rfl) (fun _ _ _ => rfl) (fun _ _ _ _ => rfl) (fun _ _ q => nomatch q) (fun _ _ _ _ _ _ q => nomatch q)
  | isi a t ha => exact onlyE (s_isi ha.e) (fun _ _ _ => rfl) (fun _ _ _ => rfl) (fun _ _ _ _ => rfl) (fun _ _ q => nomatch q) (fun _ _ _ _ _ _ q => nomatch q)
  | it e h => exact onlyI (s_it h.e) (fun _ _ _ => rfl) (fun _ _ _ => rfl) (fun _ _ _ => rfl) (fun _ _ q => nomatch q) (fun _ _ _ _ _ _ q => nomatch q)
  | rng es h => exact onlyI (s_rng h.l) (fun _ _ _ => rfl) (fun _ _ _ => rfl) (fun _ _ _ => rfl) (fun _ _ q => nomatch q) (fun _ _ _ _ _ _ q => nomatch q)
  | enum e h => exact onlyI (s_enum h.e) (fun _ _ _ => rfl) (fun _ _ _ => rfl) (fun _ _ _ => rfl) (fun _ _ q => nomatch q) (fun _ _ _ _ _ _ q => nomatch q)
  | zip a b ha hb => exact onlyI (s_zip ha.e hb.e) (fun _ _ _ => rfl) (fun _ _ _ => rfl) (fun _ _ _ => rfl) (fun _ _ q => nomatch q) (fun _ _ _ _ _ _ q => nomatch q)
  | comp mu own tg it cond elt hi hc he => exact ⟨s_comp hi.i hc.e he.e, noL fun _ _ _ => rfl, noK fun _ _ _ => rfl, noI fun _ _ _ _ => rfl, (fun _ _ q => (nomatch q)), fun _ _ _ _ _ _ q => by
      cases q
      exact ⟨hi.i, hc.e, he.e⟩⟩
  | dnewT => exact onlyE (s_dnewT) (fun _ _ _ => rfl) (fun _ _ _ => rfl) (fun _ _ _ _ => rfl) (fun _ _ q => nomatch q) (fun _ _ _ _ _ _ q => nomatch q)
  | dnewK => exact onlyE (s_dnewK) (fun _ _ _ => rfl) (fun _ _ _ => rfl) (fun _ _ _ _ => rfl) (fun _ _ q => nomatch q) (fun _ _ _ _ _ _ q => nomatch q)
  | dcomp tk own tg it cond key val hi hc hk hv => exact onlyE (s_dcomp hi.i hc.e hk.e hv.e) (fun _ _ _ => rfl) (fun _ _ _ => rfl) (fun _ _ _ _ => rfl) (fun _ _ q => nomatch q) (fun _ _ _ _ _ _ q => nomatch q)
theorem noB {m : MS} (h : ∀ N C ss, okB N m C ss = false) : SB m := fun N R n C ss ok => by
  rw [h] at ok
  cases ok
theorem noS {m : MS} (h : ∀ N C ss, okS N m C ss = false) : SS m := fun N R n C ss ok => by
  rw [h] at ok
  cases ok
theorem all_ms (m : MS) : SS m ∧ SB m := by
  have only : ∀ {m : MS}, SS m → (∀ N C ss, okB N m C ss = false) → SS m ∧ SB m := fun h k => ⟨h, noB k⟩
  induction m with
  | nil => exact ⟨noS fun _ _ _ => rfl, s_nilB⟩
  | cons s b hs hb => exact ⟨noS fun _ _ _ => rfl, s_consB hs.1 hb.2⟩
  | set i e => exact only (s_set (all_me e).e) fun _ _ _ => rfl
  | setc i e => exact only (s_setc (all_me e).com) fun _ _ _ => rfl
  | asg t e => exact only (s_asg (all_me e).e) fun _ _ _ => rfl
  | par i j es => exact only (s_par (all_me es).l) fun _ _ _ => rfl
  | setix o i e => exact only (s_setix (all_me o).e (all_me i).e (all_me e).e) fun _ _ _ => rfl
  | setfld o f e => exact only (s_setfld (all_me o).e (all_me e).e) fun _ _ _ => rfl
  | aug i o e => exact only (s_aug (all_me e).e) fun _ _ _ => rfl
  | augix a i o e => exact only (noS fun _ _ _ => rfl) fun _ _ _ => rfl
  | ex e => exact only (s_ex (all_me e).e) fun _ _ _ => rfl
  | ret e => exact only (s_ret (all_me e).e) fun _ _ _ => rfl
  | retn => exact only s_retn fun _ _ _ => rfl
  | ifs c a b ha hb => exact only (s_ifs (all_me c).e ha.2 hb.2) fun _ _ _ => rfl
  | loop t it b hb => exact only (s_loop (all_me it).i hb.2) fun _ _ _ => rfl
  | whl c b hb => exact only (s_whl (all_me c).e hb.2) fun _ _ _ => rfl
  | brk => exact only s_brk fun _ _ _ => rfl
  | cont => exact only s_cont fun _ _ _ => rfl
  | pass => exact only s_pass fun _ _ _ => rfl
/-! ### a def -/
/-- what is known of a def behind the top: where it stands, its small form -/
structure DefOk (K : PySem.W.Frag) (N : Nms) (d : Def) (a : Addr) (fd : FuncData) (ps : List Str) : Prop where
  go : ∃ (x qual : Str) (params : Arguments) (body : List Stmt) (scope : Scope) (dvs : List V) (kws : List (Str × V)) (ns : List Str), FunD K x qual params body scope dvs kws a fd ∧ FnScope ns ps scope ∧ d.np = ps.length ∧ d.nn = ns.length ∧ okB N d.body ⟨ns, scope, none⟩ body = true
section
variable {P : Program} {w : World} {K : PySem.W.Frag} {mg : Str → Option Value} {base : Heap} {N : Nms} {R : Run}
theorem er_start {W : Wd} {ns : List Str} {vs : List Val} {us : List V} (h : VRs K mg W vs us) : ER K mg W (vs.map some ++ List.replicate (ns.length - vs.length) none) (L2.start ns us) := by
  unfold L2.start
  refine ⟨by simp [h.length], fun i v e => ?_⟩
  by_cases hi : i < vs.length
  · rw [List.getElem?_append_left (by simpa using hi), List.getElem?_map] at e
    obtain ⟨v', e1, e2⟩ := Option.map_eq_some_iff.mp e
    cases e2
    obtain ⟨u, g1, g2⟩ := h.get e1
    refine ⟨u, ?_, g2⟩
    rw [List.getElem?_append_left (by rw [List.length_map, ← h.length]; exact hi), List.getElem?_map, g1]
    rfl
  · rw [List.getElem?_append_right (by simpa using Nat.le_of_not_lt hi)] at e
    obtain ⟨_, e3⟩ := List.getElem?_eq_some_iff.mp e
    rw [List.getElem_replicate] at e3
    cases e3
theorem fn_ok {n : Nat} {d : Def} {a : Addr} {fd : FuncData} {ps : List Str} {call : Call'} {c f : String} (D : DefOk K N d a fd ps) (hG : GOk P w K mg base N R n) (hc : ∀ vs S, call c f vs S = runB d R vs S) : FnOk P w K mg base CX0 (n + 2) a fd ps (spI K mg call c f) := by
  obtain ⟨x, qual, params, body, scope, dvs, kws, ns, F, S, np, nn, ok⟩ := D.go
  have rdy : ∀ {us : List V} {H : Hp} {Q : VK} {E : XK}, spI K mg call c f us H Q E → us.length = ps.length ∧ ∃ W S vs v S', Rel K mg W S H ∧ VRs K mg W vs us ∧ endF d S.length (evS R d.body (vs.map some ++ List.replicate (d.nn - d.np) none) S) = some (v, S') ∧ vs.length = d.np ∧ Post K mg W H S' v Q := by
    rintro us H Q E ⟨W, S, vs, v, S', r, rs, e, p⟩
    rw [hc] at e
    unfold runB at e
    split at e
    · rename_i hl
      exact ⟨by rw [← rs.length, hl, np], W, S, vs, v, S', r, rs, e, hl, p⟩
    · cases e
  refine F.ok S (fun us H Q E h => (rdy h).1) fun cdv A outer s H us Q E room h => ⟨rdS K mg R d.body, PSs.nox ((all_ms d.body).2 N R n ⟨ns, scope, none⟩ body ok _ ⟨rfl, S.nd, rfl, fun _ _ _ => rfl, rfl, room, hG⟩ PassesOwn.never), ?_⟩
  obtain ⟨_, W, S0, vs, v, S', r, rs, e, hl, p⟩ := rdy h
  rw [nn, ← hl] at e
  have E0 := er_start (ns := ns) rs
  cases q : evS R d.body (vs.map some ++ List.replicate (ns.length - vs.length) none) S0 with
  | none => rw [q] at e; cases e
  | some z =>
    obtain ⟨fl, env', S1⟩ := z
    rw [q] at e
    refine ⟨W, _, S0, fl, env', S1, r, E0, q, ?_⟩
    cases fl with
    | nx =>
      dsimp only [endF] at e
      intro W1 H1 σ1 x1 R1 E1
      split at e
      · obtain ⟨W2, x2, R2, r2⟩ := leave_ok r x1 R1 .non e
        exact p W2 H1 _ x2 R2 r2
      · cases e
        exact p W1 H1 _ x1 R1 .non
    | rt w0 =>
      dsimp only [endF] at e
      intro W1 H1 u x1 R1 r1
      split at e
      · obtain ⟨W2, x2, R2, r2⟩ := leave_ok r x1 R1 r1 e
        exact p W2 H1 _ x2 R2 r2
      · cases e
        exact p W1 H1 _ x1 R1 r1
    | bk => cases e
    | ct => cases e
/-! ### the defs together -/
structure HdOk (K : PySem.W.Frag) (mg : Str → Option Value) (N : Nms) (G : Prg) : Prop where
  fn : ∀ f ∈ N.fns, ∃ d a fd ps, G.tab "" f = some d ∧ mg (Str.ofString f) = some (.ref a) ∧ PySem.W.keepIn K (.ref a) = true ∧ Binds K fd ps [] ∧ DefOk K N d a fd ps
  kfn : ∀ f ks, (f, ks) ∈ N.kfns → ∃ d a fd ps, G.tab "" f = some d ∧ mg (Str.ofString f) = some (.ref a) ∧ PySem.W.keepIn K (.ref a) = true ∧ KBinds K fd ps ks (fun us ws => us ++ ws) (fun us ws => us ++ ws) ∧ DefOk K N d a fd ps
  cls : ∀ c ∈ N.cls, ∃ d C fi fd ps, G.tab c "__init__" = some d ∧ mg (Str.ofString c) = some (.ref C) ∧ Mk K C fi ∧ Binds K fd ps [] ∧ DefOk K N d fi fd ps
  meth : ∀ c m d, c ≠ "" → G.tab c m = some d → ∃ C a fd ps, mg (Str.ofString c) = some (.ref C) ∧ Cls K C ∧ Meth K C (Str.ofString m) a ∧ Binds K fd ps [] ∧ DefOk K N d a fd ps
  fd : ∀ c f C, G.fd c f = true → mg (Str.ofString c) = some (.ref C) → Cls K C ∧ NoAttr K C (Str.ofString f)
  free : ∀ x ∈ freeNames, mg x = none
noncomputable abbrev Prg.at (G : Prg) (k : Nat) : Run := ⟨run G k, G.fz, G.fd, G.most⟩
theorem run_succ {G : Prg} {k : Nat} {c f : String} {d : Def} (h : G.tab c f = some d) (vs : List Val) (S : Sto) : run G (k + 1) c f vs S = runB d (G.at k) vs S := by
  show (match G.tab c f with | some d => runB d ⟨run G k, G.fz, G.fd, G.most⟩ vs S | none => none) = _
  rw [h]
/-- a run that gives nothing -/
def Run.none (R : Run) : Run := { R with call := fun _ _ _ _ => Option.none }
theorem fn_none {d : Def} {a : Addr} {fd : FuncData} {ps : List Str} {c f : String} {n : Nat} {call : Call'} (D : DefOk K N d a fd ps) (h : ∀ vs S, call c f vs S = none) : FnOk P w K mg base CX0 (n + 1) a fd ps (spI K mg call c f) := by
  obtain ⟨x, qual, params, body, scope, dvs, kws, ns, F, S, np, nn, ok⟩ := D.go
  have no : ∀ {us : List V} {H : Hp} {Q : VK} {E : XK}, spI K mg call c f us H Q E → False := by
    rintro us H Q E ⟨W, S, vs, v, S', r, rs, e, p⟩
    rw [h] at e
    cases e
  exact F.ok S (fun us H Q E h => (no h).elim) fun cdv A outer s H us Q E room h => (no h).elim
theorem gok {G : Prg} (h : HdOk K mg N G) : ∀ k, GOk P w K mg base N (G.at k) (2 * k + 1)
  | 0 => by
    refine ⟨fun f hf => ?_, fun f ks hf => ?_, fun c hc => ?_, fun c m vs S r e => ?_, h.fd, h.free⟩
    · obtain ⟨d, a, fd, ps, g0, g1, g2, g3, D⟩ := h.fn f hf
      exact ⟨a, fd, ps, g1, g2, g3, fn_none D fun _ _ => rfl⟩
    · obtain ⟨d, a, fd, ps, g0, g1, g2, g3, D⟩ := h.kfn f ks hf
      exact ⟨a, fd, ps, g1, g2, g3, fn_none D fun _ _ => rfl⟩
    · obtain ⟨d, C, fi, fd, ps, g0, g1, g2, g3, D⟩ := h.cls c hc
      exact ⟨C, fi, fd, ps, g1, g2, g3, fn_none D fun _ _ => rfl⟩
    · cases e
  | k + 1 => by
    have ih := gok h k
    refine ⟨fun f hf => ?_, fun f ks hf => ?_, fun c hc => ?_, fun c m vs S r e hne => ?_, h.fd, h.free⟩
    · obtain ⟨d, a, fd, ps, g0, g1, g2, g3, D⟩ := h.fn f hf
      exact ⟨a, fd, ps, g1, g2, g3, fn_ok D ih (run_succ g0)⟩
    · obtain ⟨d, a, fd, ps, g0, g1, g2, g3, D⟩ := h.kfn f ks hf
      exact ⟨a, fd, ps, g1, g2, g3, fn_ok D ih (run_succ g0)⟩
    · obtain ⟨d, C, fi, fd, ps, g0, g1, g2, g3, D⟩ := h.cls c hc
      exact ⟨C, fi, fd, ps, g1, g2, g3, fn_ok D ih (run_succ g0)⟩
    · cases g0 : G.tab c m with
      | none =>
        have e : (match G.tab c m with | some d => runB d ⟨run G k, G.fz, G.fd, G.most⟩ vs S | none => none) = some r := e
        rw [g0] at e
        cases e
      | some d =>
        obtain ⟨C, a, fd, ps, g1, g2, g3, g4, D⟩ := h.meth c m d hne g0
        exact ⟨C, a, fd, ps, g1, g2, g3, g4, fn_ok D ih (run_succ g0)⟩
/-- the law's promise -/
def spLaw (K : PySem.W.Frag) (ok : List Int → Prop) : Sp := fun us H Q _ => ∃ (a : Addr) (ns : List Int), us = [.ref a] ∧ SqL K H a (ns.map V.int) ∧ ok ns ∧ ∀ H', Q (.bl true) H'
theorem vrs_ints {W : Wd} : ∀ ns : List Int, VRs K mg W (ns.map Val.int) (ns.map V.int)
  | [] => .nil
  | n :: ns => .cons (.int n) (vrs_ints ns)
theorem law_ok {G : Prg} {ok : List Int → Prop} (h : HdOk K mg N G) {d : Def} {a : Addr} {fd : FuncData} {p : Str} {k : Nat} (g : G.tab "" "law" = some d) (D : DefOk K N d a fd [p])
    (plain : ∀ ns, ok ns → ∃ S', run G (k + 1) "" "law" [.lsk (ns.map .int)] [] = some (.bl true, S')) : FnOk P w K mg base CX0 (2 * k + 3) a fd [p] (spLaw K ok) := by
  have F : FnOk P w K mg base CX0 (2 * k + 3) a fd [p] (spI K mg (run G (k + 1)) "" "law") := fn_ok D (gok h k) (run_succ g)
  refine F.imp fun us H Q E ⟨l, ns, e1, hl, hok, q⟩ => ?_
  subst e1
  obtain ⟨S', e⟩ := plain ns hok
  refine ⟨⟨H, fun _ => none⟩, [], [.lsk (ns.map .int)], .bl true, S', ⟨fun _ _ e => e, fun n c e => (by simp at e), fun n a e => (nomatch e), fun n m a e => (nomatch e), fun n a e => (nomatch e)⟩, .cons (.lsk hl (vrs_ints ns)) .nil, e, fun W' H' u x R r => ?_⟩
  cases r
  exact q H'
end
end Mi

namespace Mi
open PySem PySem.Spec PyProof.Rows L2
open Classical
/-! ### a law's defs as data -/
/-- one def: its class (or ""), its name, where it stands, its parameters, its names, its small form -/
structure Ent where
  c : String
  f : String
  q : String
  i : Nat
  j : Option Nat
  ps : List String
  ns : List String
  d : Def
def stOf (body : List Stmt) (e : Ent) : Stmt := match e.j with
  | none => body.getD e.i (.Pass ⟨0, 0, 0, 0⟩)
  | some j => inClass (body.getD e.i (.Pass ⟨0, 0, 0, 0⟩)) j
def strL (l : List String) : List Str := l.map Str.ofString
def Ent.atp (e : Ent) : Str × Option Str := match e.j with
  | none => (Str.ofString e.f, none)
  | some _ => (Str.ofString e.c, some (Str.ofString e.f))
def Ent.dd (body : List Stmt) (e : Ent) : He.DefD := ⟨e.atp, Str.ofString e.f, Str.ofString e.q, defArgs (stOf body e), defBody (stOf body e), defScope (stOf body e), [], []⟩
def scOk (ns ps : List Str) (sc : Scope) : Bool := decide (sc.kind = .function) && (!sc.isCoroutine && (!sc.isGenerator && (decide ns.Nodup && (decide (ns.take ps.length = ps) && ((ps.all fun x => decide (sc.names.lookup x = some .local) || decide (sc.names.lookup x = some .cell)) && (sc.names.all fun y => decide (y.2 ≠ .free)))))))
theorem scOk_ok {ns ps : List Str} {sc : Scope} (h : scOk ns ps sc = true) : FnScope ns ps sc := by
  obtain ⟨h1, h⟩ := and_t h
  obtain ⟨h2, h⟩ := and_t h
  obtain ⟨h3, h⟩ := and_t h
  obtain ⟨h4, h⟩ := and_t h
  obtain ⟨h5, h⟩ := and_t h
  obtain ⟨h6, h7⟩ := and_t h
  have neg : ∀ {b : Bool}, (!b) = true → b = false := fun {b} h => by cases b <;> first | rfl | cases h
  refine ⟨dec_t h1, neg h2, neg h3, dec_t h4, dec_t h5, fun x hx => ?_, fun y hy => dec_t (List.all_eq_true.mp h7 y hy)⟩
  rcases Bool.or_eq_true_iff.mp (List.all_eq_true.mp h6 x hx) with k | k
  · exact .inl (dec_t k)
  · exact .inr (dec_t k)
def Ent.ok (N : Nms) (body : List Stmt) (e : Ent) : Bool :=
  scOk (strL e.ns) (strL e.ps) (defScope (stOf body e)) && (decide (e.d.np = (strL e.ps).length) && (decide (e.d.nn = (strL e.ns).length) && okB N e.d.body ⟨strL e.ns, defScope (stOf body e), none⟩ (defBody (stOf body e))))
def AllP {α : Type} (p : α → Prop) : List α → Prop
  | [] => True
  | e :: es => p e ∧ AllP p es
theorem AllP.mem {α : Type} {p : α → Prop} : ∀ {l : List α}, AllP p l → ∀ e ∈ l, p e
  | _ :: _, ⟨h, t⟩, e, he => by
    rcases List.mem_cons.mp he with rfl | he
    · exact h
    · exact t.mem e he
/-- all parameters are written in a call -/
def Ent.Bn (body : List Stmt) (e : Ent) : Prop := ∀ (kV doc pm : Value) (an : Option Addr) (cdv ct : Value) (us : List Value), us.length = (strL e.ps).length →
  bindArgs (PySem.W.fnOf (Str.ofString e.f) (Str.ofString e.q) (defArgs (stOf body e)) (defBody (stOf body e)) (defScope (stOf body e)) .none kV doc pm an cdv ct) ⟨us, []⟩ = pure ((strL e.ps).zip us)
/-- the law's names -/
structure Lst where
  fns : List String
  cls : List String
  mes : List (String × String)
  fds : List (String × String)
def Lst.fa (l : Lst) : List He.Fa := (l.fns ++ l.cls).map (fun f => .glo (Str.ofString f)) ++ (l.cls.map (fun c => .cls (Str.ofString c)) ++ (l.cls.map (fun c => .mkr (Str.ofString c)) ++ (l.mes.map (fun q => .meth (Str.ofString q.1) (Str.ofString q.2)) ++ (l.fds.map (fun q => .noat (Str.ofString q.1) (Str.ofString q.2)) ++ freeNames.map .free))))
def Lst.nms (l : Lst) : Nms := ⟨l.fns, [], l.cls⟩
def fnd (es : List Ent) (c f : String) : Option Ent := es.find? fun e => decide (e.c = c) && decide (e.f = f)
def tabOf (es : List Ent) : Tab := fun c f => (fnd es c f).map (·.d)
def entK (l : Lst) (e : Ent) : Bool := (decide (e.c = "") && e.j.isNone) || (decide (e.c ∈ l.cls) && (decide ((e.c, e.f) ∈ l.mes) && e.j.isSome) && decide (e.c ≠ ""))
def Lst.ok (l : Lst) (es : List Ent) : Bool :=
  (l.fns.all fun f => (fnd es "" f).isSome) && ((l.cls.all fun c => (fnd es c "__init__").isSome && decide (c ≠ "")) && (es.all (entK l) && l.fds.all fun q => decide (q.1 ∈ l.cls)))
section
variable {K : PySem.W.Frag} {h : Heap} {mg : Str → Option Value} {body : List Stmt} {es : List Ent} {l : Lst} {N : Nms}
theorem says_mem {fa : List He.Fa} {fn : List He.DefD} (c : He.SaysD fa fn K) {f : He.Fa} (m : f ∈ fa) : f.ok K = true := by
  obtain ⟨i, hi, e⟩ := List.mem_iff_getElem.mp m
  exact c.fact i (by rw [List.getElem?_eq_getElem hi, e])
theorem def_mem {fa : List He.Fa} (c : He.SaysD fa (es.map (Ent.dd body)) K) {e : Ent} (m : e ∈ es) : ∃ fd, FunD K (Str.ofString e.f) (Str.ofString e.q) (defArgs (stOf body e)) (defBody (stOf body e)) (defScope (stOf body e)) [] [] (He.fAd K (e.dd body).at_) fd := by
  obtain ⟨i, hi, q⟩ := List.mem_iff_getElem.mp m
  obtain ⟨fd, F⟩ := c.def_ i (d := e.dd body) (by rw [List.getElem?_map, List.getElem?_eq_getElem hi, q]; rfl)
  exact ⟨fd, F⟩
theorem fnd_mem {c f : String} {e : Ent} (q : fnd es c f = some e) : e ∈ es ∧ e.c = c ∧ e.f = f := by
  have a := List.mem_of_find?_eq_some q
  have b := List.find?_some q
  obtain ⟨b1, b2⟩ := and_t b
  exact ⟨a, dec_t b1, dec_t b2⟩
theorem ent_ok {fa : List He.Fa} (c : He.SaysD fa (es.map (Ent.dd body)) K) (hok : es.all (Ent.ok N body) = true) (hb : AllP (Ent.Bn body) es) {e : Ent} (m : e ∈ es) :
    ∃ fd, Binds K fd (strL e.ps) [] ∧ DefOk K N e.d (He.fAd K (e.dd body).at_) fd (strL e.ps) ∧ PySem.W.keepIn K (.ref (He.fAd K (e.dd body).at_)) = true := by
  obtain ⟨fd, F⟩ := def_mem c m
  obtain ⟨o1, o⟩ := and_t (List.all_eq_true.mp hok e m)
  obtain ⟨o2, o⟩ := and_t o
  obtain ⟨o3, o4⟩ := and_t o
  exact ⟨fd, F.bindsN (hb.mem e m), ⟨⟨_, _, _, _, _, _, _, _, F, scOk_ok o1, dec_t o2, dec_t o3, o4⟩⟩, F.kp⟩
theorem hd_ok (X : K.In h) (G : h.Ns mainGlobals mg) (c : He.SaysD l.fa (es.map (Ent.dd body)) K) (lok : l.ok es = true) (hok : es.all (Ent.ok l.nms body) = true) (hb : AllP (Ent.Bn body) es) {fz : String → Bool} {most : Nat} :
    HdOk K mg l.nms ⟨tabOf es, fz, fun c f => decide ((c, f) ∈ l.fds), most⟩ := by
  obtain ⟨l1, lok⟩ := and_t lok
  obtain ⟨l2, lok⟩ := and_t lok
  obtain ⟨l3, l4⟩ := and_t lok
  have glo : ∀ f ∈ l.fns ++ l.cls, mg (Str.ofString f) = some (.ref (He.ga K (Str.ofString f))) := fun f hf => He.glo_ok X G (says_mem c (List.mem_append_left _ (List.mem_map_of_mem hf)))
  have cls : ∀ f ∈ l.cls, Cls K (He.ga K (Str.ofString f)) := fun f hf => He.cls_ok (says_mem c (List.mem_append_right _ (List.mem_append_left _ (List.mem_map.mpr ⟨f, hf, rfl⟩))))
  have kind : ∀ e ∈ es, (e.c = "" ∧ e.j = none) ∨ (e.c ≠ "" ∧ e.c ∈ l.cls ∧ (e.c, e.f) ∈ l.mes ∧ (∃ j, e.j = some j)) := fun e he => by
    rcases Bool.or_eq_true_iff.mp (List.all_eq_true.mp l3 e he) with k | k
    · obtain ⟨k1, k2⟩ := and_t k
      exact .inl ⟨dec_t k1, Option.isNone_iff_eq_none.mp k2⟩
    · obtain ⟨k1, k⟩ := and_t k
      obtain ⟨k1, k2⟩ := and_t k1
      obtain ⟨k2, k3⟩ := and_t k2
      exact .inr ⟨dec_t k, dec_t k1, dec_t k2, Option.isSome_iff_exists.mp k3⟩
  have atM : ∀ e ∈ es, ∀ j, e.j = some j → He.fAd K (e.dd body).at_ = He.ma K (He.ga K (Str.ofString e.c)) (Str.ofString e.f) := fun e _ j hj => by
    unfold Ent.dd Ent.atp
    rw [hj]
    rfl
  have atF : ∀ e ∈ es, e.j = none → He.fAd K (e.dd body).at_ = He.ga K (Str.ofString e.f) := fun e _ hj => by
    unfold Ent.dd Ent.atp
    rw [hj]
    rfl
  refine ⟨fun f hf => ?_, fun f ks hf => (by cases hf), fun cl hc => ?_, fun cl m d hne hd => ?_, fun cl f C hf hC => ?_, fun x hx => ?_⟩
  · obtain ⟨e, he⟩ := Option.isSome_iff_exists.mp (List.all_eq_true.mp l1 f hf)
    obtain ⟨m, ec, ef⟩ := fnd_mem he
    obtain ⟨fd, b, D, kp⟩ := ent_ok c hok hb m
    have hj : e.j = none := by
      rcases kind e m with ⟨_, k⟩ | ⟨k, _⟩
      · exact k
      · exact absurd ec k
    rw [atF e m hj, ef] at D kp
    exact ⟨e.d, _, fd, _, by show (fnd es "" f).map (·.d) = _; rw [he]; rfl, glo f (List.mem_append_left _ hf), kp, b, D⟩
  · obtain ⟨k1, k2⟩ := and_t (List.all_eq_true.mp l2 cl hc)
    obtain ⟨e, he⟩ := Option.isSome_iff_exists.mp k1
    obtain ⟨m, ec, ef⟩ := fnd_mem he
    obtain ⟨fd, b, D, kp⟩ := ent_ok c hok hb m
    obtain ⟨j, hj⟩ : ∃ j, e.j = some j := by
      rcases kind e m with ⟨k, _⟩ | ⟨_, _, _, k⟩
      · exact absurd (ec.symm.trans k) (dec_t k2)
      · exact k
    rw [atM e m j hj, ec, ef] at D
    exact ⟨e.d, _, _, fd, _, by show (fnd es cl "__init__").map (·.d) = _; rw [he]; rfl, glo cl (List.mem_append_right _ hc), He.mkr_ok (says_mem c (List.mem_append_right _ (List.mem_append_right _ (List.mem_append_left _ (List.mem_map.mpr ⟨cl, hc, rfl⟩))))), b, D⟩
  · obtain ⟨e, he, hd⟩ := Option.map_eq_some_iff.mp (show (fnd es cl m).map (·.d) = some d from hd)
    subst hd
    obtain ⟨me, ec, ef⟩ := fnd_mem he
    obtain ⟨fd, b, D, kp⟩ := ent_ok c hok hb me
    obtain ⟨hc, hm, j, hj⟩ : e.c ∈ l.cls ∧ (e.c, e.f) ∈ l.mes ∧ ∃ j, e.j = some j := by
      rcases kind e me with ⟨k, _⟩ | ⟨_, k⟩
      · exact absurd (ec.symm.trans k) hne
      · exact k
    rw [atM e me j hj, ec, ef] at D
    rw [ec] at hc
    rw [ec, ef] at hm
    exact ⟨_, _, fd, _, glo cl (List.mem_append_right _ hc), cls cl hc, He.meth_ok (says_mem c (List.mem_append_right _ (List.mem_append_right _ (List.mem_append_right _ (List.mem_append_left _ (List.mem_map.mpr ⟨(cl, m), hm, rfl⟩)))))), b, D⟩
  · have hf := dec_t hf
    have na : NoAttr K (He.ga K (Str.ofString cl)) (Str.ofString f) := He.noat_ok (says_mem c (List.mem_append_right _ (List.mem_append_right _ (List.mem_append_right _ (List.mem_append_right _ (List.mem_append_left _ (List.mem_map.mpr ⟨(cl, f), hf, rfl⟩)))))))
    have hc : cl ∈ l.cls := dec_t (List.all_eq_true.mp l4 _ hf)
    rw [glo cl (List.mem_append_right _ hc)] at hC
    cases hC
    exact ⟨cls cl hc, na⟩
  · exact He.free_ok X G (says_mem c (List.mem_append_right _ (List.mem_append_right _ (List.mem_append_right _ (List.mem_append_right _ (List.mem_append_right _ (List.mem_map_of_mem hx)))))))
end
end Mi

/-! plain reasoning about the interpreter: what must hold ahead so that Q holds behind. -/
namespace Mi
open PySem
open Classical
noncomputable section
def OK {α : Type} (o : Option α) (Q : α → Prop) : Prop := ∃ a, o = some a ∧ Q a
def WE (R : Run) (m : ME) (env : Env') (S : Sto) (Q : Val → Sto → Prop) : Prop := ∃ v S', evE R m env S = some (v, S') ∧ Q v S'
def WA (R : Run) (m : ME) (env : Env') (S : Sto) (Q : List Val → Sto → Prop) : Prop := ∃ vs S', evE R m env S = some (.tup vs, S') ∧ Q vs S'
def WS (R : Run) (m : MS) (env : Env') (S : Sto) (Q : Flow' → Env' → Sto → Prop) : Prop := ∃ f env' S', evS R m env S = some (f, env', S') ∧ Q f env' S'
def WC (R : Run) (c f : String) (args : List Val) (S : Sto) (Q : Val → Sto → Prop) : Prop := ∃ v S', R.call c f args S = some (v, S') ∧ Q v S'
def onB (x : Val) (T F : Prop) : Prop := match x with
  | .bl true => T
  | .bl false => F
  | _ => False
def onI (x : Val) (P : Int → Prop) : Prop := match x with
  | .int i => P i
  | _ => False
@[simp] theorem OK_some {α : Type} {a : α} {Q : α → Prop} : OK (some a) Q = Q a := propext ⟨fun ⟨_, e, q⟩ => by cases e; exact q, fun q => ⟨a, rfl, q⟩⟩
@[simp] theorem OK_none {α : Type} {Q : α → Prop} : OK (none : Option α) Q = False := propext ⟨fun ⟨_, e, _⟩ => (nomatch e), fun q => q.elim⟩
@[simp] theorem OK_if {α : Type} {p : Prop} [Decidable p] {o : Option α} {Q : α → Prop} : OK (if p then o else none) Q = (p ∧ OK o Q) := by
  by_cases h : p
  · rw [if_pos h]; exact propext ⟨fun q => ⟨h, q⟩, fun q => q.2⟩
  · rw [if_neg h, OK_none]; exact propext ⟨fun q => q.elim, fun q => (h q.1).elim⟩
@[simp] theorem OK_map {α β : Type} {o : Option α} {f : α → β} {Q : β → Prop} : OK (o.map f) Q = OK o fun a => Q (f a) := by
  cases o with
  | none => rw [Option.map_none, OK_none, OK_none]
  | some a => rw [Option.map_some, OK_some, OK_some]
@[simp] theorem OK_bind {α β : Type} {o : Option α} {f : α → Option β} {Q : β → Prop} : OK (o.bind f) Q = OK o fun a => OK (f a) Q := by
  cases o with
  | none => rw [Option.bind_none, OK_none, OK_none]
  | some a => rw [Option.bind_some, OK_some]
@[simp] theorem onB_bl {k : Bool} {T F : Prop} : onB (.bl k) T F = if k = true then T else F := by cases k <;> rfl
theorem WC.imp {R : Run} {c f : String} {args : List Val} {S : Sto} {Q Q' : Val → Sto → Prop} (h : WC R c f args S Q) (k : ∀ v S', Q v S' → Q' v S') : WC R c f args S Q' := let ⟨v, S', e, q⟩ := h; ⟨v, S', e, k v S' q⟩
theorem WS.imp {R : Run} {m : MS} {env : Env'} {S : Sto} {Q Q' : Flow' → Env' → Sto → Prop} (h : WS R m env S Q) (k : ∀ f env' S', Q f env' S' → Q' f env' S') : WS R m env S Q' := let ⟨f, e', S', e, q⟩ := h; ⟨f, e', S', e, k f e' S' q⟩
theorem WE.imp {R : Run} {m : ME} {env : Env'} {S : Sto} {Q Q' : Val → Sto → Prop} (h : WE R m env S Q) (k : ∀ v S', Q v S' → Q' v S') : WE R m env S Q' := let ⟨v, S', e, q⟩ := h; ⟨v, S', e, k v S' q⟩
section
variable {R : Run} {env : Env'} {S : Sto} {Q : Val → Sto → Prop} {QA : List Val → Sto → Prop} {QS : Flow' → Env' → Sto → Prop}
/-- by cases of a run -/
theorem we_def {m : ME} : WE R m env S Q = OK (evE R m env S) fun r => Q r.1 r.2 := propext ⟨fun ⟨v, S', e, q⟩ => ⟨(v, S'), e, q⟩, fun ⟨(v, S'), e, q⟩ => ⟨v, S', e, q⟩⟩
theorem wa_def {m : ME} : WA R m env S QA = OK (evE R m env S) fun r => match r.1 with
    | .tup vs => QA vs r.2
    | _ => False := propext ⟨fun ⟨v, S', e, q⟩ => ⟨(_, S'), e, q⟩, fun ⟨(v, S'), e, q⟩ => by
      cases v with
      | tup vs => exact ⟨vs, S', e, q⟩
      | _ => exact q.elim⟩
theorem ws_def {m : MS} : WS R m env S QS = OK (evS R m env S) fun r => QS r.1 r.2.1 r.2.2 := propext ⟨fun ⟨f, e', S', e, q⟩ => ⟨(f, e', S'), e, q⟩, fun ⟨(f, e', S'), e, q⟩ => ⟨f, e', S', e, q⟩⟩
theorem wc_def {c f : String} {args : List Val} : WC R c f args S Q = OK (R.call c f args S) fun r => Q r.1 r.2 := propext ⟨fun ⟨v, S', e, q⟩ => ⟨(v, S'), e, q⟩, fun ⟨(v, S'), e, q⟩ => ⟨v, S', e, q⟩⟩
@[simp] theorem we_var {i : Nat} : WE R (.var i) env S Q = OK env[i]? fun o => OK o fun v => Q v S := by
  rw [we_def]
  dsimp only [evE]
  cases env[i]? with
  | none => rw [OK_none, OK_none]
  | some o => cases o with
    | none => rw [OK_none, OK_some, OK_none]
    | some v => rw [OK_some, OK_some, OK_some]
@[simp] theorem we_int {i : Int} : WE R (.int i) env S Q = Q (.int i) S := by rw [we_def]; exact OK_some
@[simp] theorem we_bl {b : Bool} : WE R (.bl b) env S Q = Q (.bl b) S := by rw [we_def]; exact OK_some
@[simp] theorem we_non : WE R .non env S Q = Q .non S := by rw [we_def]; exact OK_some
@[simp] theorem we_str {s : String} : WE R (.str s) env S Q = Q (.str s) S := by rw [we_def]; exact OK_some
@[simp] theorem we_bin {o : BOp} {a b : ME} : WE R (.bin o a b) env S Q = WE R a env S fun x S1 => WE R b env S1 fun y S2 => OK (binV o S2 x y) fun v => Q v S2 := by
  rw [we_def, we_def]
  dsimp only [evE]
  cases evE R a env S with
  | none => rw [OK_none, OK_none]
  | some r =>
    rw [OK_some, we_def]
    dsimp only
    cases evE R b env r.2 with
    | none => rw [OK_none, OK_none]
    | some q => rw [OK_some, OK_map]
@[simp] theorem we_neg {a : ME} : WE R (.neg a) env S Q = WE R a env S fun x S1 => onI x fun i => Q (.int (-i)) S1 := by
  rw [we_def, we_def]
  dsimp only [evE]
  cases evE R a env S with
  | none => rw [OK_none, OK_none]
  | some r =>
    obtain ⟨v, S1⟩ := r
    rw [OK_some]
    cases v <;> first | exact OK_some | exact OK_none
@[simp] theorem we_cmp {o : COp} {a b : ME} : WE R (.cmp o a b) env S Q = WE R a env S fun x S1 => WE R b env S1 fun y S2 => OK (cmp2 o S2 x y) fun k => Q (.bl k) S2 := by
  rw [we_def, we_def]
  dsimp only [evE]
  cases evE R a env S with
  | none => rw [OK_none, OK_none]
  | some r =>
    rw [OK_some, we_def]
    dsimp only
    cases evE R b env r.2 with
    | none => rw [OK_none, OK_none]
    | some q => rw [OK_some, OK_map]
@[simp] theorem we_chain {o p : COp} {a b c : ME} : WE R (.chain o p a b c) env S Q = WE R a env S fun x S1 => WE R b env S1 fun y S2 => OK (cmp2 o S2 x y) fun k => if k = true then WE R c env S2 fun z S3 => OK (cmp2 p S3 y z) fun k => Q (.bl k) S3 else Q (.bl false) S2 := by
  rw [we_def, we_def]
  dsimp only [evE]
  cases evE R a env S with
  | none => rw [OK_none, OK_none]
  | some r =>
    rw [OK_some, we_def]
    dsimp only
    cases evE R b env r.2 with
    | none => rw [OK_none, OK_none]
    | some q =>
      rw [OK_some]
      dsimp only
      cases cmp2 o q.2 r.1 q.1 with
      | none => rw [OK_none, OK_none]
      | some k =>
        cases k with
        | false => rw [OK_some, OK_some, if_neg Bool.false_ne_true]
        | true =>
          rw [OK_some, if_pos rfl, we_def]
          dsimp only
          cases evE R c env q.2 with
          | none => rw [OK_none, OK_none]
          | some z => rw [OK_some, OK_map]
@[simp] theorem we_and {a b : ME} : WE R (.and a b) env S Q = WE R a env S fun x S1 => onB x (WE R b env S1 Q) (Q (.bl false) S1) := by
  rw [we_def, we_def]
  dsimp only [evE]
  cases evE R a env S with
  | none => rw [OK_none, OK_none]
  | some r =>
    obtain ⟨v, S1⟩ := r
    rw [OK_some]
    cases v with
    | bl k => cases k with
      | true => exact we_def.symm
      | false => exact OK_some
    | _ => exact OK_none
@[simp] theorem we_or {a b : ME} : WE R (.or a b) env S Q = WE R a env S fun x S1 => onB x (Q (.bl true) S1) (WE R b env S1 Q) := by
  rw [we_def, we_def]
  dsimp only [evE]
  cases evE R a env S with
  | none => rw [OK_none, OK_none]
  | some r =>
    obtain ⟨v, S1⟩ := r
    rw [OK_some]
    cases v with
    | bl k => cases k with
      | false => exact we_def.symm
      | true => exact OK_some
    | _ => exact OK_none
@[simp] theorem we_not {a : ME} : WE R (.not a) env S Q = WE R a env S fun x S1 => onB x (Q (.bl false) S1) (Q (.bl true) S1) := by
  rw [we_def, we_def]
  dsimp only [evE]
  cases evE R a env S with
  | none => rw [OK_none, OK_none]
  | some r =>
    obtain ⟨v, S1⟩ := r
    rw [OK_some]
    cases v with
    | bl k => cases k <;> exact OK_some
    | _ => exact OK_none
@[simp] theorem we_ife {c a b : ME} : WE R (.ife c a b) env S Q = WE R c env S fun v S1 => OK (tru S1 v) fun k => if k = true then WE R a env S1 Q else WE R b env S1 Q := by
  rw [we_def, we_def]
  dsimp only [evE]
  cases evE R c env S with
  | none => rw [OK_none, OK_none]
  | some r =>
    rw [OK_some]
    dsimp only
    cases tru r.2 r.1 with
    | none => rw [OK_none, OK_none]
    | some k => cases k with
      | true => rw [OK_some, if_pos rfl, we_def]
      | false => rw [OK_some, if_neg Bool.false_ne_true, we_def]
@[simp] theorem we_ix {a b : ME} : WE R (.ix a b) env S Q = WE R a env S fun x S1 => WE R b env S1 fun y S2 => OK (ixV S2 x y) fun v => Q v S2 := by
  rw [we_def, we_def]
  dsimp only [evE]
  cases evE R a env S with
  | none => rw [OK_none, OK_none]
  | some r =>
    rw [OK_some, we_def]
    dsimp only
    cases evE R b env r.2 with
    | none => rw [OK_none, OK_none]
    | some q => rw [OK_some, OK_map]
/-- a part of a slice -/
def WP (R : Run) (m : ME) (env : Env') (S : Sto) (Q : Option Int → Sto → Prop) : Prop := OK (prt (isNul m) S (evE R m env S)) fun r => Q r.1 r.2
@[simp] theorem wp_nul {QP : Option Int → Sto → Prop} : WP R .nul env S QP = QP none S := by
  unfold WP
  exact OK_some
@[simp] theorem wp_int {i : Int} {QP : Option Int → Sto → Prop} : WP R (.int i) env S QP = QP (some i) S := by
  unfold WP
  exact OK_some
theorem wp_of {m : ME} {QP : Option Int → Sto → Prop} (h : isNul m = false) : WP R m env S QP = WE R m env S fun x S1 => onI x fun i => QP (some i) S1 := by
  unfold WP
  rw [h, we_def]
  unfold prt
  rw [if_neg Bool.false_ne_true]
  cases evE R m env S with
  | none => rw [OK_none, OK_none]
  | some r =>
    obtain ⟨v, S1⟩ := r
    rw [OK_some]
    cases v <;> first | exact OK_some | exact OK_none
@[simp] theorem we_sl {a lo hi : ME} : WE R (.sl a lo hi) env S Q = WE R a env S fun x S1 => WP R lo env S1 fun l S2 => WP R hi env S2 fun h S3 => OK (slV S3 x l h) fun v => Q v S3 := by
  rw [we_def, we_def]
  dsimp only [evE]
  cases evE R a env S with
  | none => rw [OK_none, OK_none]
  | some r =>
    rw [OK_some]
    dsimp only [WP]
    cases prt (isNul lo) r.2 (evE R lo env r.2) with
    | none => rw [OK_none, OK_none]
    | some q =>
      rw [OK_some]
      dsimp only
      cases prt (isNul hi) q.2 (evE R hi env q.2) with
      | none => rw [OK_none, OK_none]
      | some z => rw [OK_some, OK_map]
@[simp] theorem wa_nil : WA R .enil env S QA = QA [] S := by rw [wa_def]; exact OK_some
@[simp] theorem wa_cons {e es : ME} : WA R (.econs e es) env S QA = WE R e env S fun v S1 => WA R es env S1 fun vs S2 => QA (v :: vs) S2 := by
  rw [wa_def, we_def]
  dsimp only [evE]
  cases evE R e env S with
  | none => rw [OK_none, OK_none]
  | some r =>
    rw [OK_some, wa_def]
    dsimp only
    cases evE R es env r.2 with
    | none => rw [OK_none, OK_none]
    | some q =>
      obtain ⟨v, S2⟩ := q
      rw [OK_some]
      cases v <;> first | exact OK_some | exact OK_none
theorem wa_case {m : ME} {f : List Val → Sto → Option (Val × Sto)} (h : evE R m env S = none ∨ ∃ v S1, evE R m env S = some (v, S1)) : True := trivial
/-- a node over an argument list -/
theorem we_over {m es : ME} {g : List Val → Sto → Option (Val × Sto)} (h : ∀ env S, evE R m env S = match evE R es env S with
      | some (.tup vs, S1) => g vs S1
      | _ => none) : WE R m env S Q = WA R es env S fun vs S1 => OK (g vs S1) fun r => Q r.1 r.2 := by
  rw [we_def, wa_def, h]
  cases evE R es env S with
  | none => rw [OK_none, OK_none]
  | some r =>
    obtain ⟨v, S1⟩ := r
    rw [OK_some]
    cases v <;> first | rfl | exact OK_none
@[simp] theorem we_tup {es : ME} : WE R (.tup es) env S Q = WA R es env S fun vs S1 => vs.length ≤ sizeLine ∧ Q (.tup vs) S1 := by
  rw [we_over (es := es) (g := fun vs S1 => if vs.length ≤ sizeLine then some (.tup vs, S1) else none) fun _ _ => rfl]
  simp only [OK_if, OK_some]
@[simp] theorem we_lstF {es : ME} : WE R (.lst false es) env S Q = WA R es env S fun vs S1 => vs.length ≤ sizeLine ∧ Q (.lst vs) S1 := by
  rw [we_over (es := es) (g := fun vs S1 => if vs.length ≤ sizeLine then some (.lst vs, S1) else none) fun _ _ => rfl]
  simp only [OK_if, OK_some]
@[simp] theorem we_lstT {es : ME} : WE R (.lst true es) env S Q = WA R es env S fun vs S1 => vs.length ≤ sizeLine ∧ Q (.ref S1.length) (S1 ++ [.lst vs]) := by
  rw [we_over (es := es) (g := fun vs S1 => if vs.length ≤ sizeLine then some (.ref S1.length, S1 ++ [.lst vs]) else none) fun _ _ => rfl]
  simp only [OK_if, OK_some]
@[simp] theorem we_call {f : String} {es : ME} : WE R (.call f es) env S Q = WA R es env S fun vs S1 => WC R "" f vs S1 Q := by
  rw [we_over (es := es) (g := fun vs S1 => R.call "" f vs S1) fun _ _ => rfl]
  simp only [wc_def]
@[simp] theorem we_new {c : String} {es : ME} : WE R (.new c es) env S Q = WA R es env S fun vs S1 => WC R c "__init__" (.ref S1.length :: vs) (S1 ++ [.ins c []]) fun v S2 => v = .non ∧ if R.fz c = true then OK (leave S2 S1.length (.ref S1.length)) fun r => Q r.1 r.2 else Q (.ref S1.length) S2 := by
  rw [we_over (es := es) (g := fun vs S1 => match R.call c "__init__" (.ref S1.length :: vs) (S1 ++ [.ins c []]) with
      | some (.non, S2) => if R.fz c then leave S2 S1.length (.ref S1.length) else some (.ref S1.length, S2)
      | _ => none) fun _ _ => rfl]
  congr 1
  funext vs S1
  rw [wc_def]
  cases R.call c "__init__" (.ref S1.length :: vs) (S1 ++ [.ins c []]) with
  | none => rw [OK_none, OK_none]
  | some r =>
    obtain ⟨v, S2⟩ := r
    rw [OK_some]
    cases v with
    | non =>
      dsimp only
      by_cases h : R.fz c = true
      · rw [if_pos h, if_pos h]
        simp
      · rw [if_neg h, if_neg h, OK_some]
        simp
    | _ => exact OK_none.trans (propext ⟨fun h => h.elim, fun h => nomatch h.1⟩)
@[simp] theorem we_meth {o es : ME} {m : String} : WE R (.meth o m es) env S Q = WE R o env S fun x S1 => OK (clsOf S1 x) fun cf => (cf.2.lookup m).isNone = true ∧ cf.1 ≠ "" ∧ WA R es env S1 fun vs S2 => WC R cf.1 m (x :: vs) S2 Q := by
  rw [we_def, we_def]
  dsimp only [evE]
  cases evE R o env S with
  | none => rw [OK_none, OK_none]
  | some r =>
    rw [OK_some]
    dsimp only
    cases clsOf r.2 r.1 with
    | none => rw [OK_none, OK_none]
    | some cf =>
      obtain ⟨c, fs⟩ := cf
      rw [OK_some]
      dsimp only
      rw [OK_if, and_assoc, wa_def]
      congr 2
      cases evE R es env r.2 with
      | none => rw [OK_none, OK_none]
      | some q =>
        obtain ⟨v, S2⟩ := q
        rw [OK_some]
        cases v <;> first | exact wc_def.symm | exact OK_none
@[simp] theorem we_bi {b : Bi} {es : ME} : WE R (.bi b es) env S Q = WA R es env S fun vs S1 => OK (biN S1 b vs) fun v => Q v S1 := by
  rw [we_over (es := es) (g := fun vs S1 => (biN S1 b vs).map fun v => (v, S1)) fun _ _ => rfl]
  simp only [OK_map]
@[simp] theorem we_bm {b : Bm} {o es : ME} : WE R (.bm b o es) env S Q = WE R o env S fun x S1 => match x with
    | .ref n => (lstOf S1 (.ref n)).isSome = true ∧ WA R es env S1 fun vs S2 => OK (lstOf S2 (.ref n)) fun xs => OK (bm1 S2 b n xs vs) fun r => Q r.1 r.2
    | _ => False := by
  rw [we_def, we_def]
  dsimp only [evE]
  cases evE R o env S with
  | none => rw [OK_none, OK_none]
  | some r =>
    obtain ⟨x, S1⟩ := r
    rw [OK_some]
    cases x with
    | ref n =>
      dsimp only
      cases lstOf S1 (.ref n) with
      | none => exact OK_none.trans (propext ⟨fun h => h.elim, fun h => nomatch h.1⟩)
      | some ys =>
        dsimp only
        rw [wa_def]
        refine Eq.trans ?_ (propext ⟨fun h => ⟨rfl, h⟩, fun h => h.2⟩)
        cases evE R es env S1 with
        | none => rw [OK_none, OK_none]
        | some q =>
          obtain ⟨v, S2⟩ := q
          rw [OK_some]
          cases v with
          | tup vs =>
            dsimp only
            cases lstOf S2 (.ref n) with
            | none => rw [OK_none, OK_none]
            | some xs => rw [OK_some]
          | _ => exact OK_none
    | _ => exact OK_none
@[simp] theorem we_fld {o : ME} {f : String} : WE R (.fld o f) env S Q = WE R o env S fun x S1 => OK (clsOf S1 x) fun cf => R.fd cf.1 f = true ∧ OK (cf.2.lookup f) fun v => Q v S1 := by
  rw [we_def, we_def]
  dsimp only [evE]
  cases evE R o env S with
  | none => rw [OK_none, OK_none]
  | some r =>
    rw [OK_some]
    dsimp only
    cases clsOf r.2 r.1 with
    | none => rw [OK_none, OK_none]
    | some cf =>
      rw [OK_some]
      dsimp only
      rw [OK_if, OK_map]
@[simp] theorem we_isi {a : ME} {t : Ty} : WE R (.isi a t) env S Q = WE R a env S fun x S1 => OK (tyIs S1 t x) fun k => Q (.bl k) S1 := by
  rw [we_def, we_def]
  dsimp only [evE]
  cases evE R a env S with
  | none => rw [OK_none, OK_none]
  | some r =>
    rw [OK_some]
    dsimp only
    rw [OK_map]
@[simp] theorem we_dnewT : WE R .dnewT env S Q = Q (.ref S.length) (S ++ [.dT []]) := by rw [we_def]; exact OK_some
@[simp] theorem we_dnewK : WE R .dnewK env S Q = Q (.ref S.length) (S ++ [.dK []]) := by rw [we_def]; exact OK_some
@[simp] theorem we_it {e : ME} : WE R (.it e) env S Q = WE R e env S Q := by rw [we_def, we_def]; rfl
@[simp] theorem we_rng1 {e : ME} : WE R (.rng (.econs e .enil)) env S Q = WE R e env S fun x S1 => onI x fun j => (-(2 ^ 62) ≤ j ∧ j < 2 ^ 62) ∧ Q (.lst (rngL 0 j.toNat)) S1 := by
  rw [we_def, we_def]
  dsimp only [evE]
  cases evE R e env S with
  | none => rw [OK_none, OK_none]
  | some r =>
    obtain ⟨v, S1⟩ := r
    rw [OK_some]
    cases v with
    | int j =>
      dsimp only [onI]
      rw [OK_if, OK_some]
    | _ => exact OK_none
@[simp] theorem we_rng2 {e d : ME} : WE R (.rng (.econs e (.econs d .enil))) env S Q = WE R e env S fun x S1 => WE R d env S1 fun y S2 => onI x fun i => onI y fun j => (-(2 ^ 62) ≤ i ∧ i < 2 ^ 62 ∧ -(2 ^ 62) ≤ j ∧ j < 2 ^ 62) ∧ Q (.lst (rngL i (j - i).toNat)) S2 := by
  rw [we_def, we_def]
  dsimp only [evE]
  cases evE R e env S with
  | none => rw [OK_none, OK_none]
  | some r =>
    obtain ⟨v, S1⟩ := r
    rw [OK_some, we_def]
    dsimp only
    cases evE R d env S1 with
    | none => rw [OK_none, OK_none]
    | some q =>
      obtain ⟨u, S2⟩ := q
      rw [OK_some]
      cases v with
      | int i =>
        cases u with
        | int j =>
          dsimp only [onI]
          rw [OK_if, OK_some]
        | _ => exact OK_none
      | _ => cases u <;> exact OK_none
end
end
end Mi

namespace Mi
open PySem
open Classical
noncomputable section
section
variable {R : Run} {env : Env'} {S : Sto} {Q : Val → Sto → Prop} {QA : List Val → Sto → Prop} {QS : Flow' → Env' → Sto → Prop}
/-- behind a statement: on, or out -/
def thenS (R : Run) (b : MS) (Q : Flow' → Env' → Sto → Prop) : Flow' → Env' → Sto → Prop
  | .nx, env, S => WS R b env S Q
  | f, env, S => Q f env S
@[simp] theorem ws_nil : WS R .nil env S QS = QS .nx env S := by rw [ws_def]; exact OK_some
@[simp] theorem ws_cons {s b : MS} : WS R (.cons s b) env S QS = WS R s env S (thenS R b QS) := by
  rw [ws_def, ws_def]
  dsimp only [evS]
  cases evS R s env S with
  | none => rw [OK_none, OK_none]
  | some r =>
    obtain ⟨f, env', S'⟩ := r
    rw [OK_some]
    cases f with
    | nx => exact ws_def.symm
    | _ => exact OK_some
@[simp] theorem then_nx {b : MS} : thenS R b QS .nx env S = WS R b env S QS := rfl
@[simp] theorem then_rt {b : MS} {v : Val} : thenS R b QS (.rt v) env S = QS (.rt v) env S := rfl
@[simp] theorem then_bk {b : MS} : thenS R b QS .bk env S = QS .bk env S := rfl
@[simp] theorem then_ct {b : MS} : thenS R b QS .ct env S = QS .ct env S := rfl
@[simp] theorem ws_set {i : Nat} {e : ME} : WS R (.set i e) env S QS = WE R e env S fun v S' => i < env.length ∧ QS .nx (env.set i (some v)) S' := by
  rw [ws_def, we_def]
  dsimp only [evS]
  cases evE R e env S with
  | none => rw [OK_none, OK_none]
  | some r =>
    rw [OK_some]
    dsimp only
    rw [OK_if, OK_some]
@[simp] theorem ws_setc {i : Nat} {e : ME} : WS R (.setc i e) env S QS = WE R e env S fun v S' => i < env.length ∧ QS .nx (env.set i (some v)) S' := by
  rw [ws_def, we_def]
  dsimp only [evS]
  cases evE R e env S with
  | none => rw [OK_none, OK_none]
  | some r =>
    rw [OK_some]
    dsimp only
    rw [OK_if, OK_some]
@[simp] theorem ws_asg {t : MT} {e : ME} : WS R (.asg t e) env S QS = WE R e env S fun v S' => OK (bindT S' t v env) fun env' => QS .nx env' S' := by
  rw [ws_def, we_def]
  dsimp only [evS]
  cases evE R e env S with
  | none => rw [OK_none, OK_none]
  | some r =>
    rw [OK_some]
    dsimp only
    rw [OK_map]
@[simp] theorem ws_par {i j : Nat} {es : ME} : WS R (.par i j es) env S QS = WA R es env S fun vs S' => match vs with
    | [v, w] => (i < env.length ∧ j < env.length) ∧ QS .nx ((env.set i (some v)).set j (some w)) S'
    | _ => False := by
  rw [ws_def, wa_def]
  dsimp only [evS]
  cases evE R es env S with
  | none => rw [OK_none, OK_none]
  | some r =>
    obtain ⟨v, S1⟩ := r
    rw [OK_some]
    cases v with
    | tup vs =>
      rcases vs with _ | ⟨v, _ | ⟨w, _ | ⟨_, _⟩⟩⟩
      · exact OK_none
      · exact OK_none
      · dsimp only
        rw [OK_if, OK_some]
      · exact OK_none
    | _ => exact OK_none
@[simp] theorem ws_setix {o i e : ME} : WS R (.setix o i e) env S QS = WE R e env S fun v S1 => WE R o env S1 fun x S2 => match x with
    | .ref n => WE R i env S2 fun k S3 => OK (putC S3[n]? k v) fun c => QS .nx env (S3.set n c)
    | _ => False := by
  rw [ws_def, we_def]
  dsimp only [evS]
  cases evE R e env S with
  | none => rw [OK_none, OK_none]
  | some r =>
    rw [OK_some, we_def]
    dsimp only
    cases evE R o env r.2 with
    | none => rw [OK_none, OK_none]
    | some q =>
      obtain ⟨x, S2⟩ := q
      rw [OK_some]
      cases x with
      | ref n =>
        dsimp only
        rw [we_def]
        cases evE R i env S2 with
        | none => rw [OK_none, OK_none]
        | some z =>
          obtain ⟨k, S3⟩ := z
          rw [OK_some]
          dsimp only
          cases putC S3[n]? k r.1 with
          | none => rw [OK_none, OK_none]
          | some c => rw [OK_some, OK_some]
      | _ => exact OK_none
@[simp] theorem ws_setfld {o e : ME} {f : String} : WS R (.setfld o f e) env S QS = WE R e env S fun v S1 => WE R o env S1 fun x S2 => match x with
    | .ref n => match S2[n]? with
      | some (.ins c fs) => (fs.length < 1000 ∧ R.fd c f = true) ∧ QS .nx env (S2.set n (.ins c (putS f v fs)))
      | _ => False
    | _ => False := by
  rw [ws_def, we_def]
  dsimp only [evS]
  cases evE R e env S with
  | none => rw [OK_none, OK_none]
  | some r =>
    rw [OK_some, we_def]
    dsimp only
    cases evE R o env r.2 with
    | none => rw [OK_none, OK_none]
    | some q =>
      obtain ⟨x, S2⟩ := q
      rw [OK_some]
      cases x with
      | ref n =>
        dsimp only
        cases S2[n]? with
        | none => exact OK_none
        | some c =>
          cases c with
          | ins c fs =>
            dsimp only
            rw [OK_if, OK_some]
          | _ => exact OK_none
      | _ => exact OK_none
@[simp] theorem ws_ex {e : ME} : WS R (.ex e) env S QS = WE R e env S fun _ S' => QS .nx env S' := by
  rw [ws_def, we_def]
  dsimp only [evS]
  cases evE R e env S with
  | none => rw [OK_none, OK_none]
  | some r => rw [OK_some, OK_some]
@[simp] theorem ws_ret {e : ME} : WS R (.ret e) env S QS = WE R e env S fun v S' => QS (.rt v) env S' := by
  rw [ws_def, we_def]
  dsimp only [evS]
  cases evE R e env S with
  | none => rw [OK_none, OK_none]
  | some r => rw [OK_some, OK_some]
@[simp] theorem ws_retn : WS R .retn env S QS = QS (.rt .non) env S := by rw [ws_def]; exact OK_some
@[simp] theorem ws_pass : WS R .pass env S QS = QS .nx env S := by rw [ws_def]; exact OK_some
@[simp] theorem ws_brk : WS R .brk env S QS = QS .bk env S := by rw [ws_def]; exact OK_some
@[simp] theorem ws_cont : WS R .cont env S QS = QS .ct env S := by rw [ws_def]; exact OK_some
@[simp] theorem ws_ifs {c : ME} {a b : MS} : WS R (.ifs c a b) env S QS = WE R c env S fun v S1 => OK (tru S1 v) fun k => if k = true then WS R a env S1 QS else WS R b env S1 QS := by
  rw [ws_def, we_def]
  dsimp only [evS]
  cases evE R c env S with
  | none => rw [OK_none, OK_none]
  | some r =>
    rw [OK_some]
    dsimp only
    cases tru r.2 r.1 with
    | none => rw [OK_none, OK_none]
    | some k => cases k with
      | true => rw [OK_some, if_pos rfl, ws_def]
      | false => rw [OK_some, if_neg Bool.false_ne_true, ws_def]
@[simp] theorem ws_aug {i : Nat} {o : BOp} {e : ME} : WS R (.aug i o e) env S QS = OK env[i]? fun x => OK x fun x => WE R e env S fun y S1 => onI x fun a => onI y fun b => match o with
    | .add => QS .nx (env.set i (some (.int (a + b)))) S1
    | .sub => QS .nx (env.set i (some (.int (a - b)))) S1
    | _ => False := by
  rw [ws_def]
  dsimp only [evS]
  cases env[i]? with
  | none => rw [OK_none, OK_none]
  | some x =>
    cases x with
    | none => rw [OK_some, OK_none, OK_none]
    | some x =>
      rw [OK_some, OK_some, we_def]
      dsimp only
      cases evE R e env S with
      | none => rw [OK_none, OK_none]
      | some r =>
        obtain ⟨y, S1⟩ := r
        rw [OK_some]
        cases o with
        | add => cases x <;> first | exact OK_none | (cases y <;> first | exact OK_some | exact OK_none)
        | sub => cases x <;> first | exact OK_none | (cases y <;> first | exact OK_some | exact OK_none)
        | _ => cases x <;> first | exact OK_none | (cases y <;> exact OK_none)
/-! ### loops -/
theorem loop_inv {B : Val → Env' → Sto → Option (Flow' × Env' × Sto)} {src : Option (Nat × Cell)} (Inv : Nat → Env' → Sto → Prop) : ∀ (vs : List Val) (i : Nat) (env : Env') (S : Sto), Inv i env S →
    (∀ j v env S, vs[j]? = some v → Inv (i + j) env S → ∃ f env' S', B v env S = some (f, env', S') ∧ match f with
      | .nx => stays src S' ∧ Inv (i + j + 1) env' S'
      | .ct => stays src S' ∧ Inv (i + j + 1) env' S'
      | .bk => QS .nx env' S'
      | .rt w => QS (.rt w) env' S') → (∀ env S, Inv (i + vs.length) env S → QS .nx env S) → ∃ f env' S', loopF B src vs env S = some (f, env', S') ∧ QS f env' S'
  | [], i, env, S, h0, _, hn => ⟨.nx, env, S, rfl, hn env S h0⟩
  | v :: vs, i, env, S, h0, hs, hn => by
    obtain ⟨f, env', S', e, h⟩ := hs 0 v env S rfl h0
    dsimp only [loopF]
    rw [e]
    have next : stays src S' → Inv (i + 1) env' S' → ∃ f env'' S'', (if stays src S' then loopF B src vs env' S' else none) = some (f, env'', S'') ∧ QS f env'' S'' := fun st h1 => by
      rw [if_pos st]
      refine loop_inv Inv vs (i + 1) env' S' h1 (fun j v env S hv h => ?_) fun env S h => hn env S (by rw [List.length_cons, show i + (vs.length + 1) = i + 1 + vs.length by omega]; exact h)
      have e : i + 1 + j = i + (j + 1) := by omega
      rw [e] at h ⊢
      exact hs (j + 1) v env S hv h
    cases f with
    | nx => exact next h.1 h.2
    | ct => exact next h.1 h.2
    | bk => exact ⟨.nx, env', S', rfl, h⟩
    | rt w => exact ⟨.rt w, env', S', rfl, h⟩
/-- what must hold behind a turn -/
def turnS (src : Option (Nat × Cell)) (Q : Flow' → Env' → Sto → Prop) (P : Env' → Sto → Prop) : Flow' → Env' → Sto → Prop
  | .nx, env, S => stays src S ∧ P env S
  | .ct, env, S => stays src S ∧ P env S
  | .bk, env, S => Q .nx env S
  | .rt v, env, S => Q (.rt v) env S
@[simp] theorem turn_nx {src : Option (Nat × Cell)} {P : Env' → Sto → Prop} : turnS src QS P .nx env S = (stays src S ∧ P env S) := rfl
@[simp] theorem turn_ct {src : Option (Nat × Cell)} {P : Env' → Sto → Prop} : turnS src QS P .ct env S = (stays src S ∧ P env S) := rfl
@[simp] theorem turn_bk {src : Option (Nat × Cell)} {P : Env' → Sto → Prop} : turnS src QS P .bk env S = QS .nx env S := rfl
@[simp] theorem turn_rt {src : Option (Nat × Cell)} {P : Env' → Sto → Prop} {v : Val} : turnS src QS P (.rt v) env S = QS (.rt v) env S := rfl
@[simp] theorem stays_none : stays none S = True := rfl
theorem ws_loop {t : MT} {it : ME} {b : MS} (Inv : Nat → Env' → Sto → Prop) {vs : List Val} {src : Option (Nat × Cell)} {S1 : Sto} (h : WE R it env S fun v S' => S' = S1 ∧ itemsOf S1 v = some (vs, src)) (h0 : Inv 0 env S1)
    (hs : ∀ j v env S, vs[j]? = some v → Inv j env S → OK (bindT S t v env) fun env' => WS R b env' S (turnS src QS (Inv (j + 1)))) (hn : ∀ env S, Inv vs.length env S → QS .nx env S) : WS R (.loop t it b) env S QS := by
  obtain ⟨v, S', e, rfl, ei⟩ := h
  have := loop_inv (B := fun x env S => match bindT S t x env with
          | some env' => evS R b env' S
          | none => none) (src := src) (QS := QS) Inv vs 0 env S' h0 (fun j v env S hv h => by
      rw [Nat.zero_add] at h ⊢
      obtain ⟨env1, e1, f, env2, S2, e2, q⟩ := hs j v env S hv h
      refine ⟨f, env2, S2, by rw [e1]; exact e2, ?_⟩
      cases f <;> exact q) (by rw [Nat.zero_add]; exact hn)
  obtain ⟨f, env', S2, e2, q⟩ := this
  refine ⟨f, env', S2, ?_, q⟩
  dsimp only [evS]
  rw [e]
  dsimp only
  rw [ei]
  exact e2
@[simp] theorem rng_len : ∀ (lo : Int) (n : Nat), (rngL lo n).length = n
  | _, 0 => rfl
  | lo, n + 1 => congrArg Nat.succ (rng_len (lo + 1) n)
theorem rng_at : ∀ (lo : Int) (n j : Nat) (v : Val), (rngL lo n)[j]? = some v → j < n ∧ v = .int (lo + j)
  | _, 0, _, _, h => by simp [rngL] at h
  | lo, n + 1, 0, v, h => by
    have h : some (Val.int lo) = some v := h
    cases h
    exact ⟨Nat.succ_pos n, by simp⟩
  | lo, n + 1, j + 1, v, h => by
    obtain ⟨h1, h2⟩ := rng_at (lo + 1) n j v (by simpa [rngL] using h)
    refine ⟨Nat.succ_lt_succ h1, h2.trans ?_⟩
    congr 1
    push_cast
    omega
/-- for x in range(e) -/
theorem ws_rng {i : Nat} {e : ME} {b : MS} (n : Int) {S1 : Sto} (Inv : Nat → Env' → Sto → Prop) (h : WE R e env S fun v S' => S' = S1 ∧ v = .int n) (hn : -(2 ^ 62) ≤ n ∧ n < 2 ^ 62) (h0 : Inv 0 env S1)
    (hs : ∀ j env S, j < n.toNat → Inv j env S → i < env.length ∧ WS R b (env.set i (some (.int j))) S (turnS none QS (Inv (j + 1)))) (hq : ∀ env S, Inv n.toNat env S → QS .nx env S) : WS R (.loop (.nm i) (.rng (.econs e .enil)) b) env S QS := by
  refine ws_loop Inv (vs := rngL 0 n.toNat) (src := none) (S1 := S1) ?_ h0 (fun j v env S hv h => ?_) (by rw [rng_len]; exact hq)
  · rw [we_rng1]
    refine h.imp fun v S' ⟨e1, e2⟩ => ?_
    subst e1
    subst e2
    exact ⟨hn, rfl, rfl⟩
  · obtain ⟨h1, h2⟩ := rng_at _ _ _ _ hv
    subst h2
    obtain ⟨h3, h4⟩ := hs j env S h1 h
    have e : (0 : Int) + (j : Int) = j := by omega
    rw [e]
    dsimp only [bindT]
    rw [OK_if, OK_some]
    exact ⟨h3, h4⟩
theorem ws_rng2 {i : Nat} {e d : ME} {b : MS} (lo hi : Int) {S1 : Sto} (Inv : Nat → Env' → Sto → Prop) (h : WE R e env S fun v S' => v = .int lo ∧ WE R d env S' fun v S' => S' = S1 ∧ v = .int hi) (hn : -(2 ^ 62) ≤ lo ∧ lo < 2 ^ 62 ∧ -(2 ^ 62) ≤ hi ∧ hi < 2 ^ 62) (h0 : Inv 0 env S1)
    (hs : ∀ j env S, j < (hi - lo).toNat → Inv j env S → i < env.length ∧ WS R b (env.set i (some (.int (lo + j)))) S (turnS none QS (Inv (j + 1)))) (hq : ∀ env S, Inv (hi - lo).toNat env S → QS .nx env S) : WS R (.loop (.nm i) (.rng (.econs e (.econs d .enil))) b) env S QS := by
  refine ws_loop Inv (vs := rngL lo (hi - lo).toNat) (src := none) (S1 := S1) ?_ h0 (fun j v env S hv h => ?_) (by rw [rng_len]; exact hq)
  · rw [we_rng2]
    refine h.imp fun v S' ⟨e1, e2⟩ => e2.imp fun w S2 ⟨e3, e4⟩ => ?_
    subst e1
    subst e3
    subst e4
    exact ⟨hn, rfl, rfl⟩
  · obtain ⟨h1, h2⟩ := rng_at _ _ _ _ hv
    subst h2
    obtain ⟨h3, h4⟩ := hs j env S h1 h
    dsimp only [bindT]
    rw [OK_if, OK_some]
    exact ⟨h3, h4⟩
/-! ### comprehensions -/
/-- one turn of a comprehension -/
def stepC (R : Run) (tg : MT) (cond elt : ME) (x : Val) (env : Env') (S : Sto) : Option (Option Val × Sto) := match bindT S tg x env with
  | some env' => match evE R cond env' S with
    | some (c, S2) => match tru S2 c with
      | some true => (evE R elt env' S2).map fun y => (some y.1, y.2)
      | some false => some (none, S2)
      | none => none
    | none => none
  | none => none
theorem step_def {tg : MT} {cond elt : ME} {x : Val} {QO : Option Val → Sto → Prop} : OK (stepC R tg cond elt x env S) (fun r => QO r.1 r.2) = OK (bindT S tg x env) fun env' => WE R cond env' S fun c S2 => OK (tru S2 c) fun k => if k = true then WE R elt env' S2 fun y S3 => QO (some y) S3 else QO none S2 := by
  unfold stepC
  cases bindT S tg x env with
  | none => rw [OK_none, OK_none]
  | some env' =>
    rw [OK_some, we_def]
    dsimp only
    cases evE R cond env' S with
    | none => rw [OK_none, OK_none]
    | some r =>
      rw [OK_some]
      dsimp only
      cases tru r.2 r.1 with
      | none => rw [OK_none, OK_none]
      | some k =>
        cases k with
        | false =>
          rw [OK_some]
          exact propext ⟨fun q => ⟨false, rfl, q⟩, fun ⟨k, e, q⟩ => by cases e; exact q⟩
        | true =>
          rw [OK_some, if_pos rfl, we_def]
          dsimp only
          rw [OK_map]
theorem comp_inv {F : Val → Env' → Sto → Option (Option Val × Sto)} {src : Option (Nat × Cell)} {env : Env'} {QL : List Val → Sto → Prop} (Inv : Nat → List Val → Sto → Prop) : ∀ (vs : List Val) (i : Nat) (acc : List Val) (S : Sto), Inv i acc S →
    (∀ j v acc S, vs[j]? = some v → Inv (i + j) acc S → OK (F v env S) fun r => stays src r.2 ∧ match r.1 with
      | some x => acc.length < sizeLine ∧ Inv (i + j + 1) (acc ++ [x]) r.2
      | none => Inv (i + j + 1) acc r.2) → (∀ acc S, Inv (i + vs.length) acc S → QL acc S) → OK (compL F src vs acc env S) fun r => QL r.1 r.2
  | [], i, acc, S, h0, _, hn => ⟨(acc, S), rfl, hn acc S h0⟩
  | v :: vs, i, acc, S, h0, hs, hn => by
    obtain ⟨⟨o, S'⟩, e, st, h⟩ := hs 0 v acc S rfl h0
    have next : ∀ acc', Inv (i + 1) acc' S' → OK (compL F src vs acc' env S') fun r => QL r.1 r.2 := fun acc' h1 => by
      refine comp_inv Inv vs (i + 1) acc' S' h1 (fun j v acc S hv h => ?_) fun acc S h => hn acc S (by rw [List.length_cons, show i + (vs.length + 1) = i + 1 + vs.length by omega]; exact h)
      have e : i + 1 + j = i + (j + 1) := by omega
      rw [e] at h ⊢
      exact hs (j + 1) v acc S hv h
    dsimp only [compL]
    rw [e]
    cases o with
    | some x =>
      dsimp only at h ⊢
      rw [if_pos ⟨st, h.1⟩]
      exact next _ h.2
    | none =>
      dsimp only at h ⊢
      rw [if_pos st]
      exact next _ h
theorem ev_comp {mu : Bool} {own : List (Str × Nat)} {tg : MT} {it cond elt : ME} : evE R (.comp mu own tg it cond elt) env S = match evE R it env S with
    | some (v, S1) => match itemsOf S1 v with
      | some (vs, src) => match compL (stepC R tg cond elt) src vs [] (wipeE env (own.map (·.2))) S1 with
        | some (ys, S2) => if mu then some (.ref S2.length, S2 ++ [.lst ys]) else some (.lst ys, S2)
        | none => none
      | none => none
    | none => none := rfl
theorem we_comp {mu : Bool} {own : List (Str × Nat)} {tg : MT} {it cond elt : ME} {vs : List Val} {src : Option (Nat × Cell)} {S1 : Sto} (Inv : Nat → List Val → Sto → Prop) (h : WE R it env S fun v S' => S' = S1 ∧ itemsOf S1 v = some (vs, src)) (h0 : Inv 0 [] S1)
    (hs : ∀ j v acc S, vs[j]? = some v → Inv j acc S → OK (bindT S tg v (wipeE env (own.map (·.2)))) fun env' => WE R cond env' S fun c S2 => OK (tru S2 c) fun k => if k = true then WE R elt env' S2 fun y S3 => stays src S3 ∧ acc.length < sizeLine ∧ Inv (j + 1) (acc ++ [y]) S3 else stays src S2 ∧ Inv (j + 1) acc S2)
    (hq : ∀ acc S, Inv vs.length acc S → if mu = true then Q (.ref S.length) (S ++ [.lst acc]) else Q (.lst acc) S) : WE R (.comp mu own tg it cond elt) env S Q := by
  obtain ⟨v, S', e, rfl, ei⟩ := h
  have := comp_inv (F := stepC R tg cond elt) (src := src) (env := wipeE env (own.map (·.2))) (QL := fun acc S => if mu = true then Q (.ref S.length) (S ++ [.lst acc]) else Q (.lst acc) S) Inv vs 0 [] S' h0 (fun j v acc S hv h => by
      rw [Nat.zero_add] at h ⊢
      have h2 := hs j v acc S hv h
      have := step_def (R := R) (env := wipeE env (own.map (·.2))) (S := S) (tg := tg) (cond := cond) (elt := elt) (x := v) (QO := fun o S3 => stays src S3 ∧ match o with
        | some x => acc.length < sizeLine ∧ Inv (j + 1) (acc ++ [x]) S3
        | none => Inv (j + 1) acc S3)
      rw [← this] at h2
      exact h2) (by rw [Nat.zero_add]; exact hq)
  obtain ⟨⟨acc, S2⟩, e2, q⟩ := this
  have e2 : compL (stepC R tg cond elt) src vs [] (wipeE env (own.map (·.2))) S' = some (acc, S2) := e2
  rw [we_def, ev_comp, e]
  dsimp only
  rw [ei]
  dsimp only
  rw [e2]
  cases mu with
  | true => exact ⟨_, rfl, by simpa using q⟩
  | false => exact ⟨_, rfl, by simpa using q⟩
/-- .. that leaves the store as it is -/
theorem we_compP {own : List (Str × Nat)} {tg : MT} {it cond elt : ME} {vs : List Val} {src : Option (Nat × Cell)} {S1 : Sto} (g : Val → Option Val) (h : WE R it env S fun v S' => S' = S1 ∧ itemsOf S1 v = some (vs, src)) (hl : vs.length ≤ sizeLine)
    (hs : ∀ v ∈ vs, OK (bindT S1 tg v (wipeE env (own.map (·.2)))) fun env' => WE R cond env' S1 fun c S2 => OK (tru S2 c) fun k => if k = true then WE R elt env' S2 fun y S3 => S3 = S1 ∧ g v = some y else S2 = S1 ∧ g v = none)
    (hq : Q (.lst (vs.filterMap g)) S1) : WE R (.comp false own tg it cond elt) env S Q := by
  have st : stays src S1 := by
    obtain ⟨v, S', e, rfl, ei⟩ := h
    exact items_stay ei
  refine we_comp (fun j acc S' => S' = S1 ∧ acc = (vs.take j).filterMap g) h ⟨rfl, rfl⟩ (fun j v acc S' hv hi => ?_) (fun acc S' hi => ?_)
  · obtain ⟨rfl, ha⟩ := hi
    have hj : j < vs.length := (List.getElem?_eq_some_iff.mp hv).1
    have tk : vs.take (j + 1) = vs.take j ++ [v] := by
      rw [List.take_succ, hv]
      rfl
    have le : acc.length ≤ j := by
      rw [ha]
      exact Nat.le_trans (List.length_filterMap_le _ _) (by rw [List.length_take]; exact Nat.min_le_left _ _)
    obtain ⟨env', e1, c, S2, e2, k, e3, q⟩ := hs v (List.mem_of_getElem? hv)
    refine ⟨env', e1, c, S2, e2, k, e3, ?_⟩
    cases k with
    | true =>
      rw [if_pos rfl] at q ⊢
      obtain ⟨y, S3, e4, rfl, e5⟩ := q
      exact ⟨y, S3, e4, st, by omega, rfl, by rw [tk, List.filterMap_append, ha]; simp [e5]⟩
    | false =>
      rw [if_neg Bool.false_ne_true] at q ⊢
      obtain ⟨rfl, e5⟩ := q
      exact ⟨st, rfl, by rw [tk, List.filterMap_append, ha]; simp [e5]⟩
  · obtain ⟨rfl, ha⟩ := hi
    rw [List.take_length] at ha
    subst ha
    exact hq
/-! ### calls -/
theorem wc_run {G : Prg} {k : Nat} {c f : String} {d : Def} {args : List Val} (h : G.tab c f = some d) (ha : args.length = d.np) (hp : d.pure_ = false)
    (w : WS (G.at k) d.body (args.map some ++ List.replicate (d.nn - d.np) none) S fun fl _ S' => match fl with
      | .rt v => Q v S'
      | .nx => Q .non S'
      | _ => False) : WC (G.at (k + 1)) c f args S Q := by
  obtain ⟨fl, env', S', e, q⟩ := w
  have e0 : run G (k + 1) c f args S = runB d (G.at k) args S := run_succ h args S
  unfold runB at e0
  rw [if_pos ha, e] at e0
  cases fl with
  | rt v =>
    dsimp only [endF] at e0
    rw [hp] at e0
    exact ⟨v, S', e0, q⟩
  | nx =>
    dsimp only [endF] at e0
    rw [hp] at e0
    exact ⟨_, S', e0, q⟩
  | bk => exact q.elim
  | ct => exact q.elim
theorem wc_runP {G : Prg} {k : Nat} {c f : String} {d : Def} {args : List Val} (h : G.tab c f = some d) (ha : args.length = d.np) (hp : d.pure_ = true)
    (w : WS (G.at k) d.body (args.map some ++ List.replicate (d.nn - d.np) none) S fun fl _ S' => match fl with
      | .rt v => OK (leave S' S.length v) fun r => Q r.1 r.2
      | .nx => OK (leave S' S.length .non) fun r => Q r.1 r.2
      | _ => False) : WC (G.at (k + 1)) c f args S Q := by
  obtain ⟨fl, env', S', e, q⟩ := w
  have e0 : run G (k + 1) c f args S = runB d (G.at k) args S := run_succ h args S
  unfold runB at e0
  rw [if_pos ha, e] at e0
  cases fl with
  | rt v =>
    dsimp only [endF] at e0
    rw [hp] at e0
    obtain ⟨⟨v', S''⟩, e1, q⟩ := q
    exact ⟨v', S'', e0.trans e1, q⟩
  | nx =>
    dsimp only [endF] at e0
    rw [hp] at e0
    obtain ⟨⟨v', S''⟩, e1, q⟩ := q
    exact ⟨v', S'', e0.trans e1, q⟩
  | bk => exact q.elim
  | ct => exact q.elim
end
/-! ### values with no place of the store -/
mutual
theorem below_mono {b : Nat} : ∀ {v : Val}, below 0 v = true → below b v = true
  | .ref n, h => absurd (of_decide_eq_true (show decide (n < 0) = true from h)) (Nat.not_lt_zero n)
  | .tup vs, h => belows_mono (vs := vs) h
  | .lst vs, h => belows_mono (vs := vs) h
  | .lsk vs, h => belows_mono (vs := vs) h
  | .tpk vs, h => belows_mono (vs := vs) h
  | .ins _ fs, h => belowf_mono (fs := fs) h
  | .non, _ => rfl
  | .bl _, _ => rfl
  | .int _, _ => rfl
  | .str _, _ => rfl
  | .fn _, _ => rfl
theorem belows_mono {b : Nat} : ∀ {vs : List Val}, belows 0 vs = true → belows b vs = true
  | [], _ => rfl
  | v :: vs, h => by
    obtain ⟨h1, h2⟩ := and_t (show (below 0 v && belows 0 vs) = true from h)
    show (below b v && belows b vs) = true
    rw [below_mono h1, belows_mono h2]
    rfl
theorem belowf_mono {b : Nat} : ∀ {fs : List (String × Val)}, belowf 0 fs = true → belowf b fs = true
  | [], _ => rfl
  | (_, v) :: fs, h => by
    obtain ⟨h1, h2⟩ := and_t (show (below 0 v && belowf 0 fs) = true from h)
    show (below b v && belowf b fs) = true
    rw [below_mono h1, belowf_mono h2]
    rfl
end
theorem belowC_mono {b : Nat} {c : Cell} (h : belowC 0 c = true) : belowC b c = true := by
  cases c with
  | lst vs => exact belows_mono (vs := vs) h
  | dK kvs => exact List.all_eq_true.mpr fun q hq => below_mono (List.all_eq_true.mp (show kvs.all (fun q => below 0 q.2) = true from h) q hq)
  | dT kvs => exact List.all_eq_true.mpr fun q hq => below_mono (List.all_eq_true.mp (show kvs.all (fun q => below 0 q.2) = true from h) q hq)
  | ins c fs => exact belowf_mono (fs := fs) h
theorem belows_iff {b : Nat} : ∀ {vs : List Val}, belows b vs = true ↔ ∀ v ∈ vs, below b v = true
  | [] => ⟨fun _ _ h => (nomatch h), fun _ => rfl⟩
  | v :: vs => by
    show (below b v && belows b vs) = true ↔ _
    rw [Bool.and_eq_true, belows_iff (vs := vs), List.forall_mem_cons]
theorem seq_all {f : Val → Option Val} : ∀ {vs : List Val}, (∀ v ∈ vs, f v = some v) → seqOpt (vs.map f) = some vs
  | [], _ => rfl
  | v :: vs, h => by
    rw [List.map_cons, h v List.mem_cons_self]
    show (seqOpt (vs.map f)).map (v :: ·) = _
    rw [seq_all fun w hw => h w (List.mem_cons_of_mem _ hw)]
    rfl
theorem seq_allf {f : Val → Option Val} : ∀ {fs : List (String × Val)}, (∀ q ∈ fs, f q.2 = some q.2) → seqOpt (fs.map fun q => (f q.2).map fun v => (q.1, v)) = some fs
  | [], _ => rfl
  | (x, v) :: vs, h => by
    rw [List.map_cons, h (x, v) List.mem_cons_self]
    show (seqOpt (vs.map fun q => (f q.2).map fun v => (q.1, v))).map ((x, v) :: ·) = _
    rw [seq_allf fun w hw => h w (List.mem_cons_of_mem _ hw)]
    rfl
theorem belowf_iff {b : Nat} : ∀ {fs : List (String × Val)}, belowf b fs = true ↔ ∀ q ∈ fs, below b q.2 = true
  | [] => ⟨fun _ _ h => (nomatch h), fun _ => rfl⟩
  | (x, v) :: vs => by
    show (below b v && belowf b vs) = true ↔ _
    rw [Bool.and_eq_true, belowf_iff (fs := vs), List.forall_mem_cons]
/-- frozen already -/
theorem frz_below {S : Sto} {b : Nat} : ∀ (k : Nat) (v : Val), below b v = true → frz S b k v = some v
  | 0, v, h => by
    unfold frz
    rw [if_pos h]
  | k + 1, v, h => by
    cases v with
    | ref n =>
      show (if n < b then some (Val.ref n) else _) = _
      rw [if_pos (of_decide_eq_true h)]
    | tup vs =>
      show (seqOpt (vs.map (frz S b k))).map Val.tup = _
      rw [seq_all fun v hv => frz_below k v (belows_iff.mp (show belows b vs = true from h) v hv)]
      rfl
    | lst vs =>
      show (seqOpt (vs.map (frz S b k))).map Val.lst = _
      rw [seq_all fun v hv => frz_below k v (belows_iff.mp (show belows b vs = true from h) v hv)]
      rfl
    | ins c fs =>
      show (seqOpt (fs.map fun q => (frz S b k q.2).map fun v => (q.1, v))).map (Val.ins c) = _
      rw [seq_allf fun q hq => frz_below k q.2 (belowf_iff.mp (show belowf b fs = true from h) q hq)]
      rfl
    | _ =>
      unfold frz
      exact if_pos h
/-- the end of a call: a list of its own given -/
theorem leave_below {S T : Sto} {b : Nat} {v : Val} (hv : below b v = true) (hb : S.length = b) (hS : ∀ c ∈ S, belowC b c = true) : leave (S ++ T) b v = some (v, S) := by
  unfold leave
  rw [frz_below 6 v hv]
  dsimp only
  have e : (S ++ T).take b = S := by rw [← hb, List.take_left']; rfl
  rw [e, if_pos ⟨by rw [List.length_append]; omega, List.all_eq_true.mpr hS⟩]
theorem leave_lst {S T : Sto} {b n : Nat} {vs : List Val} (hn : b ≤ n) (hT : (S ++ T)[n]? = some (.lst vs)) (hv : ∀ v ∈ vs, below b v = true) (hb : S.length = b) (hS : ∀ c ∈ S, belowC b c = true) : leave (S ++ T) b (.ref n) = some (.lst vs, S) := by
  unfold leave
  have f : frz (S ++ T) b 6 (.ref n) = some (.lst vs) := by
    show (if n < b then some (Val.ref n) else match (S ++ T)[n]? with
      | some (.lst vs) => (seqOpt (vs.map (frz (S ++ T) b 5))).map .lst
      | some (.ins c fs) => (seqOpt (fs.map fun q => (frz (S ++ T) b 5 q.2).map fun v => (q.1, v))).map (.ins c)
      | _ => none) = _
    rw [if_neg (by omega), hT]
    dsimp only
    rw [seq_all fun v hv' => frz_below 5 v (hv v hv')]
    rfl
  rw [f]
  dsimp only
  have e : (S ++ T).take b = S := by rw [← hb, List.take_left']; rfl
  rw [e, if_pos ⟨by rw [List.length_append]; omega, List.all_eq_true.mpr hS⟩]
end
end Mi

namespace Mi
open PySem
open Classical
noncomputable section
section
variable {S : Sto} {vs ws : List Val} {i j : Int} {n : Nat} {v w x y z : Val} {xs : List Val}
@[simp] theorem ix_ref : ixV S (.ref n) v = ixC S[n]? v := rfl
@[simp] theorem ix_tup : ixV S (.tup vs) (.int i) = L2.atI vs i := rfl
@[simp] theorem ix_tpk : ixV S (.tpk vs) (.int i) = L2.atI vs i := rfl
@[simp] theorem ix_lst : ixV S (.lst vs) (.int i) = L2.atI vs i := rfl
@[simp] theorem ix_lsk : ixV S (.lsk vs) (.int i) = L2.atI vs i := rfl
@[simp] theorem ixc_lst : ixC (some (.lst vs)) (.int i) = L2.atI vs i := rfl
theorem at_nat {α : Type} {vs : List α} {n : Nat} : L2.atI vs (n : Int) = vs[n]? := by
  unfold L2.atI L2.ixN
  rw [if_pos (Int.natCast_nonneg n)]
  by_cases h : n < vs.length
  · rw [if_pos (by exact_mod_cast h)]
    simp
  · rw [if_neg (by exact_mod_cast h), List.getElem?_eq_none (by omega)]
    rfl
theorem at_lit {α : Type} {vs : List α} {n : Nat} {x : α} (h : vs[n]? = some x) : L2.atI vs (n : Int) = some x := at_nat.trans h
@[simp] theorem at_0 {α : Type} {a : α} {r : List α} : L2.atI (a :: r) 0 = some a := at_lit (n := 0) rfl
@[simp] theorem at_1 {α : Type} {a b : α} {r : List α} : L2.atI (a :: b :: r) 1 = some b := at_lit (n := 1) rfl
@[simp] theorem at_2 {α : Type} {a b c : α} {r : List α} : L2.atI (a :: b :: c :: r) 2 = some c := at_lit (n := 2) rfl
@[simp] theorem at_3 {α : Type} {a b c d : α} {r : List α} : L2.atI (a :: b :: c :: d :: r) 3 = some d := at_lit (n := 3) rfl
@[simp] theorem at_4 {α : Type} {a b c d e : α} {r : List α} : L2.atI (a :: b :: c :: d :: e :: r) 4 = some e := at_lit (n := 4) rfl
@[simp] theorem at_5 {α : Type} {a b c d e f : α} {r : List α} : L2.atI (a :: b :: c :: d :: e :: f :: r) 5 = some f := at_lit (n := 5) rfl
@[simp] theorem at_6 {α : Type} {a b c d e f g : α} {r : List α} : L2.atI (a :: b :: c :: d :: e :: f :: g :: r) 6 = some g := at_lit (n := 6) rfl
/-- an index within -/
theorem at_in {α : Type} {vs : List α} {i : Int} (h0 : 0 ≤ i) (h : i < vs.length) : ∃ x, L2.atI vs i = some x ∧ x ∈ vs := by
  have e : i = (i.toNat : Int) := by omega
  have h' : i.toNat < vs.length := by omega
  rw [e, at_nat, List.getElem?_eq_getElem h']
  exact ⟨_, rfl, List.getElem_mem h'⟩
theorem OK_at {α : Type} {vs : List α} {i : Int} {Q : α → Prop} (h0 : 0 ≤ i) (h : i < vs.length) (q : ∀ x ∈ vs, Q x) : OK (L2.atI vs i) Q := by
  obtain ⟨x, e, m⟩ := at_in h0 h
  exact ⟨x, e, q x m⟩
/-- the last -/
theorem at_last {α : Type} {vs : List α} {x : α} : L2.atI (vs ++ [x]) (-1) = some x := by
  unfold L2.atI L2.ixN
  rw [if_neg (by omega), List.length_append, List.length_singleton, if_pos (by push_cast; omega)]
  have e : ((-1 : Int) + ((vs.length + 1 : Nat) : Int)).toNat = vs.length := by omega
  rw [e]
  simp
@[simp] theorem bin_add : binV .add S (.int i) (.int j) = some (.int (i + j)) := rfl
@[simp] theorem bin_sub : binV .sub S (.int i) (.int j) = some (.int (i - j)) := rfl
@[simp] theorem bin_mul : binV .mul S (.int i) (.int j) = if okMul i j then some (.int (i * j)) else none := rfl
@[simp] theorem bin_fdiv : binV .fdiv S (.int i) (.int j) = if 0 < j ∧ j < 1073741824 then some (.int (i / j)) else none := rfl
@[simp] theorem bin_mod : binV .mod S (.int i) (.int j) = if 0 < j then some (.int (i % j)) else none := rfl
@[simp] theorem bin_pow : binV .pow S (.int i) (.int j) = if 0 ≤ j ∧ j ≤ 1000000 ∧ i.natAbs < 2 ^ 64 then some (.int (i ^ j.toNat)) else none := rfl
@[simp] theorem bin_xor : binV .xor S (.int i) (.int j) = some (.int (Builtin.bitXor i j)) := rfl
@[simp] theorem bin_shl : binV .shl S (.int i) (.int j) = if 0 ≤ j ∧ j ≤ 1000000 ∧ i.natAbs < 2 ^ 64 then some (.int (i * 2 ^ j.toNat)) else none := rfl
@[simp] theorem bin_shr : binV .shr S (.int i) (.int j) = if 0 ≤ j then some (.int (i / 2 ^ j.toNat)) else none := rfl
@[simp] theorem bin_tup : binV .add S (.tup vs) (.tup ws) = if vs.length + ws.length ≤ sizeLine then some (.tup (vs ++ ws)) else none := rfl
@[simp] theorem bin_lst : binV .add S (.lst vs) (.lst ws) = if vs.length + ws.length ≤ sizeLine then some (.lst (vs ++ ws)) else none := rfl
theorem okMul_r (h : -(2 ^ 64) < j ∧ j < 2 ^ 64) : okMul i j := .inr h
theorem okMul_l (h : -(2 ^ 64) < i ∧ i < 2 ^ 64) : okMul i j := .inl h
@[simp] theorem bi_1 {b : Bi} : biN S b [v] = bi1 S b v := rfl
@[simp] theorem bi_2 {b : Bi} : biN S b [v, w] = bi2 S b v w := rfl
@[simp] theorem bi_len : bi1 S .len v = (lenV S v).map .int := rfl
@[simp] theorem bi_abs : bi1 S .abs (.int i) = some (.int (if i < 0 then -i else i)) := rfl
@[simp] theorem bi_int : bi1 S .int (.int i) = some (.int i) := rfl
@[simp] theorem bi_intb {k : Bool} : bi1 S .int (.bl k) = some (.int (if k then 1 else 0)) := rfl
@[simp] theorem bi_list : bi1 S .list v = (seqOf S v).map .lst := rfl
@[simp] theorem bi_tuple : bi1 S .tuple v = tupOf S v := rfl
@[simp] theorem bi_sum : bi1 S .sum v = ((lstOf S v).bind intsOf).map fun ns => .int ns.sum := rfl
@[simp] theorem bi_max : bi1 S .max v = ((lstOf S v).bind intsOf).bind fun ns => (maxI ns).map .int := rfl
@[simp] theorem bi_max2 : bi2 S .max (.int i) (.int j) = some (.int (if j > i then j else i)) := rfl
@[simp] theorem bi_maxd : bi2 S .maxd (.lst vs) (.int i) = ((lstOf S (.lst vs)).bind intsOf).map fun ns => .int ((maxI ns).getD i) := rfl
@[simp] theorem len_tup : lenV S (.tup vs) = some (vs.length : Int) := rfl
@[simp] theorem len_tpk : lenV S (.tpk vs) = some (vs.length : Int) := rfl
@[simp] theorem len_lst : lenV S (.lst vs) = some (vs.length : Int) := rfl
@[simp] theorem len_lsk : lenV S (.lsk vs) = some (vs.length : Int) := rfl
@[simp] theorem len_refM : lenV S (.ref n) = match S[n]? with
    | some (.lst vs) => some (vs.length : Int)
    | some (.dK kvs) => some (kvs.length : Int)
    | _ => none := rfl
@[simp] theorem seq_refM : seqOf S (.ref n) = match S[n]? with
    | some (.lst vs) => some vs
    | _ => none := rfl
@[simp] theorem lst_refM : lstOf S (.ref n) = match S[n]? with
    | some (.lst vs) => some vs
    | _ => none := rfl
@[simp] theorem items_refM : itemsOf S (.ref n) = match S[n]? with
    | some (.lst vs) => some (vs, some (n, .lst vs))
    | _ => none := rfl
@[simp] theorem cls_refM : clsOf S (.ref n) = match S[n]? with
    | some (.ins c fs) => some (c, fs)
    | _ => none := rfl
@[simp] theorem cls_ins {c : String} {fs : List (String × Val)} : clsOf S (.ins c fs) = some (c, fs) := rfl
theorem len_ref (h : S[n]? = some (.lst vs)) : lenV S (.ref n) = some (vs.length : Int) := by
  dsimp only [lenV]
  rw [h]
@[simp] theorem seq_tup : seqOf S (.tup vs) = some vs := rfl
@[simp] theorem seq_lst : seqOf S (.lst vs) = some vs := rfl
theorem seq_ref (h : S[n]? = some (.lst vs)) : seqOf S (.ref n) = some vs := by
  dsimp only [seqOf]
  rw [h]
@[simp] theorem lst_lst : lstOf S (.lst vs) = some vs := rfl
@[simp] theorem lst_lsk : lstOf S (.lsk vs) = some vs := rfl
theorem lst_ref (h : S[n]? = some (.lst vs)) : lstOf S (.ref n) = some vs := by
  dsimp only [lstOf]
  rw [h]
@[simp] theorem cmp_lt : cmp2 .lt S (.int i) (.int j) = some (decide (i < j)) := rfl
@[simp] theorem cmp_le : cmp2 .le S (.int i) (.int j) = some (decide (i ≤ j)) := rfl
@[simp] theorem cmp_gt : cmp2 .gt S (.int i) (.int j) = some (decide (j < i)) := rfl
@[simp] theorem cmp_ge : cmp2 .ge S (.int i) (.int j) = some (decide (j ≤ i)) := rfl
@[simp] theorem cmp_eqi : cmp2 .eq S (.int i) (.int j) = some (decide (i = j)) := rfl
@[simp] theorem cmp_nei : cmp2 .ne S (.int i) (.int j) = some (!decide (i = j)) := rfl
@[simp] theorem cmp_eqs {s t : String} : cmp2 .eq S (.str s) (.str t) = some (decide (s = t)) := rfl
@[simp] theorem cmp_nes {s t : String} : cmp2 .ne S (.str s) (.str t) = some (!decide (s = t)) := rfl
@[simp] theorem cmp_eqb {s t : Bool} : cmp2 .eq S (.bl s) (.bl t) = some (decide (s = t)) := rfl
@[simp] theorem cmp_in : cmp2 .in_ S x y = memOf S x y := rfl
@[simp] theorem cmp_nin : cmp2 .nin S x y = (memOf S x y).map (!·) := rfl
@[simp] theorem mem_tup : memOf S x (.tup vs) = memL x vs := rfl
@[simp] theorem mem_lst : memOf S x (.lst vs) = memL x vs := rfl
@[simp] theorem tru_bl {k : Bool} : tru S (.bl k) = some k := rfl
@[simp] theorem tru_int : tru S (.int i) = some (i != 0) := rfl
@[simp] theorem onI_int {P : Int → Prop} : onI (.int i) P = P i := rfl
@[simp] theorem put_0 : putC (some (.lst (x :: xs))) (.int 0) v = some (.lst (v :: xs)) := by
  show (L2.ixN (xs.length + 1) 0).map _ = _
  unfold L2.ixN
  rw [if_pos (by omega), if_pos (by push_cast; omega)]
  rfl
@[simp] theorem put_1 : putC (some (.lst (x :: y :: xs))) (.int 1) v = some (.lst (x :: v :: xs)) := by
  show (L2.ixN (xs.length + 1 + 1) 1).map _ = _
  unfold L2.ixN
  rw [if_pos (by omega), if_pos (by push_cast; omega)]
  rfl
theorem put_at {k : Nat} (h : k < vs.length) : putC (some (.lst vs)) (.int k) v = some (.lst (vs.set k v)) := by
  show (L2.ixN vs.length (k : Int)).map _ = _
  unfold L2.ixN
  rw [if_pos (Int.natCast_nonneg k), if_pos (by exact_mod_cast h)]
  simp
@[simp] theorem putS_nil {f : String} : putS f v [] = [(f, v)] := rfl
@[simp] theorem items_tup : itemsOf S (.tup vs) = some (vs, none) := rfl
@[simp] theorem items_lst : itemsOf S (.lst vs) = some (vs, none) := rfl
@[simp] theorem items_lsk : itemsOf S (.lsk vs) = some (vs, none) := rfl
theorem items_ref (h : S[n]? = some (.lst vs)) : itemsOf S (.ref n) = some (vs, some (n, .lst vs)) := by
  dsimp only [itemsOf]
  rw [h]
@[simp] theorem bm_append : bm1 S .append n vs [x] = if vs.length < sizeLine then some (.non, S.set n (.lst (vs ++ [x]))) else none := rfl
@[simp] theorem isi_bl {t : Ty} {k : Bool} : tyIs S t (.bl k) = some (t == .bool || t == .int) := by cases t <;> rfl
@[simp] theorem isi_int {t : Ty} : tyIs S t (.int i) = some (t == .int) := by cases t <;> rfl
@[simp] theorem isi_str {t : Ty} {s : String} : tyIs S t (.str s) = some (t == .str) := by cases t <;> rfl
@[simp] theorem isi_tup {t : Ty} : tyIs S t (.tup vs) = some (t == .tuple) := by cases t <;> rfl
@[simp] theorem isi_lst {t : Ty} : tyIs S t (.lst vs) = some (t == .list) := by cases t <;> rfl
@[simp] theorem isi_non {t : Ty} : tyIs S t .non = some false := by cases t <;> rfl
theorem isi_ref {t : Ty} (h : S[n]? = some (.lst vs)) : tyIs S t (.ref n) = some (t == .list) := by
  cases t <;> (dsimp only [tyIs]; rw [h])
@[simp] theorem sl_lst {lo hi : Option Int} : slV S (.lst vs) lo hi = some (.lst (cutM vs lo hi)) := rfl
@[simp] theorem sl_tup {lo hi : Option Int} : slV S (.tup vs) lo hi = some (.tup (cutM vs lo hi)) := rfl
@[simp] theorem bindT_nm {env : Env'} {k : Nat} : bindT S (.nm k) v env = if k < env.length then some (env.set k (some v)) else none := rfl
/-- texts among texts -/
theorem flat_strs : ∀ {ss : List String}, (ss.map Val.str).all flat = true
  | [] => rfl
  | _ :: ss => flat_strs (ss := ss)
theorem mem_strs {s : String} {ss : List String} : memL (.str s) (ss.map Val.str) = some (decide (s ∈ ss)) := by
  unfold memL
  rw [if_pos ⟨rfl, flat_strs⟩]
  congr 1
  induction ss with
  | nil => rfl
  | cons t ss ih =>
    rw [List.map_cons, List.any_cons, ih]
    show (decide (t = s) || _) = _
    rw [← Bool.decide_or]
    refine decide_eq_decide.mpr ?_
    rw [List.mem_cons]
    constructor
    · rintro (h | h)
      · exact .inl h.symm
      · exact .inr h
    · rintro (h | h)
      · exact .inl h.symm
      · exact .inr h
@[simp] theorem mem_s1 {s a : String} : memL (.str s) [.str a] = some (decide (s ∈ [a])) := mem_strs (ss := [a])
@[simp] theorem mem_s2 {s a b : String} : memL (.str s) [.str a, .str b] = some (decide (s ∈ [a, b])) := mem_strs (ss := [a, b])
@[simp] theorem mem_s3 {s a b c : String} : memL (.str s) [.str a, .str b, .str c] = some (decide (s ∈ [a, b, c])) := mem_strs (ss := [a, b, c])
@[simp] theorem mem_s4 {s a b c d : String} : memL (.str s) [.str a, .str b, .str c, .str d] = some (decide (s ∈ [a, b, c, d])) := mem_strs (ss := [a, b, c, d])
end
end
end Mi

namespace Mi
open PySem
open Classical
noncomputable section
/-! ### the drawer: what every law draws by -/
def b_law_cell : MS := .cons (.ifs (.cmp .lt (.var 1) (.bi .len (.econs (.var 0) .enil))) (.cons (.ret (.ix (.var 0) (.var 1))) .nil) (.nil)) (.cons (.ret (.int 0)) .nil)
def d_law_cell : Def := ⟨2, 2, b_law_cell, false⟩
def b_law_row : MS := .cons (.set 3 (.lst true (.enil))) (.cons (.loop (.nm 4) (.rng (.econs (.var 1) (.econs (.var 2) .enil))) (.cons (.set 5 (.call "_law_cell" (.econs (.var 0) (.econs (.var 4) .enil)))) (.cons (.set 5 (.bin .add (.bi .abs (.econs (.bin .mul (.int 2) (.var 5)) .enil)) (.bi .int (.econs (.cmp .lt (.var 5) (.int 0)) .enil)))) (.cons (.ifs (.cmp .gt (.var 5) (.bin .pow (.int 10) (.int 18))) (.cons (.loop (.nm 6) (.rng (.econs (.int 60) .enil)) (.cons (.ifs (.cmp .gt (.var 5) (.int 0)) (.cons (.ex (.bm .append (.var 3) (.econs (.bin .mod (.bi .int (.econs (.var 5) .enil)) (.int 840)) .enil))) (.cons (.set 5 (.bin .fdiv (.var 5) (.int 840))) .nil)) (.nil)) .nil)) .nil) (.cons (.loop (.nm 6) (.rng (.econs (.int 10) .enil)) (.cons (.set 5 (.bin .mod (.bi .int (.econs (.bin .add (.bin .add (.bin .mul (.var 5) (.int 69069)) (.bin .mul (.int 104729) (.bin .add (.var 4) (.var 6)))) (.int 1)) .enil)) (.int 4294967291))) (.cons (.ex (.bm .append (.var 3) (.econs (.bin .mod (.bi .int (.econs (.bin .fdiv (.var 5) (.int 5003)) .enil)) (.int 840)) .enil))) .nil))) .nil)) .nil)))) (.cons (.ret (.var 3)) .nil))
def d_law_row : Def := ⟨3, 7, b_law_row, true⟩
def b_law_draw : MS := .cons (.set 2 (.ix (.var 0) (.int 1))) (.cons (.setix (.var 0) (.int 1) (.bin .add (.var 2) (.int 1))) (.cons (.ifs (.cmp .lt (.var 2) (.bi .len (.econs (.ix (.var 0) (.int 0)) .enil))) (.cons (.ret (.bin .mod (.bi .int (.econs (.ix (.ix (.var 0) (.int 0)) (.var 2)) .enil)) (.var 1))) .nil) (.nil)) (.cons (.ret (.bin .mod (.bi .int (.econs (.bin .add (.bin .mul (.var 2) (.int 5)) (.int 1)) .enil)) (.var 1))) .nil)))
def d_law_draw : Def := ⟨2, 3, b_law_draw, false⟩
def b_law_wrap : MS := .cons (.ret (.bin .sub (.bin .mod (.bi .int (.econs (.bin .add (.var 0) (.int 2147483648)) .enil)) (.int 4294967296)) (.int 2147483648))) .nil
def d_law_wrap : Def := ⟨1, 1, b_law_wrap, false⟩
def b_law_word : MS := .cons (.set 1 (.call "_law_draw" (.econs (.var 0) (.econs (.int 7) .enil)))) (.cons (.ifs (.cmp .lt (.var 1) (.int 2)) (.cons (.ret (.bin .sub (.call "_law_draw" (.econs (.var 0) (.econs (.int 7) .enil))) (.int 3))) .nil) (.nil)) (.cons (.ifs (.cmp .eq (.var 1) (.int 2)) (.cons (.ret (.bin .sub (.int 2147483647) (.call "_law_draw" (.econs (.var 0) (.econs (.int 3) .enil))))) .nil) (.nil)) (.cons (.ifs (.cmp .eq (.var 1) (.int 3)) (.cons (.ret (.bin .sub (.call "_law_draw" (.econs (.var 0) (.econs (.int 3) .enil))) (.int 2147483648))) .nil) (.nil)) (.cons (.ifs (.cmp .eq (.var 1) (.int 4)) (.cons (.ret (.bin .mul (.int 65536) (.bin .sub (.call "_law_draw" (.econs (.var 0) (.econs (.int 7) .enil))) (.int 3)))) .nil) (.nil)) (.cons (.set 2 (.int 0)) (.cons (.loop (.nm 3) (.rng (.econs (.int 4) .enil)) (.cons (.set 2 (.bin .add (.bin .mul (.var 2) (.int 840)) (.call "_law_draw" (.econs (.var 0) (.econs (.int 840) .enil))))) .nil)) (.cons (.ret (.call "_law_wrap" (.econs (.var 2) .enil))) .nil)))))))
def d_law_word : Def := ⟨1, 4, b_law_word, false⟩
def b_law_fill : MS := .cons (.ifs (.cmp .eq (.call "_law_draw" (.econs (.var 0) (.econs (.int 2) .enil))) (.int 0)) (.cons (.ret (.tup (.econs (.str "same") (.econs (.call "_law_word" (.econs (.var 0) .enil)) .enil)))) .nil) (.nil)) (.cons (.ret (.tup (.econs (.str "mixed") (.econs (.ix (.lst false (.econs (.int 0) (.econs (.int 8) (.econs (.int 16) (.econs (.int 28) (.econs (.int 31) .enil)))))) (.call "_law_draw" (.econs (.var 0) (.econs (.int 5) .enil)))) .enil)))) .nil)
def d_law_fill : Def := ⟨1, 1, b_law_fill, false⟩
/-- the box: its row, where it stands -/
def bx (r : List Int) (a : Int) : Cell := .lst [.lst (r.map Val.int), .int a]
theorem line_big : 1000000 ≤ sizeLine := by decide
theorem at_ints {r : List Int} {a : Int} (h0 : 0 ≤ a) (h : a < r.length) : ∃ i, L2.atI (r.map Val.int) a = some (.int i) := by
  obtain ⟨x, e, m⟩ := at_in (vs := r.map Val.int) h0 (by rw [List.length_map]; exact h)
  obtain ⟨i, _, rfl⟩ := List.mem_map.mp m
  exact ⟨i, e⟩
section
variable {G : Prg} {k : Nat} {r : List Int} {a : Int} {S T : Sto} {Q : Val → Sto → Prop}
theorem draw_ok (h : G.tab "" "_law_draw" = some d_law_draw) {m : Int} (ha : 0 ≤ a) (hm : 0 < m) (q : ∀ i, 0 ≤ i → i < m → Q (.int i) (bx r (a + 1) :: T)) : WC (G.at (k + 1)) "" "_law_draw" [.ref 0, .int m] (bx r a :: T) Q := by
  refine wc_run h rfl rfl ?_
  simp [d_law_draw, b_law_draw, bx]
  split
  · rename_i lt
    obtain ⟨i, e⟩ := at_ints ha lt
    rw [e]
    simp [hm]
    exact q _ (Int.emod_nonneg _ (by omega)) (Int.emod_lt_of_pos _ hm)
  · exact ⟨okMul_r (by omega), hm, q _ (Int.emod_nonneg _ (by omega)) (Int.emod_lt_of_pos _ hm)⟩
theorem wrap_ok (h : G.tab "" "_law_wrap" = some d_law_wrap) {m : Int} (q : ∀ i, -2147483648 ≤ i → i < 2147483648 → Q (.int i) S) : WC (G.at (k + 1)) "" "_law_wrap" [.int m] S Q := by
  refine wc_run h rfl rfl ?_
  simp [d_law_wrap, b_law_wrap]
  have h1 := Int.emod_nonneg (m + 2147483648) (show (4294967296 : Int) ≠ 0 by omega)
  have h2 := Int.emod_lt_of_pos (m + 2147483648) (show (0 : Int) < 4294967296 by omega)
  exact q _ (by omega) (by omega)
theorem cell_ok (h : G.tab "" "_law_cell" = some d_law_cell) {ns : List Int} {j : Int} (hj : 0 ≤ j) (q : ∀ i, Q (.int i) S) : WC (G.at (k + 1)) "" "_law_cell" [.lsk (ns.map Val.int), .int j] S Q := by
  refine wc_run h rfl rfl ?_
  simp [d_law_cell, b_law_cell]
  split
  · rename_i lt
    obtain ⟨i, e⟩ := at_ints hj lt
    rw [e]
    simp
    exact q _
  · exact q _
theorem word_ok (h : G.tab "" "_law_draw" = some d_law_draw) (h1 : G.tab "" "_law_wrap" = some d_law_wrap) (h2 : G.tab "" "_law_word" = some d_law_word) (ha : 0 ≤ a) (q : ∀ i b, 0 ≤ b → -2147483648 ≤ i → i < 2147483648 → Q (.int i) (bx r b :: T)) :
    WC (G.at (k + 2)) "" "_law_word" [.ref 0] (bx r a :: T) Q := by
  refine wc_run h2 rfl rfl ?_
  simp [d_law_word, b_law_word]
  refine draw_ok h ha (by omega) fun c c0 c1 => ?_
  simp
  split
  · refine draw_ok h (by omega) (by omega) fun d d0 d1 => ?_
    simp
    exact q _ _ (by omega) (by omega) (by omega)
  split
  · refine draw_ok h (by omega) (by omega) fun d d0 d1 => ?_
    simp
    exact q _ _ (by omega) (by omega) (by omega)
  split
  · refine draw_ok h (by omega) (by omega) fun d d0 d1 => ?_
    simp
    exact q _ _ (by omega) (by omega) (by omega)
  split
  · refine draw_ok h (by omega) (by omega) fun d d0 d1 => ?_
    simp
    exact ⟨okMul_l (by omega), q _ _ (by omega) (by omega) (by omega)⟩
  refine ws_rng 4 (S1 := bx r (a + 1) :: T) (fun j env S => ∃ n b x, 0 ≤ b ∧ env = [some (.ref 0), some (.int c), some (.int n), x] ∧ S = bx r b :: T) (by simp) (by omega) ⟨0, a + 1, none, by omega, rfl, rfl⟩ ?_ ?_
  · rintro j env S hj ⟨n, b, x, hb, rfl, rfl⟩
    simp
    refine ⟨okMul_r (by omega), draw_ok h hb (by omega) fun d d0 d1 => ?_⟩
    simp
    exact ⟨_, b + 1, by omega, rfl, rfl⟩
  · rintro env S ⟨n, b, x, hb, rfl, rfl⟩
    simp
    exact wrap_ok h1 fun i i0 i1 => q i b hb i0 i1
theorem row_ok (h : G.tab "" "_law_cell" = some d_law_cell) (h1 : G.tab "" "_law_row" = some d_law_row) {ns : List Int} (q : ∀ r : List Int, Q (.lst (r.map Val.int)) []) : WC (G.at (k + 2)) "" "_law_row" [.lsk (ns.map Val.int), .int 0, .int 30] [] Q := by
  refine wc_runP h1 rfl rfl ?_
  simp [d_law_row, b_law_row]
  refine ws_rng2 0 30 (S1 := [.lst []]) (fun j env S => ∃ (acc : List Int) (x y z : Option Val), acc.length ≤ 60 * j ∧ env = [some (.lsk (ns.map Val.int)), some (.int 0), some (.int 30), some (.ref 0), x, y, z] ∧ S = [.lst (acc.map Val.int)]) (by simp) (by omega) ⟨[], none, none, none, by simp, rfl, rfl⟩ ?_ ?_
  · rintro j env S hj ⟨acc, x, y, z, hl, rfl, rfl⟩
    have hj : j < 30 := by simpa using hj
    simp
    refine cell_ok h (by omega) fun c => ?_
    simp
    refine ⟨okMul_l (by omega), ?_⟩
    generalize ((if 2 * c < 0 then -(2 * c) else 2 * c) + if c < 0 then 1 else 0 : Int) = c2
    split
    · refine ws_rng 60 (S1 := [.lst (acc.map Val.int)]) (fun j' env S => ∃ (acc : List Int) (c : Int) (z : Option Val), acc.length ≤ 60 * j + j' ∧ env = [some (.lsk (ns.map Val.int)), some (.int 0), some (.int 30), some (.ref 0), some (.int j), some (.int c), z] ∧ S = [.lst (acc.map Val.int)]) (by simp) (by omega) ⟨acc, _, z, by omega, rfl, rfl⟩ ?_ ?_
      · rintro j' env S hj' ⟨acc, c, z, hl, rfl, rfl⟩
        have hj' : j' < 60 := by simpa using hj'
        have lb := line_big
        simp
        split
        · refine ⟨by omega, acc ++ [c % 840], by simp; omega, by simp⟩
        · exact ⟨acc, by omega, rfl⟩
      · rintro env S ⟨acc, c, z, hl, rfl, rfl⟩
        simp
        exact ⟨acc, by omega, rfl⟩
    · refine ws_rng 10 (S1 := [.lst (acc.map Val.int)]) (fun j' env S => ∃ (acc : List Int) (c : Int) (z : Option Val), acc.length ≤ 60 * j + j' ∧ env = [some (.lsk (ns.map Val.int)), some (.int 0), some (.int 30), some (.ref 0), some (.int j), some (.int c), z] ∧ S = [.lst (acc.map Val.int)]) (by simp) (by omega) ⟨acc, _, z, by omega, rfl, rfl⟩ ?_ ?_
      · rintro j' env S hj' ⟨acc, c, z, hl, rfl, rfl⟩
        have hj' : j' < 10 := by simpa using hj'
        have lb := line_big
        simp [lst_ref (S := [.lst (acc.map Val.int)]) (n := 0) rfl]
        refine ⟨okMul_r (by omega), okMul_l (by omega), by omega, acc ++ [_], by simp; omega, by simp; rfl⟩
      · rintro env S ⟨acc, c, z, hl, rfl, rfl⟩
        simp
        exact ⟨acc, by omega, rfl⟩
  · rintro env S ⟨acc, x, y, z, hl, rfl, rfl⟩
    simp
    have e := leave_lst (S := []) (T := [.lst (acc.map Val.int)]) (b := 0) (n := 0) (Nat.le_refl 0) rfl (fun v hv => by
      obtain ⟨i, _, rfl⟩ := List.mem_map.mp hv
      rfl) rfl (fun c hc => by cases hc)
    exact ⟨_, e, q acc⟩
theorem fill_ok (h : G.tab "" "_law_draw" = some d_law_draw) (h1 : G.tab "" "_law_wrap" = some d_law_wrap) (h2 : G.tab "" "_law_word" = some d_law_word) (h3 : G.tab "" "_law_fill" = some d_law_fill) (ha : 0 ≤ a)
    (q : ∀ v b, 0 ≤ b → ((∃ i, -2147483648 ≤ i ∧ i < 2147483648 ∧ v = .tup [.str "same", .int i]) ∨ ∃ i, 0 ≤ i ∧ i ≤ 31 ∧ v = .tup [.str "mixed", .int i]) → Q v (bx r b :: T)) : WC (G.at (k + 3)) "" "_law_fill" [.ref 0] (bx r a :: T) Q := by
  refine wc_run h3 rfl rfl ?_
  have lb := line_big
  simp [d_law_fill, b_law_fill]
  refine draw_ok h ha (by omega) fun c c0 c1 => ?_
  simp
  split
  · refine word_ok h h1 h2 (by omega) fun i b hb i0 i1 => ?_
    exact ⟨by omega, q _ b hb (.inl ⟨i, i0, i1, rfl⟩)⟩
  · refine ⟨by omega, draw_ok h (by omega) (by omega) fun d d0 d1 => OK_at d0 (by simpa using d1) fun x hx => ⟨by omega, q _ _ (by omega) (.inr ?_)⟩⟩
    simp at hx
    rcases hx with rfl | rfl | rfl | rfl | rfl
    · exact ⟨0, by omega, by omega, rfl⟩
    · exact ⟨8, by omega, by omega, rfl⟩
    · exact ⟨16, by omega, by omega, rfl⟩
    · exact ⟨28, by omega, by omega, rfl⟩
    · exact ⟨31, by omega, by omega, rfl⟩
end
end
end Mi

namespace Mi
open PySem
open Classical
noncomputable section
def b_law_try : MS := .cons (.set 2 (.lst false (.econs (.str "lin") (.econs (.str "lin") (.econs (.str "lin") (.econs (.str "bias") (.econs (.str "embed") (.econs (.str "mat") (.econs (.str "matT") (.econs (.str "lower") (.econs (.str "add") (.econs (.str "sub") (.econs (.str "mul") (.econs (.str "mul") (.econs (.str "scale") (.econs (.str "shift") (.econs (.str "relu") (.econs (.str "drop") (.econs (.str "sum") (.econs (.str "join") (.econs (.str "take") (.econs (.str "target") (.econs (.str "input") .enil))))))))))))))))))))))) (.cons (.set 3 (.ix (.var 2) (.call "_law_draw" (.econs (.var 0) (.econs (.bi .len (.econs (.var 2) .enil)) .enil))))) (.cons (.set 4 (.bin .sub (.bin .sub (.bi .len (.econs (.ix (.var 1) (.int 3)) .enil)) (.int 1)) (.bi .int (.econs (.bin .mul (.call "_law_draw" (.econs (.var 0) (.econs (.bi .len (.econs (.ix (.var 1) (.int 3)) .enil)) .enil))) (.call "_law_draw" (.econs (.var 0) (.econs (.int 2) .enil)))) .enil)))) (.cons (.set 5 (.call "_law_draw" (.econs (.var 0) (.econs (.bi .len (.econs (.ix (.var 1) (.int 3)) .enil)) .enil)))) (.cons (.set 6 (.bin .add (.int 1) (.call "_law_draw" (.econs (.var 0) (.econs (.int 3) .enil))))) (.cons (.set 7 (.call "_law_draw" (.econs (.var 0) (.econs (.bi .len (.econs (.ix (.var 1) (.int 2)) .enil)) .enil)))) (.cons (.ifs (.cmp .in_ (.var 3) (.tup (.econs (.str "lin") (.econs (.str "bias") .enil)))) (.cons (.ret (.tup (.econs (.var 3) (.econs (.var 7) (.econs (.var 4) .enil))))) .nil) (.nil)) (.cons (.ifs (.cmp .eq (.var 3) (.str "embed")) (.cons (.ret (.tup (.econs (.var 3) (.econs (.var 7) (.econs (.call "_law_draw" (.econs (.var 0) (.econs (.ix (.var 1) (.int 0)) .enil))) (.econs (.var 6) .enil)))))) .nil) (.nil)) (.cons (.ifs (.cmp .in_ (.var 3) (.tup (.econs (.str "mat") (.econs (.str "matT") .enil)))) (.cons (.ret (.tup (.econs (.var 3) (.econs (.var 6) (.econs (.var 4) (.econs (.var 5) .enil)))))) .nil) (.nil)) (.cons (.ifs (.cmp .eq (.var 3) (.str "lower")) (.cons (.ret (.tup (.econs (.var 3) (.econs (.var 6) (.econs (.var 4) .enil))))) .nil) (.nil)) (.cons (.ifs (.cmp .in_ (.var 3) (.tup (.econs (.str "add") (.econs (.str "sub") (.econs (.str "mul") (.econs (.str "join") .enil)))))) (.cons (.ret (.tup (.econs (.var 3) (.econs (.var 4) (.econs (.var 5) .enil))))) .nil) (.nil)) (.cons (.ifs (.cmp .eq (.var 3) (.str "scale")) (.cons (.ret (.tup (.econs (.var 3) (.econs (.call "_law_word" (.econs (.var 0) .enil)) (.econs (.var 4) .enil))))) .nil) (.nil)) (.cons (.ifs (.cmp .eq (.var 3) (.str "shift")) (.cons (.ret (.tup (.econs (.var 3) (.econs (.ix (.lst false (.econs (.int 0) (.econs (.int 1) (.econs (.int 2) (.econs (.int 5) (.econs (.int 16) (.econs (.int 31) .enil))))))) (.call "_law_draw" (.econs (.var 0) (.econs (.int 6) .enil)))) (.econs (.var 4) .enil))))) .nil) (.nil)) (.cons (.ifs (.cmp .eq (.var 3) (.str "drop")) (.cons (.ret (.tup (.econs (.var 3) (.econs (.bin .add (.int 2) (.call "_law_draw" (.econs (.var 0) (.econs (.int 3) .enil)))) (.econs (.var 4) .enil))))) .nil) (.nil)) (.cons (.ifs (.cmp .in_ (.var 3) (.tup (.econs (.str "relu") (.econs (.str "sum") .enil)))) (.cons (.ret (.tup (.econs (.var 3) (.econs (.var 4) .enil)))) .nil) (.nil)) (.cons (.ifs (.cmp .eq (.var 3) (.str "take")) (.cons (.ret (.tup (.econs (.var 3) (.econs (.call "_law_draw" (.econs (.var 0) (.econs (.ix (.ix (.var 1) (.int 4)) (.var 4)) .enil))) (.econs (.var 6) (.econs (.var 4) .enil)))))) .nil) (.nil)) (.cons (.ret (.tup (.econs (.var 3) .enil))) .nil))))))))))))))))
def d_law_try : Def := ⟨2, 8, b_law_try, false⟩
def b_law_length : MS := .cons (.set 2 (.ix (.var 1) (.int 0))) (.cons (.ifs (.cmp .in_ (.var 2) (.tup (.econs (.str "input") (.econs (.str "target") .enil)))) (.cons (.ret (.ix (.var 0) (.bi .int (.econs (.cmp .eq (.var 2) (.str "target")) .enil)))) .nil) (.nil)) (.cons (.ifs (.cmp .eq (.var 2) (.str "embed")) (.cons (.ret (.bin .mul (.bin .mul (.ix (.var 1) (.int 3)) (.ix (.ix (.ix (.var 0) (.int 2)) (.ix (.var 1) (.int 1))) (.int 1))) (.bi .int (.econs (.cmp .le (.bin .add (.ix (.var 1) (.int 2)) (.ix (.var 1) (.int 3))) (.ix (.var 0) (.int 0))) .enil)))) .nil) (.nil)) (.cons (.ifs (.cmp .in_ (.var 2) (.tup (.econs (.str "relu") (.econs (.str "sum") .enil)))) (.cons (.ifs (.cmp .eq (.var 2) (.str "sum")) (.cons (.ret (.int 1)) .nil) (.nil)) (.cons (.ret (.ix (.ix (.var 0) (.int 4)) (.ix (.var 1) (.int 1)))) .nil)) (.nil)) (.cons (.ifs (.cmp .in_ (.var 2) (.tup (.econs (.str "add") (.econs (.str "sub") (.econs (.str "mul") .enil))))) (.cons (.ret (.bin .mul (.ix (.ix (.var 0) (.int 4)) (.ix (.var 1) (.int 1))) (.bi .int (.econs (.cmp .eq (.ix (.ix (.var 0) (.int 4)) (.ix (.var 1) (.int 1))) (.ix (.ix (.var 0) (.int 4)) (.ix (.var 1) (.int 2)))) .enil)))) .nil) (.nil)) (.cons (.ifs (.cmp .eq (.var 2) (.str "join")) (.cons (.ret (.bin .add (.ix (.ix (.var 0) (.int 4)) (.ix (.var 1) (.int 1))) (.ix (.ix (.var 0) (.int 4)) (.ix (.var 1) (.int 2))))) .nil) (.nil)) (.cons (.ifs (.cmp .eq (.var 2) (.str "take")) (.cons (.ret (.bin .mul (.ix (.var 1) (.int 2)) (.bi .int (.econs (.cmp .le (.bin .add (.ix (.var 1) (.int 1)) (.ix (.var 1) (.int 2))) (.ix (.ix (.var 0) (.int 4)) (.ix (.var 1) (.int 3)))) .enil)))) .nil) (.nil)) (.cons (.set 3 (.ix (.ix (.var 0) (.int 4)) (.ix (.var 1) (.int 2)))) (.cons (.ifs (.cmp .eq (.var 2) (.str "lin")) (.cons (.set 4 (.ix (.ix (.var 0) (.int 2)) (.ix (.var 1) (.int 1)))) (.cons (.ret (.bin .mul (.bin .mul (.bin .fdiv (.var 3) (.ix (.var 4) (.int 0))) (.ix (.var 4) (.int 1))) (.bi .int (.econs (.cmp .eq (.bin .mod (.bi .int (.econs (.var 3) .enil)) (.ix (.var 4) (.int 0))) (.int 0)) .enil)))) .nil)) (.nil)) (.cons (.ifs (.cmp .eq (.var 2) (.str "bias")) (.cons (.set 4 (.ix (.ix (.var 0) (.int 2)) (.ix (.var 1) (.int 1)))) (.cons (.ret (.bin .mul (.var 3) (.bi .int (.econs (.and (.cmp .eq (.ix (.var 4) (.int 0)) (.int 1)) (.cmp .eq (.bin .mod (.bi .int (.econs (.var 3) .enil)) (.ix (.var 4) (.int 1))) (.int 0))) .enil)))) .nil)) (.nil)) (.cons (.ifs (.cmp .in_ (.var 2) (.tup (.econs (.str "mat") (.econs (.str "matT") .enil)))) (.cons (.set 5 (.ix (.ix (.var 0) (.int 4)) (.ix (.var 1) (.int 3)))) (.cons (.set 6 (.and (.cmp .eq (.bin .mod (.bi .int (.econs (.var 3) .enil)) (.ix (.var 1) (.int 1))) (.int 0)) (.cmp .eq (.bin .mod (.bi .int (.econs (.var 5) .enil)) (.ix (.var 1) (.int 1))) (.int 0)))) (.cons (.ret (.bin .mul (.bin .mul (.bin .fdiv (.var 3) (.ix (.var 1) (.int 1))) (.bin .fdiv (.var 5) (.ix (.var 1) (.int 1)))) (.bi .int (.econs (.var 6) .enil)))) .nil))) (.nil)) (.cons (.ifs (.cmp .eq (.var 2) (.str "lower")) (.cons (.ret (.bin .mul (.var 3) (.bi .int (.econs (.cmp .eq (.bin .mod (.bi .int (.econs (.var 3) .enil)) (.ix (.var 1) (.int 1))) (.int 0)) .enil)))) .nil) (.nil)) (.cons (.ret (.var 3)) .nil))))))))))))
def d_law_length : Def := ⟨2, 7, b_law_length, false⟩
/-- a node of a drawn net: np parameters, nl nodes ahead of it -/
inductive Node (np nl : Nat) : Val → Prop
  | input : Node np nl (.tup [.str "input"])
  | target : Node np nl (.tup [.str "target"])
  | lin (p a : Nat) (hp : p < np) (ha : a < nl) : Node np nl (.tup [.str "lin", .int p, .int a])
  | bias (p a : Nat) (hp : p < np) (ha : a < nl) : Node np nl (.tup [.str "bias", .int p, .int a])
  | embed (p : Nat) (i k : Int) (hp : p < np) (h0 : 0 ≤ i) (h1 : i < 3) (k0 : 1 ≤ k) (k1 : k ≤ 3) : Node np nl (.tup [.str "embed", .int p, .int i, .int k])
  | mat (k : Int) (a b : Nat) (k0 : 1 ≤ k) (k1 : k ≤ 3) (ha : a < nl) (hb : b < nl) : Node np nl (.tup [.str "mat", .int k, .int a, .int b])
  | matT (k : Int) (a b : Nat) (k0 : 1 ≤ k) (k1 : k ≤ 3) (ha : a < nl) (hb : b < nl) : Node np nl (.tup [.str "matT", .int k, .int a, .int b])
  | lower (k : Int) (a : Nat) (k0 : 1 ≤ k) (k1 : k ≤ 3) (ha : a < nl) : Node np nl (.tup [.str "lower", .int k, .int a])
  | two (s : String) (hs : s ∈ ["add", "sub", "mul", "join"]) (a b : Nat) (ha : a < nl) (hb : b < nl) : Node np nl (.tup [.str s, .int a, .int b])
  | scale (w : Int) (a : Nat) (w0 : -2147483648 ≤ w) (w1 : w < 2147483648) (ha : a < nl) : Node np nl (.tup [.str "scale", .int w, .int a])
  | shift (n : Int) (a : Nat) (n0 : 0 ≤ n) (n1 : n ≤ 31) (ha : a < nl) : Node np nl (.tup [.str "shift", .int n, .int a])
  | drop (n : Int) (a : Nat) (n0 : 2 ≤ n) (n1 : n ≤ 4) (ha : a < nl) : Node np nl (.tup [.str "drop", .int n, .int a])
  | one (s : String) (hs : s ∈ ["relu", "sum"]) (a : Nat) (ha : a < nl) : Node np nl (.tup [.str s, .int a])
  | take (i k : Int) (a : Nat) (i0 : 0 ≤ i) (i1 : i < 12) (k0 : 1 ≤ k) (k1 : k ≤ 3) (ha : a < nl) : Node np nl (.tup [.str "take", .int i, .int k, .int a])
/-- a parameter: rows, columns, how it is filled -/
def Par (v : Val) : Prop := ∃ m n f, v = .tup [.int m, .int n, f] ∧ 1 ≤ m ∧ m ≤ 3 ∧ 1 ≤ n ∧ n ≤ 3 ∧ ((∃ i, -2147483648 ≤ i ∧ i < 2147483648 ∧ f = .tup [.str "same", .int i]) ∨ ∃ i, 0 ≤ i ∧ i ≤ 31 ∧ f = .tup [.str "mixed", .int i])
def Len (v : Val) : Prop := ∃ i, v = .int i ∧ 1 ≤ i ∧ i ≤ 12
/-- the store while a net is drawn -/
def st5 (r : List Int) (a ni nt : Int) (ps nds ls : List Val) : Sto := [bx r a, .lst ps, .lst nds, .lst ls, .lst [.int ni, .int nt, .ref 1, .ref 2, .ref 3]]
section
variable {G : Prg} {k : Nat} {r : List Int} {a ni nt : Int} {ps nds ls : List Val} {Q : Val → Sto → Prop}
theorem len_at {i : Int} {P : Val → Prop} (hl : ∀ l ∈ ls, Len l) (h0 : 0 ≤ i) (h1 : i < ls.length) (q : ∀ n : Int, 1 ≤ n → n ≤ 12 → P (.int n)) : OK (L2.atI ls i) P := OK_at h0 h1 fun x hx => by
  obtain ⟨n, rfl, n0, n1⟩ := hl x hx
  exact q n n0 n1
theorem par_at {i : Int} {P : Val → Prop} (hl : ∀ l ∈ ps, Par l) (h0 : 0 ≤ i) (h1 : i < ps.length) (q : ∀ (m n : Int) f, 1 ≤ m → m ≤ 3 → 1 ≤ n → n ≤ 3 → P (.tup [.int m, .int n, f])) : OK (L2.atI ps i) P := OK_at h0 h1 fun x hx => by
  obtain ⟨m, n, f, rfl, m0, m1, n0, n1, _⟩ := hl x hx
  exact q m n f m0 m1 n0 n1
@[simp] theorem okMul_ite {i : Int} {p : Prop} [Decidable p] : okMul i (if p then 1 else 0) = True := eq_true (by split <;> exact okMul_r (by omega))
@[simp] theorem okMul_0 {i : Int} : okMul i 0 = True := eq_true (okMul_r (by omega))
theorem try_ok (h : G.tab "" "_law_draw" = some d_law_draw) (h1 : G.tab "" "_law_wrap" = some d_law_wrap) (h2 : G.tab "" "_law_word" = some d_law_word) (h3 : G.tab "" "_law_try" = some d_law_try) (ha : 0 ≤ a) (hi : 1 ≤ ni ∧ ni ≤ 3) (hp : 1 ≤ ps.length)
    (hn : 1 ≤ nds.length) (he : nds.length = ls.length) (hl : ∀ l ∈ ls, Len l) (hb : nds.length ≤ 100) (q : ∀ v b, 0 ≤ b → Node ps.length nds.length v → Q v (st5 r b ni nt ps nds ls)) : WC (G.at (k + 3)) "" "_law_try" [.ref 0, .ref 4] (st5 r a ni nt ps nds ls) Q := by
  refine wc_run h3 rfl rfl ?_
  have lb := line_big
  have l1 : 1 ≤ sizeLine := by omega
  have l2 : 2 ≤ sizeLine := by omega
  have l3 : 3 ≤ sizeLine := by omega
  have l4 : 4 ≤ sizeLine := by omega
  have l6 : 6 ≤ sizeLine := by omega
  have l21 : 21 ≤ sizeLine := by omega
  have fin : ∀ v b, 0 ≤ b → Node ps.length nds.length v → Q v [bx r b, .lst ps, .lst nds, .lst ls, .lst [.int ni, .int nt, .ref 1, .ref 2, .ref 3]] := q
  simp [d_law_try, b_law_try, st5, l1, l2, l3, l4, l6, l21]
  refine draw_ok h ha (by omega) fun c c0 c1 => ?_
  simp
  refine OK_at c0 (by simpa using c1) fun kd hkd => ?_
  refine draw_ok h (by omega) (by omega) fun d d0 d1 => draw_ok h (by omega) (by omega) fun e e0 e1 => ?_
  simp [l1, l2, l3, l4, l6, l21]
  refine ⟨okMul_r (by omega), draw_ok h (by omega) (by omega) fun f f0 f1 => draw_ok h (by omega) (by omega) fun g g0 g1 => ?_⟩
  simp [l1, l2, l3, l4, l6, l21]
  refine draw_ok h (by omega) (by omega) fun p p0 p1 => ?_
  obtain ⟨A, hA, hA'⟩ : ∃ A : Nat, (nds.length : Int) - 1 - d * e = A ∧ A < nds.length := by
    have e2 : e = 0 ∨ e = 1 := by omega
    rcases e2 with rfl | rfl
    · exact ⟨nds.length - 1, by omega, by omega⟩
    · exact ⟨(nds.length - 1 - d).toNat, by omega, by omega⟩
  rw [hA]
  obtain ⟨p, rfl⟩ := Int.eq_ofNat_of_zero_le p0
  obtain ⟨f, rfl⟩ := Int.eq_ofNat_of_zero_le f0
  have hp' : p < ps.length := by omega
  have hf' : f < nds.length := by omega
  simp only [List.mem_cons, List.not_mem_nil, or_false] at hkd
  rcases hkd with rfl | rfl | rfl | rfl | rfl | rfl | rfl | rfl | rfl | rfl | rfl | rfl | rfl | rfl | rfl | rfl | rfl | rfl | rfl | rfl | rfl <;> simp [l1, l2, l3, l4, l6, l21]
  · exact fin _ _ (by omega) (.lin p A hp' hA')
  · exact fin _ _ (by omega) (.lin p A hp' hA')
  · exact fin _ _ (by omega) (.lin p A hp' hA')
  · exact fin _ _ (by omega) (.bias p A hp' hA')
  · refine draw_ok h (by omega) (by omega) fun i i0 i1 => ?_
    exact fin _ _ (by omega) (.embed p i _ hp' i0 (by omega) (by omega) (by omega))
  · exact fin _ _ (by omega) (.mat _ A f (by omega) (by omega) hA' hf')
  · exact fin _ _ (by omega) (.matT _ A f (by omega) (by omega) hA' hf')
  · exact fin _ _ (by omega) (.lower _ A (by omega) (by omega) hA')
  · exact fin _ _ (by omega) (.two _ (by decide) A f hA' hf')
  · exact fin _ _ (by omega) (.two _ (by decide) A f hA' hf')
  · exact fin _ _ (by omega) (.two _ (by decide) A f hA' hf')
  · exact fin _ _ (by omega) (.two _ (by decide) A f hA' hf')
  · refine word_ok h h1 h2 (by omega) fun i b hb i0 i1 => ?_
    exact fin _ _ hb (.scale i A i0 i1 hA')
  · refine draw_ok h (by omega) (by omega) fun i i0 i1 => OK_at i0 (by simpa using i1) fun x hx => ?_
    have n : ∃ j : Int, x = .int j ∧ 0 ≤ j ∧ j ≤ 31 := by
      simp at hx
      rcases hx with rfl | rfl | rfl | rfl | rfl | rfl
      · exact ⟨0, rfl, by omega, by omega⟩
      · exact ⟨1, rfl, by omega, by omega⟩
      · exact ⟨2, rfl, by omega, by omega⟩
      · exact ⟨5, rfl, by omega, by omega⟩
      · exact ⟨16, rfl, by omega, by omega⟩
      · exact ⟨31, rfl, by omega, by omega⟩
    obtain ⟨j, rfl, j0, j1⟩ := n
    exact fin _ _ (by omega) (.shift j A j0 j1 hA')
  · exact fin _ _ (by omega) (.one _ (by decide) A hA')
  · refine draw_ok h (by omega) (by omega) fun i i0 i1 => ?_
    simp
    exact fin _ _ (by omega) (.drop _ A (by omega) (by omega) hA')
  · exact fin _ _ (by omega) (.one _ (by decide) A hA')
  · exact fin _ _ (by omega) (.two _ (by decide) A f hA' hf')
  · refine len_at hl (by omega) (by omega) fun n n0 n1 => ?_
    refine draw_ok h (by omega) (by omega) fun i i0 i1 => ?_
    exact fin _ _ (by omega) (.take i _ A i0 (by omega) (by omega) (by omega) hA')
  · exact fin _ _ (by omega) .target
  · exact fin _ _ (by omega) .input
theorem length_ok (h3 : G.tab "" "_law_length" = some d_law_length) (he : nds.length = ls.length) (hl : ∀ l ∈ ls, Len l) (hps : ∀ p ∈ ps, Par p) {v : Val} (hv : Node ps.length nds.length v)
    (q : ∀ n : Int, Q (.int n) (st5 r a ni nt ps nds ls)) : WC (G.at (k + 1)) "" "_law_length" [.ref 4, v] (st5 r a ni nt ps nds ls) Q := by
  refine wc_run h3 rfl rfl ?_
  have lb := line_big
  have l1 : 1 ≤ sizeLine := by omega
  have l2 : 2 ≤ sizeLine := by omega
  have l3 : 3 ≤ sizeLine := by omega
  have l4 : 4 ≤ sizeLine := by omega
  have fin : ∀ n : Int, Q (.int n) [bx r a, .lst ps, .lst nds, .lst ls, .lst [.int ni, .int nt, .ref 1, .ref 2, .ref 3]] := q
  have M : ∀ {i j : Int}, 0 ≤ j → j ≤ 100 → okMul i j := fun h0 h1 => okMul_r (by omega)
  cases hv with
  | input =>
    simp [d_law_length, b_law_length, st5, l1, l2, l3, l4]
    exact fin _
  | target =>
    simp [d_law_length, b_law_length, st5, l1, l2, l3, l4]
    exact fin _
  | lin p A hp hA =>
    simp [d_law_length, b_law_length, st5, l1, l2, l3, l4]
    refine len_at hl (by omega) (by omega) fun n n0 n1 => par_at hps (by omega) (by omega) fun x y f x0 x1 y0 y1 => ?_
    simp
    repeat' (first | exact fin _ | exact M (by omega) (by omega) | omega | apply And.intro | split)
  | bias p A hp hA =>
    simp [d_law_length, b_law_length, st5, l1, l2, l3, l4]
    refine len_at hl (by omega) (by omega) fun n n0 n1 => par_at hps (by omega) (by omega) fun x y f x0 x1 y0 y1 => ?_
    simp
    repeat' (first | exact fin _ | exact M (by omega) (by omega) | omega | apply And.intro | split)
  | embed p i k' hp h0 h1 k0 k1 =>
    simp [d_law_length, b_law_length, st5, l1, l2, l3, l4]
    refine par_at hps (by omega) (by omega) fun x y f x0 x1 y0 y1 => ?_
    simp
    repeat' (first | exact fin _ | exact M (by omega) (by omega) | omega | apply And.intro | split)
  | mat k' A B k0 k1 hA hB =>
    simp [d_law_length, b_law_length, st5, l1, l2, l3, l4]
    refine len_at hl (by omega) (by omega) fun n n0 n1 => len_at hl (by omega) (by omega) fun m m0 m1 => ?_
    have dm : 0 ≤ m / k' ∧ m / k' ≤ 100 := ⟨Int.ediv_nonneg (by omega) (by omega), Int.le_trans (Int.ediv_le_self _ (by omega)) (by omega)⟩
    simp
    repeat' (first | exact fin _ | exact M (by omega) (by omega) | omega | apply And.intro | split)
  | matT k' A B k0 k1 hA hB =>
    simp [d_law_length, b_law_length, st5, l1, l2, l3, l4]
    refine len_at hl (by omega) (by omega) fun n n0 n1 => len_at hl (by omega) (by omega) fun m m0 m1 => ?_
    have dm : 0 ≤ m / k' ∧ m / k' ≤ 100 := ⟨Int.ediv_nonneg (by omega) (by omega), Int.le_trans (Int.ediv_le_self _ (by omega)) (by omega)⟩
    simp
    repeat' (first | exact fin _ | exact M (by omega) (by omega) | omega | apply And.intro | split)
  | lower k' A k0 k1 hA =>
    simp [d_law_length, b_law_length, st5, l1, l2, l3, l4]
    refine len_at hl (by omega) (by omega) fun n n0 n1 => ?_
    simp
    repeat' (first | exact fin _ | exact M (by omega) (by omega) | omega | apply And.intro | split)
  | two s hs A B hA hB =>
    simp only [List.mem_cons, List.not_mem_nil, or_false] at hs
    rcases hs with rfl | rfl | rfl | rfl <;> simp [d_law_length, b_law_length, st5, l1, l2, l3, l4]
    · refine len_at hl (by omega) (by omega) fun n n0 n1 => len_at hl (by omega) (by omega) fun m m0 m1 => len_at hl (by omega) (by omega) fun o o0 o1 => ?_
      simp
      exact fin _
    · refine len_at hl (by omega) (by omega) fun n n0 n1 => len_at hl (by omega) (by omega) fun m m0 m1 => len_at hl (by omega) (by omega) fun o o0 o1 => ?_
      simp
      exact fin _
    · refine len_at hl (by omega) (by omega) fun n n0 n1 => len_at hl (by omega) (by omega) fun m m0 m1 => len_at hl (by omega) (by omega) fun o o0 o1 => ?_
      simp
      exact fin _
    · refine len_at hl (by omega) (by omega) fun n n0 n1 => len_at hl (by omega) (by omega) fun m m0 m1 => ?_
      simp
      exact fin _
  | scale w A w0 w1 hA =>
    simp [d_law_length, b_law_length, st5, l1, l2, l3, l4]
    exact len_at hl (by omega) (by omega) fun n n0 n1 => fin _
  | shift n' A n0' n1' hA =>
    simp [d_law_length, b_law_length, st5, l1, l2, l3, l4]
    exact len_at hl (by omega) (by omega) fun n n0 n1 => fin _
  | drop n' A n0' n1' hA =>
    simp [d_law_length, b_law_length, st5, l1, l2, l3, l4]
    exact len_at hl (by omega) (by omega) fun n n0 n1 => fin _
  | one s hs A hA =>
    simp only [List.mem_cons, List.not_mem_nil, or_false] at hs
    rcases hs with rfl | rfl <;> simp [d_law_length, b_law_length, st5, l1, l2, l3, l4]
    · exact len_at hl (by omega) (by omega) fun n n0 n1 => fin _
    · exact fin _
  | take i k' A i0 i1 k0 k1 hA =>
    simp [d_law_length, b_law_length, st5, l1, l2, l3, l4]
    refine len_at hl (by omega) (by omega) fun n n0 n1 => ?_
    simp
    repeat' (first | exact fin _ | exact M (by omega) (by omega) | omega | apply And.intro | split)
end
end
end Mi

namespace Mi
open PySem
open Classical
noncomputable section
def b_law_small_net : MS := .cons (.set 2 (.bin .add (.int 2) (.bi .int (.econs (.cmp .gt (.var 1) (.int 3)) .enil)))) (.cons (.set 3 (.lst true (.econs (.bin .add (.int 1) (.call "_law_draw" (.econs (.var 0) (.econs (.int 3) .enil)))) (.econs (.bin .add (.int 1) (.call "_law_draw" (.econs (.var 0) (.econs (.int 2) .enil)))) (.econs (.lst true (.enil)) (.econs (.lst true (.enil)) (.econs (.lst true (.enil)) .enil))))))) (.cons (.loop (.nm 4) (.rng (.econs (.bin .add (.int 1) (.call "_law_draw" (.econs (.var 0) (.econs (.var 2) .enil)))) .enil)) (.cons (.ex (.bm .append (.ix (.var 3) (.int 2)) (.econs (.tup (.econs (.bin .add (.int 1) (.call "_law_draw" (.econs (.var 0) (.econs (.var 2) .enil)))) (.econs (.bin .add (.int 1) (.call "_law_draw" (.econs (.var 0) (.econs (.var 2) .enil)))) (.econs (.call "_law_fill" (.econs (.var 0) .enil)) .enil)))) .enil))) .nil)) (.cons (.ex (.bm .append (.ix (.var 3) (.int 3)) (.econs (.tup (.econs (.str "input") .enil)) .enil))) (.cons (.ex (.bm .append (.ix (.var 3) (.int 4)) (.econs (.ix (.var 3) (.int 0)) .enil))) (.cons (.loop (.nm 4) (.rng (.econs (.call "_law_draw" (.econs (.var 0) (.econs (.bin .add (.var 1) (.int 1)) .enil))) .enil)) (.cons (.set 5 (.bl false)) (.cons (.loop (.nm 6) (.rng (.econs (.int 3) .enil)) (.cons (.set 7 (.call "_law_try" (.econs (.var 0) (.econs (.var 3) .enil)))) (.cons (.set 8 (.call "_law_length" (.econs (.var 3) (.econs (.var 7) .enil)))) (.cons (.ifs (.and (.not (.var 5)) (.chain .lt .le (.int 0) (.var 8) (.int 12))) (.cons (.ex (.bm .append (.ix (.var 3) (.int 3)) (.econs (.var 7) .enil))) (.cons (.ex (.bm .append (.ix (.var 3) (.int 4)) (.econs (.var 8) .enil))) (.cons (.set 5 (.bl true)) .nil))) (.nil)) .nil)))) .nil))) (.cons (.ifs (.cmp .ne (.ix (.ix (.var 3) (.int 4)) (.neg (.int 1))) (.int 1)) (.cons (.ex (.bm .append (.ix (.var 3) (.int 3)) (.econs (.tup (.econs (.str "sum") (.econs (.bin .sub (.bi .len (.econs (.ix (.var 3) (.int 3)) .enil)) (.int 1)) .enil))) .enil))) (.cons (.ex (.bm .append (.ix (.var 3) (.int 4)) (.econs (.int 1) .enil))) .nil)) (.nil)) (.cons (.ret (.var 3)) .nil)))))))
def d_law_small_net : Def := ⟨2, 9, b_law_small_net, true⟩
def b_law_job : MS := .cons (.set 2 (.call "_law_small_net" (.econs (.var 0) (.econs (.var 1) .enil)))) (.cons (.set 3 (.lst true (.enil))) (.cons (.loop (.nm 4) (.rng (.econs (.bin .add (.int 1) (.call "_law_draw" (.econs (.var 0) (.econs (.int 4) .enil)))) .enil)) (.cons (.setc 6 (.comp false [("_law_j", 7)] (.nm 7) (.rng (.econs (.ix (.var 2) (.int 0)) .enil)) (.bl true) (.call "_law_word" (.econs (.var 0) .enil)))) (.cons (.ex (.bm .append (.var 3) (.econs (.tup (.econs (.var 6) (.econs (.comp false [("_law_j", 7)] (.nm 7) (.rng (.econs (.ix (.var 2) (.int 1)) .enil)) (.bl true) (.call "_law_word" (.econs (.var 0) .enil))) .enil))) .enil))) .nil))) (.cons (.set 5 (.lst true (.enil))) (.cons (.loop (.nm 4) (.rng (.econs (.call "_law_draw" (.econs (.var 0) (.econs (.int 3) .enil))) .enil)) (.cons (.ex (.bm .append (.var 5) (.econs (.tup (.econs (.call "_law_draw" (.econs (.var 0) (.econs (.int 3) .enil))) (.econs (.call "_law_word" (.econs (.var 0) .enil)) .enil))) .enil))) .nil)) (.cons (.ret (.lst false (.econs (.var 2) (.econs (.call "_law_word" (.econs (.var 0) .enil)) (.econs (.bin .add (.int 1) (.call "_law_draw" (.econs (.var 0) (.econs (.int 3) .enil)))) (.econs (.call "_law_word" (.econs (.var 0) .enil)) (.econs (.call "_law_draw" (.econs (.var 0) (.econs (.int 32) .enil))) (.econs (.var 5) (.econs (.var 3) .enil))))))))) .nil)))))
def d_law_job : Def := ⟨2, 8, b_law_job, true⟩
def Nodes (np : Nat) (nds : List Val) : Prop := ∀ i v, nds[i]? = some v → Node np i v
theorem Nodes.snoc {np : Nat} {nds : List Val} {v : Val} (h : Nodes np nds) (n : Node np nds.length v) : Nodes np (nds ++ [v]) := fun i w e => by
  by_cases hi : i < nds.length
  · rw [List.getElem?_append_left hi] at e
    exact h i w e
  · have hi' : i = nds.length := by
      have := (List.getElem?_eq_some_iff.mp e).1
      rw [List.length_append, List.length_singleton] at this
      omega
    subst hi'
    simp at e
    subst e
    exact n
theorem all_snoc {P : Val → Prop} {vs : List Val} {v : Val} (h : ∀ x ∈ vs, P x) (hv : P v) : ∀ x ∈ vs ++ [v], P x := fun x hx => by
  rcases List.mem_append.mp hx with k | k
  · exact h x k
  · rw [List.mem_singleton] at k
    subst k
    exact hv
/-- a drawn net -/
def NetV (most : Nat) (v : Val) : Prop := ∃ (ni nt : Int) (ps nds ls : List Val), v = .lst [.int ni, .int nt, .lst ps, .lst nds, .lst ls] ∧ (1 ≤ ni ∧ ni ≤ 3) ∧ (1 ≤ nt ∧ nt ≤ 2) ∧ (1 ≤ ps.length ∧ ps.length ≤ 3) ∧ (∀ p ∈ ps, Par p) ∧ nds.length = ls.length ∧ (1 ≤ nds.length ∧ nds.length ≤ most + 2) ∧ (∀ l ∈ ls, Len l) ∧ Nodes ps.length nds
theorem par_below {b : Nat} {v : Val} (h : Par v) : below b v = true := by
  obtain ⟨m, n, f, rfl, _, _, _, _, h⟩ := h
  rcases h with ⟨i, _, _, rfl⟩ | ⟨i, _, _, rfl⟩ <;> rfl
theorem len_below {b : Nat} {v : Val} (h : Len v) : below b v = true := by
  obtain ⟨i, rfl, _⟩ := h
  rfl
theorem node_below {b np nl : Nat} {v : Val} (h : Node np nl v) : below b v = true := by
  cases h <;> rfl
theorem nodes_below {b np : Nat} {nds : List Val} (h : Nodes np nds) : ∀ v ∈ nds, below b v = true := fun v hv => by
  obtain ⟨i, hi, e⟩ := List.mem_iff_getElem.mp hv
  exact node_below (h i v (by rw [List.getElem?_eq_getElem hi, e]))
theorem net_leave {r : List Int} {a ni nt : Int} {ps nds ls : List Val} (hp : ∀ p ∈ ps, Par p) (hl : ∀ l ∈ ls, Len l) (hn : Nodes ps.length nds) : leave (st5 r a ni nt ps nds ls) 1 (.ref 4) = some (.lst [.int ni, .int nt, .lst ps, .lst nds, .lst ls], [bx r a]) := by
  have f1 : seqOpt (ps.map (frz (st5 r a ni nt ps nds ls) 1 4)) = some ps := seq_all fun v hv => frz_below 4 v (par_below (hp v hv))
  have f2 : seqOpt (nds.map (frz (st5 r a ni nt ps nds ls) 1 4)) = some nds := seq_all fun v hv => frz_below 4 v (nodes_below hn v hv)
  have f3 : seqOpt (ls.map (frz (st5 r a ni nt ps nds ls) 1 4)) = some ls := seq_all fun v hv => frz_below 4 v (len_below (hl v hv))
  have g1 : frz (st5 r a ni nt ps nds ls) 1 5 (.ref 1) = some (.lst ps) := by
    show (seqOpt (ps.map (frz (st5 r a ni nt ps nds ls) 1 4))).map Val.lst = _
    rw [f1]
    rfl
  have g2 : frz (st5 r a ni nt ps nds ls) 1 5 (.ref 2) = some (.lst nds) := by
    show (seqOpt (nds.map (frz (st5 r a ni nt ps nds ls) 1 4))).map Val.lst = _
    rw [f2]
    rfl
  have g3 : frz (st5 r a ni nt ps nds ls) 1 5 (.ref 3) = some (.lst ls) := by
    show (seqOpt (ls.map (frz (st5 r a ni nt ps nds ls) 1 4))).map Val.lst = _
    rw [f3]
    rfl
  have g : frz (st5 r a ni nt ps nds ls) 1 6 (.ref 4) = some (.lst [.int ni, .int nt, .lst ps, .lst nds, .lst ls]) := by
    show (seqOpt [frz (st5 r a ni nt ps nds ls) 1 5 (.int ni), frz (st5 r a ni nt ps nds ls) 1 5 (.int nt), frz (st5 r a ni nt ps nds ls) 1 5 (.ref 1), frz (st5 r a ni nt ps nds ls) 1 5 (.ref 2), frz (st5 r a ni nt ps nds ls) 1 5 (.ref 3)]).map Val.lst = _
    rw [g1, g2, g3, frz_below 5 (.int ni) rfl, frz_below 5 (.int nt) rfl]
    rfl
  unfold leave
  rw [g]
  dsimp only
  rw [if_pos]
  · rfl
  · refine ⟨by simp [st5], ?_⟩
    have e : (st5 r a ni nt ps nds ls).take 1 = [bx r a] := rfl
    rw [e]
    have : belows 1 (r.map Val.int) = true := belows_iff.mpr fun v hv => by
      obtain ⟨i, _, rfl⟩ := List.mem_map.mp hv
      rfl
    simp [belowC, bx, belows, below, this]
theorem OK_last {vs : List Val} {P : Val → Prop} (h : 1 ≤ vs.length) (q : ∀ x ∈ vs, P x) : OK (L2.atI vs (-1)) P := by
  have hne : vs ≠ [] := fun e => by
    subst e
    simp at h
  have e := List.dropLast_concat_getLast hne
  refine ⟨vs.getLast hne, ?_, q _ (List.getLast_mem hne)⟩
  have := at_last (vs := vs.dropLast) (x := vs.getLast hne)
  rw [e] at this
  exact this
theorem ws_rngE {R : Run} {env : Env'} {S : Sto} {QS : Flow' → Env' → Sto → Prop} {i : Nat} {e : ME} {b : MS} (P : Int → Sto → Prop) (h : WE R e env S fun v S1 => ∃ n, v = .int n ∧ P n S1)
    (kk : ∀ n S1, P n S1 → (-(2 ^ 62) ≤ n ∧ n < 2 ^ 62) ∧ ∃ Inv : Nat → Env' → Sto → Prop, Inv 0 env S1 ∧ (∀ j env S, j < n.toNat → Inv j env S → i < env.length ∧ WS R b (env.set i (some (.int j))) S (turnS none QS (Inv (j + 1)))) ∧ ∀ env S, Inv n.toNat env S → QS .nx env S) :
    WS R (.loop (.nm i) (.rng (.econs e .enil)) b) env S QS := by
  obtain ⟨v, S1, ev, n, rfl, p⟩ := h
  obtain ⟨hn, Inv, h0, hs, hq⟩ := kk n S1 p
  exact ws_rng n Inv ⟨_, S1, ev, rfl, rfl⟩ hn h0 hs hq
section
variable {G : Prg} {k : Nat} {r : List Int} {a : Int} {Q : Val → Sto → Prop}
theorem net_ok (h : G.tab "" "_law_draw" = some d_law_draw) (h1 : G.tab "" "_law_wrap" = some d_law_wrap) (h2 : G.tab "" "_law_word" = some d_law_word) (h3 : G.tab "" "_law_fill" = some d_law_fill) (h4 : G.tab "" "_law_try" = some d_law_try) (h5 : G.tab "" "_law_length" = some d_law_length) (h6 : G.tab "" "_law_small_net" = some d_law_small_net)
    {most : Nat} (hm : most ≤ 20) (ha : 0 ≤ a) (q : ∀ v b, 0 ≤ b → NetV most v → Q v [bx r b]) : WC (G.at (k + 4)) "" "_law_small_net" [.ref 0, .int most] [bx r a] Q := by
  refine wc_runP h6 rfl rfl ?_
  have lb := line_big
  have l1 : 1 ≤ sizeLine := by omega
  have l2 : 2 ≤ sizeLine := by omega
  have l3 : 3 ≤ sizeLine := by omega
  have l5 : 5 ≤ sizeLine := by omega
  simp [d_law_small_net, b_law_small_net, l1, l2, l3, l5]
  refine draw_ok h ha (by omega) fun ni n0 n1 => ?_
  simp [l5]
  refine draw_ok h (by omega) (by omega) fun nt t0 t1 => ?_
  simp [l5]
  generalize hs : (2 + if (3 : Int) < most then 1 else 0 : Int) = side
  have s0 : 2 ≤ side ∧ side ≤ 3 := by
    rw [← hs]
    split <;> omega
  refine ws_rngE (fun n S1 => ∃ b, 0 ≤ b ∧ 1 ≤ n ∧ n ≤ 3 ∧ S1 = st5 r b (1 + ni) (1 + nt) [] [] []) ?_ fun n S1 ⟨b, hb, hn0, hn1, e⟩ => ⟨by omega, fun j env S => ∃ (ps : List Val) (b : Int) (x : Option Val), 0 ≤ b ∧ ps.length = j ∧ (∀ p ∈ ps, Par p) ∧ env = [some (.ref 0), some (.int most), some (.int side), some (.ref 4), x, none, none, none, none] ∧ S = st5 r b (1 + ni) (1 + nt) ps [] [], ⟨[], b, none, hb, rfl, fun p hp => (by cases hp), rfl, e⟩, ?_, ?_⟩
  · simp
    refine draw_ok h (by omega) (by omega) fun c c0 c1 => ?_
    simp
    exact ⟨a + 1 + 1 + 1, by omega, by omega, by omega, rfl⟩
  · rintro j env S hj ⟨ps, b, x, hb, hl, hp, rfl, rfl⟩
    simp [st5]
    refine draw_ok h hb (by omega) fun c c0 c1 => ?_
    simp
    refine draw_ok h (by omega) (by omega) fun d d0 d1 => ?_
    simp
    refine fill_ok h h1 h2 h3 (by omega) fun v b' hb' hv => ?_
    simp [l3]
    refine ⟨by omega, ps ++ [.tup [.int (1 + c), .int (1 + d), v]], b', hb', by simp; omega, all_snoc hp ⟨1 + c, 1 + d, v, rfl, by omega, by omega, by omega, by omega, hv⟩, rfl, rfl⟩
  · rintro env S ⟨ps, b, x, hb, hl, hp, rfl, rfl⟩
    simp [st5, l1]
    refine ⟨by omega, ?_⟩
    refine ws_rngE (fun n S1 => ∃ b, 0 ≤ b ∧ 0 ≤ n ∧ n ≤ most ∧ S1 = st5 r b (1 + ni) (1 + nt) ps [.tup [.str "input"]] [.int (1 + ni)]) ?_ fun n S1 ⟨b, hb, hn0, hn1, e⟩ => ⟨by omega, fun j env S => ∃ (nds ls : List Val) (b : Int) (x4 x5 x6 x7 x8 : Option Val), 0 ≤ b ∧ nds.length = ls.length ∧ 1 ≤ nds.length ∧ nds.length ≤ 1 + j ∧ (∀ l ∈ ls, Len l) ∧ Nodes ps.length nds ∧ env = [some (.ref 0), some (.int most), some (.int side), some (.ref 4), x4, x5, x6, x7, x8] ∧ S = st5 r b (1 + ni) (1 + nt) ps nds ls,
      ⟨[.tup [.str "input"]], [.int (1 + ni)], b, x, none, none, none, none, hb, rfl, by simp, by simp, fun l hl => ?_, fun i v ev => ?_, rfl, e⟩, ?_, ?_⟩
    · simp
      refine draw_ok h (by omega) (by omega) fun c c0 c1 => ?_
      simp
      exact ⟨b + 1, by omega, by omega, by omega, rfl⟩
    · rw [List.mem_singleton] at hl
      subst hl
      exact ⟨1 + ni, rfl, by omega, by omega⟩
    · cases i with
      | zero =>
        cases ev
        exact .input
      | succ i => simp at ev
    · rintro j env S hj ⟨nds, ls, b, x4, x5, x6, x7, x8, hb, he, h0, hle, hl, hn, rfl, rfl⟩
      have hj : j < 20 := by omega
      simp
      refine ws_rng 3 (S1 := st5 r b (1 + ni) (1 + nt) ps nds ls) (fun j' env S => ∃ (nds ls : List Val) (b : Int) (dn : Bool) (x6 x7 x8 : Option Val), 0 ≤ b ∧ nds.length = ls.length ∧ 1 ≤ nds.length ∧ nds.length ≤ 1 + j + (if dn = true then 1 else 0) ∧ (∀ l ∈ ls, Len l) ∧ Nodes ps.length nds ∧ env = [some (.ref 0), some (.int most), some (.int side), some (.ref 4), some (.int j), some (.bl dn), x6, x7, x8] ∧ S = st5 r b (1 + ni) (1 + nt) ps nds ls) (by simp) (by omega) ⟨nds, ls, b, false, x6, x7, x8, hb, he, h0, by simpa using hle, hl, hn, rfl, rfl⟩ ?_ ?_
      · rintro j' env S hj' ⟨nds, ls, b, dn, x6, x7, x8, hb, he, h0, hle, hl, hn, rfl, rfl⟩
        have hle' : nds.length ≤ 2 + j := by
          split at hle <;> omega
        simp
        refine try_ok h h1 h2 h4 hb (by omega) (by omega) h0 he hl (by omega) fun v b' hb' hv => ?_
        try simp
        refine length_ok h5 he hl hp hv fun n => ?_
        try simp
        cases dn with
        | true =>
          simp
          exact ⟨nds, ls, b', hb', he, h0, by simpa using hle, hl, hn, rfl⟩
        | false =>
          have hle : nds.length ≤ 1 + j := by simpa using hle
          simp
          split
          · rename_i c
            simp [st5]
            split
            · exact ⟨by omega, by omega, nds ++ [v], ls ++ [.int n], b', hb', by simp [he], by simp, by simp; omega, all_snoc hl ⟨n, rfl, by omega, by omega⟩, hn.snoc hv, rfl, rfl, rfl⟩
            · exact ⟨nds, ls, b', hb', he, h0, hle, hl, hn, rfl, rfl, rfl⟩
          · exact ⟨nds, ls, b', hb', he, h0, hle, hl, hn, rfl⟩
      · rintro env S ⟨nds, ls, b, dn, x6, x7, x8, hb, he, h0, hle, hl, hn, rfl, rfl⟩
        simp only [then_nx, ws_nil, turn_nx, stays_none, true_and]
        exact ⟨nds, ls, b, hb, he, h0, by split at hle <;> omega, hl, hn, ⟨_, _, _, _, _, rfl⟩, rfl⟩
    · rintro env S ⟨nds, ls, b, x4, x5, x6, x7, x8, hb, he, h0, hle, hl, hn, rfl, rfl⟩
      simp [st5]
      refine OK_last (by omega) fun x hx => ?_
      obtain ⟨m, rfl, m0, m1⟩ := hl x hx
      simp
      split
      · have e := net_leave (r := r) (a := b) (ni := 1 + ni) (nt := 1 + nt) hp hl hn
        exact ⟨_, e, q _ b hb ⟨1 + ni, 1 + nt, ps, nds, ls, rfl, by omega, by omega, by omega, hp, he, by omega, hl, hn⟩⟩
      · have hl' : ∀ l ∈ ls ++ [Val.int 1], Len l := all_snoc hl ⟨1, rfl, by omega, by omega⟩
        have hn' : Nodes ps.length (nds ++ [Val.tup [Val.str "sum", Val.int (nds.length - 1)]]) := hn.snoc (by
          have e : ((nds.length : Int) - 1) = ((nds.length - 1 : Nat) : Int) := by omega
          rw [e]
          exact .one "sum" (by decide) _ (by omega))
        have e := net_leave (r := r) (a := b) (ni := 1 + ni) (nt := 1 + nt) hp hl' hn'
        exact ⟨l2, by omega, by omega, _, e, q _ b hb ⟨1 + ni, 1 + nt, ps, _, _, rfl, by omega, by omega, by omega, hp, by simp [he], by simp; omega, hl', hn'⟩⟩
end
end
end Mi

namespace Mi
open PySem
open Classical
noncomputable section
def Word (v : Val) : Prop := ∃ i, v = .int i ∧ -2147483648 ≤ i ∧ i < 2147483648
def Rate (v : Val) : Prop := ∃ i w, v = .tup [.int i, .int w] ∧ 0 ≤ i ∧ i < 3 ∧ -2147483648 ≤ w ∧ w < 2147483648
def Datum (ni nt : Int) (v : Val) : Prop := ∃ xs ts, v = .tup [.lst xs, .lst ts] ∧ (xs.length : Int) = ni ∧ (ts.length : Int) = nt ∧ (∀ x ∈ xs, Word x) ∧ ∀ x ∈ ts, Word x
/-- a drawn job -/
def JobV (most : Nat) (v : Val) : Prop := ∃ (ni nt : Int) (ps nds ls : List Val) (w1 s w2 d : Int) (rates data : List Val), v = .lst [.lst [.int ni, .int nt, .lst ps, .lst nds, .lst ls], .int w1, .int s, .int w2, .int d, .lst rates, .lst data] ∧ (1 ≤ ni ∧ ni ≤ 3) ∧ (1 ≤ nt ∧ nt ≤ 2) ∧ (1 ≤ ps.length ∧ ps.length ≤ 3) ∧ (∀ p ∈ ps, Par p) ∧ nds.length = ls.length ∧ (1 ≤ nds.length ∧ nds.length ≤ most + 2) ∧ (∀ l ∈ ls, Len l) ∧ Nodes ps.length nds ∧
  (-2147483648 ≤ w1 ∧ w1 < 2147483648) ∧ (1 ≤ s ∧ s ≤ 3) ∧ (-2147483648 ≤ w2 ∧ w2 < 2147483648) ∧ (0 ≤ d ∧ d < 32) ∧ (rates.length ≤ 2 ∧ ∀ x ∈ rates, Rate x) ∧ (1 ≤ data.length ∧ data.length ≤ 4) ∧ ∀ x ∈ data, Datum ni nt x
theorem bx_below {b : Nat} {r : List Int} {a : Int} : belowC b (bx r a) = true := by
  have : belows b (r.map Val.int) = true := belows_iff.mpr fun v hv => by
    obtain ⟨i, _, rfl⟩ := List.mem_map.mp hv
    rfl
  simp [belowC, bx, belows, below, this]
theorem word_below {b : Nat} {v : Val} (h : Word v) : below b v = true := by
  obtain ⟨i, rfl, _⟩ := h
  rfl
theorem rate_below {b : Nat} {v : Val} (h : Rate v) : below b v = true := by
  obtain ⟨i, w, rfl, _⟩ := h
  rfl
theorem datum_below {b : Nat} {ni nt : Int} {v : Val} (h : Datum ni nt v) : below b v = true := by
  obtain ⟨xs, ts, rfl, _, _, h1, h2⟩ := h
  have e1 : belows b xs = true := belows_iff.mpr fun v hv => word_below (h1 v hv)
  have e2 : belows b ts = true := belows_iff.mpr fun v hv => word_below (h2 v hv)
  show (belows b xs && (belows b ts && true)) = true
  rw [e1, e2]
  rfl
theorem leave_to {S T : Sto} {b : Nat} {v v' : Val} (hf : frz (S ++ T) b 6 v = some v') (hb : S.length = b) (hS : ∀ c ∈ S, belowC b c = true) : leave (S ++ T) b v = some (v', S) := by
  unfold leave
  rw [hf]
  dsimp only
  have e : (S ++ T).take b = S := by rw [← hb, List.take_left']; rfl
  rw [e, if_pos ⟨by rw [List.length_append]; omega, List.all_eq_true.mpr hS⟩]
theorem frz_ref {S : Sto} {b k n : Nat} {vs : List Val} (hn : b ≤ n) (h : S[n]? = some (.lst vs)) (hv : ∀ v ∈ vs, below b v = true) : frz S b (k + 1) (.ref n) = some (.lst vs) := by
  show (if n < b then some (Val.ref n) else match S[n]? with
      | some (.lst vs) => (seqOpt (vs.map (frz S b k))).map .lst
      | some (.ins c fs) => (seqOpt (fs.map fun q => (frz S b k q.2).map fun v => (q.1, v))).map (.ins c)
      | _ => none) = _
  rw [if_neg (by omega), h]
  dsimp only
  rw [seq_all fun v hv' => frz_below k v (hv v hv')]
  rfl
theorem frz_lst {S : Sto} {b k : Nat} {vs ws : List Val} (h : seqOpt (vs.map (frz S b k)) = some ws) : frz S b (k + 1) (.lst vs) = some (.lst ws) := by
  show (seqOpt (vs.map (frz S b k))).map Val.lst = _
  rw [h]
  rfl
theorem net_below {b : Nat} {ni nt : Int} {ps nds ls : List Val} (hp : ∀ p ∈ ps, Par p) (hl : ∀ l ∈ ls, Len l) (hn : Nodes ps.length nds) : below b (.lst [.int ni, .int nt, .lst ps, .lst nds, .lst ls]) = true := by
  have e1 : belows b ps = true := belows_iff.mpr fun v hv => par_below (hp v hv)
  have e2 : belows b nds = true := belows_iff.mpr fun v hv => nodes_below hn v hv
  have e3 : belows b ls = true := belows_iff.mpr fun v hv => len_below (hl v hv)
  simp [below, belows, e1, e2, e3]
section
variable {G : Prg} {k : Nat} {r : List Int} {a : Int} {T : Sto} {Q : Val → Sto → Prop}
/-- [_law_word(box) for j in range(n)] -/
theorem words_ok (h : G.tab "" "_law_draw" = some d_law_draw) (h1 : G.tab "" "_law_wrap" = some d_law_wrap) (h2 : G.tab "" "_law_word" = some d_law_word) {own : List (Str × Nat)} {i : Nat} {e : ME} {env : Env'} {n : Int} (ha : 0 ≤ a) (hn : 0 ≤ n ∧ n ≤ 100)
    (hr : WE (G.at (k + 2)) e env (bx r a :: T) fun v S' => S' = bx r a :: T ∧ v = .int n) (he : env[0]? = some (some (.ref 0))) (hi : i < env.length) (h0 : i ≠ 0) (ho : own.map (·.2) = [i])
    (q : ∀ vs b, 0 ≤ b → (vs.length : Int) = n → (∀ x ∈ vs, Word x) → Q (.lst vs) (bx r b :: T)) : WE (G.at (k + 2)) (.comp false own (.nm i) (.rng (.econs e .enil)) (.bl true) (.call "_law_word" (.econs (.var 0) .enil))) env (bx r a :: T) Q := by
  refine we_comp (vs := rngL 0 n.toNat) (src := none) (S1 := bx r a :: T) (fun j acc S => ∃ b, 0 ≤ b ∧ acc.length = j ∧ (∀ x ∈ acc, Word x) ∧ S = bx r b :: T) ?_ ⟨a, ha, rfl, fun x hx => (by cases hx), rfl⟩ ?_ ?_
  · rw [we_rng1]
    refine hr.imp fun v S' ⟨e1, e2⟩ => ?_
    subst e1
    subst e2
    exact ⟨by omega, rfl, rfl⟩
  · rintro j v acc S hv ⟨b, hb, hl, hw, rfl⟩
    have hj := (rng_at _ _ _ _ hv).1
    rw [ho]
    have lb := line_big
    have g0 : ((wipeE env [i]).set i (some v))[0]? = some (some (.ref 0)) := by
      show ((env.set i none).set i (some v))[0]? = _
      rw [List.set_set, List.getElem?_set_ne h0]
      exact he
    have gl : i < (wipeE env [i]).length := by
      show i < (env.set i none).length
      rw [List.length_set]
      exact hi
    simp only [bindT_nm, OK_if, OK_some, we_bl, tru_bl, if_true, we_call, wa_cons, wa_nil, we_var, g0]
    refine ⟨gl, word_ok h h1 h2 hb fun m b' hb' m0 m1 => ⟨trivial, by omega, b', hb', by simp [hl], all_snoc hw ⟨m, rfl, m0, m1⟩, rfl⟩⟩
  · rintro acc S ⟨b, hb, hl, hw, rfl⟩
    rw [if_neg Bool.false_ne_true]
    exact q acc b hb (by rw [hl, rng_len]; omega) hw
theorem job_ok (h : G.tab "" "_law_draw" = some d_law_draw) (h1 : G.tab "" "_law_wrap" = some d_law_wrap) (h2 : G.tab "" "_law_word" = some d_law_word) (h3 : G.tab "" "_law_fill" = some d_law_fill) (h4 : G.tab "" "_law_try" = some d_law_try) (h5 : G.tab "" "_law_length" = some d_law_length) (h6 : G.tab "" "_law_small_net" = some d_law_small_net) (h7 : G.tab "" "_law_job" = some d_law_job)
    {most : Nat} (hm : most ≤ 20) (ha : 0 ≤ a) (q : ∀ v b, 0 ≤ b → JobV most v → Q v [bx r b]) : WC (G.at (k + 5)) "" "_law_job" [.ref 0, .int most] [bx r a] Q := by
  refine wc_runP h7 rfl rfl ?_
  have lb := line_big
  have l0 : 0 ≤ sizeLine := by omega
  have l2 : 2 ≤ sizeLine := by omega
  have l7 : 7 ≤ sizeLine := by omega
  simp [d_law_job, b_law_job, l2]
  refine net_ok h h1 h2 h3 h4 h5 h6 hm ha fun net b hb hnet => ?_
  obtain ⟨ni, nt, ps, nds, ls, rfl, hni, hnt, hpl, hp, he, hnl, hl, hn⟩ := hnet
  simp [l2]
  refine ws_rngE (fun n S1 => ∃ b, 0 ≤ b ∧ 1 ≤ n ∧ n ≤ 4 ∧ S1 = [bx r b, .lst []]) ?_ fun n S1 ⟨b, hb, hn0, hn1, e⟩ => ⟨by omega, fun j env S => ∃ (data : List Val) (b : Int) (x y : Option Val), 0 ≤ b ∧ data.length = j ∧ (∀ p ∈ data, Datum ni nt p) ∧ env = [some (.ref 0), some (.int most), some (.lst [.int ni, .int nt, .lst ps, .lst nds, .lst ls]), some (.ref 1), x, none, y, none] ∧ S = [bx r b, .lst data], ⟨[], b, none, none, hb, rfl, fun p hp => (by cases hp), rfl, e⟩, ?_, ?_⟩
  · simp
    refine draw_ok h hb (by omega) fun c c0 c1 => ?_
    simp
    exact ⟨b + 1, by omega, by omega, by omega, rfl⟩
  · rintro j env S hj ⟨data, b, x, y, hb, hdl, hd, rfl, rfl⟩
    simp
    refine words_ok (n := ni) h h1 h2 hb (by omega) (by simp) rfl (by simp) (by omega) rfl fun xs b' hb' hx hxw => ?_
    simp [l2]
    refine words_ok (n := nt) h h1 h2 hb' (by omega) (by simp) rfl (by simp) (by omega) rfl fun ts b2 hb2 ht htw => ?_
    simp [l2]
    exact ⟨by omega, data ++ [.tup [.lst xs, .lst ts]], b2, hb2, by simp [hdl], all_snoc hd ⟨xs, ts, rfl, hx, ht, hxw, htw⟩, rfl, rfl⟩
  · rintro env S ⟨data, b, x, y, hb, hdl, hd, rfl, rfl⟩
    simp [l2]
    refine ws_rngE (fun n S1 => ∃ b, 0 ≤ b ∧ 0 ≤ n ∧ n ≤ 2 ∧ S1 = [bx r b, .lst data, .lst []]) ?_ fun n S1 ⟨b, hb, hn0, hn1, e⟩ => ⟨by omega, fun j env S => ∃ (rates : List Val) (b : Int) (x : Option Val), 0 ≤ b ∧ rates.length = j ∧ (∀ p ∈ rates, Rate p) ∧ env = [some (.ref 0), some (.int most), some (.lst [.int ni, .int nt, .lst ps, .lst nds, .lst ls]), some (.ref 1), x, some (.ref 2), y, none] ∧ S = [bx r b, .lst data, .lst rates], ⟨[], b, x, hb, rfl, fun p hp => (by cases hp), rfl, e⟩, ?_, ?_⟩
    · simp
      refine draw_ok h hb (by omega) fun c c0 c1 => ?_
      simp
      exact ⟨b + 1, by omega, by omega, by omega, rfl⟩
    · rintro j env S hj ⟨rates, b, x, hb, hrl, hr, rfl, rfl⟩
      simp [l2]
      refine draw_ok h hb (by omega) fun c c0 c1 => ?_
      refine word_ok h h1 h2 (by omega) fun w b' hb' w0 w1 => ?_
      simp [l2]
      exact ⟨by omega, rates ++ [.tup [.int c, .int w]], b', hb', by simp [hrl], all_snoc hr ⟨c, w, rfl, c0, c1, w0, w1⟩, rfl, rfl⟩
    · rintro env S ⟨rates, b, x, hb, hrl, hr, rfl, rfl⟩
      simp [l7]
      refine word_ok h h1 h2 hb fun w1 b1 hb1 w10 w11 => ?_
      refine draw_ok h hb1 (by omega) fun s s0 s1 => ?_
      simp [l7]
      refine word_ok h h1 h2 (by omega) fun w2 b2 hb2 w20 w21 => ?_
      refine draw_ok h hb2 (by omega) fun d d0 d1 => ?_
      have f : frz ([bx r (b2 + 1)] ++ [Cell.lst data, Cell.lst rates]) 1 6 (.lst [.lst [.int ni, .int nt, .lst ps, .lst nds, .lst ls], .int w1, .int (1 + s), .int w2, .int d, .ref 2, .ref 1]) = some (.lst [.lst [.int ni, .int nt, .lst ps, .lst nds, .lst ls], .int w1, .int (1 + s), .int w2, .int d, .lst rates, .lst data]) := by
        refine frz_lst ?_
        simp only [List.map_cons, List.map_nil]
        rw [frz_below 5 _ (net_below hp hl hn), frz_below 5 (.int w1) rfl, frz_below 5 (.int (1 + s)) rfl, frz_below 5 (.int w2) rfl, frz_below 5 (.int d) rfl, frz_ref (vs := rates) (by omega) rfl fun v hv => rate_below (hr v hv), frz_ref (vs := data) (by omega) rfl fun v hv => datum_below (hd v hv)]
        rfl
      have e := leave_to f rfl fun c hc => by
        rw [List.mem_singleton] at hc
        subst hc
        exact bx_below
      exact ⟨_, e, q _ _ (by omega) ⟨ni, nt, ps, nds, ls, w1, 1 + s, w2, d, rates, data, rfl, hni, hnt, hpl, hp, he, hnl, hl, hn, ⟨w10, w11⟩, by omega, ⟨w20, w21⟩, ⟨d0, d1⟩, ⟨by omega, hr⟩, by omega, hd⟩⟩
end
end
end Mi

namespace Mi
open PySem
open Classical
noncomputable section
def b_law_same : MS := .cons (.ifs (.isi (.var 1) .bool) (.cons (.ret (.and (.isi (.var 0) .bool) (.cmp .eq (.var 0) (.var 1)))) .nil) (.nil)) (.cons (.ifs (.isi (.var 1) .int) (.cons (.ret (.and (.call "_law_is_integer" (.econs (.var 0) .enil)) (.cmp .eq (.var 0) (.var 1)))) .nil) (.nil)) (.cons (.ifs (.isi (.var 1) .str) (.cons (.ret (.and (.isi (.var 0) .str) (.cmp .eq (.var 0) (.var 1)))) .nil) (.nil)) (.cons (.ifs (.cmp .is_ (.var 1) (.non)) (.cons (.ret (.cmp .is_ (.var 0) (.non))) .nil) (.nil)) (.cons (.ifs (.and (.isi (.var 1) .tuple) (.not (.isi (.var 0) .tuple))) (.cons (.ret (.bl false)) .nil) (.nil)) (.cons (.ifs (.and (.isi (.var 1) .list) (.not (.isi (.var 0) .list))) (.cons (.ret (.bl false)) .nil) (.nil)) (.cons (.ifs (.cmp .ne (.bi .len (.econs (.var 0) .enil)) (.bi .len (.econs (.var 1) .enil))) (.cons (.ret (.bl false)) .nil) (.nil)) (.cons (.loop (.nm 2) (.rng (.econs (.bi .len (.econs (.var 1) .enil)) .enil)) (.cons (.ifs (.not (.call "_law_same" (.econs (.ix (.var 0) (.var 2)) (.econs (.ix (.var 1) (.var 2)) .enil)))) (.cons (.ret (.bl false)) .nil) (.nil)) .nil)) (.cons (.ret (.bl true)) .nil))))))))
def d_law_same : Def := ⟨2, 3, b_law_same, false⟩
def b_law_is_integer : MS := .cons (.ret (.and (.isi (.var 0) .int) (.not (.isi (.var 0) .bool)))) .nil
def d_law_is_integer : Def := ⟨1, 1, b_law_is_integer, false⟩
def b_law_cells : MS := .cons (.set 1 (.lst true (.enil))) (.cons (.loop (.nm 2) (.rng (.econs (.bi .len (.econs (.ix (.ix (.var 0) (.int 0)) (.int 2)) .enil)) .enil)) (.cons (.loop (.nm 3) (.rng (.econs (.ix (.ix (.ix (.ix (.var 0) (.int 0)) (.int 2)) (.var 2)) (.int 0)) .enil)) (.cons (.loop (.nm 4) (.rng (.econs (.ix (.ix (.ix (.ix (.var 0) (.int 0)) (.int 2)) (.var 2)) (.int 1)) .enil)) (.cons (.ex (.bm .append (.var 1) (.econs (.tup (.econs (.var 2) (.econs (.var 3) (.econs (.var 4) .enil)))) .enil))) .nil)) .nil)) .nil)) (.cons (.ret (.var 1)) .nil))
def d_law_cells : Def := ⟨1, 5, b_law_cells, true⟩
def b_law_pool : MS := .cons (.set 1 (.lst true (.enil))) (.cons (.loop (.nm 2) (.rng (.econs (.int 3) .enil)) (.cons (.loop (.nm 3) (.it (.sl (.call "_law_cells" (.econs (.var 0) .enil)) (.nul) (.int 4))) (.cons (.ex (.bm .append (.var 1) (.econs (.bin .add (.tup (.econs (.str "par") (.econs (.var 2) .enil))) (.var 3)) .enil))) (.cons (.ex (.bm .append (.var 1) (.econs (.bin .add (.tup (.econs (.str "mom") (.econs (.var 2) .enil))) (.var 3)) .enil))) .nil))) .nil)) (.cons (.ret (.var 1)) .nil))
def d_law_pool : Def := ⟨1, 4, b_law_pool, true⟩
def b_law_some : MS := .cons (.set 3 (.lst true (.enil))) (.cons (.loop (.nm 4) (.rng (.econs (.bin .add (.int 1) (.call "_law_draw" (.econs (.var 0) (.econs (.var 2) .enil)))) .enil)) (.cons (.set 5 (.ix (.var 1) (.call "_law_draw" (.econs (.var 0) (.econs (.bi .len (.econs (.var 1) .enil)) .enil))))) (.cons (.ifs (.cmp .nin (.var 5) (.var 3)) (.cons (.ex (.bm .append (.var 3) (.econs (.var 5) .enil))) .nil) (.nil)) .nil))) (.cons (.ret (.bi .tuple (.econs (.var 3) .enil))) .nil))
def d_law_some : Def := ⟨3, 6, b_law_some, true⟩
def b_law_act_gives : MS := .cons (.ifs (.cmp .eq (.ix (.var 0) (.int 0)) (.str "load")) (.cons (.ret (.bi .list (.econs (.ix (.var 0) (.int 1)) .enil))) .nil) (.nil)) (.cons (.ifs (.cmp .eq (.ix (.var 0) (.int 0)) (.str "make")) (.cons (.ret (.comp false [("_law_entry", 1)] (.nm 1) (.it (.ix (.var 0) (.int 1))) (.bl true) (.ix (.var 1) (.int 0)))) .nil) (.nil)) (.cons (.ifs (.cmp .eq (.ix (.var 0) (.int 0)) (.str "recv")) (.cons (.ret (.bi .list (.econs (.ix (.var 0) (.int 2)) .enil))) .nil) (.nil)) (.cons (.ret (.lst false (.enil))) .nil)))
def d_law_act_gives : Def := ⟨1, 2, b_law_act_gives, false⟩
/-! ### names: tuples of ints and texts -/
def k1 : Sum Int String → Val
  | .inl i => .int i
  | .inr s => .str s
def k2 : Sum Int String → PyData
  | .inl i => .int i
  | .inr s => .str (Str.ofString s)
theorem str_ok (s : String) : PyData.strOk (Str.ofString s) = true := by
  rw [Str.ofString_eq_toList]
  unfold PyData.strOk
  simp
  intro c _
  have := c.valid
  simp [UInt32.isValidChar, Nat.isValidChar] at this
  show c.toNat < 1114112
  omega
def kyV (ks : List (Sum Int String)) : Val := .tup (ks.map k1)
theorem ky_keys : ∀ ks : List (Sum Int String), keysK (ks.map k1) = some ks
  | [] => rfl
  | k :: ks => by
    rw [List.map_cons]
    show (match keyK (k1 k), keysK (ks.map k1) with
      | some k, some ks => some (k :: ks)
      | _, _ => none) = _
    rw [ky_keys ks]
    cases k <;> rfl
@[simp] theorem ky_key {ks : List (Sum Int String)} : keyT (kyV ks) = some ks := ky_keys ks
theorem ky_toDs : ∀ ks : List (Sum Int String), toDs (ks.map k1) = some (ks.map k2)
  | [] => rfl
  | k :: ks => by
    rw [List.map_cons]
    show (match toD (k1 k), toDs (ks.map k1) with
      | some d, some ds => some (d :: ds)
      | _, _ => none) = _
    rw [ky_toDs ks]
    cases k <;> rfl
theorem ky_toD {ks : List (Sum Int String)} : toD (kyV ks) = some (.tuple (ks.map k2)) := by
  show (toDs (ks.map k1)).map PyData.tuple = _
  rw [ky_toDs]
  rfl
theorem ky_eqvs : ∀ ks js : List (Sum Int String), PyData.eqvAll (ks.map k2) (js.map k2) = decide (ks = js)
  | [], [] => by simp [PyData.eqvAll]
  | [], _ :: _ => by simp [PyData.eqvAll]
  | _ :: _, [] => by simp [PyData.eqvAll]
  | k :: ks, j :: js => by
    rw [List.map_cons, List.map_cons, PyData.eqvAll, ky_eqvs ks js]
    have e : PyData.eqv (k2 k) (k2 j) = decide (k = j) := by
      cases k <;> cases j <;> simp [k2, PyData.eqv]
      · exact Bool.eq_iff_iff.mpr (by simp)
      · exact Bool.eq_iff_iff.mpr (by simp [ofString_inj])
    rw [e]
    simp [List.cons.injEq]
theorem ky_lays : ∀ ks : List (Sum Int String), PyData.canLayAll0 (ks.map k2) = true
  | [] => by simp [PyData.canLayAll0]
  | k :: ks => by
    rw [List.map_cons, PyData.canLayAll0, ky_lays ks]
    cases k with
    | inl i => simp [k2, PyData.canLay0]
    | inr s => simp [k2, PyData.canLay0, str_ok]
theorem ky_depths : ∀ ks : List (Sum Int String), PyData.depthAll (ks.map k2) ≤ 1
  | [] => by simp [PyData.depthAll]
  | k :: ks => by
    have := ky_depths ks
    rw [List.map_cons, PyData.depthAll]
    have e : PyData.depth (k2 k) ≤ 1 := by cases k <;> simp [k2, PyData.depth]
    omega
theorem ky_shaped {ks : List (Sum Int String)} : SeqAt.shaped (.tuple (ks.map k2)) = true := by
  unfold SeqAt.shaped
  rw [PyData.canLay0, ky_lays, PyData.depth]
  have := ky_depths ks
  simp
  omega
theorem kys_lays : ∀ kss : List (List (Sum Int String)), PyData.canLayAll0 (kss.map fun ks => .tuple (ks.map k2)) = true
  | [] => by simp [PyData.canLayAll0]
  | ks :: kss => by
    rw [List.map_cons, PyData.canLayAll0, kys_lays kss, PyData.canLay0, ky_lays]
    rfl
theorem kys_depths : ∀ kss : List (List (Sum Int String)), PyData.depthAll (kss.map fun ks => .tuple (ks.map k2)) ≤ 2
  | [] => by simp [PyData.depthAll]
  | ks :: kss => by
    have := kys_depths kss
    have := ky_depths ks
    rw [List.map_cons, PyData.depthAll, PyData.depth]
    omega
theorem kys_toDs : ∀ kss : List (List (Sum Int String)), toDs (kss.map kyV) = some (kss.map fun ks => .tuple (ks.map k2))
  | [] => rfl
  | ks :: kss => by
    rw [List.map_cons]
    show (match toD (kyV ks), toDs (kss.map kyV) with
      | some d, some ds => some (d :: ds)
      | _, _ => none) = _
    rw [kys_toDs kss, ky_toD]
    rfl
/-- a name among names -/
theorem mem_names {ks : List (Sum Int String)} {kss : List (List (Sum Int String))} : memL (kyV ks) (kss.map kyV) = some (decide (ks ∈ kss)) := by
  unfold memL
  rw [if_neg (fun h => nomatch h.1), ky_toD, kys_toDs]
  dsimp only
  have sh : SeqAt.shaped (.list (kss.map fun ks => .tuple (ks.map k2))) = true := by
    unfold SeqAt.shaped
    rw [PyData.canLay0, kys_lays, PyData.depth]
    have := kys_depths kss
    simp
    omega
  rw [if_pos ⟨ky_shaped, sh⟩]
  congr 1
  induction kss with
  | nil => simp
  | cons js kss ih =>
    rw [List.map_cons, List.any_cons, ih (by
      unfold SeqAt.shaped
      rw [PyData.canLay0, kys_lays, PyData.depth]
      have := kys_depths kss
      simp
      omega), PyData.eqv, ky_eqvs, ← Bool.decide_or]
    refine decide_eq_decide.mpr ?_
    rw [List.mem_cons]
    constructor
    · rintro (h | h)
      · exact .inl h.symm
      · exact .inr h
    · rintro (h | h)
      · exact .inl h.symm
      · exact .inr h
theorem ky_inj {ks js : List (Sum Int String)} (h : kyV ks = kyV js) : ks = js := by
  have := congrArg keyT h
  simpa using this
theorem ky_below {b : Nat} {ks : List (Sum Int String)} : below b (kyV ks) = true := by
  show belows b (ks.map k1) = true
  exact belows_iff.mpr fun v hv => by
    obtain ⟨k, _, rfl⟩ := List.mem_map.mp hv
    cases k <;> rfl
/-! ### a store's last cell -/
@[simp] theorem get_last {S : Sto} {c : Cell} : (S ++ [c])[S.length]? = some c := by simp
@[simp] theorem set_last {S : Sto} {c c' : Cell} : (S ++ [c]).set S.length c' = S ++ [c'] := by simp
/-! ### two results compared -/
/-- v is a sequence of that type -/
structure Seq (S : Sto) (ty : Ty) (v : Val) (us : List Val) : Prop where
  ty : ∀ t, tyIs S t v = some (t == ty)
  len : lenV S v = some (us.length : Int)
  ix : ∀ i, ixV S v (.int i) = L2.atI us i
  no : cmp2 .is_ S v .non = some false
theorem seq_tupS {S : Sto} {us : List Val} : Seq S .tuple (.tup us) us := ⟨fun t => by cases t <;> rfl, rfl, fun _ => rfl, rfl⟩
theorem seq_lstS {S : Sto} {us : List Val} : Seq S .list (.lst us) us := ⟨fun t => by cases t <;> rfl, rfl, fun _ => rfl, rfl⟩
theorem seq_refS {S : Sto} {n : Nat} {us : List Val} (h : S[n]? = some (.lst us)) : Seq S .list (.ref n) us := ⟨fun t => by simp [isi_ref h], len_ref h, fun i => by
  show ixC S[n]? (.int i) = _
  rw [h]
  rfl, rfl⟩
/-- the same, as the law compares: how deep -/
inductive Eqv (S : Sto) : Nat → Val → Val → Prop
  | bl (n : Nat) (b : Bool) : Eqv S n (.bl b) (.bl b)
  | int (n : Nat) (i : Int) : Eqv S n (.int i) (.int i)
  | str (n : Nat) (s : String) : Eqv S n (.str s) (.str s)
  | non (n : Nat) : Eqv S n .non .non
  | seq (n : Nat) (ty : Ty) (hty : ty = .tuple ∨ ty = .list) {a b : Val} {us vs : List Val} (ha : Seq S ty a us) (hb : Seq S ty b vs) (hl : us.length = vs.length) (hs : vs.length ≤ 1000000) (h : ∀ (i : Nat) u v, us[i]? = some u → vs[i]? = some v → Eqv S n u v) : Eqv S (n + 1) a b
section
variable {G : Prg} {r : List Int} {a : Int} {S T : Sto} {Q : Val → Sto → Prop}
theorem isint_ok {k : Nat} (h : G.tab "" "_law_is_integer" = some d_law_is_integer) {i : Int} (q : Q (.bl true) S) : WC (G.at (k + 1)) "" "_law_is_integer" [.int i] S Q := by
  refine wc_run h rfl rfl ?_
  simp [d_law_is_integer, b_law_is_integer]
  exact q
@[simp] theorem is_non : cmp2 .is_ S .non .non = some true := rfl
@[simp] theorem is_int {i : Int} : cmp2 .is_ S (.int i) .non = some false := rfl
theorem same_ok (h : G.tab "" "_law_is_integer" = some d_law_is_integer) (h1 : G.tab "" "_law_same" = some d_law_same) : ∀ {n k : Nat} {x y : Val} {Q : Val → Sto → Prop}, Eqv S n x y → Q (.bl true) S → WC (G.at (k + n + 2)) "" "_law_same" [x, y] S Q := by
  intro n
  induction n with
  | zero =>
    intro k x y Q e q
    refine wc_run h1 rfl rfl ?_
    cases e with
    | bl _ b =>
      simp [d_law_same, b_law_same]
      exact q
    | int _ i =>
      simp [d_law_same, b_law_same]
      exact isint_ok h (by simpa using q)
    | str _ s =>
      simp [d_law_same, b_law_same]
      exact q
    | non _ =>
      simp [d_law_same, b_law_same]
      exact q
  | succ n ih =>
    intro k x y Q e q
    refine wc_run h1 rfl rfl ?_
    cases e with
    | bl _ b =>
      simp [d_law_same, b_law_same]
      exact q
    | int _ i =>
      simp [d_law_same, b_law_same]
      exact isint_ok h (by simpa using q)
    | str _ s =>
      simp [d_law_same, b_law_same]
      exact q
    | non _ =>
      simp [d_law_same, b_law_same]
      exact q
    | @seq _ ty hty _ _ us vs ha hb hl hs hh =>
      have nb : (Ty.bool == ty) = false := by rcases hty with rfl | rfl <;> rfl
      have ni : (Ty.int == ty) = false := by rcases hty with rfl | rfl <;> rfl
      have ns : (Ty.str == ty) = false := by rcases hty with rfl | rfl <;> rfl
      rw [show k + (n + 1) + 1 = k + n + 2 by omega]
      simp [d_law_same, b_law_same, ha.ty, hb.ty, nb, ni, ns, hb.no, ha.len, hb.len, hl]
      have go : WS (G.at (k + n + 2)) (.cons (.loop (.nm 2) (.rng (.econs (.bi .len (.econs (.var 1) .enil)) .enil)) (.cons (.ifs (.not (.call "_law_same" (.econs (.ix (.var 0) (.var 2)) (.econs (.ix (.var 1) (.var 2)) .enil)))) (.cons (.ret (.bl false)) .nil) (.nil)) .nil)) (.cons (.ret (.bl true)) .nil)) [some x, some y, none] S fun fl env' S' => match fl with
          | .rt v => Q v S'
          | .nx => Q .non S'
          | _ => False := by
        simp only [ws_cons]
        refine ws_rng (vs.length : Int) (S1 := S) (fun j env S' => ∃ z, env = [some x, some y, z] ∧ S' = S) (by simp [hb.len]) (by omega) ⟨none, rfl, rfl⟩ ?_ ?_
        · rintro j env S' hj ⟨z, rfl, rfl⟩
          have hj : j < vs.length := by simpa using hj
          have e1 : L2.atI us (j : Int) = some us[j] := at_lit (List.getElem?_eq_getElem (by omega))
          have e2 : L2.atI vs (j : Int) = some vs[j] := at_lit (List.getElem?_eq_getElem hj)
          simp [ha.ix, hb.ix, e1, e2]
          exact ih (k := k) (hh j _ _ (List.getElem?_eq_getElem (by omega)) (List.getElem?_eq_getElem hj)) (by simp)
        · rintro env S' ⟨z, rfl, rfl⟩
          simp
          exact q
      simp only [ws_cons] at go
      rcases hty with rfl | rfl
      · simp
        exact go
      · simp
        exact go
end
end
end Mi

namespace Mi
open PySem
open Classical
noncomputable section
def Cel (v : Val) : Prop := ∃ p i j : Int, v = .tup [.int p, .int i, .int j] ∧ (0 ≤ p ∧ p < 3) ∧ (0 ≤ i ∧ i < 3) ∧ (0 ≤ j ∧ j < 3)
/-- no place of the store in the store -/
def Pu (S : Sto) : Prop := ∀ c ∈ S, ∀ b, belowC b c = true
theorem Pu.snoc {S : Sto} {vs : List Val} (h : Pu S) (hv : ∀ v ∈ vs, ∀ b, below b v = true) : Pu (S ++ [.lst vs]) := fun c hc b => by
  rcases List.mem_append.mp hc with k | k
  · exact h c k b
  · rw [List.mem_singleton] at k
    subst k
    exact belows_iff.mpr fun v hv' => hv v hv' b
theorem cel_below {v : Val} (h : Cel v) (b : Nat) : below b v = true := by
  obtain ⟨p, i, j, rfl, _⟩ := h
  rfl
section
variable {G : Prg} {k : Nat} {r : List Int} {a : Int} {S T : Sto} {Q : Val → Sto → Prop}
theorem cells_ok (h : G.tab "" "_law_cells" = some d_law_cells) {most : Nat} {v : Val} (hv : JobV most v) (hS : Pu S) (q : ∀ cs : List Val, 1 ≤ cs.length → cs.length ≤ 27 → (∀ c ∈ cs, Cel c) → Q (.lst cs) S) : WC (G.at (k + 1)) "" "_law_cells" [v] S Q := by
  refine wc_runP h rfl rfl ?_
  obtain ⟨ni, nt, ps, nds, ls, w1, s, w2, d, rates, data, rfl, hni, hnt, hpl, hp, _⟩ := hv
  have lb := line_big
  have l3 : 3 ≤ sizeLine := by omega
  simp [d_law_cells, b_law_cells]
  generalize hjb : Val.lst [.lst [.int ni, .int nt, .lst ps, .lst nds, .lst ls], .int w1, .int s, .int w2, .int d, .lst rates, .lst data] = jb
  refine ws_rng (ps.length : Int) (S1 := S ++ [.lst []]) (fun p env S' => ∃ (acc : List Val) (x y z : Option Val), p ≤ acc.length ∧ acc.length ≤ 9 * p ∧ (∀ c ∈ acc, Cel c) ∧ env = [some jb, some (.ref S.length), x, y, z] ∧ S' = S ++ [.lst acc]) (by subst hjb; simp) (by omega) ⟨[], none, none, none, by simp, by simp, fun c hc => (by cases hc), rfl, rfl⟩ ?_ ?_
  · rintro p env S' hp' ⟨acc, x, y, z, h0, h1, hc, rfl, rfl⟩
    have hp' : p < ps.length := by simpa using hp'
    obtain ⟨m, n, f, e, m0, m1, n0, n1, _⟩ := hp _ (List.getElem_mem hp')
    have ep : L2.atI ps (p : Int) = some (.tup [.int m, .int n, f]) := by rw [← e]; exact at_lit (List.getElem?_eq_getElem hp')
    simp only [List.set_cons_succ, List.set_cons_zero, List.length_cons, List.length_nil, ws_cons, ws_nil]
    refine ⟨by omega, ws_rng m (S1 := S ++ [.lst acc]) (fun i env S' => ∃ (acc : List Val) (y z : Option Val), p + i ≤ acc.length ∧ acc.length ≤ 9 * p + 3 * i ∧ (∀ c ∈ acc, Cel c) ∧ env = [some jb, some (.ref S.length), some (.int p), y, z] ∧ S' = S ++ [.lst acc]) (by subst hjb; simp [ep]) (by omega) ⟨acc, y, z, by omega, by omega, hc, rfl, rfl⟩ ?_ ?_⟩
    · rintro i env S' hi ⟨acc, y, z, h0, h1, hc, rfl, rfl⟩
      simp only [List.set_cons_succ, List.set_cons_zero, List.length_cons, List.length_nil, ws_cons, ws_nil]
      refine ⟨by omega, ws_rng n (S1 := S ++ [.lst acc]) (fun j env S' => ∃ (acc : List Val) (z : Option Val), p + i + j ≤ acc.length ∧ acc.length ≤ 9 * p + 3 * i + j ∧ (∀ c ∈ acc, Cel c) ∧ env = [some jb, some (.ref S.length), some (.int p), some (.int i), z] ∧ S' = S ++ [.lst acc]) (by subst hjb; simp [ep]) (by omega) ⟨acc, z, by omega, by omega, hc, rfl, rfl⟩ ?_ ?_⟩
      · rintro j env S' hj ⟨acc, z, h0, h1, hc, rfl, rfl⟩
        simp [l3]
        refine ⟨by omega, acc ++ [.tup [.int p, .int i, .int j]], by simp; omega, by simp; omega, all_snoc hc ⟨p, i, j, rfl, by omega, by omega, by omega⟩, rfl⟩
      · rintro env S' ⟨acc, z, h0, h1, hc, rfl, rfl⟩
        simp only [then_nx, ws_nil, turn_nx, stays_none, true_and]
        exact ⟨acc, _, _, by omega, by omega, hc, rfl, rfl⟩
    · rintro env S' ⟨acc, y, z, h0, h1, hc, rfl, rfl⟩
      simp only [then_nx, ws_nil, turn_nx, stays_none, true_and]
      exact ⟨acc, _, _, _, by omega, by omega, hc, rfl, rfl⟩
  · rintro env S' ⟨acc, x, y, z, h0, h1, hc, rfl, rfl⟩
    simp
    exact ⟨_, leave_lst (T := [.lst acc]) (Nat.le_refl _) get_last (fun v hv => cel_below (hc v hv) _) rfl fun c hc => hS c hc _, q acc (by omega) (by omega) hc⟩
/-- a name of the pool -/
def Nam (v : Val) : Prop := ∃ (s : String) (n p i j : Int), v = kyV [.inr s, .inl n, .inl p, .inl i, .inl j] ∧ (s = "par" ∨ s = "mom") ∧ (0 ≤ n ∧ n < 3) ∧ (0 ≤ p ∧ p < 3) ∧ (0 ≤ i ∧ i < 3) ∧ (0 ≤ j ∧ j < 3)
theorem nam_below {v : Val} (h : Nam v) (b : Nat) : below b v = true := by
  obtain ⟨s, n, p, i, j, rfl, _⟩ := h
  exact ky_below
theorem cut4 {cs : List Val} : cutM cs none (some 4) = cs.take (min 4 cs.length) := by
  unfold cutM
  rw [HT.sIx_none]
  have e : HT.sIx cs.length cs.length (some 4) = min 4 cs.length := HT.sIx_nat cs.length cs.length 4
  rw [e]
  simp
theorem pool_ok (h : G.tab "" "_law_cells" = some d_law_cells) (h1 : G.tab "" "_law_pool" = some d_law_pool) {most : Nat} {v : Val} (hv : JobV most v) (hS : Pu S) (q : ∀ ns : List Val, 1 ≤ ns.length → ns.length ≤ 24 → (∀ c ∈ ns, Nam c) → Q (.lst ns) S) : WC (G.at (k + 2)) "" "_law_pool" [v] S Q := by
  refine wc_runP h1 rfl rfl ?_
  have lb := line_big
  have l2 : 2 ≤ sizeLine := by omega
  have l5 : 5 ≤ sizeLine := by omega
  simp [d_law_pool, b_law_pool]
  refine ws_rng 3 (S1 := S ++ [.lst []]) (fun n env S' => ∃ (acc : List Val) (x y : Option Val), n ≤ acc.length ∧ acc.length ≤ 8 * n ∧ (∀ c ∈ acc, Nam c) ∧ env = [some v, some (.ref S.length), x, y] ∧ S' = S ++ [.lst acc]) (by simp) (by omega) ⟨[], none, none, by simp, by simp, fun c hc => (by cases hc), rfl, rfl⟩ ?_ ?_
  · rintro n env S' hn ⟨acc, x, y, h0, h1', hc, rfl, rfl⟩
    have hn : n < 3 := by simpa using hn
    simp only [List.set_cons_succ, List.set_cons_zero, List.length_cons, List.length_nil, ws_cons, ws_nil]
    refine ⟨by omega, ?_⟩
    have hw : WC (G.at (k + 1)) "" "_law_cells" [v] (S ++ [.lst acc]) fun u S' => ∃ cs : List Val, (1 ≤ cs.length ∧ cs.length ≤ 27) ∧ (∀ c ∈ cs, Cel c) ∧ u = .lst cs ∧ S' = S ++ [.lst acc] := cells_ok h hv (hS.snoc fun v hv b => nam_below (hc v hv) b) fun cs c0 c1 c2 => ⟨cs, ⟨c0, c1⟩, c2, rfl, rfl⟩
    obtain ⟨u, S2, eu, cs, hcl, hcs, rfl, rfl⟩ := hw
    have hk : (cs.take (min 4 cs.length)).length = min 4 cs.length := by rw [List.length_take]; omega
    refine ws_loop (vs := cs.take (min 4 cs.length)) (src := none) (S1 := S ++ [.lst acc]) (fun j env S' => ∃ (acc' : List Val) (y : Option Val), acc'.length = acc.length + 2 * j ∧ (∀ c ∈ acc', Nam c) ∧ env = [some v, some (.ref S.length), some (.int n), y] ∧ S' = S ++ [.lst acc']) ?_ ⟨acc, y, rfl, hc, rfl, rfl⟩ ?_ ?_
    · simp
      exact ⟨_, _, eu, by simp [cut4]⟩
    · rintro j c env S' hj ⟨acc', y, ha, hc', rfl, rfl⟩
      have hj4 : j < 4 := by
        have := (List.getElem?_eq_some_iff.mp hj).1
        omega
      obtain ⟨p, i, j', rfl, hp, hi, hj'⟩ := hcs c (List.mem_of_mem_take (List.mem_of_getElem? hj))
      simp [l2, l5]
      refine ⟨by omega, by omega, by omega, fun x hx => ?_⟩
      rcases hx with (k | rfl) | rfl
      · exact hc' x k
      · exact ⟨"par", n, p, i, j', rfl, .inl rfl, by omega, hp, hi, hj'⟩
      · exact ⟨"mom", n, p, i, j', rfl, .inr rfl, by omega, hp, hi, hj'⟩
    · rintro env S' ⟨acc', y, ha, hc', rfl, rfl⟩
      rw [hk] at ha
      simp only [then_nx, ws_nil, turn_nx, stays_none, true_and]
      exact ⟨acc', _, _, by omega, by omega, hc', rfl, rfl⟩
  · rintro env S' ⟨acc, x, y, h0, h1', hc, rfl, rfl⟩
    simp
    exact ⟨_, leave_lst (T := [.lst acc]) (Nat.le_refl _) get_last (fun v hv => nam_below (hc v hv) _) rfl fun c hc => hS c hc _, q acc (by simpa using Nat.le_trans (by omega) h0) (by simpa using h1') hc⟩
theorem nams_keys : ∀ {vs : List Val}, (∀ v ∈ vs, Nam v) → ∃ kss : List (List (Sum Int String)), vs = kss.map kyV
  | [], _ => ⟨[], rfl⟩
  | v :: vs, h => by
    obtain ⟨kss, e⟩ := nams_keys fun w hw => h w (List.mem_cons_of_mem _ hw)
    obtain ⟨s, n, p, i, j, ev, _⟩ := h v List.mem_cons_self
    exact ⟨_ :: kss, by rw [ev, e]; rfl⟩
theorem mem_nams {x : Val} {vs : List Val} (hx : Nam x) (h : ∀ v ∈ vs, Nam v) : memL x vs = some (decide (x ∈ vs)) := by
  obtain ⟨kss, rfl⟩ := nams_keys h
  obtain ⟨s, n, p, i, j, rfl, _⟩ := hx
  rw [mem_names]
  congr 1
  refine decide_eq_decide.mpr ?_
  rw [List.mem_map]
  constructor
  · exact fun m => ⟨_, m, rfl⟩
  · rintro ⟨ks, m, e⟩
    rw [← ky_inj e]
    exact m
@[simp] theorem mem_ref {x : Val} {n : Nat} : memOf S x (.ref n) = memC x S[n]? := rfl
@[simp] theorem memc_lst {x : Val} {vs : List Val} : memC x (some (.lst vs)) = memL x vs := rfl
@[simp] theorem tup_ref {n : Nat} : tupOf S (.ref n) = (lstOf S (.ref n)).map .tup := rfl
@[simp] theorem tup_lst {vs : List Val} : tupOf S (.lst vs) = some (.tup vs) := rfl
@[simp] theorem get_last1 {c d : Cell} : (c :: (T ++ [d]))[T.length + 1]? = some d := by simp
@[simp] theorem set_last1 {c d d' : Cell} : (c :: (T ++ [d])).set (T.length + 1) d' = c :: (T ++ [d']) := by simp
theorem some_ok (h : G.tab "" "_law_draw" = some d_law_draw) (h1 : G.tab "" "_law_some" = some d_law_some) {ns : List Val} (hn : 1 ≤ ns.length) (hns : ∀ c ∈ ns, Nam c) {most : Nat} (hm : 1 ≤ most ∧ most ≤ 100) (ha : 0 ≤ a) (hS : Pu T)
    (q : ∀ (vs : List Val) b, 0 ≤ b → 1 ≤ vs.length → vs.length ≤ most → vs.Nodup → (∀ c ∈ vs, c ∈ ns) → Q (.tup vs) (bx r b :: T)) : WC (G.at (k + 2)) "" "_law_some" [.ref 0, .lst ns, .int most] (bx r a :: T) Q := by
  refine wc_runP h1 rfl rfl ?_
  have lb := line_big
  simp [d_law_some, b_law_some]
  refine ws_rngE (fun n S1 => ∃ b, 0 ≤ b ∧ 1 ≤ n ∧ n ≤ most ∧ S1 = bx r b :: (T ++ [.lst []])) ?_ fun n S1 ⟨b, hb, hn0, hn1, e⟩ => ⟨by omega, fun j env S => ∃ (vs : List Val) (b : Int) (x y : Option Val), 0 ≤ b ∧ (1 ≤ j → 1 ≤ vs.length) ∧ vs.length ≤ j ∧ vs.Nodup ∧ (∀ c ∈ vs, c ∈ ns) ∧ env = [some (.ref 0), some (.lst ns), some (.int most), some (.ref (T.length + 1)), x, y] ∧ S = bx r b :: (T ++ [.lst vs]), ⟨[], b, none, none, hb, by omega, by simp, List.nodup_nil, fun c hc => (by cases hc), rfl, e⟩, ?_, ?_⟩
  · simp
    refine draw_ok h ha (by omega) fun c c0 c1 => ?_
    simp
    exact ⟨a + 1, by omega, by omega, by omega, rfl⟩
  · rintro j env S hj ⟨vs, b, x, y, hb, h0, hl, hnd, hv, rfl, rfl⟩
    simp
    refine draw_ok h hb (by omega) fun c c0 c1 => ?_
    refine OK_at c0 (by simpa using c1) fun x hx => ?_
    have em := mem_nams (hns x hx) (fun v hv' => hns v (hv v hv'))
    simp [em]
    split
    · rename_i m
      exact ⟨vs, b + 1, by omega, by cases vs with
        | nil => cases m
        | cons _ _ => simp, by omega, hnd, hv, rfl, rfl⟩
    · rename_i m
      refine ⟨by omega, vs ++ [x], b + 1, by omega, by simp, by simp; omega, ?_, fun c hc => ?_, rfl, rfl⟩
      · rw [List.nodup_append]
        exact ⟨hnd, by simp, fun u hu w hw => by
          rw [List.mem_singleton] at hw
          subst hw
          exact fun e => m (e ▸ hu)⟩
      · rcases List.mem_append.mp hc with k | k
        · exact hv c k
        · rw [List.mem_singleton] at k
          subst k
          exact hx
  · rintro env S ⟨vs, b, x, y, hb, h0, hl, hnd, hv, rfl, rfl⟩
    simp
    have e : leave ((bx r b :: T) ++ [Cell.lst vs]) (T.length + 1) (.tup vs) = some (.tup vs, bx r b :: T) := leave_below (belows_iff.mpr fun v hv' => nam_below (hns v (hv v hv')) _) rfl fun c hc => by
      rcases List.mem_cons.mp hc with rfl | hc
      · exact bx_below
      · exact hS c hc _
    exact ⟨_, e, q vs b hb (h0 (by omega)) (by omega) hnd hv⟩
end
end
end Mi

namespace Mi
open PySem
open Classical
noncomputable section
/-! ### dict comprehensions, plainly -/
section
variable {R : Run} {env : Env'} {S : Sto} {Q : Val → Sto → Prop}
def stepD (R : Run) (tg : MT) (cond key val : ME) (x : Val) (env : Env') (S : Sto) : Option (Option (Val × Val) × Sto) := match bindT S tg x env with
  | some env' => match evE R cond env' S with
    | some (c, S2) => match tru S2 c with
      | some true => match evE R key env' S2 with
        | some (k, S3) => (evE R val env' S3).map fun y => (some (k, y.1), y.2)
        | none => none
      | some false => some (none, S2)
      | none => none
    | none => none
  | none => none
theorem ev_dcomp {tk : Bool} {own : List (Str × Nat)} {tg : MT} {it cond key val : ME} : evE R (.dcomp tk own tg it cond key val) env S = match evE R it env S with
    | some (v, S1) => match itemsOf S1 v with
      | some (vs, src) => match compD (stepD R tg cond key val) src vs (if tk then .dT [] else .dK []) (wipeE env (own.map (·.2))) S1 with
        | some (c, S2) => some (.ref S2.length, S2 ++ [c])
        | none => none
      | none => none
    | none => none := rfl
theorem dcomp_inv {F : Val → Env' → Sto → Option (Option (Val × Val) × Sto)} {src : Option (Nat × Cell)} {S : Sto} (st : stays src S) {QC : Cell → Prop} (Inv : Nat → Cell → Prop) : ∀ (vs : List Val) (i : Nat) (c : Cell), Inv i c →
    (∀ (j : Nat) v c, vs[j]? = some v → Inv (i + j) c → ∃ k x, F v env S = some (some (k, x), S) ∧ OK (putC (some c) k x) fun c' => Inv (i + j + 1) c') → (∀ c, Inv (i + vs.length) c → QC c) → OK (compD F src vs c env S) fun r => r.2 = S ∧ QC r.1
  | [], i, c, h0, _, hn => ⟨(c, S), rfl, rfl, hn c h0⟩
  | v :: vs, i, c, h0, hs, hn => by
    obtain ⟨k, x, e, c', e2, h⟩ := hs 0 v c rfl h0
    dsimp only [compD]
    rw [e]
    dsimp only
    rw [if_pos st, e2]
    refine dcomp_inv st Inv vs (i + 1) c' h (fun j v c hv h => ?_) fun c h => hn c (by rw [List.length_cons, show i + (vs.length + 1) = i + 1 + vs.length by omega]; exact h)
    have e : i + 1 + j = i + (j + 1) := by omega
    rw [e] at h ⊢
    exact hs (j + 1) v c hv h
theorem we_dcompP {tk : Bool} {own : List (Str × Nat)} {tg : MT} {it key val : ME} {vs : List Val} {src : Option (Nat × Cell)} {S1 : Sto} (Inv : Nat → Cell → Prop) (h : WE R it env S fun v S' => S' = S1 ∧ itemsOf S1 v = some (vs, src)) (h0 : Inv 0 (if tk then .dT [] else .dK []))
    (hs : ∀ (j : Nat) v c, vs[j]? = some v → Inv j c → OK (bindT S1 tg v (wipeE env (own.map (·.2)))) fun env' => WE R key env' S1 fun k S2 => WE R val env' S2 fun x S3 => S3 = S1 ∧ OK (putC (some c) k x) fun c' => Inv (j + 1) c')
    (hq : ∀ c, Inv vs.length c → Q (.ref S1.length) (S1 ++ [c])) : WE R (.dcomp tk own tg it (.bl true) key val) env S Q := by
  obtain ⟨v, S', e, rfl, ei⟩ := h
  have := dcomp_inv (F := stepD R tg (.bl true) key val) (src := src) (S := S') (env := wipeE env (own.map (·.2))) (items_stay ei) (QC := fun c => Q (.ref S'.length) (S' ++ [c])) Inv vs 0 _ h0 (fun j v c hv h => by
      rw [Nat.zero_add] at h ⊢
      obtain ⟨env', e1, k, S2, e2, x, S3, e3, e5, c', e4, q⟩ := hs j v c hv h
      rw [e5] at e3
      refine ⟨k, x, ?_, c', e4, q⟩
      unfold stepD
      rw [e1]
      dsimp only [evE, tru]
      rw [e2]
      dsimp only
      rw [e3]
      rfl) (by rw [Nat.zero_add]; exact hq)
  obtain ⟨⟨c, S2⟩, e2, rfl, q⟩ := this
  rw [we_def, ev_dcomp, e]
  dsimp only
  rw [ei]
  dsimp only
  rw [e2]
  exact ⟨_, rfl, q⟩
end
theorem get_put {κ : Type} [DecidableEq κ] {v : Val} {k j : κ} : ∀ {kvs : List (κ × Val)}, (getK (putM kvs k v) j).isSome = (decide (j = k) || (getK kvs j).isSome) := by
  have upd : ∀ (kvs : List (κ × Val)), (getK (kvs.map fun q => if q.1 = k then (q.1, v) else q) j).isSome = (getK kvs j).isSome := fun kvs => by
    induction kvs with
    | nil => rfl
    | cons q kvs ih =>
      obtain ⟨q1, q2⟩ := q
      unfold getK at ih ⊢
      rw [List.map_cons, List.find?_cons, List.find?_cons]
      dsimp only
      by_cases e : q1 = k
      · rw [if_pos e]
        dsimp only
        cases decide (q1 = j) with
        | true => rfl
        | false => exact ih
      · rw [if_neg e]
        dsimp only
        cases decide (q1 = j) with
        | true => rfl
        | false => exact ih
  intro kvs
  unfold putM
  split
  · rename_i h
    rw [upd]
    by_cases e : j = k
    · subst e
      have : (getK kvs j).isSome = true := by
        unfold getK
        rw [Option.isSome_map, List.find?_isSome]
        obtain ⟨q, hq, e⟩ := List.any_eq_true.mp h
        exact ⟨q, hq, e⟩
      rw [this]
      simp
    · simp [e]
  · unfold getK
    rw [Option.isSome_map, Option.isSome_map, List.find?_append]
    cases hf : kvs.find? (fun q => decide (q.1 = j)) with
    | some q => simp
    | none =>
      by_cases e : k = j
      · subst e
        simp
      · have e' : ¬ j = k := fun z => e z.symm
        simp [e, e']
theorem len_put {κ : Type} [DecidableEq κ] {v : Val} {k : κ} {kvs : List (κ × Val)} : (putM kvs k v).length ≤ kvs.length + 1 := by
  unfold putM
  split <;> simp
end
end Mi

namespace K63
open PySem PySem.Spec PyProof.Rows L2 Mi
abbrev body : List Stmt := PySem.Challenge.pw_asifone_k63_counts_of_plans.main.body
def b_gives_of : MS := .cons (.set 1 (.ix (.var 0) (.int 0))) (.cons (.ifs (.cmp .eq (.var 1) (.str "load")) (.cons (.ret (.bi .list (.econs (.ix (.var 0) (.int 1)) .enil))) .nil) (.nil)) (.cons (.ifs (.cmp .eq (.var 1) (.str "make")) (.cons (.ret (.comp false [("name", 2), ("way", 3)] (.tup (.cons (.nm 2) (.cons (.nm 3) .nil))) (.it (.ix (.var 0) (.int 1))) (.bl true) (.var 2))) .nil) (.nil)) (.cons (.ifs (.cmp .eq (.var 1) (.str "recv")) (.cons (.ret (.bi .list (.econs (.ix (.var 0) (.int 2)) .enil))) .nil) (.nil)) (.cons (.ret (.lst false (.enil))) .nil))))
def d_gives_of : Def := ⟨1, 4, b_gives_of, false⟩
def e_gives_of : Ent := ⟨"", "gives_of", "gives_of", 1, none, ["act"], ["act", "kind", "name", "way"], d_gives_of⟩
def b_peak : MS := .cons (.set 1 (.lst false (.enil))) (.cons (.set 2 (.int 0)) (.cons (.loop (.nm 3) (.it (.var 0)) (.cons (.ifs (.cmp .eq (.ix (.var 3) (.int 0)) (.str "drop")) (.cons (.set 4 (.dcomp true [("name", 5)] (.nm 5) (.it (.ix (.var 3) (.int 1))) (.bl true) (.var 5) (.bl true))) (.cons (.setc 1 (.comp false [("name", 5)] (.nm 5) (.it (.var 1)) (.cmp .nin (.var 5) (.var 4)) (.var 5))) .nil)) (.cons (.set 1 (.bin .add (.var 1) (.call "gives_of" (.econs (.var 3) .enil)))) .nil)) (.cons (.set 2 (.bi .max (.econs (.var 2) (.econs (.bi .len (.econs (.var 1) .enil)) .enil)))) .nil))) (.cons (.ret (.var 2)) .nil)))
def d_peak : Def := ⟨1, 6, b_peak, true⟩
def e_peak : Ent := ⟨"", "_peak", "_peak", 3, none, ["acts"], ["acts", "held", "most", "act", "gone", "name"], d_peak⟩
def b_rank_counts : MS := .cons (.set 2 (.meth (.var 0) "acts_of" (.econs (.var 1) .enil))) (.cons (.set 3 (.bi .sum (.econs (.comp false [("act", 7)] (.nm 7) (.it (.var 2)) (.cmp .eq (.ix (.var 7) (.int 0)) (.str "make")) (.bi .len (.econs (.ix (.var 7) (.int 1)) .enil))) .enil))) (.cons (.set 4 (.bi .len (.econs (.comp false [("act", 7)] (.nm 7) (.it (.var 2)) (.cmp .eq (.ix (.var 7) (.int 0)) (.str "send")) (.var 7)) .enil))) (.cons (.set 5 (.bi .sum (.econs (.comp false [("act", 7)] (.nm 7) (.it (.var 2)) (.cmp .eq (.ix (.var 7) (.int 0)) (.str "send")) (.bi .len (.econs (.ix (.var 7) (.int 2)) .enil))) .enil))) (.cons (.set 6 (.bi .sum (.econs (.comp false [("act", 7)] (.nm 7) (.it (.var 2)) (.cmp .eq (.ix (.var 7) (.int 0)) (.str "recv")) (.bi .len (.econs (.ix (.var 7) (.int 2)) .enil))) .enil))) (.cons (.ret (.tup (.econs (.bi .len (.econs (.var 2) .enil)) (.econs (.var 3) (.econs (.var 4) (.econs (.var 5) (.econs (.var 6) (.econs (.call "_peak" (.econs (.var 2) .enil)) .enil)))))))) .nil)))))
def d_rank_counts : Def := ⟨2, 8, b_rank_counts, false⟩
def e_rank_counts : Ent := ⟨"", "rank_counts", "rank_counts", 4, none, ["plan", "rank"], ["plan", "rank", "acts", "made", "letters", "sent", "taken", "act"], d_rank_counts⟩
def b_counts : MS := .cons (.setc 1 (.comp false [("rank", 4)] (.nm 4) (.rng (.econs (.fld (.var 0) "ranks") .enil)) (.bl true) (.call "rank_counts" (.econs (.var 0) (.econs (.var 4) .enil))))) (.cons (.set 2 (.bi .sum (.econs (.comp false [("row", 5)] (.nm 5) (.it (.var 1)) (.bl true) (.ix (.var 5) (.int 2))) .enil))) (.cons (.set 3 (.bi .sum (.econs (.comp false [("row", 5)] (.nm 5) (.it (.var 1)) (.bl true) (.ix (.var 5) (.int 3))) .enil))) (.cons (.ret (.tup (.econs (.var 2) (.econs (.var 3) (.econs (.bi .maxd (.econs (.comp false [("row", 5)] (.nm 5) (.it (.var 1)) (.bl true) (.ix (.var 5) (.int 5))) (.econs (.int 0) .enil))) (.econs (.var 1) .enil)))))) .nil)))
def d_counts : Def := ⟨1, 6, b_counts, false⟩
def e_counts : Ent := ⟨"", "counts", "counts", 5, none, ["plan"], ["plan", "rows", "letters", "words", "rank", "row"], d_counts⟩
def b_Plan_init : MS := .cons (.setfld (.var 0) "acts" (.bi .list (.econs (.var 1) .enil))) (.cons (.setfld (.var 0) "ranks" (.var 2)) .nil)
def d_Plan_init : Def := ⟨3, 3, b_Plan_init, false⟩
def e_Plan_init : Ent := ⟨"Plan", "__init__", "Plan.__init__", 7, some 0, ["self", "acts", "ranks"], ["self", "acts", "ranks"], d_Plan_init⟩
def b_Plan_acts_of : MS := .cons (.ret (.comp false [("one", 2), ("act", 3)] (.tup (.cons (.nm 2) (.cons (.nm 3) .nil))) (.it (.fld (.var 0) "acts")) (.cmp .eq (.var 2) (.var 1)) (.var 3))) .nil
def d_Plan_acts_of : Def := ⟨2, 4, b_Plan_acts_of, false⟩
def e_Plan_acts_of : Ent := ⟨"Plan", "acts_of", "Plan.acts_of", 7, some 2, ["self", "rank"], ["self", "rank", "one", "act"], d_Plan_acts_of⟩
def e_law_cell : Ent := ⟨"", "_law_cell", "_law_cell", 9, none, ["_law_script", "_law_k"], ["_law_script", "_law_k"], d_law_cell⟩
def e_law_row : Ent := ⟨"", "_law_row", "_law_row", 10, none, ["_law_script", "_law_first", "_law_last"], ["_law_script", "_law_first", "_law_last", "_law_row_here", "_law_k", "_law_cell_here", "_law_turn"], d_law_row⟩
def e_law_draw : Ent := ⟨"", "_law_draw", "_law_draw", 11, none, ["_law_box", "_law_many"], ["_law_box", "_law_many", "_law_at"], d_law_draw⟩
def e_law_wrap : Ent := ⟨"", "_law_wrap", "_law_wrap", 12, none, ["_law_n"], ["_law_n"], d_law_wrap⟩
def e_law_word : Ent := ⟨"", "_law_word", "_law_word", 13, none, ["_law_box"], ["_law_box", "_law_kind", "_law_n", "_law_turn"], d_law_word⟩
def e_law_is_integer : Ent := ⟨"", "_law_is_integer", "_law_is_integer", 14, none, ["_law_told"], ["_law_told"], d_law_is_integer⟩
def e_law_fill : Ent := ⟨"", "_law_fill", "_law_fill", 15, none, ["_law_box"], ["_law_box"], d_law_fill⟩
def e_law_try : Ent := ⟨"", "_law_try", "_law_try", 16, none, ["_law_box", "_law_net"], ["_law_box", "_law_net", "_law_kinds", "_law_kind", "_law_a", "_law_b", "_law_k", "_law_p"], d_law_try⟩
def e_law_length : Ent := ⟨"", "_law_length", "_law_length", 17, none, ["_law_net", "_law_node"], ["_law_net", "_law_node", "_law_kind", "_law_length_here", "_law_row_here", "_law_other", "_law_even"], d_law_length⟩
def e_law_small_net : Ent := ⟨"", "_law_small_net", "_law_small_net", 18, none, ["_law_box", "_law_most"], ["_law_box", "_law_most", "_law_side", "_law_net", "_law_k", "_law_done", "_law_turn", "_law_node", "_law_length_here"], d_law_small_net⟩
def e_law_job : Ent := ⟨"", "_law_job", "_law_job", 19, none, ["_law_box", "_law_most"], ["_law_box", "_law_most", "_law_net", "_law_data", "_law_k", "_law_rates", "_law_inputs", "_law_j"], d_law_job⟩
def e_law_same : Ent := ⟨"", "_law_same", "_law_same", 20, none, ["_law_told", "_law_due"], ["_law_told", "_law_due", "_law_k"], d_law_same⟩
def e_law_cells : Ent := ⟨"", "_law_cells", "_law_cells", 21, none, ["_law_job_here"], ["_law_job_here", "_law_out", "_law_p", "_law_i", "_law_j"], d_law_cells⟩
def e_law_pool : Ent := ⟨"", "_law_pool", "_law_pool", 22, none, ["_law_job_here"], ["_law_job_here", "_law_out", "_law_n", "_law_cell_here"], d_law_pool⟩
def e_law_some : Ent := ⟨"", "_law_some", "_law_some", 23, none, ["_law_box", "_law_names", "_law_most"], ["_law_box", "_law_names", "_law_most", "_law_out", "_law_k", "_law_name"], d_law_some⟩
def e_law_act_gives : Ent := ⟨"", "_law_act_gives", "_law_act_gives", 24, none, ["_law_act"], ["_law_act", "_law_entry"], d_law_act_gives⟩
def b_law_drawn_act : MS := .cons (.set 2 (.call "_law_draw" (.econs (.var 0) (.econs (.int 7) .enil)))) (.cons (.set 3 (.call "_law_some" (.econs (.var 0) (.econs (.var 1) (.econs (.int 5) .enil))))) (.cons (.ifs (.cmp .eq (.var 2) (.int 0)) (.cons (.ret (.tup (.econs (.str "load") (.econs (.var 3) .enil)))) .nil) (.nil)) (.cons (.ifs (.cmp .eq (.var 2) (.int 1)) (.cons (.ret (.tup (.econs (.str "make") (.econs (.bi .tuple (.econs (.comp false [("_law_name", 4)] (.nm 4) (.it (.var 3)) (.bl true) (.tup (.econs (.var 4) (.econs (.tup (.econs (.str "direct") .enil)) .enil)))) .enil)) .enil)))) .nil) (.nil)) (.cons (.ifs (.cmp .eq (.var 2) (.int 2)) (.cons (.ret (.tup (.econs (.str "send") (.econs (.call "_law_draw" (.econs (.var 0) (.econs (.int 5) .enil))) (.econs (.var 3) .enil))))) .nil) (.nil)) (.cons (.ifs (.cmp .eq (.var 2) (.int 3)) (.cons (.ret (.tup (.econs (.str "recv") (.econs (.call "_law_draw" (.econs (.var 0) (.econs (.int 5) .enil))) (.econs (.var 3) .enil))))) .nil) (.nil)) (.cons (.ifs (.cmp .eq (.var 2) (.int 4)) (.cons (.ret (.tup (.econs (.str "save") (.econs (.var 3) .enil)))) .nil) (.nil)) (.cons (.ifs (.cmp .eq (.var 2) (.int 5)) (.cons (.ret (.tup (.econs (.str "tell") (.econs (.call "_law_draw" (.econs (.var 0) (.econs (.int 4) .enil))) .enil)))) .nil) (.nil)) (.cons (.ret (.tup (.econs (.str "drop") (.econs (.var 3) .enil)))) .nil))))))))
def d_law_drawn_act : Def := ⟨2, 5, b_law_drawn_act, false⟩
def e_law_drawn_act : Ent := ⟨"", "_law_drawn_act", "_law_drawn_act", 25, none, ["_law_box", "_law_pool_here"], ["_law_box", "_law_pool_here", "_law_kind", "_law_names", "_law_name"], d_law_drawn_act⟩
def b_law_due_row : MS := .cons (.set 1 (.lst false (.enil))) (.cons (.set 2 (.lst true (.econs (.bi .len (.econs (.var 0) .enil)) (.econs (.int 0) (.econs (.int 0) (.econs (.int 0) (.econs (.int 0) (.econs (.int 0) .enil)))))))) (.cons (.loop (.nm 3) (.it (.var 0)) (.cons (.ifs (.cmp .eq (.ix (.var 3) (.int 0)) (.str "make")) (.cons (.setix (.var 2) (.int 1) (.bin .add (.ix (.var 2) (.int 1)) (.bi .len (.econs (.ix (.var 3) (.int 1)) .enil)))) .nil) (.nil)) (.cons (.ifs (.cmp .eq (.ix (.var 3) (.int 0)) (.str "send")) (.cons (.setix (.var 2) (.int 2) (.bin .add (.ix (.var 2) (.int 2)) (.int 1))) (.cons (.setix (.var 2) (.int 3) (.bin .add (.ix (.var 2) (.int 3)) (.bi .len (.econs (.ix (.var 3) (.int 2)) .enil)))) .nil)) (.nil)) (.cons (.ifs (.cmp .eq (.ix (.var 3) (.int 0)) (.str "recv")) (.cons (.setix (.var 2) (.int 4) (.bin .add (.ix (.var 2) (.int 4)) (.bi .len (.econs (.ix (.var 3) (.int 2)) .enil)))) .nil) (.nil)) (.cons (.set 1 (.bin .add (.var 1) (.call "_law_act_gives" (.econs (.var 3) .enil)))) (.cons (.ifs (.cmp .eq (.ix (.var 3) (.int 0)) (.str "drop")) (.cons (.setc 1 (.comp false [("_law_name", 4)] (.nm 4) (.it (.var 1)) (.cmp .nin (.var 4) (.ix (.var 3) (.int 1))) (.var 4))) .nil) (.nil)) (.cons (.setix (.var 2) (.int 5) (.bi .max (.econs (.ix (.var 2) (.int 5)) (.econs (.bi .len (.econs (.var 1) .enil)) .enil)))) .nil))))))) (.cons (.ret (.bi .tuple (.econs (.var 2) .enil))) .nil)))
def d_law_due_row : Def := ⟨1, 5, b_law_due_row, true⟩
def e_law_due_row : Ent := ⟨"", "_law_due_row", "_law_due_row", 26, none, ["_law_acts"], ["_law_acts", "_law_held", "_law_row_here", "_law_act", "_law_name"], d_law_due_row⟩
def b_law : MS := .cons (.set 1 (.lst true (.econs (.call "_law_row" (.econs (.var 0) (.econs (.int 0) (.econs (.int 30) .enil)))) (.econs (.int 0) .enil)))) (.cons (.set 2 (.call "_law_job" (.econs (.var 1) (.econs (.int 1) .enil)))) (.cons (.set 3 (.call "_law_pool" (.econs (.var 2) .enil))) (.cons (.set 4 (.bin .add (.int 1) (.call "_law_draw" (.econs (.var 1) (.econs (.int 5) .enil))))) (.cons (.set 5 (.lst true (.enil))) (.cons (.loop (.nm 6) (.rng (.econs (.call "_law_draw" (.econs (.var 1) (.econs (.int 41) .enil))) .enil)) (.cons (.ex (.bm .append (.var 5) (.econs (.tup (.econs (.call "_law_draw" (.econs (.var 1) (.econs (.var 4) .enil))) (.econs (.call "_law_drawn_act" (.econs (.var 1) (.econs (.var 3) .enil))) .enil))) .enil))) .nil)) (.cons (.set 7 (.new "Plan" (.econs (.bi .list (.econs (.var 5) .enil)) (.econs (.var 4) .enil)))) (.cons (.set 8 (.lst true (.enil))) (.cons (.loop (.nm 9) (.rng (.econs (.var 4) .enil)) (.cons (.ex (.bm .append (.var 8) (.econs (.call "_law_due_row" (.econs (.comp false [("_law_pair", 12)] (.nm 12) (.it (.var 5)) (.cmp .eq (.ix (.var 12) (.int 0)) (.var 9)) (.ix (.var 12) (.int 1))) .enil)) .enil))) (.cons (.ifs (.not (.call "_law_same" (.econs (.call "rank_counts" (.econs (.var 7) (.econs (.var 9) .enil))) (.econs (.ix (.var 8) (.var 9)) .enil)))) (.cons (.ret (.bl false)) .nil) (.nil)) .nil))) (.cons (.set 10 (.tup (.econs (.bi .sum (.econs (.comp false [("_law_row_here", 11)] (.nm 11) (.it (.var 8)) (.bl true) (.ix (.var 11) (.int 2))) .enil)) (.econs (.bi .sum (.econs (.comp false [("_law_row_here", 11)] (.nm 11) (.it (.var 8)) (.bl true) (.ix (.var 11) (.int 3))) .enil)) (.econs (.bi .max (.econs (.comp false [("_law_row_here", 11)] (.nm 11) (.it (.var 8)) (.bl true) (.ix (.var 11) (.int 5))) .enil)) (.econs (.var 8) .enil)))))) (.cons (.ret (.call "_law_same" (.econs (.call "counts" (.econs (.var 7) .enil)) (.econs (.var 10) .enil)))) .nil))))))))))
def d_law : Def := ⟨1, 13, b_law, true⟩
def e_law : Ent := ⟨"", "law", "law", 27, none, ["_law_script"], ["_law_script", "_law_box", "_law_job_here", "_law_pool_here", "_law_ranks", "_law_acts", "_law_k", "_law_plan", "_law_rows", "_law_rank", "_law_due", "_law_row_here", "_law_pair"], d_law⟩
def ents : List Ent := [e_gives_of, e_peak, e_rank_counts, e_counts, e_Plan_init, e_Plan_acts_of, e_law_cell, e_law_row, e_law_draw, e_law_wrap, e_law_word, e_law_is_integer, e_law_fill, e_law_try, e_law_length, e_law_small_net, e_law_job, e_law_same, e_law_cells, e_law_pool, e_law_some, e_law_act_gives, e_law_drawn_act, e_law_due_row, e_law]
def lst : Lst := ⟨["gives_of", "_peak", "rank_counts", "counts", "_law_cell", "_law_row", "_law_draw", "_law_wrap", "_law_word", "_law_is_integer", "_law_fill", "_law_try", "_law_length", "_law_small_net", "_law_job", "_law_same", "_law_cells", "_law_pool", "_law_some", "_law_act_gives", "_law_drawn_act", "_law_due_row", "law"], ["Plan"], [("Plan", "__init__"), ("Plan", "acts_of")], [("Plan", "acts"), ("Plan", "ranks")]⟩
theorem lok : lst.ok ents = true := by decide +kernel
theorem o_gives_of : Ent.ok lst.nms body e_gives_of = true := by decide +kernel
theorem n_gives_of : Ent.Bn body e_gives_of := fun _ _ _ _ _ _ us hl => match us, hl with | [_], _ => rfl
theorem o_peak : Ent.ok lst.nms body e_peak = true := by decide +kernel
theorem n_peak : Ent.Bn body e_peak := fun _ _ _ _ _ _ us hl => match us, hl with | [_], _ => rfl
theorem o_rank_counts : Ent.ok lst.nms body e_rank_counts = true := by decide +kernel
theorem n_rank_counts : Ent.Bn body e_rank_counts := fun _ _ _ _ _ _ us hl => match us, hl with | [_, _], _ => rfl
theorem o_counts : Ent.ok lst.nms body e_counts = true := by decide +kernel
theorem n_counts : Ent.Bn body e_counts := fun _ _ _ _ _ _ us hl => match us, hl with | [_], _ => rfl
theorem o_Plan_init : Ent.ok lst.nms body e_Plan_init = true := by decide +kernel
theorem n_Plan_init : Ent.Bn body e_Plan_init := fun _ _ _ _ _ _ us hl => match us, hl with | [_, _, _], _ => rfl
theorem o_Plan_acts_of : Ent.ok lst.nms body e_Plan_acts_of = true := by decide +kernel
theorem n_Plan_acts_of : Ent.Bn body e_Plan_acts_of := fun _ _ _ _ _ _ us hl => match us, hl with | [_, _], _ => rfl
theorem o_law_cell : Ent.ok lst.nms body e_law_cell = true := by decide +kernel
theorem n_law_cell : Ent.Bn body e_law_cell := fun _ _ _ _ _ _ us hl => match us, hl with | [_, _], _ => rfl
theorem o_law_row : Ent.ok lst.nms body e_law_row = true := by decide +kernel
theorem n_law_row : Ent.Bn body e_law_row := fun _ _ _ _ _ _ us hl => match us, hl with | [_, _, _], _ => rfl
theorem o_law_draw : Ent.ok lst.nms body e_law_draw = true := by decide +kernel
theorem n_law_draw : Ent.Bn body e_law_draw := fun _ _ _ _ _ _ us hl => match us, hl with | [_, _], _ => rfl
theorem o_law_wrap : Ent.ok lst.nms body e_law_wrap = true := by decide +kernel
theorem n_law_wrap : Ent.Bn body e_law_wrap := fun _ _ _ _ _ _ us hl => match us, hl with | [_], _ => rfl
theorem o_law_word : Ent.ok lst.nms body e_law_word = true := by decide +kernel
theorem n_law_word : Ent.Bn body e_law_word := fun _ _ _ _ _ _ us hl => match us, hl with | [_], _ => rfl
theorem o_law_is_integer : Ent.ok lst.nms body e_law_is_integer = true := by decide +kernel
theorem n_law_is_integer : Ent.Bn body e_law_is_integer := fun _ _ _ _ _ _ us hl => match us, hl with | [_], _ => rfl
theorem o_law_fill : Ent.ok lst.nms body e_law_fill = true := by decide +kernel
theorem n_law_fill : Ent.Bn body e_law_fill := fun _ _ _ _ _ _ us hl => match us, hl with | [_], _ => rfl
theorem o_law_try : Ent.ok lst.nms body e_law_try = true := by decide +kernel
theorem n_law_try : Ent.Bn body e_law_try := fun _ _ _ _ _ _ us hl => match us, hl with | [_, _], _ => rfl
theorem o_law_length : Ent.ok lst.nms body e_law_length = true := by decide +kernel
theorem n_law_length : Ent.Bn body e_law_length := fun _ _ _ _ _ _ us hl => match us, hl with | [_, _], _ => rfl
theorem o_law_small_net : Ent.ok lst.nms body e_law_small_net = true := by decide +kernel
theorem n_law_small_net : Ent.Bn body e_law_small_net := fun _ _ _ _ _ _ us hl => match us, hl with | [_, _], _ => rfl
theorem o_law_job : Ent.ok lst.nms body e_law_job = true := by decide +kernel
theorem n_law_job : Ent.Bn body e_law_job := fun _ _ _ _ _ _ us hl => match us, hl with | [_, _], _ => rfl
theorem o_law_same : Ent.ok lst.nms body e_law_same = true := by decide +kernel
theorem n_law_same : Ent.Bn body e_law_same := fun _ _ _ _ _ _ us hl => match us, hl with | [_, _], _ => rfl
theorem o_law_cells : Ent.ok lst.nms body e_law_cells = true := by decide +kernel
theorem n_law_cells : Ent.Bn body e_law_cells := fun _ _ _ _ _ _ us hl => match us, hl with | [_], _ => rfl
theorem o_law_pool : Ent.ok lst.nms body e_law_pool = true := by decide +kernel
theorem n_law_pool : Ent.Bn body e_law_pool := fun _ _ _ _ _ _ us hl => match us, hl with | [_], _ => rfl
theorem o_law_some : Ent.ok lst.nms body e_law_some = true := by decide +kernel
theorem n_law_some : Ent.Bn body e_law_some := fun _ _ _ _ _ _ us hl => match us, hl with | [_, _, _], _ => rfl
theorem o_law_act_gives : Ent.ok lst.nms body e_law_act_gives = true := by decide +kernel
theorem n_law_act_gives : Ent.Bn body e_law_act_gives := fun _ _ _ _ _ _ us hl => match us, hl with | [_], _ => rfl
theorem o_law_drawn_act : Ent.ok lst.nms body e_law_drawn_act = true := by decide +kernel
theorem n_law_drawn_act : Ent.Bn body e_law_drawn_act := fun _ _ _ _ _ _ us hl => match us, hl with | [_, _], _ => rfl
theorem o_law_due_row : Ent.ok lst.nms body e_law_due_row = true := by decide +kernel
theorem n_law_due_row : Ent.Bn body e_law_due_row := fun _ _ _ _ _ _ us hl => match us, hl with | [_], _ => rfl
theorem o_law : Ent.ok lst.nms body e_law = true := by decide +kernel
theorem n_law : Ent.Bn body e_law := fun _ _ _ _ _ _ us hl => match us, hl with | [_], _ => rfl
theorem eok : ents.all (Ent.ok lst.nms body) = true := by
  unfold ents
  simp only [List.all_cons, List.all_nil, o_gives_of, o_peak, o_rank_counts, o_counts, o_Plan_init, o_Plan_acts_of, o_law_cell, o_law_row, o_law_draw, o_law_wrap, o_law_word, o_law_is_integer, o_law_fill, o_law_try, o_law_length, o_law_small_net, o_law_job, o_law_same, o_law_cells, o_law_pool, o_law_some, o_law_act_gives, o_law_drawn_act, o_law_due_row, o_law, Bool.and_true]
theorem bok : Mi.AllP (Ent.Bn body) ents := ⟨n_gives_of, n_peak, n_rank_counts, n_counts, n_Plan_init, n_Plan_acts_of, n_law_cell, n_law_row, n_law_draw, n_law_wrap, n_law_word, n_law_is_integer, n_law_fill, n_law_try, n_law_length, n_law_small_net, n_law_job, n_law_same, n_law_cells, n_law_pool, n_law_some, n_law_act_gives, n_law_drawn_act, n_law_due_row, n_law, trivial⟩
abbrev Rw : PySem.W.OpenRow := PySem.W.OpenLaw.row PySem.Challenge.rw_asifone_k63_counts_of_plans
abbrev hk : PySem.W.Hook := He.hookD 6 lst.fa (ents.map (Ent.dd body))
def ob (s : PySem.W.SharedT) : He.AlD := He.obsDG 6 lst.fa (ents.map (Ent.dd body)) (HandSHeadRun.getT s)
theorem ob_eq (s : PySem.W.SharedT) : ob s = hk.obs s.abs := He.obsDG_eq (HandSHeadRun.getT_eq s)
def names : List Str := ["__name__", "gives_of", "_peak", "rank_counts", "counts", "Plan", "_law_cell", "_law_row", "_law_draw", "_law_wrap", "_law_word", "_law_is_integer", "_law_fill", "_law_try", "_law_length", "_law_small_net", "_law_job", "_law_same", "_law_cells", "_law_pool", "_law_some", "_law_act_gives", "_law_drawn_act", "_law_due_row"]
theorem run (w : World) : HandSHeadRun.RunEq Rw (PySem.W.view Rw.prog [27]) hk ob 2000 names w := by
  intro os
  kernel_rfl
def G : Prg := ⟨tabOf ents, fun c => decide (c ∈ (["Plan"] : List String)), fun c f => decide ((c, f) ∈ lst.fds), 1000000⟩
theorem facts {P : Program} {w : World} {K : PySem.W.Frag} {h : Heap} {mg : Str → Option Value} {f : Addr} (X : K.In h) (hG : h.Ns mainGlobals mg) (hfa : mg ("law" : Str) = some (.ref f)) (c : He.SaysD lst.fa (ents.map (Ent.dd body)) K) {ok : List Int → Prop}
    (plain : ∀ ns, ok ns → ∃ S', Mi.run G 20 "" "law" [.lsk (ns.map .int)] [] = some (.bl true, S')) :
    ∃ fd : FuncData, (∀ (s : Shared) (v : Value), BindsTo s fd ⟨[v], []⟩ [("_law_script", v)]) ∧ ∀ base : Heap, K.In base → base.Ns mainGlobals mg → FnOk P w K mg base CX0 41 f fd ["_law_script"] (spLaw K ok) := by
  have H : HdOk K mg lst.nms G := hd_ok X hG c lok eok bok
  have m : e_law ∈ ents := by unfold ents; simp
  obtain ⟨fd, F⟩ := def_mem c m
  have hl := He.glo_ok X hG (x := Str.ofString "law") (says_mem c (by unfold Lst.fa lst; simp))
  have e := hfa.symm.trans hl
  cases e
  obtain ⟨o1, o⟩ := and_t (List.all_eq_true.mp eok e_law m)
  obtain ⟨o2, o⟩ := and_t o
  obtain ⟨o3, o4⟩ := and_t o
  have D : DefOk K lst.nms e_law.d (He.ga K (Str.ofString "law")) fd ["_law_script"] := ⟨⟨_, _, _, _, _, _, _, _, F, scOk_ok o1, dec_t o2, dec_t o3, o4⟩⟩
  have b := FunD.bindsA (ps := ["_law_script"]) F n_law
  exact ⟨fd, fun s v => b s [v] rfl, fun base _ _ => law_ok H (by rfl) D plain⟩
end K63

namespace K63
open PySem Mi
open Classical
noncomputable section
/-- an act -/
inductive A where
  | load (ns : List Val) | make (ns : List Val) | send (p : Int) (ns : List Val) | recv (p : Int) (ns : List Val) | save (ns : List Val) | tell (i : Int) | drop (ns : List Val)
def A.v : A → Val
  | .load ns => .tup [.str "load", .tup ns]
  | .make ns => .tup [.str "make", .tup (ns.map fun x => .tup [x, .tup [.str "direct"]])]
  | .send p ns => .tup [.str "send", .int p, .tup ns]
  | .recv p ns => .tup [.str "recv", .int p, .tup ns]
  | .save ns => .tup [.str "save", .tup ns]
  | .tell i => .tup [.str "tell", .int i]
  | .drop ns => .tup [.str "drop", .tup ns]
def A.ns : A → List Val
  | .load ns => ns
  | .make ns => ns
  | .send _ ns => ns
  | .recv _ ns => ns
  | .save ns => ns
  | .tell _ => []
  | .drop ns => ns
def A.Ok (a : A) : Prop := a.ns.length ≤ 5 ∧ ∀ x ∈ a.ns, Nam x
def A.gives : A → List Val
  | .load ns => ns
  | .make ns => ns
  | .recv _ ns => ns
  | _ => []
theorem nams_below {ns : List Val} (h : ∀ x ∈ ns, Nam x) (b : Nat) : belows b ns = true := belows_iff.mpr fun v hv => nam_below (h v hv) b
theorem act_below {a : A} (h : a.Ok) (b : Nat) : below b a.v = true := by
  have hb := nams_below h.2 b
  cases a with
  | make ns =>
    have : belows b (ns.map fun x => Val.tup [x, .tup [.str "direct"]]) = true := belows_iff.mpr fun v hv => by
      obtain ⟨x, hx, rfl⟩ := List.mem_map.mp hv
      have := nam_below (h.2 x hx) b
      simp [below, belows, this]
    simp [A.v, below, belows, this]
  | _ => simp [A.v, below, belows] <;> first | exact hb | trivial
theorem gives_ok {a : A} (h : a.Ok) : a.gives.length ≤ 5 ∧ ∀ x ∈ a.gives, Nam x := by
  cases a <;> first | exact h | exact ⟨Nat.zero_le _, fun x hx => by cases hx⟩
section
variable {k : Nat} {r : List Int} {a : Int} {S T : Sto} {Q : Val → Sto → Prop}
theorem tD : G.tab "" "_law_draw" = some d_law_draw := by rfl
theorem tW : G.tab "" "_law_wrap" = some d_law_wrap := by rfl
theorem tWo : G.tab "" "_law_word" = some d_law_word := by rfl
theorem tC : G.tab "" "_law_cell" = some d_law_cell := by rfl
theorem tR : G.tab "" "_law_row" = some d_law_row := by rfl
theorem tF : G.tab "" "_law_fill" = some d_law_fill := by rfl
theorem tT : G.tab "" "_law_try" = some d_law_try := by rfl
theorem tL : G.tab "" "_law_length" = some d_law_length := by rfl
theorem tN : G.tab "" "_law_small_net" = some d_law_small_net := by rfl
theorem tJ : G.tab "" "_law_job" = some d_law_job := by rfl
theorem tS : G.tab "" "_law_same" = some d_law_same := by rfl
theorem tI : G.tab "" "_law_is_integer" = some d_law_is_integer := by rfl
theorem tCs : G.tab "" "_law_cells" = some d_law_cells := by rfl
theorem tP : G.tab "" "_law_pool" = some d_law_pool := by rfl
theorem tSo : G.tab "" "_law_some" = some d_law_some := by rfl
theorem tAg : G.tab "" "_law_act_gives" = some d_law_act_gives := by rfl
theorem fm_map {α β : Type} (f : α → β) (vs : List α) : vs.filterMap (fun x => some (f x)) = vs.map f := by
  induction vs with
  | nil => rfl
  | cons x xs ih => simp
theorem act_gives_ok {a : A} (h : a.Ok) (q : Q (.lst a.gives) S) : WC (G.at (k + 1)) "" "_law_act_gives" [a.v] S Q := by
  refine wc_run tAg rfl rfl ?_
  have lb := line_big
  cases a with
  | make ns =>
    have hl : ns.length ≤ 5 := h.1
    simp [d_law_act_gives, b_law_act_gives, A.v]
    refine we_compP (vs := ns.map fun x => .tup [x, .tup [.str "direct"]]) (src := none) (S1 := S) (fun v => match v with
      | .tup (x :: _) => some x
      | _ => none) (by simp) (by simp; omega) (fun v hv => ?_) ?_
    · obtain ⟨x, hx, rfl⟩ := List.mem_map.mp hv
      simp [wipeE]
    · rw [List.filterMap_map]
      have e : ns.filterMap ((fun v => match v with
        | Val.tup (x :: _) => some x
        | _ => none) ∘ fun x => Val.tup [x, .tup [.str "direct"]]) = ns := by
        show ns.filterMap (fun x => some x) = ns
        simp
      rw [e]
      exact q
  | load ns =>
    simp [d_law_act_gives, b_law_act_gives, A.v]
    exact q
  | recv p ns =>
    simp [d_law_act_gives, b_law_act_gives, A.v]
    exact q
  | _ =>
    simp [d_law_act_gives, b_law_act_gives, A.v]
    exact q
theorem gives_of_ok {a : A} (h : a.Ok) (q : Q (.lst a.gives) S) : WC (G.at (k + 1)) "" "gives_of" [a.v] S Q := by
  refine wc_run (d := d_gives_of) (by rfl) rfl rfl ?_
  have lb := line_big
  cases a with
  | make ns =>
    have hl : ns.length ≤ 5 := h.1
    simp [d_gives_of, b_gives_of, A.v]
    refine we_compP (vs := ns.map fun x => .tup [x, .tup [.str "direct"]]) (src := none) (S1 := S) (fun v => match v with
      | .tup (x :: _) => some x
      | _ => none) (by simp) (by simp; omega) (fun v hv => ?_) ?_
    · obtain ⟨x, hx, rfl⟩ := List.mem_map.mp hv
      simp [wipeE, bindT]
    · rw [List.filterMap_map]
      have e : ns.filterMap ((fun v => match v with
        | Val.tup (x :: _) => some x
        | _ => none) ∘ fun x => Val.tup [x, .tup [.str "direct"]]) = ns := by
        show ns.filterMap (fun x => some x) = ns
        simp
      rw [e]
      exact q
  | load ns =>
    simp [d_gives_of, b_gives_of, A.v]
    exact q
  | recv p ns =>
    simp [d_gives_of, b_gives_of, A.v]
    exact q
  | _ =>
    simp [d_gives_of, b_gives_of, A.v]
    exact q
theorem drawn_act_ok {ns : List Val} (hn : 1 ≤ ns.length) (hns : ∀ c ∈ ns, Nam c) (ha : 0 ≤ a) (hS : Pu T) (q : ∀ (c : A) b, 0 ≤ b → c.Ok → Q c.v (bx r b :: T)) : WC (G.at (k + 3)) "" "_law_drawn_act" [.ref 0, .lst ns] (bx r a :: T) Q := by
  refine wc_run (d := d_law_drawn_act) (by rfl) rfl rfl ?_
  have lb := line_big
  have l1 : 1 ≤ sizeLine := by omega
  have l2 : 2 ≤ sizeLine := by omega
  have l3 : 3 ≤ sizeLine := by omega
  simp [d_law_drawn_act, b_law_drawn_act, l1, l2, l3]
  refine draw_ok tD ha (by omega) fun c c0 c1 => ?_
  refine some_ok tD tSo (most := 5) hn hns (by omega) (by omega) hS fun vs b hb h1 hl hnd hv => ?_
  have ok : vs.length ≤ 5 ∧ ∀ x ∈ vs, Nam x := ⟨hl, fun x hx => hns x (hv x hx)⟩
  simp [l1, l2, l3]
  split
  · exact q (.load vs) b hb ok
  split
  · refine we_compP (vs := vs) (src := none) (S1 := bx r b :: T) (fun x => some (.tup [x, .tup [.str "direct"]])) (by simp) (by omega) (fun v hv => ?_) ?_
    · simp [wipeE, l1, l2]
    · simp
      exact q (.make vs) b hb ok
  split
  · refine draw_ok tD hb (by omega) fun d d0 d1 => ?_
    exact q (.send d vs) _ (by omega) ok
  split
  · refine draw_ok tD hb (by omega) fun d d0 d1 => ?_
    exact q (.recv d vs) _ (by omega) ok
  split
  · exact q (.save vs) b hb ok
  split
  · refine draw_ok tD hb (by omega) fun d d0 d1 => ?_
    exact q (.tell d) _ (by omega) ⟨Nat.zero_le _, fun x hx => by cases hx⟩
  · exact q (.drop vs) b hb ok
end
end
end K63

namespace K63
open PySem Mi
open Classical
noncomputable section
def held (h : List Val) : A → List Val
  | .drop ns => h.filter fun x => decide (x ∉ ns)
  | a => h ++ a.gives
def stp (s : List Val × Int) (a : A) : List Val × Int := (held s.1 a, if ((held s.1 a).length : Int) > s.2 then ((held s.1 a).length : Int) else s.2)
def F (as : List A) : List Val × Int := as.foldl stp ([], 0)
theorem F_snoc {as : List A} {a : A} : F (as ++ [a]) = stp (F as) a := by
  unfold F
  rw [List.foldl_append]
  rfl
theorem held_ok {h : List Val} {a : A} (hh : ∀ x ∈ h, Nam x) (ha : a.Ok) : (∀ x ∈ held h a, Nam x) ∧ (held h a).length ≤ h.length + 5 := by
  have app : ∀ b : A, b.Ok → (∀ x ∈ h ++ b.gives, Nam x) ∧ (h ++ b.gives).length ≤ h.length + 5 := fun b hb => by
    obtain ⟨g1, g2⟩ := gives_ok hb
    refine ⟨fun x hx => ?_, by rw [List.length_append]; omega⟩
    rcases List.mem_append.mp hx with k | k
    · exact hh x k
    · exact g2 x k
  cases a with
  | drop ns =>
    refine ⟨fun x hx => hh x (List.mem_filter.mp hx).1, ?_⟩
    show (h.filter _).length ≤ _
    have := List.length_filter_le (fun x => decide (x ∉ ns)) h
    omega
  | _ => exact app _ ha
theorem F_ok0 : ∀ (as : List A) (s : List Val × Int), (∀ x ∈ s.1, Nam x) → 0 ≤ s.2 → (∀ a ∈ as, a.Ok) → (∀ x ∈ (as.foldl stp s).1, Nam x) ∧ (as.foldl stp s).1.length ≤ s.1.length + 5 * as.length ∧ 0 ≤ (as.foldl stp s).2
  | [], s, h1, h2, _ => ⟨h1, Nat.le_refl _, h2⟩
  | a :: as, s, h1, h2, h => by
    obtain ⟨g1, g2⟩ := held_ok h1 (h a List.mem_cons_self)
    have n2 : 0 ≤ (stp s a).2 := by
      show 0 ≤ (if ((held s.1 a).length : Int) > s.2 then ((held s.1 a).length : Int) else s.2)
      split
      · omega
      · exact h2
    obtain ⟨i1, i2, i3⟩ := F_ok0 as (stp s a) g1 n2 fun b hb => h b (List.mem_cons_of_mem _ hb)
    have g2 : (stp s a).1.length ≤ s.1.length + 5 := g2
    exact ⟨i1, by rw [List.length_cons]; exact Nat.le_trans i2 (by omega), i3⟩
theorem F_ok {as : List A} (h : ∀ a ∈ as, a.Ok) : (∀ x ∈ (F as).1, Nam x) ∧ (F as).1.length ≤ 5 * as.length ∧ 0 ≤ (F as).2 := by
  obtain ⟨i1, i2, i3⟩ := F_ok0 as ([], 0) (fun x hx => by cases hx) (Int.le_refl _) h
  refine ⟨i1, ?_, i3⟩
  have i4 := i2
  simp only [List.length_nil, Nat.zero_add] at i4
  exact i4
theorem take_snoc {α : Type} {as : List α} {j : Nat} {a : α} (h : as[j]? = some a) : as.take (j + 1) = as.take j ++ [a] := by
  rw [List.take_succ, h]
  rfl
theorem fm_filter {p : Val → Prop} [DecidablePred p] (h : List Val) : h.filterMap (fun x => if p x then none else some x) = h.filter fun x => decide (¬ p x) := by
  induction h with
  | nil => rfl
  | cons x xs ih =>
    by_cases e : p x
    · simp [e, ih]
    · simp [e, ih]
theorem nam_key {x : Val} (h : Nam x) : ∃ ks, keyT x = some ks ∧ x = kyV ks := by
  obtain ⟨s, n, p, i, j, rfl, _⟩ := h
  exact ⟨_, ky_key, rfl⟩
section
variable {k : Nat} {r : List Int} {a : Int} {S T : Sto} {Q : Val → Sto → Prop}
@[simp] theorem memc_dT {x : Val} {kvs : List (List (Sum Int String) × Val)} : memC x (some (.dT kvs)) = (keyT x).map fun q => (getK kvs q).isSome := rfl
theorem peak_ok {as : List A} (hl : as.length ≤ 100) (h : ∀ a ∈ as, a.Ok) (hS : Pu S) (q : Q (.int (F as).2) S) : WC (G.at (k + 2)) "" "_peak" [.lst (as.map A.v)] S Q := by
  refine wc_runP (d := d_peak) (by rfl) rfl rfl ?_
  have lb := line_big
  simp [d_peak, b_peak]
  refine ws_loop (vs := as.map A.v) (src := none) (S1 := S) (fun j env S' => ∃ (D : Sto) (x y z : Option Val), env = [some (.lst (as.map A.v)), some (.lst (F (as.take j)).1), some (.int (F (as.take j)).2), x, y, z] ∧ S' = S ++ D) (by simp) ⟨[], none, none, none, by simp [F], by simp⟩ ?_ ?_
  · rintro j v env S' hv ⟨D, x, y, z, rfl, rfl⟩
    rw [List.getElem?_map] at hv
    obtain ⟨c, hc, rfl⟩ := Option.map_eq_some_iff.mp hv
    have hj : j < as.length := (List.getElem?_eq_some_iff.mp hc).1
    have cok := h c (List.mem_of_getElem? hc)
    obtain ⟨f1, f2, f3⟩ := F_ok (as := as.take j) fun b hb => h b (List.mem_of_mem_take hb)
    have hlen : (as.take j).length ≤ 100 := by rw [List.length_take]; omega
    rw [take_snoc hc, F_snoc]
    generalize hh : (F (as.take j)).1 = hd at f1 f2
    generalize hm : (F (as.take j)).2 = mm at f3
    have fin : ∀ b : A, b.Ok → held hd b = hd ++ b.gives → stp (F (as.take j)) b = (hd ++ b.gives, if ((hd ++ b.gives).length : Int) > mm then ((hd ++ b.gives).length : Int) else mm) := fun b hb e => by
      unfold stp
      rw [hh, hm, e]
    cases c with
    | drop ns =>
      have hns : ns.length ≤ 5 := cok.1
      simp [A.v]
      refine we_dcompP (vs := ns) (src := none) (S1 := S ++ D) (fun i c => ∃ kvs, c = .dT kvs ∧ kvs.length ≤ i ∧ ∀ x ks, Nam x → keyT x = some ks → (getK kvs ks).isSome = decide (x ∈ ns.take i)) (by simp) ⟨[], rfl, Nat.zero_le _, fun x ks _ _ => by simp [getK]⟩ ?_ ?_
      · rintro i v c hv ⟨kvs, rfl, hk, hg⟩
        have hi : i < ns.length := (List.getElem?_eq_some_iff.mp hv).1
        have nv := cok.2 v (List.mem_of_getElem? hv)
        obtain ⟨kv, ekv, evk⟩ := nam_key nv
        simp [wipeE, putC, ekv]
        refine ⟨by omega, Nat.le_trans len_put (by omega), fun x ks nx ex => ?_⟩
        rw [get_put, hg x ks nx ex, take_snoc hv]
        obtain ⟨kx, ekx, exk⟩ := nam_key nx
        rw [ex] at ekx
        cases ekx
        have e : (ks = kv) ↔ x = v := by
          rw [exk, evk]
          exact ⟨fun e => by rw [e], fun e => ky_inj e⟩
        rw [← Bool.decide_or]
        refine decide_eq_decide.mpr ?_
        rw [List.mem_append, List.mem_singleton, e]
        exact Or.comm
      · rintro c ⟨kvs, rfl, hk, hg⟩
        rw [List.take_length] at hg
        simp
        refine we_compP (vs := hd) (src := none) (S1 := S ++ (D ++ [.dT kvs])) (fun x => if x ∈ ns then none else some x) (by simp) (by omega) (fun v hv => ?_) ?_
        · obtain ⟨kv, ekv, evk⟩ := nam_key (f1 v hv)
          have e := hg v kv (f1 v hv) ekv
          have g : (S ++ (D ++ [Cell.dT kvs]))[S.length + D.length]? = some (.dT kvs) := by
            rw [← List.append_assoc]
            have := get_last (S := S ++ D) (c := .dT kvs)
            rw [List.length_append] at this
            exact this
          simp [wipeE, g, ekv, e]
        · have e : hd.filterMap (fun x => if x ∈ ns then none else some x) = hd.filter (fun x => decide (x ∉ ns)) := fm_filter (p := fun x => x ∈ ns) hd
          have es : stp (F (as.take j)) (.drop ns) = (hd.filter (fun x => decide (x ∉ ns)), if ((hd.filter (fun x => decide (x ∉ ns))).length : Int) > mm then ((hd.filter (fun x => decide (x ∉ ns))).length : Int) else mm) := by
            unfold stp
            rw [hh, hm]
            rfl
          rw [e, es]
          simp
    | load ns =>
      obtain ⟨g1, g2⟩ := gives_ok cok
      simp [A.v]
      refine gives_of_ok (a := .load ns) cok ?_
      rw [fin _ cok rfl]
      simp
      omega
    | make ns =>
      obtain ⟨g1, g2⟩ := gives_ok cok
      simp [A.v]
      refine gives_of_ok (a := .make ns) cok ?_
      rw [fin _ cok rfl]
      simp
      omega
    | send p ns =>
      obtain ⟨g1, g2⟩ := gives_ok cok
      simp [A.v]
      refine gives_of_ok (a := .send p ns) cok ?_
      rw [fin _ cok rfl]
      simp
      omega
    | recv p ns =>
      obtain ⟨g1, g2⟩ := gives_ok cok
      simp [A.v]
      refine gives_of_ok (a := .recv p ns) cok ?_
      rw [fin _ cok rfl]
      simp
      omega
    | save ns =>
      obtain ⟨g1, g2⟩ := gives_ok cok
      simp [A.v]
      refine gives_of_ok (a := .save ns) cok ?_
      rw [fin _ cok rfl]
      simp
      omega
    | tell i =>
      obtain ⟨g1, g2⟩ := gives_ok cok
      simp [A.v]
      refine gives_of_ok (a := .tell i) cok ?_
      rw [fin _ cok rfl]
      simp
      omega
  · rintro env S' ⟨D, x, y, z, rfl, rfl⟩
    have e : as.take (as.map A.v).length = as := by rw [List.length_map, List.take_length]
    rw [e]
    simp
    exact ⟨_, leave_below rfl rfl fun c hc => hS c hc _, q⟩
end
end
end K63

namespace K63
open PySem Mi
open Classical
noncomputable section
def mk : A → Option Int
  | .make ns => some ns.length
  | _ => none
def se : A → Option Int
  | .send _ ns => some ns.length
  | _ => none
def re : A → Option Int
  | .recv _ ns => some ns.length
  | _ => none
def tot (f : A → Option Int) (as : List A) : Int := (as.filterMap f).sum
def lett (as : List A) : Int := (as.filterMap se).length
theorem tot_snoc {f : A → Option Int} {as : List A} {a : A} : tot f (as ++ [a]) = tot f as + (f a).getD 0 := by
  unfold tot
  rw [List.filterMap_append, List.sum_append]
  cases h : f a <;> simp [h]
theorem lett_snoc {as : List A} {a : A} : lett (as ++ [a]) = lett as + (if (se a).isSome = true then 1 else 0) := by
  unfold lett
  rw [List.filterMap_append, List.length_append]
  cases h : se a <;> simp [h]
def row (n : Nat) (as : List A) : List Val := [.int n, .int (tot mk as), .int (lett as), .int (tot se as), .int (tot re as), .int (F as).2]
section
variable {R : Mi.Run} {env : Env'} {k : Nat} {r : List Int} {a : Int} {S T : Sto} {Q : Val → Sto → Prop} {x0 x1 x2 x3 x4 x5 v : Val} {xs : List Val}
theorem we_compM {α : Type} (xs : List α) (f : α → Val) (g : α → Option Val) {own : List (Str × Nat)} {tg : MT} {it cond elt : ME} {src : Option (Nat × Cell)} {S1 : Sto} (h : WE R it env S fun v S' => S' = S1 ∧ itemsOf S1 v = some (xs.map f, src)) (hl : xs.length ≤ sizeLine)
    (hs : ∀ x ∈ xs, OK (bindT S1 tg (f x) (wipeE env (own.map (·.2)))) fun env' => WE R cond env' S1 fun c S2 => OK (tru S2 c) fun k => if k = true then WE R elt env' S2 fun y S3 => S3 = S1 ∧ g x = some y else S2 = S1 ∧ g x = none)
    (hq : Q (.lst (xs.filterMap g)) S1) : WE R (.comp false own tg it cond elt) env S Q := by
  have st : stays src S1 := by
    obtain ⟨v, S', e, rfl, ei⟩ := h
    exact items_stay ei
  refine we_comp (fun j acc S' => S' = S1 ∧ acc = (xs.take j).filterMap g) h ⟨rfl, rfl⟩ (fun j v acc S' hv hi => ?_) (fun acc S' hi => ?_)
  · obtain ⟨rfl, ha⟩ := hi
    rw [List.getElem?_map] at hv
    obtain ⟨x, hx, rfl⟩ := Option.map_eq_some_iff.mp hv
    have hj : j < xs.length := (List.getElem?_eq_some_iff.mp hx).1
    have le : acc.length ≤ j := by
      rw [ha]
      exact Nat.le_trans (List.length_filterMap_le _ _) (by rw [List.length_take]; exact Nat.min_le_left _ _)
    obtain ⟨env', e1, c, S2, e2, k, e3, q⟩ := hs x (List.mem_of_getElem? hx)
    refine ⟨env', e1, c, S2, e2, k, e3, ?_⟩
    cases k with
    | true =>
      rw [if_pos rfl] at q ⊢
      obtain ⟨y, S3, e4, rfl, e5⟩ := q
      exact ⟨y, S3, e4, st, by omega, rfl, by rw [take_snoc hx, List.filterMap_append, ha]; simp [e5]⟩
    | false =>
      rw [if_neg Bool.false_ne_true] at q ⊢
      obtain ⟨rfl, e5⟩ := q
      exact ⟨st, rfl, by rw [take_snoc hx, List.filterMap_append, ha]; simp [e5]⟩
  · obtain ⟨rfl, ha⟩ := hi
    rw [List.length_map, List.take_length] at ha
    subst ha
    exact hq
theorem fm_ints {α : Type} (f : α → Option Int) (xs : List α) : xs.filterMap (fun x => (f x).map Val.int) = (xs.filterMap f).map Val.int := by
  induction xs with
  | nil => rfl
  | cons x xs ih =>
    cases h : f x <;> simp [h, ih]
@[simp] theorem ints_of {ns : List Int} : intsOf (ns.map Val.int) = some ns := by
  induction ns with
  | nil => rfl
  | cons n ns ih =>
    show (intsOf (ns.map Val.int)).map (n :: ·) = _
    rw [ih]
    rfl
def pV (p : Int × A) : Val := .tup [.int p.1, p.2.v]
def actsOf (pr : List (Int × A)) (rk : Int) : List A := pr.filterMap fun p => if p.1 = rk then some p.2 else none
theorem acts_fm {pr : List (Int × A)} {rk : Int} : (pr.filterMap fun p => if p.1 = rk then some p.2.v else none) = (actsOf pr rk).map A.v := by
  unfold actsOf
  induction pr with
  | nil => rfl
  | cons p pr ih =>
    by_cases e : p.1 = rk
    · simp [e, ih]
    · simp [e, ih]
def plan (pr : List (Int × A)) (n : Int) : Val := .ins "Plan" [("acts", .lst (pr.map pV)), ("ranks", .int n)]
theorem acts_of_ok {pr : List (Int × A)} {n rk : Int} (hl : pr.length ≤ 100) (q : Q (.lst ((actsOf pr rk).map A.v)) S) : WC (G.at (k + 1)) "Plan" "acts_of" [plan pr n, .int rk] S Q := by
  refine wc_run (d := d_Plan_acts_of) (by rfl) rfl rfl ?_
  have lb := line_big
  have fd : G.fd "Plan" "acts" = true := by rfl
  simp [d_Plan_acts_of, b_Plan_acts_of]
  refine we_compM pr pV (fun p => if p.1 = rk then some p.2.v else none) (src := none) (S1 := S) ?_ (by omega) (fun p hp => ?_) ?_
  · simp [plan, fd]
  · simp [pV, wipeE, bindT]
  · rw [acts_fm]
    exact q
theorem rank_ok {pr : List (Int × A)} {n rk : Int} (hl : pr.length ≤ 100) (h : ∀ a ∈ actsOf pr rk, a.Ok) (hS : Pu S) (q : Q (.tup (row (actsOf pr rk).length (actsOf pr rk))) S) : WC (G.at (k + 3)) "" "rank_counts" [plan pr n, .int rk] S Q := by
  refine wc_run (d := d_rank_counts) (by rfl) rfl rfl ?_
  have lb := line_big
  have l6 : 6 ≤ sizeLine := by omega
  have hl2 : (actsOf pr rk).length ≤ 100 := Nat.le_trans (List.length_filterMap_le _ _) hl
  simp [d_rank_counts, b_rank_counts]
  have c1 : clsOf S (plan pr n) = some ("Plan", [("acts", .lst (pr.map pV)), ("ranks", .int n)]) := rfl
  simp [c1, List.lookup]
  refine ⟨by rintro a b (⟨rfl, _⟩ | ⟨rfl, _⟩) <;> decide, acts_of_ok hl ?_⟩
  generalize actsOf pr rk = as at *
  simp
  refine we_compM as A.v (fun a => (mk a).map Val.int) (src := none) (S1 := S) (by simp) (by omega) (fun p hp => ?_) ?_
  · cases p <;> simp [A.v, wipeE, mk]
  simp [fm_ints]
  refine we_compM as A.v (fun a => if (se a).isSome = true then some a.v else none) (src := none) (S1 := S) (by simp) (by omega) (fun p hp => ?_) ?_
  · cases p <;> simp [A.v, wipeE, se]
  have el : (as.filterMap fun a => if (se a).isSome = true then some a.v else none).length = (as.filterMap se).length := by
    clear h hl2 q
    induction as with
    | nil => rfl
    | cons a as ih =>
      cases e : se a <;> simp [e, ih]
  simp [el]
  refine we_compM as A.v (fun a => (se a).map Val.int) (src := none) (S1 := S) (by simp) (by omega) (fun p hp => ?_) ?_
  · cases p <;> simp [A.v, wipeE, se]
  simp [fm_ints]
  refine we_compM as A.v (fun a => (re a).map Val.int) (src := none) (S1 := S) (by simp) (by omega) (fun p hp => ?_) ?_
  · cases p <;> simp [A.v, wipeE, re]
  simp [fm_ints, l6]
  refine peak_ok hl2 h hS ?_
  exact q
end
end
end K63

namespace K63
open PySem Mi
open Classical
noncomputable section
section
variable {R : Mi.Run} {env : Env'} {k : Nat} {r : List Int} {a : Int} {S T : Sto} {Q : Val → Sto → Prop} {x0 x1 x2 x3 x4 x5 v : Val} {xs : List Val}
@[simp] theorem put_2 : putC (some (.lst (x0 :: x1 :: x2 :: xs))) (.int 2) v = some (.lst (x0 :: x1 :: v :: xs)) := put_at (k := 2) (by simp)
@[simp] theorem put_3 : putC (some (.lst (x0 :: x1 :: x2 :: x3 :: xs))) (.int 3) v = some (.lst (x0 :: x1 :: x2 :: v :: xs)) := put_at (k := 3) (by simp)
@[simp] theorem put_4 : putC (some (.lst (x0 :: x1 :: x2 :: x3 :: x4 :: xs))) (.int 4) v = some (.lst (x0 :: x1 :: x2 :: x3 :: v :: xs)) := put_at (k := 4) (by simp)
@[simp] theorem put_5 : putC (some (.lst (x0 :: x1 :: x2 :: x3 :: x4 :: x5 :: xs))) (.int 5) v = some (.lst (x0 :: x1 :: x2 :: x3 :: x4 :: v :: xs)) := put_at (k := 5) (by simp)
theorem mem_namsT {x : Val} {ns : List Val} (hx : Nam x) (h : ∀ v ∈ ns, Nam v) : memL x ns = some (decide (x ∈ ns)) := mem_nams hx h
theorem due_ok {as : List A} (hl : as.length ≤ 100) (h : ∀ a ∈ as, a.Ok) (hS : Pu S) (q : Q (.tup (row as.length as)) S) : WC (G.at (k + 2)) "" "_law_due_row" [.lst (as.map A.v)] S Q := by
  refine wc_runP (d := d_law_due_row) (by rfl) rfl rfl ?_
  have lb := line_big
  have l6 : 6 ≤ sizeLine := by omega
  simp [d_law_due_row, b_law_due_row, l6]
  refine ws_loop (vs := as.map A.v) (src := none) (S1 := S ++ [.lst (row as.length [])]) (fun j env S' => ∃ (x y : Option Val), env = [some (.lst (as.map A.v)), some (.lst (F (as.take j)).1), some (.ref S.length), x, y] ∧ S' = S ++ [.lst (row as.length (as.take j))]) (by simp [row, tot, lett, F]) ⟨none, none, by simp [F], by simp⟩ ?_ ?_
  · rintro j v env S' hv ⟨x, y, rfl, rfl⟩
    rw [List.getElem?_map] at hv
    obtain ⟨c, hc, rfl⟩ := Option.map_eq_some_iff.mp hv
    have hj : j < as.length := (List.getElem?_eq_some_iff.mp hc).1
    have cok := h c (List.mem_of_getElem? hc)
    obtain ⟨f1, f2, f3⟩ := F_ok (as := as.take j) fun b hb => h b (List.mem_of_mem_take hb)
    have hlen : (as.take j).length ≤ 100 := by rw [List.length_take]; omega
    obtain ⟨g1, g2⟩ := gives_ok cok
    rw [take_snoc hc, F_snoc]
    unfold row
    rw [tot_snoc, tot_snoc, tot_snoc, lett_snoc, F_snoc]
    generalize tot mk (as.take j) = t1
    generalize tot se (as.take j) = t2
    generalize tot re (as.take j) = t3
    generalize lett (as.take j) = t4
    unfold stp
    generalize hh : (F (as.take j)).1 = hd at f1 f2 ⊢
    generalize hm : (F (as.take j)).2 = mm at f3 ⊢
    cases c with
    | drop ns =>
      simp [A.v, mk, se, re]
      refine act_gives_ok (a := .drop ns) cok ?_
      have nsn : ∀ x ∈ ns, Nam x := cok.2
      simp [A.gives]
      refine ⟨by omega, ?_⟩
      refine we_compP (vs := hd) (src := none) (S1 := S ++ [.lst [.int as.length, .int t1, .int t4, .int t2, .int t3, .int mm]]) (fun x => if x ∈ ns then none else some x) (by simp) (by omega) (fun v hv => ?_) ?_
      · have e := mem_nams (f1 v hv) nsn
        simp [wipeE, e]
      · have e : hd.filterMap (fun x => if x ∈ ns then none else some x) = hd.filter (fun x => decide (x ∉ ns)) := fm_filter (p := fun x => x ∈ ns) hd
        rw [e]
        simp [held]
    | load ns =>
      have c5 : ns.length ≤ 5 := cok.1
      simp [A.v, mk, se, re]
      refine act_gives_ok (a := .load ns) cok ?_
      simp [A.gives, held]
      try omega
    | make ns =>
      have c5 : ns.length ≤ 5 := cok.1
      simp [A.v, mk, se, re]
      refine act_gives_ok (a := .make ns) cok ?_
      simp [A.gives, held]
      try omega
    | send p ns =>
      have c5 : ns.length ≤ 5 := cok.1
      simp [A.v, mk, se, re]
      refine act_gives_ok (a := .send p ns) cok ?_
      simp [A.gives, held]
      try omega
    | recv p ns =>
      have c5 : ns.length ≤ 5 := cok.1
      simp [A.v, mk, se, re]
      refine act_gives_ok (a := .recv p ns) cok ?_
      simp [A.gives, held]
      try omega
    | save ns =>
      have c5 : ns.length ≤ 5 := cok.1
      simp [A.v, mk, se, re]
      refine act_gives_ok (a := .save ns) cok ?_
      simp [A.gives, held]
      try omega
    | tell i =>
      simp [A.v, mk, se, re]
      refine act_gives_ok (a := .tell i) cok ?_
      simp [A.gives, held]
      try omega
  · rintro env S' ⟨x, y, rfl, rfl⟩
    have e : as.take (as.map A.v).length = as := by rw [List.length_map, List.take_length]
    rw [e]
    simp
    exact ⟨_, leave_below rfl rfl fun c hc => hS c hc _, q⟩
end
end
end K63

namespace K63
open PySem Mi
open Classical
noncomputable section
theorem rng_map : ∀ (lo : Int) (n : Nat), rngL lo n = (List.range n).map fun j : Nat => Val.int (lo + j)
  | _, 0 => rfl
  | lo, n + 1 => by
    rw [List.range_succ_eq_map, List.map_cons, List.map_map]
    show Val.int lo :: rngL (lo + 1) n = _
    rw [rng_map (lo + 1) n]
    congr 1
    · simp
    · refine List.map_congr_left fun j _ => ?_
      show Val.int (lo + 1 + j) = Val.int (lo + ((j + 1 : Nat) : Int))
      congr 1
      push_cast
      omega
theorem rng_map0 (n : Nat) : rngL 0 n = (List.range n).map fun j : Nat => Val.int j := by
  rw [rng_map]
  refine List.map_congr_left fun j _ => ?_
  congr 1
  omega
section
variable {k : Nat} {r : List Int} {a : Int} {S T : Sto} {Q : Val → Sto → Prop}
def rw (pr : List (Int × A)) (j : Nat) : Val := .tup (row (actsOf pr j).length (actsOf pr j))
def col (pr : List (Int × A)) (n : Nat) (f : List A → Int) : List Int := (List.range n).map fun j : Nat => f (actsOf pr (j : Int))
def res (pr : List (Int × A)) (n : Nat) (rows : Val) : Val := .tup [.int (col pr n lett).sum, .int (col pr n (tot se)).sum, .int ((maxI (col pr n fun as => (F as).2)).getD 0), rows]
theorem counts_ok {pr : List (Int × A)} {n : Nat} (hn : n ≤ 100) (hl : pr.length ≤ 100) (h : ∀ rk : Int, ∀ a ∈ actsOf pr rk, a.Ok) (hS : Pu S) (q : Q (res pr n (.lst ((List.range n).map (rw pr)))) S) : WC (G.at (k + 4)) "" "counts" [plan pr n] S Q := by
  refine wc_run (d := d_counts) (by rfl) rfl rfl ?_
  have lb := line_big
  have l4 : 4 ≤ sizeLine := by omega
  have fd : G.fd "Plan" "ranks" = true := by rfl
  have c1 : ∀ S, clsOf S (plan pr n) = some ("Plan", [("acts", .lst (pr.map pV)), ("ranks", .int n)]) := fun _ => rfl
  simp [d_counts, b_counts]
  refine we_compM (List.range n) (fun j : Nat => Val.int j) (fun j => some (rw pr j)) (src := none) (S1 := S) ?_ (by simp; omega) (fun j hj => ?_) ?_
  · simp [c1, fd, List.lookup]
    exact ⟨by omega, rng_map0 n⟩
  · simp [wipeE]
    exact rank_ok hl (h j) hS (by simp [rw])
  rw [fm_map]
  try simp
  refine we_compM (List.range n) (rw pr) (fun j => some (.int (lett (actsOf pr j)))) (src := none) (S1 := S) (by simp) (by simp; omega) (fun j hj => by simp [wipeE, rw, row]) ?_
  rw [fm_map, show ((List.range n).map fun j : Nat => Val.int (lett (actsOf pr j))) = (col pr n lett).map Val.int by simp [col]]
  simp
  refine we_compM (List.range n) (rw pr) (fun j => some (.int (tot se (actsOf pr j)))) (src := none) (S1 := S) (by simp) (by simp; omega) (fun j hj => by simp [wipeE, rw, row]) ?_
  rw [fm_map, show ((List.range n).map fun j : Nat => Val.int (tot se (actsOf pr j))) = (col pr n (tot se)).map Val.int by simp [col]]
  simp
  refine we_compM (List.range n) (rw pr) (fun j => some (.int (F (actsOf pr j)).2)) (src := none) (S1 := S) (by simp) (by simp; omega) (fun j hj => by simp [wipeE, rw, row]) ?_
  rw [fm_map, show ((List.range n).map fun j : Nat => Val.int (F (actsOf pr j)).2) = (col pr n fun as => (F as).2).map Val.int by simp [col]]
  simp [l4]
  exact q
theorem eqv_ints {S : Sto} {n : Nat} {is : List Int} (hl : is.length ≤ 100) : Eqv S (n + 1) (.tup (is.map Val.int)) (.tup (is.map Val.int)) :=
  .seq n .tuple (.inl rfl) seq_tupS seq_tupS rfl (by rw [List.length_map]; omega) fun i u v h1 h2 => by
    rw [h1] at h2
    cases h2
    rw [List.getElem?_map] at h1
    obtain ⟨j, _, rfl⟩ := Option.map_eq_some_iff.mp h1
    exact .int n j
theorem eqv_row {S : Sto} {n m : Nat} {as : List A} : Eqv S (n + 1) (.tup (row m as)) (.tup (row m as)) := eqv_ints (is := [(m : Int), tot mk as, lett as, tot se as, tot re as, (F as).2]) (by simp)
theorem eqv_rows {S : Sto} {pr : List (Int × A)} {n N i : Nat} (hN : N ≤ 100) (h : S[i]? = some (.lst ((List.range N).map (rw pr)))) : Eqv S (n + 2) (.lst ((List.range N).map (rw pr))) (.ref i) :=
  .seq (n + 1) .list (.inr rfl) seq_lstS (seq_refS h) rfl (by simp; omega) fun i u v h1 h2 => by
    rw [h1] at h2
    cases h2
    rw [List.getElem?_map] at h1
    obtain ⟨j, _, rfl⟩ := Option.map_eq_some_iff.mp h1
    exact eqv_row
theorem eqv_res {S : Sto} {pr : List (Int × A)} {n N i : Nat} (hN : N ≤ 100) (h : S[i]? = some (.lst ((List.range N).map (rw pr)))) : Eqv S (n + 3) (res pr N (.lst ((List.range N).map (rw pr)))) (res pr N (.ref i)) :=
  .seq (n + 2) .tuple (.inl rfl) seq_tupS seq_tupS rfl (by simp) fun i u v h1 h2 => by
    match i with
    | 0 => cases h1; cases h2; exact .int _ _
    | 1 => cases h1; cases h2; exact .int _ _
    | 2 => cases h1; cases h2; exact .int _ _
    | 3 => cases h1; cases h2; exact eqv_rows hN h
    | i + 4 => simp at h1
theorem plan_ok {pr : List (Int × A)} {n : Int} (hp : ∀ p ∈ pr, p.2.Ok) (hS : Pu S) : WC (G.at (k + 1)) "Plan" "__init__" [.ref S.length, .lst (pr.map pV), .int n] (S ++ [.ins "Plan" []]) fun v S2 => v = .non ∧ S2 = S ++ [.ins "Plan" [("acts", .lst (pr.map pV)), ("ranks", .int n)]] := by
  refine wc_run (d := d_Plan_init) (by rfl) rfl rfl ?_
  have fd1 : G.fd "Plan" "ranks" = true := by rfl
  have fd2 : G.fd "Plan" "acts" = true := by rfl
  simp [d_Plan_init, b_Plan_init, fd1, fd2, putS]
theorem pv_below {pr : List (Int × A)} (hp : ∀ p ∈ pr, p.2.Ok) (b : Nat) : belows b (pr.map pV) = true := belows_iff.mpr fun v hv => by
  obtain ⟨p, hp', rfl⟩ := List.mem_map.mp hv
  have := act_below (hp p hp') b
  simp [pV, below, belows, this]
theorem plan_leave {pr : List (Int × A)} {n : Int} (hp : ∀ p ∈ pr, p.2.Ok) (hS : Pu S) : leave (S ++ [.ins "Plan" [("acts", .lst (pr.map pV)), ("ranks", .int n)]]) S.length (.ref S.length) = some (plan pr n, S) := by
  refine leave_to ?_ rfl fun c hc => hS c hc _
  show (if S.length < S.length then some (Val.ref S.length) else match (S ++ [Cell.ins "Plan" [("acts", .lst (pr.map pV)), ("ranks", .int n)]])[S.length]? with
      | some (.lst vs) => (seqOpt (vs.map (frz (S ++ [Cell.ins "Plan" [("acts", .lst (pr.map pV)), ("ranks", .int n)]]) S.length 5))).map .lst
      | some (.ins c fs) => (seqOpt (fs.map fun q => (frz (S ++ [Cell.ins "Plan" [("acts", .lst (pr.map pV)), ("ranks", .int n)]]) S.length 5 q.2).map fun v => (q.1, v))).map (.ins c)
      | _ => none) = _
  rw [if_neg (Nat.lt_irrefl _), get_last]
  dsimp only
  rw [seq_allf fun q hq => frz_below 5 q.2 (by
    simp only [List.mem_cons, List.not_mem_nil, or_false] at hq
    rcases hq with rfl | rfl
    · show belows _ _ = true
      exact pv_below hp _
    · rfl)]
  rfl
end
end
end K63

namespace K63
open PySem Mi
open Classical
noncomputable section
theorem max_some {is : List Int} (h : is ≠ []) : maxI is = some ((maxI is).getD 0) := by
  cases is with
  | nil => exact absurd rfl h
  | cons _ _ => rfl
theorem law_wc (ns : List Int) : WC (G.at 20) "" "law" [.lsk (ns.map Val.int)] [] fun v _ => v = .bl true := by
  refine wc_runP (d := d_law) (by rfl) rfl rfl ?_
  have lb := line_big
  have l2 : 2 ≤ sizeLine := by omega
  have l4 : 4 ≤ sizeLine := by omega
  have fzP : G.fz "Plan" = true := by rfl
  simp [d_law, b_law, l2]
  refine row_ok tC tR fun r => ?_
  simp [l2]
  refine job_ok (most := 1) (a := 0) (r := r) tD tW tWo tF tT tL tN tJ (by omega) (by omega) fun job b hb hjob => ?_
  try simp
  refine pool_ok tCs tP hjob (fun c hc b => ?_) fun pool p0 p1 hpool => ?_
  · rw [List.mem_singleton] at hc
    subst hc
    exact bx_below
  try simp
  refine draw_ok tD hb (by omega) fun rk0 k0 k1 => ?_
  obtain ⟨N, hN⟩ : ∃ N : Nat, (1 : Int) + rk0 = N ∧ 1 ≤ N ∧ N ≤ 5 := ⟨(1 + rk0).toNat, by omega, by omega, by omega⟩
  simp [hN.1]
  refine ws_rngE (fun n S1 => ∃ b, 0 ≤ b ∧ 0 ≤ n ∧ n ≤ 40 ∧ S1 = [bx r b, .lst []]) ?_ fun n S1 ⟨b, hb, hn0, hn1, e⟩ => ⟨by omega, fun j env S => ∃ (pr : List (Int × A)) (b : Int) (x : Option Val), 0 ≤ b ∧ pr.length = j ∧ (∀ p ∈ pr, p.2.Ok) ∧ env = [some (.lsk (ns.map Val.int)), some (.ref 0), some job, some (.lst pool), some (.int N), some (.ref 1), x, none, none, none, none, none, none] ∧ S = [bx r b, .lst (pr.map pV)], ⟨[], b, none, hb, rfl, fun p hp => (by cases hp), rfl, e⟩, ?_, ?_⟩
  · simp
    refine draw_ok tD (by omega) (by omega) fun c c0 c1 => ?_
    exact ⟨_, rfl, b + 1 + 1, by omega, c0, by omega, rfl⟩
  · rintro j env S hj ⟨pr, b, x, hb, hl, hp, rfl, rfl⟩
    have hj : j < 40 := by omega
    simp [l2]
    refine draw_ok tD hb (by omega) fun c c0 c1 => ?_
    refine drawn_act_ok p0 hpool (by omega) (fun c hc b => ?_) fun act b' hb' hact => ?_
    · rw [List.mem_singleton] at hc
      subst hc
      exact pv_below hp b
    simp [l2]
    refine ⟨by omega, pr ++ [(c, act)], b', hb', by simp [hl], ?_, rfl, by simp [pV]⟩
    intro u v huv
    rcases List.mem_append.mp huv with m | m
    · exact hp _ m
    · rw [List.mem_singleton] at m
      cases m
      exact hact
  · rintro env S ⟨pr, b, x, hb, hl, hp, rfl, rfl⟩
    have hl : pr.length ≤ 40 := by omega
    have hact : ∀ rk : Int, ∀ a ∈ actsOf pr rk, a.Ok := fun rk a ha => by
      obtain ⟨p, hp', e⟩ := List.mem_filterMap.mp ha
      split at e
      · cases e
        exact hp p hp'
      · cases e
    have hS2 : Pu [bx r b, .lst (pr.map pV)] := fun c hc b => by
      simp only [List.mem_cons, List.not_mem_nil, or_false] at hc
      rcases hc with rfl | rfl
      · exact bx_below
      · exact pv_below hp b
    simp
    have hpl := plan_ok (k := 18) (S := [bx r b, .lst (pr.map pV)]) (n := N) hp hS2
    obtain ⟨v, S2, e1, rfl, rfl⟩ := hpl
    refine ⟨_, _, e1, rfl, ?_⟩
    have hlv := plan_leave (S := [bx r b, .lst (pr.map pV)]) (n := N) hp hS2
    rw [if_pos fzP]
    refine ⟨_, hlv, ?_⟩
    simp
    refine ws_rng (N : Int) (S1 := [bx r b, .lst (pr.map pV), .lst []]) (fun j env S => ∃ (y : Option Val), env = [some (.lsk (ns.map Val.int)), some (.ref 0), some job, some (.lst pool), some (.int N), some (.ref 1), x, some (plan pr N), some (.ref 2), y, none, none, none] ∧ S = [bx r b, .lst (pr.map pV), .lst ((List.range j).map (rw pr))]) (by simp) (by omega) ⟨none, rfl, by simp⟩ ?_ ?_
    · rintro j env S hj ⟨y, rfl, rfl⟩
      have hj : j < N := by simpa using hj
      simp
      refine we_compM pr pV (fun p => if p.1 = j then some p.2.v else none) (src := some (1, .lst (pr.map pV))) (S1 := [bx r b, .lst (pr.map pV), .lst ((List.range j).map (rw pr))]) (by simp) (by omega) (fun p hp => by simp [pV, wipeE]) ?_
      rw [acts_fm]
      have hla : (actsOf pr j).length ≤ 100 := Nat.le_trans (List.length_filterMap_le _ _) (by omega)
      have hrow : ∀ m : Nat, ∀ v ∈ (List.range m).map (rw pr), ∀ b, below b v = true := fun m v hv b => by
        obtain ⟨i, _, rfl⟩ := List.mem_map.mp hv
        rfl
      have hS3 : ∀ m : Nat, Pu [bx r b, .lst (pr.map pV), .lst ((List.range m).map (rw pr))] := fun m => Pu.snoc (S := [bx r b, .lst (pr.map pV)]) hS2 (hrow m)
      refine due_ok hla (hact j) (hS3 j) ?_
      simp
      refine ⟨by omega, ?_⟩
      have er : (List.range j).map (rw pr) ++ [Val.tup (row (actsOf pr j).length (actsOf pr j))] = (List.range (j + 1)).map (rw pr) := by
        rw [List.range_succ, List.map_append]
        rfl
      rw [er]
      refine rank_ok (by omega) (hact j) (hS3 (j + 1)) ?_
      have ea : L2.atI ((List.range (j + 1)).map (rw pr)) (j : Int) = some (rw pr j) := at_lit (by simp)
      simp [ea]
      refine same_ok (k := 16) (n := 1) tI tS eqv_row ?_
      simp
    · rintro env S ⟨y, rfl, rfl⟩
      have hN' : (N : Int).toNat = N := by omega
      rw [hN']
      have hrow : ∀ m : Nat, ∀ v ∈ (List.range m).map (rw pr), ∀ b, below b v = true := fun m v hv b => by
        obtain ⟨i, _, rfl⟩ := List.mem_map.mp hv
        rfl
      have hS3 : Pu [bx r b, .lst (pr.map pV), .lst ((List.range N).map (rw pr))] := Pu.snoc (S := [bx r b, .lst (pr.map pV)]) hS2 (hrow N)
      simp
      refine we_compM (List.range N) (rw pr) (fun j => some (.int (lett (actsOf pr j)))) (src := some (2, .lst ((List.range N).map (rw pr)))) (S1 := [bx r b, .lst (pr.map pV), .lst ((List.range N).map (rw pr))]) (by simp) (by simp; omega) (fun j hj => by simp [wipeE, rw, row]) ?_
      rw [fm_map, show ((List.range N).map fun j : Nat => Val.int (lett (actsOf pr j))) = (col pr N lett).map Val.int by simp [col]]
      try simp
      refine we_compM (List.range N) (rw pr) (fun j => some (.int (tot se (actsOf pr j)))) (src := some (2, .lst ((List.range N).map (rw pr)))) (S1 := [bx r b, .lst (pr.map pV), .lst ((List.range N).map (rw pr))]) (by simp) (by simp; omega) (fun j hj => by simp [wipeE, rw, row]) ?_
      rw [fm_map, show ((List.range N).map fun j : Nat => Val.int (tot se (actsOf pr j))) = (col pr N (tot se)).map Val.int by simp [col]]
      try simp
      refine we_compM (List.range N) (rw pr) (fun j => some (.int (F (actsOf pr j)).2)) (src := some (2, .lst ((List.range N).map (rw pr)))) (S1 := [bx r b, .lst (pr.map pV), .lst ((List.range N).map (rw pr))]) (by simp) (by simp; omega) (fun j hj => by simp [wipeE, rw, row]) ?_
      rw [fm_map, show ((List.range N).map fun j : Nat => Val.int (F (actsOf pr j)).2) = (col pr N fun as => (F as).2).map Val.int by simp [col]]
      have em := max_some (is := col pr N fun as => (F as).2) (by
        intro e
        have := congrArg List.length e
        simp [col] at this
        omega)
      simp [l4]
      rw [em]
      try simp
      refine counts_ok (k := 15) (by omega) (by omega) hact hS3 ?_
      refine same_ok (k := 14) (n := 3) tI tS (eqv_res (n := 0) (i := 2) (by omega) rfl) ?_
      try simp
      exact ⟨_, leave_below (S := []) rfl rfl fun c hc => (by cases hc), rfl⟩
theorem plain : ∀ ns : List Int, ns.length ≤ 63 → ∃ S', Mi.run G 20 "" "law" [.lsk (ns.map .int)] [] = some (.bl true, S') := fun ns _ => by
  obtain ⟨v, S', e, rfl⟩ := law_wc ns
  exact ⟨S', e⟩
end
end K63

open PySem PySem.W PySem.Calls PyProof.Rows
theorem PySem.Challenge.cw_asifone_k63_counts_of_plans_holds : PySem.Challenge.rw_asifone_k63_counts_of_plans.Holds := by
  w_on; o_law
  refine HandSHeadRun.head_any (r := OpenLaw.row PySem.Challenge.rw_asifone_k63_counts_of_plans) (q := view (OpenLaw.row PySem.Challenge.rw_asifone_k63_counts_of_plans).prog [27]) (H := K63.hk) (ob := K63.ob) (M := 2000) (loose := K63.names) (d := HandSHeadRun.topDef (OpenLaw.row PySem.Challenge.rw_asifone_k63_counts_of_plans).prog 27) (kwd := []) K63.ob_eq
    (by kernel_rfl) (fun s => by kernel_rfl) K63.run (by kernel_rfl) (by kernel_rfl) (by kernel_rfl) (by rfl) (by first | assumption | decide +kernel) (by decide +kernel) ⟨rfl, rfl, rfl, rfl, rfl, by decide +kernel⟩ ?hw ?hc
  case hw => w_witness2
  case hc =>
    refine L2.walk_ofE (l := PySem.Challenge.rw_asifone_k63_counts_of_plans) (n := 63) (k := 41) (x := "_law_script") (CX := L2.CX0) rfl (by decide) (by kernel_rfl) ⟨rfl, by decide, by decide⟩ ?F (fun _ _ _ _ z => z)
    intro w mg fa h Y hG hmg0
    obtain ⟨K, KX, c⟩ := Y
    have hmg : mg ("law" : PySem.Str) = some (.ref fa) := by
      have e : (HandSHeadRun.topDef (OpenLaw.row PySem.Challenge.rw_asifone_k63_counts_of_plans).prog 27).name = ("law" : PySem.Str) := by kernel_rfl
      rw [← e]
      exact hmg0
    obtain ⟨fd, hb, hF⟩ := K63.facts (P := (PySem.Challenge.rw_asifone_k63_counts_of_plans).prog) (w := w) (ok := fun ns => ns.length ≤ 63) KX hG hmg c K63.plain
    exact ⟨K, fd, Mi.spLaw K _, KX, hb, fun H a ns hl _ hS => ⟨a, ns, rfl, hS, hl, fun _ => rfl⟩, hF⟩

