import PyProof.Rows.All
import Wide.All
import OpenK.AllK
import Wide.FinOn
import KE.KDictCopyH
import KE.KTupTabMore
import HandS.ForMost
import HandS.Walk
import HandS.HeadHook1
import HandS.TupLe
import HandS.TupAny
import HandS.Style
import HandS.Deep
import HandS.IsInst
import HandS.RaiseMore
import HandS.Defaults
import KE.KDictWalk
import KE.KDictKeyed
import HandS.TupLen
import KE.GoesEnum
import KE.GoesMore
import KE.KDictItemsList
import HandS.Conv
import HandS.ListItems
import KE.SortData
import PyProof.ReprRoads
import HandS.HeadEnd
import HandS.Ends
import KE.KStateDown
import HandS.Head0
import HandS.Head1
import HandS.Head2
import HandS.HeadHook2
import PySem.Challenge.RW_pilereach_k47_whole_endless_decided

set_option Elab.async false

section
set_option Elab.async false
set_option linter.all false
/-! D0: plain data, slot values, the denotation of expressions and statements (no program in sight). -/
namespace DL
open PySem (Str Addr)

/-- key kinds of a dict: an int, a pair of ints, a triple of ints with a flag -/
inductive KK where
  | i | t | e
  deriving DecidableEq
/-- the classes -/
inductive CN where
  | step | machine | takeoff | heads | rows
  deriving DecidableEq
/-- plain data, as values -/
inductive D where
  | non | bl (b : Bool) | int (i : Int) | str (s : Str)
  | tup (l : List D) | lst (l : List D) | dic (k : KK) (kvs : List (List Int × D)) | obj (c : CN) (fs : List D)
  /-- the law's own script -/
  | scr (l : List Int)

def b2 (b : Bool) : Int := if b then 1 else 0
def ofKey : KK → List Int → D
  | .i, [k] => .int k
  | .t, [a, b] => .tup [.int a, .int b]
  | .e, [a, b, c, f] => .tup [.int a, .int b, .int c, .bl (decide (f ≠ 0))]
  | _, _ => .non
def toKey : KK → D → Option (List Int)
  | .i, .int k => some [k]
  | .t, .tup [.int a, .int b] => some [a, b]
  | .e, .tup [.int a, .int b, .int c, .bl f] => some [a, b, c, b2 f]
  | _, _ => none

/-! ### dicts -/
section
variable {α : Type}
def look (kvs : List (List Int × α)) (k : List Int) : Option α := (kvs.find? fun p => decide (p.1 = k)).map (·.2)
def put (kvs : List (List Int × α)) (k : List Int) (v : α) : List (List Int × α) :=
  if (kvs.any fun p => decide (p.1 = k)) then kvs.map fun p => if p.1 = k then (p.1, v) else p else kvs ++ [(k, v)]
end

/-- a mutable container of one's own -/
inductive C1 where
  | lst (l : List D)
  | dic (k : KK) (kvs : List (List Int × D))
  /-- a dict (pairs as keys) whose values are lists of one's own -/
  | dil (kvs : List (List Int × List D))
inductive Fld where
  | dat (d : D) | own (c : C1)
/-- what a slot holds: data that never changes, a container of one's own, an object of one's own (at an address, if it is known) -/
inductive SV where
  | dat (d : D) | own (c : C1) | obj (t : Option Addr) (c : CN) (fs : List Fld)
  /-- an object at an address, lent away -/
  | ptr (a : Addr)
def C1.frz : C1 → D
  | .lst l => .lst l
  | .dic k kvs => .dic k kvs
  | .dil kvs => .dic .t (kvs.map fun p => (p.1, .lst p.2))
def Fld.frz : Fld → D
  | .dat d => d
  | .own c => c.frz
def SV.frz : SV → D
  | .dat d => d
  | .own c => c.frz
  | .obj _ c fs => .obj c (fs.map Fld.frz)
  | .ptr _ => .non
def SV.isP : SV → Bool
  | .ptr _ => true
  | _ => false

abbrev Env := List (Option SV)
abbrev EX := Env → Option D
abbrev EXs := Env → Option (List D)
def lim : Nat := 1000000

/-! ### parts of data -/
def seqD : D → Option (List D)
  | .tup l => some l
  | .lst l => some l
  | .scr l => some (l.map .int)
  | _ => none
def intD : D → Option Int
  | .int i => some i
  | _ => none
def blD : D → Option Bool
  | .bl b => some b
  | _ => none
def tupD : D → Option (List D)
  | .tup l => some l
  | _ => none
def lstD : D → Option (List D)
  | .lst l => some l
  | _ => none
def dicD (k : KK) : D → Option (List (List Int × D))
  | .dic k' kvs => if k' = k then some kvs else none
  | _ => none
def objD (c : CN) : D → Option (List D)
  | .obj c' fs => if c' = c then some fs else none
  | _ => none
def isNon : D → Bool
  | .non => true
  | _ => false
/-! data as the library has it -/
mutual
def D.py : D → PySem.PyData
  | .non => .none
  | .bl b => .bool b
  | .int i => .int i
  | .str s => .str s
  | .tup l => .tuple (pyL l)
  | .lst l => .list (pyL l)
  | .dic _ _ => .none
  | .obj _ _ => .none
  | .scr _ => .none
def pyL : List D → List PySem.PyData
  | [] => []
  | d :: l => d.py :: pyL l
end
mutual
/-- no dict, no object within -/
def D.pure : D → Bool
  | .tup l => pureL l
  | .lst l => pureL l
  | .dic _ _ => false
  | .obj _ _ => false
  | .scr _ => false
  | _ => true
def pureL : List D → Bool
  | [] => true
  | d :: l => d.pure && pureL l
end

/-! ### operations on data -/
abbrev O2 := D → D → Option D
def oI (f : Int → Int → D) : O2 := fun a b => (intD a).bind fun i => (intD b).bind fun j => some (f i j)
def oAdd := oI fun i j => .int (i + j)
def oSub := oI fun i j => .int (i - j)
/-- i * j, one of them within 64 bits -/
def oMul : O2 := fun a b => (intD a).bind fun i => (intD b).bind fun j => if (-(2 ^ 64) < i ∧ i < 2 ^ 64) ∨ (-(2 ^ 64) < j ∧ j < 2 ^ 64) then some (.int (i * j)) else none
/-- i % j, i // j, j positive -/
def oMod : O2 := fun a b => (intD a).bind fun i => (intD b).bind fun j => if 0 < j then some (.int (i % j)) else none
def oDiv : O2 := fun a b => (intD a).bind fun i => (intD b).bind fun j => if 0 < j ∧ j < 1073741824 then some (.int (i / j)) else none
/-- i ** j -/
def oPow : O2 := fun a b => (intD a).bind fun i => (intD b).bind fun j => if 0 ≤ j ∧ j ≤ 1000000 ∧ i.natAbs < 2 ^ 64 then some (.int (i ^ j.toNat)) else none
/-- a list + a list, a tuple + a tuple -/
def oCat : O2 := fun a b => (lstD a).bind fun i => (lstD b).bind fun j => if i.length + j.length ≤ lim then some (.lst (i ++ j)) else none
def oCatT : O2 := fun a b => (tupD a).bind fun i => (tupD b).bind fun j => if i.length + j.length ≤ lim then some (.tup (i ++ j)) else none
def oLt := oI fun i j => .bl (decide (i < j))
def oLe := oI fun i j => .bl (decide (i ≤ j))
def oGt := oI fun i j => .bl (decide (j < i))
def oGe := oI fun i j => .bl (decide (j ≤ i))
def oEqI := oI fun i j => .bl (decide (i = j))
def oNeI := oI fun i j => .bl (!decide (i = j))
/-- == and != of texts -/
def oEqS : O2
  | .str a, .str b => some (.bl (decide (a = b)))
  | _, _ => none
def oNeS : O2
  | .str a, .str b => some (.bl (!decide (a = b)))
  | _, _ => none
/-- == and != of any data -/
def oEqD : O2 := fun a b => if a.pure ∧ b.pure ∧ PySem.SeqAt.shaped a.py ∧ PySem.SeqAt.shaped b.py then some (.bl (PySem.PyData.eqv a.py b.py)) else none
def oNeD : O2 := fun a b => if a.pure ∧ b.pure ∧ PySem.SeqAt.shaped a.py ∧ PySem.SeqAt.shaped b.py then some (.bl (!PySem.PyData.eqv a.py b.py)) else none
/-- tuples of ints: <= -/
def intsD : List D → Option (List Int)
  | [] => some []
  | .int i :: l => (intsD l).map (i :: ·)
  | _ => none
def lexLe : List Int → List Int → Bool
  | [], _ => true
  | _ :: _, [] => false
  | x :: xs, y :: ys => if x = y then lexLe xs ys else decide (x < y)
def oLeT : O2 := fun a b => ((tupD a).bind intsD).bind fun i => ((tupD b).bind intsD).bind fun j => some (.bl (lexLe i j))
/-- an int in a list or a tuple of ints -/
def oInI (neg : Bool) : O2 := fun a b => (intD a).bind fun i => ((seqD b).bind intsD).bind fun l => some (.bl (if neg then !decide (i ∈ l) else decide (i ∈ l)))
/-- data not in a tuple of data -/
def oNotInT : O2 := fun a b => (tupD b).bind fun l => if a.pure ∧ pureL l ∧ PySem.SeqAt.shaped a.py ∧ PySem.SeqAt.shaped b.py then some (.bl (!(pyL l).any fun z => PySem.PyData.eqv z a.py)) else none
def oIsN : D → Option D := fun d => some (.bl (isNon d))
def oNotN : D → Option D := fun d => some (.bl (!isNon d))
def atD (l : List D) (i : Int) : Option D := if 0 ≤ i then l[i.toNat]? else none
/-- xs[i] of a list or a tuple -/
def oIx : O2 := fun a b => (seqD a).bind fun l => (intD b).bind fun j => atD l j

/-! ### expressions -/
def slot (r : Env) (i : Nat) : Option SV := (r[i]?).join
def eV (i : Nat) : EX := fun r => match slot r i with
  | some (.dat d) => some d
  | _ => none
def eC (d : D) : EX := fun _ => some d
def aN : EXs := fun _ => some []
def aC (e : EX) (es : EXs) : EXs := fun r => (e r).bind fun d => (es r).bind fun ds => some (d :: ds)
def eTup (a : EXs) : EX := fun r => (a r).bind fun ds => if ds.length ≤ lim then some (.tup ds) else none
def eLst (a : EXs) : EX := fun r => (a r).bind fun ds => if ds.length ≤ lim then some (.lst ds) else none
def e2 (f : O2) (a b : EX) : EX := fun r => (a r).bind fun d => (b r).bind fun e => f d e
def e1 (f : D → Option D) (a : EX) : EX := fun r => (a r).bind f
/-- a call: of a def, a built-in -/
def eCall (g : List D → Option D) (a : EXs) : EX := fun r => (a r).bind g
def eIx := e2 oIx
/-- d[k] of a dict that is data -/
def oGet (k : KK) : O2 := fun a b => (dicD k a).bind fun kvs => (toKey k b).bind fun j => look kvs j
/-- k in d, k not in d -/
def oIn (k : KK) (neg : Bool) : O2 := fun b a => (dicD k a).bind fun kvs => (toKey k b).bind fun j => some (.bl (if neg then !(look kvs j).isSome else (look kvs j).isSome))
/-- d.get(k, []) -/
def oGetL : O2 := fun a b => (dicD .t a).bind fun kvs => (toKey .t b).bind fun j => some ((look kvs j).getD (.lst []))
/-- t[:n], t[n:] of a tuple (a proper part) -/
def oTo (n : Nat) : D → Option D := fun d => (tupD d).bind fun l => if n < l.length ∧ l.length ≤ lim then some (.tup (l.take n)) else none
def oFrom (n : Nat) : D → Option D := fun d => (tupD d).bind fun l => if 0 < n ∧ n ≤ l.length ∧ l.length ≤ lim then some (.tup (l.drop n)) else none
/-- o.f: the j-th attribute of an object that is data -/
def oFld (c : CN) (j : Nat) : D → Option D := fun d => (objD c d).bind fun fs => fs[j]?
/-- .. of an object of one's own (in slot i), an attribute that is data -/
def eOFld (i : Nat) (c : CN) (j : Nat) : EX := fun r => match slot r i with
  | some (.obj _ c' fs) => if c' = c then (match fs[j]? with
    | some (.dat d) => some d
    | _ => none) else none
  | _ => none
/-- a ≤ b < c of ints -/
def eLeLt (a b c : EX) : EX := fun r => ((a r).bind intD).bind fun i => ((b r).bind intD).bind fun j =>
  if i ≤ j then ((c r).bind intD).bind fun k => some (.bl (decide (j < k))) else some (.bl false)
def eNot (a : EX) : EX := fun r => ((a r).bind blD).bind fun b => some (.bl (!b))
def eAnd (a b : EX) : EX := fun r => ((a r).bind blD).bind fun c => if c then (b r).bind fun d => (blD d).map .bl else some (.bl false)
def eOr (a b : EX) : EX := fun r => ((a r).bind blD).bind fun c => if c then some (.bl true) else (b r).bind fun d => (blD d).map .bl

/-! ### places of one's own: a slot, an attribute of the object in a slot -/
inductive Pl where
  | s (i : Nat) | f (i : Nat) (c : CN) (j : Nat)
def getP (r : Env) : Pl → Option C1
  | .s i => match slot r i with
    | some (.own c) => some c
    | _ => none
  | .f i c j => match slot r i with
    | some (.obj _ c' fs) => if c' = c then (match fs[j]? with
      | some (.own x) => some x
      | _ => none) else none
    | _ => none
def setP (r : Env) (x : C1) : Pl → Env
  | .s i => r.set i (some (.own x))
  | .f i c j => match slot r i with
    | some (.obj t c' fs) => r.set i (some (.obj t c' (fs.set j (.own x))))
    | _ => r
def c1L : C1 → Option (List D)
  | .lst l => some l
  | _ => none
def c1D (k : KK) : C1 → Option (List (List Int × D))
  | .dic k' kvs => if k' = k then some kvs else none
  | _ => none
def c1B : C1 → Option (List (List Int × List D))
  | .dil kvs => some kvs
  | _ => none
/-- len(p): a list, a dict -/
def pLen (p : Pl) : EX := fun r => (getP r p).bind fun c => match c with
  | .lst l => some (.int l.length)
  | .dic _ kvs => some (.int kvs.length)
  | .dil kvs => some (.int kvs.length)
/-- p[e] of a list, of a dict; p[-1] -/
def pIx (p : Pl) (e : EX) : EX := fun r => ((getP r p).bind c1L).bind fun l => ((e r).bind intD).bind fun j => atD l j
def pLast (p : Pl) : EX := fun r => ((getP r p).bind c1L).bind fun l => l.getLast?
def pGet (k : KK) (p : Pl) (e : EX) : EX := fun r => ((getP r p).bind (c1D k)).bind fun kvs => ((e r).bind (toKey k)).bind fun j => look kvs j
def pIn (k : KK) (neg : Bool) (e : EX) (p : Pl) : EX := fun r => ((getP r p).bind (c1D k)).bind fun kvs => ((e r).bind (toKey k)).bind fun j => some (.bl (if neg then !(look kvs j).isSome else (look kvs j).isSome))

/-! ### statements -/
inductive Res where
  | fail | nx (r : Env) | rt (d : D) (r : Env)
abbrev ST := Env → Res
def sNil : ST := fun r => .nx r
def sSeq (a b : ST) : ST := fun r => match a r with
  | .nx r' => b r'
  | z => z
def sBind {α : Type} (o : Option α) (f : α → Res) : Res := match o with
  | some x => f x
  | none => .fail
/-- x = e -/
def sSet (i : Nat) (e : EX) : ST := fun r => sBind (e r) fun d => .nx (r.set i (some (.dat d)))
/-- forgetting slots -/
def sFgt (l : List Nat) : ST := fun r => .nx (l.foldl (fun r i => r.set i none) r)
/-- freezing what a slot holds -/
def sFrz (i : Nat) : ST := fun r => sBind (slot r i) fun v => if v.isP then .fail else .nx (r.set i (some (.dat v.frz)))
/-- freezing an attribute of the object in slot i -/
def sFrzF (i j : Nat) : ST := fun r => match slot r i with
  | some (.obj t c fs) => sBind fs[j]? fun f => .nx (r.set i (some (.obj t c (fs.set j (.dat f.frz)))))
  | _ => .fail
/-- x = y, y holding a thing of one's own that goes over to x -/
def sMove (i j : Nat) : ST := fun r => match slot r j with
  | some (.own c) => if i = j then .fail else .nx ((r.set j none).set i (some (.own c)))
  | _ => .fail
/-- x = [] | {} | [e, ..] | list(..) of one's own -/
def sOwn (i : Nat) (c : Env → Option C1) : ST := fun r => sBind (c r) fun c => .nx (r.set i (some (.own c)))
def cNewL (a : EXs) : Env → Option C1 := fun r => (a r).bind fun l => if l.length ≤ lim then some (.lst l) else none
def cNewD (k : KK) : Env → Option C1 := fun _ => some (.dic k [])
/-- list(p): the keys of a dict of one's own -/
def cKeys (k : KK) (p : Pl) : Env → Option C1 := fun r => ((getP r p).bind (c1D k)).bind fun kvs => some (.lst (kvs.map fun q => ofKey k q.1))
/-- p.append(e) -/
def sApp (p : Pl) (e : EX) : ST := fun r => sBind ((getP r p).bind c1L) fun l => sBind (e r) fun d => if l.length < lim then .nx (setP r (.lst (l ++ [d])) p) else .fail
/-- p.extend(e) -/
def sExt (p : Pl) (e : EX) : ST := fun r => sBind ((getP r p).bind c1L) fun l => sBind ((e r).bind lstD) fun m => if l.length + m.length ≤ lim then .nx (setP r (.lst (l ++ m)) p) else .fail
/-- p.pop(); x = p.pop() -/
def sPop (p : Pl) : ST := fun r => sBind ((getP r p).bind c1L) fun l => sBind l.getLast? fun _ => .nx (setP r (.lst l.dropLast) p)
def sPopTo (i : Nat) (p : Pl) : ST := fun r => sBind ((getP r p).bind c1L) fun l => sBind l.getLast? fun d => .nx ((setP r (.lst l.dropLast) p).set i (some (.dat d)))
/-- p[k] = e -/
def sPut (k : KK) (p : Pl) (j e : EX) : ST := fun r => sBind ((getP r p).bind (c1D k)) fun kvs => sBind (e r) fun d => sBind ((j r).bind (toKey k)) fun j => if kvs.length < lim then .nx (setP r (.dic k (put kvs j d)) p) else .fail
/-- p.setdefault(k, []).append(e) -/
def sdp (kvs : List (List Int × List D)) (k : List Int) : List (List Int × List D) := if (look kvs k).isSome then kvs else kvs ++ [(k, [])]
def sSdApp (p : Pl) (j e : EX) : ST := fun r => sBind ((getP r p).bind c1B) fun kvs => sBind ((j r).bind (toKey .t)) fun j => sBind (e (setP r (.dil (sdp kvs j)) p)) fun d =>
  if kvs.length < lim ∧ ((look kvs j).getD []).length < lim then .nx (setP r (.dil (put kvs j ((look kvs j).getD [] ++ [d]))) p) else .fail
/-- self.f = e: the next attribute of the object in slot i -/
def sFld (i : Nat) (c : CN) (j : Nat) (e : EX) : ST := fun r => sBind (e r) fun d => match slot r i with
  | some (.obj t c' fs) => if c' = c ∧ fs.length = j then .nx (r.set i (some (.obj t c' (fs ++ [.dat d])))) else .fail
  | _ => .fail
/-- self.f = {} | [] -/
def sFldO (i : Nat) (c : CN) (j : Nat) (x : C1) : ST := fun r => match slot r i with
  | some (.obj t c' fs) => if c' = c ∧ fs.length = j then .nx (r.set i (some (.obj t c' (fs ++ [.own x])))) else .fail
  | _ => .fail
def sIf (t : EX) (a b : ST) : ST := fun r => sBind ((t r).bind blD) fun c => if c then a r else b r
/-- a target: a name, a tuple of names -/
abbrev TGT := D → Env → Option Env
def gN (i : Nat) : TGT := fun d r => some (r.set i (some (.dat d)))
def gSet : List Nat → List D → Env → Option Env
  | [], [], r => some r
  | i :: is, d :: ds, r => gSet is ds (r.set i (some (.dat d)))
  | _, _, _ => none
def gT (is : List Nat) : TGT := fun d r => (tupD d).bind fun ds => gSet is ds r
/-- a, b = e -/
def sUnp (g : TGT) (e : EX) : ST := fun r => sBind (e r) fun d => sBind (g d r) fun r' => .nx r'
def forD (g : TGT) (b : ST) : List D → ST
  | [] => fun r => .nx r
  | d :: l => fun r => sBind (g d r) fun r' => match b r' with
    | .nx r2 => forD g b l r2
    | z => z
def sFor (g : TGT) (it : EXs) (b : ST) : ST := fun r => sBind (it r) fun l => forD g b l r
def whD (t : EX) (b : ST) : Nat → ST
  | 0 => fun _ => .fail
  | n + 1 => fun r => sBind ((t r).bind blD) fun c => if c then (match b r with
    | .nx r2 => whD t b n r2
    | z => z) else .nx r
def sRet (e : EX) : ST := fun r => sBind (e r) fun d => .rt d r
/-! what a for walks -/
def iSeq (e : EX) : EXs := fun r => (e r).bind seqD
def iRange (e : EX) : EXs := fun r => ((e r).bind intD).bind fun n => if n < 2 ^ 62 ∧ -(2 ^ 62) ≤ n then some ((List.range n.toNat).map fun i => .int (i : Nat)) else none
def iEnum (e : EX) : EXs := fun r => ((e r).bind tupD).bind fun l => some (l.mapIdx fun i d => .tup [.int (i : Nat), d])
def iKeys (k : KK) (e : EX) : EXs := fun r => ((e r).bind (dicD k)).bind fun kvs => some (kvs.map fun p => ofKey k p.1)
def iItems (k : KK) (e : EX) : EXs := fun r => ((e r).bind (dicD k)).bind fun kvs => some (kvs.map fun p => .tup [ofKey k p.1, p.2])
/-- [e for x in it if c] -/
def lcD (i : Nat) (c e : EX) (r : Env) : List D → Option (List D)
  | [] => some []
  | d :: l => ((c (r.set i (some (.dat d)))).bind blD).bind fun b =>
    if b then (e (r.set i (some (.dat d)))).bind fun z => (lcD i c e r l).bind fun zs => some (z :: zs) else lcD i c e r l
def eLc (i : Nat) (it : EXs) (c e : EX) : EX := fun r => (it r).bind fun l => if l.length ≤ lim then (lcD i c e r l).map .lst else none
/-! methods and defs that change an object of one's own: its attributes, the other arguments; the value, the attributes behind -/
abbrev GO := List Fld → List D → Option (D × List Fld)
/-- o.m(e, ..) whose value is dropped; o in slot i -/
def sMeth (i : Nat) (c : CN) (g : GO) (a : EXs) : ST := fun r => match slot r i with
  | some (.obj t c' fs) => if c' = c then sBind (a r) fun ds => sBind (g fs ds) fun z => .nx (r.set i (some (.obj t c z.2))) else .fail
  | _ => .fail
/-- x = f(o, e, ..) with o in slot i -/
def sCallO (x i : Nat) (c : CN) (g : GO) (a : EXs) : ST := fun r => match slot r i with
  | some (.obj t c' fs) => if c' = c then sBind (a r) fun ds => sBind (g fs ds) fun z => .nx ((r.set i (some (.obj t c z.2))).set x (some (.dat z.1))) else .fail
  | _ => .fail
/-- x = o.m(e, ..) with o in slot i -/
def sMethTo (x i : Nat) (c : CN) (g : GO) (a : EXs) : ST := sCallO x i c g a
/-- x = {k: e} with an int as key -/
def cDisp (j e : EX) : Env → Option C1 := fun r => ((j r).bind (toKey .i)).bind fun k => (e r).bind fun d => some (.dic .i [(k, d)])
/-- x = C(e, ..), an object of one's own -/
def sMake (x : Nat) (c : CN) (g : GO) (a : EXs) : ST := fun r => sBind (a r) fun ds => sBind (g [] ds) fun z => if x < r.length then .nx (r.set x (some (.obj none c z.2))) else .fail
/-- C(e, ..) as data, all attributes data -/
def fldsD : List Fld → Option (List D)
  | [] => some []
  | .dat d :: l => (fldsD l).map (d :: ·)
  | .own _ :: _ => none
def eMake (c : CN) (g : GO) (a : EXs) : EX := fun r => (a r).bind fun ds => (g [] ds).bind fun z => (fldsD z.2).map fun fs => .obj c fs
/-- for x in o.entries(..): the object in slot i is lent -/
def sForE (i : Nat) (key : EXs) (g : TGT) (b : ST) : ST := fun r => match slot r i with
  | some (.obj (some a) .takeoff fs) => (match fs[3]? with
    | some (Fld.own (C1.dil kvs)) => sBind (key r) fun ds => sBind (toKey .t (.tup ds)) fun k => (match forD g b ((look kvs k).getD []) (r.set i (some (.ptr a))) with
      | .nx r' => (match slot r' i with
        | some (.ptr a') => if a' = a then .nx (r'.set i (some (.obj (some a) .takeoff fs))) else .fail
        | _ => .fail)
      | _ => .fail)
    | _ => .fail)
  | _ => .fail
end DL
end

section
set_option Elab.async false
set_option linter.all false
set_option maxRecDepth 100000
set_option maxHeartbeats 2000000
/-! D1a: data in the heap, the state of a body (Has), its steps. -/
namespace DL
open PySem PySem.Spec PyProof.Rows L2

structure Cc where
  P : Program
  w : World
  K : PySem.W.Frag
abbrev ccOf (X : Cx) : Cc := ⟨X.prog, X.w, X.K⟩

def cname : CN → Str
  | .step => "Step" | .machine => "Machine" | .takeoff => "TakeOff" | .heads => "Heads" | .rows => "Rows"
def fnames : CN → List Str
  | .step => ["state", "letter", "goal", "laid", "weight"]
  | .machine => ["states", "letters", "steps"]
  | .takeoff => ["machine", "marked", "found", "leaving"]
  | .heads => ["moves"]
  | .rows => ["found", "places", "rows"]
def Cc.ca (C : Cc) (c : CN) : Addr := He.ga C.K (cname c)

/-! ### dicts -/
def keyVs : KK → List Int → List V
  | .e, [a, b, c, f] => [.int a, .int b, .int c, .bl (decide (f ≠ 0))]
  | _, ks => ks.map .int
def kOk : KK → List Int → Prop
  | .i, ks => ∃ a, ks = [a]
  | .t, ks => ∃ a b, ks = [a, b]
  | .e, ks => ∃ a b c f, ks = [a, b, c, b2 f]
abbrev XT := List (List Int × Addr × V)
abbrev XsV : XT → List (List Leaf × Addr × Value) → Prop := Paired fun p q => q.1 = p.1.map Leaf.num ∧ q.2.1 = p.2.1 ∧ RelV p.2.2 q.2.2
/-- a dict's object with tuple keys: xs its keys, their tuples, the values -/
def DOb (P : Program) (w : World) (o : Obj) (xs : XT) : Prop :=
  o.ExactDict ∧ xs.length ≤ sizeLine ∧ ∃ es ep vs, o.data = .dict es ep ∧ es.toList = vs.map (entryOfKey (tupleKind (leafKind P w))) ∧ (vs.map (·.1)).Nodup ∧ XsV xs vs
def eO (a : Addr) (o : Obj) : HO := .ext fun h => h.get? a = some o ∧ (a == sysModules) = false
/-- u at a is a dict with the keys ks and the values vs; the keys' tuples stand in T -/
def DRep (C : Cc) (k : KK) (T : Hp) (a : Addr) (u : HO) (ks : List (List Int)) (vs : List V) : Prop :=
  match k with
  | .i => ∃ l : List (Int × V), u = .dK (l.map fun p => (Sum.inl p.1, p.2)) ∧ ks = l.map (fun p => [p.1]) ∧ vs = l.map (·.2)
  | k => ∃ (o : Obj) (xs : XT), u = eO a o ∧ DOb C.P C.w o xs ∧ (∀ x ∈ xs, kOk k x.1 ∧ T x.2.1 = some (.tup (keyVs k x.1))) ∧ ks = xs.map (·.1) ∧ vs = xs.map (·.2.2)
/-- as it stands when it is data -/
def frzU (k : KK) (o : Obj) (u : HO) : HO := match k with
  | .i => .frz o u
  | _ => u

/-! ### data -/
mutual
inductive Dv (C : Cc) (G : Hp) : V → D → Prop
  | non : Dv C G .non .non
  | bl (b : Bool) : Dv C G (.bl b) (.bl b)
  | int (i : Int) : Dv C G (.int i) (.int i)
  | str (x : Str) : Dv C G (.str x) (.str x)
  | tup {a : Addr} {vs : List V} {ds : List D} : G a = some (.tup vs) → DvL C G vs ds → Dv C G (.ref a) (.tup ds)
  | lst {a : Addr} {vs : List V} {ds : List D} : G a = some (.lst vs) → DvL C G vs ds → Dv C G (.ref a) (.lst ds)
  | dic {a : Addr} {k : KK} {o : Obj} {u : HO} {vs : List V} {kvs : List (List Int × D)} : G a = some (frzU k o u) → DRep C k G a u (kvs.map (·.1)) vs → DvL C G vs (kvs.map (·.2)) → Dv C G (.ref a) (.dic k kvs)
  | obj {a dx : Addr} {c : CN} {vs : List V} {fs : List D} : G a = some (.ins (C.ca c) dx ((fnames c).zip vs)) → DvL C G vs fs → Dv C G (.ref a) (.obj c fs)
  | scr {a : Addr} {l : List Int} : SqL C.K G a (l.map V.int) → Dv C G (.ref a) (.scr l)
inductive DvL (C : Cc) (G : Hp) : List V → List D → Prop
  | nil : DvL C G [] []
  | cons {v : V} {vs : List V} {d : D} {ds : List D} : Dv C G v d → DvL C G vs ds → DvL C G (v :: vs) (d :: ds)
end

abbrev Ex (H H' : Hp) : Prop := ∀ a o, H a = some o → H' a = some o
theorem Ex.refl (H : Hp) : Ex H H := fun _ _ h => h
theorem Ex.trans {H H1 H2 : Hp} (a : Ex H H1) (b : Ex H1 H2) : Ex H H2 := fun x o h => b x o (a x o h)
theorem ex_upd {H : Hp} {p : Addr} {o : HO} (h : H p = none) : Ex H (upd H p o) := fun a u e => by
  rw [upd_ne (ne_of_none e h)]
  exact e
theorem ex_rd {H H' : Hp} {a : Addr} {u : HO} (e : Ex H H') (h : Rd H a u) : Rd H' a u := by
  rcases h with h | ⟨o, h⟩
  · exact Or.inl (e a _ h)
  · exact Or.inr ⟨o, e a _ h⟩
theorem ex_l {K : PySem.W.Frag} {H H' : Hp} {a : Addr} {xs : List V} (e : Ex H H') (h : SqL K H a xs) : SqL K H' a xs := by
  rcases h with h | h
  · exact Or.inl (ex_rd e h)
  · exact Or.inr h
theorem DRep.mono {C : Cc} {k : KK} {T T' : Hp} {a : Addr} {u : HO} {ks : List (List Int)} {vs : List V} (e : ∀ q ys, T q = some (.tup ys) → T' q = some (.tup ys)) (h : DRep C k T a u ks vs) : DRep C k T' a u ks vs := by
  cases k with
  | i => exact h
  | t =>
    obtain ⟨o, xs, h1, h2, h3, h4⟩ := h
    exact ⟨o, xs, h1, h2, fun x hx => ⟨(h3 x hx).1, e _ _ (h3 x hx).2⟩, h4⟩
  | e =>
    obtain ⟨o, xs, h1, h2, h3, h4⟩ := h
    exact ⟨o, xs, h1, h2, fun x hx => ⟨(h3 x hx).1, e _ _ (h3 x hx).2⟩, h4⟩
mutual
theorem Dv.mono {C : Cc} {G G' : Hp} (e : Ex G G') : ∀ {v : V} {d : D}, Dv C G v d → Dv C G' v d
  | _, _, .non => .non
  | _, _, .bl b => .bl b
  | _, _, .int b => .int b
  | _, _, .str b => .str b
  | _, _, .tup h l => .tup (e _ _ h) (DvL.mono e l)
  | _, _, .lst h l => .lst (e _ _ h) (DvL.mono e l)
  | _, _, .scr h => .scr (ex_l e h)
  | _, _, .dic h r l => .dic (e _ _ h) (r.mono fun q ys z => e _ _ z) (DvL.mono e l)
  | _, _, .obj h l => .obj (e _ _ h) (DvL.mono e l)
theorem DvL.mono {C : Cc} {G G' : Hp} (e : Ex G G') : ∀ {vs : List V} {ds : List D}, DvL C G vs ds → DvL C G' vs ds
  | _, _, .nil => .nil
  | _, _, .cons h l => .cons (Dv.mono e h) (DvL.mono e l)
end
section
variable {C : Cc} {G : Hp}
theorem DvL.len : ∀ {vs : List V} {ds : List D}, DvL C G vs ds → vs.length = ds.length
  | _, _, .nil => rfl
  | _, _, .cons _ t => congrArg Nat.succ (DvL.len t)
theorem DvL.get : ∀ {vs : List V} {ds : List D} {i : Nat} {d : D}, DvL C G vs ds → ds[i]? = some d → ∃ v, vs[i]? = some v ∧ Dv C G v d
  | _, _, _, _, .nil, e => by simp at e
  | _, _, 0, _, .cons h _, e => by simp at e; subst e; exact ⟨_, rfl, h⟩
  | _, _, i + 1, d, .cons _ t, e => by
    obtain ⟨v, h1, h2⟩ := DvL.get (i := i) t (by simpa using e)
    exact ⟨v, by simpa using h1, h2⟩
theorem DvL.getV : ∀ {vs : List V} {ds : List D} {i : Nat} {v : V}, DvL C G vs ds → vs[i]? = some v → ∃ d, ds[i]? = some d ∧ Dv C G v d
  | _, _, _, _, .nil, e => by simp at e
  | _, _, 0, _, .cons h _, e => by simp at e; subst e; exact ⟨_, rfl, h⟩
  | _, _, i + 1, v, .cons _ t, e => by
    obtain ⟨d, h1, h2⟩ := DvL.getV (i := i) t (by simpa using e)
    exact ⟨d, by simpa using h1, h2⟩
theorem DvL.append : ∀ {vs ws : List V} {ds es : List D}, DvL C G vs ds → DvL C G ws es → DvL C G (vs ++ ws) (ds ++ es)
  | _, _, _, _, .nil, s => s
  | _, _, _, _, .cons r t, s => .cons r (DvL.append t s)
theorem DvL.take : ∀ {vs : List V} {ds : List D} (n : Nat), DvL C G vs ds → DvL C G (vs.take n) (ds.take n)
  | _, _, 0, _ => by rw [List.take_zero, List.take_zero]; exact .nil
  | _, _, _ + 1, .nil => .nil
  | _, _, n + 1, .cons r t => .cons r (DvL.take n t)
theorem DvL.drop : ∀ {vs : List V} {ds : List D} (n : Nat), DvL C G vs ds → DvL C G (vs.drop n) (ds.drop n)
  | _, _, 0, r => r
  | _, _, _ + 1, .nil => .nil
  | _, _, n + 1, .cons r t => DvL.drop n t
theorem DvL.revAux : ∀ {vs : List V} {ds : List D} {ws : List V} {es : List D}, DvL C G vs ds → DvL C G ws es → DvL C G (vs.reverseAux ws) (ds.reverseAux es)
  | _, _, _, _, .nil, h => h
  | _, _, _, _, .cons a b, h => by
    have q := DvL.revAux b (.cons a h)
    exact q
theorem DvL.reverse {vs : List V} {ds : List D} (h : DvL C G vs ds) : DvL C G vs.reverse ds.reverse := h.revAux .nil
theorem DvL.set : ∀ {vs : List V} {ds : List D} {v : V} {d : D} (i : Nat), DvL C G vs ds → Dv C G v d → DvL C G (vs.set i v) (ds.set i d)
  | _, _, _, _, _, .nil, _ => .nil
  | _, _, _, _, 0, .cons _ t, h => .cons h t
  | _, _, _, _, i + 1, .cons r t, h => .cons r (DvL.set i t h)
theorem DvL.snoc {vs : List V} {ds : List D} {v : V} {d : D} (h : DvL C G vs ds) (r : Dv C G v d) : DvL C G (vs ++ [v]) (ds ++ [d]) := h.append (.cons r .nil)
theorem DvL.dropLast {vs : List V} {ds : List D} (h : DvL C G vs ds) : DvL C G vs.dropLast ds.dropLast := by
  rw [List.dropLast_eq_take, List.dropLast_eq_take, h.len]
  exact h.take _
theorem Dv.int_ {v : V} {d : D} {i : Int} (h : Dv C G v d) (e : intD d = some i) : v = .int i := by
  cases h <;> first | (simp [intD] at e; done) | (simp [intD] at e; subst e; rfl)
theorem Dv.bl_ {v : V} {d : D} {b : Bool} (h : Dv C G v d) (e : blD d = some b) : v = .bl b := by
  cases h <;> first | (simp [blD] at e; done) | (simp [blD] at e; subst e; rfl)
theorem Dv.tup_ {v : V} {d : D} {l : List D} (h : Dv C G v d) (e : tupD d = some l) : ∃ a vs, v = .ref a ∧ G a = some (.tup vs) ∧ DvL C G vs l := by
  cases h <;> first | (simp [tupD] at e; done) | (simp [tupD] at e; subst e; exact ⟨_, _, rfl, by assumption, by assumption⟩)
theorem Dv.lst_ {v : V} {d : D} {l : List D} (h : Dv C G v d) (e : lstD d = some l) : ∃ a vs, v = .ref a ∧ G a = some (.lst vs) ∧ DvL C G vs l := by
  cases h <;> first | (simp [lstD] at e; done) | (simp [lstD] at e; subst e; exact ⟨_, _, rfl, by assumption, by assumption⟩)
theorem DvL.ints {l : List Int} : DvL C G (l.map V.int) (l.map D.int) := by
  induction l with
  | nil => exact .nil
  | cons i l ih => exact .cons (.int i) ih
theorem Dv.seq_ {v : V} {d : D} {l : List D} (h : Dv C G v d) (e : seqD d = some l) : ∃ a vs, v = .ref a ∧ (SqL C.K G a vs ∨ G a = some (.tup vs)) ∧ DvL C G vs l := by
  cases h <;> first | (simp [seqD] at e; done) | skip
  · simp [seqD] at e; subst e; exact ⟨_, _, rfl, .inr (by assumption), by assumption⟩
  · simp [seqD] at e; subst e; exact ⟨_, _, rfl, .inl (SqL.of (by assumption)), by assumption⟩
  · simp only [seqD, Option.some.injEq] at e; subst e; exact ⟨_, _, rfl, .inl (by assumption), .ints⟩
theorem Dv.dic_ {v : V} {d : D} {k : KK} {kvs : List (List Int × D)} (h : Dv C G v d) (e : dicD k d = some kvs) :
    ∃ a o u vs, v = .ref a ∧ G a = some (frzU k o u) ∧ DRep C k G a u (kvs.map (·.1)) vs ∧ DvL C G vs (kvs.map (·.2)) := by
  cases h <;> first | (simp [dicD] at e; done) | skip
  simp only [dicD, Option.ite_none_right_eq_some, Option.some.injEq] at e
  obtain ⟨rfl, rfl⟩ := e
  exact ⟨_, _, _, _, rfl, by assumption, by assumption, by assumption⟩
theorem Dv.obj_ {v : V} {d : D} {c : CN} {fs : List D} (h : Dv C G v d) (e : objD c d = some fs) : ∃ a dx vs, v = .ref a ∧ G a = some (.ins (C.ca c) dx ((fnames c).zip vs)) ∧ DvL C G vs fs := by
  cases h <;> first | (simp [objD] at e; done) | skip
  simp only [objD, Option.ite_none_right_eq_some, Option.some.injEq] at e
  obtain ⟨rfl, rfl⟩ := e
  exact ⟨_, _, _, rfl, by assumption, by assumption⟩
theorem Dv.non_ {v : V} {d : D} (h : Dv C G v d) : decide (v = .non) = isNon d := by
  cases h <;> rfl
/-- a key that is a tuple -/
theorem Dv.key_ {v : V} {d : D} {k : KK} {ks : List Int} (h : Dv C G v d) (e : toKey k d = some ks) (hk : k ≠ .i) : ∃ a, v = .ref a ∧ kOk k ks ∧ G a = some (.tup (keyVs k ks)) := by
  cases k with
  | i => exact absurd rfl hk
  | t =>
    unfold toKey at e
    split at e <;> first | (cases e; done) | skip
    · rename_i hh; cases hh
    · rename_i a b _ 
      cases e
      cases h with
      | tup ha hl =>
        cases hl with
        | cons h1 hl =>
          cases hl with
          | cons h2 hl =>
            cases hl
            cases h1
            cases h2
            exact ⟨_, rfl, ⟨a, b, rfl⟩, ha⟩
    · rename_i hh; cases hh
  | e =>
    unfold toKey at e
    split at e <;> first | (cases e; done) | skip
    · rename_i hh; cases hh
    · rename_i hh; cases hh
    · rename_i a b c f _ 
      cases e
      cases h with
      | tup ha hl =>
        cases hl with
        | cons h1 hl =>
          cases hl with
          | cons h2 hl =>
            cases hl with
            | cons h3 hl =>
              cases hl with
              | cons h4 hl =>
                cases hl
                cases h1
                cases h2
                cases h3
                cases h4
                refine ⟨_, rfl, ⟨a, b, c, f, rfl⟩, ?_⟩
                rw [ha]
                cases f <;> rfl
theorem Dv.keyI_ {v : V} {d : D} {ks : List Int} (h : Dv C G v d) (e : toKey .i d = some ks) : ∃ a, v = .int a ∧ ks = [a] := by
  unfold toKey at e
  split at e <;> first | (cases e; done) | skip
  · cases e
    cases h
    exact ⟨_, rfl, rfl⟩
  · rename_i hh; cases hh
  · rename_i hh; cases hh
end

/-! ### steps of the heap -/
/-- H: the heap; G: what stands for ever. A step: both grow, what is new in G is new in H -/
structure Stp (G H G' H' : Hp) : Prop where
  g : Ex G G'
  h : Ex H H'
  gh : Ex G' H'
  nw : ∀ a o, G' a = some o → G a = some o ∨ H a = none
  tg : ∀ a xs, H' a = some (.tup xs) → G' a = some (.tup xs)
/-- G lies within H and has all its tuples -/
structure Wd (G H : Hp) : Prop where
  gh : Ex G H
  tg : ∀ a xs, H a = some (.tup xs) → G a = some (.tup xs)
theorem Wd.refl {G H : Hp} (w : Wd G H) : Stp G H G H := ⟨.refl _, .refl _, w.gh, fun _ _ e => .inl e, w.tg⟩
theorem Stp.wd {G H G' H' : Hp} (s : Stp G H G' H') : Wd G' H' := ⟨s.gh, s.tg⟩
theorem Stp.trans {G H G1 H1 G2 H2 : Hp} (a : Stp G H G1 H1) (b : Stp G1 H1 G2 H2) : Stp G H G2 H2 where
  g := a.g.trans b.g
  h := a.h.trans b.h
  gh := b.gh
  nw := fun x o e => by
    rcases b.nw x o e with q | q
    · exact a.nw x o q
    · refine .inr ?_
      cases z : H x with
      | none => rfl
      | some u => rw [a.h x u z] at q; cases q
  tg := b.tg
theorem ex_none {H H' : Hp} {p : Addr} (e : Ex H H') (h : H' p = none) : H p = none := by
  cases z : H p with
  | none => rfl
  | some u => rw [e p u z] at h; cases h
/-- something new that is data from now on -/
theorem Wd.new {G H : Hp} {p : Addr} (w : Wd G H) (o : HO) (hp : H p = none) : Stp G H (upd G p o) (upd H p o) where
  g := ex_upd (ex_none w.gh hp)
  h := ex_upd hp
  gh := fun a u e => by
    by_cases h : a = p
    · subst h; rw [upd_same] at e ⊢; exact e
    · rw [upd_ne h] at e ⊢; exact w.gh a u e
  nw := fun a u e => by
    by_cases h : a = p
    · subst h; exact .inr hp
    · rw [upd_ne h] at e; exact .inl e
  tg := fun a xs e => by
    by_cases h : a = p
    · subst h; rw [upd_same] at e ⊢; exact e
    · rw [upd_ne h] at e ⊢; exact w.tg a xs e
/-- something new that is one's own (no tuple) -/
theorem Wd.newH {G H : Hp} {p : Addr} (w : Wd G H) {o : HO} (hp : H p = none) (ho : ∀ xs, o ≠ .tup xs) : Stp G H G (upd H p o) where
  g := .refl _
  h := ex_upd hp
  gh := fun a u e => by
    rw [upd_ne (ne_of_none (w.gh a u e) hp)]; exact w.gh a u e
  nw := fun a u e => .inl e
  tg := fun a xs e => by
    by_cases h : a = p
    · subst h; rw [upd_same] at e; cases e; exact absurd rfl (ho xs)
    · rw [upd_ne h] at e; exact w.tg a xs e

/-! ### what one's own things look like -/
/-- lists at ls -/
inductive LsAt (C : Cc) (G H : Hp) : List Addr → List (List D) → Prop
  | nil : LsAt C G H [] []
  | cons {a : Addr} {as : List Addr} {vs : List V} {l : List D} {ls : List (List D)} : H a = some (.lst vs) → DvL C G vs l → LsAt C G H as ls → LsAt C G H (a :: as) (l :: ls)
def C1At (C : Cc) (G H : Hp) (v : V) (c : C1) (fp : List Addr) : Prop :=
  match c with
  | .lst l => ∃ a vs, v = .ref a ∧ fp = [a] ∧ H a = some (.lst vs) ∧ DvL C G vs l
  | .dic k kvs => ∃ a u vs, v = .ref a ∧ fp = [a] ∧ H a = some u ∧ DRep C k G a u (kvs.map (·.1)) vs ∧ DvL C G vs (kvs.map (·.2))
  | .dil kvs => ∃ a u ls, v = .ref a ∧ fp = a :: ls ∧ fp.Nodup ∧ H a = some u ∧ DRep C .t G a u (kvs.map (·.1)) (ls.map V.ref) ∧ LsAt C G H ls (kvs.map (·.2))
def FlAt (C : Cc) (G H : Hp) (v : V) (f : Fld) (fp : List Addr) : Prop :=
  match f with
  | .dat d => fp = [] ∧ Dv C G v d
  | .own c => C1At C G H v c fp
inductive FlsAt (C : Cc) (G H : Hp) : List V → List Fld → List (List Addr) → Prop
  | nil : FlsAt C G H [] [] []
  | cons {v : V} {vs : List V} {f : Fld} {fs : List Fld} {p : List Addr} {ps : List (List Addr)} : FlAt C G H v f p → FlsAt C G H vs fs ps → FlsAt C G H (v :: vs) (f :: fs) (p :: ps)
def SVAt (C : Cc) (G H : Hp) (v : V) (x : SV) (fp : List Addr) : Prop :=
  match x with
  | .dat d => fp = [] ∧ Dv C G v d
  | .own c => C1At C G H v c fp
  | .obj t c fs => ∃ a dx vs ps, v = .ref a ∧ (∀ b, t = some b → b = a) ∧ H a = some (.ins (C.ca c) dx ((fnames c).zip vs)) ∧ H dx = some (.own a) ∧ vs.length ≤ (fnames c).length ∧ FlsAt C G H vs fs ps ∧ fp = a :: dx :: ps.flatten ∧ fp.Nodup
  | .ptr a => fp = [] ∧ v = .ref a

/-- the heaps agree at the addresses fp -/
abbrev Kp (fp : List Addr) (H H' : Hp) : Prop := ∀ a ∈ fp, H' a = H a
section
variable {C : Cc} {G G' H H' : Hp}
theorem LsAt.keep (e : Ex G G') : ∀ {ls : List Addr} {l : List (List D)}, Kp ls H H' → LsAt C G H ls l → LsAt C G' H' ls l
  | _, _, _, .nil => .nil
  | _, _, k, .cons h d t => .cons ((k _ List.mem_cons_self).trans h) (d.mono e) (LsAt.keep e (fun a ha => k a (List.mem_cons_of_mem _ ha)) t)
theorem C1At.keep (e : Ex G G') {v : V} {c : C1} {fp : List Addr} (k : Kp fp H H') (h : C1At C G H v c fp) : C1At C G' H' v c fp := by
  cases c with
  | lst l =>
    obtain ⟨a, vs, h1, h2, h3, h4⟩ := h
    exact ⟨a, vs, h1, h2, (k a (by simp [h2])).trans h3, h4.mono e⟩
  | dic κ kvs =>
    obtain ⟨a, u, vs, h1, h2, h3, h4, h5⟩ := h
    exact ⟨a, u, vs, h1, h2, (k a (by simp [h2])).trans h3, h4.mono (fun q ys z => e _ _ z), h5.mono e⟩
  | dil kvs =>
    obtain ⟨a, u, ls, h1, h2, h3, h4, h5, h6⟩ := h
    exact ⟨a, u, ls, h1, h2, h3, (k a (by simp [h2])).trans h4, h5.mono (fun q ys z => e _ _ z), h6.keep e fun b hb => k b (by simp [h2, hb])⟩
theorem FlAt.keep (e : Ex G G') {v : V} {c : Fld} {fp : List Addr} (k : Kp fp H H') (h : FlAt C G H v c fp) : FlAt C G' H' v c fp := by
  cases c with
  | dat d => exact ⟨h.1, h.2.mono e⟩
  | own c => exact C1At.keep e k h
theorem FlsAt.keep (e : Ex G G') : ∀ {vs : List V} {fs : List Fld} {ps : List (List Addr)}, Kp ps.flatten H H' → FlsAt C G H vs fs ps → FlsAt C G' H' vs fs ps
  | _, _, _, _, .nil => .nil
  | _, _, _, k, .cons h t => .cons (h.keep e fun a ha => k a (by simp [ha])) (FlsAt.keep e (fun a ha => k a (by rw [List.flatten_cons]; exact List.mem_append_right _ ha)) t)
theorem SVAt.keep (e : Ex G G') {v : V} {x : SV} {fp : List Addr} (k : Kp fp H H') (h : SVAt C G H v x fp) : SVAt C G' H' v x fp := by
  cases x with
  | dat d => exact ⟨h.1, h.2.mono e⟩
  | own c => exact C1At.keep e k h
  | obj t c fs =>
    obtain ⟨a, dx, vs, ps, h1, h2, h3, h4, h5, h6, h7, h8⟩ := h
    exact ⟨a, dx, vs, ps, h1, h2, (k a (by simp [h7])).trans h3, (k dx (by simp [h7])).trans h4, h5, h6.keep e fun b hb => k b (by rw [h7]; simp only [List.mem_cons]; exact .inr (.inr hb)), h7, h8⟩
  | ptr a => exact h
theorem FlsAt.get : ∀ {vs : List V} {fs : List Fld} {ps : List (List Addr)} {i : Nat} {f : Fld}, FlsAt C G H vs fs ps → fs[i]? = some f → ∃ v p, vs[i]? = some v ∧ ps[i]? = some p ∧ FlAt C G H v f p
  | _, _, _, _, _, .nil, e => by simp at e
  | _, _, _, 0, _, .cons h _, e => by simp at e; subst e; exact ⟨_, _, rfl, rfl, h⟩
  | _, _, _, i + 1, f, .cons _ t, e => by
    obtain ⟨v, p, h1, h2, h3⟩ := FlsAt.get (i := i) t (by simpa using e)
    exact ⟨v, p, by simpa using h1, by simpa using h2, h3⟩
theorem FlsAt.len : ∀ {vs : List V} {fs : List Fld} {ps : List (List Addr)}, FlsAt C G H vs fs ps → vs.length = fs.length ∧ ps.length = fs.length
  | _, _, _, .nil => ⟨rfl, rfl⟩
  | _, _, _, .cons _ t => ⟨congrArg Nat.succ (FlsAt.len t).1, congrArg Nat.succ (FlsAt.len t).2⟩
end

/-! ### the state of a body -/
/-- fp: where the slots' own things stand; rs: what else stands and is not touched -/
structure HasF (C : Cc) (rs G H : Hp) (σ : L2.St) (r : Env) (fp : Nat → List Addr) : Prop where
  wd : Wd G H
  rh : Ex rs H
  rg : ∀ a o, rs a = some o → G a = none
  len : σ.length = r.length
  at_ : ∀ i x, slot r i = some x → ∃ v, σ[i]? = some (some v) ∧ SVAt C G H v x (fp i)
  fr : ∀ i a, a ∈ fp i → G a = none ∧ rs a = none ∧ ∃ o, H a = some o
  dj : ∀ i j a, a ∈ fp i → a ∈ fp j → i = j
def Has (C : Cc) (rs G H : Hp) (σ : L2.St) (r : Env) : Prop := ∃ fp, HasF C rs G H σ r fp
section
variable {C : Cc} {rs G H G' H' : Hp} {σ : L2.St} {r : Env} {fp : Nat → List Addr}
theorem Has.wd (h : Has C rs G H σ r) : Wd G H := let ⟨_, f⟩ := h; f.wd
theorem HasF.step (h : HasF C rs G H σ r fp) (s : Stp G H G' H') : HasF C rs G' H' σ r fp := by
  have gn : ∀ a, G a = none → (∃ o, H a = some o) → G' a = none := fun a h1 ⟨o, h2⟩ => by
    cases z : G' a with
    | none => rfl
    | some u =>
      rcases s.nw a u z with q | q
      · rw [h1] at q; cases q
      · rw [h2] at q; cases q
  refine ⟨s.wd, h.rh.trans s.h, fun a o e => gn a (h.rg a o e) ⟨o, h.rh a o e⟩, h.len, fun i x e => ?_, fun i a ha => ?_, h.dj⟩
  · obtain ⟨v, h1, h2⟩ := h.at_ i x e
    refine ⟨v, h1, h2.keep s.g fun a ha => ?_⟩
    obtain ⟨_, _, o, ho⟩ := h.fr i a ha
    rw [ho, s.h a o ho]
  · obtain ⟨h1, h2, o, ho⟩ := h.fr i a ha
    exact ⟨gn a h1 ⟨o, ho⟩, h2, o, s.h a o ho⟩
theorem Has.step (h : Has C rs G H σ r) (s : Stp G H G' H') : Has C rs G' H' σ r := let ⟨fp, f⟩ := h; ⟨fp, f.step s⟩
theorem Has.dat {i : Nat} {d : D} (h : Has C rs G H σ r) (e : slot r i = some (.dat d)) : ∃ v, σ[i]? = some (some v) ∧ Dv C G v d := by
  obtain ⟨fp, f⟩ := h
  obtain ⟨v, h1, h2⟩ := f.at_ i _ e
  exact ⟨v, h1, h2.2⟩
theorem slot_set {i j : Nat} {x : Option SV} : slot (r.set i x) j = if i = j ∧ i < r.length then x else slot r j := by
  unfold slot
  by_cases h : i = j
  · subst h
    by_cases hl : i < r.length
    · rw [List.getElem?_set_self hl, if_pos ⟨rfl, hl⟩]; cases x <;> rfl
    · rw [if_neg (fun z => hl z.2), List.getElem?_eq_none (by simpa using hl), List.getElem?_eq_none (by simpa using hl)]
  · rw [List.getElem?_set_ne h, if_neg (fun z => h z.1)]
theorem slot_lt {i : Nat} {x : SV} (h : slot r i = some x) : i < r.length := by
  unfold slot at h
  by_cases hl : i < r.length
  · exact hl
  · rw [List.getElem?_eq_none (by simpa using hl)] at h; cases h
/-- a slot is set: what stands there is given -/
theorem HasF.put (h : HasF C rs G H σ r fp) {i : Nat} {v : V} {x : SV} {q : List Addr} (hx : SVAt C G H v x q) (hq : ∀ a ∈ q, G a = none ∧ rs a = none ∧ ∃ o, H a = some o) (hj : ∀ j a, j ≠ i → a ∈ q → a ∉ fp j) :
    HasF C rs G H (σ.set i (some v)) (r.set i (some x)) (fun j => if j = i then q else fp j) := by
  refine ⟨h.wd, h.rh, h.rg, by simpa using h.len, fun j y e => ?_, fun j a ha => ?_, fun j k a h1 h2 => ?_⟩
  · rw [slot_set] at e
    by_cases hji : i = j ∧ i < r.length
    · obtain ⟨rfl, hl⟩ := hji
      rw [if_pos ⟨rfl, hl⟩] at e
      cases e
      refine ⟨v, by rw [List.getElem?_set_self (by rw [h.len]; exact hl)], ?_⟩
      simp only [if_true]
      exact hx
    · rw [if_neg hji] at e
      have hl : j < r.length := slot_lt e
      have hne : i ≠ j := fun z => hji ⟨z, z ▸ hl⟩
      obtain ⟨u, h1, h2⟩ := h.at_ j y e
      refine ⟨u, by rw [List.getElem?_set_ne hne]; exact h1, ?_⟩
      rw [if_neg (Ne.symm hne)]
      exact h2
  · by_cases hji : j = i
    · simp only [hji, if_true] at ha; exact hq a ha
    · simp only [if_neg hji] at ha; exact h.fr j a ha
  · by_cases hji : j = i
    · by_cases hki : k = i
      · rw [hji, hki]
      · simp only [hji, if_true] at h1
        simp only [if_neg hki] at h2
        exact absurd h2 (hj k a hki h1)
    · by_cases hki : k = i
      · simp only [if_neg hji] at h1
        simp only [hki, if_true] at h2
        exact absurd h1 (hj j a hji h2)
      · simp only [if_neg hji] at h1
        simp only [if_neg hki] at h2
        exact h.dj j k a h1 h2
/-- x = data -/
theorem Has.setD (h : Has C rs G H σ r) {i : Nat} {v : V} {d : D} (hd : Dv C G v d) : Has C rs G H (σ.set i (some v)) (r.set i (some (.dat d))) := by
  obtain ⟨fp, f⟩ := h
  exact ⟨_, f.put (x := .dat d) (q := []) ⟨rfl, hd⟩ (fun a ha => nomatch ha) fun j a _ ha => nomatch ha⟩
/-- forgetting -/
theorem Has.fgt (h : Has C rs G H σ r) (i : Nat) : Has C rs G H σ (r.set i none) := by
  obtain ⟨fp, f⟩ := h
  refine ⟨fp, f.wd, f.rh, f.rg, by simpa using f.len, fun j y e => ?_, f.fr, f.dj⟩
  rw [slot_set] at e
  split at e
  · cases e
  · exact f.at_ j y e
theorem Has.fgtL (h : Has C rs G H σ r) : ∀ l : List Nat, Has C rs G H σ (l.foldl (fun r i => r.set i none) r) := fun l => by
  induction l generalizing r with
  | nil => exact h
  | cons i l ih => exact ih (h.fgt i)
end
end DL
end

section
set_option Elab.async false
set_option linter.all false
set_option maxRecDepth 100000
set_option maxHeartbeats 2000000
/-! D1b: expressions. -/
namespace DL
open PySem PySem.Spec PyProof.Rows L2

/-! ### the readings -/
def tF (C : Cc) (f : EX) : TE := fun σ H Q => ∃ rs G r d, Has C rs G H σ r ∧ f r = some d ∧ ∀ v G' H', Stp G H G' H' → Dv C G' v d → Q v H'
def tFA (C : Cc) (f : EXs) : TA := fun σ H Q => ∃ rs G r d, Has C rs G H σ r ∧ f r = some d ∧ ∀ v G' H', Stp G H G' H' → DvL C G' v d → Q v H'
def tFT (C : Cc) (f : EX) : TT := fun σ H Q => ∃ rs G r b, Has C rs G H σ r ∧ (f r).bind blD = some b ∧ ∀ G' H', Stp G H G' H' → Q b H'
abbrev FE (X : Cx) (e : Expr) (f : EX) : Prop := PE X e (tF (ccOf X) f)
abbrev FA (X : Cx) (es : List Expr) (f : EXs) : Prop := PA X es (tFA (ccOf X) f)
abbrev FT (X : Cx) (e : Expr) (f : EX) : Prop := PT X e (tFT (ccOf X) f)
def r2C (C : Cc) (f : O2) : R2 := fun x y H Q => ∃ G d e z, Wd G H ∧ Dv C G x d ∧ Dv C G y e ∧ f d e = some z ∧ ∀ v G' H', Stp G H G' H' → Dv C G' v z → Q v H'
def r1C (C : Cc) (f : D → Option D) : V → Hp → VK → Prop := fun x H Q => ∃ G d z, Wd G H ∧ Dv C G x d ∧ f d = some z ∧ ∀ v G' H', Stp G H G' H' → Dv C G' v z → Q v H'
def rcC (C : Cc) (g : List D → Option D) : List V → Hp → VK → Prop := fun xs H Q => ∃ G ds z, Wd G H ∧ DvL C G xs ds ∧ g ds = some z ∧ ∀ v G' H', Stp G H G' H' → Dv C G' v z → Q v H'
section
variable {X : Cx}
theorem PEimp {e : Expr} {t t' : TE} (h : PE X e t) (k : ∀ σ H Q, t' σ H Q → t σ H Q) : PE X e t' := ⟨fun pins s σ H Q I q => h.run pins s σ H Q I (k σ H Q q)⟩
theorem PTimp {e : Expr} {t t' : TT} (h : PT X e t) (k : ∀ σ H Q, t' σ H Q → t σ H Q) : PT X e t' := ⟨fun pins s σ H Q I q => h.run pins s σ H Q I (k σ H Q q)⟩
theorem PWimp {e : Expr} {t t' : TT} (h : PW X e t) (k : ∀ σ H Q, t' σ H Q → t σ H Q) : PW X e t' := ⟨fun wh pins s σ H Q I q => h.run wh pins s σ H Q I (k σ H Q q)⟩
theorem PAimp {e : List Expr} {t t' : TA} (h : PA X e t) (k : ∀ σ H Q, t' σ H Q → t σ H Q) : PA X e t' := ⟨fun pos pins s σ H Q I q => h.run pos pins s σ H Q I (k σ H Q q)⟩
theorem OpRimp {f : Value → Value → Sem Value} {r r' : R2} (h : OpR X f r) (k : ∀ x y H Q, r' x y H Q → r x y H Q) : OpR X f r' := fun pins s σ H x y v u Q I rx ry q => h pins s σ H x y v u Q I rx ry (k x y H Q q)
theorem CallRimp {f : Value} {r r' : List V → Hp → VK → Prop} (h : CallR X f r) (k : ∀ xs H Q, r' xs H Q → r xs H Q) : CallR X f r' := fun pins s σ H xs us Q I rx q => h pins s σ H xs us Q I rx (k xs H Q q)
theorem IxRimp {r r' : R2} (h : IxR X r) (k : ∀ x y H Q, r' x y H Q → r x y H Q) : IxR X r' := fun a b pins s σ H x y v u Q I rx ry q => h a b pins s σ H x y v u Q I rx ry (k x y H Q q)
end
theorem Dv.wd {C : Cc} {G H : Hp} (w : Wd G H) {v : V} {d : D} (h : Dv C G v d) : Dv C H v d := h.mono w.gh

section
variable {X : Cx} {e a b c : Expr} {es : List Expr} {f g : EX} {fs : EXs} {pos : Pos}
/-! ### names, constants, displays -/
theorem fe_var (i : Nat) {x : Str} (h : PE X (.Name x pos) (tVar i)) : FE X (.Name x pos) (eV i) := PEimp h fun σ H Q ⟨rs, G, r, d, hs, e, q⟩ => by
  have e' : slot r i = some (.dat d) := by
    unfold eV at e
    split at e
    · cases e; assumption
    · cases e
  obtain ⟨v, h1, h2⟩ := hs.dat e'
  exact ⟨v, h1, q v G H hs.wd.refl h2⟩
theorem fe_const {v : V} {d : D} (h : PE X e (tC v)) (hd : ∀ G, Dv (ccOf X) G v d) : FE X e (eC d) := PEimp h fun σ H Q ⟨rs, G, r, d', hs, e, q⟩ => by
  cases e
  exact q v G H hs.wd.refl (hd G)
theorem fe_int {i : Int} {j} : FE X (.Constant (.int i) j pos) (eC (.int i)) := fe_const pe_int fun _ => .int i
theorem fe_bl {i : Bool} {j} : FE X (.Constant (.bool i) j pos) (eC (.bl i)) := fe_const pe_bl fun _ => .bl i
theorem fe_non {j} : FE X (.Constant .none j pos) (eC .non) := fe_const pe_non fun _ => .non
theorem fe_str {x : Str} {j} : FE X (.Constant (.str x) j pos) (eC (.str x)) := fe_const pe_str fun _ => .str x
theorem fa_nil : FA X [] aN := PAimp pa_nil fun σ H Q ⟨rs, G, r, d, hs, e, q⟩ => by
  cases e
  exact q [] G H hs.wd.refl .nil
theorem fa_cons (he : FE X e f) (hes : FA X es fs) (hs : starEach (e :: es) X.env = (false, eval e X.env) :: starEach es X.env := by rfl) : FA X (e :: es) (aC f fs) := PAimp (pa_cons he hes hs) fun σ H Q ⟨rs, G, r, d, hs, ev, q⟩ => by
  unfold aC at ev
  simp only [Option.bind_eq_some_iff] at ev
  obtain ⟨d1, e1, ds, e2, e3⟩ := ev
  cases e3
  refine ⟨rs, G, r, d1, hs, e1, fun v G1 H1 s1 h1 => ⟨rs, G1, r, ds, hs.step s1, e2, fun vs G2 H2 s2 h2 => ?_⟩⟩
  exact q _ G2 H2 (s1.trans s2) (.cons (h1.mono s2.g) h2)
theorem lim_le {n : Nat} (h : n ≤ lim) : n ≤ sizeLine := by rw [sizeLine_eq]; unfold lim at h; omega
theorem lim_lt {n : Nat} (h : n < lim) : n < sizeLine := by rw [sizeLine_eq]; unfold lim at h; omega
theorem fe_tup {x1} (h : FA X es fs) : FE X (.Tuple es x1 pos) (eTup fs) := PEimp (pe_tup h) fun σ H Q ⟨rs, G, r, d, hs, ev, q⟩ => by
  unfold eTup at ev
  simp only [Option.bind_eq_some_iff, Option.ite_none_right_eq_some, Option.some.injEq] at ev
  obtain ⟨ds, e1, e2, rfl⟩ := ev
  refine ⟨rs, G, r, ds, hs, e1, fun vs G1 H1 s1 h1 => ⟨by rw [h1.len]; exact lim_le e2, fun p hp => ?_⟩⟩
  have s2 := s1.wd.new (.tup vs) hp
  exact q _ _ _ (s1.trans s2) (.tup upd_same (h1.mono s2.g))
theorem fe_lst (h : FA X es fs) : FE X (.List es pos) (eLst fs) := PEimp (pe_lst h) fun σ H Q ⟨rs, G, r, d, hs, ev, q⟩ => by
  unfold eLst at ev
  simp only [Option.bind_eq_some_iff, Option.ite_none_right_eq_some, Option.some.injEq] at ev
  obtain ⟨ds, e1, e2, rfl⟩ := ev
  refine ⟨rs, G, r, ds, hs, e1, fun vs G1 H1 s1 h1 => ⟨by rw [h1.len]; exact lim_le e2, fun p hp => ?_⟩⟩
  have s2 := s1.wd.new (.lst vs) hp
  exact q _ _ _ (s1.trans s2) (.lst upd_same (h1.mono s2.g))

/-! ### operators -/
theorem fe_bin {op : Operator} {o : O2} (ho : OpR X (binaryOp op) (r2C (ccOf X) o)) (ha : FE X a f) (hb : FE X b g) : FE X (.BinOp a op b pos) (e2 o f g) := PEimp (pe_op ho ha hb) fun σ H Q ⟨rs, G, r, d, hs, ev, q⟩ => by
  unfold e2 at ev
  simp only [Option.bind_eq_some_iff] at ev
  obtain ⟨d1, e1, d2, e2, e3⟩ := ev
  refine ⟨rs, G, r, d1, hs, e1, fun v G1 H1 s1 h1 => ⟨rs, G1, r, d2, hs.step s1, e2, fun u G2 H2 s2 h2 => ?_⟩⟩
  exact ⟨G2, d1, d2, d, s2.wd, h1.mono s2.g, h2, e3, fun z G3 H3 s3 h3 => q z G3 H3 ((s1.trans s2).trans s3) h3⟩
theorem cmp_read {o : O2} {σ : L2.St} {H : Hp} {Q : VK} (h : tF (ccOf X) (e2 o f g) σ H Q) : tOp (r2C (ccOf X) o) (tF (ccOf X) f) (tF (ccOf X) g) σ H Q := by
  obtain ⟨rs, G, r, d, hs, ev, q⟩ := h
  unfold e2 at ev
  simp only [Option.bind_eq_some_iff] at ev
  obtain ⟨d1, e1, d2, e2, e3⟩ := ev
  refine ⟨rs, G, r, d1, hs, e1, fun v G1 H1 s1 h1 => ⟨rs, G1, r, d2, hs.step s1, e2, fun u G2 H2 s2 h2 => ?_⟩⟩
  exact ⟨G2, d1, d2, d, s2.wd, h1.mono s2.g, h2, e3, fun z G3 H3 s3 h3 => q z G3 H3 ((s1.trans s2).trans s3) h3⟩
theorem fe_cmp {op : CmpOp} {o : O2} (ho : OpR X (compareOp op) (r2C (ccOf X) o)) (ha : FE X a f) (hb : FE X b g) (hm : behindInMarks op b = false) : FE X (.Compare a [op] [b] pos) (e2 o f g) :=
  PEimp (pe_cmpR ho ha hb hm) fun σ H Q h => cmp_read h
theorem tft_tf {σ : L2.St} {H : Hp} {Q : Bool → Hp → Prop} (h : tFT (ccOf X) f σ H Q) : tF (ccOf X) f σ H fun x H' => ∃ k, x = .bl k ∧ Q k H' := by
  obtain ⟨rs, G, r, k, hs, ev, q⟩ := h
  simp only [Option.bind_eq_some_iff] at ev
  obtain ⟨d, e1, e2⟩ := ev
  exact ⟨rs, G, r, d, hs, e1, fun v G' H' s h => ⟨k, h.bl_ e2, q G' H' s⟩⟩
theorem ft_cmp {op : CmpOp} {o : O2} (ho : OpR X (compareOp op) (r2C (ccOf X) o)) (ha : FE X a f) (hb : FE X b g) (hm : behindInMarks op b = false) : FT X (.Compare a [op] [b] pos) (e2 o f g) :=
  PTimp (pt_cmpR ho ha hb hm) fun σ H Q h => cmp_read (tft_tf h)
theorem ft_val (h : FE X e f) (he : ∀ whole, isTrue e X.env whole = (do let v ← whole; standAt e.pos; holding [v] (truthy v)) := by intro _; rfl) : FT X e f := PTimp (pt_val h he) fun σ H Q h => tft_tf h
/-! and, or, not -/
theorem ft_not (ha : FT X a f) : FT X (.UnaryOp .Not a pos) (eNot f) := PTimp (pt_not ha) fun σ H Q ⟨rs, G, r, k, hs, ev, q⟩ => by
  unfold eNot at ev
  simp only [Option.bind_eq_some_iff] at ev
  obtain ⟨d, ⟨b, e1, e2⟩, e3⟩ := ev
  cases e2
  cases e3
  exact ⟨rs, G, r, b, hs, by simpa only [Option.bind_eq_some_iff] using e1, q⟩
theorem fw_and1 (ha : FT X a f) : PW X (.BoolOp .And [a] pos) (tFT (ccOf X) f) := pw_and1 ha
theorem fw_or1 (ha : FT X a f) : PW X (.BoolOp .Or [a] pos) (tFT (ccOf X) f) := pw_or1 ha
theorem bl_back {o : Option D} {k : Bool} (h : ((o.bind fun d => (blD d).map D.bl).bind blD) = some k) : o.bind blD = some k := by
  cases o with
  | none => cases h
  | some d => cases d <;> first | exact h | (cases h; done)
theorem fw_and {rest : List Expr} (ha : FT X a f) (hb : PW X (.BoolOp .And (b :: rest) pos) (tFT (ccOf X) g)) : PW X (.BoolOp .And (a :: b :: rest) pos) (tFT (ccOf X) (eAnd f g)) := PWimp (pw_and ha hb) fun σ H Q ⟨rs, G, r, k, hs, ev, q⟩ => by
  unfold eAnd at ev
  rw [Option.bind_assoc] at ev
  obtain ⟨c, e1, e2⟩ := Option.bind_eq_some_iff.mp ev
  refine ⟨rs, G, r, c, hs, e1, fun G1 H1 s1 => ?_⟩
  cases c with
  | true => exact ⟨rs, G1, r, k, hs.step s1, bl_back e2, fun G2 H2 s2 => q G2 H2 (s1.trans s2)⟩
  | false => cases e2; exact q G1 H1 s1
theorem fw_or {rest : List Expr} (ha : FT X a f) (hb : PW X (.BoolOp .Or (b :: rest) pos) (tFT (ccOf X) g)) : PW X (.BoolOp .Or (a :: b :: rest) pos) (tFT (ccOf X) (eOr f g)) := PWimp (pw_or ha hb) fun σ H Q ⟨rs, G, r, k, hs, ev, q⟩ => by
  unfold eOr at ev
  rw [Option.bind_assoc] at ev
  obtain ⟨c, e1, e2⟩ := Option.bind_eq_some_iff.mp ev
  refine ⟨rs, G, r, c, hs, e1, fun G1 H1 s1 => ?_⟩
  cases c with
  | false => exact ⟨rs, G1, r, k, hs.step s1, bl_back e2, fun G2 H2 s2 => q G2 H2 (s1.trans s2)⟩
  | true => cases e2; exact q G1 H1 s1
theorem blv {G : Hp} {v : V} {d : D} (h : Dv (ccOf X) G v d) {z : D} (e : (blD d).map D.bl = some z) : ∃ k, v = .bl k ∧ z = .bl k ∧ d = .bl k := by
  cases h <;> first | (cases e; done) | (cases e; exact ⟨_, rfl, rfl, rfl⟩)
theorem fe_and (ha : FE X a f) (hb : FE X b g) : FE X (.BoolOp .And [a, b] pos) (eAnd f g) := PEimp (pe_and ha (pe_one hb)) fun σ H Q ⟨rs, G, r, d, hs, ev, q⟩ => by
  unfold eAnd at ev
  obtain ⟨c, e1, e2⟩ := Option.bind_eq_some_iff.mp ev
  obtain ⟨d1, e0, e1⟩ := Option.bind_eq_some_iff.mp e1
  refine ⟨rs, G, r, d1, hs, e0, fun v G1 H1 s1 h1 => ⟨c, h1.bl_ e1, ?_⟩⟩
  cases c with
  | true =>
    obtain ⟨d2, e3, e4⟩ := Option.bind_eq_some_iff.mp e2
    refine ⟨rs, G1, r, d2, hs.step s1, e3, fun u G2 H2 s2 h2 => ?_⟩
    obtain ⟨k, rfl, rfl, rfl⟩ := blv h2 e4
    exact q _ G2 H2 (s1.trans s2) h2
  | false => cases e2; exact q _ G1 H1 s1 (.bl false)
theorem fe_or (ha : FE X a f) (hb : FE X b g) : FE X (.BoolOp .Or [a, b] pos) (eOr f g) := PEimp (pe_or ha (pe_one hb)) fun σ H Q ⟨rs, G, r, d, hs, ev, q⟩ => by
  unfold eOr at ev
  obtain ⟨c, e1, e2⟩ := Option.bind_eq_some_iff.mp ev
  obtain ⟨d1, e0, e1⟩ := Option.bind_eq_some_iff.mp e1
  refine ⟨rs, G, r, d1, hs, e0, fun v G1 H1 s1 h1 => ⟨c, h1.bl_ e1, ?_⟩⟩
  cases c with
  | false =>
    obtain ⟨d2, e3, e4⟩ := Option.bind_eq_some_iff.mp e2
    refine ⟨rs, G1, r, d2, hs.step s1, e3, fun u G2 H2 s2 h2 => ?_⟩
    obtain ⟨k, rfl, rfl, rfl⟩ := blv h2 e4
    exact q _ G2 H2 (s1.trans s2) h2
  | true => cases e2; exact q _ G1 H1 s1 (.bl true)
/-! is None -/
theorem fe_isN {j pos'} (ha : FE X a f) : FE X (.Compare a [.Is] [.Constant .none j pos'] pos) (e1 oIsN f) := PEimp (pe_cmp (pc_isN ha) rfl) fun σ H Q ⟨rs, G, r, d, hs, ev, q⟩ => by
  unfold e1 oIsN at ev
  obtain ⟨d1, e1, e2⟩ := Option.bind_eq_some_iff.mp ev
  cases e2
  refine ⟨rs, G, r, d1, hs, e1, fun v G1 H1 s1 h1 => ?_⟩
  have hn := h1.non_
  dsimp only
  rw [hn]
  exact q _ G1 H1 s1 (.bl _)
theorem fe_notN {j pos'} (ha : FE X a f) : FE X (.Compare a [.IsNot] [.Constant .none j pos'] pos) (e1 oNotN f) := PEimp (pe_cmp (pc_notN ha) rfl) fun σ H Q ⟨rs, G, r, d, hs, ev, q⟩ => by
  unfold e1 oNotN at ev
  obtain ⟨d1, e1, e2⟩ := Option.bind_eq_some_iff.mp ev
  cases e2
  refine ⟨rs, G, r, d1, hs, e1, fun v G1 H1 s1 h1 => ?_⟩
  have hn := h1.non_
  dsimp only
  rw [hn]
  exact q _ G1 H1 s1 (.bl _)
theorem ft_isN {j pos'} (ha : FE X a f) : FT X (.Compare a [.Is] [.Constant .none j pos'] pos) (e1 oIsN f) := PTimp (pt_cmp (pc_isN ha) rfl) fun σ H Q h => by
  obtain ⟨rs, G, r, d, hs, ev, q⟩ := tft_tf h
  unfold e1 oIsN at ev
  obtain ⟨d1, e1, e2⟩ := Option.bind_eq_some_iff.mp ev
  cases e2
  refine ⟨rs, G, r, d1, hs, e1, fun v G1 H1 s1 h1 => ?_⟩
  have hn := h1.non_
  dsimp only
  rw [hn]
  exact q _ G1 H1 s1 (.bl _)
theorem ft_notN {j pos'} (ha : FE X a f) : FT X (.Compare a [.IsNot] [.Constant .none j pos'] pos) (e1 oNotN f) := PTimp (pt_cmp (pc_notN ha) rfl) fun σ H Q h => by
  obtain ⟨rs, G, r, d, hs, ev, q⟩ := tft_tf h
  unfold e1 oNotN at ev
  obtain ⟨d1, e1, e2⟩ := Option.bind_eq_some_iff.mp ev
  cases e2
  refine ⟨rs, G, r, d1, hs, e1, fun v G1 H1 s1 h1 => ?_⟩
  have hn := h1.non_
  dsimp only
  rw [hn]
  exact q _ G1 H1 s1 (.bl _)

/-! ### the operators' rules -/
theorem fo_I {ff : Value → Value → Sem Value} {p : Int → Int → V} {q : Int → Int → D} (h : OpR X ff (rI0 p)) (hd : ∀ G i j, Dv (ccOf X) G (p i j) (q i j)) : OpR X ff (r2C (ccOf X) (oI q)) := OpRimp h fun x y H Q ⟨G, d, e, z, w, hx, hy, ev, k⟩ => by
  unfold oI at ev
  obtain ⟨i, e1, ev⟩ := Option.bind_eq_some_iff.mp ev
  obtain ⟨j, e2, ev⟩ := Option.bind_eq_some_iff.mp ev
  cases ev
  exact ⟨i, j, hx.int_ e1, hy.int_ e2, k _ G H w.refl (hd G i j)⟩
theorem fo_add : OpR X (binaryOp .Add) (r2C (ccOf X) oAdd) := fo_I op_add fun _ _ _ => .int _
theorem fo_sub : OpR X (binaryOp .Sub) (r2C (ccOf X) oSub) := fo_I op_sub fun _ _ _ => .int _
theorem fo_lt : OpR X (compareOp .Lt) (r2C (ccOf X) oLt) := fo_I op_lt fun _ _ _ => .bl _
theorem fo_le : OpR X (compareOp .LtE) (r2C (ccOf X) oLe) := fo_I op_le fun _ _ _ => .bl _
theorem fo_gt : OpR X (compareOp .Gt) (r2C (ccOf X) oGt) := fo_I op_gt fun _ _ _ => .bl _
theorem fo_ge : OpR X (compareOp .GtE) (r2C (ccOf X) oGe) := fo_I op_ge fun _ _ _ => .bl _
theorem fo_mul : OpR X (binaryOp .Mult) (r2C (ccOf X) oMul) := OpRimp op_mul fun x y H Q ⟨G, d, e, z, w, hx, hy, ev, k⟩ => by
  unfold oMul at ev
  obtain ⟨i, e1, ev⟩ := Option.bind_eq_some_iff.mp ev
  obtain ⟨j, e2, ev⟩ := Option.bind_eq_some_iff.mp ev
  simp only [Option.ite_none_right_eq_some, Option.some.injEq] at ev
  obtain ⟨hc, rfl⟩ := ev
  exact ⟨i, j, hx.int_ e1, hy.int_ e2, hc, k _ G H w.refl (.int _)⟩
theorem fo_mod : OpR X (binaryOp .Mod) (r2C (ccOf X) oMod) := OpRimp op_mod fun x y H Q ⟨G, d, e, z, w, hx, hy, ev, k⟩ => by
  unfold oMod at ev
  obtain ⟨i, e1, ev⟩ := Option.bind_eq_some_iff.mp ev
  obtain ⟨j, e2, ev⟩ := Option.bind_eq_some_iff.mp ev
  simp only [Option.ite_none_right_eq_some, Option.some.injEq] at ev
  obtain ⟨hc, rfl⟩ := ev
  exact ⟨i, j, hx.int_ e1, hy.int_ e2, hc, k _ G H w.refl (.int _)⟩
theorem fo_div : OpR X (binaryOp .FloorDiv) (r2C (ccOf X) oDiv) := OpRimp op_fdiv fun x y H Q ⟨G, d, e, z, w, hx, hy, ev, k⟩ => by
  unfold oDiv at ev
  obtain ⟨i, e1, ev⟩ := Option.bind_eq_some_iff.mp ev
  obtain ⟨j, e2, ev⟩ := Option.bind_eq_some_iff.mp ev
  simp only [Option.ite_none_right_eq_some, Option.some.injEq] at ev
  obtain ⟨hc, rfl⟩ := ev
  exact ⟨i, j, hx.int_ e1, hy.int_ e2, hc, k _ G H w.refl (.int _)⟩
theorem fo_pow : OpR X (binaryOp .Pow) (r2C (ccOf X) oPow) := OpRimp op_pow fun x y H Q ⟨G, d, e, z, w, hx, hy, ev, k⟩ => by
  unfold oPow at ev
  obtain ⟨i, e1, ev⟩ := Option.bind_eq_some_iff.mp ev
  obtain ⟨j, e2, ev⟩ := Option.bind_eq_some_iff.mp ev
  simp only [Option.ite_none_right_eq_some, Option.some.injEq] at ev
  obtain ⟨hc, rfl⟩ := ev
  exact ⟨i, j, hx.int_ e1, hy.int_ e2, hc, k _ G H w.refl (.int _)⟩
theorem fo_eqI : OpR X (compareOp .Eq) (r2C (ccOf X) oEqI) := OpRimp op_eq fun x y H Q ⟨G, d, e, z, w, hx, hy, ev, k⟩ => by
  unfold oEqI oI at ev
  obtain ⟨i, e1, ev⟩ := Option.bind_eq_some_iff.mp ev
  obtain ⟨j, e2, ev⟩ := Option.bind_eq_some_iff.mp ev
  cases ev
  rw [hx.int_ e1, hy.int_ e2]
  refine ⟨rfl, ?_⟩
  simp only [V.int.injEq]
  exact k _ G H w.refl (.bl _)
theorem fo_neI : OpR X (compareOp .NotEq) (r2C (ccOf X) oNeI) := OpRimp op_ne fun x y H Q ⟨G, d, e, z, w, hx, hy, ev, k⟩ => by
  unfold oNeI oI at ev
  obtain ⟨i, e1, ev⟩ := Option.bind_eq_some_iff.mp ev
  obtain ⟨j, e2, ev⟩ := Option.bind_eq_some_iff.mp ev
  cases ev
  rw [hx.int_ e1, hy.int_ e2]
  refine ⟨rfl, ?_⟩
  simp only [V.int.injEq]
  exact k _ G H w.refl (.bl _)
theorem fo_eqS : OpR X (compareOp .Eq) (r2C (ccOf X) oEqS) := OpRimp op_eq fun x y H Q ⟨G, d, e, z, w, hx, hy, ev, k⟩ => by
  unfold oEqS at ev
  split at ev
  · cases ev
    cases hx
    cases hy
    refine ⟨rfl, ?_⟩
    simp only [V.str.injEq]
    exact k _ G H w.refl (.bl _)
  · cases ev
theorem fo_neS : OpR X (compareOp .NotEq) (r2C (ccOf X) oNeS) := OpRimp op_ne fun x y H Q ⟨G, d, e, z, w, hx, hy, ev, k⟩ => by
  unfold oNeS at ev
  split at ev
  · cases ev
    cases hx
    cases hy
    refine ⟨rfl, ?_⟩
    simp only [V.str.injEq]
    exact k _ G H w.refl (.bl _)
  · cases ev
mutual
theorem Dv.dp {C : Cc} {G : Hp} : ∀ (d : D) (v : V), Dv C G v d → d.pure = true → Dp C.K G v d.py
  | .non, _, h, _ => by cases h; exact .non
  | .bl _, _, h, _ => by cases h; exact .bl _
  | .int _, _, h, _ => by cases h; exact .int _
  | .str _, _, h, _ => by cases h; exact .str _
  | .tup ds, _, h, p => by
    cases h with
    | tup ha hl => exact .tup (SqT.of ha) (DvL.dp ds _ hl p)
  | .lst ds, _, h, p => by
    cases h with
    | lst ha hl => exact .lst (SqL.of ha) (DvL.dp ds _ hl p)
  | .dic _ _, _, _, p => by cases p
  | .obj _ _, _, _, p => by cases p
  | .scr _, _, _, p => by cases p
theorem DvL.dp {C : Cc} {G : Hp} : ∀ (ds : List D) (vs : List V), DvL C G vs ds → pureL ds = true → DpAll C.K G vs (pyL ds)
  | [], _, h, _ => by cases h; exact .nil
  | d :: ds, _, h, p => by
    have p' : (d.pure && pureL ds) = true := p
    cases h with
    | cons h t => exact .cons (Dv.dp d _ h (Bool.and_eq_true_iff.mp p').1) (DvL.dp ds _ t (Bool.and_eq_true_iff.mp p').2)
end
theorem fo_eqD (hu : X.A.units + 64 < cLine) : OpR X (compareOp .Eq) (r2C (ccOf X) oEqD) := OpRimp (op_eqD hu) fun x y H Q ⟨G, d, e, z, w, hx, hy, ev, k⟩ => by
  simp only [oEqD, Option.ite_none_right_eq_some, Option.some.injEq] at ev
  obtain ⟨⟨p1, p2, s1, s2⟩, rfl⟩ := ev
  exact ⟨d.py, e.py, Dv.dp d _ (hx.wd w) p1, Dv.dp e _ (hy.wd w) p2, s1, s2, k _ G H w.refl (.bl _)⟩
theorem fo_neD (hu : X.A.units + 64 < cLine) : OpR X (compareOp .NotEq) (r2C (ccOf X) oNeD) := OpRimp (op_neD hu) fun x y H Q ⟨G, d, e, z, w, hx, hy, ev, k⟩ => by
  simp only [oNeD, Option.ite_none_right_eq_some, Option.some.injEq] at ev
  obtain ⟨⟨p1, p2, s1, s2⟩, rfl⟩ := ev
  exact ⟨d.py, e.py, Dv.dp d _ (hx.wd w) p1, Dv.dp e _ (hy.wd w) p2, s1, s2, k _ G H w.refl (.bl _)⟩
theorem ints_vs {C : Cc} {G : Hp} : ∀ {vs : List V} {ds : List D} {is : List Int}, DvL C G vs ds → intsD ds = some is → vs = is.map V.int
  | _, _, _, .nil, e => by cases e; rfl
  | _, d :: ds, is, .cons h t, e => by
    cases h <;> first | (cases e; done) | skip
    simp only [intsD, Option.map_eq_some_iff] at e
    obtain ⟨js, e1, rfl⟩ := e
    rw [ints_vs t e1]
    rfl
theorem fo_cat : OpR X (binaryOp .Add) (r2C (ccOf X) oCatT) := OpRimp op_catA fun x y H Q ⟨G, d, e, z, w, hx, hy, ev, k⟩ => by
  unfold oCatT at ev
  obtain ⟨i, e1, ev⟩ := Option.bind_eq_some_iff.mp ev
  obtain ⟨j, e2, ev⟩ := Option.bind_eq_some_iff.mp ev
  simp only [Option.ite_none_right_eq_some, Option.some.injEq] at ev
  obtain ⟨hc, rfl⟩ := ev
  obtain ⟨a, vs, rfl, ha, hl⟩ := hx.tup_ e1
  obtain ⟨b, ws, rfl, hb, hm⟩ := hy.tup_ e2
  refine ⟨a, b, vs, ws, rfl, rfl, SqT.of (w.gh _ _ ha), SqT.of (w.gh _ _ hb), by rw [hl.len, hm.len]; exact lim_le hc, fun z => ?_, fun _ z => ?_, fun _ _ p hp => ?_⟩
  · subst z
    cases hl
    exact k _ G H w.refl (.tup hb hm)
  · subst z
    cases hm
    rw [List.append_nil] at k
    exact k _ G H w.refl (.tup ha hl)
  · have s2 := w.new (.tup (vs ++ ws)) hp
    exact k _ _ _ s2 (.tup upd_same ((hl.append hm).mono s2.g))
theorem fo_catL : OpR X (binaryOp .Add) (r2C (ccOf X) oCat) := OpRimp op_cat fun x y H Q ⟨G, d, e, z, w, hx, hy, ev, k⟩ => by
  unfold oCat at ev
  obtain ⟨i, e1, ev⟩ := Option.bind_eq_some_iff.mp ev
  obtain ⟨j, e2, ev⟩ := Option.bind_eq_some_iff.mp ev
  simp only [Option.ite_none_right_eq_some, Option.some.injEq] at ev
  obtain ⟨hc, rfl⟩ := ev
  obtain ⟨a, vs, rfl, ha, hl⟩ := hx.lst_ e1
  obtain ⟨b, ws, rfl, hb, hm⟩ := hy.lst_ e2
  refine ⟨a, b, vs, ws, rfl, rfl, w.gh _ _ ha, w.gh _ _ hb, by rw [hl.len, hm.len]; exact lim_le hc, fun p hp => ?_⟩
  have s2 := w.new (.lst (vs ++ ws)) hp
  exact k _ _ _ s2 (.lst upd_same ((hl.append hm).mono s2.g))
/-! subscripts -/
theorem at_of {α : Type} {l : List α} {i : Int} (h0 : 0 ≤ i) : atI l i = l[i.toNat]? := by
  unfold atI ixN
  by_cases h : i < (l.length : Int)
  · simp [h0, h]
  · rw [List.getElem?_eq_none (by omega)]
    simp [h0, h]
theorem atD_some {l : List D} {i : Int} {d : D} (h : atD l i = some d) : 0 ≤ i ∧ l[i.toNat]? = some d := by
  unfold atD at h
  split at h
  · exact ⟨by assumption, h⟩
  · cases h
theorem fx_ix : IxR X (r2C (ccOf X) oIx) := by
  intro a b pins s σ H x y v u Q I rx ry ⟨G, d, e, z, w, hx, hy, ev, k⟩
  unfold oIx at ev
  obtain ⟨l, e1, ev⟩ := Option.bind_eq_some_iff.mp ev
  obtain ⟨j, e2, ev⟩ := Option.bind_eq_some_iff.mp ev
  obtain ⟨h0, hz⟩ := atD_some ev
  obtain ⟨p, vs, rfl, hp, hl⟩ := hx.seq_ e1
  obtain ⟨zv, hzv, hzd⟩ := hl.get hz
  cases hy.int_ e2
  have q := k zv G H w.refl hzd
  rcases hp with hp | hp
  · exact ix_list a b pins s σ H _ _ v u Q I rx ry ⟨p, vs, j, zv, rfl, rfl, ex_l w.gh hp, by rw [at_of h0]; exact hzv, q⟩
  · exact ix_tup a b pins s σ H _ _ v u Q I rx ry ⟨p, vs, j, zv, rfl, rfl, SqT.of (w.gh _ _ hp), by rw [at_of h0]; exact hzv, q⟩
theorem fe_ix (ha : FE X a f) (hb : FE X b g) (hs : PlainIx b) : FE X (.Subscript a b pos) (eIx f g) := PEimp (pe_ix fx_ix ha hb hs) fun σ H Q h => cmp_read h
/-- a slice of a tuple -/
theorem fe_to {i : Nat} {j : Nat} {p1 p2} (ha : FE X a f) : FE X (.Subscript a (.Slice none (some (.Constant (.int (Int.ofNat i)) j p1)) none p2) pos) (e1 (oTo i) f) := PEimp (pe_slice sl_tupA ha po_none (po_some pe_int)) fun σ H Q ⟨rs, G, r, d, hs, ev, q⟩ => by
  unfold DL.e1 oTo at ev
  obtain ⟨d1, e1, ev⟩ := Option.bind_eq_some_iff.mp ev
  obtain ⟨l, e2, ev⟩ := Option.bind_eq_some_iff.mp ev
  simp only [Option.ite_none_right_eq_some, Option.some.injEq] at ev
  obtain ⟨⟨hc, _⟩, rfl⟩ := ev
  refine ⟨rs, G, r, d1, hs, e1, fun v G1 H1 s1 h1 => ⟨_, rfl, ?_⟩⟩
  obtain ⟨p, vs, rfl, hp, hl⟩ := h1.tup_ e2
  have hlen := hl.len
  have e3 : HT.sIx vs.length 0 none = 0 := rfl
  have e4 : HT.sIx vs.length vs.length (some (Int.ofNat i)) = i := by rw [show Int.ofNat i = ((i : Nat) : Int) from rfl, HT.sIx_nat]; omega
  refine ⟨p, vs, rfl, SqT.of (s1.wd.gh _ _ hp), fun z => ?_, fun _ t ht => ?_⟩
  · rw [e4] at z; omega
  · have e5 : cutV vs none (some (Int.ofNat i)) = vs.take i := by unfold cutV; rw [e3, e4]; simp
    rw [e5]
    have s2 := s1.wd.new (.tup (vs.take i)) ht
    exact q _ _ _ (s1.trans s2) (.tup upd_same ((hl.take i).mono s2.g))
theorem fe_from {i : Nat} {j : Nat} {p1 p2} (ha : FE X a f) : FE X (.Subscript a (.Slice (some (.Constant (.int (Int.ofNat i)) j p1)) none none p2) pos) (e1 (oFrom i) f) := PEimp (pe_slice sl_tupA ha (po_some pe_int) po_none) fun σ H Q ⟨rs, G, r, d, hs, ev, q⟩ => by
  unfold DL.e1 oFrom at ev
  obtain ⟨d1, e1, ev⟩ := Option.bind_eq_some_iff.mp ev
  obtain ⟨l, e2, ev⟩ := Option.bind_eq_some_iff.mp ev
  simp only [Option.ite_none_right_eq_some, Option.some.injEq] at ev
  obtain ⟨⟨hc, hc2, _⟩, rfl⟩ := ev
  refine ⟨rs, G, r, d1, hs, e1, fun v G1 H1 s1 h1 => ⟨_, rfl, ?_⟩⟩
  obtain ⟨p, vs, rfl, hp, hl⟩ := h1.tup_ e2
  have hlen := hl.len
  have e3 : HT.sIx vs.length vs.length none = vs.length := rfl
  have e4 : HT.sIx vs.length 0 (some (Int.ofNat i)) = i := by rw [show Int.ofNat i = ((i : Nat) : Int) from rfl, HT.sIx_nat]; omega
  refine ⟨p, vs, rfl, SqT.of (s1.wd.gh _ _ hp), fun z => ?_, fun _ t ht => ?_⟩
  · rw [e4] at z; omega
  · have e5 : cutV vs (some (Int.ofNat i)) none = vs.drop i := by
      unfold cutV; rw [e3, e4, List.take_of_length_le]; rw [List.length_drop]; omega
    rw [e5]
    have s2 := s1.wd.new (.tup (vs.drop i)) ht
    exact q _ _ _ (s1.trans s2) (.tup upd_same ((hl.drop i).mono s2.g))
/-! a <= b < c -/
theorem chain_read {c : Expr} {h : EX} {σ : L2.St} {H : Hp} {Q : VK} (k : tF (ccOf X) (eLeLt f g h) σ H Q) : tChain (r2C (ccOf X) oLe) (r2C (ccOf X) oLt) (tF (ccOf X) f) (tF (ccOf X) g) (tF (ccOf X) h) σ H Q := by
  obtain ⟨rs, G, r, d, hs, ev, q⟩ := k
  unfold eLeLt at ev
  obtain ⟨i, e1, ev⟩ := Option.bind_eq_some_iff.mp ev
  obtain ⟨d1, e0, e1⟩ := Option.bind_eq_some_iff.mp e1
  obtain ⟨j, e2, ev⟩ := Option.bind_eq_some_iff.mp ev
  obtain ⟨d2, e3, e2⟩ := Option.bind_eq_some_iff.mp e2
  refine ⟨rs, G, r, d1, hs, e0, fun v G1 H1 s1 h1 => ⟨rs, G1, r, d2, hs.step s1, e3, fun u G2 H2 s2 h2 => ?_⟩⟩
  refine ⟨G2, d1, d2, .bl (decide (i ≤ j)), s2.wd, h1.mono s2.g, h2, by unfold oLe oI; rw [e1, e2]; rfl, fun z G3 H3 s3 h3 => ⟨decide (i ≤ j), h3.bl_ rfl, ?_⟩⟩
  by_cases hij : i ≤ j
  · rw [if_pos hij] at ev
    rw [if_pos (decide_eq_true hij)]
    obtain ⟨k, e4, ev⟩ := Option.bind_eq_some_iff.mp ev
    obtain ⟨d3, e5, e4⟩ := Option.bind_eq_some_iff.mp e4
    refine ⟨rs, G3, r, d3, (hs.step s1).step (s2.trans s3), e5, fun w G4 H4 s4 h4 => ?_⟩
    refine ⟨G4, d2, d3, d, s4.wd, (h2.mono s3.g).mono s4.g, h4, by unfold oLt oI; rw [e2, e4]; exact ev, fun y G5 H5 s5 h5 => q y G5 H5 ((((s1.trans s2).trans s3).trans s4).trans s5) h5⟩
  · rw [if_neg hij] at ev
    rw [decide_eq_false hij, if_neg Bool.false_ne_true]
    cases ev
    exact q _ G3 H3 ((s1.trans s2).trans s3) (.bl false)
theorem ft_leLt {h : EX} (ha : FE X a f) (hb : FE X b g) (hc : FE X c h) (hm : lastMarks [.LtE, .Lt] [b, c] = false := by with_unfolding_all rfl) : FT X (.Compare a [.LtE, .Lt] [b, c] pos) (eLeLt f g h) :=
  PTimp (pt_chain fo_le fo_lt ha hb hc hm) fun σ H Q k => chain_read (c := c) (tft_tf k)
theorem fe_leLt {h : EX} (ha : FE X a f) (hb : FE X b g) (hc : FE X c h) (hm : lastMarks [.LtE, .Lt] [b, c] = false := by with_unfolding_all rfl) : FE X (.Compare a [.LtE, .Lt] [b, c] pos) (eLeLt f g h) :=
  PEimp (pe_chain fo_le fo_lt ha hb hc hm) fun σ H Q k => chain_read (c := c) k
/-! tuples' order; members -/
theorem lexLe_at : ∀ (ns ms : List Int) (k : Nat), k ≤ ns.length → k ≤ ms.length → Ob.lexAt (fun j => decide (ns.getD j 0 = ms.getD j 0)) (fun j => decide (ns.getD j 0 ≤ ms.getD j 0)) (decide (ns.length ≤ ms.length)) k (min ns.length ms.length - k) = lexLe (ns.drop k) (ms.drop k) := by
  intro ns ms k h1 h2
  induction hn : (min ns.length ms.length - k) generalizing k with
  | zero =>
    rw [Ob.lexAt_zero]
    by_cases q : ns.length ≤ ms.length
    · have : k = ns.length := by omega
      subst this
      rw [List.drop_length]
      simp [lexLe, q]
    · have : k = ms.length := by omega
      subst this
      rw [List.drop_length]
      rw [decide_eq_false q]
      have hlt : ms.length < ns.length := by omega
      rw [List.drop_eq_getElem_cons hlt]
      rfl
  | succ m ih =>
    have l1 : k < ns.length := by omega
    have l2 : k < ms.length := by omega
    rw [Ob.lexAt_succ, List.drop_eq_getElem_cons l1, List.drop_eq_getElem_cons l2]
    have g1 : ns.getD k 0 = ns[k] := by simp [List.getD, l1]
    have g2 : ms.getD k 0 = ms[k] := by simp [List.getD, l2]
    rw [g1, g2]
    unfold lexLe
    by_cases q : ns[k] = ms[k]
    · rw [if_pos q, if_pos (decide_eq_true q)]
      exact ih (k + 1) l1 l2 (by omega)
    · rw [if_neg q, if_neg (by simp [q])]
      have : (ns[k] ≤ ms[k]) ↔ (ns[k] < ms[k]) := by omega
      simp only [this]
theorem fo_leT (hu : X.A.units < cLine) : OpR X (compareOp .LtE) (r2C (ccOf X) oLeT) := OpRimp (op_leT hu) fun x y H Q ⟨G, d, e, z, w, hx, hy, ev, k⟩ => by
  unfold oLeT at ev
  obtain ⟨ns, e1, ev⟩ := Option.bind_eq_some_iff.mp ev
  obtain ⟨l1, e0, e1⟩ := Option.bind_eq_some_iff.mp e1
  obtain ⟨ms, e2, ev⟩ := Option.bind_eq_some_iff.mp ev
  obtain ⟨l2, e3, e2⟩ := Option.bind_eq_some_iff.mp e2
  cases ev
  obtain ⟨a, vs, rfl, ha, hl⟩ := hx.tup_ e0
  obtain ⟨b, ws, rfl, hb, hm⟩ := hy.tup_ e3
  rw [ints_vs hl e1] at ha
  rw [ints_vs hm e2] at hb
  refine ⟨a, b, ns, ms, rfl, rfl, SqT.of (w.gh _ _ ha), SqT.of (w.gh _ _ hb), ?_⟩
  have q := lexLe_at ns ms 0 (Nat.zero_le _) (Nat.zero_le _)
  rw [Nat.sub_zero, List.drop_zero, List.drop_zero] at q
  rw [q]
  exact k _ G H w.refl (.bl _)
theorem inV_ints (i : Int) : ∀ l : List Int, inV (.int i) (l.map V.int) = decide (i ∈ l) := by
  intro l
  induction l with
  | nil => simp [inV]
  | cons j l ih =>
    unfold inV at ih ⊢
    rw [List.map_cons, List.any_cons, ih]
    by_cases q : j = i
    · subst q; simp [eqV]
    · have q' : ¬ i = j := fun z => q z.symm
      simp [eqV, q, q']
theorem flat_ints : ∀ l : List Int, (l.map V.int).all flatV = true
  | [] => rfl
  | _ :: l => flat_ints l
theorem fo_inI_ {op : CmpOp} (neg : Bool) (h : OpR X (compareOp op) (rIn X.K neg)) : OpR X (compareOp op) (r2C (ccOf X) (oInI neg)) := OpRimp h fun x y H Q ⟨G, d, e, z, w, hx, hy, ev, k⟩ => by
  unfold oInI at ev
  obtain ⟨i, e1, ev⟩ := Option.bind_eq_some_iff.mp ev
  obtain ⟨l, e2, ev⟩ := Option.bind_eq_some_iff.mp ev
  obtain ⟨ds, e3, e2⟩ := Option.bind_eq_some_iff.mp e2
  cases ev
  obtain ⟨p, vs, rfl, hp, hl⟩ := hy.seq_ e3
  have hv := ints_vs hl e2
  subst hv
  rw [hx.int_ e1]
  refine ⟨p, l.map V.int, rfl, ?_, rfl, flat_ints _, ?_⟩
  · rcases hp with hp | hp
    · exact .inl (ex_l w.gh hp)
    · exact .inr (SqT.of (w.gh _ _ hp))
  · rw [inV_ints]
    exact k _ G H w.refl (.bl _)
theorem fo_inI : OpR X (compareOp .In) (r2C (ccOf X) (oInI false)) := fo_inI_ false op_in_seq
theorem fo_notInI : OpR X (compareOp .NotIn) (r2C (ccOf X) (oInI true)) := fo_inI_ true op_notIn_seq
theorem fo_notInT (hu : X.A.units + 65 < cLine) : OpR X (compareOp .NotIn) (r2C (ccOf X) oNotInT) := by
  intro pins s σ H x y v u Q I rx ry ⟨G, d, e, z, w, hx, hy, ev, k⟩
  unfold oNotInT at ev
  obtain ⟨l, e1, ev⟩ := Option.bind_eq_some_iff.mp ev
  simp only [Option.ite_none_right_eq_some, Option.some.injEq] at ev
  obtain ⟨⟨p1, p2, s1, s2⟩, rfl⟩ := ev
  have ee : e = .tup l := by
    cases e <;> first | (cases e1; done) | (cases e1; rfl)
  subst ee
  obtain ⟨as, r1⟩ := Dp.reads I d.py x v (Dv.dp d _ (hx.wd w) p1) rx
  obtain ⟨bs, r2⟩ := Dp.reads I (.tuple (pyL l)) y u (Dv.dp (.tup l) _ (hy.wd w) p2) ry
  exact SeqAt.notIn_tuple_reads r2 r1 (SeqAt.canLay_of_shaped (d := .tuple (pyL l)) s2) (SeqAt.canLay_of_shaped s1) (room_in_shaped s1 hu) ⟨.bl _, H, I, rfl, k _ G H w.refl (.bl _)⟩
end
end DL
end

section
set_option Elab.async false
set_option linter.all false
set_option maxRecDepth 100000
set_option maxHeartbeats 2000000
/-! D1c: calls, attributes, places of one's own. -/
namespace DL
open PySem PySem.Spec PyProof.Rows L2

/-! ### calls -/
/-- the promise of a def over data: n arguments -/
def spD (C : Cc) (n : Nat) (g : List D → Option D) : Sp := fun vs H Q _ => ∃ G ds z, Wd G H ∧ DvL C G vs ds ∧ ds.length = n ∧ g ds = some z ∧ ∀ v G' H', Stp G H G' H' → Dv C G' v z → Q v H'
section
variable {X : Cx} {e a b c : Expr} {es : List Expr} {f g : EX} {fs : EXs} {pos p apos : Pos} {x m : Str} {gf : List D → Option D}
theorem call_read {C : Cc} {n : Nat} {σ : L2.St} {H : Hp} {Q : VK} (hn : ∀ ds z, gf ds = some z → ds.length = n) (h : tF C (eCall gf fs) σ H Q) : tCall (spD C n gf) [] E0 (tFA C fs) σ H Q := by
  obtain ⟨rs, G, r, d, hs, ev, q⟩ := h
  obtain ⟨ds, e1, e2⟩ := Option.bind_eq_some_iff.mp ev
  refine ⟨rs, G, r, ds, hs, e1, fun vs G1 H1 s1 h1 => ?_⟩
  refine ⟨G1, ds, d, s1.wd, by rw [List.append_nil]; exact h1, hn _ _ e2, e2, fun v G2 H2 s2 h2 => q v G2 H2 (s1.trans s2) h2⟩
/-- f(e, ..), f a def -/
theorem fe_call {k : Nat} {f : Addr} {fd : FuncData} {ps : List Str} (F : FnOk X.prog X.w X.K X.mg X.base CX0 k f fd ps (spD (ccOf X) ps.length gf)) (hn : ∀ ds z, gf ds = some z → ds.length = ps.length) (hr : Room k X.A) (hg : Gl X x) (hm : X.mg x = some (.ref f)) (hk : PySem.W.keepIn X.K (.ref f) = true) (hb : Binds X.K fd ps [])
    (ha : FA X (e :: es) fs) (hdb : (x == ("__debug__" : Str)) = false := by decide) (he : starEach (e :: es) X.env = (false, eval e X.env) :: starEach es X.env := by rfl) (hpl : (backTo pos (starEach es X.env)).any (·.1) = false := by rfl) :
    FE X (.Call (.Name x p) (e :: es) [] pos) (eCall gf fs) := PEimp (pe_call F hr hg hm hk hb .nil pass0 ha hdb he hpl) fun σ H Q h => call_read hn h
theorem cb_read {C : Cc} {σ : L2.St} {H : Hp} {Q : VK} (h : tF C (eCall gf fs) σ H Q) : tCB (rcC C gf) (tFA C fs) σ H Q := by
  obtain ⟨rs, G, r, d, hs, ev, q⟩ := h
  obtain ⟨ds, e1, e2⟩ := Option.bind_eq_some_iff.mp ev
  exact ⟨rs, G, r, ds, hs, e1, fun vs G1 H1 s1 h1 => ⟨G1, ds, d, s1.wd, h1, e2, fun v G2 H2 s2 h2 => q v G2 H2 (s1.trans s2) h2⟩⟩
/-- a built-in, a built-in class -/
theorem fe_callB {id : String} (hc : CallR X (.builtin id) (rcC (ccOf X) gf)) (hg : Gl X x) (hm : X.mg x = none) (hv : bootBuiltins x = some (.builtin id)) (ha : FA X (e :: es) fs) (hn : x ≠ "__name__" := by decide) (hdb : (x == ("__debug__" : Str)) = false := by decide)
    (he : starEach (e :: es) X.env = (false, eval e X.env) :: starEach es X.env := by rfl) (hpl : (backTo pos (starEach es X.env)).any (·.1) = false := by rfl) : FE X (.Call (.Name x p) (e :: es) [] pos) (eCall gf fs) :=
  PEimp (pe_callB hc hg hm hv ha hn hdb he hpl) fun σ H Q h => cb_read h
theorem fe_callTy {id : String} (hc : CallR X (.type id) (rcC (ccOf X) gf)) (hg : Gl X x) (hm : X.mg x = none) (hv : bootBuiltins x = some (.type id)) (ha : FA X (e :: es) fs) (hn : x ≠ "__name__" := by decide) (hdb : (x == ("__debug__" : Str)) = false := by decide)
    (he : starEach (e :: es) X.env = (false, eval e X.env) :: starEach es X.env := by rfl) (hpl : (backTo pos (starEach es X.env)).any (·.1) = false := by rfl) : FE X (.Call (.Name x p) (e :: es) [] pos) (eCall gf fs) :=
  PEimp (pe_callTy hc hg hm hv ha hn hdb he hpl) fun σ H Q h => cb_read h
/-! the built-ins -/
def gLen : List D → Option D
  | [d] => (seqD d).map fun l => .int l.length
  | _ => none
def gTuple : List D → Option D
  | [d] => (seqD d).map .tup
  | _ => none
def blsD : List D → Option (List Bool)
  | [] => some []
  | .bl b :: l => (blsD l).map (b :: ·)
  | _ => none
def gAll : List D → Option D
  | [d] => ((lstD d).bind blsD).map fun l => .bl (l.all id)
  | _ => none
def gInt : List D → Option D
  | [.bl b] => some (.int (b2 b))
  | _ => none
def gBool : List D → Option D
  | [.bl b] => some (.bl b)
  | _ => none
theorem one_of {C : Cc} {G : Hp} {xs : List V} {d : D} (h : DvL C G xs [d]) : ∃ v, xs = [v] ∧ Dv C G v d := by
  cases h with
  | cons h t => cases t; exact ⟨_, rfl, h⟩
theorem fc_len : CallR X (.builtin "len") (rcC (ccOf X) gLen) := CallRimp call_len_seq fun xs H Q ⟨G, ds, z, w, hd, ev, k⟩ => by
  unfold gLen at ev
  split at ev
  · obtain ⟨l, e1, e2⟩ := Option.map_eq_some_iff.mp ev
    subst e2
    obtain ⟨v, rfl, hv⟩ := one_of hd
    obtain ⟨a, vs, rfl, ha, hl⟩ := hv.seq_ e1
    rw [← hl.len] at k
    refine ⟨a, vs, rfl, ?_, k _ G H w.refl (.int _)⟩
    rcases ha with ha | ha
    · exact .inl (ex_l w.gh ha)
    · exact .inr (SqT.of (w.gh _ _ ha))
  · cases ev
theorem fc_tuple : CallR X (.type "tuple") (rcC (ccOf X) gTuple) := CallRimp call_tuple_of fun xs H Q ⟨G, ds, z, w, hd, ev, k⟩ => by
  unfold gTuple at ev
  split at ev
  · obtain ⟨l, e1, e2⟩ := Option.map_eq_some_iff.mp ev
    subst e2
    obtain ⟨v, rfl, hv⟩ := one_of hd
    obtain ⟨a, vs, rfl, ha, hl⟩ := hv.seq_ e1
    rcases ha with ha | ha
    · refine ⟨a, vs, rfl, .inl ⟨ex_l w.gh ha, fun p hp => ?_⟩⟩
      have s2 := w.new (.tup vs) hp
      exact k _ _ _ s2 (.tup upd_same (hl.mono s2.g))
    · exact ⟨a, vs, rfl, .inr ⟨SqT.of (w.gh _ _ ha), k _ G H w.refl (.tup ha hl)⟩⟩
  · cases ev
theorem bls_vs {C : Cc} {G : Hp} : ∀ {vs : List V} {ds : List D} {is : List Bool}, DvL C G vs ds → blsD ds = some is → vs = is.map V.bl
  | _, _, _, .nil, e => by cases e; rfl
  | _, d :: ds, is, .cons h t, e => by
    cases h <;> first | (cases e; done) | skip
    simp only [blsD, Option.map_eq_some_iff] at e
    obtain ⟨js, e1, rfl⟩ := e
    rw [bls_vs t e1]
    rfl
theorem fc_all (hc : X.calm = true) : CallR X (.builtin "all") (rcC (ccOf X) gAll) := CallRimp (cr_all hc) fun xs H Q ⟨G, ds, z, w, hd, ev, k⟩ => by
  unfold gAll at ev
  split at ev
  · obtain ⟨l, e1, e2⟩ := Option.map_eq_some_iff.mp ev
    subst e2
    obtain ⟨ds, e3, e1⟩ := Option.bind_eq_some_iff.mp e1
    obtain ⟨v, rfl, hv⟩ := one_of hd
    obtain ⟨a, vs, rfl, ha, hl⟩ := hv.lst_ e3
    rw [bls_vs hl e1] at ha
    exact ⟨a, l, rfl, SqL.of (w.gh _ _ ha), k _ G H w.refl (.bl _)⟩
  · cases ev
theorem fc_int : CallR X (.type "int") (rcC (ccOf X) gInt) := by
  intro pins s σ H xs us Q I rx ⟨G, ds, z, w, hd, ev, k⟩
  unfold gInt at ev
  split at ev
  · cases ev
    obtain ⟨v, rfl, hv⟩ := one_of hd
    cases hv
    cases rx with
    | cons r t =>
      cases t
      cases r
      exact call_int_bool ⟨.int _, H, I.tok _, ⟨_, rfl⟩, k _ G H w.refl (.int _)⟩
  · cases ev
theorem fc_bool : CallR X (.type "bool") (rcC (ccOf X) gBool) := by
  intro pins s σ H xs us Q I rx ⟨G, ds, z, w, hd, ev, k⟩
  unfold gBool at ev
  split at ev
  · cases ev
    obtain ⟨v, rfl, hv⟩ := one_of hd
    cases hv
    cases rx with
    | cons r t =>
      cases t
      cases r
      exact call_bool_bool ⟨.bl _, H, I, rfl, k _ G H w.refl (.bl _)⟩
  · cases ev
/-! ### attributes -/
structure TxC (K : PySem.W.Frag) : Prop where
  cl : ∀ c : CN, Cls K (He.ga K (cname c))
  no : ∀ (c : CN) (f : Str), f ∈ fnames c → NoAttr K (He.ga K (cname c)) f
theorem lookup_zip : ∀ {N : List Str} {vs : List V} {j : Nat} {n : Str} {v : V}, N.Nodup → N[j]? = some n → vs[j]? = some v → (N.zip vs).lookup n = some v
  | [], _, _, _, _, _, h, _ => by simp at h
  | _ :: _, [], _, _, _, _, _, h => by simp at h
  | a :: N, w :: vs, 0, n, v, nd, h1, h2 => by
    simp at h1 h2; subst h1; subst h2
    simp [List.zip_cons_cons, List.lookup]
  | a :: N, w :: vs, j + 1, n, v, nd, h1, h2 => by
    have hne : ¬ n = a := by
      rintro rfl
      exact (List.nodup_cons.mp nd).1 (List.mem_of_getElem? (by simpa using h1))
    have hb : (n == a) = false := by simpa using hne
    rw [List.zip_cons_cons, List.lookup, hb]
    exact lookup_zip (j := j) (List.nodup_cons.mp nd).2 (by simpa using h1) (by simpa using h2)
theorem fn_nd (c : CN) : (fnames c).Nodup := by cases c <;> decide +kernel
/-- o.f -/
theorem fe_fld (T : TxC X.K) (c : CN) (j : Nat) (he : FE X e f) (hj : (fnames c)[j]? = some x := by rfl) (hb : attributeBase e x X.env (eval e X.env) = eval e X.env := by rfl) : FE X (.Attribute e x pos) (e1 (oFld c j) f) := PEimp (pe_fld he hb) fun σ H Q ⟨rs, G, r, d, hs, ev, q⟩ => by
  unfold DL.e1 oFld at ev
  obtain ⟨d1, e1, ev⟩ := Option.bind_eq_some_iff.mp ev
  obtain ⟨fs, e2, e3⟩ := Option.bind_eq_some_iff.mp ev
  refine ⟨rs, G, r, d1, hs, e1, fun v G1 H1 s1 h1 => ?_⟩
  obtain ⟨a, dx, vs, rfl, ha, hl⟩ := h1.obj_ e2
  obtain ⟨w, hw, hwd⟩ := hl.get e3
  exact ⟨a, _, dx, _, w, rfl, s1.wd.gh _ _ ha, T.cl c, T.no c x (List.mem_of_getElem? hj), lookup_zip (fn_nd c) hj hw, q w G1 H1 s1 hwd⟩

/-! ### places -/
/-- v stands at the place -/
def PlV (C : Cc) (H : Hp) (σ : L2.St) : Pl → V → Prop
  | .s i, v => σ[i]? = some (some v)
  | .f i c j, v => ∃ a dx vs, σ[i]? = some (some (.ref a)) ∧ H a = some (.ins (C.ca c) dx ((fnames c).zip vs)) ∧ vs[j]? = some v ∧ vs.length ≤ (fnames c).length
theorem PlV.ex {C : Cc} {H H' : Hp} {σ : L2.St} {p : Pl} {v : V} (e : Ex H H') (h : PlV C H σ p v) : PlV C H' σ p v := by
  cases p with
  | s i => exact h
  | f i c j =>
    obtain ⟨a, dx, vs, h1, h2, h3⟩ := h
    exact ⟨a, dx, vs, h1, e _ _ h2, h3⟩
/-- an expression that denotes a place of one's own -/
def tP (C : Cc) (p : Pl) : TE := fun σ H Q => ∃ rs G r x, Has C rs G H σ r ∧ getP r p = some x ∧ ∀ v, PlV C H σ p v → Q v H
abbrev FP (X : Cx) (e : Expr) (p : Pl) : Prop := PE X e (tP (ccOf X) p)
end

section
variable {C : Cc} {rs G H G' H' : Hp} {σ : L2.St} {r : Env} {fp : Nat → List Addr}
theorem FlsAt.flat {vs : List V} {fs : List Fld} {ps : List (List Addr)} {i : Nat} {q : List Addr} (hq : ps[i]? = some q) {a : Addr} (ha : a ∈ q) : a ∈ ps.flatten := List.mem_flatten.mpr ⟨q, List.mem_of_getElem? hq, ha⟩
theorem FlsAt.set (e : Ex G G') : ∀ {vs : List V} {fs : List Fld} {ps : List (List Addr)} {j : Nat} {v : V} {x : Fld} {q q' : List Addr}, FlsAt C G H vs fs ps → vs[j]? = some v → ps[j]? = some q → FlAt C G' H' v x q' →
    (∀ k p, k ≠ j → ps[k]? = some p → Kp p H H') → FlsAt C G' H' vs (fs.set j x) (ps.set j q')
  | _, _, _, _, _, _, _, _, .nil, h, _, _, _ => by simp at h
  | _, _, _, 0, _, _, _, _, .cons h t, h1, h2, hx, k => by
    simp at h1 h2
    subst h1
    exact .cons hx (t.keep e fun a ha => by
      obtain ⟨p, hp, hap⟩ := List.mem_flatten.mp ha
      obtain ⟨n, hn⟩ := List.mem_iff_getElem?.mp hp
      exact k (n + 1) p (by omega) (by simpa using hn) a hap)
  | _, _, _, j + 1, _, _, _, _, .cons h t, h1, h2, hx, k => by
    refine .cons (h.keep e (k 0 _ (by omega) rfl)) (FlsAt.set e (j := j) t (by simpa using h1) (by simpa using h2) hx fun n p hn hp => k (n + 1) p (by omega) (by simpa using hp))
theorem flat_set : ∀ {ps : List (List Addr)} {j : Nat} {q : List Addr} {a : Addr}, a ∈ (ps.set j q).flatten → a ∈ q ∨ ∃ k p, k ≠ j ∧ ps[k]? = some p ∧ a ∈ p := by
  intro ps j q a ha
  obtain ⟨p, hp, hap⟩ := List.mem_flatten.mp ha
  obtain ⟨n, hn⟩ := List.mem_iff_getElem?.mp hp
  by_cases h : n = j
  · subst h
    by_cases hl : n < ps.length
    · rw [List.getElem?_set_self hl] at hn
      cases hn
      exact .inl hap
    · rw [List.getElem?_eq_none (by simpa using hl)] at hn; cases hn
  · rw [List.getElem?_set_ne (Ne.symm h)] at hn
    exact .inr ⟨n, p, h, hn, hap⟩
/-- in a flat list without repetition, parts are apart -/
theorem flat_apart : ∀ {ps : List (List Addr)} {i j : Nat} {p q : List Addr} {a : Addr}, ps.flatten.Nodup → ps[i]? = some p → ps[j]? = some q → a ∈ p → a ∈ q → i = j
  | [], _, _, _, _, _, _, h, _, _, _ => by simp at h
  | x :: ps, 0, 0, _, _, _, _, _, _, _, _ => rfl
  | x :: ps, 0, j + 1, p, q, a, nd, h1, h2, ha, hb => by
    simp at h1; subst h1
    rw [List.flatten_cons] at nd
    have := (List.nodup_append.mp nd).2.2 a ha a (List.mem_flatten.mpr ⟨q, List.mem_of_getElem? (by simpa using h2), hb⟩)
    exact absurd rfl this
  | x :: ps, i + 1, 0, p, q, a, nd, h1, h2, ha, hb => by
    simp at h2; subst h2
    rw [List.flatten_cons] at nd
    have := (List.nodup_append.mp nd).2.2 a hb a (List.mem_flatten.mpr ⟨p, List.mem_of_getElem? (by simpa using h1), ha⟩)
    exact absurd rfl this
  | x :: ps, i + 1, j + 1, p, q, a, nd, h1, h2, ha, hb => by
    rw [List.flatten_cons] at nd
    exact congrArg Nat.succ (flat_apart (List.nodup_append.mp nd).2.1 (by simpa using h1) (by simpa using h2) ha hb)
theorem flat_set_nd : ∀ {ps : List (List Addr)} {j : Nat} {q q' : List Addr}, ps.flatten.Nodup → ps[j]? = some q → q'.Nodup → (∀ a ∈ q', a ∈ q ∨ a ∉ ps.flatten) → (ps.set j q').flatten.Nodup
  | [], _, _, _, _, h, _, _ => by simp at h
  | x :: ps, 0, q, q', nd, h, nq, k => by
    simp at h; subst h
    rw [List.set_cons_zero, List.flatten_cons]
    rw [List.flatten_cons] at nd
    obtain ⟨n1, n2, n3⟩ := List.nodup_append.mp nd
    refine List.nodup_append.mpr ⟨nq, n2, fun a ha b hb => ?_⟩
    rintro rfl
    rcases k a ha with z | z
    · exact n3 a z a hb rfl
    · exact z (by rw [List.flatten_cons]; exact List.mem_append_right _ hb)
  | x :: ps, j + 1, q, q', nd, h, nq, k => by
    rw [List.set_cons_succ, List.flatten_cons]
    rw [List.flatten_cons] at nd
    obtain ⟨n1, n2, n3⟩ := List.nodup_append.mp nd
    have h' : ps[j]? = some q := by simpa using h
    refine List.nodup_append.mpr ⟨n1, flat_set_nd n2 h' nq fun a ha => ?_, fun a ha b hb => ?_⟩
    · rcases k a ha with z | z
      · exact .inl z
      · exact .inr fun y => z (by rw [List.flatten_cons]; exact List.mem_append_right _ y)
    · rintro rfl
      rcases flat_set hb with z | ⟨n, p, _, hp, hap⟩
      · rcases k a z with y | y
        · exact n3 a ha a (List.mem_flatten.mpr ⟨q, List.mem_of_getElem? h', y⟩) rfl
        · exact y (by rw [List.flatten_cons]; exact List.mem_append_left _ ha)
      · exact n3 a ha a (List.mem_flatten.mpr ⟨p, List.mem_of_getElem? hp, hap⟩) rfl
theorem C1At.nd {v : V} {c : C1} {q : List Addr} (h : C1At C G H v c q) : q.Nodup := by
  cases c with
  | lst l => obtain ⟨a, vs, h1, h2, _⟩ := h; rw [h2]; simp
  | dic k kvs => obtain ⟨a, u, vs, h1, h2, _⟩ := h; rw [h2]; simp
  | dil kvs => obtain ⟨a, u, ls, h1, h2, h3, _⟩ := h; exact h3
/-- THE PLACE: what stands there, and how it is changed -/
theorem Has.pl {p : Pl} {x : C1} (h : Has C rs G H σ r) (e : getP r p = some x) : ∃ v q, PlV C H σ p v ∧ (∀ v', PlV C H σ p v' → v' = v) ∧ C1At C G H v x q ∧ (∀ a ∈ q, G a = none ∧ rs a = none ∧ ∃ o, H a = some o) ∧
    ∀ G' H' x' q', Wd G' H' → Ex G G' → (∀ a o, H a = some o → a ∉ q → H' a = some o) → (∀ a o, G' a = some o → G a = some o ∨ H a = none) → C1At C G' H' v x' q' → (∀ a ∈ q', (a ∈ q ∨ H a = none) ∧ G' a = none ∧ ∃ o, H' a = some o) → Has C rs G' H' σ (setP r x' p) := by
  obtain ⟨fp, f⟩ := h
  have gn : ∀ {G' : Hp}, (∀ a o, G' a = some o → G a = some o ∨ H a = none) → ∀ a, G a = none → (∃ o, H a = some o) → G' a = none := fun {G'} nw a h1 ⟨o, h2⟩ => by
    cases z : G' a with
    | none => rfl
    | some u =>
      rcases nw a u z with q | q
      · rw [h1] at q; cases q
      · rw [h2] at q; cases q
  cases p with
  | s i =>
    have e' : slot r i = some (.own x) := by
      simp only [getP] at e
      split at e
      · cases e; assumption
      · cases e
    obtain ⟨v, h1, h2⟩ := f.at_ i _ e'
    refine ⟨v, fp i, h1, fun v' hv' => ?_, h2, f.fr i, fun G' H' x' q' w eg k nw hx hq => ?_⟩
    · have hv2 : σ[i]? = some (some v') := hv'
      rw [h1] at hv2; cases hv2; rfl
    · have kp : ∀ j, j ≠ i → Kp (fp j) H H' := fun j hj a ha => by
        obtain ⟨_, _, o, ho⟩ := f.fr j a ha
        rw [ho, k a o ho fun z => hj (f.dj j i a ha z)]
      have f0 : HasF C rs G' H' σ (r.set i none) (fun j => if j = i then [] else fp j) := by
        refine ⟨w, fun a o ea => ?_, fun a o ea => gn nw a (f.rg a o ea) ⟨o, f.rh a o ea⟩, by simpa using f.len, fun j y ey => ?_, fun j a ha => ?_, fun j l a h1 h2 => ?_⟩
        · refine k a o (f.rh a o ea) fun z => ?_
          have := (f.fr i a z).2.1
          rw [ea] at this; cases this
        · rw [slot_set] at ey
          split at ey
          · cases ey
          · rename_i hn
            have hj : j ≠ i := fun z => hn ⟨z.symm, slot_lt e'⟩
            obtain ⟨u, h3, h4⟩ := f.at_ j y ey
            simp only [if_neg hj]
            exact ⟨u, h3, h4.keep eg (kp j hj)⟩
        · by_cases hj : j = i
          · simp only [hj, if_true] at ha; cases ha
          · simp only [if_neg hj] at ha
            obtain ⟨h3, h4, o, h5⟩ := f.fr j a ha
            exact ⟨gn nw a h3 ⟨o, h5⟩, h4, o, by rw [kp j hj a ha]; exact h5⟩
        · by_cases hj : j = i
          · simp only [hj, if_true] at h1; cases h1
          · by_cases hl : l = i
            · simp only [hl, if_true] at h2; cases h2
            · simp only [if_neg hj] at h1
              simp only [if_neg hl] at h2
              exact f.dj j l a h1 h2
      have f1 := f0.put (i := i) (v := v) (x := .own x') (q := q') hx (fun a ha => ?_) (fun j a hj ha => ?_)
      · have e1 : (r.set i none).set i (some (SV.own x')) = r.set i (some (.own x')) := by simp
        have e2 : σ.set i (some v) = σ := by
          obtain ⟨hl, hv⟩ := List.getElem?_eq_some_iff.mp h1
          rw [← hv]; simp
        rw [e1, e2] at f1
        exact ⟨_, f1⟩
      · obtain ⟨h3, h4, h5⟩ := hq a ha
        refine ⟨h4, ?_, h5⟩
        rcases h3 with h3 | h3
        · exact (f.fr i a h3).2.1
        · cases z : rs a with
          | none => rfl
          | some u => rw [f.rh a u z] at h3; cases h3
      · simp only [if_neg hj]
        intro hb
        rcases (hq a ha).1 with h3 | h3
        · exact hj (f.dj j i a hb h3)
        · obtain ⟨_, _, o, ho⟩ := f.fr j a hb
          rw [h3] at ho; cases ho
  | f i c j =>
    simp only [getP] at e
    split at e <;> first | (cases e; done) | skip
    rename_i t c' fs hsl
    split at e <;> first | (cases e; done) | skip
    rename_i hcc
    subst hcc
    split at e <;> first | (cases e; done) | skip
    rename_i y hfl
    cases e
    obtain ⟨v0, h1, h2⟩ := f.at_ i _ hsl
    obtain ⟨a, dx, vs, ps, rfl, ht, ha, hdx, hlen, hfs, hfp, hnd⟩ := h2
    obtain ⟨v, q, hv, hq, hfv⟩ := hfs.get hfl
    have hqf : ∀ b ∈ q, b ∈ fp i := fun b hb => by rw [hfp]; exact List.mem_cons_of_mem _ (List.mem_cons_of_mem _ (FlsAt.flat (vs := vs) (fs := fs) hq hb))
    rw [hfp] at hnd
    have nda : a ∉ ps.flatten := fun z => (List.nodup_cons.mp hnd).1 (List.mem_cons_of_mem _ z)
    have nadx : a ≠ dx := fun z => (List.nodup_cons.mp hnd).1 (z ▸ List.mem_cons_self)
    have ndx : dx ∉ ps.flatten := (List.nodup_cons.mp (List.nodup_cons.mp hnd).2).1
    have ndp : ps.flatten.Nodup := (List.nodup_cons.mp (List.nodup_cons.mp hnd).2).2
    refine ⟨v, q, ⟨a, dx, vs, h1, ha, hv, hlen⟩, fun v' ⟨a', dx', vs', z1, z2, z3, z4⟩ => ?_, hfv, fun b hb => f.fr i b (hqf b hb), fun G' H' x' q' w eg k nw hx hq' => ?_⟩
    · rw [h1] at z1
      cases z1
      rw [ha] at z2
      have e3 : (fnames c').zip vs = (fnames c').zip vs' := by
        injection z2 with z2
        injection z2
      have e4 : vs = vs' := by
        have l1 := congrArg (List.map Prod.snd) e3
        rw [List.map_snd_zip hlen, List.map_snd_zip z4] at l1
        exact l1
      subst e4
      rw [hv] at z3
      cases z3
      rfl
    · have kq : ∀ b, b ∉ q → (∃ o, H b = some o) → H' b = H b := fun b hb ⟨o, ho⟩ => by rw [ho, k b o ho hb]
      have kp : ∀ m, m ≠ i → Kp (fp m) H H' := fun m hm b hb => kq b (fun z => hm (f.dj m i b hb (hqf b z))) (f.fr m b hb).2.2
      have inH : ∀ b ∈ fp i, ∃ o, H b = some o := fun b hb => (f.fr i b hb).2.2
      have fpi : ∀ b, b = a ∨ b = dx ∨ b ∈ ps.flatten → b ∈ fp i := fun b hb => by rw [hfp]; simpa using hb
      have nq' : q'.Nodup := hx.nd
      have hset : FlsAt C G' H' vs (fs.set j (.own x')) (ps.set j q') := hfs.set eg hv hq hx fun m p hm hp b hb => by
        refine kq b (fun z => hm (flat_apart ndp hp hq hb z)) (inH b (fpi b (.inr (.inr (FlsAt.flat (vs := vs) (fs := fs) hp hb)))))
      have f0 : HasF C rs G' H' σ (r.set i none) (fun m => if m = i then [] else fp m) := by
        refine ⟨w, fun b o eb => ?_, fun b o eb => gn nw b (f.rg b o eb) ⟨o, f.rh b o eb⟩, by simpa using f.len, fun m y ey => ?_, fun m b hb => ?_, fun m l b h1 h2 => ?_⟩
        · refine k b o (f.rh b o eb) fun z => ?_
          have := (f.fr i b (hqf b z)).2.1
          rw [eb] at this; cases this
        · rw [slot_set] at ey
          split at ey
          · cases ey
          · rename_i hn
            have hm : m ≠ i := fun z => hn ⟨z.symm, slot_lt hsl⟩
            obtain ⟨u, h3, h4⟩ := f.at_ m y ey
            simp only [if_neg hm]
            exact ⟨u, h3, h4.keep eg (kp m hm)⟩
        · by_cases hm : m = i
          · simp only [hm, if_true] at hb; cases hb
          · simp only [if_neg hm] at hb
            obtain ⟨h3, h4, o, h5⟩ := f.fr m b hb
            exact ⟨gn nw b h3 ⟨o, h5⟩, h4, o, by rw [kp m hm b hb]; exact h5⟩
        · by_cases hm : m = i
          · simp only [hm, if_true] at h1; cases h1
          · by_cases hl : l = i
            · simp only [hl, if_true] at h2; cases h2
            · simp only [if_neg hm] at h1
              simp only [if_neg hl] at h2
              exact f.dj m l b h1 h2
      have aq : a ∉ q := fun z => nda (FlsAt.flat (vs := vs) (fs := fs) hq z)
      have dq : dx ∉ q := fun z => ndx (FlsAt.flat (vs := vs) (fs := fs) hq z)
      have q'in : ∀ b ∈ q', b ∈ q ∨ b ∉ fp i := fun b hb => by
        rcases (hq' b hb).1 with z | z
        · exact .inl z
        · exact .inr fun y => by
            obtain ⟨o, ho⟩ := inH b y
            rw [z] at ho; cases ho
      have q'flat : ∀ b, b ∈ (ps.set j q').flatten → b ∈ q' ∨ (b ∈ ps.flatten ∧ b ∉ q) := fun b hb => by
        rcases flat_set hb with z | ⟨m, p, hm, hp, hbp⟩
        · exact .inl z
        · exact .inr ⟨FlsAt.flat (vs := vs) (fs := fs) hp hbp, fun z => hm (flat_apart ndp hp hq hbp z)⟩
      have hobj : SVAt C G' H' (.ref a) (.obj t c' (fs.set j (.own x'))) (a :: dx :: (ps.set j q').flatten) := by
        refine ⟨a, dx, vs, ps.set j q', rfl, ht, by rw [kq a aq ⟨_, ha⟩]; exact ha, by rw [kq dx dq ⟨_, hdx⟩]; exact hdx, hlen, hset, rfl, ?_⟩
        refine List.nodup_cons.mpr ⟨fun z => ?_, List.nodup_cons.mpr ⟨fun z => ?_, ?_⟩⟩
        · rcases List.mem_cons.mp z with z | z
          · exact nadx z
          · rcases q'flat a z with y | y
            · rcases q'in a y with y | y
              · exact aq y
              · exact y (fpi a (.inl rfl))
            · exact nda y.1
        · rcases q'flat dx z with y | y
          · rcases q'in dx y with y | y
            · exact dq y
            · exact y (fpi dx (.inr (.inl rfl)))
          · exact ndx y.1
        · refine flat_set_nd ndp hq nq' fun b hb => ?_
          rcases q'in b hb with y | y
          · exact .inl y
          · exact .inr fun z => y (fpi b (.inr (.inr z)))
      have f1 := f0.put (i := i) (v := .ref a) hobj (fun b hb => ?_) (fun m b hm hb => ?_)
      · have e1 : (r.set i none).set i (some (SV.obj t c' (fs.set j (.own x')))) = r.set i (some (.obj t c' (fs.set j (.own x')))) := by simp
        have e2 : σ.set i (some (V.ref a)) = σ := by
          obtain ⟨hl, hv⟩ := List.getElem?_eq_some_iff.mp h1
          rw [← hv]; simp
        rw [e1, e2] at f1
        simp only [setP, hsl]
        exact ⟨_, f1⟩
      · have old : ∀ b, b ∈ fp i → b ∉ q → G' b = none ∧ rs b = none ∧ ∃ o, H' b = some o := fun b hb hbq => by
          obtain ⟨h3, h4, o, h5⟩ := f.fr i b hb
          exact ⟨gn nw b h3 ⟨o, h5⟩, h4, o, by rw [kq b hbq ⟨o, h5⟩]; exact h5⟩
        rcases List.mem_cons.mp hb with z | hb
        · subst z; exact old _ (fpi _ (.inl rfl)) aq
        · rcases List.mem_cons.mp hb with z | hb
          · subst z; exact old _ (fpi _ (.inr (.inl rfl))) dq
          · rcases q'flat b hb with y | ⟨y, y2⟩
            · obtain ⟨h3, h4, h5⟩ := hq' b y
              refine ⟨h4, ?_, h5⟩
              rcases h3 with h3 | h3
              · exact (f.fr i b (hqf b h3)).2.1
              · cases z : rs b with
                | none => rfl
                | some u => rw [f.rh b u z] at h3; cases h3
            · exact old b (fpi b (.inr (.inr y))) y2
      · simp only [if_neg hm]
        intro hbm
        have inm : b ∉ fp i := fun z => hm (f.dj m i b hbm z)
        rcases List.mem_cons.mp hb with z | hb
        · exact inm (fpi b (.inl z))
        · rcases List.mem_cons.mp hb with z | hb
          · exact inm (fpi b (.inr (.inl z)))
          · rcases q'flat b hb with y | ⟨y, _⟩
            · rcases (hq' b y).1 with z | z
              · exact inm (hqf b z)
              · obtain ⟨_, _, o, ho⟩ := f.fr m b hbm
                rw [z] at ho; cases ho
            · exact inm (fpi b (.inr (.inr y)))
end
end DL
end

section
set_option Elab.async false
set_option linter.all false
set_option maxRecDepth 100000
set_option maxHeartbeats 2000000
/-! D1d: statements, loops, comprehensions. -/
namespace DL
open PySem PySem.Spec PyProof.Rows L2

def Pst (C : Cc) (rs G : Hp) (D : Ends) : Res → Prop
  | .fail => False
  | .nx r' => ∀ σ' G' H', Has C rs G' H' σ' r' → Ex G G' → D.nx σ' H'
  | .rt d r' => ∀ v σ' G' H', Has C rs G' H' σ' r' → Ex G G' → Dv C G' v d → D.rt v H'
def tS (C : Cc) (F : ST) : TS := fun D σ H => ∃ rs G r, Has C rs G H σ r ∧ Pst C rs G D (F r)
abbrev FS (X : Cx) (st : Stmt) (F : ST) : Prop := PS X st (tS (ccOf X) F)
abbrev FB (X : Cx) (sts : List Stmt) (F : ST) : Prop := PSs X sts (tS (ccOf X) F)
/-- what a for walks -/
structure WalkD (C : Cc) (J : It) (G : Hp) (l : List D) : Prop where
  goes : ∀ i H, i < l.length → Ex G H → J.go i H
  stops : ∀ H, Ex G H → J.stop l.length H
  yields : ∀ i H x H' G1, i < l.length → Ex G G1 → Wd G1 H → J.yld i H x H' → ∃ d G2, l[i]? = some d ∧ Stp G1 H G2 H' ∧ Dv C G2 x d
def tI (C : Cc) (it : EXs) : TI := fun σ H R => ∃ rs G r l, Has C rs G H σ r ∧ it r = some l ∧ ∀ J G' H', Stp G H G' H' → WalkD C J G' l → R J H'
abbrev FI (X : Cx) (tg iter : Expr) (it : EXs) : Prop := PI X tg iter (tI (ccOf X) it)
def tG (C : Cc) (g : TGT) : TG := fun v σ H Q => ∃ rs G r d r', Has C rs G H σ r ∧ Dv C G v d ∧ g d r = some r' ∧ ∀ σ', Has C rs G H σ' r' → Q σ' H
abbrev FG (X : Cx) (tg : Expr) (g : TGT) : Prop := PG X tg (tG (ccOf X) g)

theorem PSimp {X : Cx} {st : Stmt} {t t' : TS} (h : PS X st t) (k : ∀ D σ H, t' D σ H → t D σ H) : PS X st t' := ⟨fun pins s σ H D I q => h.run pins s σ H D I (k D σ H q)⟩
theorem PSsimp {X : Cx} {st : List Stmt} {t t' : TS} (h : PSs X st t) (k : ∀ D σ H, t' D σ H → t D σ H) : PSs X st t' := ⟨fun pins s σ H D I q => h.run pins s σ H D I (k D σ H q)⟩
theorem PIimp {X : Cx} {tg it : Expr} {t t' : TI} (h : PI X tg it t) (k : ∀ σ H R, t' σ H R → t σ H R) : PI X tg it t' := ⟨fun pins s σ H R I q => h.run pins s σ H R I (k σ H R q)⟩
theorem Pst.mono {C : Cc} {rs G G1 : Hp} {D : Ends} {z : Res} (e : Ex G G1) (h : Pst C rs G D z) : Pst C rs G1 D z := by
  cases z with
  | fail => exact h
  | nx r => exact fun σ' G' H' h1 h2 => h σ' G' H' h1 (e.trans h2)
  | rt d r => exact fun v σ' G' H' h1 h2 => h v σ' G' H' h1 (e.trans h2)
theorem sBind_ok {C : Cc} {rs G : Hp} {D : Ends} {α : Type} {o : Option α} {k : α → Res} (h : Pst C rs G D (sBind o k)) : ∃ x, o = some x ∧ Pst C rs G D (k x) := by
  cases o with
  | none => exact h.elim
  | some x => exact ⟨x, rfl, h⟩
section
variable {X : Cx} {st : Stmt} {sts : List Stmt} {F F2 : ST} {e tg iter : Expr} {f g : EX} {it : EXs} {pos : Pos} {gt : TGT} {x : Str}
/-! ### blocks -/
theorem fb_nil : FB X [] sNil := PSsimp pss_nil fun D σ H ⟨rs, G, r, hs, q⟩ => q σ G H hs (.refl _)
theorem fb_cons (h1 : FS X st F) (h2 : FB X sts F2) : FB X (st :: sts) (sSeq F F2) := PSsimp (pss_cons h1 h2) fun D σ H ⟨rs, G, r, hs, q⟩ => by
  refine ⟨rs, G, r, hs, ?_⟩
  unfold sSeq at q
  revert q
  cases F r with
  | fail => exact fun q => q
  | nx r2 => exact fun q σ' G' H' h1 h2 => ⟨rs, G', r2, h1, q.mono h2⟩
  | rt d r2 => exact fun q => q
theorem fb_one (h1 : FS X st F) : FB X [st] F := pss_one h1
theorem fb_fgt (l : List Nat) (h : FB X sts F) : FB X sts (sSeq (sFgt l) F) := PSsimp h fun D σ H ⟨rs, G, r, hs, q⟩ => ⟨rs, G, _, hs.fgtL l, q⟩
theorem fs_pass : FS X (.Pass pos) sNil := PSimp ps_pass fun D σ H ⟨rs, G, r, hs, q⟩ => q σ G H hs (.refl _)
/-- x = e -/
theorem fs_set (i : Nat) {pos' : Pos} (hN : X.N.Nodup) (he : FE X e f) (hi : X.N[i]? = some x := by rfl) (hx : Loc X.env.scope x := by first | exact .inl rfl | exact .inr rfl) (hs : swapsWith e (some (.Name x pos')) pos.line X.env = pure false := by rfl)
    (hf : X.fn x = true ∨ X.env.scope.names.lookup x = some .local := by first | exact .inl rfl | exact .inr rfl | assumption) : FS X (.Assign [.Name x pos'] e pos) (sSet i f) :=
  PSimp (ps_set (i := i) hN hi hx he hs hf) fun D σ H ⟨rs, G, r, hs, q⟩ => by
    obtain ⟨d, e1, q⟩ := sBind_ok q
    exact ⟨rs, G, r, d, hs, e1, fun v G1 H1 s1 h1 => q _ G1 H1 ((hs.step s1).setD h1) s1.g⟩
theorem fs_ret (he : FE X e f) : FS X (.Return (some e) pos) (sRet f) := PSimp (ps_ret he) fun D σ H ⟨rs, G, r, hs, q⟩ => by
  obtain ⟨d, e1, q⟩ := sBind_ok q
  exact ⟨rs, G, r, d, hs, e1, fun v G1 H1 s1 h1 => q v σ G1 H1 (hs.step s1) s1.g h1⟩
theorem fs_if {c : Expr} {a b : List Stmt} (hc : FT X c f) (ha : FB X a F) (hb : FB X b F2) : FS X (.If c a b pos) (sIf f F F2) := PSimp (ps_if hc ha hb) fun D σ H ⟨rs, G, r, hs, q⟩ => by
  obtain ⟨k, e1, q⟩ := sBind_ok q
  refine ⟨rs, G, r, k, hs, e1, fun G1 H1 s1 => ?_⟩
  cases k with
  | true => exact ⟨rs, G1, r, hs.step s1, q.mono s1.g⟩
  | false => exact ⟨rs, G1, r, hs.step s1, q.mono s1.g⟩
/-- a branch that is never taken -/
def sNever : ST := fun _ => .fail
theorem fs_never : FS X st sNever := PSimp ps_never fun D σ H ⟨rs, G, r, hs, q⟩ => q
theorem fb_never : FB X sts sNever := PSsimp pss_never fun D σ H ⟨rs, G, r, hs, q⟩ => q
/-! ### targets -/
theorem fg_name (i : Nat) (hN : X.N.Nodup) (hi : X.N[i]? = some x := by rfl) (hx : Loc X.env.scope x := by first | exact .inl rfl | exact .inr rfl)
    (hf : X.fn x = true ∨ X.env.scope.names.lookup x = some .local := by first | exact .inl rfl | exact .inr rfl | assumption) : FG X (.Name x pos) (gN i) := ⟨fun pins s σ H v u Q I r h => by
  refine (pg_name (i := i) hN hi hx hf).run pins s σ H v u Q I r ?_
  obtain ⟨rs, G, r, d, r', hs, hd, e1, q⟩ := h
  cases e1
  exact q _ (hs.setD hd)⟩
def tGs (C : Cc) (is : List Nat) : TGs := fun vs σ H Q => ∃ rs G r ds r', Has C rs G H σ r ∧ DvL C G vs ds ∧ gSet is ds r = some r' ∧ ∀ σ', Has C rs G H σ' r' → Q σ' H
abbrev FGs (X : Cx) (ts : List Expr) (is : List Nat) : Prop := PGs X ts (tGs (ccOf X) is)
theorem fgs_nil : FGs X [] [] := ⟨fun pins s σ H vs us Q I r h => by
  refine pgs_nil.run pins s σ H vs us Q I r ?_
  obtain ⟨rs, G, r, ds, r', hs, hd, e1, q⟩ := h
  cases ds with
  | nil =>
    cases e1
    cases hd
    exact ⟨rfl, q _ hs⟩
  | cons d ds => cases e1⟩
theorem fgs_cons {es : List Expr} {i : Nat} {is : List Nat} (h1 : FG X e (gN i)) (h2 : FGs X es is) (hs : (assignEach (e :: es) X.env).map (·.2) = assign e X.env :: (assignEach es X.env).map (·.2) := by rfl) : FGs X (e :: es) (i :: is) := ⟨fun pins s σ H vs us Q I rv h => by
  refine (pgs_cons h1 h2 hs).run pins s σ H vs us Q I rv ?_
  obtain ⟨rs, G, r, ds, r', hs, hd, e1, q⟩ := h
  cases hd with
  | nil => cases e1
  | cons hd hl => exact ⟨_, _, rfl, rs, G, r, _, _, hs, hd, rfl, fun σ' hs' => ⟨rs, G, _, _, r', hs', hl, e1, q⟩⟩⟩
theorem fg_tup {es : List Expr} {k : Nat} {is : List Nat} (hc : X.calm = true) (h : FGs X es is) (hn : (assignEach es X.env).length = is.length := by rfl) (hst : (assignEach es X.env).findIdx? (·.1) = none := by rfl) : FG X (.Tuple es k pos) (gT is) := ⟨fun pins s σ H v u Q I rv h' => by
  refine (pg_tup hc h hn hst).run pins s σ H v u Q I rv ?_
  obtain ⟨rs, G, r, d, r', hs, hd, e1, q⟩ := h'
  obtain ⟨ds, e2, e1⟩ := Option.bind_eq_some_iff.mp e1
  obtain ⟨a, vs, rfl, ha, hl⟩ := hd.tup_ e2
  have len : ∀ {is : List Nat} {ds : List D} {r r' : Env}, gSet is ds r = some r' → ds.length = is.length := by
    intro is
    induction is with
    | nil =>
      intro ds r r' h
      cases ds with
      | nil => rfl
      | cons d ds => cases h
    | cons i is ih =>
      intro ds r r' h
      cases ds with
      | nil => cases h
      | cons d ds => exact congrArg Nat.succ (ih h)
  exact ⟨a, vs, rfl, SqT.of (hs.wd.gh _ _ ha), hl.len.trans (len e1), rs, G, r, ds, r', hs, hl, e1, q⟩⟩
/-- a, b = e -/
theorem fs_unp {k : Nat} {pt : Pos} {es : List Expr} (he : FE X e f) (hg : FG X (.Tuple es k pt) gt) (hs : swapsWithSole [.Tuple es k pt] e pos.line X.env = pure false := by rfl) (hw : swappedStores [.Tuple es k pt] e X.env = pure none := by rfl)
    (h1 : (assignEach [.Tuple es k pt] X.env).map (·.2) = [assign (.Tuple es k pt) X.env] := by rfl) : FS X (.Assign [.Tuple es k pt] e pos) (sUnp gt f) := PSimp (ps_asg he hg hs hw h1) fun D σ H ⟨rs, G, r, hs, q⟩ => by
  obtain ⟨d, e1, q⟩ := sBind_ok q
  obtain ⟨r', e2, q⟩ := sBind_ok q
  exact ⟨rs, G, r, d, hs, e1, fun v G1 H1 s1 h1 => ⟨rs, G1, r, d, r', hs.step s1, h1, e2, fun σ' hs' => q σ' G1 H1 hs' s1.g⟩⟩
/-! ### loops -/
theorem drop_at {α : Type} {l : List α} {i : Nat} {d : α} (h : l[i]? = some d) : l.drop i = d :: l.drop (i + 1) := by
  obtain ⟨h1, h2⟩ := List.getElem?_eq_some_iff.mp h
  rw [List.drop_eq_getElem_cons h1, h2]
theorem fs_for {body : List Stmt} (hp : PassesOwn (model X.prog X.w) X.A X.env X.xe) (hc : X.calm = true) (hi : FI X tg iter it) (hg : FG X tg gt) (hb : FB X body F) (hs : ∀ x, foldedSetIterable iter X.env x = pure x := by intro _; rfl) :
    FS X (.For tg iter body [] pos) (sFor gt it F) := PSimp (ps_for hp hc hi hg hb hs) fun D σ H ⟨rs, G, r, hs, q⟩ => by
  obtain ⟨l, e1, q⟩ := sBind_ok q
  refine ⟨rs, G, r, l, hs, e1, fun J G' H1 s1 w => ?_⟩
  refine ⟨fun i m σ H => m = l.length - i ∧ i ≤ l.length ∧ ∃ G1 r1, Has (ccOf X) rs G1 H σ r1 ∧ Ex G' G1 ∧ Pst (ccOf X) rs G1 D (forD gt F (l.drop i) r1), ⟨_, rfl, Nat.zero_le _, G', r, hs.step s1, .refl _, q.mono s1.g⟩, ?_⟩
  rintro i m σ H ⟨rfl, hi, G1, r1, hs1, eg, q⟩
  have ex1 : Ex G' H := eg.trans hs1.wd.gh
  by_cases hlt : i < l.length
  · refine .inr ⟨w.goes i H hlt ex1, _, fun σ' H' h => h, fun x H' y => ?_⟩
    obtain ⟨d, G2, hd, s2, hv⟩ := w.yields i H x H' G1 hlt eg hs1.wd y
    rw [drop_at hd] at q
    obtain ⟨r2, e2, q⟩ := sBind_ok q
    refine ⟨rs, G2, r1, d, r2, hs1.step s2, hv, e2, fun σ2 hs2 => ⟨rs, G2, r2, hs2, ?_⟩⟩
    revert q
    cases F r2 with
    | fail => exact fun q => q
    | nx r3 => exact fun q σ' G3 H3 h3 e3 => ⟨l.length - (i + 1), by omega, rfl, hlt, G3, r3, h3, (eg.trans s2.g).trans e3, q.mono (s2.g.trans e3)⟩
    | rt d r3 => exact fun q v σ' G3 H3 h3 e3 hv => q v σ' G3 H3 h3 (s2.g.trans e3) hv
  · have e : i = l.length := by omega
    subst e
    rw [List.drop_length] at q
    exact .inl ⟨w.stops H ex1, q σ G1 H hs1 (.refl _)⟩
theorem fs_while (n : Nat) {c : Expr} {body : List Stmt} (hp : PassesOwn (model X.prog X.w) X.A X.env X.xe) (hc : FT X c f) (hb : FB X body F) : FS X (.While c body [] pos) (whD f F n) := PSimp (ps_while hp hc hb) fun D σ H ⟨rs, G, r, hs, q⟩ => by
  refine ⟨fun m σ H => ∃ G1 r1, Has (ccOf X) rs G1 H σ r1 ∧ Ex G G1 ∧ Pst (ccOf X) rs G1 D (whD f F m r1), ⟨n, G, r, hs, .refl _, q⟩, ?_⟩
  rintro m σ H ⟨G1, r1, hs1, eg, q⟩
  cases m with
  | zero => exact q.elim
  | succ m =>
    obtain ⟨k, e1, q⟩ := sBind_ok q
    refine ⟨rs, G1, r1, k, hs1, e1, fun G2 H2 s2 => ?_⟩
    cases k with
    | false => exact q σ G2 H2 (hs1.step s2) s2.g
    | true =>
      refine ⟨fun σ' H' => ∃ G1 r1, Has (ccOf X) rs G1 H' σ' r1 ∧ Ex G G1 ∧ Pst (ccOf X) rs G1 D (whD f F m r1), fun σ' H' h => ⟨m, Nat.lt_succ_self _, h⟩, rs, G2, r1, hs1.step s2, ?_⟩
      revert q
      simp only [if_true]
      cases F r1 with
      | fail => exact fun q => q
      | nx r3 => exact fun q σ' G3 H3 h3 e3 => ⟨G3, r3, h3, (eg.trans s2.g).trans e3, q.mono (s2.g.trans e3)⟩
      | rt d r3 => exact fun q v σ' G3 H3 h3 e3 hv => q v σ' G3 H3 h3 (s2.g.trans e3) hv
/-! what is walked -/
theorem walkD_list {C : Cc} {G : Hp} {a : Addr} {vs : List V} {l : List D} (ha : SqL C.K G a vs) (hl : DvL C G vs l) : WalkD C (Itl C.K a) G l where
  goes := fun i H hi e => by
    have : i < vs.length := by rw [hl.len]; exact hi
    exact ⟨vs, vs[i], ex_l e ha, by simp [this]⟩
  stops := fun H e => ⟨vs, ex_l e ha, by rw [hl.len]; exact Nat.le_refl _⟩
  yields := fun i H x H' G1 hi e w y => by
    obtain ⟨e1, e2⟩ := y
    subst e1
    have hx := e2 vs (ex_l (e.trans w.gh) ha)
    obtain ⟨d, hd, hv⟩ := hl.getV hx
    exact ⟨d, G1, hd, w.refl, hv.mono e⟩
theorem walkD_tup {C : Cc} {G : Hp} {a : Addr} {vs : List V} {l : List D} (ha : G a = some (.tup vs)) (hl : DvL C G vs l) : WalkD C (Itt C.K a) G l where
  goes := fun i H hi e => by
    have : i < vs.length := by rw [hl.len]; exact hi
    exact ⟨vs, vs[i], SqT.of (e _ _ ha), by simp [this]⟩
  stops := fun H e => ⟨vs, SqT.of (e _ _ ha), by rw [hl.len]; exact Nat.le_refl _⟩
  yields := fun i H x H' G1 hi e w y => by
    obtain ⟨e1, e2⟩ := y
    subst e1
    have hx := e2 vs (SqT.of ((e.trans w.gh) _ _ ha))
    obtain ⟨d, hd, hv⟩ := hl.getV hx
    exact ⟨d, G1, hd, w.refl, hv.mono e⟩
theorem walkD_range {C : Cc} {G : Hp} {n : Nat} : WalkD C (Itr 0 n) G ((List.range n).map fun i => .int (i : Nat)) where
  goes := fun i H hi e => by
    show i < n
    simpa using hi
  stops := fun H e => by simp [Itr]
  yields := fun i H x H' G1 hi e w y => by
    obtain ⟨e1, e2⟩ := y
    subst e1 e2
    have hi' : i < n := by simpa using hi
    refine ⟨.int (i : Nat), G1, by simp [hi'], w.refl, ?_⟩
    rw [show (0 : Int) + (i : Nat) = (i : Nat) by omega]
    exact .int _
/-- for x in a list; in a tuple -/
def oList : EX → EXs := fun f r => (f r).bind lstD
def oTup : EX → EXs := fun f r => (f r).bind tupD
theorem fi_list (he : FE X e f) : FI X tg e (oList f) := PIimp (pi_list he) fun σ H R ⟨rs, G, r, l, hs, ev, q⟩ => by
  obtain ⟨d, e1, e2⟩ := Option.bind_eq_some_iff.mp ev
  refine ⟨rs, G, r, d, hs, e1, fun v G1 H1 s1 h1 => ?_⟩
  obtain ⟨a, vs, rfl, ha, hl⟩ := h1.lst_ e2
  exact ⟨a, rfl, ⟨vs, SqL.of (s1.wd.gh _ _ ha)⟩, q _ G1 H1 s1 (walkD_list (SqL.of ha) hl)⟩
theorem fi_tup (he : FE X e f) : FI X tg e (oTup f) := PIimp (pi_tup he) fun σ H R ⟨rs, G, r, l, hs, ev, q⟩ => by
  obtain ⟨d, e1, e2⟩ := Option.bind_eq_some_iff.mp ev
  refine ⟨rs, G, r, d, hs, e1, fun v G1 H1 s1 h1 => ?_⟩
  obtain ⟨a, vs, rfl, ha, hl⟩ := h1.tup_ e2
  exact ⟨a, rfl, ⟨vs, SqT.of (s1.wd.gh _ _ ha)⟩, q _ G1 H1 s1 (walkD_tup ha hl)⟩
theorem fi_range {p : Pos} (hg : Gl X "range") (hm : X.mg "range" = none) (ha : FA X [e] (aC f aN)) (hs : starEach [e] X.env = [(false, eval e X.env)] := by rfl) : FI X tg (.Call (.Name "range" p) [e] [] pos) (iRange f) := PIimp (pi_range1 hg hm ha hs) fun σ H R ⟨rs, G, r, l, hs, ev, q⟩ => by
  unfold iRange at ev
  obtain ⟨n, e1, ev⟩ := Option.bind_eq_some_iff.mp ev
  obtain ⟨d, e0, e1⟩ := Option.bind_eq_some_iff.mp e1
  simp only [Option.ite_none_right_eq_some, Option.some.injEq] at ev
  obtain ⟨⟨b1, b2⟩, rfl⟩ := ev
  refine ⟨rs, G, r, [d], hs, by unfold aC aN; rw [e0]; rfl, fun vs G1 H1 s1 h1 => ?_⟩
  obtain ⟨v, rfl, hv⟩ := one_of h1
  rw [hv.int_ e1]
  exact ⟨n, rfl, b2, b1, q _ G1 H1 s1 walkD_range⟩
/-! ### comprehensions -/
theorem HasF.other {C : Cc} {rs G H : Hp} {σ : L2.St} {r : Env} {fp : Nat → List Addr} {D : Addr} {o o' : HO} (h : HasF C rs G H σ r fp) (hD : H D = some o) (g : G D = none) (hr : rs D = none) (hf : ∀ i, D ∉ fp i) (nt : ∀ xs, o' ≠ .tup xs) : HasF C rs G (upd H D o') σ r fp := by
  have ne : ∀ a, a ≠ D → upd H D o' a = H a := fun a ha => upd_ne ha
  refine ⟨⟨fun a u e => ?_, fun a xs e => ?_⟩, fun a u e => ?_, h.rg, h.len, fun i x e => ?_, fun i a ha => ?_, h.dj⟩
  · rw [ne a (fun z => by rw [z, g] at e; cases e)]
    exact h.wd.gh a u e
  · by_cases z : a = D
    · subst z; rw [upd_same] at e; cases e; exact absurd rfl (nt xs)
    · rw [ne a z] at e; exact h.wd.tg a xs e
  · rw [ne a (fun z => by rw [z, hr] at e; cases e)]
    exact h.rh a u e
  · obtain ⟨v, h1, h2⟩ := h.at_ i x e
    exact ⟨v, h1, h2.keep (.refl _) fun a ha => ne a fun z => hf i (z ▸ ha)⟩
  · obtain ⟨h1, h2, u, h3⟩ := h.fr i a ha
    exact ⟨h1, h2, u, by rw [ne a fun z => hf i (z ▸ ha)]; exact h3⟩
theorem HasF.wipe {C : Cc} {rs G H : Hp} {σ : L2.St} {r : Env} {fp : Nat → List Addr} (h : HasF C rs G H σ r fp) (i : Nat) : HasF C rs G H (wipe σ [i]) (r.set i none) fp := by
  refine ⟨h.wd, h.rh, h.rg, by rw [wipe_length, List.length_set]; exact h.len, fun j x e => ?_, h.fr, h.dj⟩
  rw [slot_set] at e
  split at e
  · cases e
  · rename_i hn
    have hj : i ≠ j := fun z => hn ⟨z, z ▸ slot_lt e⟩
    obtain ⟨v, h1, h2⟩ := h.at_ j x e
    refine ⟨v, ?_, h2⟩
    show ((L2.wipe σ []).set i none)[j]? = _
    rw [List.getElem?_set_ne hj]
    exact h1
theorem wipe_set {σ : L2.St} {i : Nat} {v : V} : wipe ((wipe σ [i]).set i (some v)) [i] = wipe σ [i] := by
  show ((((σ.set i none).set i (some v)).set i none)) = σ.set i none
  simp
theorem lcD_cons {i : Nat} {c e : EX} {r : Env} {d : D} {l : List D} {zs : List D} (h : lcD i c e r (d :: l) = some zs) :
    ∃ b, (c (r.set i (some (.dat d)))).bind blD = some b ∧ (b = false → lcD i c e r l = some zs) ∧ (b = true → ∃ z ys, e (r.set i (some (.dat d))) = some z ∧ lcD i c e r l = some ys ∧ zs = z :: ys) := by
  unfold lcD at h
  obtain ⟨b, e1, h⟩ := Option.bind_eq_some_iff.mp h
  refine ⟨b, e1, fun hb => ?_, fun hb => ?_⟩
  · subst hb; exact h
  · subst hb
    obtain ⟨z, e2, h⟩ := Option.bind_eq_some_iff.mp h
    obtain ⟨ys, e3, h⟩ := Option.bind_eq_some_iff.mp h
    cases h
    exact ⟨z, ys, e2, e3, rfl⟩
theorem lcD_len {i : Nat} {c e : EX} {r : Env} : ∀ {l zs : List D}, lcD i c e r l = some zs → zs.length ≤ l.length
  | [], zs, h => by cases h; exact Nat.le_refl _
  | d :: l, zs, h => by
    obtain ⟨b, e1, h1, h2⟩ := lcD_cons h
    cases b with
    | false => exact Nat.le_succ_of_le (lcD_len (h1 rfl))
    | true =>
      obtain ⟨z, ys, _, e3, rfl⟩ := h2 rfl
      exact Nat.succ_le_succ (lcD_len e3)
/-- the reading of a comprehension -/
theorem lc_read {C : Cc} {i : Nat} {c f : EX} {it : EXs} {σ : L2.St} {H : Hp} {Q : VK} (h : tF C (eLc i it c f) σ H Q) : tLc (tI C it) (gName i) (tFT C c) (tF C f) [i] σ H Q := by
  obtain ⟨rs, G, r, dd, hs, ev, q⟩ := h
  obtain ⟨l, e1, ev⟩ := Option.bind_eq_some_iff.mp ev
  simp only [Option.ite_none_right_eq_some] at ev
  obtain ⟨hlim, ev⟩ := ev
  obtain ⟨zs, e2, rfl⟩ := Option.map_eq_some_iff.mp ev
  refine ⟨rs, G, r, l, hs, e1, fun J G' H1 s1 w D hD => ?_⟩
  obtain ⟨fp, f1⟩ := hs.step s1
  have rD : rs D = none := ex_none f1.rh hD
  have gD : G' D = none := ex_none f1.wd.gh hD
  have fD : ∀ j, D ∉ fp j := fun j z => by
    obtain ⟨_, _, o, ho⟩ := f1.fr j D z
    rw [hD] at ho; cases ho
  have s2 := f1.wd.newH (o := .lst []) hD (fun xs z => nomatch z)
  refine ⟨fun k m H => m = l.length - k ∧ k ≤ l.length ∧ ∃ G1 acc ds ys, HasF C rs G1 H σ r fp ∧ Stp G' H1 (upd G1 D (.lst acc)) H ∧ Ex G' G1 ∧ G1 D = none ∧ H D = some (.lst acc) ∧ DvL C G1 acc ds ∧ lcD i c f r (l.drop k) = some ys ∧ zs = ds ++ ys ∧ ds.length ≤ k,
    ⟨_, rfl, Nat.zero_le _, G', [], [], zs, f1.step s2, ?_, .refl _, gD, upd_same, .nil, e2, rfl, Nat.le_refl _⟩, ?_⟩
  · exact f1.wd.new (.lst []) hD
  rintro k m H ⟨rfl, hk, G1, acc, ds, ys, hf, sD, eg, g1, hDc, hacc, e3, e4, e5⟩
  have exG : Ex G' H := eg.trans hf.wd.gh
  by_cases hlt : k < l.length
  · refine .inr ⟨w.goes k H hlt exG, _, fun H' h => h, fun x H' y => ?_⟩
    obtain ⟨d, G2, hd, st2, hv⟩ := w.yields k H x H' G1 hlt eg hf.wd y
    rw [drop_at hd] at e3
    obtain ⟨b, e6, e7, e8⟩ := lcD_cons e3
    have hf2 := hf.step st2
    have g2 : G2 D = none := by
      cases z : G2 D with
      | none => rfl
      | some u =>
        rcases st2.nw D u z with y | y
        · rw [g1] at y; cases y
        · rw [hDc] at y; cases y
    have hs2 : Has C rs G2 H' ((wipe σ [i]).set i (some x)) (r.set i (some (.dat d))) := by
      have := (Has.setD (i := i) ⟨fp, hf2.wipe i⟩ hv)
      simpa using this
    refine ⟨wipe_set, rs, G2, _, b, hs2, e6, fun G3 H3 st3 => ?_⟩
    have noD : ∀ {Ga Ha Gb Hb : Hp}, Stp Ga Ha Gb Hb → Ga D = none → Ha D = some (.lst acc) → Gb D = none := fun {Ga Ha Gb Hb} st h1 h2 => by
      cases z : Gb D with
      | none => rfl
      | some u =>
        rcases st.nw D u z with y | y
        · rw [h1] at y; cases y
        · rw [h2] at y; cases y
    have hD2 := st2.h D _ hDc
    have g3 := noD st3 g2 hD2
    have hD3 := st3.h D _ hD2
    -- the step to a heap in which D holds acc'
    have mk : ∀ {Gb Hb : Hp} (acc' : List V), Stp G1 H Gb Hb → Gb D = none → Hb D = some (.lst acc) → Stp G' H1 (upd Gb D (.lst acc')) (upd Hb D (.lst acc')) := fun {Gb Hb} acc' st gb hb => by
      refine ⟨fun a o ea => ?_, fun a o ea => ?_, fun a o ea => ?_, fun a o ea => ?_, fun a xs ea => ?_⟩
      · rw [upd_ne (fun z => by rw [z, gD] at ea; cases ea)]
        exact st.g a o (eg a o ea)
      · rw [upd_ne (fun z => by rw [z, hD] at ea; cases ea)]
        have := sD.h a o ea
        exact st.h a o this
      · by_cases z : a = D
        · subst z; rw [upd_same] at ea ⊢; exact ea
        · rw [upd_ne z] at ea ⊢; exact st.gh a o ea
      · by_cases z : a = D
        · subst z; exact .inr hD
        · rw [upd_ne z] at ea
          rcases st.nw a o ea with y | y
          · exact sD.nw a o (by rw [upd_ne z]; exact y)
          · exact .inr (ex_none sD.h y)
      · by_cases z : a = D
        · subst z; rw [upd_same] at ea ⊢; exact ea
        · rw [upd_ne z] at ea ⊢; exact st.tg a xs ea
    cases b with
    | false =>
      show (if false = true then _ else _)
      rw [if_neg Bool.false_ne_true]
      refine ⟨l.length - (k + 1), by omega, rfl, hlt, G3, acc, ds, ys, hf2.step st3, ?_, (eg.trans st2.g).trans st3.g, g3, hD3, hacc.mono (st2.g.trans st3.g), e7 rfl, e4, Nat.le_succ_of_le e5⟩
      have := mk acc (st2.trans st3) g3 hD3
      have e9 : upd H3 D (.lst acc) = H3 := by
        funext a
        by_cases z : a = D
        · subst z; rw [upd_same, hD3]
        · rw [upd_ne z]
      rw [e9] at this
      exact this
    | true =>
      show (if true = true then _ else _)
      rw [if_pos rfl]
      obtain ⟨z, zs', e9, e10, rfl⟩ := e8 rfl
      refine ⟨rs, G3, _, z, hs2.step st3, e9, fun v G4 H4 st4 hz => ?_⟩
      have g4 := noD st4 g3 hD3
      have hD4 := st4.h D _ hD3
      have hlen := hacc.len
      refine ⟨acc, hD4, lim_lt (by omega), l.length - (k + 1), by omega, rfl, hlt, G4, acc ++ [v], ds ++ [z], zs', ?_, ?_, ((eg.trans st2.g).trans st3.g).trans st4.g, g4, upd_same, ?_, e10, by rw [e4]; simp, by simp; omega⟩
      · exact ((hf2.step st3).step st4).other hD4 g4 rD fD (fun xs z => nomatch z)
      · exact mk (acc ++ [v]) ((st2.trans st3).trans st4) g4 hD4
      · exact (hacc.mono ((st2.g.trans st3.g).trans st4.g)).snoc hz
  · have e : k = l.length := by omega
    subst e
    rw [List.drop_length] at e3
    cases e3
    rw [List.append_nil] at e4
    subst e4
    refine .inl ⟨w.stops H exG, ?_⟩
    exact q _ _ H (s1.trans sD) (.lst upd_same (hacc.mono (ex_upd g1)))
theorem fpts_nil : PTs X [] (tFT (ccOf X) (eC (.bl true))) := ⟨fun pins s σ H Q I h => by
  refine pts_nil.run pins s σ H Q I ?_
  obtain ⟨rs, G, r, b, hs, e1, q⟩ := h
  cases e1
  exact q G H hs.wd.refl⟩
/-- [e for x in it if c] -/
theorem fe_lc {elt iter : Expr} {ifs : List Expr} {scope : Scope} {xp : Pos} (i : Nat) {c : EX} (hc : X.calm = true) (hN : X.N.Nodup) (hi : FI X (.Name x xp) iter it) (ok : BlkOk X.N X.env.scope scope [(x, i)])
    (hg : ∀ (s : Shared) (H : Hp) (C : Addr) (cl : List (Str × Addr)) (fp : List Addr), PG (X.blk s H scope (compEnvC scope cl C X.env) fp) (.Name x xp) (gName i)) (ht : ∀ (s : Shared) (H : Hp) (C : Addr) (cl : List (Str × Addr)) (fp : List Addr), PTs (X.blk s H scope (compEnvC scope cl C X.env) fp) ifs (tFT (ccOf X) c))
    (he : ∀ (s : Shared) (H : Hp) (C : Addr) (cl : List (Str × Addr)) (fp : List Addr), PE (X.blk s H scope (compEnvC scope cl C X.env) fp) elt (tF (ccOf X) f)) (hs : ∀ x, foldedSetIterable iter X.env x = pure x := by intro _; rfl) :
    FE X (.ListComp elt [⟨.Name x xp, iter, ifs, 0⟩] scope pos) (eLc i it c f) := PEimp (pe_lc hc hN hi ok hg ht he hs) fun σ H Q h => lc_read h
theorem fs_setLc {elt iter : Expr} {ifs : List Expr} {scope : Scope} {xp py spos : Pos} {y : Str} (j i : Nat) {c : EX} (hc : X.calm = true) (hN : X.N.Nodup) (hy : X.N[j]? = some y) (hyl : X.env.scope.names.lookup y = some .local)
    (hsw : swapsWith (.ListComp elt [⟨.Name x xp, iter, ifs, 0⟩] scope pos) (some (.Name y py)) spos.line X.env = pure true) (hi : FI X (.Name x xp) iter it) (ok : BlkOk X.N X.env.scope scope [(x, i)])
    (hg : ∀ (s : Shared) (H : Hp) (C : Addr) (cl : List (Str × Addr)) (fp : List Addr), PG (X.blk s H scope (compEnvC scope cl C X.env) fp) (.Name x xp) (gName i)) (ht : ∀ (s : Shared) (H : Hp) (C : Addr) (cl : List (Str × Addr)) (fp : List Addr), PTs (X.blk s H scope (compEnvC scope cl C X.env) fp) ifs (tFT (ccOf X) c))
    (he : ∀ (s : Shared) (H : Hp) (C : Addr) (cl : List (Str × Addr)) (fp : List Addr), PE (X.blk s H scope (compEnvC scope cl C X.env) fp) elt (tF (ccOf X) f)) (hs : ∀ x, foldedSetIterable iter X.env x = pure x := by intro _; rfl) :
    FS X (.Assign [.Name y py] (.ListComp elt [⟨.Name x xp, iter, ifs, 0⟩] scope pos) spos) (sSet j (eLc i it c f)) := PSimp (ps_setLc (i := j) hc hN hy hyl hsw hi ok hg ht he hs) fun D σ H ⟨rs, G, r, hs, q⟩ => by
  obtain ⟨d, e1, q⟩ := sBind_ok q
  exact lc_read ⟨rs, G, r, d, hs, e1, fun v G1 H1 s1 h1 => q _ G1 H1 ((hs.step s1).setD h1) s1.g⟩
end
end DL
end

section
set_option Elab.async false
set_option linter.all false
set_option maxRecDepth 100000
set_option maxHeartbeats 2000000
/-! D1e: changes of one's own things; a def's promise from its body. -/
namespace DL
open PySem PySem.Spec PyProof.Rows L2

section
variable {X : Cx} {st : Stmt} {sts : List Stmt} {F F2 : ST} {e o tg iter : Expr} {es : List Expr} {f g : EX} {fs : EXs} {it : EXs} {pos pos' apos : Pos} {gt : TGT} {x : Str} {p : Pl}
/-! ### places as expressions -/
theorem fp_var (i : Nat) (h : PE X (.Name x pos) (tVar i)) : FP X (.Name x pos) (.s i) := PEimp h fun σ H Q ⟨rs, G, r, y, hs, e, q⟩ => by
  obtain ⟨v, _, hv, _⟩ := hs.pl e
  exact ⟨v, hv, q v hv⟩
theorem fp_fld (T : TxC X.K) (i : Nat) (c : CN) (j : Nat) {s : Str} {p2 : Pos} (h : PE X (.Name s p2) (tVar i)) (hj : (fnames c)[j]? = some x := by rfl) (hb : attributeBase (.Name s p2) x X.env (eval (.Name s p2) X.env) = eval (.Name s p2) X.env := by rfl) :
    FP X (.Attribute (.Name s p2) x pos) (.f i c j) := PEimp (pe_fld h hb) fun σ H Q ⟨rs, G, r, y, hs, e, q⟩ => by
  obtain ⟨v, _, hv, _⟩ := hs.pl e
  obtain ⟨a, dx, vs, h1, h2, h3, h4⟩ := id hv
  exact ⟨_, h1, a, _, dx, _, v, rfl, h2, T.cl c, T.no c x (List.mem_of_getElem? hj), lookup_zip (fn_nd c) hj h3, q v hv⟩
/-- o.f of an object of one's own, an attribute that is data -/
theorem fe_ofld (T : TxC X.K) (i : Nat) (c : CN) (j : Nat) {s : Str} {p2 : Pos} (h : PE X (.Name s p2) (tVar i)) (hj : (fnames c)[j]? = some x := by rfl) (hb : attributeBase (.Name s p2) x X.env (eval (.Name s p2) X.env) = eval (.Name s p2) X.env := by rfl) :
    FE X (.Attribute (.Name s p2) x pos) (eOFld i c j) := PEimp (pe_fld h hb) fun σ H Q ⟨rs, G, r, d, hs, e, q⟩ => by
  unfold eOFld at e
  split at e <;> first | (cases e; done) | skip
  rename_i t c' fs hsl
  split at e <;> first | (cases e; done) | skip
  rename_i hcc
  subst hcc
  split at e <;> first | (cases e; done) | skip
  rename_i y hfl
  cases e
  have hw := hs.wd
  obtain ⟨fp, f⟩ := hs
  obtain ⟨v0, h1, a, dx, vs, ps, rfl, ht, ha, hdx, hlen, hfs, _⟩ := f.at_ i _ hsl
  obtain ⟨v, q2, hv, _, hfv⟩ := hfs.get hfl
  exact ⟨_, h1, a, _, dx, _, v, rfl, ha, T.cl c', T.no c' x (List.mem_of_getElem? hj), lookup_zip (fn_nd c') hj hv, q v G H hw.refl hfv.2⟩
/-! ### lists of one's own -/
theorem c1L_ {C : Cc} {G H : Hp} {v : V} {c : C1} {l : List D} {fp : List Addr} (h : C1At C G H v c fp) (e : c1L c = some l) : ∃ a vs, v = .ref a ∧ fp = [a] ∧ H a = some (.lst vs) ∧ DvL C G vs l := by
  cases c <;> first | (cases e; done) | skip
  cases e
  exact h
/-- the place holds a list: what it is, and how it is changed -/
theorem Has.plL {C : Cc} {rs G H : Hp} {σ : L2.St} {r : Env} {l : List D} (h : Has C rs G H σ r) (e : (getP r p).bind c1L = some l) : ∃ a vs, PlV C H σ p (.ref a) ∧ (∀ v', PlV C H σ p v' → v' = .ref a) ∧ H a = some (.lst vs) ∧ G a = none ∧ DvL C G vs l ∧
    ∀ ws m, DvL C G ws m → Has C rs G (upd H a (.lst ws)) σ (setP r (.lst m) p) := by
  obtain ⟨c, e1, e2⟩ := Option.bind_eq_some_iff.mp e
  obtain ⟨v, q, hv, hu, hc, hq, k⟩ := h.pl e1
  obtain ⟨a, vs, rfl, rfl, ha, hl⟩ := c1L_ hc e2
  obtain ⟨ga, _, _⟩ := hq a (by simp)
  refine ⟨a, vs, hv, hu, ha, ga, hl, fun ws m hm => ?_⟩
  have w : Wd G (upd H a (.lst ws)) := ⟨fun b o eb => by
      rw [upd_ne (fun z => by rw [z, ga] at eb; cases eb)]
      exact h.wd.gh b o eb, fun b xs eb => by
      by_cases z : b = a
      · subst z; rw [upd_same] at eb; cases eb
      · rw [upd_ne z] at eb; exact h.wd.tg b xs eb⟩
  refine k G _ (.lst m) [a] w (.refl _) (fun b o eb hb => ?_) (fun b o eb => .inl eb) ⟨a, ws, rfl, rfl, upd_same, hm⟩ fun b hb => ?_
  · rw [upd_ne (by simpa using hb)]; exact eb
  · have e' : b = a := by simpa using hb
    subst e'
    exact ⟨.inl (by simp), ga, _, upd_same⟩
theorem ty_list {K : PySem.W.Frag} {H : Hp} {a : Addr} {vs : List V} (h : H a = some (.lst vs)) : tyV K "list" (.ref a) H := .inl ⟨rfl, _, SqL.of h⟩
/-- p.append(e) -/
theorem fs_app (ho : FP X o p) (he : FE X e f) (hbase : attributeBase o "append" X.env (eval o X.env) = eval o X.env := by rfl)
    (hst : starEach (e :: []) X.env = (false, eval e X.env) :: starEach [] X.env := by rfl)
    (hfew : ((backTo pos (starEach (e :: []) X.env)).all (fun x => !x.1) && (backToKw pos (keywordEach [] X.env)).all (fun x => x.1.isSome)
      && decide ((e :: ([] : List Expr)).length + ([] : List Keyword).length + (if ([] : List Keyword).isEmpty then 0 else 1) < 30)) = true := by rfl)
    (hline : (apos.endLine == pos.line) = true := by rfl) (hs : swapsWith (.Call (.Attribute o "append" apos) [e] [] pos) none pos'.line X.env = pure false := by rfl) :
    FS X (.Expr (.Call (.Attribute o "append" apos) [e] [] pos) pos') (sApp p f) := PSimp (ps_expr (pe_bm PySem.F.plainAttrs_list PySem.F.slot_list_append PySem.F.type_list_append mt_append ho (pa_cons he pa_nil hst) hbase hfew (hs := hst) (hline := hline)) hs) fun D σ H ⟨rs, G, r, hs, q⟩ => by
  obtain ⟨l, e1, q⟩ := sBind_ok q
  obtain ⟨d, e2, q⟩ := sBind_ok q
  by_cases hl : l.length < lim
  · rw [if_pos hl] at q
    obtain ⟨x, e3, e4⟩ := Option.bind_eq_some_iff.mp e1
    obtain ⟨a, vs, hv, hu, ha, _, _, _⟩ := hs.plL e1
    refine ⟨rs, G, r, x, hs, e3, fun v hv' => ?_⟩
    have hva := hu v hv'
    subst hva
    refine ⟨ty_list ha, rs, G, r, d, hs, e2, fun w G1 H1 s1 h1 => ?_⟩
    obtain ⟨b, ws, hv2, hu2, hb, gb, hl2, k⟩ := (hs.step s1).plL e1
    have := hu2 _ (hv.ex s1.h)
    cases this
    refine ⟨a, ws, w, rfl, rfl, hb, by rw [hl2.len]; exact lim_lt hl, ?_⟩
    exact q _ G1 _ (k _ _ (hl2.snoc h1)) s1.g
  · rw [if_neg hl] at q
    exact q.elim
/-- p.extend(e) -/
theorem fs_ext (ho : FP X o p) (he : FE X e f) (hbase : attributeBase o "extend" X.env (eval o X.env) = eval o X.env := by rfl)
    (hst : starEach (e :: []) X.env = (false, eval e X.env) :: starEach [] X.env := by rfl)
    (hfew : ((backTo pos (starEach (e :: []) X.env)).all (fun x => !x.1) && (backToKw pos (keywordEach [] X.env)).all (fun x => x.1.isSome)
      && decide ((e :: ([] : List Expr)).length + ([] : List Keyword).length + (if ([] : List Keyword).isEmpty then 0 else 1) < 30)) = true := by rfl)
    (hline : (apos.endLine == pos.line) = true := by rfl) (hs : swapsWith (.Call (.Attribute o "extend" apos) [e] [] pos) none pos'.line X.env = pure false := by rfl) :
    FS X (.Expr (.Call (.Attribute o "extend" apos) [e] [] pos) pos') (sExt p f) := PSimp (ps_expr (pe_bm PySem.F.plainAttrs_list PySem.F.slot_list_extend PySem.F.type_list_extend mt_extend ho (pa_cons he pa_nil hst) hbase hfew (hs := hst) (hline := hline)) hs) fun D σ H ⟨rs, G, r, hs, q⟩ => by
  obtain ⟨l, e1, q⟩ := sBind_ok q
  obtain ⟨m, e2, q⟩ := sBind_ok q
  obtain ⟨d, e5, e6⟩ := Option.bind_eq_some_iff.mp e2
  by_cases hl : l.length + m.length ≤ lim
  · rw [if_pos hl] at q
    obtain ⟨x, e3, e4⟩ := Option.bind_eq_some_iff.mp e1
    obtain ⟨a, vs, hv, hu, ha, _, _, _⟩ := hs.plL e1
    refine ⟨rs, G, r, x, hs, e3, fun v hv' => ?_⟩
    have hva := hu v hv'
    subst hva
    refine ⟨ty_list ha, rs, G, r, d, hs, e5, fun w G1 H1 s1 h1 => ?_⟩
    obtain ⟨b, ws, hv2, hu2, hb, gb, hl2, k⟩ := (hs.step s1).plL e1
    have := hu2 _ (hv.ex s1.h)
    cases this
    obtain ⟨c, us, rfl, hc, hm⟩ := h1.lst_ e6
    refine ⟨a, c, ws, us, rfl, rfl, hb, s1.wd.gh _ _ hc, by rw [hl2.len, hm.len]; exact lim_le hl, ?_⟩
    exact q _ G1 _ (k _ _ (hl2.append hm)) s1.g
  · rw [if_neg hl] at q
    exact q.elim
theorem last_of {vs : List V} {l : List D} {d : D} {C : Cc} {G : Hp} (h : DvL C G vs l) (e : l.getLast? = some d) : ∃ v, vs[vs.length - 1]? = some v ∧ Dv C G v d := by
  rw [List.getLast?_eq_getElem?, ← h.len] at e
  exact h.get e
/-- p.pop() -/
theorem fs_pop (ho : FP X o p) (hbase : attributeBase o "pop" X.env (eval o X.env) = eval o X.env := by rfl) (hline : (apos.endLine == pos.line) = true := by rfl) (hs : swapsWith (.Call (.Attribute o "pop" apos) [] [] pos) none pos'.line X.env = pure false := by rfl) :
    FS X (.Expr (.Call (.Attribute o "pop" apos) [] [] pos) pos') (sPop p) := PSimp (ps_expr (pe_bm0 PySem.F.plainAttrs_list PySem.F.slot_list_pop PySem.F.type_list_pop mt_pop ho hbase hline) hs) fun D σ H ⟨rs, G, r, hs, q⟩ => by
  obtain ⟨l, e1, q⟩ := sBind_ok q
  obtain ⟨d, e2, q⟩ := sBind_ok q
  obtain ⟨x, e3, e4⟩ := Option.bind_eq_some_iff.mp e1
  obtain ⟨a, vs, hv, hu, ha, _, hl, k⟩ := hs.plL e1
  refine ⟨rs, G, r, x, hs, e3, fun v hv' => ?_⟩
  have hva := hu v hv'
  subst hva
  obtain ⟨w, hw, hwd⟩ := last_of hl e2
  exact ⟨ty_list ha, a, vs, w, rfl, rfl, ha, hw, q _ G _ (k _ _ hl.dropLast) (.refl _)⟩
/-- x = p.pop() -/
theorem fs_popTo (i : Nat) {px : Pos} (hN : X.N.Nodup) (ho : FP X o p) (hbase : attributeBase o "pop" X.env (eval o X.env) = eval o X.env := by rfl) (hline : (apos.endLine == pos.line) = true := by rfl) (hi : X.N[i]? = some x := by rfl) (hx : Loc X.env.scope x := by first | exact .inl rfl | exact .inr rfl)
    (hs : swapsWith (.Call (.Attribute o "pop" apos) [] [] pos) (some (.Name x px)) pos'.line X.env = pure false := by rfl) (hf : X.fn x = true ∨ X.env.scope.names.lookup x = some .local := by first | exact .inl rfl | exact .inr rfl | assumption) :
    FS X (.Assign [.Name x px] (.Call (.Attribute o "pop" apos) [] [] pos) pos') (sPopTo i p) := PSimp (ps_set (i := i) hN hi hx (pe_bm0 PySem.F.plainAttrs_list PySem.F.slot_list_pop PySem.F.type_list_pop mt_pop ho hbase hline) hs hf) fun D σ H ⟨rs, G, r, hs, q⟩ => by
  obtain ⟨l, e1, q⟩ := sBind_ok q
  obtain ⟨d, e2, q⟩ := sBind_ok q
  obtain ⟨x, e3, e4⟩ := Option.bind_eq_some_iff.mp e1
  obtain ⟨a, vs, hv, hu, ha, _, hl, k⟩ := hs.plL e1
  refine ⟨rs, G, r, x, hs, e3, fun v hv' => ?_⟩
  have hva := hu v hv'
  subst hva
  obtain ⟨w, hw, hwd⟩ := last_of hl e2
  exact ⟨ty_list ha, a, vs, w, rfl, rfl, ha, hw, q _ G _ ((k _ _ hl.dropLast).setD hwd) (.refl _)⟩
/-- len(p), p[e], p[-1] of a list of one's own -/
theorem pLen_read {σ : L2.St} {H : Hp} {Q : VK} {rs G : Hp} {r : Env} {l : List D} (hs : Has (ccOf X) rs G H σ r) (e1 : (getP r p).bind c1L = some l) (q : ∀ v G' H', Stp G H G' H' → Dv (ccOf X) G' v (.int l.length) → Q v H') :
    tCB (fun xs H Q => ∃ p ys, xs = [.ref p] ∧ (SqL X.K H p ys ∨ SqT X.K H p ys) ∧ Q (.int ys.length) H) (tCons (tP (ccOf X) p) tNil) σ H Q := by
  obtain ⟨x, e3, e4⟩ := Option.bind_eq_some_iff.mp e1
  obtain ⟨a, vs, hv, hu, ha, _, hl, k⟩ := hs.plL e1
  refine ⟨rs, G, r, x, hs, e3, fun v hv' => ?_⟩
  have hva := hu v hv'
  subst hva
  refine ⟨a, vs, rfl, .inl (SqL.of ha), ?_⟩
  rw [hl.len]
  exact q _ G H hs.wd.refl (.int _)
/-- len of a list of one's own -/
def pLenL (p : Pl) : EX := fun r => ((getP r p).bind c1L).bind fun l => some (.int l.length)
theorem fe_plen {pn : Pos} (ho : FP X o p) (hg : Gl X "len") (hm : X.mg "len" = none) (hst : starEach (o :: []) X.env = (false, eval o X.env) :: starEach [] X.env := by rfl) (hpl : (backTo pos (starEach [] X.env)).any (·.1) = false := by rfl) :
    FE X (.Call (.Name "len" pn) [o] [] pos) (pLenL p) := PEimp (pe_callB call_len_seq hg hm PySem.boot_len (pa_cons ho pa_nil hst) (by decide) (by decide) hst hpl) fun σ H Q ⟨rs, G, r, d, hs, ev, q⟩ => by
  obtain ⟨l, e1, ev⟩ := Option.bind_eq_some_iff.mp ev
  cases ev
  exact pLen_read hs e1 q
theorem fe_pix (ho : FP X o p) (hb : FE X e f) (hs : PlainIx e) : FE X (.Subscript o e pos) (pIx p f) := PEimp (pe_ix ix_list ho hb hs) fun σ H Q ⟨rs, G, r, d, hs, ev, q⟩ => by
  obtain ⟨l, e1, ev⟩ := Option.bind_eq_some_iff.mp ev
  obtain ⟨j, e2, ev⟩ := Option.bind_eq_some_iff.mp ev
  obtain ⟨dj, e5, e6⟩ := Option.bind_eq_some_iff.mp e2
  obtain ⟨h0, hz⟩ := atD_some ev
  obtain ⟨x, e3, e4⟩ := Option.bind_eq_some_iff.mp e1
  obtain ⟨a, vs, hv, hu, ha, _, hl, k⟩ := hs.plL e1
  refine ⟨rs, G, r, x, hs, e3, fun v hv' => ?_⟩
  have hva := hu v hv'
  subst hva
  refine ⟨rs, G, r, dj, hs, e5, fun w G1 H1 s1 h1 => ?_⟩
  obtain ⟨z, hzv, hzd⟩ := hl.get hz
  exact ⟨a, vs, j, z, rfl, h1.int_ e6, SqL.of (s1.h _ _ ha), by rw [at_of h0]; exact hzv, q z G1 H1 s1 (hzd.mono s1.g)⟩
theorem fe_plast {j p1 p2} (ho : FP X o p) (hs : PlainIx (.UnaryOp .USub (.Constant (.int 1) j p1) p2)) : FE X (.Subscript o (.UnaryOp .USub (.Constant (.int 1) j p1) p2) pos) (pLast p) := PEimp (pe_ix ix_list ho (pe_un un_neg pe_int) hs) fun σ H Q ⟨rs, G, r, d, hs, ev, q⟩ => by
  obtain ⟨l, e1, ev⟩ := Option.bind_eq_some_iff.mp ev
  obtain ⟨x, e3, e4⟩ := Option.bind_eq_some_iff.mp e1
  obtain ⟨a, vs, hv, hu, ha, _, hl, k⟩ := hs.plL e1
  refine ⟨rs, G, r, x, hs, e3, fun v hv' => ?_⟩
  have hva := hu v hv'
  subst hva
  obtain ⟨z, hzv, hzd⟩ := last_of hl ev
  have hn : vs.length ≠ 0 := fun z => by
    obtain ⟨h1, _⟩ := List.getElem?_eq_some_iff.mp hzv
    omega
  refine ⟨1, rfl, a, vs, -1, z, rfl, rfl, SqL.of ha, ?_, q z G H hs.wd.refl hzd⟩
  unfold atI ixN
  rw [if_neg (by decide)]
  by_cases hc : -(vs.length : Int) ≤ -1
  · simp only [hc, if_true, Option.bind_some]
    rw [← hzv]
    congr 1
    omega
  · omega
/-- x = [..] of one's own -/
theorem fs_newL (i : Nat) {pl : Pos} (hN : X.N.Nodup) (he : FA X es fs) (hi : X.N[i]? = some x := by rfl) (hx : Loc X.env.scope x := by first | exact .inl rfl | exact .inr rfl) (hs : swapsWith (.List es pl) (some (.Name x pos')) pos.line X.env = pure false := by rfl)
    (hf : X.fn x = true ∨ X.env.scope.names.lookup x = some .local := by first | exact .inl rfl | exact .inr rfl | assumption) : FS X (.Assign [.Name x pos'] (.List es pl) pos) (sOwn i (cNewL fs)) :=
  PSimp (ps_set (i := i) hN hi hx (pe_lst he) hs hf) fun D σ H ⟨rs, G, r, hs, q⟩ => by
    obtain ⟨c, e1, q⟩ := sBind_ok q
    obtain ⟨l, e2, e3⟩ := Option.bind_eq_some_iff.mp e1
    simp only [Option.ite_none_right_eq_some, Option.some.injEq] at e3
    obtain ⟨e3, rfl⟩ := e3
    refine ⟨rs, G, r, l, hs, e2, fun vs G1 H1 s1 h1 => ⟨by rw [h1.len]; exact lim_le e3, fun a ha => ?_⟩⟩
    obtain ⟨fp, hf⟩ := hs.step s1
    have s2 := hf.wd.newH (o := .lst vs) ha (fun xs z => nomatch z)
    have hf2 := hf.step s2
    refine q _ G1 _ ⟨_, hf2.put (x := .own (.lst l)) (v := .ref a) (q := [a]) ⟨a, vs, rfl, rfl, upd_same, h1⟩ (fun b hb => ?_) fun j b _ hb => ?_⟩ s1.g
    · have e' : b = a := by simpa using hb
      subst e'
      exact ⟨ex_none hf.wd.gh ha, ex_none hf.rh ha, _, upd_same⟩
    · have e' : b = a := by simpa using hb
      subst e'
      intro z
      obtain ⟨_, _, o, ho⟩ := hf.fr j b z
      rw [ha] at ho; cases ho
end

/-! ### a def's promise from its body -/
def envOf (N : List Str) (as : List SV) : Env := as.map some ++ List.replicate (N.length - as.length) none
theorem slot_env {N : List Str} {as : List SV} {i : Nat} {x : SV} (h : slot (envOf N as) i = some x) : as[i]? = some x := by
  unfold slot envOf at h
  by_cases hi : i < as.length
  · rw [List.getElem?_append_left (by simpa using hi), List.getElem?_map] at h
    rw [List.getElem?_eq_getElem hi] at h ⊢
    exact h
  · rw [List.getElem?_append_right (by simpa using hi)] at h
    rw [List.getElem?_replicate] at h
    split at h <;> cases h
theorem slot_env2 {N : List Str} {as : List SV} {i : Nat} (hi : i < as.length) : slot (envOf N as) i = as[i]? := by
  unfold slot envOf
  rw [List.getElem?_append_left (by simpa using hi), List.getElem?_map, List.getElem?_eq_getElem hi]
  rfl
/-- what stands beside G -/
def restOf (G H : Hp) : Hp := fun a => match G a with
  | some _ => none
  | none => H a
theorem restOf_some {G H : Hp} {a : Addr} {o : HO} (h : restOf G H a = some o) : G a = none ∧ H a = some o := by
  unfold restOf at h
  split at h
  · cases h
  · exact ⟨by assumption, h⟩
theorem restOf_none {G H : Hp} {a : Addr} {o : HO} (h : H a = some o) (g : G a = none) : restOf G H a = some o := by
  unfold restOf
  rw [g]
  exact h
theorem start_get {N : List Str} {vs : List V} {i : Nat} {v : V} (h : vs[i]? = some v) : (L2.start N vs)[i]? = some (some v) := by
  unfold L2.start
  obtain ⟨h1, h2⟩ := List.getElem?_eq_some_iff.mp h
  rw [List.getElem?_append_left (by simpa using h1), List.getElem?_map, h]
  rfl
theorem Has.start {C : Cc} {G H : Hp} {N : List Str} {vs : List V} {ds : List D} (w : Wd G H) (h : DvL C G vs ds) : Has C (restOf G H) G H (L2.start N vs) (envOf N (ds.map .dat)) := by
  refine ⟨fun _ => [], w, fun a o e => (restOf_some e).2, fun a o e => (restOf_some e).1, ?_, fun i x e => ?_, fun i a ha => (by cases ha), fun i j a ha => (by cases ha)⟩
  · unfold L2.start envOf
    simp [h.len]
  · have q := slot_env e
    rw [List.getElem?_map] at q
    obtain ⟨d, hd, rfl⟩ := Option.map_eq_some_iff.mp q
    obtain ⟨v, hv, hvd⟩ := h.get hd
    exact ⟨v, start_get hv, rfl, hvd⟩
theorem Has.back {C : Cc} {G H G' H' : Hp} {σ : L2.St} {r : Env} (h : Has C (restOf G H) G' H' σ r) (w : Wd G H) (e : Ex G G') : Stp G H G' H' where
  g := e
  h := fun a o ha => by
    cases z : G a with
    | some u =>
      have := w.gh a u z
      rw [ha] at this
      cases this
      exact h.wd.gh a o (e a o z)
    | none =>
      obtain ⟨_, f⟩ := h
      exact f.rh a o (restOf_none ha z)
  gh := h.wd.gh
  nw := fun a o ha => by
    cases z : G a with
    | some u =>
      have := e a u z
      rw [ha] at this
      cases this
      exact .inl rfl
    | none =>
      cases y : H a with
      | none => exact .inr rfl
      | some u =>
        obtain ⟨_, f⟩ := h
        have := f.rg a u (restOf_none y z)
        rw [ha] at this; cases this
  tg := h.wd.tg
section
variable {P : Program} {w : World} {K : PySem.W.Frag} {mg : Str → Option Value} {base : Heap} {x qual : Str} {params : Arguments} {body : List Stmt} {scope : Scope} {dvs : List V} {kws : List (Str × V)} {f : Addr} {fd : FuncData}
/-- how a body ends: with z -/
def Ends_ (z : D) : Res → Prop
  | .rt d _ => d = z
  | .nx _ => z = .non
  | .fail => False
theorem fn_D {N ps : List Str} {k : Nat} {gf : List D → Option D} {Fd : Nat → ST} (F : FunD K x qual params body scope dvs kws f fd) (S : FnScope N ps scope)
    (hb : ∀ (n : Nat) (cdv : Value) (A : Around) (outer : List PySem.Env) (s : Shared) (H : Hp) (E : XK), Room k (A.deeper (envOfC qual scope s.heap.objs.size f cdv)) → FB (cxOf CX0 P w K mg base N qual scope f cdv A outer s H E).nox body (Fd n))
    (hF : ∀ ds z, gf ds = some z → ds.length = ps.length ∧ ∃ n, Ends_ z (Fd n (envOf N (ds.map .dat)))) : FnOk P w K mg base CX0 (k + 1) f fd ps (spD ⟨P, w, K⟩ ps.length gf) := by
  refine F.ok S (fun vs H Q E h => ?_) (fun cdv A outer s H vs Q E hr h => ?_)
  · obtain ⟨G, ds, z, w, hd, hl, _⟩ := h
    rw [hd.len, hl]
  · obtain ⟨G, ds, z, w, hd, hl, e1, q⟩ := h
    obtain ⟨_, n, hn⟩ := hF ds z e1
    refine ⟨_, (hb n cdv A outer s H E hr).nox, restOf G H, G, _, Has.start w hd, ?_⟩
    revert hn
    cases Fd n (envOf N (ds.map .dat)) with
    | fail => exact fun h => h.elim
    | nx r2 => exact fun h σ' G' H' h1 e2 => by subst h; exact q .non G' H' (h1.back w e2) .non
    | rt d r2 => exact fun h v σ' G' H' h1 e2 hv => by subst h; exact q v G' H' (h1.back w e2) hv
end
end DL
end

section
set_option Elab.async false
set_option linter.all false
set_option maxRecDepth 100000
set_option maxHeartbeats 2000000
/-! D1f: freezing; defs with an object of one's own; instances made. -/
namespace DL
open PySem PySem.Spec PyProof.Rows L2

/-- H', G' are H, G but at fp, where G' and H' hold the same thing, no tuple -/
structure Fz (fp : List Addr) (G H G' H' : Hp) : Prop where
  out : ∀ a, a ∉ fp → H' a = H a ∧ G' a = G a
  inn : ∀ a ∈ fp, ∃ o, H' a = some o ∧ G' a = some o ∧ ∀ xs, o ≠ .tup xs
theorem Fz.ex {fp : List Addr} {G H G' H' : Hp} (z : Fz fp G H G' H') (h : ∀ a ∈ fp, G a = none) : Ex G G' := fun a o e => by
  by_cases q : a ∈ fp
  · rw [h a q] at e; cases e
  · rw [(z.out a q).2]; exact e
theorem Fz.nil {G H : Hp} : Fz [] G H G H := ⟨fun _ _ => ⟨rfl, rfl⟩, fun a h => by cases h⟩
theorem Fz.app {p q : List Addr} {G H G1 H1 G2 H2 : Hp} (a : Fz p G H G1 H1) (b : Fz q G1 H1 G2 H2) (d : ∀ x ∈ p, x ∉ q) : Fz (p ++ q) G H G2 H2 where
  out := fun x hx => by
    have h1 : x ∉ p := fun z => hx (List.mem_append_left _ z)
    have h2 : x ∉ q := fun z => hx (List.mem_append_right _ z)
    exact ⟨(b.out x h2).1.trans (a.out x h1).1, (b.out x h2).2.trans (a.out x h1).2⟩
  inn := fun x hx => by
    rcases List.mem_append.mp hx with h | h
    · obtain ⟨o, h1, h2, h3⟩ := a.inn x h
      exact ⟨o, (b.out x (d x h)).1.trans h1, (b.out x (d x h)).2.trans h2, h3⟩
    · exact b.inn x h
section
variable {X : Cx} {pins : List (Addr × Obj)} {σ : L2.St} {s : Shared} {C : Cc} {rs G H G' H' : Hp} {r : Env} {fp : Nat → List Addr}
theorem Fz.one {a : Addr} {o : HO} (h : H a = some o) (nt : ∀ xs, o ≠ .tup xs) : Fz [a] G H (upd G a o) H where
  out := fun x hx => ⟨rfl, upd_ne (by simpa using hx)⟩
  inn := fun x hx => by
    have e : x = a := by simpa using hx
    subst e
    exact ⟨o, h, upd_same, nt⟩
theorem frz_lists : ∀ {ls : List Addr} {l : List (List D)}, ls.Nodup → (∀ a ∈ ls, G a = none) → LsAt C G H ls l → ∃ G', Fz ls G H G' H ∧ DvL C G' (ls.map V.ref) (l.map D.lst)
  | [], _, _, _, .nil => ⟨G, .nil, .nil⟩
  | a :: ls, _, nd, hg, .cons (vs := vs) (l := l) h d t => by
    obtain ⟨G1, z, hl⟩ := frz_lists (List.nodup_cons.mp nd).2 (fun b hb => hg b (List.mem_cons_of_mem _ hb)) t
    have na := (List.nodup_cons.mp nd).1
    have g1 : G1 a = none := by rw [(z.out a na).2]; exact hg a List.mem_cons_self
    have zz : Fz [a] G1 H (upd G1 a (.lst vs)) H := Fz.one h (fun xs q => nomatch q)
    have e1 : Ex G G1 := z.ex fun b hb => hg b (List.mem_cons_of_mem _ hb)
    have e2 : Ex G1 (upd G1 a (.lst vs)) := ex_upd g1
    refine ⟨_, ⟨fun x hx => ?_, fun x hx => ?_⟩, .cons (.lst upd_same (d.mono (e1.trans e2))) (hl.mono e2)⟩
    · have h1 : x ∉ ls := fun q => hx (List.mem_cons_of_mem _ q)
      have h2 : x ≠ a := fun q => hx (q ▸ List.mem_cons_self)
      exact ⟨rfl, by rw [upd_ne h2]; exact (z.out x h1).2⟩
    · rcases List.mem_cons.mp hx with q | q
      · subst q; exact ⟨_, h, upd_same, fun xs q => nomatch q⟩
      · obtain ⟨o, h1, h2, h3⟩ := z.inn x q
        exact ⟨o, h1, by rw [upd_ne (fun (y : x = a) => na (y ▸ q))]; exact h2, h3⟩
theorem drep_nt {k : KK} {T : Hp} {a : Addr} {u : HO} {ks : List (List Int)} {vs : List V} (h : DRep C k T a u ks vs) : (∀ xs, u ≠ .tup xs) ∧ Mut (some u) := by
  cases k with
  | i => obtain ⟨l, rfl, _⟩ := h; exact ⟨(fun xs q => nomatch q), True.intro⟩
  | t => obtain ⟨o, xs, rfl, _⟩ := h; exact ⟨(fun xs q => nomatch q), True.intro⟩
  | e => obtain ⟨o, xs, rfl, _⟩ := h; exact ⟨(fun xs q => nomatch q), True.intro⟩
/-- a container of one's own is frozen -/
theorem frz_C1 (I : L2.Inv X pins σ H s) {v : V} {c : C1} {fp : List Addr} (hg : ∀ a ∈ fp, G a = none) (h : C1At C G H v c fp) : ∃ G' H', L2.Inv X pins σ H' s ∧ Fz fp G H G' H' ∧ Dv C G' v c.frz := by
  cases c with
  | lst l =>
    obtain ⟨a, vs, rfl, rfl, ha, hl⟩ := h
    have g1 := hg a (by simp)
    exact ⟨_, H, I, Fz.one ha (fun xs q => nomatch q), .lst upd_same (hl.mono (ex_upd g1))⟩
  | dic k kvs =>
    obtain ⟨a, u, vs, rfl, rfl, ha, hr, hl⟩ := h
    have g1 := hg a (by simp)
    obtain ⟨nt, mu⟩ := drep_nt hr
    cases k with
    | i =>
      obtain ⟨od, I2⟩ := I.lock ha mu
      refine ⟨upd G a (.frz od u), upd H a (.frz od u), I2, ⟨fun x hx => ?_, fun x hx => ?_⟩, .dic (k := .i) (o := od) (u := u) (vs := vs) upd_same hr (hl.mono (ex_upd g1))⟩
      · exact ⟨upd_ne (by simpa using hx), upd_ne (by simpa using hx)⟩
      · have e : x = a := by simpa using hx
        subst e
        exact ⟨_, upd_same, upd_same, fun xs q => nomatch q⟩
    | t => exact ⟨_, H, I, Fz.one ha nt, .dic (k := .t) (o := default) (u := u) (vs := vs) upd_same (hr.mono fun q ys e => ex_upd g1 _ _ e) (hl.mono (ex_upd g1))⟩
    | e => exact ⟨_, H, I, Fz.one ha nt, .dic (k := .e) (o := default) (u := u) (vs := vs) upd_same (hr.mono fun q ys e => ex_upd g1 _ _ e) (hl.mono (ex_upd g1))⟩
  | dil kvs =>
    obtain ⟨a, u, ls, rfl, rfl, nd, ha, hr, hl⟩ := h
    obtain ⟨nt, mu⟩ := drep_nt hr
    have na := (List.nodup_cons.mp nd).1
    have g1 := hg a List.mem_cons_self
    obtain ⟨G1, z, hd⟩ := frz_lists (List.nodup_cons.mp nd).2 (fun b hb => hg b (List.mem_cons_of_mem _ hb)) hl
    have e1 : Ex G G1 := z.ex fun b hb => hg b (List.mem_cons_of_mem _ hb)
    have g2 : G1 a = none := by rw [(z.out a na).2]; exact g1
    have e2 : Ex G1 (upd G1 a u) := ex_upd g2
    refine ⟨upd G1 a u, H, I, ⟨fun x hx => ?_, fun x hx => ?_⟩, ?_⟩
    · have h1 : x ∉ ls := fun q => hx (List.mem_cons_of_mem _ q)
      have h2 : x ≠ a := fun q => hx (q ▸ List.mem_cons_self)
      exact ⟨rfl, by rw [upd_ne h2]; exact (z.out x h1).2⟩
    · rcases List.mem_cons.mp hx with q | q
      · subst q; exact ⟨_, ha, upd_same, nt⟩
      · obtain ⟨o, h1, h2, h3⟩ := z.inn x q
        exact ⟨o, h1, by rw [upd_ne (fun (y : x = a) => na (y ▸ q))]; exact h2, h3⟩
    · refine .dic (k := .t) (o := default) (u := u) (vs := ls.map V.ref) upd_same ?_ ?_
      · have e3 : (kvs.map fun p => (p.1, D.lst p.2)).map (·.1) = kvs.map (·.1) := by simp
        rw [e3]
        exact hr.mono fun q ys e => e2 _ _ (e1 _ _ e)
      · have e3 : (kvs.map fun p => (p.1, D.lst p.2)).map (·.2) = (kvs.map (·.2)).map D.lst := by simp
        rw [e3]
        exact hd.mono e2
theorem frz_Fls : ∀ (vs : List V) (fs : List Fld) (ps : List (List Addr)) (G H : Hp), L2.Inv X pins σ H s → ps.flatten.Nodup → (∀ a ∈ ps.flatten, G a = none) → FlsAt C G H vs fs ps → ∃ G' H', L2.Inv X pins σ H' s ∧ Fz ps.flatten G H G' H' ∧ DvL C G' vs (fs.map Fld.frz)
  | [], fs, ps, G, H, I, _, _, h => by
    cases h
    exact ⟨G, H, I, .nil, .nil⟩
  | v :: vs, fs, ps, G, H, I, nd, hg, h => by
    cases h with
    | @cons _ _ f fs p ps h t =>
    rw [List.flatten_cons] at nd
    obtain ⟨n1, n2, n3⟩ := List.nodup_append.mp nd
    have hgp : ∀ a ∈ p, G a = none := fun a ha => hg a (by rw [List.flatten_cons]; exact List.mem_append_left _ ha)
    have hgs : ∀ a ∈ ps.flatten, G a = none := fun a ha => hg a (by rw [List.flatten_cons]; exact List.mem_append_right _ ha)
    have first : ∃ G1 H1, L2.Inv X pins σ H1 s ∧ Fz p G H G1 H1 ∧ Dv C G1 v f.frz := by
      cases f with
      | dat d => 
        obtain ⟨h1, h2⟩ := h
        subst h1
        exact ⟨G, H, I, .nil, h2⟩
      | own c => exact frz_C1 I hgp h
    obtain ⟨G1, H1, I1, z1, d1⟩ := first
    have e1 : Ex G G1 := z1.ex hgp
    have apart : ∀ a ∈ ps.flatten, a ∉ p := fun a ha hb => n3 a hb a ha rfl
    obtain ⟨G2, H2, I2, z2, d2⟩ := frz_Fls vs fs ps G1 H1 I1 n2 (fun a ha => by rw [(z1.out a (apart a ha)).2]; exact hgs a ha) (t.keep e1 fun a ha => (z1.out a (apart a ha)).1)
    have e2 : Ex G1 G2 := z2.ex fun a ha => by rw [(z1.out a (apart a ha)).2]; exact hgs a ha
    refine ⟨G2, H2, I2, ?_, .cons (d1.mono e2) d2⟩
    rw [List.flatten_cons]
    exact z1.app z2 fun x hx hy => apart x hy hx
theorem frz_SV (I : L2.Inv X pins σ H s) {v : V} {x : SV} {fp : List Addr} (hx : x.isP = false) (hg : ∀ a ∈ fp, G a = none) (h : SVAt C G H v x fp) : ∃ G' H', L2.Inv X pins σ H' s ∧ Fz fp G H G' H' ∧ Dv C G' v x.frz := by
  cases x with
  | ptr a => cases hx
  | dat d =>
    obtain ⟨h1, h2⟩ := h
    subst h1
    exact ⟨G, H, I, .nil, h2⟩
  | own c => exact frz_C1 I hg h
  | obj t c fs =>
    obtain ⟨a, dx, vs, ps, rfl, ht, ha, hdx, hlen, hfs, rfl, nd⟩ := h
    obtain ⟨n1, n2⟩ := List.nodup_cons.mp nd
    obtain ⟨n3, n4⟩ := List.nodup_cons.mp n2
    have hgs : ∀ b ∈ ps.flatten, G b = none := fun b hb => hg b (List.mem_cons_of_mem _ (List.mem_cons_of_mem _ hb))
    obtain ⟨G1, H1, I1, z1, d1⟩ := frz_Fls _ _ _ _ _ I n4 hgs hfs
    have na : a ∉ ps.flatten := fun z => n1 (List.mem_cons_of_mem _ z)
    have nadx : a ≠ dx := fun z => n1 (z ▸ List.mem_cons_self)
    have ha1 : H1 a = some (.ins (C.ca c) dx ((fnames c).zip vs)) := by rw [(z1.out a na).1]; exact ha
    have hd1 : H1 dx = some (.own a) := by rw [(z1.out dx n3).1]; exact hdx
    have ga : G1 a = none := by rw [(z1.out a na).2]; exact hg a List.mem_cons_self
    have gd : G1 dx = none := by rw [(z1.out dx n3).2]; exact hg dx (List.mem_cons_of_mem _ List.mem_cons_self)
    have z2 : Fz [dx] G1 H1 (upd G1 dx (.own a)) H1 := Fz.one hd1 (fun xs q => nomatch q)
    have z3 : Fz [a] (upd G1 dx (.own a)) H1 (upd (upd G1 dx (.own a)) a (.ins (C.ca c) dx ((fnames c).zip vs))) H1 := Fz.one ha1 (fun xs q => nomatch q)
    have e2 : Ex G1 (upd G1 dx (.own a)) := ex_upd gd
    have e3 : Ex (upd G1 dx (.own a)) (upd (upd G1 dx (.own a)) a (.ins (C.ca c) dx ((fnames c).zip vs))) := ex_upd (by rw [upd_ne nadx]; exact ga)
    have zz := (z1.app z2 fun x hx hy => n3 (by have e : x = dx := by simpa using hy
                                                subst e; exact hx)).app z3 fun x hx hy => by
      have e : x = a := by simpa using hy
      subst e
      rcases List.mem_append.mp hx with q | q
      · exact na q
      · exact nadx (by simpa using q)
    refine ⟨_, H1, I1, ⟨fun x hx => zz.out x ?_, fun x hx => zz.inn x ?_⟩, .obj upd_same (d1.mono (e2.trans e3))⟩
    · intro q
      apply hx
      rcases List.mem_append.mp q with q | q
      · rcases List.mem_append.mp q with q | q
        · exact List.mem_cons_of_mem _ (List.mem_cons_of_mem _ q)
        · have e : x = dx := by simpa using q
          subst e; exact List.mem_cons_of_mem _ List.mem_cons_self
      · have e : x = a := by simpa using q
        subst e; exact List.mem_cons_self
    · rcases List.mem_cons.mp hx with q | q
      · subst q; exact List.mem_append_right _ (by simp)
      · rcases List.mem_cons.mp q with q | q
        · subst q; exact List.mem_append_left _ (List.mem_append_right _ (by simp))
        · exact List.mem_append_left _ (List.mem_append_left _ q)
/-- a slot is frozen -/
theorem Has.frz (I : L2.Inv X pins σ H s) (h : Has C rs G H σ r) {i : Nat} {x : SV} (e : slot r i = some x) (hx : x.isP = false) : ∃ G' H', L2.Inv X pins σ H' s ∧ Ex G G' ∧ Has C rs G' H' σ (r.set i (some (.dat x.frz))) := by
  obtain ⟨fp, f⟩ := h
  obtain ⟨v, h1, h2⟩ := f.at_ i x e
  obtain ⟨G', H', I', z, hd⟩ := frz_SV I hx (fun a ha => (f.fr i a ha).1) h2
  have eg : Ex G G' := z.ex fun a ha => (f.fr i a ha).1
  have f0 : HasF C rs G' H' σ (r.set i none) (fun j => if j = i then [] else fp j) := by
    refine ⟨⟨fun a o ea => ?_, fun a xs ea => ?_⟩, fun a o ea => ?_, fun a o ea => ?_, by simpa using f.len, fun j y ey => ?_, fun j a ha => ?_, fun j k a h1 h2 => ?_⟩
    · by_cases q : a ∈ fp i
      · obtain ⟨u, h3, h4, _⟩ := z.inn a q
        rw [h4] at ea; cases ea; exact h3
      · rw [(z.out a q).2] at ea
        rw [(z.out a q).1]
        exact f.wd.gh a o ea
    · by_cases q : a ∈ fp i
      · obtain ⟨u, h3, h4, h5⟩ := z.inn a q
        rw [h3] at ea; cases ea; exact absurd rfl (h5 xs)
      · rw [(z.out a q).1] at ea
        rw [(z.out a q).2]
        exact f.wd.tg a xs ea
    · have q : a ∉ fp i := fun q => by
        have := (f.fr i a q).2.1
        rw [ea] at this; cases this
      rw [(z.out a q).1]
      exact f.rh a o ea
    · have q : a ∉ fp i := fun q => by
        have := (f.fr i a q).2.1
        rw [ea] at this; cases this
      rw [(z.out a q).2]
      exact f.rg a o ea
    · rw [slot_set] at ey
      split at ey
      · cases ey
      · rename_i hn
        have hj : j ≠ i := fun q => hn ⟨q.symm, slot_lt e⟩
        obtain ⟨u, h3, h4⟩ := f.at_ j y ey
        simp only [if_neg hj]
        exact ⟨u, h3, h4.keep eg fun a ha => (z.out a fun q => hj (f.dj j i a ha q)).1⟩
    · by_cases hj : j = i
      · simp only [hj, if_true] at ha; cases ha
      · simp only [if_neg hj] at ha
        obtain ⟨h3, h4, o, h5⟩ := f.fr j a ha
        have q : a ∉ fp i := fun q => hj (f.dj j i a ha q)
        exact ⟨by rw [(z.out a q).2]; exact h3, h4, o, by rw [(z.out a q).1]; exact h5⟩
    · by_cases hj : j = i
      · simp only [hj, if_true] at h1; cases h1
      · by_cases hk : k = i
        · simp only [hk, if_true] at h2; cases h2
        · simp only [if_neg hj] at h1
          simp only [if_neg hk] at h2
          exact f.dj j k a h1 h2
  have f1 := Has.setD (i := i) ⟨_, f0⟩ hd
  have e1 : (r.set i none).set i (some (SV.dat x.frz)) = r.set i (some (.dat x.frz)) := by simp
  have e2 : σ.set i (some v) = σ := by
    obtain ⟨hl, hv⟩ := List.getElem?_eq_some_iff.mp h1
    rw [← hv]; simp
  rw [e1, e2] at f1
  exact ⟨G', H', I', eg, f1⟩
theorem fb_frz (i : Nat) {sts : List Stmt} {F : ST} (h : FB X sts F) : FB X sts (sSeq (sFrz i) F) := ⟨fun pins s σ H D I ⟨rs, G, r, hs, q⟩ => by
  cases e : slot r i with
  | none =>
    unfold sSeq sFrz at q
    rw [e] at q
    exact q.elim
  | some x =>
    unfold sSeq sFrz at q
    rw [e] at q
    by_cases hx : x.isP = true
    · simp only [sBind, hx, if_true] at q
      exact q.elim
    rw [Bool.not_eq_true] at hx
    simp only [sBind, hx, Bool.false_eq_true, if_false] at q
    obtain ⟨G', H', I', eg, hs'⟩ := hs.frz I e hx
    exact h.run pins s σ H' D I' ⟨rs, G', _, hs', q.mono eg⟩⟩
end
theorem plainIx {b : Expr} (h : PlainIx b := by exact fun _ _ => rfl) : PlainIx b := h
theorem units0 {A : Around} {k : Nat} (hr : Room k A) : A.units < cLine := Nat.lt_of_succ_lt (hu_of hr)
/-! ### calls by contract -/
/-- a def that keeps its promise, by its name -/
structure Cal (P : Program) (w : World) (K : PySem.W.Frag) (mg : Str → Option Value) (base : Heap) (k : Nat) (x : Str) (n : Nat) (gf : List D → Option D) : Prop where
  ex : ∃ f fd ps, ps.length = n ∧ FnOk P w K mg base CX0 k f fd ps (spD ⟨P, w, K⟩ n gf) ∧ mg x = some (.ref f) ∧ PySem.W.keepIn K (.ref f) = true ∧ Binds K fd ps []
  len : ∀ ds z, gf ds = some z → ds.length = n
theorem fe_callC {X : Cx} {e : Expr} {es : List Expr} {fs : EXs} {pos p : Pos} {x : Str} {k k' n : Nat} {gf : List D → Option D} (c : Cal X.prog X.w X.K X.mg X.base k x n gf) (hr : Room k' X.A) (hg : Gl X x)
    (ha : FA X (e :: es) fs) (hk : k ≤ k' := by decide) (hdb : (x == ("__debug__" : Str)) = false := by decide) (he : starEach (e :: es) X.env = (false, eval e X.env) :: starEach es X.env := by rfl) (hpl : (backTo pos (starEach es X.env)).any (·.1) = false := by rfl) :
    FE X (.Call (.Name x p) (e :: es) [] pos) (eCall gf fs) := by
  obtain ⟨f, fd, ps, rfl, F, hm, hkp, hb⟩ := c.ex
  exact fe_call F c.len (hr.mono hk) hg hm hkp hb ha hdb he hpl
end DL
end

section
set_option Elab.async false
set_option linter.all false
set_option maxRecDepth 100000
set_option maxHeartbeats 2000000
/-! D1g: dicts. -/
namespace DL
open PySem PySem.Spec PyProof.Rows L2

section
variable {P : Program} {w : World}
theorem items_key {κ : KK} (hκ : κ ≠ .i) {ks : List Int} (h : kOk κ ks) {its : List Value} (r : Vals (keyVs κ ks) its) : ItemsAre (leafKind P w) (ks.map Leaf.num) its := by
  have li : ∀ (i : Int) (v : Value), RelV (.int i) v → (leafKind P w).is (.num i) v = true := fun i v ⟨t, e⟩ => by
    subst e; exact decide_eq_true rfl
  cases κ with
  | i => exact absurd rfl hκ
  | t =>
    obtain ⟨a, b, rfl⟩ := h
    cases r with
    | cons h1 r => cases r with
      | cons h2 r => cases r; exact .cons (li _ _ h1) (.cons (li _ _ h2) .nil)
  | e =>
    obtain ⟨a, b, c, f, rfl⟩ := h
    cases r with
    | cons h1 r => cases r with
      | cons h2 r => cases r with
        | cons h3 r => cases r with
          | cons h4 r =>
            cases r
            refine .cons (li _ _ h1) (.cons (li _ _ h2) (.cons (li _ _ h3) (.cons ?_ .nil)))
            cases f with
            | true => cases h4; rfl
            | false => cases h4; rfl
theorem key_at {H : Hp} {h : Heap} {κ : KK} (hκ : κ ≠ .i) {ks : List Int} {b : Addr} (ok : HOk P w H h) (hk : kOk κ ks) (e : H b = some (.tup (keyVs κ ks))) : (tupleKind (leafKind P w)).is h (ks.map Leaf.num) b := by
  obtain ⟨_, its, r, o, h1, h2, n, h3⟩ := (show ObjOk P w H h b (.tup (keyVs κ ks)) from ok b _ e)
  exact ⟨o, its.toArray, n, h1, h2, h3, by simpa using items_key hκ hk r⟩
def lookX (xs : XT) (k : List Int) : Option (Addr × V) := (xs.find? fun p => decide (p.1 = k)).map (·.2)
def putX (xs : XT) (k : List Int) (b : Addr) (v : V) : XT := if (lookX xs k).isSome then xs.map (fun x => if x.1 = k then (x.1, x.2.1, v) else x) else xs ++ [(k, b, v)]
theorem num_inj : ∀ {a b : List Int}, a.map Leaf.num = b.map Leaf.num → a = b
  | [], [], _ => rfl
  | [], _ :: _, h => by cases h
  | _ :: _, [], h => by cases h
  | x :: a, y :: b, h => by
    rw [List.map_cons, List.map_cons] at h
    injection h with h1 h2
    injection h1 with h1
    rw [h1, num_inj h2]
theorem num_iff {a b : List Int} : (a.map Leaf.num = b.map Leaf.num) ↔ a = b := ⟨num_inj, fun e => by rw [e]⟩
theorem xsv_at {xs : XT} {vs : List (List Leaf × Addr × Value)} (r : XsV xs vs) (k : List Int) : (∃ q v u, lookX xs k = some (q, v) ∧ atKey vs (k.map Leaf.num) = some (q, u) ∧ RelV v u) ∨ (lookX xs k = none ∧ atKey vs (k.map Leaf.num) = none) := by
  induction r with
  | nil => exact .inr ⟨rfl, rfl⟩
  | @cons p q ps qs h t ih =>
    obtain ⟨h1, h2, h3⟩ := h
    by_cases e : p.1 = k
    · left
      refine ⟨p.2.1, p.2.2, q.2.2, ?_, ?_, h3⟩
      · simp [lookX, List.find?_cons, e]
      · have : q.1 = k.map Leaf.num := by rw [h1, e]
        simp [atKey, List.find?_cons, this, h2]
        rw [← h2]
    · have e2 : ¬ q.1 = k.map Leaf.num := fun z => e (num_inj (h1.symm.trans z))
      have a1 : lookX (p :: ps) k = lookX ps k := by simp [lookX, List.find?_cons, e]
      have a2 : atKey (q :: qs) (k.map Leaf.num) = atKey qs (k.map Leaf.num) := by simp [atKey, List.find?_cons, e2]
      rw [a1, a2]
      exact ih
theorem xsv_put {xs : XT} {vs : List (List Leaf × Addr × Value)} (r : XsV xs vs) (k : List Int) (b : Addr) {v : V} {u : Value} (rv : RelV v u) : XsV (putX xs k b v) (storedH vs (k.map Leaf.num) b u) := by
  have e : (lookX xs k).isSome = (atKey vs (k.map Leaf.num)).isSome := by
    rcases xsv_at r k with ⟨q, v, u, h1, h2, _⟩ | ⟨h1, h2⟩
    · rw [h1, h2]; rfl
    · rw [h1, h2]; rfl
  unfold putX storedH
  rw [e]
  split
  · clear e
    rename_i hh
    clear hh
    induction r with
    | nil => exact .nil
    | @cons p q ps qs h t ih =>
      rw [List.map_cons, List.map_cons]
      refine .cons ?_ ih
      obtain ⟨h1, h2, h3⟩ := h
      unfold putAt
      by_cases e : p.1 = k
      · rw [if_pos e, if_pos (by rw [h1, e])]; exact ⟨h1, h2, rv⟩
      · rw [if_neg e, if_neg (fun z => e (num_inj (h1.symm.trans z)))]; exact ⟨h1, h2, h3⟩
  · exact Paired.snoc r ⟨rfl, rfl, rv⟩
theorem putX_len (xs : XT) (k : List Int) (b : Addr) (v : V) : (putX xs k b v).length ≤ xs.length + 1 := by
  unfold putX
  split
  · rw [List.length_map]; omega
  · simp
/-- a dict's object as the library has it -/
theorem eo_at {H : Hp} {h : Heap} {a : Addr} {o : Obj} {xs : XT} {κ : KK} (hκ : κ ≠ .i) (ok : HOk P w H h) (ha : H a = some (eO a o)) (d : DOb P w o xs) (ht : ∀ x ∈ xs, kOk κ x.1 ∧ H x.2.1 = some (.tup (keyVs κ x.1))) :
    ∃ vs, XsV xs vs ∧ (a == sysModules) = false ∧ xs.length ≤ sizeLine ∧ h.DictOfH (tupleKind (leafKind P w)) a vs := by
  obtain ⟨⟨g, hs⟩, _, _⟩ := (show ObjOk P w H h a (eO a o) from ok a _ ha)
  obtain ⟨d1, d2, es, ep, vs, d3, d4, d5, d6⟩ := d
  refine ⟨vs, d6, hs, d2, o, es, ep, g, d1, d3, d4, ?_, d5⟩
  clear d4 d5 d3 d2 d1
  induction d6 with
  | nil => intro x hx; cases hx
  | @cons p q ps qs hq t ih =>
    intro x hx
    rcases List.mem_cons.mp hx with z | z
    · subst z
      obtain ⟨k1, k2⟩ := ht p List.mem_cons_self
      rw [hq.1, hq.2.1]
      exact key_at hκ ok k1 k2
    · exact ih (fun x hx => ht x (List.mem_cons_of_mem _ hx)) x z
theorem dob_of {h : Heap} {a : Addr} {xs : XT} {vs : List (List Leaf × Addr × Value)} (x : h.DictOfH (tupleKind (leafKind P w)) a vs) (r : XsV xs vs) (hl : xs.length ≤ sizeLine) : ∃ o, h.get? a = some o ∧ DOb P w o xs := by
  obtain ⟨o, es, ep, h1, h2, h3, h4, _, h6⟩ := x
  exact ⟨o, h1, h2, hl, es, ep, vs, h3, h4, h6, r⟩
/-! look-ups by data -/
theorem look_cons {α : Type} {p : List Int × α} {l : List (List Int × α)} {k : List Int} : look (p :: l) k = if p.1 = k then some p.2 else look l k := by
  unfold look
  by_cases e : p.1 = k
  · simp [List.find?_cons, e]
  · simp [List.find?_cons, e]
theorem lookX_cons {p : List Int × Addr × V} {l : XT} {k : List Int} : lookX (p :: l) k = if p.1 = k then some p.2 else lookX l k := by
  unfold lookX
  by_cases e : p.1 = k
  · simp [List.find?_cons, e]
  · simp [List.find?_cons, e]
theorem rel_look {C : Cc} {G : Hp} : ∀ {xs : XT} {kvs : List (List Int × D)}, xs.map (·.1) = kvs.map (·.1) → DvL C G (xs.map (·.2.2)) (kvs.map (·.2)) → ∀ k, (∃ q v d, lookX xs k = some (q, v) ∧ look kvs k = some d ∧ Dv C G v d) ∨ (lookX xs k = none ∧ look kvs k = none)
  | [], [], _, _, _ => .inr ⟨rfl, rfl⟩
  | [], _ :: _, h, _, _ => by cases h
  | _ :: _, [], h, _, _ => by cases h
  | x :: xs, p :: kvs, h, hv, k => by
    rw [List.map_cons, List.map_cons] at h
    injection h with h1 h2
    rw [List.map_cons, List.map_cons] at hv
    cases hv with
    | cons hv hl =>
      rw [look_cons, lookX_cons, h1]
      by_cases e : p.1 = k
      · rw [if_pos e, if_pos e]; exact .inl ⟨_, _, _, rfl, rfl, hv⟩
      · rw [if_neg e, if_neg e]; exact rel_look h2 hl k
theorem any_look {α : Type} {l : List (List Int × α)} {k : List Int} : (l.any fun p => decide (p.1 = k)) = (look l k).isSome := by
  induction l with
  | nil => rfl
  | cons p l ih =>
    rw [look_cons, List.any_cons, ih]
    by_cases e : p.1 = k
    · simp [e]
    · simp [e]
theorem map_put_keys {α β : Type} {f : α → α} {l : List (List Int × α)} {k : List Int} {v : α} : (l.map fun p => if p.1 = k then (p.1, v) else p).map (·.1) = l.map (·.1) := by
  rw [List.map_map]
  refine List.map_congr_left fun p _ => ?_
  by_cases e : p.1 = k <;> simp [e]
theorem rel_put {C : Cc} {G : Hp} {xs : XT} {kvs : List (List Int × D)} (h : xs.map (·.1) = kvs.map (·.1)) (hv : DvL C G (xs.map (·.2.2)) (kvs.map (·.2))) (k : List Int) (b : Addr) {v : V} {d : D} (r : Dv C G v d) :
    (putX xs k b v).map (·.1) = (put kvs k d).map (·.1) ∧ DvL C G ((putX xs k b v).map (·.2.2)) ((put kvs k d).map (·.2)) := by
  have e : (lookX xs k).isSome = (look kvs k).isSome := by
    rcases rel_look h hv k with ⟨q, v, d, h1, h2, _⟩ | ⟨h1, h2⟩
    · rw [h1, h2]; rfl
    · rw [h1, h2]; rfl
  unfold putX put
  rw [any_look, e]
  split
  · clear e
    rename_i hh
    clear hh
    revert kvs
    induction xs with
    | nil =>
      intro kvs h hv
      cases kvs with
      | nil => exact ⟨rfl, .nil⟩
      | cons p l => cases h
    | cons x xs ih =>
      intro kvs h hv
      cases kvs with
      | nil => cases h
      | cons p l =>
        rw [List.map_cons, List.map_cons] at h
        injection h with h1 h2
        rw [List.map_cons, List.map_cons] at hv
        cases hv with
        | cons hv hl =>
          obtain ⟨i1, i2⟩ := ih h2 hl
          by_cases e : x.1 = k
          · have e2 : p.1 = k := h1 ▸ e
            constructor
            · rw [List.map_cons, List.map_cons, List.map_cons, List.map_cons, if_pos e, if_pos e2, i1]
              rw [e, e2]
            · rw [List.map_cons, List.map_cons, List.map_cons, List.map_cons, if_pos e, if_pos e2]
              exact .cons r i2
          · have e2 : ¬ p.1 = k := h1 ▸ e
            constructor
            · rw [List.map_cons, List.map_cons, List.map_cons, List.map_cons, if_neg e, if_neg e2, i1, h1]
            · rw [List.map_cons, List.map_cons, List.map_cons, List.map_cons, if_neg e, if_neg e2]
              exact .cons hv i2
  · constructor
    · rw [List.map_append, List.map_append, h]; rfl
    · rw [List.map_append, List.map_append]; exact hv.snoc r
/-! dicts with ints as keys -/
theorem relI_look {C : Cc} {G : Hp} : ∀ {l : List (Int × V)} {kvs : List (List Int × D)}, kvs.map (·.1) = l.map (fun p => [p.1]) → DvL C G (l.map (·.2)) (kvs.map (·.2)) → ∀ k : Int, (∃ v d, valV (l.map fun p => ((Sum.inl p.1 : Key), p.2)) (Sum.inl k) = some v ∧ look kvs [k] = some d ∧ Dv C G v d) ∨ (valV (l.map fun p => ((Sum.inl p.1 : Key), p.2)) (Sum.inl k) = none ∧ look kvs [k] = none)
  | [], [], _, _, _ => .inr ⟨rfl, rfl⟩
  | [], _ :: _, h, _, _ => by cases h
  | _ :: _, [], h, _, _ => by cases h
  | x :: xs, p :: kvs, h, hv, k => by
    rw [List.map_cons, List.map_cons] at h
    injection h with h1 h2
    rw [List.map_cons, List.map_cons] at hv
    cases hv with
    | cons hv hl =>
      rw [look_cons, List.map_cons, h1]
      by_cases e : x.1 = k
      · rw [if_pos (by rw [e]), valV_pos (by rw [e])]; exact .inl ⟨_, _, rfl, rfl, hv⟩
      · rw [if_neg (by intro z; injection z with z; exact e z), valV_neg (by intro z; injection z with z; exact e z)]
        exact relI_look h2 hl k
def putI (l : List (Int × V)) (k : Int) (v : V) : List (Int × V) := if (l.any fun p => decide (p.1 = k)) then l.map fun p => if p.1 = k then (p.1, v) else p else l ++ [(k, v)]
theorem inl_dec (a b : Int) : decide ((Sum.inl a : Key) = Sum.inl b) = decide (a = b) := by
  by_cases e : a = b
  · subst e; simp
  · rw [decide_eq_false e, decide_eq_false (by intro z; injection z with z; exact e z)]
theorem putI_eq (l : List (Int × V)) (k : Int) (v : V) : putK (l.map fun p => ((Sum.inl p.1 : Key), p.2)) (Sum.inl k) v = (putI l k v).map fun p => ((Sum.inl p.1 : Key), p.2) := by
  unfold putK putI
  have e : ((l.map fun p => ((Sum.inl p.1 : Key), p.2)).any fun kv => decide (kv.1 = Sum.inl k)) = l.any fun p => decide (p.1 = k) := by
    rw [List.any_map]
    congr 1
    funext p
    exact inl_dec _ _
  rw [e]
  split
  · rw [List.map_map, List.map_map]
    refine List.map_congr_left fun p _ => ?_
    show (if (Sum.inl p.1 : Key) = Sum.inl k then ((Sum.inl p.1 : Key), v) else (Sum.inl p.1, p.2)) = ((Sum.inl (if p.1 = k then (p.1, v) else p).1 : Key), (if p.1 = k then (p.1, v) else p).2)
    by_cases q : p.1 = k
    · rw [if_pos q, if_pos (by rw [q])]
    · rw [if_neg q, if_neg (by intro z; injection z with z; exact q z)]
  · rw [List.map_append]; rfl
theorem relI_put {C : Cc} {G : Hp} {l : List (Int × V)} {kvs : List (List Int × D)} (h : kvs.map (·.1) = l.map (fun p => [p.1])) (hv : DvL C G (l.map (·.2)) (kvs.map (·.2))) (k : Int) {v : V} {d : D} (r : Dv C G v d) :
    (put kvs [k] d).map (·.1) = (putI l k v).map (fun p => [p.1]) ∧ DvL C G ((putI l k v).map (·.2)) ((put kvs [k] d).map (·.2)) := by
  have e : (l.any fun p => decide (p.1 = k)) = (kvs.any fun p => decide (p.1 = [k])) := by
    clear hv
    revert kvs
    induction l with
    | nil =>
      intro kvs h
      cases kvs with
      | nil => rfl
      | cons p l => cases h
    | cons x xs ih =>
      intro kvs h
      cases kvs with
      | nil => cases h
      | cons p l =>
        rw [List.map_cons, List.map_cons] at h
        injection h with h1 h2
        rw [List.any_cons, List.any_cons, ih h2, h1]
        congr 1
        by_cases q : x.1 = k
        · simp [q]
        · rw [decide_eq_false q, decide_eq_false (by intro z; injection z with z; exact q z)]
  unfold putI put
  rw [e]
  split
  · clear e
    rename_i hh
    clear hh
    revert kvs
    induction l with
    | nil =>
      intro kvs h hv
      cases kvs with
      | nil => exact ⟨rfl, .nil⟩
      | cons p l => cases h
    | cons x xs ih =>
      intro kvs h hv
      cases kvs with
      | nil => cases h
      | cons p l =>
        rw [List.map_cons, List.map_cons] at h
        injection h with h1 h2
        rw [List.map_cons, List.map_cons] at hv
        cases hv with
        | cons hv hl =>
          obtain ⟨i1, i2⟩ := ih h2 hl
          by_cases e : x.1 = k
          · have e2 : p.1 = [k] := by rw [h1, e]
            constructor
            · rw [List.map_cons, List.map_cons, List.map_cons, List.map_cons, if_pos e, if_pos e2, i1]
              rw [h1]
            · rw [List.map_cons, List.map_cons, List.map_cons, List.map_cons, if_pos e, if_pos e2]
              exact .cons r i2
          · have e2 : ¬ p.1 = [k] := by rw [h1]; intro z; injection z with z; exact e z
            constructor
            · rw [List.map_cons, List.map_cons, List.map_cons, List.map_cons, if_neg e, if_neg e2, i1, h1]
            · rw [List.map_cons, List.map_cons, List.map_cons, List.map_cons, if_neg e, if_neg e2]
              exact .cons hv i2
  · constructor
    · rw [List.map_append, List.map_append, h]; rfl
    · rw [List.map_append, List.map_append]; exact hv.snoc r
theorem putI_len (l : List (Int × V)) (k : Int) (v : V) : (putI l k v).length ≤ l.length + 1 := by
  unfold putI
  split
  · rw [List.length_map]; omega
  · simp
end

/-! ### the rules, by the library's -/
/-- v at H is a dict with kvs -/
def DicAt (C : Cc) (κ : KK) (G H : Hp) (a : Addr) (kvs : List (List Int × D)) : Prop := ∃ u vs, Rd H a u ∧ DRep C κ G a u (kvs.map (·.1)) vs ∧ DvL C G vs (kvs.map (·.2))
section
variable {X : Cx} {pins : List (Addr × Obj)} {σ : L2.St} {G H : Hp} {s : Shared} {a : Addr} {κ : KK} {kvs : List (List Int × D)} {y : V} {d z : D} {j : List Int} {u r : Value} {A : Around} {E : Value → Shared → Prop}
theorem Dv.dicAt (w : Wd G H) {v : V} {d : D} (h : Dv (ccOf X) G v d) (e : dicD κ d = some kvs) : ∃ a, v = .ref a ∧ DicAt (ccOf X) κ G H a kvs := by
  obtain ⟨a, o, u, vs, rfl, ha, hr, hl⟩ := h.dic_ e
  refine ⟨a, rfl, u, vs, ?_, hr, hl⟩
  have := w.gh _ _ ha
  cases κ with
  | i => exact .inr ⟨o, this⟩
  | t => exact .inl this
  | e => exact .inl this
theorem rd_ext {o : Obj} (I : L2.Inv X pins σ H s) (h : Rd H a (eO a o)) : H a = some (eO a o) ∨ ∃ ob, H a = some (.frz ob (eO a o)) := h
theorem eo_rd {o : Obj} {xs : XT} (hκ : κ ≠ .i) (I : L2.Inv X pins σ H s) (h : Rd H a (eO a o)) (w : Wd G H) (d : DOb X.prog X.w o xs) (ht : ∀ x ∈ xs, kOk κ x.1 ∧ G x.2.1 = some (.tup (keyVs κ x.1))) :
    ∃ vs, XsV xs vs ∧ (a == sysModules) = false ∧ xs.length ≤ sizeLine ∧ s.heap.DictOfH (tupleKind (leafKind X.prog X.w)) a vs := by
  have ob : ObjOk X.prog X.w H s.heap a (eO a o) := h.ok I.hok
  obtain ⟨⟨g, hs⟩, _, _⟩ := ob
  obtain ⟨d1, d2, es, ep, vs, d3, d4, d5, d6⟩ := d
  refine ⟨vs, d6, hs, d2, o, es, ep, g, d1, d3, d4, ?_, d5⟩
  clear d4 d5 d3 d2 d1
  induction d6 with
  | nil => intro x hx; cases hx
  | @cons p q ps qs hq t ih =>
    intro x hx
    rcases List.mem_cons.mp hx with z | z
    · subst z
      obtain ⟨k1, k2⟩ := ht p List.mem_cons_self
      rw [hq.1, hq.2.1]
      exact key_at hκ I.hok k1 (w.gh _ _ k2)
    · exact ih (fun x hx => ht x (List.mem_cons_of_mem _ hx)) x z
/-- what a dict with tuple keys is -/
theorem drep_X (hκ : κ ≠ .i) {T : Hp} {u : HO} {ks : List (List Int)} {vs : List V} {C : Cc} (h : DRep C κ T a u ks vs) : ∃ (o : Obj) (xs : XT), u = eO a o ∧ DOb C.P C.w o xs ∧ (∀ x ∈ xs, kOk κ x.1 ∧ T x.2.1 = some (.tup (keyVs κ x.1))) ∧ ks = xs.map (·.1) ∧ vs = xs.map (·.2.2) := by
  cases κ with
  | i => exact absurd rfl hκ
  | t => exact h
  | e => exact h
theorem drep_mk (hκ : κ ≠ .i) {T : Hp} {C : Cc} {o : Obj} {xs : XT} (d : DOb C.P C.w o xs) (ht : ∀ x ∈ xs, kOk κ x.1 ∧ T x.2.1 = some (.tup (keyVs κ x.1))) : DRep C κ T a (eO a o) (xs.map (·.1)) (xs.map (·.2.2)) := by
  cases κ with
  | i => exact absurd rfl hκ
  | t => exact ⟨o, xs, rfl, d, ht, rfl, rfl⟩
  | e => exact ⟨o, xs, rfl, d, ht, rfl, rfl⟩
theorem room1 (hu : A.units + 1 < cLine) : (tupleKind (leafKind X.prog X.w)).room A.in1 := by
  show A.units + 1 < cLine
  exact hu
theorem dg_is (I : L2.Inv X pins σ H s) (w : Wd G H) (h : DicAt (ccOf X) κ G H a kvs) : s.TypeIs (.ref a) "dict" ∧ (∀ b, Value.ref a = .ref b → ∃ ob, s.heap.get? b = some ob ∧ ob.dict = none) ∧ (a == sysModules) = false := by
  obtain ⟨u, vs, hu, hr, hl⟩ := h
  by_cases hκ : κ = .i
  · subst hκ
    obtain ⟨l, rfl, _⟩ := hr
    exact isD_at I (.inl ⟨_, hu⟩)
  · obtain ⟨o, xs, rfl, hd, ht, _, _⟩ := drep_X hκ hr
    obtain ⟨vs, _, hs, _, dd⟩ := eo_rd hκ I hu w hd ht
    refine ⟨dd.typeIs, fun b q => ?_, hs⟩
    cases q
    obtain ⟨ob, _, _, h1, h2, _⟩ := dd
    exact ⟨ob, h1, h2.2.1⟩
/-- d[k] -/
theorem dg_get {Q : Value → Shared → Prop} (hu : A.units + 1 < cLine) (I : L2.Inv X pins σ H s) (w : Wd G H) (h : DicAt (ccOf X) κ G H a kvs) (hy : Dv (ccOf X) G y d) (ej : toKey κ d = some j) (l : look kvs j = some z) (ry : RelV y u)
    (q : ∀ v w' s', L2.Inv X pins σ H s' → RelV v w' → Dv (ccOf X) G v z → Q w' s') : wpAny (model X.prog X.w) A (getItem (.ref a) u) Q E s := by
  obtain ⟨uo, vs, hU, hr, hl⟩ := h
  by_cases hκ : κ = .i
  · subst hκ
    obtain ⟨m, rfl, e1, rfl⟩ := hr
    obtain ⟨k, rfl, rfl⟩ := hy.keyI_ ej
    rcases relI_look e1 hl k with ⟨v, d', h1, h2, h3⟩ | ⟨_, h2⟩
    · rw [l] at h2; cases h2
      exact d_getItem hu I (.inl ⟨_, Sum.inl k, hU, rfl, h1.symm⟩) ry fun w' s' I' r' => q v w' s' I' r' h3
    · rw [l] at h2; cases h2
  · obtain ⟨o, xs, rfl, hd, ht, e1, rfl⟩ := drep_X hκ hr
    obtain ⟨b, rfl, hk, hb⟩ := hy.key_ ej hκ
    obtain ⟨us, hx, hs, hz, dd⟩ := eo_rd hκ I hU w hd ht
    cases (show u = Value.ref b from ry)
    rcases rel_look e1.symm hl j with ⟨q1, v, d', h1, h2, h3⟩ | ⟨_, h2⟩
    · rw [l] at h2; cases h2
      rcases xsv_at hx j with ⟨q2, v2, u2, g1, g2, g3⟩ | ⟨g1, _⟩
      · rw [h1] at g1; cases g1
        exact wpAny_getItem_heap (room1 hu) (key_at hκ I.hok hk (w.gh _ _ hb)) dd g2 (q v u2 _ (I.tok _) g3 h3)
      · rw [h1] at g1; cases g1
    · rw [l] at h2; cases h2
theorem dg_in {Q : Value → Shared → Prop} (hu : A.units + 1 < cLine) (I : L2.Inv X pins σ H s) (w : Wd G H) (h : DicAt (ccOf X) κ G H a kvs) (hy : Dv (ccOf X) G y d) (ej : toKey κ d = some j) (ry : RelV y u)
    (q : ∀ s', L2.Inv X pins σ H s' → Q (.bool (look kvs j).isSome) s') : wpAny (model X.prog X.w) A (compareOp .In u (.ref a)) Q E s := by
  obtain ⟨uo, vs, hU, hr, hl⟩ := h
  by_cases hκ : κ = .i
  · subst hκ
    obtain ⟨m, rfl, e1, rfl⟩ := hr
    obtain ⟨k, rfl, rfl⟩ := hy.keyI_ ej
    refine d_in hu I (.inl ⟨_, Sum.inl k, hU, rfl, rfl⟩) ry fun s' I' => ?_
    rcases relI_look e1 hl k with ⟨v, d', h1, h2, h3⟩ | ⟨h1, h2⟩
    · rw [h1]; rw [h2] at q; exact q s' I'
    · rw [h1]; rw [h2] at q; exact q s' I'
  · obtain ⟨o, xs, rfl, hd, ht, e1, rfl⟩ := drep_X hκ hr
    obtain ⟨b, rfl, hk, hb⟩ := hy.key_ ej hκ
    obtain ⟨us, hx, hs, hz, dd⟩ := eo_rd hκ I hU w hd ht
    cases (show u = Value.ref b from ry)
    refine wpAny_in_heap (room1 hu) (key_at hκ I.hok hk (w.gh _ _ hb)) hs dd ?_
    have e : (atKey us (j.map Leaf.num)).isSome = (look kvs j).isSome := by
      rcases rel_look e1.symm hl j with ⟨q1, v, d', h1, h2, h3⟩ | ⟨h1, h2⟩
      · rcases xsv_at hx j with ⟨q2, v2, u2, g1, g2, g3⟩ | ⟨g1, _⟩
        · rw [g2, h2]; rfl
        · rw [h1] at g1; cases g1
      · rcases xsv_at hx j with ⟨q2, v2, u2, g1, g2, g3⟩ | ⟨g1, g2⟩
        · rw [h1] at g1; cases g1
        · rw [g2, h2]; rfl
    rw [e]
    exact q _ (I.tok _)
theorem dg_notIn {Q : Value → Shared → Prop} (hu : A.units + 1 < cLine) (I : L2.Inv X pins σ H s) (w : Wd G H) (h : DicAt (ccOf X) κ G H a kvs) (hy : Dv (ccOf X) G y d) (ej : toKey κ d = some j) (ry : RelV y u)
    (q : ∀ s', L2.Inv X pins σ H s' → Q (.bool (!(look kvs j).isSome)) s') : wpAny (model X.prog X.w) A (compareOp .NotIn u (.ref a)) Q E s := by
  obtain ⟨uo, vs, hU, hr, hl⟩ := h
  by_cases hκ : κ = .i
  · subst hκ
    obtain ⟨m, rfl, e1, rfl⟩ := hr
    obtain ⟨k, rfl, rfl⟩ := hy.keyI_ ej
    refine d_notIn hu I (.inl ⟨_, Sum.inl k, hU, rfl, rfl⟩) ry fun s' I' => ?_
    rcases relI_look e1 hl k with ⟨v, d', h1, h2, h3⟩ | ⟨h1, h2⟩
    · rw [h1]; rw [h2] at q; exact q s' I'
    · rw [h1]; rw [h2] at q; exact q s' I'
  · obtain ⟨o, xs, rfl, hd, ht, e1, rfl⟩ := drep_X hκ hr
    obtain ⟨b, rfl, hk, hb⟩ := hy.key_ ej hκ
    obtain ⟨us, hx, hs, hz, dd⟩ := eo_rd hκ I hU w hd ht
    cases (show u = Value.ref b from ry)
    refine wpAny_notIn_heap (room1 hu) (key_at hκ I.hok hk (w.gh _ _ hb)) hs dd ?_
    have e : (atKey us (j.map Leaf.num)).isSome = (look kvs j).isSome := by
      rcases rel_look e1.symm hl j with ⟨q1, v, d', h1, h2, h3⟩ | ⟨h1, h2⟩
      · rcases xsv_at hx j with ⟨q2, v2, u2, g1, g2, g3⟩ | ⟨g1, _⟩
        · rw [g2, h2]; rfl
        · rw [h1] at g1; cases g1
      · rcases xsv_at hx j with ⟨q2, v2, u2, g1, g2, g3⟩ | ⟨g1, g2⟩
        · rw [h1] at g1; cases g1
        · rw [g2, h2]; rfl
    rw [e]
    exact q _ (I.tok _)
/-- d.get(k, x) -/
theorem dg_get2 {Q : Value → Shared → Prop} (hκ : κ ≠ .i) (hu : A.units + 1 < cLine) (I : L2.Inv X pins σ H s) (w : Wd G H) (h : DicAt (ccOf X) κ G H a kvs) (hy : Dv (ccOf X) G y d) (ej : toKey κ d = some j) (ry : RelV y u)
    (q1 : ∀ z v w' s', look kvs j = some z → L2.Inv X pins σ H s' → RelV v w' → Dv (ccOf X) G v z → Q w' s') (q2 : ∀ s', look kvs j = none → L2.Inv X pins σ H s' → Q r s') : wpAny (model X.prog X.w) A (call (.builtin "dict.get") [.ref a, u, r]) Q E s := by
  obtain ⟨uo, vs, hU, hr, hl⟩ := h
  obtain ⟨o, xs, rfl, hd, ht, e1, rfl⟩ := drep_X hκ hr
  obtain ⟨b, rfl, hk, hb⟩ := hy.key_ ej hκ
  obtain ⟨us, hx, hs, hz, dd⟩ := eo_rd hκ I hU w hd ht
  cases (show u = Value.ref b from ry)
  refine call_meetsIn PySem.F.slot_dict_get dd.typeIs PySem.F.entry_dict_get (PySem.F.args_dict_get_3 _ _ _) (meetsH_dict_get_default (tupleKind (leafKind X.prog X.w)) a b hs r) ⟨room1 hu, j.map Leaf.num, us, key_at hκ I.hok hk (w.gh _ _ hb), dd, ?_⟩
  rcases rel_look e1.symm hl j with ⟨q, v, d', h1, h2, h3⟩ | ⟨h1, h2⟩
  · rcases xsv_at hx j with ⟨q', v2, u2, g1, g2, g3⟩ | ⟨g1, _⟩
    · rw [h1] at g1; cases g1
      rw [g2]
      exact q1 d' v u2 _ h2 (I.tok _) g3 h3
    · rw [h1] at g1; cases g1
  · rcases xsv_at hx j with ⟨q', v2, u2, g1, g2, g3⟩ | ⟨g1, g2⟩
    · rw [h1] at g1; cases g1
    · rw [g2]
      exact q2 _ h2 (I.tok _)
theorem eo_ok {h' : Heap} {o : Obj} {H' : Hp} (g : h'.get? a = some o) (hs : (a == sysModules) = false) : ObjOk X.prog X.w H' h' a (eO a o) :=
  ⟨⟨g, hs⟩, ⟨o, g⟩, fun h1 h2 ⟨g1, s1⟩ k => ⟨k o g1, s1⟩⟩
/-- d[k] = v -/
theorem dg_set {uo : HO} {vs : List V} {v : V} {Q : Unit → Shared → Prop} (hu : A.units + 1 < cLine) (I : L2.Inv X pins σ H s) (w : Wd G H) (hU : H a = some uo) (hr : DRep (ccOf X) κ G a uo (kvs.map (·.1)) vs) (hl : DvL (ccOf X) G vs (kvs.map (·.2)))
    (hy : Dv (ccOf X) G y d) (ej : toKey κ d = some j) (ry : RelV y u) (hv : Dv (ccOf X) G v z) (rv : RelV v r) (hlim : kvs.length < lim)
    (q : ∀ s' u' vs', L2.Inv X pins σ (upd H a u') s' → DRep (ccOf X) κ G a u' ((put kvs j z).map (·.1)) vs' → DvL (ccOf X) G vs' ((put kvs j z).map (·.2)) → Q () s') : wpAny (model X.prog X.w) A (setItem (.ref a) u r) Q E s := by
  have hk : kvs.length < sizeLine := lim_lt hlim
  by_cases hκ : κ = .i
  · subst hκ
    obtain ⟨m, rfl, e1, rfl⟩ := hr
    obtain ⟨k, rfl, rfl⟩ := hy.keyI_ ej
    have hlen : m.length = kvs.length := by
      have := congrArg List.length e1
      simpa using this.symm
    refine d_setItem hu I (DPut.k (k := Sum.inl k) hU (by simpa using hlen ▸ hk)) ry rv fun s' I' => ?_
    obtain ⟨r1, r2⟩ := relI_put e1 hl k hv
    rw [putI_eq] at I'
    exact q s' _ _ I' ⟨putI m k v, rfl, r1, rfl⟩ r2
  · obtain ⟨o, xs, rfl, hd, ht, e1, rfl⟩ := drep_X hκ hr
    obtain ⟨b, rfl, hkk, hb⟩ := hy.key_ ej hκ
    obtain ⟨us, hx, hs, hz, dd⟩ := eo_rd hκ I (.inl hU) w hd ht
    cases (show u = Value.ref b from ry)
    have hlen : xs.length = kvs.length := by
      have := congrArg List.length e1
      simpa using this.symm
    have hzu : us.length ≤ sizeLine := by rw [← Paired.length hx]; exact hz
    refine wpAny_setItem_heap (hsz := hzu) (room1 hu) (key_at hκ I.hok hkk (w.gh _ _ hb)) dd fun h' dd' hsb => ?_
    have hx' := xsv_put hx j b rv
    obtain ⟨o', g', d'⟩ := dob_of dd' hx' (by have := putX_len xs j b v; omega)
    obtain ⟨r1, r2⟩ := rel_put e1.symm hl j b hv
    have ht' : ∀ x ∈ putX xs j b v, kOk κ x.1 ∧ G x.2.1 = some (.tup (keyVs κ x.1)) := by
      intro x hx
      unfold putX at hx
      split at hx
      · obtain ⟨y, hy, rfl⟩ := List.mem_map.mp hx
        have := ht y hy
        by_cases e : y.1 = j
        · rw [if_pos e]; exact this
        · rw [if_neg e]; exact this
      · rcases List.mem_append.mp hx with z | z
        · exact ht x z
        · have e : x = (j, b, v) := by simpa using z
          subst e
          exact ⟨hkk, hb⟩
    refine q _ (eO a o') _ (d_write I (by rw [hU]; exact True.intro) hsb ⟨o', g'⟩ (eo_ok g' hs)) ?_ r2
    rw [← r1]
    exact drep_mk hκ d' ht'
end
end DL
end

section
set_option Elab.async false
set_option linter.all false
set_option maxRecDepth 100000
set_option maxHeartbeats 2000000
/-! D1h: dicts in expressions and statements. -/
namespace DL
open PySem PySem.Spec PyProof.Rows L2

section
variable {X : Cx} {st : Stmt} {sts : List Stmt} {F F2 : ST} {e o i a b value tg iter : Expr} {es : List Expr} {f g fj : EX} {fs : EXs} {it : EXs} {pos pos' apos cpos : Pos} {x : Str} {p : Pl} {κ : KK}
  {pins : List (Addr × Obj)} {σ : L2.St} {rs G H : Hp} {r : Env} {s : Shared} {d : D}
/-- a run of a data expression, of a place -/
theorem FEgo (he : FE X e f) (I : L2.Inv X pins σ H s) (hs : Has (ccOf X) rs G H σ r) (e1 : f r = some d) : wpAny (model X.prog X.w) X.A (eval e X.env) (EP X pins σ fun v H' => ∃ G', Stp G H G' H' ∧ Dv (ccOf X) G' v d) X.xe s :=
  he.run pins s σ H _ I ⟨rs, G, r, d, hs, e1, fun v G' H' s h => ⟨G', s, h⟩⟩
theorem FPgo (ho : FP X o p) (I : L2.Inv X pins σ H s) (hs : Has (ccOf X) rs G H σ r) {c : C1} (e1 : getP r p = some c) : wpAny (model X.prog X.w) X.A (eval o X.env) (EP X pins σ fun v H' => H' = H ∧ PlV (ccOf X) H σ p v) X.xe s :=
  ho.run pins s σ H _ I ⟨rs, G, r, c, hs, e1, fun v h => ⟨rfl, h⟩⟩
theorem c1D_ {C : Cc} {v : V} {c : C1} {kvs : List (List Int × D)} {fp : List Addr} (h : C1At C G H v c fp) (e : c1D κ c = some kvs) : ∃ a u vs, v = .ref a ∧ fp = [a] ∧ H a = some u ∧ DRep C κ G a u (kvs.map (·.1)) vs ∧ DvL C G vs (kvs.map (·.2)) := by
  cases c <;> first | (cases e; done) | skip
  simp only [c1D, Option.ite_none_right_eq_some, Option.some.injEq] at e
  obtain ⟨rfl, rfl⟩ := e
  exact h
theorem Has.plD {C : Cc} {kvs : List (List Int × D)} (h : Has C rs G H σ r) (e : (getP r p).bind (c1D κ) = some kvs) : ∃ a u vs, PlV C H σ p (.ref a) ∧ (∀ v', PlV C H σ p v' → v' = .ref a) ∧ H a = some u ∧ G a = none ∧ DRep C κ G a u (kvs.map (·.1)) vs ∧ DvL C G vs (kvs.map (·.2)) ∧
    ∀ u' vs' kvs', DRep C κ G a u' (kvs'.map (·.1)) vs' → DvL C G vs' (kvs'.map (·.2)) → Has C rs G (upd H a u') σ (setP r (.dic κ kvs') p) := by
  obtain ⟨c, e1, e2⟩ := Option.bind_eq_some_iff.mp e
  obtain ⟨v, q, hv, hu, hc, hq, k⟩ := h.pl e1
  obtain ⟨a, u, vs, rfl, rfl, ha, hr, hl⟩ := c1D_ hc e2
  obtain ⟨ga, _, _⟩ := hq a (by simp)
  refine ⟨a, u, vs, hv, hu, ha, ga, hr, hl, fun u' vs' kvs' hr' hl' => ?_⟩
  have w : Wd G (upd H a u') := ⟨fun b o eb => by
      rw [upd_ne (fun z => by rw [z, ga] at eb; cases eb)]
      exact h.wd.gh b o eb, fun b xs eb => by
      by_cases z : b = a
      · subst z; rw [upd_same] at eb; cases eb; exact absurd rfl ((drep_nt hr').1 xs)
      · rw [upd_ne z] at eb; exact h.wd.tg b xs eb⟩
  refine k G _ (.dic κ kvs') [a] w (.refl _) (fun b o eb hb => ?_) (fun b o eb => .inl eb) ⟨a, u', vs', rfl, rfl, upd_same, hr', hl'⟩ fun b hb => ?_
  · rw [upd_ne (by simpa using hb)]; exact eb
  · have e' : b = a := by simpa using hb
    subst e'
    exact ⟨.inl (by simp), ga, _, upd_same⟩
/-! ### k in d -/
theorem fo_inK (hu : X.A.units + 1 < cLine) : OpR X (compareOp .In) (r2C (ccOf X) (oIn κ false)) := by
  intro pins s σ H x y v u Q I rx ry ⟨G, d, e, z, w, hx, hy, ev, k⟩
  obtain ⟨kvs, e1, ev⟩ := Option.bind_eq_some_iff.mp ev
  obtain ⟨j, e2, ev⟩ := Option.bind_eq_some_iff.mp ev
  cases ev
  obtain ⟨a, rfl, hd⟩ := hy.dicAt w e1
  cases (show u = Value.ref a from ry)
  exact dg_in hu I w hd hx e2 rx fun s' I' => ⟨.bl _, H, I', rfl, k (.bl _) G H w.refl (.bl _)⟩
theorem fo_notInK (hu : X.A.units + 1 < cLine) : OpR X (compareOp .NotIn) (r2C (ccOf X) (oIn κ true)) := by
  intro pins s σ H x y v u Q I rx ry ⟨G, d, e, z, w, hx, hy, ev, k⟩
  obtain ⟨kvs, e1, ev⟩ := Option.bind_eq_some_iff.mp ev
  obtain ⟨j, e2, ev⟩ := Option.bind_eq_some_iff.mp ev
  cases ev
  obtain ⟨a, rfl, hd⟩ := hy.dicAt w e1
  cases (show u = Value.ref a from ry)
  exact dg_notIn hu I w hd hx e2 rx fun s' I' => ⟨.bl _, H, I', rfl, k (.bl _) G H w.refl (.bl _)⟩
/-- e in p -/
theorem pc_pinK (hu : X.A.units + 1 < cLine) (he : FE X e f) (ho : FP X o p) : PC X .In e o (tF (ccOf X) (pIn κ false f p)) := ⟨fun pins s σ H Q I ⟨rs, G, r, z, hs, ev, q⟩ => by
  obtain ⟨kvs, e1, ev⟩ := Option.bind_eq_some_iff.mp ev
  obtain ⟨j, e2, ev⟩ := Option.bind_eq_some_iff.mp ev
  obtain ⟨dj, e3, e4⟩ := Option.bind_eq_some_iff.mp e2
  obtain ⟨c, e5, e6⟩ := Option.bind_eq_some_iff.mp e1
  cases ev
  refine thn (FEgo he I hs e3) fun iv s1 ⟨y, H1, I1, ry, G1, s1', hy⟩ => thn (FPgo ho I1 (hs.step s1') e5) fun u s2 ⟨x, H2, I2, rx, e7, hv⟩ => ?_
  subst e7
  obtain ⟨a, uo, vs, _, hu2, ha, _, hr, hl, _⟩ := (hs.step s1').plD e1
  cases hu2 _ hv
  cases (show u = Value.ref a from rx)
  exact dg_in hu I2 s1'.wd ⟨uo, vs, .inl ha, hr, hl⟩ hy e4 ry fun s3 I3 => ⟨.bl _, H2, I3, rfl, q (.bl _) G1 H2 s1' (.bl _)⟩⟩
theorem pc_pnotInK (hu : X.A.units + 1 < cLine) (he : FE X e f) (ho : FP X o p) : PC X .NotIn e o (tF (ccOf X) (pIn κ true f p)) := ⟨fun pins s σ H Q I ⟨rs, G, r, z, hs, ev, q⟩ => by
  obtain ⟨kvs, e1, ev⟩ := Option.bind_eq_some_iff.mp ev
  obtain ⟨j, e2, ev⟩ := Option.bind_eq_some_iff.mp ev
  obtain ⟨dj, e3, e4⟩ := Option.bind_eq_some_iff.mp e2
  obtain ⟨c, e5, e6⟩ := Option.bind_eq_some_iff.mp e1
  cases ev
  refine thn (FEgo he I hs e3) fun iv s1 ⟨y, H1, I1, ry, G1, s1', hy⟩ => thn (FPgo ho I1 (hs.step s1') e5) fun u s2 ⟨x, H2, I2, rx, e7, hv⟩ => ?_
  subst e7
  obtain ⟨a, uo, vs, _, hu2, ha, _, hr, hl, _⟩ := (hs.step s1').plD e1
  cases hu2 _ hv
  cases (show u = Value.ref a from rx)
  exact dg_notIn hu I2 s1'.wd ⟨uo, vs, .inl ha, hr, hl⟩ hy e4 ry fun s3 I3 => ⟨.bl _, H2, I3, rfl, q (.bl _) G1 H2 s1' (.bl _)⟩⟩
theorem fe_pinK (hu : X.A.units + 1 < cLine) (he : FE X e f) (ho : FP X o p) (h1 : behindInMarks .In o = false := by rfl) : FE X (.Compare e [.In] [o] pos) (pIn κ false f p) := pe_cmp (pc_pinK hu he ho) h1
theorem fe_pnotInK (hu : X.A.units + 1 < cLine) (he : FE X e f) (ho : FP X o p) (h1 : behindInMarks .NotIn o = false := by rfl) : FE X (.Compare e [.NotIn] [o] pos) (pIn κ true f p) := pe_cmp (pc_pnotInK hu he ho) h1
theorem ft_pinK (hu : X.A.units + 1 < cLine) (he : FE X e f) (ho : FP X o p) (h1 : behindInMarks .In o = false := by rfl) : FT X (.Compare e [.In] [o] pos) (pIn κ false f p) := PTimp (pt_cmp (pc_pinK hu he ho) h1) fun σ H Q h => tft_tf h
theorem ft_pnotInK (hu : X.A.units + 1 < cLine) (he : FE X e f) (ho : FP X o p) (h1 : behindInMarks .NotIn o = false := by rfl) : FT X (.Compare e [.NotIn] [o] pos) (pIn κ true f p) := PTimp (pt_cmp (pc_pnotInK hu he ho) h1) fun σ H Q h => tft_tf h
/-! ### d[k] -/
theorem fe_getK (hu : X.A.units + 1 < cLine) (ha : FE X a f) (hb : FE X b g) (hn : NoSl b := by exact fun _ _ => rfl) : FE X (.Subscript a b pos) (e2 (oGet κ) f g) := ⟨fun pins s σ H Q I ⟨rs, G, r, z, hs, ev, q⟩ => by
  unfold DL.e2 oGet at ev
  obtain ⟨d1, e1, ev⟩ := Option.bind_eq_some_iff.mp ev
  obtain ⟨d2, e2, ev⟩ := Option.bind_eq_some_iff.mp ev
  obtain ⟨kvs, e3, ev⟩ := Option.bind_eq_some_iff.mp ev
  obtain ⟨j, e4, ev⟩ := Option.bind_eq_some_iff.mp ev
  refine subD_of PySem.F.slot_dict_getitem.lookup hn (thn (FEgo ha I hs e1) fun u s1 ⟨x, H1, I1, rx, G1, st1, hx⟩ => thn (FEgo hb I1 (hs.step st1) e2) fun iv s2 ⟨y, H2, I2, ry, G2, st2, hy⟩ => ?_)
  obtain ⟨a, rfl, hd⟩ := (hx.mono st2.g).dicAt st2.wd e3
  cases (show u = Value.ref a from rx)
  exact ⟨(dg_is I2 st2.wd hd).1, dg_get hu I2 st2.wd hd hy e4 ev ry fun v w' s' I' rv hv => ⟨v, H2, I', rv, q v G2 H2 (st1.trans st2) hv⟩⟩⟩
theorem fe_pgetK (hu : X.A.units + 1 < cLine) (ho : FP X o p) (hb : FE X b g) (hn : NoSl b := by exact fun _ _ => rfl) : FE X (.Subscript o b pos) (pGet κ p g) := ⟨fun pins s σ H Q I ⟨rs, G, r, z, hs, ev, q⟩ => by
  obtain ⟨kvs, e1, ev⟩ := Option.bind_eq_some_iff.mp ev
  obtain ⟨j, e2, ev⟩ := Option.bind_eq_some_iff.mp ev
  obtain ⟨dj, e3, e4⟩ := Option.bind_eq_some_iff.mp e2
  obtain ⟨c, e5, e6⟩ := Option.bind_eq_some_iff.mp e1
  refine subD_of PySem.F.slot_dict_getitem.lookup hn (thn (FPgo ho I hs e5) fun u s1 ⟨x, H1, I1, rx, e7, hv⟩ => ?_)
  subst e7
  obtain ⟨a, uo, vs, _, hu2, ha, _, hr, hl, _⟩ := hs.plD e1
  cases hu2 _ hv
  cases (show u = Value.ref a from rx)
  refine thn (FEgo hb I1 hs e3) fun iv s2 ⟨y, H2, I2, ry, G2, st2, hy⟩ => ?_
  have hd : DicAt (ccOf X) κ G2 H2 a kvs := ⟨uo, vs, .inl (st2.h _ _ ha), hr.mono fun q ys e => st2.g _ _ e, hl.mono st2.g⟩
  exact ⟨(dg_is I2 st2.wd hd).1, dg_get hu I2 st2.wd hd hy e4 ev ry fun v w' s' I' rv hv => ⟨v, H2, I', rv, q v G2 H2 st2 hv⟩⟩⟩
/-- d.get(k, []) -/
theorem fe_getL {pl : Pos} (hu : X.A.units + 1 < cLine) (ha : FE X o f) (hb : FE X e g) (base : attributeBase o "get" X.env (eval o X.env) = eval o X.env := by rfl)
    (few : ((backTo cpos (starEach [e, .List [] pl] X.env)).all (fun x => !x.1) && (backToKw cpos (keywordEach [] X.env)).all (fun x => x.1.isSome)
      && decide (([e, .List [] pl] : List Expr).length + ([] : List Keyword).length + (if ([] : List Keyword).isEmpty then 0 else 1) < 30)) = true := by rfl)
    (line : (apos.endLine == cpos.line) = true := by rfl) (trees : backTo cpos (starEach [e, .List [] pl] X.env) = [(false, eval e X.env), (false, eval (.List [] pl) X.env)] := by rfl) : FE X (.Call (.Attribute o "get" apos) [e, .List [] pl] [] cpos) (e2 oGetL f g) := ⟨fun pins s σ H Q I ⟨rs, G, r, z, hs, ev, q⟩ => by
  unfold DL.e2 oGetL at ev
  obtain ⟨d1, e1, ev⟩ := Option.bind_eq_some_iff.mp ev
  obtain ⟨d2, e2, ev⟩ := Option.bind_eq_some_iff.mp ev
  obtain ⟨kvs, e3, ev⟩ := Option.bind_eq_some_iff.mp ev
  obtain ⟨j, e4, ev⟩ := Option.bind_eq_some_iff.mp ev
  cases ev
  refine wpAny_Call_method base few line PySem.F.plainAttrs_dict PySem.F.slot_dict_get PySem.F.type_dict_get (thn (FEgo ha I hs e1) fun u s1 ⟨x, H1, I1, rx, G1, st1, hx⟩ => ?_)
  obtain ⟨a, rfl, hd⟩ := hx.dicAt st1.wd e3
  cases (show u = Value.ref a from rx)
  obtain ⟨t1, t2, _⟩ := dg_is I1 st1.wd hd
  refine ⟨t1, t2, ?_⟩
  rw [trees]
  refine Calls.callWith_builtin rfl (Calls.evalArgs_plain (Calls.spliced_cons (thn (FEgo hb I1 (hs.step st1) e2) fun iv s2 ⟨y, H2, I2, ry, G2, st2, hy⟩ =>
    Calls.spliced_cons (thn (FEgo (fe_lst fa_nil (pos := pl)) I2 ((hs.step st1).step st2) (d := .lst []) rfl) fun fv s3 ⟨z, H3, I3, rz, G3, st3, hz⟩ => Calls.spliced_nil ?_))))
  obtain ⟨a', e5, hd3⟩ := (hx.mono (st2.g.trans st3.g)).dicAt st3.wd e3
  cases e5
  refine dg_get2 (κ := .t) (fun z => by cases z) hu I3 st3.wd hd3 (hy.mono st3.g) e4 ry (fun z' v w' s' l I' rv hv => ?_) fun s' l I' => ?_
  · rw [l] at q
    exact ⟨v, H3, I', rv, q v G3 H3 ((st1.trans st2).trans st3) hv⟩
  · rw [l] at q
    exact ⟨z, H3, I', rz, q z G3 H3 ((st1.trans st2).trans st3) hz⟩⟩
/-! ### a new dict of one's own -/
theorem dob_nil {P : Program} {w : World} : DOb P w { cls := .type "dict", data := .dict #[] } [] := ⟨⟨rfl, rfl, rfl⟩, Nat.zero_le _, #[], 0, [], rfl, rfl, List.nodup_nil, .nil⟩
def tNewX : TE := fun _ H Q => ∀ p, H p = none → Q (.ref p) (upd H p (eO p { cls := .type "dict", data := .dict #[] }))
theorem pe_dnewX : PE X (.Dict [] [] pos) tNewX := ⟨fun pins s σ H Q I h =>
  wpAny_Dict_empty ⟨.ref s.heap.objs.size, _, I.laid (a := s.heap.objs.size) (o := eO s.heap.objs.size { cls := .type "dict", data := .dict #[] }) (t' := s.toks) (fun _ _ q => Heap.get?_push_of_some _ q) (Nat.le_refl _)
    (eo_ok (Heap.get?_push_size _ rfl) (beq_eq_false_iff_ne.mpr (Ne.symm (Nat.ne_of_lt I.big)))), rfl, h _ (I.hok.fresh (Nat.le_refl _))⟩⟩
theorem HasF.newO {C : Cc} {fp : Nat → List Addr} (h : HasF C rs G H σ r fp) {k : Nat} {a : Addr} {u : HO} {c : C1} (ha : H a = none) (nt : ∀ xs, u ≠ .tup xs) (hc : C1At C G (upd H a u) (.ref a) c [a]) : Has C rs G (upd H a u) (σ.set k (some (.ref a))) (r.set k (some (.own c))) := by
  have s2 := h.wd.newH (o := u) ha nt
  refine ⟨_, (h.step s2).put (x := .own c) (v := .ref a) (q := [a]) hc (fun b hb => ?_) fun j b _ hb => ?_⟩
  · have e' : b = a := by simpa using hb
    subst e'
    exact ⟨ex_none h.wd.gh ha, ex_none h.rh ha, _, upd_same⟩
  · have e' : b = a := by simpa using hb
    subst e'
    intro z
    obtain ⟨_, _, o, ho⟩ := h.fr j b z
    rw [ha] at ho; cases ho
theorem fs_newDI (k : Nat) {pd : Pos} (hN : X.N.Nodup) (hi : X.N[k]? = some x := by rfl) (hx : Loc X.env.scope x := by first | exact .inl rfl | exact .inr rfl) (hs : swapsWith (.Dict [] [] pd) (some (.Name x pos')) pos.line X.env = pure false := by rfl)
    (hf : X.fn x = true ∨ X.env.scope.names.lookup x = some .local := by first | exact .inl rfl | exact .inr rfl | assumption) : FS X (.Assign [.Name x pos'] (.Dict [] [] pd) pos) (sOwn k (cNewD .i)) :=
  PSimp (ps_set (i := k) hN hi hx pe_dnewK hs hf) fun D σ H ⟨rs, G, r, hs, q⟩ => by
    obtain ⟨c, e1, q⟩ := sBind_ok q
    cases e1
    intro a ha
    obtain ⟨fp, hf⟩ := hs
    exact q _ G _ (hf.newO (c := .dic .i []) ha (fun xs z => nomatch z) ⟨a, _, [], rfl, rfl, upd_same, ⟨[], rfl, rfl, rfl⟩, .nil⟩) (.refl _)
theorem fs_newDT (κ : KK) (k : Nat) {pd : Pos} (hN : X.N.Nodup) (hκ : κ ≠ .i := by decide) (hi : X.N[k]? = some x := by rfl) (hx : Loc X.env.scope x := by first | exact .inl rfl | exact .inr rfl) (hs : swapsWith (.Dict [] [] pd) (some (.Name x pos')) pos.line X.env = pure false := by rfl)
    (hf : X.fn x = true ∨ X.env.scope.names.lookup x = some .local := by first | exact .inl rfl | exact .inr rfl | assumption) : FS X (.Assign [.Name x pos'] (.Dict [] [] pd) pos) (sOwn k (cNewD κ)) :=
  PSimp (ps_set (i := k) hN hi hx pe_dnewX hs hf) fun D σ H ⟨rs, G, r, hs, q⟩ => by
    obtain ⟨c, e1, q⟩ := sBind_ok q
    cases e1
    intro a ha
    obtain ⟨fp, hf⟩ := hs
    exact q _ G _ (hf.newO (c := .dic κ []) ha (fun xs z => nomatch z) ⟨a, _, [], rfl, rfl, upd_same, drep_mk (xs := []) hκ dob_nil (fun x hx => by cases hx), .nil⟩) (.refl _)
/-! ### p[k] = e -/
theorem fs_putK (hu : X.A.units + 1 < cLine) (ho : FP X o p) (hi : FE X i fj) (hv : FE X value f) (hs : swapsWith value (some (.Subscript o i pos')) pos.line X.env = pure false := by rfl) :
    FS X (.Assign [.Subscript o i pos'] value pos) (sPut κ p fj f) := ⟨fun pins s σ H D I ⟨rs, G, r, hs', q⟩ => by
  obtain ⟨kvs, e1, q⟩ := sBind_ok q
  obtain ⟨d, e2, q⟩ := sBind_ok q
  obtain ⟨j, e3, q⟩ := sBind_ok q
  obtain ⟨dj, e5, e6⟩ := Option.bind_eq_some_iff.mp e3
  obtain ⟨c, e7, e8⟩ := Option.bind_eq_some_iff.mp e1
  by_cases hl : kvs.length < lim
  · rw [if_pos hl] at q
    refine wpAny_Assign_Subscript (thn (FEgo hv I hs' e2) fun rr s1 ⟨v, H1, I1, rv, G1, st1, hv1⟩ => thn (FPgo ho I1 (hs'.step st1) e7) fun u s2 ⟨x, H2, I2, rx, e9, hpl⟩ => thn (FEgo hi I2 (e9 ▸ hs'.step st1) e5) fun iv s3 ⟨y, H3, I3, ry, G3, st3, hy⟩ => ?_) hs
    subst e9
    have hs3 := (hs'.step st1).step st3
    obtain ⟨a, uo, vs, _, hu2, ha, _, hr, hll, k⟩ := hs3.plD e1
    cases hu2 _ (hpl.ex st3.h)
    cases (show u = Value.ref a from rx)
    exact dg_set hu I3 st3.wd ha hr hll hy e6 ry (hv1.mono st3.g) rv hl fun s4 u' vs' I4 hr' hl' => ⟨σ, _, I4, q σ G3 _ (k u' vs' _ hr' hl') (st1.g.trans st3.g)⟩
  · rw [if_neg hl] at q
    exact q.elim⟩
/-! ### len of a dict of one's own -/
def pLenD (κ : KK) (p : Pl) : EX := fun r => ((getP r p).bind (c1D κ)).bind fun kvs => if kvs.length ≤ lim then some (.int kvs.length) else none
def tLenX (C : Cc) (κ : KK) (p : Pl) : List V → Hp → VK → Prop := fun xs H Q => ∃ G a kvs, κ ≠ .i ∧ Wd G H ∧ xs = [.ref a] ∧ DicAt C κ G H a kvs ∧ kvs.length ≤ lim ∧ Q (.int kvs.length) H
theorem call_lenX : CallR X (.builtin "len") (tLenX (ccOf X) κ p) := by
  intro pins s σ H xs us Q I r ⟨G, a, kvs, hκ, w, ex, hd, hlim, q⟩
  subst ex
  obtain ⟨u, rfl, rx⟩ := vals1 r
  cases (show u = Value.ref a from rx)
  obtain ⟨uo, vs, hU, hr, hl⟩ := hd
  obtain ⟨o, xs, rfl, hd, ht, e1, rfl⟩ := drep_X hκ hr
  obtain ⟨us', hx, hs, hz, dd⟩ := eo_rd hκ I hU w hd ht
  have hlen : us'.length = kvs.length := by
    have := congrArg List.length e1
    rw [← Paired.length hx]; simpa using this.symm
  refine call_len_dictH hs dd (by rw [hlen]; unfold lim at hlim; omega) ?_
  rw [hlen]
  exact ⟨.int kvs.length, H, I.tok _, ⟨_, rfl⟩, q⟩
theorem fe_plenK {pn : Pos} (ho : FP X o p) (hg : Gl X "len") (hm : X.mg "len" = none) (hκ : κ ≠ .i := by decide) (hst : starEach (o :: []) X.env = (false, eval o X.env) :: starEach [] X.env := by rfl) (hpl : (backTo pos (starEach [] X.env)).any (·.1) = false := by rfl) :
    FE X (.Call (.Name "len" pn) [o] [] pos) (pLenD κ p) := PEimp (pe_callB (call_lenX (κ := κ) (p := p)) hg hm PySem.boot_len (pa_cons ho pa_nil hst) (by decide) (by decide) hst hpl) fun σ H Q ⟨rs, G, r, d, hs, ev, q⟩ => by
  obtain ⟨kvs, e1, ev⟩ := Option.bind_eq_some_iff.mp ev
  simp only [Option.ite_none_right_eq_some, Option.some.injEq] at ev
  obtain ⟨hlim, rfl⟩ := ev
  obtain ⟨c, e3, e4⟩ := Option.bind_eq_some_iff.mp e1
  obtain ⟨a, uo, vs, hv, hu, ha, _, hr, hl, _⟩ := hs.plD e1
  refine ⟨rs, G, r, c, hs, e3, fun v hv' => ?_⟩
  cases hu v hv'
  exact ⟨G, a, kvs, hκ, hs.wd, rfl, ⟨uo, vs, .inl ha, hr, hl⟩, hlim, q _ G H hs.wd.refl (.int _)⟩
end
end DL
end

section
set_option Elab.async false
set_option linter.all false
set_option maxRecDepth 100000
set_option maxHeartbeats 2000000
/-! D1i: dicts and enumerate walked; lists of keys. -/
namespace PySem
open Sem (wp)
open AutoSeq1 (wpAny_loadPart')
theorem dl_enumerate_newT (l : Addr) (items : Array Value) :
    Meets (Builtin.«enumerate.__new__» ⟨[.type "enumerate", .ref l], []⟩) (fun _ R s => s.heap.IsTuple l items ∧
      R (.ok (.ret (.ref (s.heap.push { cls := .type "tuple_iterator", data := .fields #[.ref l, .int 0 0] }).objs.size)))
        { s with heap := (s.heap.push { cls := .type "tuple_iterator", data := .fields #[.ref l, .int 0 0] }).push { cls := .type "enumerate", data := .fields #[.none, .bool false, .ref s.heap.objs.size, rawInt 0, .none, .none] } }) :=
  .of_wp fun prog w A R s h => by
    obtain ⟨hp, g, d, tk, os⟩ := s; obtain ⟨hl, h⟩ := h
    have hsub := sub_enumerate
    have hl' : (Shared.heap ⟨hp, g, d, tk, os⟩).IsTuple l items := hl
    wp_walk
    refine wpAny_stack_any fun st => wpAny_pure ?_
    split
    · rename_i c _ _ _ _ _
      cases (c == Value.type "enumerate")
      · wp_walk using wpAny_pyIter_tuple hl'
        exact ⟨_, rfl, h⟩
      · wp_walk using wpAny_pyIter_tuple hl'
        exact ⟨_, rfl, h⟩
    · wp_walk using wpAny_pyIter_tuple hl'
      exact ⟨_, rfl, h⟩
theorem dl_call_enumerate_tuple {prog : Program} {w : World} {A : Around} {E : Value → Shared → Prop} {s : Shared} {l : Addr} {items : Array Value} {Q : Value → Shared → Prop} (hL : s.heap.IsTuple l items)
    (h : ∀ h', IsEnum h' (s.heap.objs.size + 1) s.heap.objs.size 0 .none → h'.IsTupleIter s.heap.objs.size l 0 → h'.objs.size = s.heap.objs.size + 2 →
      (∀ b o, s.heap.get? b = some o → h'.get? b = some o) → Q (.ref (s.heap.objs.size + 1)) { s with heap := h' }) :
    wpAny (model prog w) A (call (.type "enumerate") [.ref l]) Q E s := by
  refine callType_new F.called_enumerate (by decide) (F.typeCall_enumerate_1 _) (F.newCall_enumerate_1 _) (fun obj => F.args_object_init_2 obj _) F.entry_enumerate_new
    (dl_enumerate_newT l items) ⟨hL, ?_⟩
  have hz : (s.heap.push { cls := .type "tuple_iterator", data := .fields #[.ref l, .int 0 0] }).objs.size = s.heap.objs.size + 1 := Heap.size_push ..
  show _ ∧ _
  rw [hz]
  have he : IsEnum ((s.heap.push { cls := .type "tuple_iterator", data := .fields #[.ref l, .int 0 0] }).push
      { cls := .type "enumerate", data := .fields #[.none, .bool false, .ref s.heap.objs.size, rawInt 0, .none, .none] }) (s.heap.objs.size + 1) s.heap.objs.size 0 .none := by
    have := Heap.get?_push_size (s.heap.push { cls := .type "tuple_iterator", data := .fields #[.ref l, .int 0 0] })
      (o := { cls := .type "enumerate", data := .fields #[.none, .bool false, .ref s.heap.objs.size, rawInt 0, .none, .none] }) rfl
    rw [hz] at this; exact this
  refine ⟨⟨_, he, rfl⟩, h _ he ⟨_, Heap.get?_push_of_some _ (Heap.get?_push_size _ rfl), rfl, rfl⟩ (by rw [Heap.size_push, hz]) fun b o x => Heap.get?_push_of_some _ (Heap.get?_push_of_some _ x)⟩
end PySem
namespace DL
open PySem PySem.Spec PyProof.Rows L2

/-! ### enumerate of a tuple -/
def ItN (K : PySem.W.Frag) (a : Addr) : It :=
  ⟨fun i H => ∃ (xs : List V) (x : V), SqT K H a xs ∧ xs[i]? = some x, fun i H v H' => ∃ T x, v = .ref T ∧ H T = none ∧ H' = upd H T (.tup [.int (i : Nat), x]) ∧ ∀ xs, SqT K H a xs → xs[i]? = some x, fun i H => ∃ xs : List V, SqT K H a xs ∧ xs.length = i⟩
theorem isTup_ {h : Heap} {a : Addr} {its : List Value} (p : IsTup h a its.toArray) : h.IsTuple a its.toArray := by
  obtain ⟨o, h1, h2, n, h3⟩ := p
  exact ⟨o, h1, h2, n, h3⟩
theorem turn_enumT {P : Program} {w : World} {K : PySem.W.Frag} {elts : List Expr} {kk : Nat} {tpos : Pos} (a e it : Addr) :
    Turn P w K (.Tuple elts kk tpos) (ItN K a) [e, it] e (fun i h => (∃ old, IsEnum h e it ((i : Nat) : Int) old) ∧ h.IsTupleIter it a i ∧ e ≠ it) where
  mem := by simp
  obj := fun i h st b hb => by
    obtain ⟨⟨old, he⟩, ⟨o, ho, hc, hd⟩, _⟩ := st
    have e' : b = e ∨ b = it := by simpa using hb
    rcases e' with z | z
    · rw [z]; exact ⟨_, he, fun v q => nomatch q⟩
    · rw [z]; exact ⟨o, ho, fun v q => by rw [hd] at q; cases q⟩
  keep := fun i h h' st k => let ⟨⟨old, he⟩, hi, hne⟩ := st; ⟨⟨old, k e (by simp) _ he⟩, hi.at fun o q => k it (by simp) o q, hne⟩
  item := by
    intro X hP hw hK hc i pins s σ H E I hf st hg
    subst hP hw hK
    obtain ⟨⟨old, he⟩, hit, hne⟩ := st
    obtain ⟨xs, x, hq, hx⟩ := hg
    obtain ⟨its, rv, p, hz⟩ := I.tuple hq
    obtain ⟨u, hu, ru⟩ := rv.get hx
    have hel : e < s.heap.objs.size := Heap.lt_size he
    have hil : it < s.heap.objs.size := by obtain ⟨_, q, _⟩ := hit; exact Heap.lt_size q
    have hai : a ≠ it := fun z => by
      obtain ⟨o1, h1, h2, _⟩ := p
      obtain ⟨o2, h3, h4, _⟩ := hit
      rw [z, h3] at h1; cases h1; rw [h4] at h2; injection h2 with q; exact absurd q (by decide)
    have hae : e ≠ a := fun z => by
      obtain ⟨o1, h1, h2, _⟩ := p
      rw [← z, (show s.heap.get? e = some _ from he)] at h1; cases h1; injection h2 with q; exact absurd q (by decide)
    have hh : X.A.in1.handled = none := I.ok.hd hc
    have hlt : i < its.toArray.size := by
      have := (List.getElem?_eq_some_iff.mp hu).1
      simpa using this
    refine wpAny_pyNext_enum_itemC (Draws.tuple hh it a hai its.toArray) he ⟨hit, isTup_ p⟩ hlt hne (by simp [hne, hae]) fun y h' tk hy ho hit' hT hsz hk => ?_
    have hyu : y = u := by
      have h1 : its[i]? = some y := by simpa using hy
      rw [hu] at h1; cases h1; rfl
    subst hyu
    refine ⟨_, rfl, wpAny_letOwnedTupleGo_enum (s := { s with heap := h', toks := tk + 1 }) ho fun h'' he' sb => ?_⟩
    have hT2 : h''.get? s.heap.objs.size = some { cls := .type "tuple", data := .seq #[.int i tk, y] } := (sb.2 _ (Nat.ne_of_gt hel)).trans hT
    have new : ObjOk X.prog X.w (upd H s.heap.objs.size (.tup [.int (i : Nat), x])) h'' s.heap.objs.size (.tup [.int (i : Nat), x]) :=
      ⟨by show 2 ≤ sizeLine; decide, [.int i tk, y], .cons ⟨_, rfl⟩ (.cons ru .nil), ⟨_, hT2, rfl, _, rfl⟩⟩
    have I1 : L2.Inv X pins σ (upd H s.heap.objs.size (.tup [.int (i : Nat), x])) { s with heap := h'', toks := tk + 1 } :=
      I.turnedNew (ch := [e, it]) (fun b ob hb q => (sb.2 b (fun z => hb (by simp [z]))).trans (hk b ob (fun z => hb (by simp [z])) (fun z => hb (by simp [z])) q)) hf (Nat.le_refl _) new
    refine ⟨.ref s.heap.objs.size, _, I1, rfl, ⟨_, x, rfl, I.hok.fresh (Nat.le_refl _), rfl, fun ys hy => by rw [I.tuple_inj hy hq]; exact hx⟩, ⟨⟨y, ?_⟩, hit'.1.at fun o q => (sb.2 it (Ne.symm hne)).trans q, hne⟩, fun b hb => ?_⟩
    · have e1 : ((i + 1 : Nat) : Int) = (i : Int) + 1 := by omega
      rw [e1]; exact he'
    · have hb' : b < s.heap.objs.size := by
        have e' : b = e ∨ b = it := by simpa using hb
        rcases e' with z | z
        · rw [z]; exact hel
        · rw [z]; exact hil
      rw [upd_ne (Nat.ne_of_lt hb')]
      exact (hf b hb).1
  done := by
    intro X hP hw hK hc i pins s σ H E I hf st hg
    subst hP hw hK
    obtain ⟨⟨old, he⟩, hit, hne⟩ := st
    obtain ⟨xs, hq, hx⟩ := hg
    obtain ⟨its, rv, p, hz⟩ := I.tuple hq
    obtain ⟨f0, f1, f2, f3, f4, f5⟩ := hf it (by simp)
    have hai : a ≠ it := fun z => by
      obtain ⟨o1, h1, h2, _⟩ := p
      obtain ⟨o2, h3, h4, _⟩ := hit
      rw [z, h3] at h1; cases h1; rw [h4] at h2; injection h2 with q; exact absurd q (by decide)
    have hl := rv.length
    have hh : X.A.in1.handled = none := I.ok.hd hc
    have hi : i = its.toArray.size := by simp; omega
    subst hi
    exact wpAny_pyNext_enum_endD (Draws.tuple hh it a hai its.toArray) he ⟨hit, isTup_ p⟩ fun h' eb => ⟨rfl, I.turned (t' := s.toks) (fun b o hb q => eb b o hb q) f0 f1 f3 f4 f5⟩
  self := fun A i s Q E st h => let ⟨⟨_, he⟩, _⟩ := st; wpAny_pyIter_enum he h
section
variable {X : Cx} {e o tg iter : Expr} {f g : EX} {pos apos cpos tpos p : Pos} {elts : List Expr} {kk : Nat} {κ : KK}
theorem walkD_enum {C : Cc} {G : Hp} {a : Addr} {vs : List V} {l : List D} (ha : G a = some (.tup vs)) (hl : DvL C G vs l) : WalkD C (ItN C.K a) G (l.mapIdx fun i d => .tup [.int (i : Nat), d]) where
  goes := fun i H hi e => by
    have h : i < vs.length := by rw [hl.len]; simpa using hi
    exact ⟨vs, vs[i], SqT.of (e _ _ ha), by simp [h]⟩
  stops := fun H e => ⟨vs, SqT.of (e _ _ ha), by rw [hl.len]; simp⟩
  yields := fun i H x H' G1 hi e w y => by
    obtain ⟨T, x, rfl, hT, rfl, hx⟩ := y
    obtain ⟨d, hd, hv⟩ := hl.getV (hx vs (SqT.of ((e.trans w.gh) _ _ ha)))
    have s2 := w.new (.tup [.int (i : Nat), x]) hT
    refine ⟨.tup [.int (i : Nat), d], _, by simp [hd], s2, .tup upd_same (.cons (.int _) (.cons (hv.mono (e.trans s2.g)) .nil))⟩
theorem fi_enumT (hg : Gl X "enumerate") (hm : X.mg "enumerate" = none) (ha : FA X [e] (aC f aN)) (hs : starEach [e] X.env = [(false, eval e X.env)] := by rfl) : FI X (.Tuple elts kk tpos) (.Call (.Name "enumerate" p) [e] [] pos) (iEnum f) := ⟨fun pins s σ H R I ⟨rs, G, r, l, hs', ev, q⟩ => by
  obtain ⟨m, e1, ev⟩ := Option.bind_eq_some_iff.mp ev
  cases ev
  obtain ⟨d, e2, e3⟩ := Option.bind_eq_some_iff.mp e1
  refine Call_ (ld_blt I hg hm boot_enumerate (PyProof.Rows.callWith_type1 (thn (ha.run pos pins s σ H (fun vs H' => ∃ G', Stp G H G' H' ∧ DvL (ccOf X) G' vs [d]) I ⟨rs, G, r, [d], hs', by unfold aC aN; rw [e2]; rfl, fun vs G' H' s h => ⟨G', s, h⟩⟩) fun us s1 ⟨vs, H1, I1, r1, G1, st1, h1⟩ => ?_) hs rfl))
  obtain ⟨v, rfl, hv⟩ := one_of h1
  cases r1 with
  | cons r rr =>
    cases rr
    obtain ⟨a, ws, rfl, ha2, hl⟩ := hv.tup_ e3
    cases r
    obtain ⟨its, rv, p', hz⟩ := I1.tuple (SqT.of (st1.wd.gh _ _ ha2))
    refine dl_call_enumerate_tuple (isTup_ p') fun h' he hit hsz hk => wpAny_pyIter_enum he ?_
    have I2 : L2.Inv X pins σ H1 { s1 with heap := h' } := I1.kept (t' := s1.toks) hk
    refine ⟨s1.heap.objs.size + 1, [s1.heap.objs.size + 1, s1.heap.objs.size], _, _, H1, rfl, I2, turn_enumT a (s1.heap.objs.size + 1) s1.heap.objs.size, ⟨⟨.none, he⟩, hit, Nat.succ_ne_self _⟩, fun b hb => ?_, q _ G1 H1 st1 (walkD_enum ha2 hl)⟩
    have e' : b = s1.heap.objs.size + 1 ∨ b = s1.heap.objs.size := by simpa using hb
    have hle : s1.heap.objs.size ≤ b := by
      rcases e' with z | z
      · rw [z]; exact Nat.le_add_right _ _
      · rw [z]; exact Nat.le_refl _
    exact I1.fpOk hle (I1.hok.fresh hle)⟩
/-! ### for k in a dict with tuple keys -/
/-- the keys' tuples qs of the dict at a -/
def ItX (a : Addr) (o : Obj) (qs : List Addr) : It :=
  ⟨fun i H => H a = some (eO a o) ∧ i < qs.length, fun i H x H' => H' = H ∧ ∃ q, qs[i]? = some q ∧ x = .ref q, fun i H => H a = some (eO a o) ∧ qs.length ≤ i⟩
theorem eo_data {P : Program} {w : World} {o : Obj} {xs : XT} (d : DOb P w o xs) : ∃ es ep, o.data = .dict es ep ∧ o.ExactDict ∧ es.size = xs.length ∧ ∀ (i : Nat) (x : List Int × Addr × V), xs[i]? = some x → ∃ en : DictEntry, es[i]? = some en ∧ en.key = .ref x.2.1 ∧ RelV x.2.2 en.val := by
  obtain ⟨d1, d2, es, ep, vs, d3, d4, d5, d6⟩ := d
  refine ⟨es, ep, d3, d1, ?_, fun i x hx => ?_⟩
  · rw [size_of_entries d4]; exact (Paired.length d6).symm
  · obtain ⟨q, h1, h2⟩ := LiI.paired_get d6 hx
    have q2 := entry_at d4 i
    rw [h1] at q2
    exact ⟨_, q2, by rw [← h2.2.1]; rfl, h2.2.2⟩
theorem turn_keysX {P : Program} {w : World} {K : PySem.W.Frag} {tg : Expr} {a : Addr} {o : Obj} {xs : XT} {es : Array DictEntry} {ep : Nat} (it : Addr) (d : DOb P w o xs) (hod : o.data = .dict es ep) : Turn P w K tg (ItX a o (xs.map (·.2.1))) [it] it (fun i h => h.IsKeyIter it a i xs.length ep) where
  mem := by simp
  obj := fun i h st b hb => by
    have e : b = it := by simpa using hb
    subst e
    obtain ⟨oi, e, c, dd⟩ := st
    exact ⟨oi, e, fun v z => by rw [dd] at z; cases z⟩
  keep := fun i h h' st k => st.at fun oi e => k it (by simp) oi e
  item := by
    intro X hP hw hK hc i pins s σ H E I hf st hg
    subst hP hw hK
    obtain ⟨hd, hi⟩ := hg
    obtain ⟨f0, f1, f2, f3, f4, f5⟩ := hf it (by simp)
    obtain ⟨⟨hgd, hs⟩, _, _⟩ := (show ObjOk X.prog X.w H s.heap a (eO a o) from I.hok a _ hd)
    obtain ⟨es', ep', hdt, hx, hsz, ent⟩ := eo_data d
    obtain ⟨rfl, rfl⟩ := dict_ep hod hdt
    have hi' : i < xs.length := by simpa using hi
    obtain ⟨en, hen, hkey, _⟩ := ent i xs[i] (by simp [hi'])
    refine next_key_item st hgd hdt hsz hen fun h' st' sb => ?_
    have I1 : L2.Inv X pins σ H { s with heap := h' } := I.turned (t' := s.toks) (fun b ob hb e => (sb.2 b hb).trans e) f0 f1 f3 f4 f5
    obtain ⟨oi, e, c, dd⟩ := id st'
    exact ⟨en.key, rfl, go_of (s := { s with heap := h' }) e c dd (by decide) ⟨.ref xs[i].2.1, H, I1, hkey, ⟨rfl, xs[i].2.1, by simp [hi'], rfl⟩, st', fun b hb => (hf b hb).1⟩⟩
  done := by
    intro X hP hw hK hc i pins s σ H E I hf st hg
    subst hP hw hK
    obtain ⟨hd, hi⟩ := hg
    obtain ⟨f0, f1, f2, f3, f4, f5⟩ := hf it (by simp)
    obtain ⟨⟨hgd, hs⟩, _, _⟩ := (show ObjOk X.prog X.w H s.heap a (eO a o) from I.hok a _ hd)
    obtain ⟨es', ep', hdt, hx, hsz, ent⟩ := eo_data d
    obtain ⟨rfl, rfl⟩ := dict_ep hod hdt
    exact next_key_end (I.ok.hd hc) st hgd hdt hsz (by simpa using hi) fun h' eb => ⟨rfl, I.turned (t' := s.toks) (fun b ob hb e => eb b ob hb e) f0 f1 f3 f4 f5⟩
  self := fun A i s Q E st h => wpAny_pyIter_keyiter st h
theorem key_dv {C : Cc} {G : Hp} {k : List Int} {q : Addr} (hκ : κ ≠ .i) (hk : kOk κ k) (h : G q = some (.tup (keyVs κ k))) : Dv C G (.ref q) (ofKey κ k) := by
  cases κ with
  | i => exact absurd rfl hκ
  | t =>
    obtain ⟨a, b, rfl⟩ := hk
    exact .tup h (.cons (.int _) (.cons (.int _) .nil))
  | e =>
    obtain ⟨a, b, c, f, rfl⟩ := hk
    exact .tup h (.cons (.int _) (.cons (.int _) (.cons (.int _) (.cons (.bl _) .nil))))
theorem keys_dv {C : Cc} {G : Hp} (hκ : κ ≠ .i) : ∀ {xs : XT} {kvs : List (List Int × D)}, (∀ x ∈ xs, kOk κ x.1 ∧ G x.2.1 = some (.tup (keyVs κ x.1))) → kvs.map (·.1) = xs.map (·.1) → DvL C G ((xs.map (·.2.1)).map V.ref) (kvs.map fun p => ofKey κ p.1)
  | [], [], _, _ => .nil
  | [], _ :: _, _, h => by cases h
  | _ :: _, [], _, h => by cases h
  | x :: xs, p :: kvs, ht, h => by
    rw [List.map_cons, List.map_cons] at h
    injection h with h1 h2
    obtain ⟨k1, k2⟩ := ht x List.mem_cons_self
    refine .cons ?_ (keys_dv hκ (fun x hx => ht x (List.mem_cons_of_mem _ hx)) h2)
    show Dv C G (.ref x.2.1) (ofKey κ p.1)
    rw [h1]
    exact key_dv hκ k1 k2
theorem fi_keysK (he : FE X e f) (hκ : κ ≠ .i := by decide) : FI X tg e (iKeys κ f) := ⟨fun pins s σ H R I ⟨rs, G, r, l, hs', ev, q⟩ => by
  obtain ⟨kvs, e1, ev⟩ := Option.bind_eq_some_iff.mp ev
  cases ev
  obtain ⟨d, e2, e3⟩ := Option.bind_eq_some_iff.mp e1
  refine thn (FEgo he I hs' e2) fun u s1 ⟨x, H1, I1, rx, G1, st1, hx⟩ => ?_
  obtain ⟨a, o0, uo, vs, rfl, ha, hr, hl⟩ := hx.dic_ e3
  cases (show u = Value.ref a from rx)
  obtain ⟨o, xs, rfl, hd, ht, e4, rfl⟩ := drep_X hκ hr
  have ha2 : G1 a = some (eO a o) := by
    cases κ with
    | i => exact absurd rfl hκ
    | t => exact ha
    | e => exact ha
  obtain ⟨⟨hgd, hs⟩, _, _⟩ := (show ObjOk X.prog X.w H1 s1.heap a (eO a o) from I1.hok a _ (st1.wd.gh _ _ ha2))
  obtain ⟨es, ep, hdt, hxd, hsz, ent⟩ := eo_data hd
  have hkeys := keys_dv (C := ccOf X) hκ ht e4
  refine iter_keys hs hgd hxd hdt (pi_one (tk := s1.toks) I1 _ (turn_keysX (a := a) _ hd hdt) ⟨_, Heap.get?_push_size _ rfl, rfl, ?_⟩ (q _ G1 H1 st1 ?_))
  · rw [hsz] <;> rfl
  · have hlen := hkeys.len
    refine ⟨fun i H hi e => ⟨e _ _ ha2, ?_⟩, fun H e => ⟨e _ _ ha2, ?_⟩, fun i H x H' G2 hi e w y => ?_⟩
    · simp only [List.length_map] at hlen hi ⊢; omega
    · simp only [List.length_map] at hlen ⊢; omega
    · obtain ⟨rfl, q, hq, rfl⟩ := y
      obtain ⟨d, hd, hv⟩ := hkeys.getV (i := i) (v := .ref q) (by rw [List.getElem?_map, hq]; rfl)
      exact ⟨d, G2, hd, w.refl, hv.mono e⟩⟩
/-! ### for k, v in d.items(), ints as keys -/
theorem fi_itemsI (he : FE X e f) (hbase : attributeBase e "items" X.env (eval e X.env) = eval e X.env := by rfl) (hline : (apos.endLine == cpos.line) = true := by rfl) :
    FI X (.Tuple elts kk tpos) (.Call (.Attribute e "items" apos) [] [] cpos) (DL.iItems .i f) := PIimp (pi_items he hbase hline) fun σ H R ⟨rs, G, r, l, hs', ev, q⟩ => by
  obtain ⟨kvs, e1, ev⟩ := Option.bind_eq_some_iff.mp ev
  cases ev
  obtain ⟨d, e2, e3⟩ := Option.bind_eq_some_iff.mp e1
  refine ⟨rs, G, r, d, hs', e2, fun v G1 H1 st1 h1 => ?_⟩
  obtain ⟨a, o, uo, vs, rfl, ha, ⟨m, rfl, e4, rfl⟩, hl⟩ := h1.dic_ e3
  refine ⟨a, o, _, rfl, st1.wd.gh _ _ ha, q _ G1 H1 st1 ?_⟩
  have hlen : m.length = kvs.length := by
    have := congrArg List.length e4
    simpa using this.symm
  refine ⟨fun i H hi e => ⟨e _ _ ha, ?_⟩, fun H e => ⟨e _ _ ha, ?_⟩, fun i H x H' G2 hi e w y => ?_⟩
  · simp only [List.length_map] at hi ⊢; omega
  · simp only [List.length_map]; omega
  · obtain ⟨T, k, v, hkv, rfl, hT, rfl⟩ := y
    rw [List.getElem?_map] at hkv
    obtain ⟨p, hp, e5⟩ := Option.map_eq_some_iff.mp hkv
    cases e5
    obtain ⟨d, hd, hv⟩ := hl.getV (i := i) (v := p.2) (by rw [List.getElem?_map, hp]; rfl)
    have hk : (kvs.map (·.1))[i]? = some [p.1] := by rw [e4, List.getElem?_map, hp]; rfl
    rw [List.getElem?_map] at hk hd
    obtain ⟨q1, hq1, e6⟩ := Option.map_eq_some_iff.mp hk
    rw [hq1] at hd
    cases hd
    have s2 := w.new (.tup [kV (Sum.inl p.1), p.2]) hT
    refine ⟨.tup [ofKey .i q1.1, q1.2], _, by rw [List.getElem?_map, hq1]; rfl, s2, .tup upd_same (.cons ?_ (.cons (hv.mono (e.trans s2.g)) .nil))⟩
    rw [e6]
    exact .int p.1
end
end DL
end

section
set_option Elab.async false
set_option linter.all false
set_option maxRecDepth 100000
set_option maxHeartbeats 2000000
/-! D1j: objects of one's own: attributes set, methods, instances made. -/
namespace DL
open PySem PySem.Spec PyProof.Rows L2

section
variable {C : Cc} {rs G H G' H' : Hp} {σ : L2.St} {r : Env} {fp : Nat → List Addr}
/-- all but slot i -/
theorem HasF.away (f : HasF C rs G H σ r fp) (i : Nat) (w : Wd G' H') (eg : Ex G G') (k : ∀ a o, H a = some o → a ∉ fp i → H' a = some o) (nw : ∀ a o, G' a = some o → G a = some o ∨ H a = none ∨ a ∈ fp i) :
    HasF C rs G' H' σ (r.set i none) (fun j => if j = i then [] else fp j) := by
  have gn : ∀ a, G a = none → (∃ o, H a = some o) → a ∉ fp i → G' a = none := fun a h1 ⟨o, h2⟩ h3 => by
    cases z : G' a with
    | none => rfl
    | some u =>
      rcases nw a u z with q | q | q
      · rw [h1] at q; cases q
      · rw [h2] at q; cases q
      · exact absurd q h3
  have rn : ∀ a o, rs a = some o → a ∉ fp i := fun a o e q => by
    have := (f.fr i a q).2.1
    rw [e] at this; cases this
  have kp : ∀ j, j ≠ i → Kp (fp j) H H' := fun j hj a ha => by
    obtain ⟨_, _, o, ho⟩ := f.fr j a ha
    rw [ho, k a o ho fun z => hj (f.dj j i a ha z)]
  refine ⟨w, fun a o ea => k a o (f.rh a o ea) (rn a o ea), fun a o ea => gn a (f.rg a o ea) ⟨o, f.rh a o ea⟩ (rn a o ea), by simpa using f.len, fun j y ey => ?_, fun j a ha => ?_, fun j l a h1 h2 => ?_⟩
  · rw [slot_set] at ey
    split at ey
    · cases ey
    · rename_i hn
      obtain ⟨u, h3, h4⟩ := f.at_ j y ey
      by_cases hj : j = i
      · subst hj
        exact absurd ⟨rfl, slot_lt ey⟩ hn
      · simp only [if_neg hj]
        exact ⟨u, h3, h4.keep eg (kp j hj)⟩
  · by_cases hj : j = i
    · simp only [hj, if_true] at ha; cases ha
    · simp only [if_neg hj] at ha
      obtain ⟨h3, h4, o, h5⟩ := f.fr j a ha
      exact ⟨gn a h3 ⟨o, h5⟩ fun z => hj (f.dj j i a ha z), h4, o, by rw [kp j hj a ha]; exact h5⟩
  · by_cases hj : j = i
    · simp only [hj, if_true] at h1; cases h1
    · by_cases hl : l = i
      · simp only [hl, if_true] at h2; cases h2
      · simp only [if_neg hj] at h1
        simp only [if_neg hl] at h2
        exact f.dj j l a h1 h2
theorem set_same {i : Nat} {v : V} (h : σ[i]? = some (some v)) : σ.set i (some v) = σ := by
  obtain ⟨hl, hv⟩ := List.getElem?_eq_some_iff.mp h
  rw [← hv]; simp
theorem FlsAt.snoc {v : V} {fl : Fld} {q : List Addr} : ∀ {vs : List V} {fs : List Fld} {ps : List (List Addr)}, FlsAt C G H vs fs ps → FlAt C G H v fl q → FlsAt C G H (vs ++ [v]) (fs ++ [fl]) (ps ++ [q])
  | _, _, _, .nil, h => .cons h .nil
  | _, _, _, .cons h t, h2 => .cons h (t.snoc h2)
/-- an object of one's own gets its next attribute -/
theorem HasF.addF {i : Nat} {t : Option Addr} {c : CN} {fs : List Fld} (f : HasF C rs G H σ r fp) (e : slot r i = some (.obj t c fs)) : ∃ a dx vs, σ[i]? = some (some (.ref a)) ∧ H a = some (.ins (C.ca c) dx ((fnames c).zip vs)) ∧ vs.length = fs.length ∧
    ∀ G' H' fl v q, Stp G H G' H' → FlAt C G' H' v fl q → (∀ b ∈ q, H b = none ∧ G' b = none ∧ ∃ o, H' b = some o) → q.Nodup → fs.length < (fnames c).length →
      Has C rs G' (upd H' a (.ins (C.ca c) dx ((fnames c).zip (vs ++ [v])))) σ (r.set i (some (.obj t c (fs ++ [fl])))) := by
  obtain ⟨v0, h1, a, dx, vs, ps, rfl, ht, ha, hdx, hlen, hfs, hfp, hnd⟩ := f.at_ i _ e
  obtain ⟨hl1, hl2⟩ := hfs.len
  refine ⟨a, dx, vs, h1, ha, hl1, fun G' H' fl v q st hx hq nq hlt => ?_⟩
  have inH : ∀ b ∈ fp i, ∃ o, H b = some o := fun b hb => (f.fr i b hb).2.2
  have fpi : ∀ b, b = a ∨ b = dx ∨ b ∈ ps.flatten → b ∈ fp i := fun b hb => by rw [hfp]; simpa using hb
  have aq : ∀ b, b ∈ q → b ∉ fp i := fun b hb z => by
    obtain ⟨o, ho⟩ := inH b z
    rw [(hq b hb).1] at ho; cases ho
  have f1 := f.step st
  have ga : G' a = none := (f1.fr i a (fpi a (.inl rfl))).1
  have w : Wd G' (upd H' a (.ins (C.ca c) dx ((fnames c).zip (vs ++ [v])))) := ⟨fun b o eb => by
      rw [upd_ne (fun z => by rw [z, ga] at eb; cases eb)]
      exact st.gh b o eb, fun b xs eb => by
      by_cases z : b = a
      · subst z; rw [upd_same] at eb; cases eb
      · rw [upd_ne z] at eb; exact st.tg b xs eb⟩
  have f2 := f1.away i w (.refl _) (fun b o eb hb => by rw [upd_ne (fun z => hb (by rw [z]; exact fpi a (.inl rfl)))]; exact eb) (fun b o eb => .inl eb)
  rw [hfp] at hnd
  obtain ⟨n1, n2⟩ := List.nodup_cons.mp hnd
  obtain ⟨n3, n4⟩ := List.nodup_cons.mp n2
  have upo : ∀ b, b ≠ a → upd H' a (.ins (C.ca c) dx ((fnames c).zip (vs ++ [v]))) b = H' b := fun b hb => upd_ne hb
  have hobj : SVAt C G' (upd H' a (.ins (C.ca c) dx ((fnames c).zip (vs ++ [v])))) (.ref a) (.obj t c (fs ++ [fl])) (a :: dx :: (ps ++ [q]).flatten) := by
    have nadx : dx ≠ a := fun z => n1 (z ▸ List.mem_cons_self)
    have flt : (ps ++ [q]).flatten = ps.flatten ++ q := by simp
    refine ⟨a, dx, vs ++ [v], ps ++ [q], rfl, ht, upd_same, by rw [upo dx nadx]; exact st.h _ _ hdx, by simp; omega, ?_, rfl, ?_⟩
    · have h0 : FlsAt C G' (upd H' a (.ins (C.ca c) dx ((fnames c).zip (vs ++ [v])))) vs fs ps := hfs.keep st.g fun b hb => by
        obtain ⟨o, ho⟩ := inH b (fpi b (.inr (.inr hb)))
        rw [upo b (fun z => n1 (by rw [← z]; exact List.mem_cons_of_mem _ hb)), ho, st.h b o ho]
      have hx' : FlAt C G' (upd H' a (.ins (C.ca c) dx ((fnames c).zip (vs ++ [v])))) v fl q := hx.keep (.refl _) fun b hb => upo b fun z => aq b hb (z ▸ fpi a (.inl rfl))
      exact h0.snoc hx'
    · rw [flt]
      refine List.nodup_cons.mpr ⟨fun z => ?_, List.nodup_cons.mpr ⟨fun z => ?_, List.nodup_append.mpr ⟨n4, nq, fun x hx y hy => ?_⟩⟩⟩
      · rcases List.mem_cons.mp z with z | z
        · exact nadx z.symm
        · rcases List.mem_append.mp z with z | z
          · exact n1 (List.mem_cons_of_mem _ z)
          · exact aq a z (fpi a (.inl rfl))
      · rcases List.mem_append.mp z with z | z
        · exact n3 z
        · exact aq dx z (fpi dx (.inr (.inl rfl)))
      · rintro rfl
        exact aq x hy (fpi x (.inr (.inr hx)))
  have f3 := f2.put (i := i) hobj (fun b hb => ?_) (fun m b hm hb => ?_)
  · rw [set_same h1] at f3
    have e1 : (r.set i none).set i (some (SV.obj t c (fs ++ [fl]))) = r.set i (some (.obj t c (fs ++ [fl]))) := by simp
    rw [e1] at f3
    exact ⟨_, f3⟩
  · have old : ∀ b, b ∈ fp i → G' b = none ∧ rs b = none ∧ ∃ o, upd H' a (.ins (C.ca c) dx ((fnames c).zip (vs ++ [v]))) b = some o := fun b hb => by
      obtain ⟨h3, h4, o, h5⟩ := f1.fr i b hb
      refine ⟨h3, h4, ?_⟩
      by_cases z : b = a
      · subst z; exact ⟨_, upd_same⟩
      · exact ⟨o, by rw [upo b z]; exact h5⟩
    rcases List.mem_cons.mp hb with z | hb
    · exact old _ (fpi _ (.inl z))
    · rcases List.mem_cons.mp hb with z | hb
      · exact old _ (fpi _ (.inr (.inl z)))
      · rw [List.flatten_append] at hb
        rcases List.mem_append.mp hb with z | z
        · exact old _ (fpi _ (.inr (.inr z)))
        · have z : b ∈ q := by simpa using z
          obtain ⟨h3, h4, o, h5⟩ := hq b z
          refine ⟨h4, ?_, o, by rw [upo b fun y => aq b z (y ▸ fpi a (.inl rfl))]; exact h5⟩
          cases y : rs b with
          | none => rfl
          | some u => rw [f.rh b u y] at h3; cases h3
  · simp only [if_neg hm]
    intro hbm
    have inm : b ∉ fp i := fun z => hm (f.dj m i b hbm z)
    rcases List.mem_cons.mp hb with z | hb
    · exact inm (fpi b (.inl z))
    · rcases List.mem_cons.mp hb with z | hb
      · exact inm (fpi b (.inr (.inl z)))
      · rw [List.flatten_append] at hb
        rcases List.mem_append.mp hb with z | z
        · exact inm (fpi b (.inr (.inr z)))
        · have z : b ∈ q := by simpa using z
          obtain ⟨_, _, o, ho⟩ := f.fr m b hbm
          rw [(hq b z).1] at ho; cases ho
/-- an object of one's own is lent: alone, and given back -/
theorem HasF.lend {i : Nat} {t : Option Addr} {c : CN} {fs : List Fld} (f : HasF C rs G H σ r fp) (e : slot r i = some (.obj t c fs)) : ∃ a rs', σ[i]? = some (some (.ref a)) ∧ (∀ b, t = some b → b = a) ∧ Has C rs' G H [some (.ref a)] [some (.obj none c fs)] ∧ (∀ b o, H b = some o → G b = none → b ∉ fp i → rs' b = some o) ∧
    ∀ G' H' fs', Ex G G' → Has C rs' G' H' [some (.ref a)] [some (.obj none c fs')] → Has C rs G' H' σ (r.set i (some (.obj t c fs'))) := by
  obtain ⟨v0, h1, a, dx, vs, ps, rfl, ht, ha, hdx, hlen, hfs, hfp, hnd⟩ := f.at_ i _ e
  have rd : ∀ b o, (fun b => if b ∈ fp i then none else restOf G H b) b = some o → b ∉ fp i ∧ G b = none ∧ H b = some o := fun b o e => by
    by_cases q : b ∈ fp i
    · simp only [q, if_true] at e; cases e
    · simp only [q, if_false] at e
      exact ⟨q, restOf_some e⟩
  refine ⟨a, fun b => if b ∈ fp i then none else restOf G H b, h1, ht, ⟨fun j => if j = 0 then fp i else [], f.wd, fun b o e => (rd b o e).2.2, fun b o e => (rd b o e).2.1, rfl, fun j x ex => ?_, fun j b hb => ?_, fun j k b h2 h3 => ?_⟩, (fun b o h g n => by
    simp only [n, if_false]
    exact restOf_none h g), ?_⟩
  · have hj := slot_lt ex
    have hj : j = 0 := by simpa using hj
    subst hj
    cases ex
    exact ⟨_, rfl, a, dx, vs, ps, rfl, (fun b e => by cases e), ha, hdx, hlen, hfs, hfp, hnd⟩
  · by_cases q : j = 0
    · simp only [q, if_true] at hb
      obtain ⟨h2, h3, h4⟩ := f.fr i b hb
      exact ⟨h2, by simp only [hb, if_true], h4⟩
    · simp only [q, if_false] at hb; cases hb
  · by_cases q : j = 0
    · by_cases p : k = 0
      · rw [p, q]
      · simp only [p, if_false] at h3; cases h3
    · simp only [q, if_false] at h2; cases h2
  · rintro G' H' fs' eg ⟨fp', f'⟩
    have inr : ∀ b o, H b = some o → G b = none → b ∉ fp i → (fun b => if b ∈ fp i then none else restOf G H b) b = some o := fun b o h g n => by
      simp only [n, if_false]
      exact restOf_none h g
    have keep : ∀ b o, H b = some o → b ∉ fp i → H' b = some o := fun b o hb n => by
      cases g : G b with
      | some u =>
        have := f.wd.gh b u g
        rw [hb] at this; cases this
        exact f'.wd.gh b _ (eg b _ g)
      | none => exact f'.rh b o (inr b o hb g n)
    have f2 := f.away i f'.wd eg keep fun b o hb => by
      cases g : G b with
      | some u =>
        have := eg b u g
        rw [hb] at this; cases this
        exact .inl rfl
      | none =>
        cases hh : H b with
        | none => exact .inr (.inl rfl)
        | some u =>
          by_cases n : b ∈ fp i
          · exact .inr (.inr n)
          · have := f'.rg b u (inr b u hh g n)
            rw [hb] at this; cases this
    obtain ⟨v', h2, h3⟩ := f'.at_ 0 (.obj none c fs') rfl
    cases h2
    obtain ⟨a', dx', vs', ps', ea, _, h4⟩ := h3
    cases ea
    have h3' : SVAt C G' H' (.ref a) (.obj t c fs') (fp' 0) := ⟨a, dx', vs', ps', rfl, ht, h4⟩
    have f3 := f2.put (i := i) h3' (fun b hb => ?_) (fun m b hm hb => ?_)
    · rw [set_same h1] at f3
      have e1 : (r.set i none).set i (some (SV.obj t c fs')) = r.set i (some (.obj t c fs')) := by simp
      rw [e1] at f3
      exact ⟨_, f3⟩
    · obtain ⟨h5, h6, h7⟩ := f'.fr 0 b hb
      refine ⟨h5, ?_, h7⟩
      cases y : rs b with
      | none => rfl
      | some u =>
        have n : b ∉ fp i := fun z => by
          have := (f.fr i b z).2.1
          rw [y] at this; cases this
        exact absurd (h6.symm.trans (inr b u (f.rh b u y) (f.rg b u y) n)) (by simp)
    · simp only [if_neg hm]
      intro z
      obtain ⟨h5, h6, u, h7⟩ := f.fr m b z
      have n : b ∉ fp i := fun y => hm (f.dj m i b z y)
      exact absurd ((f'.fr 0 b hb).2.1.symm.trans (inr b u h7 h5 n)) (by simp)
theorem Has.lend {i : Nat} {t : Option Addr} {c : CN} {fs : List Fld} (h : Has C rs G H σ r) (e : slot r i = some (.obj t c fs)) : ∃ a rs', σ[i]? = some (some (.ref a)) ∧ (∀ b, t = some b → b = a) ∧ Has C rs' G H [some (.ref a)] [some (.obj none c fs)] ∧
    ∀ G' H' fs', Ex G G' → Has C rs' G' H' [some (.ref a)] [some (.obj none c fs')] → Has C rs G' H' σ (r.set i (some (.obj t c fs'))) := by
  obtain ⟨fp, f⟩ := h
  obtain ⟨a, rs', h1, h2, h3, _, h4⟩ := f.lend e
  exact ⟨a, rs', h1, h2, h3, h4⟩
theorem Has.startO {N : List Str} {a : Addr} {ws : List V} {c : CN} {fs : List Fld} {ds : List D} (h : Has C rs G H [some (.ref a)] [some (.obj none c fs)]) (hd : DvL C G ws ds) : Has C rs G H (L2.start N (.ref a :: ws)) (envOf N (.obj (some a) c fs :: ds.map .dat)) := by
  obtain ⟨fp, f⟩ := h
  refine ⟨fun j => if j = 0 then fp 0 else [], f.wd, f.rh, f.rg, ?_, fun j x e => ?_, fun j b hb => ?_, fun j k b h2 h3 => ?_⟩
  · unfold L2.start envOf
    simp [hd.len]
  · have q := slot_env e
    cases j with
    | zero =>
      cases q
      obtain ⟨v', h2, h3⟩ := f.at_ 0 (.obj none c fs) rfl
      cases h2
      obtain ⟨a', dx', vs', ps', ea, _, h4⟩ := h3
      cases ea
      exact ⟨_, start_get rfl, a, dx', vs', ps', rfl, fun b e => by cases e; rfl, h4⟩
    | succ j =>
      rw [List.getElem?_cons_succ, List.getElem?_map] at q
      obtain ⟨d, hdj, rfl⟩ := Option.map_eq_some_iff.mp q
      obtain ⟨v, hv, hvd⟩ := hd.get hdj
      exact ⟨v, start_get (i := j + 1) hv, rfl, hvd⟩
  · by_cases q : j = 0
    · simp only [q, if_true] at hb
      exact f.fr 0 b hb
    · simp only [q, if_false] at hb; cases hb
  · by_cases q : j = 0
    · by_cases p : k = 0
      · rw [p, q]
      · simp only [p, if_false] at h3; cases h3
    · simp only [q, if_false] at h2; cases h2
theorem Has.backO {a : Addr} {c : CN} {fs : List Fld} (h : Has C rs G H σ r) (e : slot r 0 = some (.obj (some a) c fs)) : Has C rs G H [some (.ref a)] [some (.obj none c fs)] := by
  obtain ⟨fp, f⟩ := h
  obtain ⟨v, h1, a', dx, vs, ps, rfl, ht, h4⟩ := f.at_ 0 _ e
  cases ht a rfl
  refine ⟨fun j => if j = 0 then fp 0 else [], f.wd, f.rh, f.rg, rfl, fun j x ex => ?_, fun j b hb => ?_, fun j k b h2 h3 => ?_⟩
  · have hj := slot_lt ex
    have hj : j = 0 := by simpa using hj
    subst hj
    cases ex
    exact ⟨_, rfl, _, dx, vs, ps, rfl, (fun b e => by cases e), h4⟩
  · by_cases q : j = 0
    · simp only [q, if_true] at hb
      exact f.fr 0 b hb
    · simp only [q, if_false] at hb; cases hb
  · by_cases q : j = 0
    · by_cases p : k = 0
      · rw [p, q]
      · simp only [p, if_false] at h3; cases h3
    · simp only [q, if_false] at h2; cases h2
end

/-! ### contracts with an object of one's own -/
def spO (C : Cc) (c : CN) (n : Nat) (g : GO) : Sp := fun vs H Q _ => ∃ rs G a ws fs ds z, vs = .ref a :: ws ∧ Has C rs G H [some (.ref a)] [some (.obj none c fs)] ∧ DvL C G ws ds ∧ ds.length = n ∧ g fs ds = some z ∧
  ∀ v G' H', Has C rs G' H' [some (.ref a)] [some (.obj none c z.2)] → Ex G G' → Dv C G' v z.1 → Q v H'
/-- how a body with an object of one's own ends -/
def EndsO (a : Addr) (c : CN) (z : D × List Fld) : Res → Prop
  | .rt d r => d = z.1 ∧ slot r 0 = some (.obj (some a) c z.2)
  | .nx r => z.1 = .non ∧ slot r 0 = some (.obj (some a) c z.2)
  | .fail => False
section
variable {P : Program} {w : World} {K : PySem.W.Frag} {mg : Str → Option Value} {base : Heap} {x qual : Str} {params : Arguments} {body : List Stmt} {scope : Scope} {dvs : List V} {kws : List (Str × V)} {f : Addr} {fd : FuncData}
theorem fn_O {N ps : List Str} {k n : Nat} {c : CN} {g : GO} {Fd : Nat → ST} (F : FunD K x qual params body scope dvs kws f fd) (S : FnScope N ps scope) (hps : ps.length = n + 1)
    (hb : ∀ (m : Nat) (cdv : Value) (A : Around) (outer : List PySem.Env) (s : Shared) (H : Hp) (E : XK), Room k (A.deeper (envOfC qual scope s.heap.objs.size f cdv)) → FB (cxOf CX0 P w K mg base N qual scope f cdv A outer s H E).nox body (Fd m))
    (hF : ∀ fs ds z, g fs ds = some z → ∀ a, ∃ m, EndsO a c z (Fd m (envOf N (.obj (some a) c fs :: ds.map .dat)))) : FnOk P w K mg base CX0 (k + 1) f fd ps (spO ⟨P, w, K⟩ c n g) := by
  refine F.ok S (fun vs H Q E h => ?_) (fun cdv A outer s H vs Q E hr h => ?_)
  · obtain ⟨rs, G, a, ws, fs, ds, z, rfl, h1, hd, hl, _⟩ := h
    rw [List.length_cons, hd.len, hl, hps]
  · obtain ⟨rs, G, a, ws, fs, ds, z, rfl, h1, hd, hl, e1, q⟩ := h
    obtain ⟨m, hm⟩ := hF fs ds z e1 a
    refine ⟨_, (hb m cdv A outer s H E hr).nox, rs, G, _, h1.startO hd, ?_⟩
    revert hm
    cases Fd m (envOf N (.obj (some a) c fs :: ds.map .dat)) with
    | fail => exact fun h => h.elim
    | nx r2 => exact fun ⟨h, h5⟩ σ' G' H' h1 e2 => q .non G' H' (h1.backO h5) e2 (h ▸ .non)
    | rt d r2 => exact fun ⟨h, h5⟩ v σ' G' H' h1 e2 hv => q v G' H' (h1.backO h5) e2 (h ▸ hv)
end
theorem lookup_zip_none : ∀ {N : List Str} {vs : List V} {m : Str}, m ∉ N → (N.zip vs).lookup m = none
  | [], _, _, _ => rfl
  | _ :: _, [], _, _ => rfl
  | a :: N, w :: vs, m, h => by
    have hb : (m == a) = false := by
      simp only [beq_eq_false_iff_ne]
      rintro rfl
      exact h List.mem_cons_self
    rw [List.zip_cons_cons, List.lookup, hb]
    exact lookup_zip_none fun z => h (List.mem_cons_of_mem _ z)
theorem putF_zip : ∀ {N : List Str} {vs : List V} {n : Str} {v : V}, N.Nodup → N[vs.length]? = some n → putF n v (N.zip vs) = N.zip (vs ++ [v])
  | [], vs, _, _, _, h => by simp at h
  | a :: N, [], n, v, nd, h => by
    simp at h; subst h; simp [putF]
  | a :: N, w :: vs, n, v, nd, h => by
    have h' : N[vs.length]? = some n := by simpa using h
    have hne : ¬ a = n := by
      rintro rfl
      exact (List.nodup_cons.mp nd).1 (List.mem_of_getElem? h')
    show putF n v ((a, w) :: N.zip vs) = (a, w) :: N.zip (vs ++ [v])
    rw [show putF n v ((a, w) :: N.zip vs) = (if a = n then (a, v) :: N.zip vs else (a, w) :: putF n v (N.zip vs)) from rfl, if_neg hne, putF_zip (List.nodup_cons.mp nd).2 h']
theorem nth_lt {α : Type} {l : List α} {j : Nat} {x : α} (h : l[j]? = some x) : j < l.length := (List.getElem?_eq_some_iff.mp h).1
theorem fnames_le (c : CN) : (fnames c).length ≤ 5 := by cases c <;> decide

section
variable {X : Cx} {st : Stmt} {sts : List Stmt} {F F2 : ST} {e o value : Expr} {es : List Expr} {f g : EX} {fs : EXs} {pos pos' p apos : Pos} {x m : Str} {c : CN}
/-! ### attributes set -/
/-- self.f = e -/
theorem fs_fld (T : TxC X.K) (i : Nat) (c : CN) (j : Nat) {s : Str} {p2 : Pos} (h : PE X (.Name s p2) (tVar i)) (hv : FE X value f) (hj : (fnames c)[j]? = some x := by rfl) (hs : swapsWith value (some (.Attribute (.Name s p2) x pos')) pos.line X.env = pure false := by rfl) :
    FS X (.Assign [.Attribute (.Name s p2) x pos'] value pos) (DL.sFld i c j f) := PSimp (ps_fld h hv hs) fun D σ H ⟨rs, G, r, hs, q⟩ => by
  unfold DL.sFld at q
  obtain ⟨d, e1, q2⟩ := sBind_ok q
  split at q2 <;> first | exact q2.elim | skip
  rename_i t c' fs hsl
  split at q2 <;> first | exact q2.elim | skip
  rename_i hcc
  obtain ⟨rfl, hl⟩ := hcc
  refine ⟨rs, G, r, d, hs, e1, fun v G1 H1 s1 h1 => ?_⟩
  obtain ⟨fp, f⟩ := hs.step s1
  obtain ⟨a, dx, vs, h2, ha, hlen, k⟩ := f.addF hsl
  refine ⟨_, h2, a, _, dx, _, rfl, ha, T.cl c', T.no c' x (List.mem_of_getElem? hj), ?_, ?_⟩
  · have := fnames_le c'
    rw [List.length_zip]; omega
  · rw [putF_zip (fn_nd c') (by rw [hlen, hl]; exact hj)]
    exact q2 σ G1 _ (k G1 H1 (.dat d) v [] (f.wd.refl) ⟨rfl, h1⟩ (fun b hb => nomatch hb) List.nodup_nil (by rw [hl]; exact nth_lt hj)) s1.g
/-- self.f = [] -/
theorem fs_fldL (T : TxC X.K) (i : Nat) (c : CN) (j : Nat) {s : Str} {p2 pl : Pos} (h : PE X (.Name s p2) (tVar i)) (hj : (fnames c)[j]? = some x := by rfl) (hs : swapsWith (.List [] pl) (some (.Attribute (.Name s p2) x pos')) pos.line X.env = pure false := by rfl) :
    FS X (.Assign [.Attribute (.Name s p2) x pos'] (.List [] pl) pos) (sFldO i c j (.lst [])) := PSimp (ps_fld h (pe_lst pa_nil) hs) fun D σ H ⟨rs, G, r, hs, q⟩ => by
  unfold sFldO at q
  split at q <;> first | exact q.elim | skip
  rename_i t c' fs hsl
  split at q <;> first | exact q.elim | skip
  rename_i hcc
  obtain ⟨rfl, hl⟩ := hcc
  obtain ⟨fp, f⟩ := hs
  refine ⟨by decide, fun b hb => ?_⟩
  have st := f.wd.newH (o := .lst []) hb (fun xs z => nomatch z)
  obtain ⟨a, dx, vs, h2, ha, hlen, k⟩ := f.addF hsl
  refine ⟨_, h2, a, _, dx, _, rfl, st.h _ _ ha, T.cl c', T.no c' x (List.mem_of_getElem? hj), ?_, ?_⟩
  · have := fnames_le c'
    rw [List.length_zip]; omega
  · rw [putF_zip (fn_nd c') (by rw [hlen, hl]; exact hj)]
    refine q σ G _ (k G _ (.own (.lst [])) (.ref b) [b] st ⟨b, [], rfl, rfl, upd_same, .nil⟩ (fun y hy => ?_) (by simp) (by rw [hl]; exact nth_lt hj)) (.refl _)
    have e' : y = b := by simpa using hy
    subst e'
    exact ⟨hb, ex_none f.wd.gh hb, _, upd_same⟩
/-- self.f = {} -/
theorem fld_new {rs G H : Hp} {r : Env} {σ : L2.St} {D : Ends} {u : HO} {c1 : C1} {i j : Nat} {b : Addr} (T : TxC X.K) (hs : Has (ccOf X) rs G H σ r) (hj : (fnames c)[j]? = some x) (q : Pst (ccOf X) rs G D (sFldO i c j c1 r)) (hb : H b = none) (hu : ∀ xs, u ≠ .tup xs)
    (hc : ∀ H', H' b = some u → C1At (ccOf X) G H' (.ref b) c1 [b]) : ∃ y, σ[i]? = some (some y) ∧ ∃ a C dx fs, y = .ref a ∧ upd H b u a = some (.ins C dx fs) ∧ Cls X.K C ∧ NoAttr X.K C x ∧ fs.length < 1000 ∧ D.nx σ (upd (upd H b u) a (.ins C dx (putF x (.ref b) fs))) := by
  unfold sFldO at q
  split at q <;> first | exact q.elim | skip
  rename_i t c' fs hsl
  split at q <;> first | exact q.elim | skip
  rename_i hcc
  obtain ⟨rfl, hl⟩ := hcc
  obtain ⟨fp, f⟩ := hs
  have st := f.wd.newH (o := u) hb hu
  obtain ⟨a, dx, vs, h2, ha, hlen, k⟩ := f.addF hsl
  refine ⟨_, h2, a, _, dx, _, rfl, st.h _ _ ha, T.cl c', T.no c' x (List.mem_of_getElem? hj), ?_, ?_⟩
  · have := fnames_le c'
    rw [List.length_zip]; omega
  · rw [putF_zip (fn_nd c') (by rw [hlen, hl]; exact hj)]
    refine q σ G _ (k G _ (.own c1) (.ref b) [b] st (hc _ upd_same) (fun y hy => ?_) (by simp) (by rw [hl]; exact nth_lt hj)) (.refl _)
    have e' : y = b := by simpa using hy
    subst e'
    exact ⟨hb, ex_none f.wd.gh hb, _, upd_same⟩
theorem fs_fldI (T : TxC X.K) (i : Nat) (c : CN) (j : Nat) {s : Str} {p2 pd : Pos} (h : PE X (.Name s p2) (tVar i)) (hj : (fnames c)[j]? = some x := by rfl) (hs : swapsWith (.Dict [] [] pd) (some (.Attribute (.Name s p2) x pos')) pos.line X.env = pure false := by rfl) :
    FS X (.Assign [.Attribute (.Name s p2) x pos'] (.Dict [] [] pd) pos) (sFldO i c j (.dic .i [])) := PSimp (ps_fld h pe_dnewK hs) fun D σ H ⟨rs, G, r, hs, q⟩ => fun b hb =>
  fld_new T hs hj q hb (fun xs z => nomatch z) fun H' hh => ⟨b, _, [], rfl, rfl, hh, ⟨[], rfl, rfl, rfl⟩, .nil⟩
theorem fs_fldX (T : TxC X.K) (i : Nat) (c : CN) (j : Nat) (κ : KK) {s : Str} {p2 pd : Pos} (h : PE X (.Name s p2) (tVar i)) (hκ : κ ≠ .i := by decide) (hj : (fnames c)[j]? = some x := by rfl) (hs : swapsWith (.Dict [] [] pd) (some (.Attribute (.Name s p2) x pos')) pos.line X.env = pure false := by rfl) :
    FS X (.Assign [.Attribute (.Name s p2) x pos'] (.Dict [] [] pd) pos) (sFldO i c j (.dic κ [])) := PSimp (ps_fld h pe_dnewX hs) fun D σ H ⟨rs, G, r, hs, q⟩ => fun b hb =>
  fld_new T hs hj q hb (fun xs z => nomatch z) fun H' hh => ⟨b, _, [], rfl, rfl, hh, drep_mk (xs := []) hκ dob_nil (fun x hx => by cases hx), .nil⟩
theorem fs_fldB (T : TxC X.K) (i : Nat) (c : CN) (j : Nat) {s : Str} {p2 pd : Pos} (h : PE X (.Name s p2) (tVar i)) (hj : (fnames c)[j]? = some x := by rfl) (hs : swapsWith (.Dict [] [] pd) (some (.Attribute (.Name s p2) x pos')) pos.line X.env = pure false := by rfl) :
    FS X (.Assign [.Attribute (.Name s p2) x pos'] (.Dict [] [] pd) pos) (sFldO i c j (.dil [])) := PSimp (ps_fld h pe_dnewX hs) fun D σ H ⟨rs, G, r, hs, q⟩ => fun b hb =>
  fld_new T hs hj q hb (fun xs z => nomatch z) fun H' hh => ⟨b, _, [], rfl, rfl, by simp, hh, drep_mk (κ := .t) (xs := []) (by decide) dob_nil (fun x hx => by cases hx), .nil⟩
/-! ### methods -/
structure CalM (P : Program) (w : World) (K : PySem.W.Frag) (mg : Str → Option Value) (base : Heap) (k : Nat) (c : CN) (m : Str) (n : Nat) (gf : List D → Option D) : Prop where
  ex : ∃ f fd ps, ps.length = n ∧ FnOk P w K mg base CX0 k f fd ps (spD ⟨P, w, K⟩ n gf) ∧ Meth K (He.ga K (cname c)) m f ∧ Binds K fd ps []
  len : ∀ ds z, gf ds = some z → ds.length = n
  obj : ∀ d ds z, gf (d :: ds) = some z → ∃ fs, objD c d = some fs
  nm : m ∉ fnames c
structure CalO (P : Program) (w : World) (K : PySem.W.Frag) (mg : Str → Option Value) (base : Heap) (k : Nat) (c : CN) (m : Str) (n : Nat) (g : GO) : Prop where
  ex : ∃ f fd ps, ps.length = n + 1 ∧ FnOk P w K mg base CX0 k f fd ps (spO ⟨P, w, K⟩ c n g) ∧ Meth K (He.ga K (cname c)) m f ∧ Binds K fd ps []
  len : ∀ fs ds z, g fs ds = some z → ds.length = n
  nm : m ∉ fnames c
structure CalG (P : Program) (w : World) (K : PySem.W.Frag) (mg : Str → Option Value) (base : Heap) (k : Nat) (c : CN) (x : Str) (n : Nat) (g : GO) : Prop where
  ex : ∃ f fd ps, ps.length = n + 1 ∧ FnOk P w K mg base CX0 k f fd ps (spO ⟨P, w, K⟩ c n g) ∧ mg x = some (.ref f) ∧ PySem.W.keepIn K (.ref f) = true ∧ Binds K fd ps []
  len : ∀ fs ds z, g fs ds = some z → ds.length = n
structure CalI (P : Program) (w : World) (K : PySem.W.Frag) (mg : Str → Option Value) (base : Heap) (k : Nat) (c : CN) (n : Nat) (g : GO) : Prop where
  ex : ∃ f fd ps, ps.length = n + 1 ∧ FnOk P w K mg base CX0 k f fd ps (spO ⟨P, w, K⟩ c n g) ∧ Mk K (He.ga K (cname c)) f ∧ mg (cname c) = some (.ref (He.ga K (cname c))) ∧ Binds K fd ps []
  len : ∀ fs ds z, g fs ds = some z → ds.length = n
  non : ∀ ds z, g [] ds = some z → z.1 = .non
/-- o.m(e, ..), o data -/
theorem fe_methC {k k' n : Nat} {gf : List D → Option D} {pl : Sem Bool} (T : TxC X.K) (cl : CalM X.prog X.w X.K X.mg X.base k c m n gf) (hr : Room k' X.A) (ho : FE X o f) (ha : FA X (e :: es) fs) (hk : k ≤ k' := by decide)
    (hst : starEach (e :: es) X.env = (false, eval e X.env) :: starEach es X.env := by rfl) (hpl : (backTo pos (starEach es X.env)).any (·.1) = false := by rfl)
    (ht : eval (.Call (.Attribute o m apos) (e :: es) [] pos) X.env = (do
      let ov ← eval o X.env
      standAt apos.atName
      let (f, first) ← holding [ov] (getMethod ov m pl)
      callWith pos f first (backTo pos (starEach (e :: es) X.env)) (backToKw pos (keywordEach [] X.env))) := by rfl) :
    FE X (.Call (.Attribute o m apos) (e :: es) [] pos) (eCall gf (aC f fs)) := by
  obtain ⟨fa, fd, ps, rfl, F, hm, hb⟩ := cl.ex
  refine PEimp (pe_meth (dvs := []) (E := E0) ho (T.cl c) hm F (hr.mono hk) hb .nil pass0 ha hst hpl ht) fun σ H Q ⟨rs, G, r, d, hs, ev, q⟩ => ?_
  obtain ⟨ds, e1, e2⟩ := Option.bind_eq_some_iff.mp ev
  obtain ⟨d0, e3, e1⟩ := Option.bind_eq_some_iff.mp e1
  obtain ⟨ds', e4, e1⟩ := Option.bind_eq_some_iff.mp e1
  cases e1
  obtain ⟨fls, e5⟩ := cl.obj _ _ _ e2
  refine ⟨rs, G, r, d0, hs, e3, fun v G1 H1 s1 h1 => ?_⟩
  obtain ⟨a, dx, vs, rfl, ha, hl⟩ := h1.obj_ e5
  refine ⟨a, dx, _, rfl, s1.wd.gh _ _ ha, lookup_zip_none cl.nm, rs, G1, r, ds', hs.step s1, e4, fun us G2 H2 s2 h2 => ?_⟩
  refine ⟨G2, d0 :: ds', d, s2.wd, by rw [List.append_nil]; exact .cons (h1.mono s2.g) h2, cl.len _ _ e2, e2, fun v G3 H3 s3 h3 => q v G3 H3 ((s1.trans s2).trans s3) h3⟩
/-- what a call with an object of one's own does -/
theorem meth_read {rs G H : Hp} {r : Env} {σ : L2.St} {D : Ends} {i : Nat} {n : Nat} {gm : GO} {Qv : V → Hp → Prop} {t : Option Addr} {fls : List Fld} {ds : List DL.D} {z : DL.D × List Fld} (hs : Has (ccOf X) rs G H σ r) (hsl : slot r i = some (.obj t c fls)) (e2 : gm fls ds = some z) (hn : ds.length = n)
    (q : ∀ v G' H', Has (ccOf X) rs G' H' σ (r.set i (some (.obj t c z.2))) → Ex G G' → Dv (ccOf X) G' v z.1 → Qv v H') {us : List V} (hu : DvL (ccOf X) G us ds) : ∃ a, σ[i]? = some (some (.ref a)) ∧ spO (ccOf X) c n gm (.ref a :: us) H Qv E0 := by
  obtain ⟨a, rs', h1, ht, h2, k⟩ := hs.lend hsl
  exact ⟨a, h1, rs', G, a, us, fls, ds, z, rfl, h2, hu, hn, e2, fun v G' H' h3 eg hv => q v G' H' (k G' H' _ eg h3) eg hv⟩
/-- o.m(e, ..), o of one's own -/
theorem fs_meth {k k' n : Nat} {gm : GO} {pl : Sem Bool} (T : TxC X.K) (i : Nat) (cl : CalO X.prog X.w X.K X.mg X.base k c m n gm) (hr : Room k' X.A) {s : Str} {p2 : Pos} (h : PE X (.Name s p2) (tVar i)) (ha : FA X (e :: es) fs) (hk : k ≤ k' := by decide)
    (hs : swapsWith (.Call (.Attribute (.Name s p2) m apos) (e :: es) [] pos) none pos'.line X.env = pure false := by rfl)
    (hst : starEach (e :: es) X.env = (false, eval e X.env) :: starEach es X.env := by rfl) (hpl : (backTo pos (starEach es X.env)).any (·.1) = false := by rfl)
    (ht : eval (.Call (.Attribute (.Name s p2) m apos) (e :: es) [] pos) X.env = (do
      let ov ← eval (.Name s p2) X.env
      standAt apos.atName
      let (f, first) ← holding [ov] (getMethod ov m pl)
      callWith pos f first (backTo pos (starEach (e :: es) X.env)) (backToKw pos (keywordEach [] X.env))) := by rfl) :
    FS X (.Expr (.Call (.Attribute (.Name s p2) m apos) (e :: es) [] pos) pos') (sMeth i c gm fs) := by
  obtain ⟨fa, fd, ps, hps, F, hm, hb⟩ := cl.ex
  refine PSimp (ps_expr (pe_meth (dvs := []) (E := E0) h (T.cl c) hm F (hr.mono hk) hb .nil pass0 ha hst hpl ht) hs) fun D σ H ⟨rs, G, r, hs, q⟩ => ?_
  unfold sMeth at q
  split at q <;> first | exact q.elim | skip
  rename_i t c' fls hsl
  split at q <;> first | exact q.elim | skip
  rename_i hcc
  subst hcc
  obtain ⟨ds, e1, q⟩ := sBind_ok q
  obtain ⟨z, e2, q⟩ := sBind_ok q
  obtain ⟨a, h1⟩ : ∃ a, σ[i]? = some (some (.ref a)) := let ⟨a, _, h1, _⟩ := hs.lend hsl; ⟨a, h1⟩
  obtain ⟨dx, vs, hins⟩ : ∃ dx vs, H a = some (.ins ((ccOf X).ca c') dx ((fnames c').zip vs)) := by
    obtain ⟨fp, f⟩ := hs
    obtain ⟨v0, h2, a', dx, vs, ps, rfl, ht, ha, _⟩ := f.at_ i _ hsl
    rw [h1] at h2; cases h2
    exact ⟨dx, vs, ha⟩
  refine ⟨_, h1, a, dx, _, rfl, hins, lookup_zip_none cl.nm, rs, G, r, ds, hs, e1, fun us G1 H1 s1 hu => ?_⟩
  obtain ⟨a', h1', sp⟩ := meth_read (D := D) (n := n) (Qv := fun _ H3 => D.nx σ H3) (hs.step s1) hsl e2 (cl.len _ _ _ e2) (fun v G' H' h3 eg hv => q σ G' H' h3 (s1.g.trans eg)) hu
  rw [h1] at h1'; cases h1'
  rw [List.append_nil]
  exact sp
/-- x = f(o, e, ..) with o of one's own -/
theorem fs_callO {k k' n : Nat} {gm : GO} (j i : Nat) {y : Str} {py pn : Pos} (hN : X.N.Nodup) (cl : CalG X.prog X.w X.K X.mg X.base k c x n gm) (hr : Room k' X.A) (hg : Gl X x) {s : Str} {p2 : Pos} (h : PE X (.Name s p2) (tVar i)) (ha : FA X (e :: es) fs) (hk : k ≤ k' := by decide)
    (hi : X.N[j]? = some y := by rfl) (hx : Loc X.env.scope y := by first | exact .inl rfl | exact .inr rfl)
    (hs : swapsWith (.Call (.Name x pn) (.Name s p2 :: e :: es) [] pos) (some (.Name y py)) pos'.line X.env = pure false := by rfl)
    (hf : X.fn y = true ∨ X.env.scope.names.lookup y = some .local := by first | exact .inl rfl | exact .inr rfl | assumption)
    (hdb : (x == ("__debug__" : Str)) = false := by decide)
    (he : starEach (.Name s p2 :: e :: es) X.env = (false, eval (.Name s p2) X.env) :: starEach (e :: es) X.env := by rfl) (hpl : (backTo pos (starEach (e :: es) X.env)).any (·.1) = false := by rfl) :
    FS X (.Assign [.Name y py] (.Call (.Name x pn) (.Name s p2 :: e :: es) [] pos) pos') (sCallO j i c gm fs) := by
  obtain ⟨fa, fd, ps, hps, F, hm, hkp, hb⟩ := cl.ex
  refine PSimp (ps_set (i := j) hN hi hx (pe_call (dvs := []) (E := E0) F (hr.mono hk) hg hm hkp hb .nil pass0 (pa_cons h ha he) hdb he hpl) hs hf) fun D σ H ⟨rs, G, r, hs, q⟩ => ?_
  unfold sCallO at q
  split at q <;> first | exact q.elim | skip
  rename_i t c' fls hsl
  split at q <;> first | exact q.elim | skip
  rename_i hcc
  subst hcc
  obtain ⟨ds, e1, q⟩ := sBind_ok q
  obtain ⟨z, e2, q⟩ := sBind_ok q
  obtain ⟨a, h1⟩ : ∃ a, σ[i]? = some (some (.ref a)) := let ⟨a, _, h1, _⟩ := hs.lend hsl; ⟨a, h1⟩
  refine ⟨_, h1, rs, G, r, ds, hs, e1, fun us G1 H1 s1 hu => ?_⟩
  obtain ⟨a', h1', sp⟩ := meth_read (D := D) (n := n) (Qv := fun v H3 => D.nx (σ.set j (some v)) H3) (hs.step s1) hsl e2 (cl.len _ _ _ e2) (fun v G' H' h3 eg hv => q _ G' H' (h3.setD hv) (s1.g.trans eg)) hu
  rw [h1] at h1'; cases h1'
  rw [List.append_nil]
  exact sp
/-! ### instances made -/
theorem obj_new {C : Cc} {rs G H : Hp} {σ : L2.St} {r : Env} {fp : Nat → List Addr} (f : HasF C rs G H σ r fp) (c : CN) {x dx : Addr} (hx : H x = none) (hd : H dx = none) (ne : dx ≠ x) (i : Nat) :
    HasF C rs G (upd (upd H dx (.own x)) x (.ins (C.ca c) dx [])) (σ.set i (some (.ref x))) (r.set i (some (.obj none c []))) (fun j => if j = i then [x, dx] else fp j) := by
  have s1 := f.wd.newH (o := .own x) hd (fun xs z => nomatch z)
  have hx1 : upd H dx (.own x) x = none := by rw [upd_ne (fun z => ne z.symm)]; exact hx
  have s2 := s1.wd.newH (o := .ins (C.ca c) dx []) hx1 (fun xs z => nomatch z)
  have f2 := f.step (s1.trans s2)
  refine f2.put (i := i) (x := .obj none c []) (v := .ref x) (q := [x, dx]) ⟨x, dx, [], [], rfl, (fun b e => by cases e), ?_, ?_, Nat.zero_le _, .nil, rfl, ?_⟩ (fun b hb => ?_) (fun j b hj hb => ?_)
  · rw [upd_same, List.zip_nil_right]
  · rw [upd_ne ne, upd_same]
  · simp [Ne.symm ne]
  · rcases List.mem_cons.mp hb with z | z
    · subst z
      exact ⟨ex_none f.wd.gh hx, ex_none f.rh hx, _, upd_same⟩
    · have z : b = dx := by simpa using z
      subst z
      exact ⟨ex_none f.wd.gh hd, ex_none f.rh hd, _, by rw [upd_ne ne, upd_same]⟩
  · intro z
    obtain ⟨_, _, o, ho⟩ := f.fr j b z
    rcases List.mem_cons.mp hb with y | y
    · subst y; rw [hx] at ho; cases ho
    · have y : b = dx := by simpa using y
      subst y; rw [hd] at ho; cases ho
/-- x = C(e, ..), an object of one's own -/
theorem fs_make {k k' n : Nat} {gm : GO} (j : Nat) {y : Str} {py pn : Pos} (hN : X.N.Nodup) (cl : CalI X.prog X.w X.K X.mg X.base k c n gm) (hr : Room k' X.A) (hg : Gl X (cname c)) (ha : FA X (e :: es) fs) (hk : k + 1 ≤ k' := by decide)
    (hi : X.N[j]? = some y := by rfl) (hx : Loc X.env.scope y := by first | exact .inl rfl | exact .inr rfl)
    (hs : swapsWith (.Call (.Name (cname c) pn) (e :: es) [] pos) (some (.Name y py)) pos'.line X.env = pure false := by rfl)
    (hf : X.fn y = true ∨ X.env.scope.names.lookup y = some .local := by first | exact .inl rfl | exact .inr rfl | assumption)
    (hdb : (cname c == ("__debug__" : Str)) = false := by decide)
    (he : starEach (e :: es) X.env = (false, eval e X.env) :: starEach es X.env := by rfl) (hpl : (backTo pos (starEach es X.env)).any (·.1) = false := by rfl) :
    FS X (.Assign [.Name y py] (.Call (.Name (cname c) pn) (e :: es) [] pos) pos') (sMake j c gm fs) := by
  obtain ⟨fa, fd, ps, hps, F, M, hm, hb⟩ := cl.ex
  refine PSimp (ps_set (i := j) hN hi hx (pe_make (dvs := []) (E := E0) M F (hr.mono hk) hg hm hb .nil pass0 ha hdb he hpl) hs hf) fun D σ H ⟨rs, G, r, hs, q⟩ => ?_
  obtain ⟨ds, e1, q⟩ := sBind_ok q
  obtain ⟨z, e2, q⟩ := sBind_ok q
  split at q <;> first | exact q.elim | skip
  rename_i hj
  refine ⟨rs, G, r, ds, hs, e1, fun us G1 H1 s1 hu x dx hx hd ne => ?_⟩
  obtain ⟨fp, f⟩ := hs.step s1
  have f2 := obj_new f c hx hd ne j
  have e3 : slot (r.set j (some (SV.obj none c []))) j = some (.obj none c []) := by rw [slot_set, if_pos ⟨rfl, hj⟩]
  obtain ⟨a, rs', h1, _, h2, kb⟩ := (show Has _ _ _ _ _ _ from ⟨_, f2⟩).lend e3
  have ea : a = x := by
    rw [List.getElem?_set_self (by rw [f.len]; exact hj)] at h1
    cases h1; rfl
  subst ea
  rw [List.append_nil]
  refine ⟨rs', G1, a, us, [], ds, z, rfl, h2, hu, cl.len _ _ _ e2, e2, fun v G' H' h3 eg hv => ⟨?_, ?_⟩⟩
  · rw [cl.non _ _ e2] at hv
    cases hv; rfl
  · have h4 := kb G' H' _ eg h3
    have e4 : (r.set j (some (SV.obj none c []))).set j (some (.obj none c z.2)) = r.set j (some (.obj none c z.2)) := by simp
    rw [e4] at h4
    exact q _ G' H' h4 (s1.g.trans eg)
theorem flds_dv {C : Cc} {G H : Hp} : ∀ {vs : List V} {fs : List Fld} {ps : List (List Addr)} {ds : List D}, FlsAt C G H vs fs ps → fldsD fs = some ds → DvL C G vs ds ∧ ps.flatten = []
  | _, _, _, _, .nil, e => by cases e; exact ⟨.nil, rfl⟩
  | _, .dat d :: fs, _, ds, .cons h t, e => by
    obtain ⟨ds', e1, rfl⟩ := Option.map_eq_some_iff.mp e
    obtain ⟨h1, h2⟩ := flds_dv t e1
    refine ⟨.cons h.2 h1, ?_⟩
    rw [List.flatten_cons, h2, h.1]; rfl
  | _, .own c :: fs, _, ds, .cons h t, e => by cases e
/-- C(e, ..) as data -/
theorem fe_make {k k' n : Nat} {gm : GO} {pn : Pos} (cl : CalI X.prog X.w X.K X.mg X.base k c n gm) (hr : Room k' X.A) (hg : Gl X (cname c)) (ha : FA X (e :: es) fs) (hk : k + 1 ≤ k' := by decide)
    (hdb : (cname c == ("__debug__" : Str)) = false := by decide)
    (he : starEach (e :: es) X.env = (false, eval e X.env) :: starEach es X.env := by rfl) (hpl : (backTo pos (starEach es X.env)).any (·.1) = false := by rfl) :
    FE X (.Call (.Name (cname c) pn) (e :: es) [] pos) (eMake c gm fs) := by
  obtain ⟨fa, fd, ps, hps, F, M, hm, hb⟩ := cl.ex
  refine PEimp (pe_make (dvs := []) (E := E0) M F (hr.mono hk) hg hm hb .nil pass0 ha hdb he hpl) fun σ H Q ⟨rs, G, r, d, hs, ev, q⟩ => ?_
  obtain ⟨ds, e1, ev⟩ := Option.bind_eq_some_iff.mp ev
  obtain ⟨z, e2, ev⟩ := Option.bind_eq_some_iff.mp ev
  obtain ⟨fls, e3, rfl⟩ := Option.map_eq_some_iff.mp ev
  refine ⟨rs, G, r, ds, hs, e1, fun us G1 H1 s1 hu x dx hx hd ne => ?_⟩
  have w1 := s1.wd
  have f0 : HasF (ccOf X) (restOf G1 H1) G1 H1 [none] [none] (fun _ => []) := ⟨w1, fun a o e => (restOf_some e).2, fun a o e => (restOf_some e).1, rfl, fun i x e => (by
      have hj := slot_lt e
      have hj : i = 0 := by simpa using hj
      subst hj; cases e), fun i a ha => (by cases ha), fun i j a ha => (by cases ha)⟩
  have f2 := obj_new f0 c hx hd ne 0
  rw [List.append_nil]
  refine ⟨restOf G1 H1, G1, x, us, [], ds, z, rfl, ⟨_, f2⟩, hu, cl.len _ _ _ e2, e2, fun v G' H' h3 eg hv => ⟨?_, ?_⟩⟩
  · rw [cl.non _ _ e2] at hv
    cases hv; rfl
  · obtain ⟨fp, f3⟩ := h3
    obtain ⟨v0, h4, a', dx', vs', ps', rfl, _, ha', hdx', hlen', hfs', hfp', hnd'⟩ := f3.at_ 0 _ rfl
    cases h4
    obtain ⟨hdv, hpe⟩ := flds_dv hfs' e3
    rw [hpe] at hfp'
    rw [hfp'] at hnd'
    obtain ⟨gx, rx, _⟩ := f3.fr 0 x (by rw [hfp']; simp)
    obtain ⟨gd, rdx, _⟩ := f3.fr 0 dx' (by rw [hfp']; simp)
    have hne : x ≠ dx' := by simpa using hnd'
    have hdn : H1 dx' = none := by
      cases y : H1 dx' with
      | none => rfl
      | some u =>
        cases g : G1 dx' with
        | some u' => rw [eg _ _ g] at gd; cases gd
        | none => rw [restOf_none y g] at rdx; cases rdx
    refine q (.ref x) (upd (upd G' dx' (.own x)) x (.ins ((ccOf X).ca c) dx' ((fnames c).zip vs'))) H' (s1.trans ⟨fun b o eb => ?_, fun b o eb => ?_, fun b o eb => ?_, fun b o eb => ?_, fun b xs eb => ?_⟩) (.obj upd_same (hdv.mono fun b o eb => ?_))
    · have := eg b o eb
      rw [upd_ne (fun y => by rw [y, gx] at this; cases this), upd_ne (fun y => by rw [y, gd] at this; cases this)]
      exact this
    · cases g : G1 b with
      | some u =>
        have := w1.gh b u g
        rw [eb] at this; cases this
        exact f3.wd.gh b o (eg b o g)
      | none => exact f3.rh b o (restOf_none eb g)
    · by_cases y : b = x
      · subst y; rw [upd_same] at eb; cases eb; exact ha'
      · rw [upd_ne y] at eb
        by_cases y2 : b = dx'
        · subst y2; rw [upd_same] at eb; cases eb; exact hdx'
        · rw [upd_ne y2] at eb; exact f3.wd.gh b o eb
    · by_cases y : b = x
      · subst y; exact .inr hx
      · rw [upd_ne y] at eb
        by_cases y2 : b = dx'
        · subst y2; exact .inr hdn
        · rw [upd_ne y2] at eb
          cases g : G1 b with
          | some u =>
            have := eg b u g
            rw [eb] at this; cases this
            exact .inl rfl
          | none =>
            cases hh : H1 b with
            | none => exact .inr rfl
            | some u =>
              have := f3.rg b u (restOf_none hh g)
              rw [eb] at this; cases this
    · by_cases y : b = x
      · subst y; rw [ha'] at eb; cases eb
      · rw [upd_ne y]
        by_cases y2 : b = dx'
        · subst y2; rw [hdx'] at eb; cases eb
        · rw [upd_ne y2]; exact f3.wd.tg b xs eb
    · rw [upd_ne (fun y => by rw [y, gx] at eb; cases eb), upd_ne (fun y => by rw [y, gd] at eb; cases eb)]
      exact eb
end
end DL
end

section
set_option Elab.async false
set_option linter.all false
set_option maxRecDepth 100000
set_option maxHeartbeats 2000000
/-! D1k: list, sorted, repr, isinstance, xs[::-1]. -/
namespace DL
open PySem PySem.Spec PyProof.Rows L2

section
variable {X : Cx} {pins : List (Addr × Obj)} {σ : L2.St} {rs G H : Hp} {r : Env} {s : Shared} {a : Addr} {κ : KK} {kvs : List (List Int × D)} {y : V} {d z : D} {u : Value} {E : Value → Shared → Prop} {e e0 b : Expr} {es : List Expr} {f g : EX} {fs : EXs} {pos pos' p2 apos cpos : Pos} {x : Str} {p : Pl}
theorem vrefs : ∀ bs : List Addr, Vals (bs.map V.ref) (bs.map Value.ref)
  | [] => .nil
  | _ :: t => .cons rfl (vrefs t)
/-! ### list(a dict) -/
theorem dg_keys {Q : Value → Shared → Prop} (hκ : κ ≠ .i) (hc : X.calm = true) (I : L2.Inv X pins σ H s) (w : Wd G H) (h : DicAt (ccOf X) κ G H a kvs)
    (q : ∀ (t : Addr) (vs : List V) (s' : Shared), H t = none → DvL (ccOf X) G vs (kvs.map fun p => ofKey κ p.1) → vs.length ≤ sizeLine → L2.Inv X pins σ (upd H t (.lst vs)) s' → Q (.ref t) s') : wpAny (model X.prog X.w) X.A (call (.type "list") [.ref a]) Q E s := by
  obtain ⟨uo, vs, hU, hr, hl⟩ := h
  obtain ⟨o, xs, rfl, hd, ht, e1, rfl⟩ := drep_X hκ hr
  obtain ⟨⟨ho, hs⟩, _, _⟩ := (show ObjOk X.prog X.w H s.heap a (eO a o) from hU.ok I.hok)
  have hz := hd.2.1
  obtain ⟨es, ep, hdt, hxd, hsz, ent⟩ := eo_data hd
  have hk := keys_dv (C := ccOf X) hκ ht e1
  refine PySem.W.kdl_call (kdl_raw hs hxd hdt) (I.ok.hd hc) ho (by rw [hsz]; exact hz) fun h' tk acc c kp e it => ?_
  have ea : acc.toList = (xs.map (·.2.1)).map Value.ref := by
    have hlen : acc.toList.length = xs.length := by rw [Array.length_toList, it.1, hsz]
    apply List.ext_getElem?
    intro j
    rw [List.map_map, List.getElem?_map]
    cases hj : acc.toList[j]? with
    | none => rw [List.getElem?_eq_none (by rw [← hlen]; exact List.getElem?_eq_none_iff.mp hj)]; rfl
    | some v =>
      obtain ⟨en, hen, hv⟩ := it.2 j v (by rw [← Array.getElem?_toList]; exact hj)
      have hjx : j < xs.length := by rw [← hlen]; exact nth_lt hj
      obtain ⟨en', h1, h2, _⟩ := ent j xs[j] (List.getElem?_eq_getElem hjx)
      rw [hen] at h1
      cases h1
      rw [List.getElem?_eq_getElem hjx, hv, h2]
      rfl
  have rv : Vals ((xs.map (·.2.1)).map V.ref) acc.toList := by rw [ea]; exact vrefs _
  have hz2 : ((xs.map (·.2.1)).map V.ref).length ≤ sizeLine := by simpa using hz
  exact q _ _ _ (I.hok.fresh (Nat.le_refl _)) hk hz2 (I.laid (t' := tk) (o := .lst ((xs.map (·.2.1)).map V.ref)) kp (Nat.le_refl _) ⟨hz2, acc.toList, c, rv, by rw [Array.toArray_toList]; exact e⟩)
def gKeys (κ : KK) : List D → Option D
  | [d] => (dicD κ d).map fun kvs => .lst (kvs.map fun p => ofKey κ p.1)
  | _ => none
theorem fc_keys (hc : X.calm = true) (hκ : κ ≠ .i := by decide) : CallR X (.type "list") (rcC (ccOf X) (gKeys κ)) := by
  intro pins s σ H xs us Q I rx ⟨G, ds, z, w, hd, ev, k⟩
  unfold gKeys at ev
  split at ev
  · obtain ⟨kvs, e1, e2⟩ := Option.map_eq_some_iff.mp ev
    subst e2
    obtain ⟨v, rfl, hv⟩ := one_of hd
    obtain ⟨a, rfl, hda⟩ := hv.dicAt w e1
    obtain ⟨u, rfl, ru⟩ := vals1 rx
    cases (show u = Value.ref a from ru)
    refine dg_keys hκ hc I w hda fun t vs s' ht hvs hz I' => ?_
    have s2 := w.new (.lst vs) ht
    exact ⟨.ref t, _, I', rfl, k _ _ _ s2 (.lst upd_same (hvs.mono s2.g))⟩
  · cases ev
/-- list(p) of a dict of one's own -/
def rKeysO (C : Cc) (κ : KK) : List V → Hp → VK → Prop := fun xs H Q => ∃ G a kvs, κ ≠ .i ∧ Wd G H ∧ xs = [.ref a] ∧ DicAt C κ G H a kvs ∧ ∀ t vs, H t = none → DvL C G vs (kvs.map fun p => ofKey κ p.1) → Q (.ref t) (upd H t (.lst vs))
theorem call_keysO (hc : X.calm = true) : CallR X (.type "list") (rKeysO (ccOf X) κ) := by
  intro pins s σ H xs us Q I r ⟨G, a, kvs, hκ, w, ex, hd, q⟩
  subst ex
  obtain ⟨u, rfl, ru⟩ := vals1 r
  cases (show u = Value.ref a from ru)
  exact dg_keys hκ hc I w hd fun t vs s' ht hvs hz I' => ⟨.ref t, _, I', rfl, q t vs ht hvs⟩
theorem fs_keysO (k : Nat) {o : Expr} {pn : Pos} (hc : X.calm = true) (hN : X.N.Nodup) (ho : FP X o p) (hg : Gl X "list") (hm : X.mg "list" = none) (hκ : κ ≠ .i := by decide) (hi : X.N[k]? = some x := by rfl) (hx : Loc X.env.scope x := by first | exact .inl rfl | exact .inr rfl)
    (hs : swapsWith (.Call (.Name "list" pn) [o] [] pos) (some (.Name x p2)) pos'.line X.env = pure false := by rfl)
    (hf : X.fn x = true ∨ X.env.scope.names.lookup x = some .local := by first | exact .inl rfl | exact .inr rfl | assumption)
    (hst : starEach (o :: []) X.env = (false, eval o X.env) :: starEach [] X.env := by rfl) (hpl : (backTo pos (starEach [] X.env)).any (·.1) = false := by rfl) :
    FS X (.Assign [.Name x p2] (.Call (.Name "list" pn) [o] [] pos) pos') (sOwn k (cKeys κ p)) :=
  PSimp (ps_set (i := k) hN hi hx (pe_callTy (call_keysO (κ := κ) hc) hg hm (by decide +kernel) (pa_cons ho pa_nil hst) (by decide) (by decide) hst hpl) hs hf) fun D σ H ⟨rs, G, r, hs, q⟩ => by
    obtain ⟨c, e1, q⟩ := sBind_ok q
    obtain ⟨kvs, e2, e3⟩ := Option.bind_eq_some_iff.mp e1
    cases e3
    obtain ⟨c, e4, e5⟩ := Option.bind_eq_some_iff.mp e2
    obtain ⟨a, uo, vs, hv, hu, ha, _, hr, hl, _⟩ := hs.plD e2
    refine ⟨rs, G, r, c, hs, e4, fun v hv' => ?_⟩
    cases hu v hv'
    refine ⟨G, a, kvs, hκ, hs.wd, rfl, ⟨uo, vs, .inl ha, hr, hl⟩, fun t ws ht hw => ?_⟩
    obtain ⟨fp, hf⟩ := hs
    exact q _ G _ (hf.newO (k := k) (u := .lst ws) (c := .lst (kvs.map fun q => ofKey κ q.1)) ht (fun xs z => nomatch z) ⟨t, ws, rfl, rfl, upd_same, hw⟩) (.refl _)
/-! ### xs[::-1] of a list of one's own, -1 -/
def pRev (p : Pl) : EX := fun r => ((getP r p).bind c1L).bind fun l => some (.lst l.reverse)
theorem fe_prev {k : Nat} {o : Expr} {q1 q2 q3 : Pos} (ho : FP X o p) : FE X (.Subscript o (.Slice none none (some (.UnaryOp .USub (.Constant (.int 1) k q1) q2)) q3) pos) (pRev p) := PEimp (pe_revL ho) fun σ H Q ⟨rs, G, r, d, hs, ev, q⟩ => by
  obtain ⟨l, e1, ev⟩ := Option.bind_eq_some_iff.mp ev
  cases ev
  obtain ⟨c, e3, e4⟩ := Option.bind_eq_some_iff.mp e1
  obtain ⟨a, vs, hv, hu, ha, _, hl, _⟩ := hs.plL e1
  refine ⟨rs, G, r, c, hs, e3, fun v hv' => ?_⟩
  cases hu v hv'
  refine ⟨a, vs, rfl, SqL.of ha, fun t ht => ?_⟩
  have s2 := hs.wd.new (.lst vs.reverse) ht
  exact q _ _ _ s2 (.lst upd_same (hl.reverse.mono s2.g))
theorem fe_negc {i : Int} {k : Nat} {q1 : Pos} : FE X (.UnaryOp .USub (.Constant (.int i) k q1) pos) (eC (.int (-i))) := PEimp (pe_un un_neg pe_int) fun σ H Q h => by
  obtain ⟨rs, G, r, d, hs, ev, q⟩ := h
  cases ev
  exact ⟨i, rfl, q _ G H hs.wd.refl (.int _)⟩
/-! ### isinstance -/
def oIsTup : D → Option D
  | .tup _ => some (.bl true)
  | _ => none
def oIsBl : D → Option D
  | .bl _ => some (.bl true)
  | _ => none
theorem fe_isi {T : String} {n : Str} {pn : Pos} {o1 : D → Option D} (hT : ∀ v d z G H, Wd G H → Dv (ccOf X) G v d → o1 d = some z → z = .bl true ∧ TyX X.K H v (.type T)) (hk : kitB T T = some true) (he : FE X e f) (hg : Gl X "isinstance") (hm : X.mg "isinstance" = none) (hgt : Gl X n) (hmt : X.mg n = none) (hv : bootBuiltins n = some (.type T)) (hn : n ≠ "__name__" := by decide) (hdn : (n == ("__debug__" : Str)) = false := by decide)
    (hst : starEach (e :: .Name n p2 :: []) X.env = (false, eval e X.env) :: starEach [.Name n p2] X.env := by rfl) (hst2 : starEach (.Name n p2 :: []) X.env = (false, eval (.Name n p2) X.env) :: starEach [] X.env := by rfl) (hpl : (backTo pos (starEach [.Name n p2] X.env)).any (·.1) = false := by rfl) :
    FE X (.Call (.Name "isinstance" pn) [e, .Name n p2] [] pos) (e1 o1 f) := PEimp (pe_callB call_isi hg hm (by decide +kernel) (pa_cons he (pa_cons (pe_bltn (v := .ty T) hgt hmt hv rfl hn hdn) pa_nil hst2) hst) (by decide) (by decide) hst hpl) fun σ H Q ⟨rs, G, r, d, hs, ev, q⟩ => by
  obtain ⟨d1, e1, ev⟩ := Option.bind_eq_some_iff.mp ev
  refine ⟨rs, G, r, d1, hs, e1, fun v G1 H1 s1 h1 => ?_⟩
  obtain ⟨rfl, hy⟩ := hT v d1 d G1 H1 s1.wd h1 ev
  exact ⟨v, .ty T, .type T, .type T, true, rfl, .ty T, hy, kit_ty hk, q _ G1 H1 s1 (.bl true)⟩
theorem fe_isTup {pn : Pos} (he : FE X e f) (hg : Gl X "isinstance") (hm : X.mg "isinstance" = none) (hgt : Gl X "tuple") (hmt : X.mg "tuple" = none)
    (hst : starEach (e :: .Name "tuple" p2 :: []) X.env = (false, eval e X.env) :: starEach [.Name "tuple" p2] X.env := by rfl) (hst2 : starEach (.Name "tuple" p2 :: []) X.env = (false, eval (.Name "tuple" p2) X.env) :: starEach [] X.env := by rfl) (hpl : (backTo pos (starEach [.Name "tuple" p2] X.env)).any (·.1) = false := by rfl) :
    FE X (.Call (.Name "isinstance" pn) [e, .Name "tuple" p2] [] pos) (e1 oIsTup f) :=
  fe_isi (T := "tuple") (fun v d z G H w h ev => by
    cases h <;> first | (cases ev; done) | skip
    rename_i ha _
    cases ev
    exact ⟨rfl, .base (.tup (w.gh _ _ ha))⟩) (by decide +kernel) he hg hm hgt hmt (by decide +kernel) (by decide) (by decide) hst hst2 hpl
theorem fe_isBl {pn : Pos} (he : FE X e f) (hg : Gl X "isinstance") (hm : X.mg "isinstance" = none) (hgt : Gl X "bool") (hmt : X.mg "bool" = none)
    (hst : starEach (e :: .Name "bool" p2 :: []) X.env = (false, eval e X.env) :: starEach [.Name "bool" p2] X.env := by rfl) (hst2 : starEach (.Name "bool" p2 :: []) X.env = (false, eval (.Name "bool" p2) X.env) :: starEach [] X.env := by rfl) (hpl : (backTo pos (starEach [.Name "bool" p2] X.env)).any (·.1) = false := by rfl) :
    FE X (.Call (.Name "isinstance" pn) [e, .Name "bool" p2] [] pos) (e1 oIsBl f) :=
  fe_isi (T := "bool") (fun v d z G H w h ev => by
    cases h <;> first | (cases ev; done) | skip
    cases ev
    exact ⟨rfl, .base (.bl _)⟩) (by decide +kernel) he hg hm hgt hmt (by decide +kernel) (by decide) (by decide) hst hst2 hpl
/-! ### repr -/
def gRepr : List D → Option D
  | [.tup l] => if pureL l = true ∧ (D.tup l).py.showable = true ∧ (D.tup l).py.hasDict = false ∧ (D.tup l).py.depth < 60 ∧ (D.tup l).py.shown.length ≤ sizeLine then some (.str (D.tup l).py.shown) else none
  | _ => none
theorem fc_repr {k : Nat} (hr : Room k X.A) (hgd : X.A.guards = some []) : CallR X (.builtin "repr") (rcC (ccOf X) gRepr) := by
  intro pins s σ H xs us Q I rx ⟨G, ds, z, w, hd, ev, q⟩
  unfold gRepr at ev
  split at ev
  · simp only [Option.ite_none_right_eq_some, Option.some.injEq] at ev
    obtain ⟨⟨c1, c2, c3, c4, c5⟩, rfl⟩ := ev
    obtain ⟨v, rfl, hv⟩ := one_of hd
    obtain ⟨u, rfl, ru⟩ := vals1 rx
    obtain ⟨as, hrd⟩ := Dp.reads I _ v u (Dv.dp _ _ (hv.wd w) c1) ru
    obtain ⟨a, vs, rfl, _, _⟩ := hv.tup_ (l := _) rfl
    cases (show u = Value.ref a from ru)
    refine repr_of_reads' hrd c2 (fun h => by rw [c3] at h; cases h) hgd (by have := hr.un; omega) (fun _ _ h => h) (fun h' u tk hk => ⟨.str _, H, ?_, ⟨u, rfl⟩, q _ G H w.refl (.str _)⟩) c5
    exact I.kept (t' := tk) hk
  · cases ev
/-! ### sorted -/
theorem each_dv {C : Cc} {G : Hp} : ∀ {vs : List V} {ds : List D} {us : List Value}, DvL C G vs ds → Vals vs us → PySem.W.EachIs (fun u d => ∃ v, RelV v u ∧ Dv C G v d) us ds := by
  intro vs
  induction vs with
  | nil =>
    intro ds us h r
    cases h
    cases r
    exact .nil
  | cons v vs ih =>
    intro ds us h r
    cases h with
    | cons h t =>
      cases r with
      | cons r t2 => exact .cons ⟨v, r, h⟩ (ih t t2)
theorem dv_each {C : Cc} {G : Hp} {ds : List D} {us : List Value} (h : PySem.W.EachIs (fun u d => ∃ v, RelV v u ∧ Dv C G v d) us ds) : ∃ vs, Vals vs us ∧ DvL C G vs ds := by
  induction h with
  | nil => exact ⟨[], .nil, .nil⟩
  | cons h t ih =>
    obtain ⟨v, r, hv⟩ := h
    obtain ⟨vs, h1, h2⟩ := ih
    exact ⟨v :: vs, .cons r h1, .cons hv h2⟩
theorem each_reads {C : Cc} (I : L2.Inv X pins σ H s) (w : Wd G H) (e : C = ccOf X) : ∀ {vs : List V} {ds : List D} {us : List Value}, DvL C G vs ds → pureL ds = true → Vals vs us → PySem.W.EachIs (fun u d => ∃ as, Reads s.heap u (D.py d) as) us ds := by
  subst e
  intro vs
  induction vs with
  | nil =>
    intro ds us h p r
    cases h
    cases r
    exact .nil
  | cons v vs ih =>
    intro ds us h p r
    cases h with
    | @cons _ _ d ds h t =>
      have p' : (d.pure && pureL ds) = true := p
      obtain ⟨p1, p2⟩ := Bool.and_eq_true_iff.mp p'
      cases r with
      | cons r t2 => exact .cons (Dp.reads I _ v _ (Dv.dp _ _ (h.wd w) p1) r) (ih t p2 t2)
open Classical in
noncomputable def gSorted : List D → Option D
  | [.lst l] => if pureL l = true ∧ PySem.W.AllAlike (l.map D.py) ∧ PySem.W.Sortable (l.map D.py) ∧ (∀ d ∈ l, d.py.depth < 60) ∧ l.length ≤ lim then some (.lst (l.mergeSort (PySem.W.dataLe false D.py))) else none
  | _ => none
theorem fc_sorted {k : Nat} (hr : Room k X.A) : CallR X (.builtin "sorted") (rcC (ccOf X) gSorted) := by
  intro pins s σ H xs us Q I rx ⟨G, ds, z, w, hd, ev, q⟩
  unfold gSorted at ev
  split at ev
  · simp only [Option.ite_none_right_eq_some, Option.some.injEq] at ev
    obtain ⟨⟨c1, c2, c3, c4, c5⟩, rfl⟩ := ev
    obtain ⟨v, rfl, hv⟩ := one_of hd
    obtain ⟨u, rfl, ru⟩ := vals1 rx
    obtain ⟨a, vs, rfl, ha, hl⟩ := hv.lst_ (l := _) rfl
    cases (show u = Value.ref a from ru)
    obtain ⟨its, ri, hpl, hz⟩ := I.list (SqL.of (w.gh _ _ ha))
    have hlen := hl.len
    refine PySem.W.sorted_data hpl.isList (each_dv hl ri) (each_reads I w rfl hl c1 ri) c2 c3 (by rw [← hlen]; exact hz) (fun b hb => by have := c4 b hb; have := hr.un; omega) fun out ho eo => ?_
    obtain ⟨vs', r1, r2⟩ := dv_each eo
    obtain ⟨ep, he⟩ := PyProof.Rows.sortedAll_at s.heap its out.toArray
    have hlen' : vs'.length ≤ sizeLine := by rw [r1.length, ho, ← hlen]; exact hz
    have hn : H (s.heap.objs.size + 1) = none := I.hok.fresh (Nat.le_succ _)
    have s2 := w.new (.lst vs') hn
    exact ⟨.ref _, _, I.laid (t' := s.toks) (o := .lst vs') (fun _ _ => PyProof.Rows.sortedAll_old) (Nat.le_succ _) ⟨hlen', out, ep, r1, he⟩, rfl, q _ _ _ s2 (.lst upd_same (r2.mono s2.g))⟩
  · cases ev
end
end DL
end

section
set_option Elab.async false
set_option linter.all false
set_option maxRecDepth 100000
set_option maxHeartbeats 2000000
/-! D1l: list(d.items()), {k: v}, p.setdefault(k, []).append(e), loops over lists of a lent object. -/
namespace DL
open PySem PySem.Spec PyProof.Rows L2

/-! ### tuples laid at once -/
def putL : Hp → List Addr → List (List V) → Hp
  | H, a :: as, t :: ts => putL (upd H a (.tup t)) as ts
  | H, _, _ => H
theorem putL_off : ∀ (as : List Addr) (ts : List (List V)) (H : Hp) (b : Addr), b ∉ as → putL H as ts b = H b
  | [], _, _, _, _ => rfl
  | _ :: _, [], _, _, _ => rfl
  | a :: as, t :: ts, H, b, hb => by
    have h1 : b ≠ a := fun z => hb (z ▸ List.mem_cons_self)
    have h2 : b ∉ as := fun z => hb (List.mem_cons_of_mem _ z)
    show putL (upd H a (.tup t)) as ts b = H b
    rw [putL_off as ts _ b h2, upd_ne h1]
theorem putL_at : ∀ (as : List Addr) (ts : List (List V)) (H : Hp) (j : Nat) (a : Addr) (t : List V), as.Nodup → as[j]? = some a → ts[j]? = some t → putL H as ts a = some (.tup t)
  | [], _, _, _, _, _, _, h, _ => by simp at h
  | _ :: _, [], _, _, _, _, _, _, h => by simp at h
  | a :: as, t :: ts, H, 0, a', t', nd, h1, h2 => by
    simp at h1 h2; subst h1 h2
    show putL (upd H a (.tup t)) as ts a = _
    rw [putL_off as ts _ a (List.nodup_cons.mp nd).1, upd_same]
  | a :: as, t :: ts, H, j + 1, a', t', nd, h1, h2 => putL_at as ts (upd H a (.tup t)) j a' t' (List.nodup_cons.mp nd).2 (by simpa using h1) (by simpa using h2)
theorem putL_stp : ∀ (as : List Addr) (ts : List (List V)) (G H : Hp), Wd G H → as.Nodup → (∀ a ∈ as, H a = none) → Stp G H (putL G as ts) (putL H as ts)
  | [], _, _, _, w, _, _ => w.refl
  | _ :: _, [], _, _, w, _, _ => w.refl
  | a :: as, t :: ts, G, H, w, nd, h => by
    have s1 := w.new (.tup t) (h a List.mem_cons_self)
    refine s1.trans (putL_stp as ts _ _ s1.wd (List.nodup_cons.mp nd).2 fun b hb => ?_)
    have hne : b ≠ a := fun z => (List.nodup_cons.mp nd).1 (by rw [← z]; exact hb)
    rw [upd_ne hne]
    exact h b (List.mem_cons_of_mem _ hb)
section
variable {X : Cx} {pins : List (Addr × Obj)} {σ : L2.St} {rs G H : Hp} {r : Env} {s : Shared} {a : Addr} {κ : KK} {kvs : List (List Int × D)} {y : V} {d z : D} {u : Value} {E : Value → Shared → Prop} {e e0 b : Expr} {es : List Expr} {f g : EX} {fs : EXs} {pos pos' p2 apos cpos : Pos} {x : Str} {p : Pl}
theorem items_in {h' : Heap} {tk : Nat} {es : Array DictEntry} {as : List Addr} {ts : List (List V)} {acc : Array Value} {c : Nat} (I : L2.Inv X pins σ H s) (keep : ∀ b o, s.heap.get? b = some o → h'.get? b = some o)
    (hS : h'.get? s.heap.objs.size = some { cls := .type "list", dict := none, data := .seq acc c, slots := #[] }) (hl : as.length = es.size) (dg : PySem.W.DilG es s.heap.objs.size h' as) (hacc : acc.toList = as.map Value.ref) (hz : as.length ≤ sizeLine)
    (ht : ∀ (j : Nat) (hj : j < es.size), ∃ t, ts[j]? = some t ∧ t.length = 2 ∧ Vals t [es[j].key, es[j].val]) :
    as.Nodup ∧ (∀ t ∈ as, H t = none) ∧ s.heap.objs.size ∉ as ∧ H s.heap.objs.size = none ∧ L2.Inv X pins σ (upd (putL H as ts) s.heap.objs.size (.lst (as.map V.ref))) { s with heap := h', toks := tk } := by
  have nd : as.Nodup := List.Pairwise.imp (fun {x y} (q : x < y) => Nat.ne_of_lt q) dg.rise
  have fr : ∀ t ∈ as, H t = none := fun t q => I.hok.fresh (Nat.le_of_lt (dg.above t q))
  have nS : s.heap.objs.size ∉ as := fun q => Nat.lt_irrefl _ (dg.above _ q)
  have fS : H s.heap.objs.size = none := I.hok.fresh (Nat.le_refl _)
  have away : ∀ b, b ∉ as → b ≠ s.heap.objs.size → upd (putL H as ts) s.heap.objs.size (.lst (as.map V.ref)) b = H b := fun b h1 h2 => by rw [upd_ne h2, putL_off as ts H b h1]
  have old : ∀ b o, s.heap.get? b = some o → b ∉ as ∧ b ≠ s.heap.objs.size := fun b o q => ⟨fun z => absurd (Heap.lt_size q) (Nat.not_lt.mpr (Nat.le_of_lt (dg.above b z))), Nat.ne_of_lt (Heap.lt_size q)⟩
  have up : ∀ b o, H b = some o → upd (putL H as ts) s.heap.objs.size (.lst (as.map V.ref)) b = some o := fun b o q => by
    rw [away b (fun z => by rw [fr b z] at q; cases q) (fun z => by rw [z, fS] at q; cases q)]
    exact q
  refine ⟨nd, fr, nS, fS, I.call' (ch := []) rfl ⟨fun b o h1 _ _ _ => keep b o h1, fun b o h1 _ _ _ => ⟨o.slots, keep b o h1⟩, fun b o h1 h2 _ => ?_, fun b o h1 _ => ⟨o, keep b o h1⟩, fun b xs h1 => up b _ h1, fun b o u h1 => up b _ h1, fun b ps h1 => ⟨#[], by rw [up b _ h1]; simp⟩⟩ (fun b o h1 => ?_) I.bare fun b z => by simp at z⟩
  · obtain ⟨z1, z2⟩ := old b o h1
    rw [away b z1 z2]
    exact h2
  · by_cases hb : b = s.heap.objs.size
    · subst hb
      rw [upd_same] at h1
      cases h1
      refine ⟨by simpa using hz, acc.toList, c, by rw [hacc]; exact vrefs as, ?_⟩
      rw [Array.toArray_toList]
      exact hS
    · rw [upd_ne hb] at h1
      by_cases hm : b ∈ as
      · obtain ⟨j, hj⟩ := List.mem_iff_getElem?.mp hm
        obtain ⟨hlt, hget⟩ := dg.pairs j b hj
        obtain ⟨t, h2, h3, h4⟩ := ht j hlt
        rw [putL_at as ts H j b t nd hj h2] at h1
        cases h1
        exact ⟨by rw [h3]; decide, [es[j].key, es[j].val], h4, _, hget, rfl, _, rfl⟩
      · rw [putL_off as ts H b hm] at h1
        exact (I.hok b o h1).stay (fun q v _ w => keep q v w) (fun q w => up q _ w) fun q xs w => up q _ w
/-- list(d.items()) -/
def oItems (κ : KK) : D → Option D := fun d => (dicD κ d).map fun kvs => .lst (kvs.map fun p => .tup [ofKey κ p.1, p.2])
theorem fe_listItems {pn : Pos} (hc : X.calm = true) (he : FE X e f) (hg : Gl X "list") (hm : X.mg "list" = none) (hκ : κ ≠ .i := by decide) (hbase : attributeBase e "items" X.env (eval e X.env) = eval e X.env := by rfl) (hline : (apos.endLine == cpos.line) = true := by rfl)
    (hst : starEach [.Call (.Attribute e "items" apos) [] [] cpos] X.env = (false, eval (.Call (.Attribute e "items" apos) [] [] cpos) X.env) :: starEach [] X.env := by rfl) :
    FE X (.Call (.Name "list" pn) [.Call (.Attribute e "items" apos) [] [] cpos] [] pos) (e1 (oItems κ) f) := ⟨fun pins s σ H Q I ⟨rs, G, r, z, hs, ev, q⟩ => by
  unfold DL.e1 oItems at ev
  obtain ⟨d1, h1, ev⟩ := Option.bind_eq_some_iff.mp ev
  obtain ⟨kvs, h2, rfl⟩ := Option.map_eq_some_iff.mp ev
  refine wpAny_Call_Name_kw (ld_blt (u := .type "list") I hg hm (by decide +kernel) ?_)
  refine PyProof.Rows.callWith_type1 ?_ hst rfl
  rw [hst]
  show wpAny _ _ (spliced ((false, eval (.Call (.Attribute e "items" apos) [] [] cpos) X.env) :: backTo pos (starEach [] X.env))) _ _ s
  refine Calls.spliced_cons (wpAny_Call_method (T := "dict") (id := "dict.items") hbase rfl hline F.plainAttrs_dict F.slot_dict_items F.type_dict_items (thn (FEgo he I hs h1) fun uv t1 ⟨v, H1, I1, rv, G1, st1, hv⟩ => ?_))
  obtain ⟨a, rfl, uo, vs, hU, hr, hl⟩ := hv.dicAt st1.wd h2
  cases (show uv = Value.ref a from rv)
  obtain ⟨o, xs, rfl, hd, htk, h3, rfl⟩ := drep_X hκ hr
  obtain ⟨ho, hsys⟩ := (show ObjOk X.prog X.w H1 t1.heap a (eO a o) from hU.ok I1.hok).1
  obtain ⟨ents, ep, hdt, hxd, hsz, ent⟩ := eo_data hd
  have hlim : ents.size ≤ sizeLine := by rw [hsz]; exact hd.2.1
  have raw : t1.heap.DictRaw a ents ep := ⟨o, ho, hxd, hdt⟩
  have I2 : L2.Inv X pins σ H1 { t1 with heap := t1.heap.push { cls := .type "dict_items", data := .fields #[.ref a] } } := I1.kept (t' := t1.toks) fun b ob q => Heap.get?_push_of_some _ q
  refine ⟨raw.typeIs, (fun b q => by cases q; exact ⟨o, ho, hxd.2.1⟩), ?_⟩
  show wpAny _ _ (callWith cpos (.builtin "dict.items") [.ref a] [] []) _ X.xe t1
  refine method_meetsIn F.slot_dict_items F.entry_dict_items rfl (PySem.evalArgs_none ⟨rfl, raw.typeIs, F.args_dict_items_1 _, _, meets_dict_items_raw a hsys, ⟨ents, ep, raw⟩, ?_⟩)
  refine Calls.spliced_nil (PySem.W.dil_call (es := ents) (ep := ep) (I1.ok.hd hc) ⟨_, Heap.get?_push_size _ rfl, rfl, rfl⟩ (raw.push _) hlim fun h' tk acc c as kp hS hlen dg hacc => ?_)
  have hkl : xs.length = kvs.length := by
    have := congrArg List.length h3
    simpa using this.symm
  obtain ⟨nd, fr, nS, fS, I3⟩ := items_in (tk := tk) (ts := xs.map fun x => [.ref x.2.1, x.2.2]) I2 kp hS hlen dg hacc (by rw [hlen]; exact hlim) fun j hj => by
    have hjx : j < xs.length := by rw [← hsz]; exact hj
    obtain ⟨en, h5, h6, h7⟩ := ent j xs[j] (List.getElem?_eq_getElem hjx)
    rw [Array.getElem?_eq_getElem hj] at h5
    cases h5
    exact ⟨_, by rw [List.getElem?_map, List.getElem?_eq_getElem hjx]; rfl, rfl, .cons (show RelV (.ref xs[j].2.1) _ from h6) (.cons h7 .nil)⟩
  have st2 := putL_stp as (xs.map fun x => [V.ref x.2.1, x.2.2]) G1 H1 st1.wd nd fr
  have fS2 : putL H1 as (xs.map fun x => [V.ref x.2.1, x.2.2]) (t1.heap.push { cls := .type "dict_items", data := .fields #[.ref a] }).objs.size = none := by rw [putL_off _ _ _ _ nS]; exact fS
  have st3 := st2.wd.new (.lst (as.map V.ref)) fS2
  refine ⟨.ref _, _, I3, rfl, q _ _ _ ((st1.trans st2).trans st3) (.lst upd_same ?_)⟩
  have hkeys := keys_dv (C := ccOf X) hκ htk h3
  have build : ∀ (as : List Addr) (xs : XT) (kvs : List (List Int × D)) (G2 : Hp), as.length = xs.length → xs.length = kvs.length → DvL (ccOf X) G2 ((xs.map (·.2.1)).map V.ref) (kvs.map fun p => ofKey κ p.1) → DvL (ccOf X) G2 (xs.map (·.2.2)) (kvs.map (·.2)) →
      (∀ (j : Nat) (t : Addr) (x : List Int × Addr × V), as[j]? = some t → xs[j]? = some x → G2 t = some (.tup [.ref x.2.1, x.2.2])) → DvL (ccOf X) G2 (as.map V.ref) (kvs.map fun p => .tup [ofKey κ p.1, p.2]) := by
    intro as
    induction as with
    | nil =>
      intro xs kvs G2 l1 l2 _ _ _
      cases kvs with
      | nil => exact .nil
      | cons p kvs => simp at l1 l2; omega
    | cons t as ih =>
      intro xs kvs G2 l1 l2 k1 k2 k3
      cases xs with
      | nil => simp at l1
      | cons x xs =>
        cases kvs with
        | nil => simp at l2
        | cons p kvs =>
          cases k1 with
          | cons k1 k1' =>
            cases k2 with
            | cons k2 k2' => exact .cons (.tup (k3 0 t x rfl rfl) (.cons k1 (.cons k2 .nil))) (ih xs kvs G2 (by simpa using l1) (by simpa using l2) k1' k2' fun j t' x' q1 q2 => k3 (j + 1) t' x' (by simpa using q1) (by simpa using q2))
  refine build as xs kvs _ (by rw [hlen, hsz]) hkl ((hkeys.mono st2.g).mono st3.g) ((hl.mono st2.g).mono st3.g) fun j t x q1 q2 => st3.g _ _ (putL_at as _ G1 j t _ nd q1 (by rw [List.getElem?_map, q2]; rfl))⟩
/-! ### x = {k: v} -/
theorem fs_disp1 (k : Nat) {ke ve : Expr} {pd : Pos} {fj : EX} (hN : X.N.Nodup) (hk : FE X ke fj) (hv : FE X ve f) (hi : X.N[k]? = some x := by rfl) (hx : Loc X.env.scope x := by first | exact .inl rfl | exact .inr rfl) (hs : swapsWith (.Dict [some ke] [ve] pd) (some (.Name x pos')) pos.line X.env = pure false := by rfl)
    (hf : X.fn x = true ∨ X.env.scope.names.lookup x = some .local := by first | exact .inl rfl | exact .inr rfl | assumption) : FS X (.Assign [.Name x pos'] (.Dict [some ke] [ve] pd) pos) (sOwn k (cDisp fj f)) :=
  PSimp (ps_set (i := k) hN hi hx (pe_disp (pps_cons hk hv pps_nil) rfl rfl (by simp) (by simp)) hs hf) fun D σ H ⟨rs, G, r, hs, q⟩ => by
    obtain ⟨c, h1, q⟩ := sBind_ok q
    obtain ⟨j, h2, h3⟩ := Option.bind_eq_some_iff.mp h1
    obtain ⟨dk, h4, h5⟩ := Option.bind_eq_some_iff.mp h2
    obtain ⟨dv, h6, h7⟩ := Option.bind_eq_some_iff.mp h3
    cases h7
    intro a ha
    obtain ⟨fp, hf⟩ := hs
    have st0 := hf.wd.newH (o := .dK []) ha (fun xs z => nomatch z)
    have ga : G a = none := ex_none hf.wd.gh ha
    have ra : rs a = none := ex_none hf.rh ha
    have fa : ∀ i, a ∉ fp i := fun i z => by
      obtain ⟨_, _, o, ho⟩ := hf.fr i a z
      rw [ha] at ho; cases ho
    have hf0 := hf.step st0
    refine ⟨rs, G, r, dk, ⟨fp, hf0⟩, h4, fun kv G1 H1 st1 hkv => ⟨rs, G1, r, dv, ⟨fp, hf0.step st1⟩, h6, fun vv G2 H2 st2 hvv => ?_⟩⟩
    obtain ⟨i, rfl, rfl⟩ := hkv.keyI_ h5
    have st := st1.trans st2
    have hd2 : H2 a = some (.dK []) := st.h _ _ upd_same
    have g2 : G2 a = none := by
      cases y : G2 a with
      | none => rfl
      | some w =>
        rcases st.nw a w y with t | t
        · rw [ga] at t; cases t
        · rw [upd_same] at t; cases t
    refine ⟨hd2, [(Sum.inl i, vv)], rfl, by simp, ?_⟩
    have hm : mergeK [] [((Sum.inl i : Key), vv)] = [(i, vv)].map fun p => ((Sum.inl p.1 : Key), p.2) := rfl
    rw [hm]
    have hf2 := (hf0.step st).other (o' := .dK ([(i, vv)].map fun p => ((Sum.inl p.1 : Key), p.2))) hd2 g2 ra fa (fun xs z => nomatch z)
    refine q _ G2 _ ⟨_, hf2.put (i := k) (x := .own (.dic .i [([i], dv)])) (v := .ref a) (q := [a]) ⟨a, _, [vv], rfl, rfl, upd_same, ⟨[(i, vv)], rfl, rfl, rfl⟩, .cons hvv .nil⟩ (fun t ht => ?_) fun j t _ ht => ?_⟩ st.g
    · have e' : t = a := by simpa using ht
      subst e'
      exact ⟨g2, ra, _, upd_same⟩
    · have e' : t = a := by simpa using ht
      subst e'
      exact fa j
/-! ### x = o.m(e, ..), o of one's own -/
theorem fs_methTo {c : CN} {m : Str} {k k' n : Nat} {gm : GO} {pl : Sem Bool} (T : TxC X.K) (j i : Nat) {y : Str} {py : Pos} (hN : X.N.Nodup) (cl : CalO X.prog X.w X.K X.mg X.base k c m n gm) (hr : Room k' X.A) {s : Str} (h : PE X (.Name s p2) (tVar i)) (ha : FA X (e :: es) fs) (hk : k ≤ k' := by decide)
    (hi : X.N[j]? = some y := by rfl) (hx : Loc X.env.scope y := by first | exact .inl rfl | exact .inr rfl)
    (hs : swapsWith (.Call (.Attribute (.Name s p2) m apos) (e :: es) [] pos) (some (.Name y py)) pos'.line X.env = pure false := by rfl)
    (hf : X.fn y = true ∨ X.env.scope.names.lookup y = some .local := by first | exact .inl rfl | exact .inr rfl | assumption)
    (hst : starEach (e :: es) X.env = (false, eval e X.env) :: starEach es X.env := by rfl) (hpl : (backTo pos (starEach es X.env)).any (·.1) = false := by rfl)
    (ht : eval (.Call (.Attribute (.Name s p2) m apos) (e :: es) [] pos) X.env = (do
      let ov ← eval (.Name s p2) X.env
      standAt apos.atName
      let (f, first) ← holding [ov] (getMethod ov m pl)
      callWith pos f first (backTo pos (starEach (e :: es) X.env)) (backToKw pos (keywordEach [] X.env))) := by rfl) :
    FS X (.Assign [.Name y py] (.Call (.Attribute (.Name s p2) m apos) (e :: es) [] pos) pos') (sMethTo j i c gm fs) := by
  obtain ⟨fa, fd, ps, hps, F, hm, hb⟩ := cl.ex
  refine PSimp (ps_set (i := j) hN hi hx (pe_meth (dvs := []) (E := E0) h (T.cl c) hm F (hr.mono hk) hb .nil pass0 ha hst hpl ht) hs hf) fun D σ H ⟨rs, G, r, hs, q⟩ => ?_
  unfold sMethTo sCallO at q
  split at q <;> first | exact q.elim | skip
  rename_i t c' fls hsl
  split at q <;> first | exact q.elim | skip
  rename_i hcc
  subst hcc
  obtain ⟨ds, h1, q⟩ := sBind_ok q
  obtain ⟨z, h2, q⟩ := sBind_ok q
  obtain ⟨a, h3⟩ : ∃ a, σ[i]? = some (some (.ref a)) := let ⟨a, _, h1, _⟩ := hs.lend hsl; ⟨a, h1⟩
  obtain ⟨dx, vs, hins⟩ : ∃ dx vs, H a = some (.ins ((ccOf X).ca c') dx ((fnames c').zip vs)) := by
    obtain ⟨fp, f⟩ := hs
    obtain ⟨v0, h4, a', dx, vs, ps, rfl, ht, ha, _⟩ := f.at_ i _ hsl
    rw [h3] at h4; cases h4
    exact ⟨dx, vs, ha⟩
  refine ⟨_, h3, a, dx, _, rfl, hins, lookup_zip_none cl.nm, rs, G, r, ds, hs, h1, fun us G1 H1 s1 hu => ?_⟩
  obtain ⟨a', h1', sp⟩ := meth_read (D := D) (n := n) (Qv := fun v H3 => D.nx (σ.set j (some v)) H3) (hs.step s1) hsl h2 (cl.len _ _ _ h2) (fun v G' H' h3 eg hv => q _ G' H' (h3.setD hv) (s1.g.trans eg)) hu
  rw [h3] at h1'; cases h1'
  rw [List.append_nil]
  exact sp
end
end DL
end

section
set_option Elab.async false
set_option linter.all false
set_option maxRecDepth 100000
set_option maxHeartbeats 2000000
/-! D1m: p.setdefault(k, []).append(e); loops over lists of a lent object. -/
namespace DL
open PySem PySem.Spec PyProof.Rows L2

section
variable {α : Type} {kvs : List (List Int × α)} {k : List Int} {l v : α} {i : Nat}
theorem look_ix : ∀ {kvs : List (List Int × α)}, look kvs k = some l → ∃ i : Nat, kvs[i]? = some (k, l)
  | [], h => by simp [look] at h
  | p :: kvs, h => by
    rw [look_cons] at h
    by_cases q : p.1 = k
    · rw [if_pos q] at h
      cases h
      exact ⟨0, by rw [← q]; rfl⟩
    · rw [if_neg q] at h
      obtain ⟨i, hi⟩ := look_ix h
      exact ⟨i + 1, by simpa using hi⟩
theorem look_none_not : ∀ {kvs : List (List Int × α)}, look kvs k = none → ∀ p ∈ kvs, p.1 ≠ k
  | [], _, _, h => by cases h
  | p :: kvs, h, q, hq => by
    rw [look_cons] at h
    by_cases z : p.1 = k
    · rw [if_pos z] at h; cases h
    · rw [if_neg z] at h
      rcases List.mem_cons.mp hq with y | y
      · rw [y]; exact z
      · exact look_none_not h q y
theorem put_none (h : look kvs k = none) : put kvs k v = kvs ++ [(k, v)] := by
  unfold put
  rw [any_look, h]
  rfl
theorem map_set : ∀ {kvs : List (List Int × α)} {i : Nat}, (kvs.map (·.1)).Nodup → kvs[i]? = some (k, l) → (kvs.map fun p => if p.1 = k then (p.1, v) else p) = kvs.set i (k, v)
  | [], _, _, h => by simp at h
  | p :: kvs, 0, nd, h => by
    simp at h; subst h
    have e : (kvs.map fun p => if p.1 = k then (p.1, v) else p) = kvs := by
      have : ∀ q ∈ kvs, q.1 ≠ k := fun q hq z => (List.nodup_cons.mp nd).1 (by rw [← z]; exact List.mem_map.mpr ⟨q, hq, rfl⟩)
      rw [List.map_congr_left (g := id) fun q hq => by rw [if_neg (this q hq)]; rfl, List.map_id]
    rw [List.map_cons, e]
    simp
  | p :: kvs, i + 1, nd, h => by
    have h' : kvs[i]? = some (k, l) := by simpa using h
    have ne : p.1 ≠ k := fun z => (List.nodup_cons.mp nd).1 (List.mem_map.mpr ⟨(k, l), List.mem_of_getElem? h', z.symm⟩)
    rw [List.map_cons, if_neg ne, map_set (List.nodup_cons.mp nd).2 h']
    simp
theorem put_set (nd : (kvs.map (·.1)).Nodup) (h : kvs[i]? = some (k, l)) : put kvs k v = kvs.set i (k, v) := by
  unfold put
  have : (kvs.any fun p => decide (p.1 = k)) = true := List.any_eq_true.mpr ⟨(k, l), List.mem_of_getElem? h, by simp⟩
  rw [if_pos this]
  exact map_set nd h
end
theorem set_self {α : Type} {l : List α} {n : Nat} {x : α} (h : l[n]? = some x) : l.set n x = l := by
  obtain ⟨h1, h2⟩ := List.getElem?_eq_some_iff.mp h
  rw [← h2]; simp
theorem put_sdp {kvs : List (List Int × List D)} {k : List Int} (nd : (kvs.map (·.1)).Nodup) : put kvs k ((look kvs k).getD []) = sdp kvs k := by
  unfold sdp
  cases h : look kvs k with
  | none => exact put_none h
  | some l =>
    obtain ⟨i, hi⟩ := look_ix h
    rw [Option.getD_some, put_set nd hi]
    show kvs.set i (k, l) = kvs
    obtain ⟨h1, h2⟩ := List.getElem?_eq_some_iff.mp hi
    rw [← h2]; simp
theorem xsv_keys {xs : XT} {vs : List (List Leaf × Addr × Value)} (hx : XsV xs vs) : vs.map (·.1) = (xs.map (·.1)).map (fun k => k.map Leaf.num) := by
  induction hx with
  | nil => rfl
  | cons h t ih => rw [List.map_cons, List.map_cons, List.map_cons, ih, h.1]
theorem dob_nd {P : Program} {w : World} {o : Obj} {xs : XT} (d : DOb P w o xs) : (xs.map (·.1)).Nodup := by
  obtain ⟨_, _, es, ep, vs, _, _, nd, hx⟩ := d
  have e := xsv_keys hx
  rw [e] at nd
  exact (List.pairwise_map.mp nd).imp fun h z => h (by rw [z])
section
variable {C : Cc} {G H : Hp}
theorem LsAt.len : ∀ {ls : List Addr} {l : List (List D)}, LsAt C G H ls l → ls.length = l.length
  | _, _, .nil => rfl
  | _, _, .cons _ _ t => congrArg Nat.succ t.len
theorem LsAt.get : ∀ {ls : List Addr} {l : List (List D)} {i : Nat} {b : Addr} {x : List D}, LsAt C G H ls l → ls[i]? = some b → l[i]? = some x → ∃ vs, H b = some (.lst vs) ∧ DvL C G vs x
  | _, _, _, _, _, .nil, h, _ => by simp at h
  | _, _, 0, _, _, .cons h d _, h1, h2 => by simp at h1 h2; subst h1 h2; exact ⟨_, h, d⟩
  | _, _, i + 1, _, _, .cons _ _ t, h1, h2 => t.get (i := i) (by simpa using h1) (by simpa using h2)
theorem LsAt.set {b : Addr} {ws : List V} {x : List D} (hw : DvL C G ws x) {ls : List Addr} {l : List (List D)} (h : LsAt C G H ls l) : ∀ {i : Nat}, ls.Nodup → ls[i]? = some b → LsAt C G (upd H b (.lst ws)) ls (l.set i x) := by
  induction h with
  | nil => intro i _ h; simp at h
  | @cons a as vs l ls h d t ih =>
    intro i nd h1
    cases i with
    | zero =>
      simp at h1; subst h1
      exact .cons upd_same hw (t.keep (.refl _) fun c hc => upd_ne (fun z => (List.nodup_cons.mp nd).1 (by rw [← z]; exact hc)))
    | succ i =>
      rw [List.getElem?_cons_succ] at h1
      have ne : a ≠ b := fun z => (List.nodup_cons.mp nd).1 (by rw [z]; exact List.mem_of_getElem? h1)
      exact .cons (by rw [upd_ne ne]; exact h) d (ih (List.nodup_cons.mp nd).2 h1)
theorem LsAt.snoc {b : Addr} {ws : List V} {x : List D} (hb : H b = some (.lst ws)) (hw : DvL C G ws x) : ∀ {ls : List Addr} {l : List (List D)}, LsAt C G H ls l → LsAt C G H (ls ++ [b]) (l ++ [x])
  | _, _, .nil => .cons hb hw .nil
  | _, _, .cons h d t => .cons h d (t.snoc hb hw)
theorem c1B_ {v : V} {c : C1} {kvs : List (List Int × List D)} {fp : List Addr} (h : C1At C G H v c fp) (e : c1B c = some kvs) : ∃ a u ls, v = .ref a ∧ fp = a :: ls ∧ fp.Nodup ∧ H a = some u ∧ DRep C .t G a u (kvs.map (·.1)) (ls.map V.ref) ∧ LsAt C G H ls (kvs.map (·.2)) := by
  cases c <;> first | (cases e; done) | skip
  cases e
  exact h
end

section
variable {X : Cx} {pins : List (Addr × Obj)} {σ : L2.St} {rs G H : Hp} {r : Env} {s : Shared} {a : Addr} {y : V} {d z : D} {u : Value} {E : Value → Shared → Prop} {e i o : Expr} {es : List Expr} {f g fj : EX} {fs : EXs} {pos pos' p2 apos apos2 cpos : Pos} {x : Str} {p : Pl}
/-- b holds the list at the key j; how it is changed -/
def SdAt (C : Cc) (rs : Hp) (σ : L2.St) (r : Env) (p : Pl) (kvs : List (List Int × List D)) (j : List Int) (b : Addr) (G' H' : Hp) : Prop :=
  Wd G' H' ∧ (kvs.map (·.1)).Nodup ∧ (∃ ws, H' b = some (.lst ws) ∧ DvL C G' ws ((look kvs j).getD [])) ∧
    ∀ G'' H'' ws l', Stp G' H' G'' H'' → DvL C G'' ws l' → Has C rs G'' (upd H'' b (.lst ws)) σ (setP r (.dil (put kvs j l')) p)
def tSd (C : Cc) (p : Pl) (fj : EX) : TE := fun σ H Q => ∃ rs G r kvs j, Has C rs G H σ r ∧ (getP r p).bind c1B = some kvs ∧ (fj r).bind (toKey .t) = some j ∧ kvs.length < lim ∧ ∀ b G' H', SdAt C rs σ r p kvs j b G' H' → Ex G G' → Q (.ref b) H'
theorem upd_id {H : Hp} {b : Addr} {o : HO} (h : H b = some o) : upd H b o = H := by
  funext t
  by_cases q : t = b
  · subst q; rw [upd_same, h]
  · rw [upd_ne q]
theorem pe_sd {pl : Pos} (hu : X.A.units + 1 < cLine) (ho : FP X o p) (hi : FE X i fj) (base : attributeBase o "setdefault" X.env (eval o X.env) = eval o X.env := by rfl)
    (few : ((backTo cpos (starEach [i, .List [] pl] X.env)).all (fun x => !x.1) && (backToKw cpos (keywordEach [] X.env)).all (fun x => x.1.isSome)
      && decide (([i, .List [] pl] : List Expr).length + ([] : List Keyword).length + (if ([] : List Keyword).isEmpty then 0 else 1) < 30)) = true := by rfl)
    (line : (apos.endLine == cpos.line) = true := by rfl) (trees : backTo cpos (starEach [i, .List [] pl] X.env) = [(false, eval i X.env), (false, eval (.List [] pl) X.env)] := by rfl) : PE X (.Call (.Attribute o "setdefault" apos) [i, .List [] pl] [] cpos) (tSd (ccOf X) p fj) := ⟨fun pins s σ H Q I ⟨rs, G, r, kvs, j, hs, e1, e2, hlim, q⟩ => by
  obtain ⟨dj, e3, e4⟩ := Option.bind_eq_some_iff.mp e2
  obtain ⟨c, e5, e6⟩ := Option.bind_eq_some_iff.mp e1
  refine wpAny_Call_method base few line PySem.F.plainAttrs_dict PySem.F.slot_dict_setdefault PySem.F.type_dict_setdefault (thn (FPgo ho I hs e5) fun u s1 ⟨x, H1, I1, rx, e7, hv⟩ => ?_)
  subst e7
  obtain ⟨v0, q0, _, hun, hc, _, _⟩ := hs.pl e5
  obtain ⟨a, uo, ls, rfl, rfl, nd, ha, hr, hll⟩ := c1B_ hc e6
  cases hun _ hv
  cases (show u = Value.ref a from rx)
  obtain ⟨ob, xs, rfl, hd, ht, h1, h2⟩ := drep_X (κ := .t) (by decide) hr
  obtain ⟨us, hx, hsys, hz, dd⟩ := eo_rd (κ := .t) (by decide) I1 (.inl ha) hs.wd hd ht
  refine ⟨dd.typeIs, fun b q => ?_, ?_⟩
  · cases q
    obtain ⟨oo, _, _, h1, h2, _⟩ := dd
    exact ⟨oo, h1, h2.2.1⟩
  rw [trees]
  refine Calls.callWith_builtin rfl (Calls.evalArgs_plain (Calls.spliced_cons (thn (FEgo hi I1 hs e3) fun iv s2 ⟨y, H2, I2, ry, G2, st2, hy⟩ =>
    Calls.spliced_cons (thn ((pe_lst (X := X) pa_nil (pos := pl)).run pins s2 σ H2 (fun v H' => ∃ b, v = .ref b ∧ H2 b = none ∧ H' = upd H2 b (.lst [])) I2 ⟨by decide, fun b hb => ⟨b, rfl, hb, rfl⟩⟩) fun fv s3 ⟨z, H3, I3, rz, b0, ez, hb0, eH3⟩ => Calls.spliced_nil ?_))))
  subst ez eH3
  cases (show fv = Value.ref b0 from rz)
  clear hc ha hr hll hd ht h1 h2 hx hz dd nd hun
  have hs2 := hs.step st2
  obtain ⟨v1, q1, _, hun, hc, hq, k⟩ := hs2.pl e5
  obtain ⟨a', uo', ls, rfl, rfl, nd, ha, hr, hll⟩ := c1B_ hc e6
  cases hun _ (hv.ex st2.h)
  obtain ⟨ob, xs, rfl, hd, ht, h1, h2⟩ := drep_X (κ := .t) (by decide) hr
  have nea : a ≠ b0 := fun z => by rw [z, hb0] at ha; cases ha
  have st3 := hs2.wd.newH (o := .lst []) hb0 (fun xs z => nomatch z)
  have w3 := st3.wd
  have ha3 : upd H2 b0 (.lst []) a = some (eO a ob) := by rw [upd_ne nea]; exact ha
  obtain ⟨us, hx, hsys, hz, dd⟩ := eo_rd (κ := .t) (by decide) I3 (.inl ha3) w3 hd ht
  obtain ⟨kb, rfl, hkk, hkb⟩ := hy.key_ e4 (by decide)
  cases (show iv = Value.ref kb from ry)
  have lxs : xs.length = kvs.length := by
    have := congrArg List.length h1
    simpa using this.symm
  have lls : ls.length = xs.length := by
    have := congrArg List.length h2
    simpa using this
  have ndk : (kvs.map (·.1)).Nodup := by rw [h1]; exact dob_nd hd
  have nb0 : ∀ t, t ∈ a :: ls → t ≠ b0 := fun t ht z => by
    obtain ⟨_, _, w, hw⟩ := hq t ht
    rw [z, hb0] at hw; cases hw
  have g0 : G2 b0 = none := ex_none hs2.wd.gh hb0
  have hzu : us.length ≤ sizeLine := by rw [← Paired.length hx]; exact hz
  refine call_setdefault_heap (hsz := hzu) (room1 hu) (key_at (κ := .t) (by decide) I3.hok hkk (w3.gh _ _ hkb)) hsys dd (fun w hw => ?_) fun hn h' dd' hsb => ?_
  · -- the key is there
    rcases xsv_at hx j with ⟨q', v2, u2, g1, g2, g3⟩ | ⟨_, g2⟩
    · rw [hw] at g2
      cases g2
      have hl : look (xs.map fun x => (x.1, x.2)) j = some (q', v2) := by
        have : (xs.map fun x => (x.1, x.2)) = xs := by simp
        rw [this]
        exact g1
      obtain ⟨n, hn⟩ := look_ix hl
      have hn : xs[n]? = some (j, q', v2) := by simpa using hn
      have hlsn : (ls.map V.ref)[n]? = some v2 := by rw [h2, List.getElem?_map, hn]; rfl
      rw [List.getElem?_map] at hlsn
      obtain ⟨b, hb, rfl⟩ := Option.map_eq_some_iff.mp hlsn
      have hkn : (kvs.map (·.1))[n]? = some j := by rw [h1, List.getElem?_map, hn]; rfl
      rw [List.getElem?_map] at hkn
      obtain ⟨⟨k0, l⟩, hkl, ek⟩ := Option.map_eq_some_iff.mp hkn
      have ek' : j = k0 := ek.symm
      subst ek'
      have hlook : look kvs j = some l := by
        cases hq : look kvs j with
        | none => exact absurd rfl (look_none_not hq _ (List.mem_of_getElem? hkl))
        | some l2 =>
          obtain ⟨m, hm⟩ := look_ix hq
          have i1 : (kvs.map (·.1))[m]? = some j := by rw [List.getElem?_map, hm]; rfl
          have i2 : (kvs.map (·.1))[n]? = some j := by rw [List.getElem?_map, hkl]; rfl
          have := (List.getElem?_inj (nth_lt i1) ndk).mp (i1.trans i2.symm)
          subst this
          rw [hkl] at hm; cases hm; rfl
      have bm : b ∈ a :: ls := List.mem_cons_of_mem _ (List.mem_of_getElem? hb)
      obtain ⟨ws, hbw, hww⟩ := hll.get hb (x := l) (by rw [List.getElem?_map, hkl]; rfl)
      have hb3 : upd H2 b0 (.lst []) b = some (.lst ws) := by rw [upd_ne (nb0 b bm)]; exact hbw
      refine ⟨.ref b, _, I3.tok _, g3, q b G2 _ ⟨w3, ndk, ⟨ws, hb3, by rw [hlook]; exact hww⟩, fun G'' H'' ws' l' st4 hw' => ?_⟩ st2.g⟩
      have st := st3.trans st4
      have gb : G'' b = none := by
        cases t : G'' b with
        | none => rfl
        | some w =>
          rcases st.nw b w t with y | y
          · rw [(hq b bm).1] at y; cases y
          · rw [hbw] at y; cases y
      have w'' : Wd G'' (upd H'' b (.lst ws')) := ⟨fun t w ew => by
          rw [upd_ne (fun z => by rw [z, gb] at ew; cases ew)]; exact st4.gh t w ew, fun t w ew => by
          by_cases z : t = b
          · subst z; rw [upd_same] at ew; cases ew
          · rw [upd_ne z] at ew; exact st4.tg t w ew⟩
      rw [put_set ndk hkl]
      refine k G'' _ (.dil (kvs.set n (j, l'))) (a :: ls) w'' st.g (fun t w ew ht => ?_) (fun t w ew => st.nw t w ew) ⟨a, eO a ob, ls, rfl, rfl, nd, ?_, ?_, ?_⟩ fun t ht => ?_
      · rw [upd_ne (fun z => ht (by rw [z]; exact bm))]
        exact st.h t w ew
      · have : a ≠ b := fun z => (List.nodup_cons.mp nd).1 (by rw [z]; exact List.mem_of_getElem? hb)
        rw [upd_ne this]
        exact st.h _ _ ha
      · have ek : (kvs.set n (j, l')).map (·.1) = kvs.map (·.1) := by
          rw [List.map_set]
          have : (kvs.map (·.1))[n]? = some j := by rw [List.getElem?_map, hkl]; rfl
          exact set_self this
        rw [ek]
        exact hr.mono fun t ys e => st.g _ _ e
      · have ek : (kvs.set n (j, l')).map (·.2) = (kvs.map (·.2)).set n l' := by rw [List.map_set]
        rw [ek]
        exact LsAt.set hw' (hll.keep st.g fun t ht => by
          obtain ⟨_, _, w, hw⟩ := hq t (List.mem_cons_of_mem _ ht)
          rw [hw, st.h t w hw]) (List.nodup_cons.mp nd).2 hb
      · obtain ⟨z1, z2, w, z3⟩ := hq t ht
        refine ⟨.inl ht, ?_, ?_⟩
        · cases y : G'' t with
          | none => rfl
          | some w' =>
            rcases st.nw t w' y with m | m
            · rw [z1] at m; cases m
            · rw [z3] at m; cases m
        · by_cases m : t = b
          · subst m; exact ⟨_, upd_same⟩
          · exact ⟨w, by rw [upd_ne m]; exact st.h t w z3⟩
    · rw [hw] at g2; cases g2
  · -- a new key
    have hlx : lookX xs j = none := by
      rcases xsv_at hx j with ⟨q', v2, u2, g1, g2, g3⟩ | ⟨g1, _⟩
      · rw [hn] at g2; cases g2
      · exact g1
    have hlook : look kvs j = none := by
      cases hq : look kvs j with
      | none => rfl
      | some l2 =>
        obtain ⟨m, hm⟩ := look_ix hq
        have i1 : (xs.map (·.1))[m]? = some j := by rw [← h1, List.getElem?_map, hm]; rfl
        rw [List.getElem?_map] at i1
        obtain ⟨x, hxm, ex⟩ := Option.map_eq_some_iff.mp i1
        have : lookX xs j = look xs j := rfl
        rw [this] at hlx
        exact absurd ex (look_none_not hlx x (List.mem_of_getElem? hxm))
    have hx' := xsv_put hx j kb (show RelV (.ref b0) (.ref b0) from rfl)
    have ep : putX xs j kb (.ref b0) = xs ++ [(j, kb, .ref b0)] := by
      unfold putX
      rw [hlx]
      rfl
    rw [ep] at hx'
    obtain ⟨o', g', d'⟩ := dob_of dd' hx' (by
      have := lim_lt hlim
      rw [List.length_append, List.length_singleton, lxs]; omega)
    have I4 := d_write (t' := s3.toks + (tupleKind (leafKind X.prog X.w)).draws (j.map Leaf.num)) I3 (by rw [ha3]; exact True.intro) hsb ⟨o', g'⟩ (eo_ok (H' := upd (upd H2 b0 (.lst [])) a (eO a o')) g' hsys)
    have ga : G2 a = none := (hq a List.mem_cons_self).1
    have w4 : Wd G2 (upd (upd H2 b0 (.lst [])) a (eO a o')) := ⟨fun t w ew => by
        rw [upd_ne (fun z => by rw [z, ga] at ew; cases ew)]; exact w3.gh t w ew, fun t w ew => by
        by_cases z : t = a
        · subst z; rw [upd_same] at ew; cases ew
        · rw [upd_ne z] at ew; exact w3.tg t w ew⟩
    have hb4 : upd (upd H2 b0 (.lst [])) a (eO a o') b0 = some (.lst []) := by rw [upd_ne (Ne.symm nea), upd_same]
    have ha4 : upd (upd H2 b0 (.lst [])) a (eO a o') a = some (eO a o') := upd_same
    refine ⟨.ref b0, _, I4, rfl, q b0 G2 _ ⟨w4, ndk, ⟨[], hb4, by rw [hlook]; exact .nil⟩, fun G'' H'' ws' l' st4 hw' => ?_⟩ st2.g⟩
    have gb : G'' b0 = none := by
      cases t : G'' b0 with
      | none => rfl
      | some w =>
        rcases st4.nw b0 w t with y | y
        · rw [g0] at y; cases y
        · rw [hb4] at y; cases y
    have w'' : Wd G'' (upd H'' b0 (.lst ws')) := ⟨fun t w ew => by
        rw [upd_ne (fun z => by rw [z, gb] at ew; cases ew)]; exact st4.gh t w ew, fun t w ew => by
        by_cases z : t = b0
        · subst z; rw [upd_same] at ew; cases ew
        · rw [upd_ne z] at ew; exact st4.tg t w ew⟩
    have oldH : ∀ t w, H2 t = some w → t ≠ a → upd (upd H2 b0 (.lst [])) a (eO a o') t = some w := fun t w ew na => by
      rw [upd_ne na, upd_ne (fun z => by rw [z, hb0] at ew; cases ew)]; exact ew
    have nwa : ∀ t w, G'' t = some w → G2 t = some w ∨ H2 t = none := fun t w ew => by
      rcases st4.nw t w ew with y | y
      · exact .inl y
      · refine .inr ?_
        cases m : H2 t with
        | none => rfl
        | some w' =>
          by_cases na : t = a
          · subst na; rw [ha4] at y; cases y
          · rw [oldH t w' m na] at y; cases y
    rw [put_none hlook]
    refine k G'' _ (.dil (kvs ++ [(j, l')])) (a :: (ls ++ [b0])) w'' st4.g (fun t w ew ht => ?_) nwa ⟨a, eO a o', ls ++ [b0], rfl, rfl, ?_, ?_, ?_, ?_⟩ fun t ht => ?_
    · have na : t ≠ a := fun z => ht (by rw [z]; exact List.mem_cons_self)
      rw [upd_ne (fun z => by rw [z, hb0] at ew; cases ew)]
      exact st4.h t w (oldH t w ew na)
    · have n1 := List.nodup_cons.mp nd
      refine List.nodup_cons.mpr ⟨fun z => ?_, List.nodup_append.mpr ⟨n1.2, by simp, fun t ht t' ht' => ?_⟩⟩
      · rcases List.mem_append.mp z with y | y
        · exact n1.1 y
        · exact nea (by simpa using y)
      · have e' : t' = b0 := by simpa using ht'
        rw [e']
        exact nb0 t (List.mem_cons_of_mem _ ht)
    · rw [upd_ne nea]; exact st4.h _ _ ha4
    · have hdm := drep_mk (κ := .t) (a := a) (by decide) (T := G'') (C := ccOf X) d' (fun t ht' => by
        rcases List.mem_append.mp ht' with y | y
        · exact ⟨(ht t y).1, st4.g _ _ (ht t y).2⟩
        · have e' : t = (j, kb, V.ref b0) := by simpa using y
          subst e'
          exact ⟨hkk, st4.g _ _ hkb⟩)
      have ek : (kvs ++ [(j, l')]).map (·.1) = (xs ++ [(j, kb, V.ref b0)]).map (·.1) := by rw [List.map_append, List.map_append, h1]; rfl
      have ev : (ls ++ [b0]).map V.ref = (xs ++ [(j, kb, V.ref b0)]).map (·.2.2) := by rw [List.map_append, List.map_append, h2]; rfl
      rw [ek, ev]
      exact hdm
    · rw [List.map_append]
      refine LsAt.snoc upd_same hw' (hll.keep st4.g fun t ht => ?_)
      obtain ⟨_, _, w, hw⟩ := hq t (List.mem_cons_of_mem _ ht)
      have na : t ≠ a := fun z => (List.nodup_cons.mp nd).1 (by rw [← z]; exact ht)
      rw [upd_ne (nb0 t (List.mem_cons_of_mem _ ht)), hw, st4.h t w (oldH t w hw na)]
    · have : t ∈ a :: ls ∨ t = b0 := by simpa [or_assoc] using ht
      rcases this with m | m
      · obtain ⟨z1, z2, w, z3⟩ := hq t m
        refine ⟨.inl m, ?_, ?_⟩
        · cases y : G'' t with
          | none => rfl
          | some w' =>
            rcases nwa t w' y with n | n
            · rw [z1] at n; cases n
            · rw [z3] at n; cases n
        · by_cases na : t = a
          · subst na; exact ⟨_, by rw [upd_ne nea]; exact st4.h _ _ ha4⟩
          · exact ⟨w, by rw [upd_ne (nb0 t m)]; exact st4.h t w (oldH t w z3 na)⟩
      · subst m
        exact ⟨.inr hb0, gb, _, upd_same⟩⟩
/-- p.setdefault(k, []).append(e) -/
theorem fs_sdApp {pl : Pos} (hu : X.A.units + 1 < cLine) (ho : FP X o p) (hi : FE X i fj) (he : FE X e f) (base : attributeBase o "setdefault" X.env (eval o X.env) = eval o X.env := by rfl)
    (few : ((backTo cpos (starEach [i, .List [] pl] X.env)).all (fun x => !x.1) && (backToKw cpos (keywordEach [] X.env)).all (fun x => x.1.isSome)
      && decide (([i, .List [] pl] : List Expr).length + ([] : List Keyword).length + (if ([] : List Keyword).isEmpty then 0 else 1) < 30)) = true := by rfl)
    (line : (apos.endLine == cpos.line) = true := by rfl) (trees : backTo cpos (starEach [i, .List [] pl] X.env) = [(false, eval i X.env), (false, eval (.List [] pl) X.env)] := by rfl)
    (hbase : attributeBase (.Call (.Attribute o "setdefault" apos) [i, .List [] pl] [] cpos) "append" X.env (eval (.Call (.Attribute o "setdefault" apos) [i, .List [] pl] [] cpos) X.env) = eval (.Call (.Attribute o "setdefault" apos) [i, .List [] pl] [] cpos) X.env := by rfl)
    (hst : starEach (e :: []) X.env = (false, eval e X.env) :: starEach [] X.env := by rfl)
    (hfew : ((backTo pos (starEach (e :: []) X.env)).all (fun x => !x.1) && (backToKw pos (keywordEach [] X.env)).all (fun x => x.1.isSome)
      && decide ((e :: ([] : List Expr)).length + ([] : List Keyword).length + (if ([] : List Keyword).isEmpty then 0 else 1) < 30)) = true := by rfl)
    (hline : (apos2.endLine == pos.line) = true := by rfl) (hs : swapsWith (.Call (.Attribute (.Call (.Attribute o "setdefault" apos) [i, .List [] pl] [] cpos) "append" apos2) [e] [] pos) none pos'.line X.env = pure false := by rfl) :
    FS X (.Expr (.Call (.Attribute (.Call (.Attribute o "setdefault" apos) [i, .List [] pl] [] cpos) "append" apos2) [e] [] pos) pos') (sSdApp p fj f) :=
  PSimp (ps_expr (pe_bm PySem.F.plainAttrs_list PySem.F.slot_list_append PySem.F.type_list_append mt_append (pe_sd hu ho hi base few line trees) (pa_cons he pa_nil hst) hbase hfew (hs := hst) (hline := hline)) hs) fun D σ H ⟨rs, G, r, hs, q⟩ => by
    obtain ⟨kvs, e1, q⟩ := sBind_ok q
    obtain ⟨j, e2, q⟩ := sBind_ok q
    obtain ⟨d, e3, q⟩ := sBind_ok q
    split at q <;> first | exact q.elim | skip
    rename_i hc
    refine ⟨rs, G, r, kvs, j, hs, e1, e2, hc.1, fun b G1 H1 ⟨w, nd, ⟨ws, hb, hw⟩, k⟩ eg => ?_⟩
    have h0 := k G1 H1 ws _ w.refl hw
    rw [upd_id hb, put_sdp nd] at h0
    refine ⟨ty_list hb, rs, G1, _, d, h0, e3, fun v G2 H2 s2 hv => ⟨b, ws, v, rfl, rfl, s2.h _ _ hb, by rw [hw.len]; exact lim_lt hc.2, ?_⟩⟩
    exact q _ G2 _ (k G2 H2 _ _ s2 ((hw.mono s2.g).snoc hv)) (eg.trans s2.g)
end
end DL
end

section
set_option Elab.async false
set_option linter.all false
set_option maxRecDepth 100000
set_option maxHeartbeats 2000000
/-! D1n: the entries of a table of one's own, a loop over them. -/
namespace DL
open PySem PySem.Spec PyProof.Rows L2

def spEnt (C : Cc) : Sp := fun vs H Q _ => ∃ rs G a ws fs kvs ds k, vs = .ref a :: ws ∧ Has C rs G H [some (.ref a)] [some (.obj none .takeoff fs)] ∧ DvL C G ws ds ∧ ds.length = 2 ∧ fs[3]? = some (.own (.dil kvs)) ∧ toKey .t (.tup ds) = some k ∧
  ∀ b us G' H', Stp G H G' H' → H' b = some (.lst us) → DvL C G' us ((look kvs k).getD []) → G' b = none → rs b = none → Q (.ref b) H'
def tEnt (C : Cc) (p : Pl) (fj : EX) : TE := fun σ H Q => ∃ rs G r kvs j, Has C rs G H σ r ∧ (getP r p).bind c1B = some kvs ∧ (fj r).bind (toKey .t) = some j ∧
  ∀ b us G' H', Stp G H G' H' → H' b = some (.lst us) → DvL C G' us ((look kvs j).getD []) → G' b = none → rs b = none → Q (.ref b) H'
section
variable {X : Cx} {pins : List (Addr × Obj)} {σ : L2.St} {rs G H : Hp} {r : Env} {s : Shared} {a : Addr} {y : V} {d z : D} {u : Value} {E : Value → Shared → Prop} {e i o tg : Expr} {es : List Expr} {f g fj : EX} {fs : EXs} {pos pos' p2 apos apos2 cpos : Pos} {x : Str} {p : Pl} {gt : TGT} {F : ST}
theorem pe_ent {pl : Pos} (hu : X.A.units + 1 < cLine) (ho : FP X o p) (hi : FE X i fj) (base : attributeBase o "get" X.env (eval o X.env) = eval o X.env := by rfl)
    (few : ((backTo cpos (starEach [i, .List [] pl] X.env)).all (fun x => !x.1) && (backToKw cpos (keywordEach [] X.env)).all (fun x => x.1.isSome)
      && decide (([i, .List [] pl] : List Expr).length + ([] : List Keyword).length + (if ([] : List Keyword).isEmpty then 0 else 1) < 30)) = true := by rfl)
    (line : (apos.endLine == cpos.line) = true := by rfl) (trees : backTo cpos (starEach [i, .List [] pl] X.env) = [(false, eval i X.env), (false, eval (.List [] pl) X.env)] := by rfl) : PE X (.Call (.Attribute o "get" apos) [i, .List [] pl] [] cpos) (tEnt (ccOf X) p fj) := ⟨fun pins s σ H Q I ⟨rs, G, r, kvs, j, hs, e1, e2, q⟩ => by
  obtain ⟨dj, e3, e4⟩ := Option.bind_eq_some_iff.mp e2
  obtain ⟨c, e5, e6⟩ := Option.bind_eq_some_iff.mp e1
  refine wpAny_Call_method base few line PySem.F.plainAttrs_dict PySem.F.slot_dict_get PySem.F.type_dict_get (thn (FPgo ho I hs e5) fun u s1 ⟨x, H1, I1, rx, e7, hv⟩ => ?_)
  subst e7
  obtain ⟨v0, q0, _, hun, hc, _, _⟩ := hs.pl e5
  obtain ⟨a, uo, ls, rfl, rfl, nd, ha, hr, hll⟩ := c1B_ hc e6
  cases hun _ hv
  cases (show u = Value.ref a from rx)
  obtain ⟨ob, xs, rfl, hd, ht, h1, h2⟩ := drep_X (κ := .t) (by decide) hr
  obtain ⟨us, hx, hsys, hz, dd⟩ := eo_rd (κ := .t) (by decide) I1 (.inl ha) hs.wd hd ht
  refine ⟨dd.typeIs, fun b q => ?_, ?_⟩
  · cases q
    obtain ⟨oo, _, _, h1, h2, _⟩ := dd
    exact ⟨oo, h1, h2.2.1⟩
  rw [trees]
  refine Calls.callWith_builtin rfl (Calls.evalArgs_plain (Calls.spliced_cons (thn (FEgo hi I1 hs e3) fun iv s2 ⟨y, H2, I2, ry, G2, st2, hy⟩ =>
    Calls.spliced_cons (thn ((pe_lst (X := X) pa_nil (pos := pl)).run pins s2 σ H2 (fun v H' => ∃ b, v = .ref b ∧ H2 b = none ∧ H' = upd H2 b (.lst [])) I2 ⟨by decide, fun b hb => ⟨b, rfl, hb, rfl⟩⟩) fun fv s3 ⟨z, H3, I3, rz, b0, ez, hb0, eH3⟩ => Calls.spliced_nil ?_))))
  subst ez eH3
  cases (show fv = Value.ref b0 from rz)
  clear hc ha hr hll hd ht h1 h2 hx hz dd nd hun
  have hs2 := hs.step st2
  obtain ⟨v1, q1, _, hun, hc, hq, k⟩ := hs2.pl e5
  obtain ⟨a', uo', ls, rfl, rfl, nd, ha, hr, hll⟩ := c1B_ hc e6
  cases hun _ (hv.ex st2.h)
  obtain ⟨ob, xs, rfl, hd, ht, h1, h2⟩ := drep_X (κ := .t) (by decide) hr
  have nea : a ≠ b0 := fun z => by rw [z, hb0] at ha; cases ha
  have st3 := hs2.wd.newH (o := .lst []) hb0 (fun xs z => nomatch z)
  have ha3 : upd H2 b0 (.lst []) a = some (eO a ob) := by rw [upd_ne nea]; exact ha
  obtain ⟨us, hx, hsys, hz, dd⟩ := eo_rd (κ := .t) (by decide) I3 (.inl ha3) st3.wd hd ht
  obtain ⟨kb, rfl, hkk, hkb⟩ := hy.key_ e4 (by decide)
  cases (show iv = Value.ref kb from ry)
  have ndk : (kvs.map (·.1)).Nodup := by rw [h1]; exact dob_nd hd
  refine call_meetsIn PySem.F.slot_dict_get dd.typeIs PySem.F.entry_dict_get (PySem.F.args_dict_get_3 _ _ _) (meetsH_dict_get_default (tupleKind (leafKind X.prog X.w)) a kb hsys _) ⟨room1 hu, j.map Leaf.num, us, key_at (κ := .t) (by decide) I3.hok hkk (st3.wd.gh _ _ hkb), dd, ?_⟩
  rcases xsv_at hx j with ⟨q', v2, u2, g1, g2, g3⟩ | ⟨g1, g2⟩
  · rw [g2]
    have hl : look xs j = some (q', v2) := g1
    obtain ⟨n, hn⟩ := look_ix hl
    have hlsn : (ls.map V.ref)[n]? = some v2 := by rw [h2, List.getElem?_map, hn]; rfl
    rw [List.getElem?_map] at hlsn
    obtain ⟨b, hb, rfl⟩ := Option.map_eq_some_iff.mp hlsn
    have hkn : (kvs.map (·.1))[n]? = some j := by rw [h1, List.getElem?_map, hn]; rfl
    rw [List.getElem?_map] at hkn
    obtain ⟨⟨k0, l⟩, hkl, ek⟩ := Option.map_eq_some_iff.mp hkn
    have ek' : j = k0 := ek.symm
    subst ek'
    have hlook : look kvs j = some l := by
      cases hq : look kvs j with
      | none => exact absurd rfl (look_none_not hq _ (List.mem_of_getElem? hkl))
      | some l2 =>
        obtain ⟨m, hm⟩ := look_ix hq
        have i1 : (kvs.map (·.1))[m]? = some j := by rw [List.getElem?_map, hm]; rfl
        have i2 : (kvs.map (·.1))[n]? = some j := by rw [List.getElem?_map, hkl]; rfl
        have := (List.getElem?_inj (nth_lt i1) ndk).mp (i1.trans i2.symm)
        subst this
        rw [hkl] at hm; cases hm; rfl
    have bm : b ∈ a :: ls := List.mem_cons_of_mem _ (List.mem_of_getElem? hb)
    obtain ⟨ws, hbw, hww⟩ := hll.get hb (x := l) (by rw [List.getElem?_map, hkl]; rfl)
    obtain ⟨z1, z2, _⟩ := hq b bm
    refine ⟨.ref b, _, I3.tok _, g3, q b ws G2 _ (st2.trans st3) ?_ (by rw [hlook]; exact hww) z1 z2⟩
    rw [upd_ne (fun z => by rw [z, hb0] at hbw; cases hbw)]
    exact hbw
  · rw [g2]
    have hlook : look kvs j = none := by
      cases hq : look kvs j with
      | none => rfl
      | some l2 =>
        obtain ⟨m, hm⟩ := look_ix hq
        have i1 : (xs.map (·.1))[m]? = some j := by rw [← h1, List.getElem?_map, hm]; rfl
        rw [List.getElem?_map] at i1
        obtain ⟨x, hxm, ex⟩ := Option.map_eq_some_iff.mp i1
        have : lookX xs j = look xs j := rfl
        rw [this] at g1
        exact absurd ex (look_none_not g1 x (List.mem_of_getElem? hxm))
    obtain ⟨fp, f⟩ := hs2
    exact ⟨.ref b0, _, I3.tok _, rfl, q b0 [] G2 _ (st2.trans st3) upd_same (by rw [hlook]; exact .nil) (ex_none f.wd.gh hb0) (ex_none f.rh hb0)⟩⟩
end
section
variable {P : Program} {w : World} {K : PySem.W.Frag} {mg : Str → Option Value} {base : Heap} {x qual : Str} {params : Arguments} {body : List Stmt} {scope : Scope} {dvs : List V} {kws : List (Str × V)} {f : Addr} {fd : FuncData}
theorem fn_ent {N ps : List Str} {k : Nat} {fj : EX} (F : FunD K x qual params body scope dvs kws f fd) (S : FnScope N ps scope) (hps : ps.length = 3)
    (hb : ∀ (cdv : Value) (A : Around) (outer : List PySem.Env) (s : Shared) (H : Hp) (E : XK), Room k (A.deeper (envOfC qual scope s.heap.objs.size f cdv)) → PSs (cxOf CX0 P w K mg base N qual scope f cdv A outer s H E).nox body (fun D σ H => tEnt ⟨P, w, K⟩ (.f 0 .takeoff 3) fj σ H fun v H1 => D.rt v H1))
    (hF : ∀ a fs ds, ds.length = 2 → fj (envOf N (.obj (some a) .takeoff fs :: ds.map .dat)) = some (.tup ds)) : FnOk P w K mg base CX0 (k + 1) f fd ps (spEnt ⟨P, w, K⟩) := by
  refine F.ok S (fun vs H Q E h => ?_) (fun cdv A outer s H vs Q E hr h => ?_)
  · obtain ⟨rs, G, a, ws, fs, kvs, ds, k, rfl, h1, hd, hl, _⟩ := h
    rw [List.length_cons, hd.len, hl, hps]
  · obtain ⟨rs, G, a, ws, fs, kvs, ds, k, rfl, h1, hd, hl, e1, e2, q⟩ := h
    refine ⟨_, (hb cdv A outer s H E hr).nox, rs, G, _, kvs, k, h1.startO hd, ?_, ?_, q⟩
    · have e3 : slot (envOf N (.obj (some a) .takeoff fs :: ds.map .dat)) 0 = some (.obj (some a) .takeoff fs) := rfl
      simp only [getP, e3, e1, if_true]
      rfl
    · rw [hF a fs ds hl]
      exact e2
end
structure CalE (P : Program) (w : World) (K : PySem.W.Frag) (mg : Str → Option Value) (base : Heap) (k : Nat) : Prop where
  ex : ∃ f fd ps, ps.length = 3 ∧ FnOk P w K mg base CX0 k f fd ps (spEnt ⟨P, w, K⟩) ∧ Meth K (He.ga K (cname .takeoff)) "entries" f ∧ Binds K fd ps []
theorem HasF.frame {C : Cc} {rs rs2 G H : Hp} {σ : L2.St} {r : Env} {fp : Nat → List Addr} (f : HasF C rs G H σ r fp) (h1 : Ex rs2 H) (h2 : ∀ a o, rs2 a = some o → G a = none) (h3 : ∀ j a, a ∈ fp j → rs2 a = none) : HasF C rs2 G H σ r fp :=
  ⟨f.wd, h1, h2, f.len, f.at_, fun j a ha => ⟨(f.fr j a ha).1, h3 j a ha, (f.fr j a ha).2.2⟩, f.dj⟩
theorem Res.nx_inj {a b : Env} (h : Res.nx a = Res.nx b) : a = b := by cases h; rfl
section
variable {X : Cx} {e tg : Expr} {es : List Expr} {fs : EXs} {pos pos' p2 apos : Pos} {gt : TGT} {F : ST}
theorem fs_forE {k k' : Nat} {body : List Stmt} {pl : Sem Bool} (T : TxC X.K) (i : Nat) (cl : CalE X.prog X.w X.K X.mg X.base k) (hr : Room k' X.A) {s : Str} (h : PE X (.Name s p2) (tVar i)) (ha : FA X (e :: es) fs) (hp : PassesOwn (model X.prog X.w) X.A X.env X.xe) (hc : X.calm = true) (hg : FG X tg gt) (hb : FB X body F) (hk : k ≤ k' := by decide)
    (hst : starEach (e :: es) X.env = (false, eval e X.env) :: starEach es X.env := by rfl) (hpl : (backTo pos (starEach es X.env)).any (·.1) = false := by rfl)
    (ht : eval (.Call (.Attribute (.Name s p2) "entries" apos) (e :: es) [] pos) X.env = (do
      let ov ← eval (.Name s p2) X.env
      standAt apos.atName
      let (f, first) ← holding [ov] (getMethod ov "entries" pl)
      callWith pos f first (backTo pos (starEach (e :: es) X.env)) (backToKw pos (keywordEach [] X.env))) := by rfl)
    (hfs : ∀ x, foldedSetIterable (.Call (.Attribute (.Name s p2) "entries" apos) (e :: es) [] pos) X.env x = pure x := by intro _; rfl)
    (hlen : ∀ r ds, fs r = some ds → ds.length = 2) :
    FS X (.For tg (.Call (.Attribute (.Name s p2) "entries" apos) (e :: es) [] pos) body [] pos') (sForE i fs gt F) := by
  obtain ⟨fa, fd, ps, hps, Fn, hm, hbd⟩ := cl.ex
  refine PSimp (ps_for hp hc (pi_list (pe_meth (dvs := []) (E := E0) h (T.cl .takeoff) hm Fn (hr.mono hk) hbd .nil pass0 ha hst hpl ht)) hg hb hfs) fun D σ H ⟨rs, G, r, hs, q⟩ => ?_
  unfold sForE at q
  split at q <;> first | exact q.elim | skip
  rename_i a fls hsl
  split at q <;> first | exact q.elim | skip
  rename_i kvs hfl
  obtain ⟨ds, e1, q⟩ := sBind_ok q
  obtain ⟨j, e2, q⟩ := sBind_ok q
  split at q <;> first | exact q.elim | skip
  rename_i rE hfor
  split at q <;> first | exact q.elim | skip
  rename_i aE hsE
  split at q <;> first | exact q.elim | skip
  rename_i haE
  subst haE
  obtain ⟨fp, f⟩ := hs
  obtain ⟨v0, h1, a0, dx, vs, pps, rfl, ht0, ha0, _⟩ := f.at_ i _ hsl
  cases ht0 aE rfl
  refine ⟨_, h1, aE, dx, _, rfl, ha0, lookup_zip_none (by decide +kernel), rs, G, r, ds, ⟨fp, f⟩, e1, fun us G1 H1 s1 hu => ?_⟩
  have f1 := f.step s1
  obtain ⟨a2, rs', h2, _, h3, hrs, _⟩ := f1.lend hsl
  rw [h1] at h2
  cases h2
  show spEnt _ (V.ref aE :: (us ++ [])) _ _ _
  rw [List.append_nil]
  refine ⟨rs', G1, aE, us, fls, kvs, ds, j, rfl, h3, hu, hlen _ _ e1, hfl, e2, fun b ws G2 H2 s2 hb hw gb rb => ⟨b, rfl, ⟨ws, SqL.of hb⟩, ?_⟩⟩
  have f2 := f1.step s2
  have bj : ∀ n, n ≠ i → b ∉ fp n := fun n hn z => by
    obtain ⟨g1, _, o, ho⟩ := f1.fr n b z
    have := hrs b o ho g1 fun y => hn (f1.dj n i b z y)
    rw [rb] at this; cases this
  have brs : rs b = none := by
    cases y : rs b with
    | none => rfl
    | some o =>
      have := hrs b o (f1.rh b o y) (f1.rg b o y) fun z => by
        have := (f1.fr i b z).2.1
        rw [y] at this; cases this
      rw [rb] at this; cases this
  obtain ⟨rs2, hrs2⟩ : ∃ rs2 : Hp, ∀ t, rs2 t = if t ∈ fp i ∨ t = b then H2 t else rs t := ⟨_, fun _ => rfl⟩
  have rsin : ∀ t o, rs t = some o → rs2 t = some o := fun t o e => by
    rw [hrs2, if_neg]
    · exact e
    · rintro (z | z)
      · have := (f2.fr i t z).2.1
        rw [e] at this; cases this
      · rw [z, brs] at e; cases e
  have in2 : ∀ t, t ∈ fp i → rs2 t = H2 t := fun t ht => by rw [hrs2, if_pos (.inl ht)]
  have inb : rs2 b = some (.lst ws) := by rw [hrs2, if_pos (.inr rfl)]; exact hb
  have f3 := ((f2.away i f2.wd (.refl _) (fun _ _ e _ => e) (fun _ _ e => .inl e)).put (i := i) (v := .ref aE) (x := .ptr aE) (q := []) ⟨rfl, rfl⟩ (fun t ht => nomatch ht) (fun n t _ ht => nomatch ht)).frame (rs2 := rs2) (fun t o e => by
      rw [hrs2] at e
      split at e
      · exact e
      · exact f2.rh t o e) (fun t o e => by
      rw [hrs2] at e
      split at e
      · rename_i hh
        rcases hh with z | z
        · exact (f2.fr i t z).1
        · rw [z]; exact gb
      · exact f2.rg t o e) (fun n t ht => by
      by_cases hn : n = i
      · simp only [hn, if_true] at ht; cases ht
      · simp only [if_neg hn] at ht
        rw [hrs2, if_neg]
        · exact (f2.fr n t ht).2.1
        · rintro (z | z)
          · exact hn (f2.dj n i t ht z)
          · rw [z] at ht; exact bj n hn ht)
  rw [set_same h1] at f3
  have e3 : (r.set i none).set i (some (SV.ptr aE)) = r.set i (some (.ptr aE)) := by simp
  rw [e3] at f3
  generalize hl : (look kvs j).getD [] = l at hfor hw
  refine ⟨fun n m σ H => m = l.length - n ∧ n ≤ l.length ∧ ∃ G3 r3, Has (ccOf X) rs2 G3 H σ r3 ∧ Ex G2 G3 ∧ forD gt F (l.drop n) r3 = .nx rE, ⟨_, rfl, Nat.zero_le _, G2, _, ⟨_, f3⟩, .refl _, hfor⟩, ?_⟩
  rintro n m σ' H' ⟨rfl, hn, G3, r3, ⟨fp3, f4⟩, eg, q4⟩
  have hb' : H' b = some (.lst ws) := f4.rh b _ inb
  by_cases hlt : n < l.length
  · have hnw : n < ws.length := by rw [hw.len]; exact hlt
    refine .inr ⟨⟨ws, ws[n], SqL.of hb', by simp [hnw]⟩, _, fun σ' H' h => h, fun x H5 y => ?_⟩
    obtain ⟨y1, y2⟩ := y
    subst y1
    have hx := y2 ws (SqL.of hb')
    obtain ⟨d, hd, hv⟩ := hw.getV hx
    rw [drop_at hd] at q4
    cases hgd : gt d r3 with
    | none =>
      unfold forD at q4
      rw [hgd] at q4; cases q4
    | some r5 =>
      unfold forD at q4
      rw [hgd] at q4
      simp only [sBind] at q4
      refine ⟨rs2, G3, r3, d, r5, ⟨fp3, f4⟩, hv.mono eg, hgd, fun σ5 hs5 => ⟨rs2, G3, r5, hs5, ?_⟩⟩
      revert q4
      cases F r5 with
      | fail => exact fun q => nomatch q
      | rt d r6 => exact fun q => nomatch q
      | nx r6 => exact fun q4 σ6 G6 H6 h6 e6 => ⟨l.length - (n + 1), by omega, rfl, hlt, G6, r6, h6, eg.trans e6, q4⟩
  · have e : n = l.length := by omega
    subst e
    rw [List.drop_length] at q4
    have eE : r3 = rE := Res.nx_inj q4
    subst eE
    refine .inl ⟨⟨ws, SqL.of hb', by rw [hw.len]; exact Nat.le_refl _⟩, ?_⟩
    obtain ⟨v5, h5, _, h6⟩ := f4.at_ i _ hsE
    subst h6
    have out : ∀ t, t ∈ fp i → ∃ o, rs2 t = some o ∧ H2 t = some o := fun t ht => by
      obtain ⟨_, _, o, ho⟩ := f2.fr i t ht
      exact ⟨o, by rw [in2 t ht]; exact ho, ho⟩
    have f5 := (f4.away i f4.wd (.refl _) (fun _ _ e _ => e) (fun _ _ e => .inl e)).frame (rs2 := rs) (fun t o e => f4.rh t o (rsin t o e)) (fun t o e => f4.rg t o (rsin t o e)) (fun n t ht => by
      by_cases hn : n = i
      · simp only [hn, if_true] at ht; cases ht
      · simp only [if_neg hn] at ht
        cases z : rs t with
        | none => rfl
        | some o => exact absurd ((f4.fr n t ht).2.1.symm.trans (rsin t o z)) (by simp))
    obtain ⟨v6, h6, h7⟩ := f2.at_ i _ hsl
    rw [h1] at h6
    cases h6
    have f6 := f5.put (i := i) (v := .ref aE) (q := fp i) (h7.keep eg (H' := H') fun t ht => by
      obtain ⟨o, z1, z2⟩ := out t ht
      rw [z2]; exact f4.rh t o z1) (fun t ht => by
      obtain ⟨o, z1, z2⟩ := out t ht
      exact ⟨f4.rg t o z1, (f2.fr i t ht).2.1, o, f4.rh t o z1⟩) (fun n t hn ht => by
      simp only [if_neg hn]
      intro z
      obtain ⟨o, z1, z2⟩ := out t ht
      have := (f4.fr n t z).2.1
      rw [z1] at this; cases this)
    rw [set_same h5] at f6
    have e4 : (r3.set i none).set i (some (SV.obj (some aE) CN.takeoff fls)) = r3.set i (some (.obj (some aE) .takeoff fls)) := by simp
    rw [e4] at f6
    exact q σ' G3 H' ⟨_, f6⟩ ((s1.g.trans s2.g).trans eg)
end
end DL
end

section
set_option Elab.async false
set_option linter.all false
set_option maxRecDepth 100000
set_option maxHeartbeats 2000000
/-! D1o: what a def answers, as a function of its denotation; its contracts. -/
namespace DL
open PySem PySem.Spec PyProof.Rows L2

/-- the fuel of the loops -/
@[irreducible] def MX : Nat := 1000000
def runD (n : Nat) (N : List Str) (F : Nat → ST) : List D → Option D := fun ds => if ds.length = n then (match F MX (envOf N (ds.map .dat)) with
  | .rt d _ => some d
  | .nx _ => some .non
  | .fail => none) else none
open Classical in
noncomputable def runO (c : CN) (n : Nat) (N : List Str) (F : Nat → ST) : GO := fun fs ds => if h : ds.length = n ∧ ∃ z, ∀ a, EndsO a c z (F MX (envOf N (.obj (some a) c fs :: ds.map .dat))) then some h.2.choose else none
theorem runD_ok {n : Nat} {N : List Str} {F : Nat → ST} {ds : List D} {z : D} (h : runD n N F ds = some z) : ds.length = n ∧ ∃ m, Ends_ z (F m (envOf N (ds.map .dat))) := by
  unfold runD at h
  split at h
  · rename_i hl
    refine ⟨hl, MX, ?_⟩
    revert h
    cases F MX (envOf N (ds.map .dat)) with
    | fail => exact fun h => nomatch h
    | nx r => exact fun h => (Option.some.inj h).symm
    | rt d r => exact fun h => Option.some.inj h
  · cases h
theorem runD_len {n : Nat} {N : List Str} {F : Nat → ST} (ds : List D) (z : D) (h : runD n N F ds = some z) : ds.length = n := (runD_ok h).1
theorem runO_ok {c : CN} {n : Nat} {N : List Str} {F : Nat → ST} {fs : List Fld} {ds : List D} {z : D × List Fld} (h : runO c n N F fs ds = some z) : ds.length = n ∧ ∀ a, EndsO a c z (F MX (envOf N (.obj (some a) c fs :: ds.map .dat))) := by
  unfold runO at h
  split at h
  · rename_i hh
    cases h
    exact ⟨hh.1, hh.2.choose_spec⟩
  · cases h
theorem runO_len {c : CN} {n : Nat} {N : List Str} {F : Nat → ST} (fs : List Fld) (ds : List D) (z : D × List Fld) (h : runO c n N F fs ds = some z) : ds.length = n := (runO_ok h).1
theorem EndsO.inj {a : Addr} {c : CN} {z z' : D × List Fld} {q : Res} (h : EndsO a c z q) (h' : EndsO a c z' q) : z = z' := by
  obtain ⟨z1, z2⟩ := z
  obtain ⟨y1, y2⟩ := z'
  cases q with
  | fail => exact h.elim
  | nx r =>
    obtain ⟨h1, h2⟩ := h
    obtain ⟨h3, h4⟩ := h'
    rw [h2] at h4
    cases h4
    exact Prod.ext (h1.trans h3.symm) rfl
  | rt d r =>
    obtain ⟨h1, h2⟩ := h
    obtain ⟨h3, h4⟩ := h'
    rw [h2] at h4
    cases h4
    exact Prod.ext (h1.symm.trans h3) rfl
theorem runO_at {c : CN} {n : Nat} {N : List Str} {F : Nat → ST} {fs : List Fld} {ds : List D} {z : D × List Fld} (hl : ds.length = n) (h : ∀ a, EndsO a c z (F MX (envOf N (.obj (some a) c fs :: ds.map .dat)))) : runO c n N F fs ds = some z := by
  unfold runO
  have hh : ds.length = n ∧ ∃ z, ∀ a, EndsO a c z (F MX (envOf N (.obj (some a) c fs :: ds.map .dat))) := ⟨hl, z, h⟩
  rw [dif_pos hh]
  exact congrArg some (EndsO.inj (hh.2.choose_spec 0) (h 0))
theorem runD_at {n : Nat} {N : List Str} {F : Nat → ST} {ds : List D} {z : D} (hl : ds.length = n) (h : Ends_ z (F MX (envOf N (ds.map .dat)))) : runD n N F ds = some z := by
  unfold runD
  rw [if_pos hl]
  revert h
  cases F MX (envOf N (ds.map .dat)) with
  | fail => exact fun h => h.elim
  | nx r => exact fun h => congrArg some h.symm
  | rt d r => exact fun h => congrArg some h
open Classical in
/-- __init__: None, the attributes -/
noncomputable def runI (c : CN) (n : Nat) (N : List Str) (F : Nat → ST) : GO := fun fs ds => if h : ds.length = n ∧ ∃ fs', ∀ a, EndsO a c (.non, fs') (F MX (envOf N (.obj (some a) c fs :: ds.map .dat))) then some (.non, h.2.choose) else none
theorem runI_ok {c : CN} {n : Nat} {N : List Str} {F : Nat → ST} {fs : List Fld} {ds : List D} {z : D × List Fld} (h : runI c n N F fs ds = some z) : ds.length = n ∧ ∀ a, EndsO a c z (F MX (envOf N (.obj (some a) c fs :: ds.map .dat))) := by
  unfold runI at h
  split at h
  · rename_i hh
    cases h
    exact ⟨hh.1, hh.2.choose_spec⟩
  · cases h
theorem runI_len {c : CN} {n : Nat} {N : List Str} {F : Nat → ST} (fs : List Fld) (ds : List D) (z : D × List Fld) (h : runI c n N F fs ds = some z) : ds.length = n := (runI_ok h).1
theorem runI_non {c : CN} {n : Nat} {N : List Str} {F : Nat → ST} (ds : List D) (z : D × List Fld) (h : runI c n N F [] ds = some z) : z.1 = .non := by
  unfold runI at h
  split at h
  · cases h; rfl
  · cases h
theorem runI_at {c : CN} {n : Nat} {N : List Str} {F : Nat → ST} {fs fs' : List Fld} {ds : List D} (hl : ds.length = n) (h : ∀ a, EndsO a c (.non, fs') (F MX (envOf N (.obj (some a) c fs :: ds.map .dat)))) : runI c n N F fs ds = some (.non, fs') := by
  unfold runI
  have hh : ds.length = n ∧ ∃ fs', ∀ a, EndsO a c (.non, fs') (F MX (envOf N (.obj (some a) c fs :: ds.map .dat))) := ⟨hl, fs', h⟩
  rw [dif_pos hh]
  exact congrArg some (EndsO.inj (hh.2.choose_spec 0) (h 0))
/-- a method of an object that is data -/
def runM (c : CN) (n : Nat) (N : List Str) (F : Nat → ST) : List D → Option D
  | d :: ds => if (objD c d).isSome then runD n N F (d :: ds) else none
  | [] => none
theorem runM_ok {c : CN} {n : Nat} {N : List Str} {F : Nat → ST} {ds : List D} {z : D} (h : runM c n N F ds = some z) : ds.length = n ∧ ∃ m, Ends_ z (F m (envOf N (ds.map .dat))) := by
  cases ds with
  | nil => cases h
  | cons d ds =>
    simp only [runM] at h
    split at h
    · exact runD_ok h
    · cases h
theorem runM_len {c : CN} {n : Nat} {N : List Str} {F : Nat → ST} (ds : List D) (z : D) (h : runM c n N F ds = some z) : ds.length = n := (runM_ok h).1
theorem runM_self {c : CN} {n : Nat} {N : List Str} {F : Nat → ST} (d : D) (ds : List D) (z : D) (h : runM c n N F (d :: ds) = some z) : ∃ fs, objD c d = some fs := by
  simp only [runM] at h
  split at h
  · rename_i hh
    exact Option.isSome_iff_exists.mp hh
  · cases h
theorem runM_at {c : CN} {n : Nat} {N : List Str} {F : Nat → ST} {fs ds : List D} {z : D} (hl : (D.obj c fs :: ds).length = n) (h : Ends_ z (F MX (envOf N ((D.obj c fs :: ds).map .dat)))) : runM c n N F (.obj c fs :: ds) = some z := by
  simp only [runM]
  rw [if_pos (by simp [objD])]
  exact runD_at hl h
theorem len2 {a b : EX} {r : Env} {ds : List D} (h : aC a (aC b aN) r = some ds) : ds.length = 2 := by
  unfold aC at h
  obtain ⟨d, _, h⟩ := Option.bind_eq_some_iff.mp h
  obtain ⟨es, h1, h⟩ := Option.bind_eq_some_iff.mp h
  obtain ⟨e, _, h1⟩ := Option.bind_eq_some_iff.mp h1
  obtain ⟨fs, h2, h1⟩ := Option.bind_eq_some_iff.mp h1
  cases h2
  cases h1
  cases h
  rfl
theorem units65 {A : Around} {k : Nat} (hr : Room k A) : A.units + 65 < cLine := by have := hr.un; omega
/-- what the text's builtins are -/
structure Tp (K : PySem.W.Frag) (mg : Str → Option Value) : Prop where
  tx : TxC K
  b_len : mg "len" = none
  b_range : mg "range" = none
  b_tuple : mg "tuple" = none
  b_list : mg "list" = none
  b_sorted : mg "sorted" = none
  b_enumerate : mg "enumerate" = none
  b_all : mg "all" = none
  b_int : mg "int" = none
  b_bool : mg "bool" = none
  b_isinstance : mg "isinstance" = none
  b_repr : mg "repr" = none
end DL
end

section
set_option Elab.async false
set_option linter.all false
set_option maxRecDepth 100000
set_option maxHeartbeats 2000000
/-! D1p: the law's own call: nothing is being shown around it (guards), so repr may run in its body. -/
namespace DL
open PySem PySem.Spec PyProof.Rows L2

/-- a body runs at a given caller -/
theorem body_runs {P : Program} {w : World} {K : PySem.W.Frag} {mg : Str → Option Value} {base : Heap} {x qual : Str} {params : Arguments} {body : List Stmt} {scope : Scope} {dvs : List V} {kws : List (Str × V)} {f : Addr} {fd : FuncData} {N ps : List Str}
    (FD : FunD K x qual params body scope dvs kws f fd) (S : FnScope N ps scope) {A : Around} {us : List Value} {vs : List V} {st : Shared} {HH : Hp} {goal : VK} {exk : XK} {given : Args} (room : A.handled = none) (dep : A.depth < recursionLimit)
    (en : Env0 P w K mg base A [] st HH) (bnd : BindsTo st fd given (ps.zip us)) (rv : Vals vs us) (hlen : vs.length = ps.length)
    (bd : ∀ cdv : Value, ∃ t, PSs (cxOf CX0 P w K mg base N qual scope f cdv A [] st HH exk) body t ∧ t { nx := fun _ H' => goal .non H', rt := goal } (L2.start N vs) HH) :
    codeAny (model P w) A (.call (.ref f) given) (CR CX0 [] P w HH st goal exk) st := by
  obtain ⟨c1, c2, c3, c4, c5, c6, c7, cdv, c8, c9, rfl, hlook, hcode, _, _⟩ := FD.ex
  have kin : K.In st.heap := en.mod.kin.keeps fun q o z => (en.bs q o z).1
  have nolim : st.heap.NoLimit := en.mod.nolimit.keeps fun q o z => (en.bs q o z).1
  have kinds : ∀ q ∈ ps.zip us, scope.names.lookup q.1 = some .local ∨ (scope.names.lookup q.1 = some .cell ∧ ((cellsFrom (st.heap.objs.size + 1) scope.names []).lookup q.1).isSome = true) := by
    rintro ⟨m, v⟩ hq
    rcases S.par m (List.of_mem_zip hq).1 with z | z
    · exact Or.inl z
    · exact Or.inr ⟨z, PySem.W.cellsFrom_some _ _ _ (Or.inl z)⟩
  refine codeAny_call_function dep (kin _ _ hlook) rfl S.co S.gen rfl (PySem.W.codeRec_of kin hcode) (bnd _ _ _ _ ?_)
  refine wpAny_newFunctionEnv_cells S.kind kinds fun env henv t1 hcall => ?_
  subst henv
  refine ⟨nolim.keeps hcall.toInCall.keep, codeAny_func ?_⟩
  obtain ⟨t, hbody, hgoal⟩ := bd cdv
  have J := inv_start (CX := CX0) (E := exk) S room en hlen rv hcall
  refine wpAny_mono (hbody.run [] t1 (L2.start N vs) HH _ J hgoal) (fun fl t2 hq => ?_) fun e t2 hq => hq
  have last : ∀ {σ2 : L2.St} {H2 : Hp} {v : V} {u : Value}, L2.Inv (cxOf CX0 P w K mg base N qual scope f cdv A [] st HH exk) [] σ2 H2 t2 → RelV v u → goal v H2 → CE [] P w HH st goal u t2 :=
    fun {σ2 H2 v u} J2 ru hq2 => ⟨v, H2, J2.os, J2.bare, J2.base, J2.hok, ru, hq2⟩
  cases fl with
  | brk => exact (hq.choose_spec.choose_spec.2).elim
  | cont => exact (hq.choose_spec.choose_spec.2).elim
  | next =>
    obtain ⟨σ2, H2, J2, hq2⟩ := hq
    exact last (v := V.non) (u := Value.none) J2 rfl hq2
  | ret u =>
    obtain ⟨v, σ2, H2, J2, ru, hq2⟩ := hq
    exact last J2 ru hq2

/-- the law's promise at the heap behind the top, from its run at the caller -/
theorem law_at {P : Program} {w : World} {K : PySem.W.Frag} {mg mb : Str → Option Value} {fa a : Addr} {t1 : Shared} {vs : List Value} {ns : List Int}
    (inK : K.In t1.heap) (nsG : t1.heap.Ns mainGlobals mg) (nsB : t1.heap.Ns builtinsNs mb) (allB : ∀ x : Str, x ≠ "__name__" → mb x = bootBuiltins x) (nolim : t1.heap.NoLimit) (nog : t1.gens = #[])
    (hobj : t1.heap.get? a = some { cls := .type "list", data := .seq vs.toArray }) (hints : IntsAre vs ns) (short : ns.length ≤ sizeLine)
    (go : ∀ (base : Heap) (HH : Hp), K.In base → base.Ns mainGlobals mg → Env0 P w K mg base callerA [] t1 HH → SqL K HH a (ns.map V.int) → (∀ b xs, HH b ≠ some (.tup xs)) → codeAny (model P w) callerA (.call (.ref fa) ⟨[.ref a], []⟩) (CR CX0 [] P w HH t1 (fun v _ => v = .bl true) E0) t1) :
    codeAny (model P w) callerA (.call (.ref fa) ⟨[.ref a], []⟩) (fun res t2 => res = .ok (.ret (.bool true)) ∧ OldK t1.heap t2.heap ∧ t2.os = t1.os ∧ AllBare t2.gens) t1 := by
  have vals := vals_ints hints
  have len := hints.length
  have main : ∀ HH : Hp, Only HH → SqL K HH a (ns.map V.int) → HOk P w HH t1.heap → (∀ b, HH b ≠ none → b = a) → (HH a ≠ none → K.lookup a = none) →
      codeAny (model P w) callerA (.call (.ref fa) ⟨[.ref a], []⟩) (fun res t2 => res = .ok (.ret (.bool true)) ∧ OldK t1.heap t2.heap ∧ t2.os = t1.os ∧ AllBare t2.gens) t1 := by
    intro HH only hS hok just own
    have dnone : ∀ {b : Addr} {o : Obj} {es : Array DictEntry} {ep : Nat}, t1.heap.get? b = some o → o.data = .dict es ep → HH b = none := by
      intro b o es ep hb hd
      cases hq : HH b with
      | none => rfl
      | some u =>
        have hba : b = a := just b (by rw [hq]; simp)
        subst hba
        rw [hobj] at hb
        cases hb
        exact nomatch (show Data.seq vs.toArray _ = Data.dict es ep from hd)
    have keepNs : ∀ {b : Addr} {m : Str → Option Value}, t1.heap.Ns b m → (hidT t1.heap HH).Ns b m := fun {b m} ⟨o, es, ep, hb, hd, rest⟩ => ⟨o, es, ep, hidT_get hb (dnone hb hd), hd, rest⟩
    have baseK : K.In (hidT t1.heap HH) := fun b o hb => hidT_get (inK b o hb) (by
      cases hq : HH b with
      | none => rfl
      | some u =>
        have hba : b = a := just b (by rw [hq]; simp)
        subst hba
        rw [own (by rw [hq]; simp)] at hb
        cases hb)
    have hmod : Mod K mg (hidT t1.heap HH) := ⟨baseK, keepNs nsG, ⟨mb, keepNs nsB, allB⟩, let ⟨mc, z1, z2⟩ := nolim; ⟨mc, keepNs z1, z2⟩⟩
    have henv : Env0 P w K mg (hidT t1.heap HH) callerA [] t1 HH := ⟨rfl, hmod, fun b o hb => of_hidT hb, Nat.le_of_eq (hidT_size _ _), trivial, fun b hb => absurd (show b ∈ ([] : List Addr) from hb) (by simp), hok, .of_eq nog⟩
    refine codeAny_mono (go _ HH baseK (keepNs nsG) henv hS fun b xs hb => ?_) fun res t2 hq => ?_
    · rcases only b with z | ⟨o, ys, z⟩
      · rw [hb] at z; cases z
      · rw [hb] at z; cases z
    · cases res with
      | error e => exact (show False from hq).elim
      | ok fl =>
        cases fl with
        | next => exact (show False from hq).elim
        | brk => exact (show False from hq).elim
        | cont => exact (show False from hq).elim
        | ret u =>
          obtain ⟨v, H2, hos, hbare, hun, hok2, ru, rfl⟩ := hq
          cases (show u = Value.bool true from ru)
          refine ⟨rfl, OldK.of_keep fun b o hb => ?_, hos, hbare⟩
          cases hq : HH b with
          | none => exact hun.keep b o hb hq (fun z => absurd (show b ∈ ([] : List Addr) from z) (by simp)) (by simp)
          | some u =>
            rcases only b with z | ⟨ob, xs, z⟩
            · rw [hq] at z; cases z
            · obtain ⟨k1, _⟩ := hok b _ z
              obtain ⟨k2, _⟩ := hok2 b _ (hun.frzs b ob _ z)
              rw [hb] at k1
              cases k1
              exact k2
  cases hk : K.lookup a with
  | some o =>
    have hb := inK a o hk
    rw [hobj] at hb
    cases hb
    exact main (fun _ => none) (fun _ => Or.inl rfl) (Or.inr ⟨_, vs.toArray, _, hk, rfl, rfl, rfl, by rw [List.size_toArray, len]; exact short, by simpa using vals⟩) (fun b u z => nomatch (show (none : Option HO) = some u from z)) (fun b z => absurd rfl z) fun z => absurd rfl z
  | none =>
    refine main (fun b => if b = a then some (.frz { cls := .type "list", data := .seq vs.toArray } (.lst (ns.map V.int))) else none) (fun b => ?_) (Or.inl (Or.inr ⟨{ cls := .type "list", data := .seq vs.toArray }, if_pos rfl⟩)) (fun b u z => ?_) (fun b z => ?_) fun _ => hk
    · by_cases hb : b = a
      · exact Or.inr ⟨_, _, if_pos hb⟩
      · exact Or.inl (if_neg hb)
    · by_cases hb : b = a
      · have z2 := (if_pos hb).symm.trans z
        cases z2
        subst hb
        exact ⟨hobj, by rw [List.length_map]; exact short, vs, _, vals, hobj⟩
      · have z2 := (if_neg hb).symm.trans z
        cases z2
    · by_cases hb : b = a
      · exact hb
      · exact absurd (if_neg hb) z
/-- the goal that the head leaves, from the law's run at the caller -/
theorem walk_at {l : PySem.W.OpenLaw} {n : Nat} {q : Program} {loose : List Str} {XP : (Str → Option Value) → Heap → Prop} {YP : World → Heap → Prop} {d : DefRec}
    (hn : l.most = some n) (hn2 : n ≤ sizeLine) (hdf : d.params.defaults = [])
    (F : ∀ (w : World) (mg : Str → Option Value) (fa : Addr) (h : Heap), YP w h → h.Ns mainGlobals mg → mg d.name = some (.ref fa) →
      ∃ K : PySem.W.Frag, K.In h ∧ ∀ (base : Heap) (HH : Hp) (t1 : Shared) (a : Addr) (ns : List Int), ns.length ≤ n → K.In base → base.Ns mainGlobals mg → Env0 l.prog w K mg base callerA [] t1 HH → SqL K HH a (ns.map V.int) → (∀ b xs, HH b ≠ some (.tup xs)) →
        codeAny (model l.prog w) callerA (.call (.ref fa) ⟨[.ref a], []⟩) (CR CX0 [] l.prog w HH t1 (fun v _ => v = .bl true) E0) t1) :
    PySem.W.WalkO q loose XP YP l.row.toRowW d [] (fun f vs => PySem.call f vs) :=
  Att.attach_call hn hdf fun w t0 t1 mg mb fa o pm cd doc a vs ns G Y ho hd hcd hmg hobj hints hlen hg => by
    obtain ⟨K, inK, go⟩ := F w mg fa _ Y G.T.g hmg
    exact law_at inK G.T.g G.T.b G.T.builtins G.T.nolimit hg hobj hints (Nat.le_trans hlen hn2) fun base HH h1 h2 h3 h4 h5 => go base HH t1 a ns hlen h1 h2 h3 h4 h5
end DL
end

section
set_option linter.all false
namespace DL
def N_fits : List PySem.Str := ["step", "states", "letters", "letter"]
noncomputable def F_fits (m : Nat) : ST :=
  (sSeq (sIf (eOr (eNot (eLeLt (eC (.int 0)) (e1 (oFld .step 0) (eV 0)) (eV 1))) (eOr (eNot (eLeLt (eC (.int 0)) (e1 (oFld .step 2) (eV 0)) (eV 1))) (eNot (eLeLt (eC (.int 0)) (e1 (oFld .step 1) (eV 0)) (eV 2)))))
    (sRet (eC (.bl false)))
    sNil)
    (sSeq (sIf (eOr (e2 oGt (eCall gLen (aC (e1 (oFld .step 3) (eV 0)) aN)) (eC (.int 2))) (e2 oLt (e1 (oFld .step 4) (eV 0)) (eC (.int 0))))
    (sRet (eC (.bl false)))
    sNil)
    (sRet (eCall gAll (aC (eLc 3 (oTup (e1 (oFld .step 3) (eV 0))) (eC (.bl true)) (eLeLt (eC (.int 0)) (eV 3) (eV 2))) aN)))))
noncomputable def g_fits : List D → Option D := runD 3 N_fits F_fits
def N_Machine_init : List PySem.Str := ["self", "states", "letters", "steps", "step"]
noncomputable def F_Machine_init (m : Nat) : ST :=
  (sSeq (sIf (eOr (e2 oLt (eV 1) (eC (.int 1))) (eOr (e2 oLt (eV 2) (eC (.int 1))) (eNot (eCall gAll (aC (eLc 4 (oList (eV 3)) (eC (.bl true)) (eCall g_fits (aC (eV 4) (aC (eV 1) (aC (eV 2) aN))))) aN)))))
    sNever
    sNil)
    (sSeq (sFld 0 .machine 0 (eV 1))
    (sSeq (sFld 0 .machine 1 (eV 2))
    (sFld 0 .machine 2 (eCall gTuple (aC (eV 3) aN))))))
noncomputable def g_Machine_init : GO := runI .machine 3 N_Machine_init F_Machine_init
def N_Step_init : List PySem.Str := ["self", "state", "letter", "goal", "laid", "weight"]
noncomputable def F_Step_init (m : Nat) : ST :=
  (sSeq (sFld 0 .step 0 (eV 1))
    (sSeq (sFld 0 .step 1 (eV 2))
    (sSeq (sFld 0 .step 2 (eV 3))
    (sSeq (sFld 0 .step 3 (eCall gTuple (aC (eV 4) aN)))
    (sFld 0 .step 4 (eV 5))))))
noncomputable def g_Step_init : GO := runI .step 5 N_Step_init F_Step_init
def N_TakeOff_entries : List PySem.Str := ["self", "state", "letter"]
noncomputable def F_TakeOff_entries (m : Nat) : ST :=
  (sRet (e2 oGetL (e1 (oFld .takeoff 3) (eV 0)) (eTup (aC (eV 1) (aC (eV 2) aN)))))
noncomputable def g_TakeOff_entries : List D → Option D := runM .takeoff 3 N_TakeOff_entries F_TakeOff_entries
def N_descents : List PySem.Str := ["table", "configuration", "state", "pile", "found", "level", "letter", "lower", "before", "entries", "entry"]
noncomputable def F_descents (m : Nat) : ST :=
  (sSeq (sUnp (gT [2, 3]) (eV 1))
    (sSeq (sOwn 4 (cNewD .t))
    (sSeq (sOwn 5 (cDisp (eV 2) (eTup aN)))
    (sSeq (sFrz 5) (sSeq (sFor (gN 6) (oTup (eV 3))
    (sSeq (sOwn 7 (cNewD .i))
    (sSeq (sFor (gT [8, 9]) (iItems .i (eV 5))
    (sSeq (sIf (pIn .t true (eTup (aC (eV 8) (aC (eV 6) aN))) (.s 4))
    (sPut .t (.s 4) (eTup (aC (eV 8) (aC (eV 6) aN))) (eV 9))
    sNil)
    (sSeq (sFor (gN 10) (oList (eCall g_TakeOff_entries (aC (eV 0) (aC (eV 8) (aC (eV 6) aN)))))
    (sSeq (sIf (pIn .i true (eIx (eV 10) (eC (.int 2))) (.s 7))
    (sPut .i (.s 7) (eIx (eV 10) (eC (.int 2))) (e2 oCatT (eV 9) (eTup (aC (eV 10) aN))))
    sNil)
    (sSeq (sFgt [10]) sNil)))
    (sSeq (sFgt [8, 9, 10]) sNil))))
    (sSeq (sFrz 7) (sSeq (sSet 5 (eV 7))
    (sSeq (sFgt [6, 7, 8, 9, 10]) sNil))))))
    (sSeq (sFrz 4) (sRet (eV 4))))))))
noncomputable def g_descents : List D → Option D := runD 2 N_descents F_descents
def N_way_to : List PySem.Str := ["found", "head", "moves", "move"]
noncomputable def F_way_to (m : Nat) : ST :=
  (sSeq (sOwn 2 (cNewL aN))
    (sSeq (whD (e1 oNotN (e2 (oGet .t) (eV 0) (eV 1)))
    (sSeq (sUnp (gT [1, 3]) (e2 (oGet .t) (eV 0) (eV 1)))
    (sSeq (sApp (.s 2) (eV 3))
    (sSeq (sFgt [3]) sNil))) m)
    (sRet (pRev (.s 2)))))
noncomputable def g_way_to : List D → Option D := runD 2 N_way_to F_way_to
def N_Heads_moves_from : List PySem.Str := ["self", "head"]
noncomputable def F_Heads_moves_from (m : Nat) : ST :=
  (sRet (e2 oGetL (e1 (oFld .heads 0) (eV 0)) (eV 1)))
noncomputable def g_Heads_moves_from : List D → Option D := runM .heads 2 N_Heads_moves_from F_Heads_moves_from
def N_Heads_reached : List PySem.Str := ["self", "heads", "found", "head", "pending", "move"]
noncomputable def F_Heads_reached (m : Nat) : ST :=
  (sSeq (sOwn 2 (cNewD .t))
    (sSeq (sFor (gN 3) (oList (eV 1))
    (sPut .t (.s 2) (eV 3) (eC .non)))
    (sSeq (sOwn 4 (cKeys .t (.s 2)))
    (sSeq (whD (e2 oGt (pLenL (.s 4)) (eC (.int 0)))
    (sSeq (sPopTo 3 (.s 4))
    (sSeq (sFor (gN 5) (oList (eCall g_Heads_moves_from (aC (eV 0) (aC (eV 3) aN))))
    (sSeq (sIf (pIn .t true (eIx (eV 5) (eC (.int 0))) (.s 2))
    (sSeq (sPut .t (.s 2) (eIx (eV 5) (eC (.int 0))) (eTup (aC (eV 3) (aC (eV 5) aN))))
    (sApp (.s 4) (eIx (eV 5) (eC (.int 0)))))
    sNil)
    (sSeq (sFgt [5]) sNil)))
    (sSeq (sFgt [5]) sNil))) m)
    (sSeq (sFrz 2) (sRet (eV 2)))))))
noncomputable def g_Heads_reached : List D → Option D := runM .heads 2 N_Heads_reached F_Heads_reached
def N_ring_at : List PySem.Str := ["heads", "found", "head", "move", "back"]
noncomputable def F_ring_at (m : Nat) : ST :=
  (sSeq (sFor (gN 2) (iKeys .t (eV 1))
    (sSeq (sFor (gN 3) (oList (eCall g_Heads_moves_from (aC (eV 0) (aC (eV 2) aN))))
    (sSeq (sIf (eIx (eV 3) (eC (.int 1)))
    (sSeq (sSet 4 (eCall g_Heads_reached (aC (eV 0) (aC (eLst (aC (eIx (eV 3) (eC (.int 0))) aN)) aN))))
    (sIf (e2 (oIn .t false) (eV 2) (eV 4))
    (sRet (eTup (aC (eV 2) (aC (eV 3) (aC (eCall g_way_to (aC (eV 4) (aC (eV 2) aN))) aN)))))
    sNil))
    sNil)
    (sSeq (sFgt [3, 4]) sNil)))
    (sSeq (sFgt [2, 3, 4]) sNil)))
    (sRet (eC .non)))
noncomputable def g_ring_at : List D → Option D := runD 2 N_ring_at F_ring_at
def N_Rows_missing : List PySem.Str := ["self", "key", "parts", "part"]
noncomputable def F_Rows_missing (m : Nat) : ST :=
  (sSeq (sSet 2 (eIx (e2 (oGet .e) (eOFld 0 .rows 0) (eV 1)) (eC (.int 1))))
    (sRet (eLc 3 (oTup (eV 2)) (eAnd (e1 oNotN (eIx (e2 (oGet .e) (eOFld 0 .rows 0) (eV 3)) (eC (.int 0)))) (pIn .e true (eV 3) (.f 0 .rows 1))) (eV 3))))
noncomputable def g_Rows_missing : GO := runO .rows 1 N_Rows_missing F_Rows_missing
def N_Rows_add : List PySem.Str := ["self", "key", "with_items", "pending", "last", "step", "parts", "before", "part", "written"]
noncomputable def F_Rows_add (m : Nat) : ST :=
  (sSeq (sOwn 3 (cNewL (aC (eV 1) aN)))
    (whD (e2 oGt (pLenL (.s 3)) (eC (.int 0)))
    (sSeq (sSet 4 (pLast (.s 3)))
    (sSeq (sUnp (gT [5, 6]) (e2 (oGet .e) (eOFld 0 .rows 0) (eV 4)))
    (sSeq (sMethTo 7 0 .rows g_Rows_missing (aC (eV 4) aN))
    (sSeq (sIf (eOr (e1 oIsN (eV 5)) (pIn .e false (eV 4) (.f 0 .rows 1)))
    (sPop (.s 3))
    (sIf (e2 oGt (eCall gLen (aC (eV 7) aN)) (eC (.int 0)))
    (sExt (.s 3) (eV 7))
    (sSeq (sIf (eV 2)
    sNever
    (sSet 9 (eCall gTuple (aC (eLc 8 (oTup (eV 6)) (eC (.bl true)) (pGet .e (.f 0 .rows 1) (eV 8))) aN))))
    (sSeq (sPut .e (.f 0 .rows 1) (eV 4) (pLenL (.f 0 .rows 2)))
    (sSeq (sApp (.f 0 .rows 2) (eTup (aC (eV 5) (aC (eV 9) aN))))
    (sPop (.s 3)))))))
    (sSeq (sFgt [4, 5, 6, 7, 9]) sNil))))) m))
noncomputable def g_Rows_add : GO := runO .rows 2 N_Rows_add F_Rows_add
def N_told_moves : List PySem.Str := ["rows", "moves", "told", "move", "part"]
noncomputable def F_told_moves (m : Nat) : ST :=
  (sSeq (sOwn 2 (cNewL aN))
    (sSeq (sFor (gN 3) (oList (eV 1))
    (sSeq (sSet 4 (eC .non))
    (sSeq (sIf (e1 oNotN (eIx (eV 3) (eC (.int 3))))
    (sSeq (sMeth 0 .rows g_Rows_add (aC (eIx (eV 3) (eC (.int 3))) (aC (eC (.bl false)) aN)))
    (sSet 4 (pGet .e (.f 0 .rows 1) (eIx (eV 3) (eC (.int 3))))))
    sNil)
    (sSeq (sApp (.s 2) (eTup (aC (eIx (eV 3) (eC (.int 2))) (aC (eV 4) aN))))
    (sSeq (sFgt [3, 4]) sNil)))))
    (sSeq (sFrz 2) (sRet (eCall gTuple (aC (eV 2) aN))))))
noncomputable def g_told_moves : GO := runO .rows 1 N_told_moves F_told_moves
def N_told_ranks : List PySem.Str := ["heads", "found", "ranks", "head", "changed", "move", "rank"]
noncomputable def F_told_ranks (m : Nat) : ST :=
  (sSeq (sOwn 2 (cNewD .t))
    (sSeq (sFor (gN 3) (iKeys .t (eV 1))
    (sPut .t (.s 2) (eV 3) (eC (.int 0))))
    (sSeq (sSet 4 (eC (.bl true)))
    (sSeq (whD (eV 4)
    (sSeq (sSet 4 (eC (.bl false)))
    (sSeq (sFor (gN 3) (iKeys .t (eV 1))
    (sSeq (sFor (gN 5) (oList (eCall g_Heads_moves_from (aC (eV 0) (aC (eV 3) aN))))
    (sSeq (sSet 6 (e2 oAdd (pGet .t (.s 2) (eIx (eV 5) (eC (.int 0)))) (eCall gInt (aC (eIx (eV 5) (eC (.int 1))) aN))))
    (sSeq (sIf (e2 oGt (eV 6) (pGet .t (.s 2) (eV 3)))
    (sSeq (sPut .t (.s 2) (eV 3) (eV 6))
    (sSet 4 (eC (.bl true))))
    sNil)
    (sSeq (sFgt [5, 6]) sNil))))
    (sSeq (sFgt [5, 6]) sNil)))
    (sSeq (sFgt [5, 6]) sNil))) m)
    (sSeq (sFrz 2) (sRet (eCall gTuple (aC (eCall gSorted (aC (e1 (oItems .t) (eV 2)) aN)) aN))))))))
noncomputable def g_told_ranks : List D → Option D := runD 2 N_told_ranks F_told_ranks
def N_Heads_put : List PySem.Str := ["self", "step", "move"]
noncomputable def F_Heads_put (m : Nat) : ST :=
  (sSdApp (.f 0 .heads 0) (eTup (aC (e1 (oFld .step 0) (eV 1)) (aC (e1 (oFld .step 1) (eV 1)) aN))) (eV 2))
noncomputable def g_Heads_put : GO := runO .heads 2 N_Heads_put F_Heads_put
def N_Heads_init : List PySem.Str := ["self", "machine", "table", "index", "step", "marked", "entry"]
noncomputable def F_Heads_init (m : Nat) : ST :=
  (sSeq (sFldO 0 .heads 0 (.dil []))
    (sFor (gT [3, 4]) (iEnum (e1 (oFld .machine 2) (eV 1)))
    (sSeq (sSet 5 (e2 (oIn .i false) (eV 3) (e1 (oFld .takeoff 1) (eV 2))))
    (sSeq (sIf (e2 oGt (eCall gLen (aC (e1 (oFld .step 3) (eV 4)) aN)) (eC (.int 0)))
    (sMeth 0 .heads g_Heads_put (aC (eV 4) (aC (eTup (aC (eTup (aC (e1 (oFld .step 2) (eV 4)) (aC (eIx (e1 (oFld .step 3) (eV 4)) (eC (.int 0))) aN))) (aC (eV 5) (aC (eV 3) (aC (eC .non) aN))))) aN)))
    sNil)
    (sSeq (sIf (e2 oEqI (eCall gLen (aC (e1 (oFld .step 3) (eV 4)) aN)) (eC (.int 2)))
    (sFor (gN 6) (oList (eCall g_TakeOff_entries (aC (eV 2) (aC (e1 (oFld .step 2) (eV 4)) (aC (eIx (e1 (oFld .step 3) (eV 4)) (eC (.int 0))) aN)))))
    (sSeq (sMeth 0 .heads g_Heads_put (aC (eV 4) (aC (eTup (aC (eTup (aC (eIx (eV 6) (eC (.int 2))) (aC (eIx (e1 (oFld .step 3) (eV 4)) (eC (.int 1))) aN))) (aC (eOr (eV 5) (eIx (eV 6) (eC (.int 3)))) (aC (eV 3) (aC (eV 6) aN))))) aN)))
    (sSeq (sFgt [6]) sNil)))
    sNil)
    (sSeq (sFgt [3, 4, 5, 6]) sNil))))))
noncomputable def g_Heads_init : GO := runI .heads 2 N_Heads_init F_Heads_init
def N_Rows_init : List PySem.Str := ["self", "found"]
noncomputable def F_Rows_init (m : Nat) : ST :=
  (sSeq (sFld 0 .rows 0 (eV 1))
    (sSeq (sFldO 0 .rows 1 (.dic .e []))
    (sFldO 0 .rows 2 (.lst []))))
noncomputable def g_Rows_init : GO := runI .rows 1 N_Rows_init F_Rows_init
def N_TakeOff_use : List PySem.Str := ["self", "index", "step", "ways", "letter", "longer", "state", "flag", "parts", "entry"]
noncomputable def F_TakeOff_use (m : Nat) : ST :=
  (sSeq (sSet 2 (eIx (e1 (oFld .machine 2) (eOFld 0 .takeoff 0)) (eV 1)))
    (sSeq (sSet 3 (eLst (aC (eTup (aC (e1 (oFld .step 2) (eV 2)) (aC (pIn .i false (eV 1) (.f 0 .takeoff 1)) (aC (eTup aN) aN)))) aN)))
    (sSeq (sFor (gN 4) (oTup (e1 (oFld .step 3) (eV 2)))
    (sSeq (sOwn 5 (cNewL aN))
    (sSeq (sFor (gT [6, 7, 8]) (oList (eV 3))
    (sForE 0 (aC (eV 6) (aC (eV 4) aN)) (gN 9)
    (sApp (.s 5) (eTup (aC (eIx (eV 9) (eC (.int 2))) (aC (eOr (eV 7) (eIx (eV 9) (eC (.int 3)))) (aC (e2 oCatT (eV 8) (eTup (aC (eV 9) aN))) aN)))))))
    (sSeq (sFrz 5) (sSeq (sSet 3 (eV 5))
    (sSeq (sFgt [4, 5]) sNil))))))
    (sFor (gT [6, 7, 8]) (oList (eV 3))
    (sSeq (sSet 9 (eTup (aC (e1 (oFld .step 0) (eV 2)) (aC (e1 (oFld .step 1) (eV 2)) (aC (eV 6) (aC (eV 7) aN))))))
    (sIf (pIn .e true (eV 9) (.f 0 .takeoff 2))
    (sSeq (sPut .e (.f 0 .takeoff 2) (eV 9) (eTup (aC (eV 1) (aC (eV 8) aN))))
    (sSdApp (.f 0 .takeoff 3) (e1 (oTo 2) (eV 9)) (eV 9)))
    sNil))))))
noncomputable def g_TakeOff_use : GO := runO .takeoff 1 N_TakeOff_use F_TakeOff_use
def N_TakeOff_init : List PySem.Str := ["self", "machine", "marked", "index", "changed", "before"]
noncomputable def F_TakeOff_init (m : Nat) : ST :=
  (sSeq (sFld 0 .takeoff 0 (eV 1))
    (sSeq (sFldO 0 .takeoff 1 (.dic .i []))
    (sSeq (sFor (gN 3) (oTup (eV 2))
    (sPut .i (.f 0 .takeoff 1) (eV 3) (eC (.bl true))))
    (sSeq (sFldO 0 .takeoff 2 (.dic .e []))
    (sSeq (sFldO 0 .takeoff 3 (.dil []))
    (sSeq (sSet 4 (eC (.bl true)))
    (whD (eV 4)
    (sSeq (sSet 5 (pLenD .e (.f 0 .takeoff 2)))
    (sSeq (sFor (gN 3) (iRange (eCall gLen (aC (e1 (oFld .machine 2) (eV 1)) aN)))
    (sMeth 0 .takeoff g_TakeOff_use (aC (eV 3) aN)))
    (sSeq (sSet 4 (e2 oGt (pLenD .e (.f 0 .takeoff 2)) (eV 5)))
    (sSeq (sFgt [5]) sNil)))) m)))))))
noncomputable def g_TakeOff_init : GO := runI .takeoff 2 N_TakeOff_init F_TakeOff_init
def N_endless : List PySem.Str := ["machine", "marked", "configuration", "table", "heads", "begins", "found", "ring", "way", "start", "rows", "entry", "descent", "told_way", "told_ring"]
noncomputable def F_endless (m : Nat) : ST :=
  (sSeq (sMake 3 .takeoff g_TakeOff_init (aC (eV 0) (aC (eV 1) aN)))
    (sSeq (sFrz 3) (sSeq (sMake 4 .heads g_Heads_init (aC (eV 0) (aC (eV 3) aN)))
    (sSeq (sFrz 4) (sSeq (sSet 5 (eCall g_descents (aC (eV 3) (aC (eV 2) aN))))
    (sSeq (sSet 6 (eCall g_Heads_reached (aC (eV 4) (aC (eCall (gKeys .t) (aC (eV 5) aN)) aN))))
    (sSeq (sSet 7 (eCall g_ring_at (aC (eV 4) (aC (eV 6) aN))))
    (sSeq (sIf (e1 oIsN (eV 7))
    (sRet (eTup (aC (eC (.bl false)) (aC (eTup (aC (eC (.str "not")) (aC (eCall gTuple (aC (eCall gSorted (aC (eCall (gKeys .e) (aC (e1 (oFld .takeoff 2) (eV 3)) aN)) aN)) aN)) (aC (eCall g_told_ranks (aC (eV 4) (aC (eV 6) aN))) aN)))) aN))))
    sNil)
    (sSeq (sSet 8 (eCall g_way_to (aC (eV 6) (aC (eIx (eV 7) (eC (.int 0))) aN))))
    (sSeq (sSet 9 (eIx (eV 7) (eC (.int 0))))
    (sSeq (whD (e1 oNotN (e2 (oGet .t) (eV 6) (eV 9)))
    (sSet 9 (eIx (e2 (oGet .t) (eV 6) (eV 9)) (eC (.int 0)))) m)
    (sSeq (sMake 10 .rows g_Rows_init (aC (e1 (oFld .takeoff 2) (eV 3)) aN))
    (sSeq (sFor (gN 11) (oTup (e2 (oGet .t) (eV 5) (eV 9)))
    (sMeth 10 .rows g_Rows_add (aC (eV 11) (aC (eC (.bl false)) aN))))
    (sSeq (sSet 12 (eCall gTuple (aC (eLc 11 (oTup (e2 (oGet .t) (eV 5) (eV 9))) (eC (.bl true)) (pGet .e (.f 10 .rows 1) (eV 11))) aN)))
    (sSeq (sCallO 13 10 .rows g_told_moves (aC (eV 8) aN))
    (sSeq (sCallO 14 10 .rows g_told_moves (aC (e2 oCat (eLst (aC (eIx (eV 7) (eC (.int 1))) aN)) (eIx (eV 7) (eC (.int 2)))) aN))
    (sSeq (sFrz 10) (sRet (eTup (aC (eC (.bl true)) (aC (eTup (aC (eC (.str "ever")) (aC (eCall gTuple (aC (e1 (oFld .rows 2) (eV 10)) aN)) (aC (eV 12) (aC (eV 13) (aC (eV 14) aN)))))) aN)))))))))))))))))))))
noncomputable def g_endless : List D → Option D := runD 3 N_endless F_endless
def N_law_numbers : List PySem.Str := ["_law_script", "_law_count", "_law_rest", "_law_by_digits", "_law_numbers_here", "_law_k", "_law_cell"]
noncomputable def F_law_numbers (m : Nat) : ST :=
  (sSeq (sSet 2 (eC (.int 0)))
    (sSeq (sIf (e2 oGt (eCall gLen (aC (eV 0) aN)) (eC (.int 0)))
    (sSet 2 (eIx (eV 0) (eC (.int 0))))
    sNil)
    (sSeq (sSet 3 (e2 oGe (eV 2) (e2 oPow (eC (.int 10)) (eC (.int 18)))))
    (sSeq (sOwn 4 (cNewL aN))
    (sSeq (sFor (gN 5) (iRange (eV 1))
    (sSeq (sIf (eAnd (eV 3) (e2 oGt (eV 2) (eC (.int 0))))
    (sSeq (sApp (.s 4) (e2 oMod (eV 2) (eC (.int 1000000))))
    (sSet 2 (e2 oDiv (eV 2) (eC (.int 1000000)))))
    (sSeq (sSet 6 (eC (.int 13)))
    (sSeq (sIf (e2 oGt (eCall gLen (aC (eV 0) aN)) (eC (.int 0)))
    (sSet 6 (e2 oAdd (eIx (eV 0) (e2 oMod (eV 5) (eCall gLen (aC (eV 0) aN)))) (e2 oMul (eC (.int 7919)) (eV 5))))
    sNil)
    (sApp (.s 4) (e2 oMod (e2 oMod (e2 oMul (e2 oMod (e2 oMul (eV 6) (eC (.int 48271))) (eC (.int 2147483647))) (eC (.int 69621))) (eC (.int 2147483629))) (eC (.int 1000000)))))))
    (sSeq (sFgt [5, 6]) sNil)))
    (sSeq (sFrz 4) (sRet (eV 4))))))))
noncomputable def g_law_numbers : List D → Option D := runD 2 N_law_numbers F_law_numbers
def N_law_rows : List PySem.Str := ["_law_numbers_here", "_law_place", "_law_states", "_law_letters", "_law_count", "_law_rows_here", "_law_i", "_law_number", "_law_size", "_law_laid", "_law_j", "_law_state", "_law_letter", "_law_goal"]
noncomputable def F_law_rows (m : Nat) : ST :=
  (sSeq (sOwn 5 (cNewL aN))
    (sSeq (sFor (gN 6) (iRange (eV 4))
    (sSeq (sSet 7 (eIx (eV 0) (e2 oAdd (eV 1) (eV 6))))
    (sSeq (sSet 8 (eIx (eLst (aC (eC (.int 0)) (aC (eC (.int 0)) (aC (eC (.int 1)) (aC (eC (.int 2)) (aC (eC (.int 2)) aN)))))) (e2 oMod (eV 7) (eC (.int 5)))))
    (sSeq (sSet 7 (e2 oDiv (eV 7) (eC (.int 5))))
    (sSeq (sOwn 9 (cNewL aN))
    (sSeq (sFor (gN 10) (iRange (eV 8))
    (sSeq (sApp (.s 9) (e2 oMod (eV 7) (eV 3)))
    (sSeq (sSet 7 (e2 oDiv (eV 7) (eV 3)))
    (sSeq (sFgt [10]) sNil))))
    (sSeq (sSet 11 (e2 oMod (eV 7) (eV 2)))
    (sSeq (sSet 7 (e2 oDiv (eV 7) (eV 2)))
    (sSeq (sSet 12 (e2 oMod (eV 7) (eV 3)))
    (sSeq (sSet 7 (e2 oDiv (eV 7) (eV 3)))
    (sSeq (sSet 13 (e2 oMod (eV 7) (eV 2)))
    (sSeq (sFrz 9) (sSeq (sApp (.s 5) (eTup (aC (eV 11) (aC (eV 12) (aC (eV 13) (aC (eCall gTuple (aC (eV 9) aN)) (aC (e2 oMod (e2 oDiv (eV 7) (eV 2)) (eC (.int 6))) aN)))))))
    (sSeq (sFgt [6, 7, 8, 9, 10, 11, 12, 13]) sNil))))))))))))))
    (sSeq (sFrz 5) (sRet (eV 5)))))
noncomputable def g_law_rows : List D → Option D := runD 5 N_law_rows F_law_rows
def N_law_machine : List PySem.Str := ["_law_numbers_here", "_law_place", "_law_states", "_law_letters"]
noncomputable def F_law_machine (m : Nat) : ST :=
  (sSeq (sSet 2 (e2 oAdd (e2 oMod (eIx (eV 0) (eV 1)) (eC (.int 4))) (eC (.int 1))))
    (sSeq (sSet 3 (e2 oAdd (e2 oMod (e2 oDiv (eIx (eV 0) (eV 1)) (eC (.int 4))) (eC (.int 3))) (eC (.int 1))))
    (sRet (eLst (aC (eV 2) (aC (eV 3) (aC (eCall g_law_rows (aC (eV 0) (aC (e2 oAdd (eV 1) (eC (.int 1))) (aC (eV 2) (aC (eV 3) (aC (e2 oMod (e2 oDiv (eIx (eV 0) (eV 1)) (eC (.int 12))) (eC (.int 11))) aN)))))) aN)))))))
noncomputable def g_law_machine : List D → Option D := runD 2 N_law_machine F_law_machine
def N_law_made : List PySem.Str := ["_law_parts", "_law_row"]
noncomputable def F_law_made (m : Nat) : ST :=
  (sRet (eMake .machine g_Machine_init (aC (eIx (eV 0) (eC (.int 0))) (aC (eIx (eV 0) (eC (.int 1))) (aC (eLc 1 (oList (eIx (eV 0) (eC (.int 2)))) (eC (.bl true)) (eMake .step g_Step_init (aC (eIx (eV 1) (eC (.int 0))) (aC (eIx (eV 1) (eC (.int 1))) (aC (eIx (eV 1) (eC (.int 2))) (aC (eIx (eV 1) (eC (.int 3))) (aC (eIx (eV 1) (eC (.int 4))) aN))))))) aN)))))
noncomputable def g_law_made : List D → Option D := runD 1 N_law_made F_law_made
def N_law_configuration : List PySem.Str := ["_law_number", "_law_states", "_law_letters", "_law_most", "_law_pile", "_law_rest", "_law_k"]
noncomputable def F_law_configuration (m : Nat) : ST :=
  (sSeq (sOwn 4 (cNewL aN))
    (sSeq (sSet 5 (e2 oDiv (e2 oDiv (eV 0) (eC (.int 8))) (eV 1)))
    (sSeq (sFor (gN 6) (iRange (e2 oMod (e2 oMod (eV 0) (eC (.int 8))) (e2 oAdd (eV 3) (eC (.int 1)))))
    (sSeq (sApp (.s 4) (e2 oMod (eV 5) (eV 2)))
    (sSeq (sSet 5 (e2 oAdd (e2 oDiv (eV 5) (eV 2)) (e2 oMul (eC (.int 7)) (eV 6))))
    (sSeq (sFgt [6]) sNil))))
    (sSeq (sFrz 4) (sRet (eTup (aC (e2 oMod (e2 oDiv (eV 0) (eC (.int 8))) (eV 1)) (aC (eCall gTuple (aC (eV 4) aN)) aN))))))))
noncomputable def g_law_configuration : List D → Option D := runD 4 N_law_configuration F_law_configuration
def N_law_marks : List PySem.Str := ["_law_number", "_law_count", "_law_marks_here", "_law_k"]
noncomputable def F_law_marks (m : Nat) : ST :=
  (sSeq (sOwn 2 (cNewL aN))
    (sSeq (sFor (gN 3) (iRange (eV 1))
    (sSeq (sIf (e2 oEqI (e2 oMod (eV 0) (eC (.int 3))) (eC (.int 1)))
    (sApp (.s 2) (eV 3))
    sNil)
    (sSeq (sSet 0 (e2 oDiv (eV 0) (eC (.int 3))))
    (sSeq (sFgt [3]) sNil))))
    (sSeq (sFrz 2) (sRet (eCall gTuple (aC (eV 2) aN))))))
noncomputable def g_law_marks : List D → Option D := runD 2 N_law_marks F_law_marks
def N_law_off_rows : List PySem.Str := ["_law_parts", "_law_marked", "_law_rows_here", "_law_told_here", "_law_row", "_law_step", "_law_state", "_law_flag", "_law_k", "_law_part"]
noncomputable def F_law_off_rows (m : Nat) : ST :=
  (sSeq (sOwn 3 (cNewL aN))
    (sSeq (sFor (gN 4) (oTup (eV 2))
    (sSeq (sIf (eOr (e2 oLt (eIx (eV 4) (eC (.int 0))) (eC (.int 0))) (eOr (e2 oGe (eIx (eV 4) (eC (.int 0))) (eCall gLen (aC (eIx (eV 0) (eC (.int 2))) aN))) (e2 oNeI (eCall gLen (aC (eIx (eV 4) (eC (.int 1))) aN)) (eCall gLen (aC (eIx (eIx (eIx (eV 0) (eC (.int 2))) (eIx (eV 4) (eC (.int 0)))) (eC (.int 3))) aN)))))
    (sRet (eC .non))
    sNil)
    (sSeq (sSet 5 (eIx (eIx (eV 0) (eC (.int 2))) (eIx (eV 4) (eC (.int 0)))))
    (sSeq (sSet 6 (eIx (eV 5) (eC (.int 2))))
    (sSeq (sSet 7 (e2 (oInI false) (eIx (eV 4) (eC (.int 0))) (eV 1)))
    (sSeq (sFor (gN 8) (iRange (eCall gLen (aC (eIx (eV 4) (eC (.int 1))) aN)))
    (sSeq (sIf (eOr (e2 oLt (eIx (eIx (eV 4) (eC (.int 1))) (eV 8)) (eC (.int 0))) (e2 oGe (eIx (eIx (eV 4) (eC (.int 1))) (eV 8)) (pLenL (.s 3))))
    (sRet (eC .non))
    sNil)
    (sSeq (sSet 9 (pIx (.s 3) (eIx (eIx (eV 4) (eC (.int 1))) (eV 8))))
    (sSeq (sIf (eOr (e2 oNeI (eIx (eV 9) (eC (.int 0))) (eV 6)) (e2 oNeI (eIx (eV 9) (eC (.int 1))) (eIx (eIx (eV 5) (eC (.int 3))) (eV 8))))
    (sRet (eC .non))
    sNil)
    (sSeq (sSet 6 (eIx (eV 9) (eC (.int 2))))
    (sSeq (sSet 7 (eOr (eV 7) (eIx (eV 9) (eC (.int 3)))))
    (sSeq (sFgt [8, 9]) sNil)))))))
    (sSeq (sApp (.s 3) (eTup (aC (eIx (eV 5) (eC (.int 0))) (aC (eIx (eV 5) (eC (.int 1))) (aC (eV 6) (aC (eV 7) aN))))))
    (sSeq (sFgt [4, 5, 6, 7, 8, 9]) sNil))))))))
    (sSeq (sFrz 3) (sRet (eV 3)))))
noncomputable def g_law_off_rows : List D → Option D := runD 3 N_law_off_rows F_law_off_rows
def N_law_move : List PySem.Str := ["_law_parts", "_law_marked", "_law_told_here", "_law_move_here", "_law_step", "_law_begin", "_law_row"]
noncomputable def F_law_move (m : Nat) : ST :=
  (sSeq (sIf (eOr (e2 oLt (eIx (eV 3) (eC (.int 0))) (eC (.int 0))) (e2 oGe (eIx (eV 3) (eC (.int 0))) (eCall gLen (aC (eIx (eV 0) (eC (.int 2))) aN))))
    (sRet (eC .non))
    sNil)
    (sSeq (sSet 4 (eIx (eIx (eV 0) (eC (.int 2))) (eIx (eV 3) (eC (.int 0)))))
    (sSeq (sSet 5 (eTup (aC (eIx (eV 4) (eC (.int 0))) (aC (eIx (eV 4) (eC (.int 1))) aN))))
    (sSeq (sIf (e1 oIsN (eIx (eV 3) (eC (.int 1))))
    (sSeq (sIf (e2 oEqI (eCall gLen (aC (eIx (eV 4) (eC (.int 3))) aN)) (eC (.int 0)))
    (sRet (eC .non))
    sNil)
    (sRet (eLst (aC (eV 5) (aC (eTup (aC (eIx (eV 4) (eC (.int 2))) (aC (eIx (eIx (eV 4) (eC (.int 3))) (eC (.int 0))) aN))) (aC (e2 (oInI false) (eIx (eV 3) (eC (.int 0))) (eV 1)) aN))))))
    sNil)
    (sSeq (sIf (eOr (e2 oNeI (eCall gLen (aC (eIx (eV 4) (eC (.int 3))) aN)) (eC (.int 2))) (eOr (e2 oLt (eIx (eV 3) (eC (.int 1))) (eC (.int 0))) (e2 oGe (eIx (eV 3) (eC (.int 1))) (eCall gLen (aC (eV 2) aN)))))
    (sRet (eC .non))
    sNil)
    (sSeq (sSet 6 (eIx (eV 2) (eIx (eV 3) (eC (.int 1)))))
    (sSeq (sIf (eOr (e2 oNeI (eIx (eV 6) (eC (.int 0))) (eIx (eV 4) (eC (.int 2)))) (e2 oNeI (eIx (eV 6) (eC (.int 1))) (eIx (eIx (eV 4) (eC (.int 3))) (eC (.int 0)))))
    (sRet (eC .non))
    sNil)
    (sRet (eLst (aC (eV 5) (aC (eTup (aC (eIx (eV 6) (eC (.int 2))) (aC (eIx (eIx (eV 4) (eC (.int 3))) (eC (.int 1))) aN))) (aC (eOr (e2 (oInI false) (eIx (eV 3) (eC (.int 0))) (eV 1)) (eIx (eV 6) (eC (.int 3)))) aN))))))))))))
noncomputable def g_law_move : List D → Option D := runD 4 N_law_move F_law_move
def N_law_descended : List PySem.Str := ["_law_told_here", "_law_configuration_here", "_law_descent", "_law_state", "_law_k", "_law_row"]
noncomputable def F_law_descended (m : Nat) : ST :=
  (sSeq (sSet 3 (eIx (eV 1) (eC (.int 0))))
    (sSeq (sIf (e2 oGe (eCall gLen (aC (eV 2) aN)) (eCall gLen (aC (eIx (eV 1) (eC (.int 1))) aN)))
    (sRet (eC .non))
    sNil)
    (sSeq (sFor (gN 4) (iRange (eCall gLen (aC (eV 2) aN)))
    (sSeq (sIf (eOr (e2 oLt (eIx (eV 2) (eV 4)) (eC (.int 0))) (e2 oGe (eIx (eV 2) (eV 4)) (eCall gLen (aC (eV 0) aN))))
    (sRet (eC .non))
    sNil)
    (sSeq (sSet 5 (eIx (eV 0) (eIx (eV 2) (eV 4))))
    (sSeq (sIf (eOr (e2 oNeI (eIx (eV 5) (eC (.int 0))) (eV 3)) (e2 oNeI (eIx (eV 5) (eC (.int 1))) (eIx (eIx (eV 1) (eC (.int 1))) (eV 4))))
    (sRet (eC .non))
    sNil)
    (sSeq (sSet 3 (eIx (eV 5) (eC (.int 2))))
    (sSeq (sFgt [4, 5]) sNil))))))
    (sRet (eTup (aC (eV 3) (aC (eIx (eIx (eV 1) (eC (.int 1))) (eCall gLen (aC (eV 2) aN))) aN)))))))
noncomputable def g_law_descended : List D → Option D := runD 3 N_law_descended F_law_descended
def N_law_ever_right : List PySem.Str := ["_law_parts", "_law_marked", "_law_configuration_here", "_law_paper", "_law_told_here", "_law_head", "_law_pair", "_law_move_here", "_law_begin", "_law_passes"]
noncomputable def F_law_ever_right (m : Nat) : ST :=
  (sSeq (sIf (eOr (e2 oNeI (eCall gLen (aC (eV 3) aN)) (eC (.int 5))) (e2 oNeS (eIx (eV 3) (eC (.int 0))) (eC (.str "ever"))))
    (sRet (eC (.bl false)))
    sNil)
    (sSeq (sSet 4 (eCall g_law_off_rows (aC (eV 0) (aC (eV 1) (aC (eIx (eV 3) (eC (.int 1))) aN)))))
    (sSeq (sIf (e1 oIsN (eV 4))
    (sRet (eC (.bl false)))
    sNil)
    (sSeq (sSet 5 (eCall g_law_descended (aC (eV 4) (aC (eV 2) (aC (eIx (eV 3) (eC (.int 2))) aN)))))
    (sSeq (sIf (eOr (e1 oIsN (eV 5)) (e2 oEqI (eCall gLen (aC (eIx (eV 3) (eC (.int 4))) aN)) (eC (.int 0))))
    (sRet (eC (.bl false)))
    sNil)
    (sSeq (sFor (gN 6) (oTup (eIx (eV 3) (eC (.int 3))))
    (sSeq (sSet 7 (eCall g_law_move (aC (eV 0) (aC (eV 1) (aC (eV 4) (aC (eV 6) aN))))))
    (sSeq (sIf (eOr (e1 oIsN (eV 7)) (e2 oNeD (eIx (eV 7) (eC (.int 0))) (eV 5)))
    (sRet (eC (.bl false)))
    sNil)
    (sSet 5 (eIx (eV 7) (eC (.int 1)))))))
    (sSeq (sSet 8 (eV 5))
    (sSeq (sSet 9 (eC (.bl false)))
    (sSeq (sFor (gN 6) (oTup (eIx (eV 3) (eC (.int 4))))
    (sSeq (sSet 7 (eCall g_law_move (aC (eV 0) (aC (eV 1) (aC (eV 4) (aC (eV 6) aN))))))
    (sSeq (sIf (eOr (e1 oIsN (eV 7)) (e2 oNeD (eIx (eV 7) (eC (.int 0))) (eV 5)))
    (sRet (eC (.bl false)))
    sNil)
    (sSeq (sSet 5 (eIx (eV 7) (eC (.int 1))))
    (sSet 9 (eOr (eV 9) (eIx (eV 7) (eC (.int 2)))))))))
    (sRet (eAnd (eV 9) (e2 oEqD (eV 5) (eV 8)))))))))))))
noncomputable def g_law_ever_right : List D → Option D := runD 4 N_law_ever_right F_law_ever_right
def N_law_table_is_closed : List PySem.Str := ["_law_parts", "_law_marked", "_law_table", "_law_index", "_law_step", "_law_ways", "_law_letter", "_law_longer", "_law_way", "_law_entry", "_law_found"]
noncomputable def F_law_table_is_closed (m : Nat) : ST :=
  (sSeq (sFor (gN 3) (iRange (eCall gLen (aC (eIx (eV 0) (eC (.int 2))) aN)))
    (sSeq (sSet 4 (eIx (eIx (eV 0) (eC (.int 2))) (eV 3)))
    (sSeq (sSet 5 (eLst (aC (eTup (aC (eIx (eV 4) (eC (.int 2))) (aC (e2 (oInI false) (eV 3) (eV 1)) aN))) aN)))
    (sSeq (sFor (gN 6) (oTup (eIx (eV 4) (eC (.int 3))))
    (sSeq (sSet 7 (eLst aN))
    (sSeq (sFor (gN 8) (oList (eV 5))
    (sSeq (sSet 10 (eLc 9 (oTup (eV 2)) (e2 oEqD (e1 (oTo 2) (eV 9)) (eTup (aC (eIx (eV 8) (eC (.int 0))) (aC (eV 6) aN)))) (eV 9)))
    (sSeq (sSet 7 (e2 oCat (eV 7) (eLc 9 (oList (eV 10)) (eC (.bl true)) (eTup (aC (eIx (eV 9) (eC (.int 2))) (aC (eOr (eIx (eV 8) (eC (.int 1))) (eIx (eV 9) (eC (.int 3)))) aN))))))
    (sSeq (sFgt [10]) sNil))))
    (sSeq (sSet 5 (eV 7))
    (sSeq (sFgt [6, 7, 10]) sNil)))))
    (sSeq (sFor (gN 8) (oList (eV 5))
    (sIf (e2 oNotInT (eTup (aC (eIx (eV 4) (eC (.int 0))) (aC (eIx (eV 4) (eC (.int 1))) (aC (eIx (eV 8) (eC (.int 0))) (aC (eIx (eV 8) (eC (.int 1))) aN))))) (eV 2))
    (sRet (eC (.bl false)))
    sNil))
    (sSeq (sFgt [3, 4, 5, 6, 7, 8, 10]) sNil))))))
    (sRet (eC (.bl true))))
noncomputable def g_law_table_is_closed : List D → Option D := runD 3 N_law_table_is_closed F_law_table_is_closed
def N_law_head_edges : List PySem.Str := ["_law_parts", "_law_marked", "_law_table", "_law_edges", "_law_index", "_law_step", "_law_entry"]
noncomputable def F_law_head_edges (m : Nat) : ST :=
  (sSeq (sOwn 3 (cNewL aN))
    (sSeq (sFor (gN 4) (iRange (eCall gLen (aC (eIx (eV 0) (eC (.int 2))) aN)))
    (sSeq (sSet 5 (eIx (eIx (eV 0) (eC (.int 2))) (eV 4)))
    (sSeq (sIf (e2 oGt (eCall gLen (aC (eIx (eV 5) (eC (.int 3))) aN)) (eC (.int 0)))
    (sApp (.s 3) (eTup (aC (eTup (aC (eIx (eV 5) (eC (.int 0))) (aC (eIx (eV 5) (eC (.int 1))) aN))) (aC (eTup (aC (eIx (eV 5) (eC (.int 2))) (aC (eIx (eIx (eV 5) (eC (.int 3))) (eC (.int 0))) aN))) (aC (e2 (oInI false) (eV 4) (eV 1)) aN)))))
    sNil)
    (sSeq (sIf (e2 oEqI (eCall gLen (aC (eIx (eV 5) (eC (.int 3))) aN)) (eC (.int 2)))
    (sFor (gN 6) (oTup (eV 2))
    (sSeq (sIf (e2 oEqD (e1 (oTo 2) (eV 6)) (eTup (aC (eIx (eV 5) (eC (.int 2))) (aC (eIx (eIx (eV 5) (eC (.int 3))) (eC (.int 0))) aN))))
    (sApp (.s 3) (eTup (aC (eTup (aC (eIx (eV 5) (eC (.int 0))) (aC (eIx (eV 5) (eC (.int 1))) aN))) (aC (eTup (aC (eIx (eV 6) (eC (.int 2))) (aC (eIx (eIx (eV 5) (eC (.int 3))) (eC (.int 1))) aN))) (aC (eOr (e2 (oInI false) (eV 4) (eV 1)) (eIx (eV 6) (eC (.int 3)))) aN)))))
    sNil)
    (sSeq (sFgt [6]) sNil)))
    sNil)
    (sSeq (sFgt [4, 5, 6]) sNil)))))
    (sSeq (sFrz 3) (sRet (eV 3)))))
noncomputable def g_law_head_edges : List D → Option D := runD 3 N_law_head_edges F_law_head_edges
def N_law_not_right : List PySem.Str := ["_law_parts", "_law_marked", "_law_configuration_here", "_law_paper", "_law_ranks", "_law_last", "_law_pair", "_law_states", "_law_letter", "_law_state", "_law_entry", "_law_edge"]
noncomputable def F_law_not_right (m : Nat) : ST :=
  (sSeq (sIf (eOr (e2 oNeI (eCall gLen (aC (eV 3) aN)) (eC (.int 3))) (eOr (e2 oNeS (eIx (eV 3) (eC (.int 0))) (eC (.str "not"))) (eNot (eCall g_law_table_is_closed (aC (eV 0) (aC (eV 1) (aC (eIx (eV 3) (eC (.int 1))) aN)))))))
    (sRet (eC (.bl false)))
    sNil)
    (sSeq (sOwn 4 (cNewD .t))
    (sSeq (sSet 5 (eTup (aC (eC (.int (-1))) (aC (eC (.int 0)) aN))))
    (sSeq (sFor (gN 6) (oTup (eIx (eV 3) (eC (.int 2))))
    (sSeq (sIf (eOr (e2 oLeT (eIx (eV 6) (eC (.int 0))) (eV 5)) (e2 oLt (eIx (eV 6) (eC (.int 1))) (eC (.int 0))))
    (sRet (eC (.bl false)))
    sNil)
    (sSeq (sSet 5 (eIx (eV 6) (eC (.int 0))))
    (sSeq (sPut .t (.s 4) (eIx (eV 6) (eC (.int 0))) (eIx (eV 6) (eC (.int 1))))
    (sSeq (sFgt [6]) sNil)))))
    (sSeq (sSet 7 (eLst (aC (eIx (eV 2) (eC (.int 0))) aN)))
    (sSeq (sFor (gN 8) (oTup (eIx (eV 2) (eC (.int 1))))
    (sSeq (sFor (gN 9) (oList (eV 7))
    (sSeq (sIf (pIn .t true (eTup (aC (eV 9) (aC (eV 8) aN))) (.s 4))
    (sRet (eC (.bl false)))
    sNil)
    (sSeq (sFgt [9]) sNil)))
    (sSeq (sSet 7 (eLc 10 (oTup (eIx (eV 3) (eC (.int 1)))) (eAnd (e2 (oInI false) (eIx (eV 10) (eC (.int 0))) (eV 7)) (e2 oEqI (eIx (eV 10) (eC (.int 1))) (eV 8))) (eIx (eV 10) (eC (.int 2)))))
    (sSeq (sFgt [8, 9]) sNil))))
    (sSeq (sFor (gN 11) (oList (eCall g_law_head_edges (aC (eV 0) (aC (eV 1) (aC (eIx (eV 3) (eC (.int 1))) aN)))))
    (sSeq (sIf (pIn .t false (eIx (eV 11) (eC (.int 0))) (.s 4))
    (sIf (eOr (pIn .t true (eIx (eV 11) (eC (.int 1))) (.s 4)) (e2 oGt (e2 oAdd (pGet .t (.s 4) (eIx (eV 11) (eC (.int 1)))) (eCall gInt (aC (eIx (eV 11) (eC (.int 2))) aN))) (pGet .t (.s 4) (eIx (eV 11) (eC (.int 0))))))
    (sRet (eC (.bl false)))
    sNil)
    sNil)
    (sSeq (sFgt [11]) sNil)))
    (sRet (eC (.bl true))))))))))
noncomputable def g_law_not_right : List D → Option D := runD 4 N_law_not_right F_law_not_right
def N_law_told : List PySem.Str := ["_law_paper", "_law_entry", "_law_table", "_law_pair", "_law_row", "_law_rows_here", "_law_part", "_law_move_here", "_law_moves"]
noncomputable def F_law_told (m : Nat) : ST :=
  (sSeq (sIf (e2 oEqS (eIx (eV 0) (eC (.int 0))) (eC (.str "not")))
    (sSeq (sSet 2 (eCall gTuple (aC (eLc 1 (oTup (eIx (eV 0) (eC (.int 1)))) (eC (.bl true)) (eTup (aC (eIx (eV 1) (eC (.int 0))) (aC (eIx (eV 1) (eC (.int 1))) (aC (eIx (eV 1) (eC (.int 2))) (aC (eCall gBool (aC (eIx (eV 1) (eC (.int 3))) aN)) aN)))))) aN)))
    (sRet (eTup (aC (eC (.str "not")) (aC (eV 2) (aC (eCall gTuple (aC (eLc 3 (oTup (eIx (eV 0) (eC (.int 2)))) (eC (.bl true)) (eTup (aC (eCall gTuple (aC (eIx (eV 3) (eC (.int 0))) aN)) (aC (eIx (eV 3) (eC (.int 1))) aN)))) aN)) aN))))))
    sNil)
    (sSeq (sSet 5 (eCall gTuple (aC (eLc 4 (oTup (eIx (eV 0) (eC (.int 1)))) (eC (.bl true)) (eTup (aC (eIx (eV 4) (eC (.int 0))) (aC (eCall gTuple (aC (eIx (eV 4) (eC (.int 1))) aN)) aN)))) aN)))
    (sSeq (sSet 8 (eLc 6 (oTup (e1 (oFrom 3) (eV 0))) (eC (.bl true)) (eCall gTuple (aC (eLc 7 (oTup (eV 6)) (eC (.bl true)) (eTup (aC (eIx (eV 7) (eC (.int 0))) (aC (eIx (eV 7) (eC (.int 1))) aN)))) aN))))
    (sRet (eTup (aC (eC (.str "ever")) (aC (eV 5) (aC (eCall gTuple (aC (eIx (eV 0) (eC (.int 2))) aN)) (aC (eIx (eV 8) (eC (.int 0))) (aC (eIx (eV 8) (eC (.int 1))) aN))))))))))
noncomputable def g_law_told : List D → Option D := runD 1 N_law_told F_law_told
def N_law : List PySem.Str := ["_law_script", "_law_numbers_here", "_law_parts", "_law_marked", "_law_configuration_here", "_law_found", "_law_right", "_law_row", "_law_pair", "_law_rows_here"]
noncomputable def F_law (m : Nat) : ST :=
  (sSeq (sSet 1 (eCall g_law_numbers (aC (eV 0) (aC (eC (.int 14)) aN))))
    (sSeq (sSet 2 (eCall g_law_machine (aC (eV 1) (aC (eC (.int 0)) aN))))
    (sSeq (sSet 3 (eCall g_law_marks (aC (eIx (eV 1) (eC (.int 11))) (aC (eCall gLen (aC (eIx (eV 2) (eC (.int 2))) aN)) aN))))
    (sSeq (sSet 4 (eCall g_law_configuration (aC (eIx (eV 1) (eC (.int 12))) (aC (eIx (eV 2) (eC (.int 0))) (aC (eIx (eV 2) (eC (.int 1))) (aC (eC (.int 5)) aN))))))
    (sSeq (sSet 5 (eCall g_endless (aC (eCall g_law_made (aC (eV 2) aN)) (aC (eV 3) (aC (eV 4) aN)))))
    (sSeq (sIf (eOr (eNot (e1 oIsTup (eV 5))) (eOr (e2 oNeI (eCall gLen (aC (eV 5) aN)) (eC (.int 2))) (eOr (eNot (e1 oIsBl (eIx (eV 5) (eC (.int 0))))) (eNot (e1 oIsTup (eIx (eV 5) (eC (.int 1))))))))
    (sRet (eC (.bl false)))
    sNil)
    (sSeq (sIf (e2 oNeD (eCall g_endless (aC (eCall g_law_made (aC (eV 2) aN)) (aC (eV 3) (aC (eV 4) aN)))) (eV 5))
    (sRet (eC (.bl false)))
    sNil)
    (sSeq (sIf (eIx (eV 5) (eC (.int 0)))
    (sSet 6 (eCall g_law_ever_right (aC (eV 2) (aC (eV 3) (aC (eV 4) (aC (eIx (eV 5) (eC (.int 1))) aN))))))
    (sSeq (sSet 6 (eCall g_law_not_right (aC (eV 2) (aC (eV 3) (aC (eV 4) (aC (eIx (eV 5) (eC (.int 1))) aN))))))
    (sSeq (sSet 9 (e2 oCat (eLc 7 (oTup (eIx (eIx (eV 5) (eC (.int 1))) (eC (.int 1)))) (eC (.bl true)) (eTup (aC (eIx (eV 7) (eC (.int 0))) (aC (eIx (eV 7) (eC (.int 1))) (aC (eIx (eV 7) (eC (.int 2))) aN))))) (eLc 8 (oTup (eIx (eIx (eV 5) (eC (.int 1))) (eC (.int 2)))) (eC (.bl true)) (eTup (aC (eIx (eIx (eV 8) (eC (.int 0))) (eC (.int 0))) (aC (eIx (eIx (eV 8) (eC (.int 0))) (eC (.int 1))) (aC (eC (.int 0)) aN)))))))
    (sFor (gN 7) (oList (eV 9))
    (sIf (eOr (eNot (eLeLt (eC (.int 0)) (eIx (eV 7) (eC (.int 0))) (eIx (eV 2) (eC (.int 0))))) (eOr (eNot (eLeLt (eC (.int 0)) (eIx (eV 7) (eC (.int 1))) (eIx (eV 2) (eC (.int 1))))) (eNot (eLeLt (eC (.int 0)) (eIx (eV 7) (eC (.int 2))) (eIx (eV 2) (eC (.int 0)))))))
    (sRet (eC (.bl false)))
    sNil)))))
    (sRet (eAnd (eV 6) (e2 oEqS (eCall gRepr (aC (eIx (eV 5) (eC (.int 1))) aN)) (eCall gRepr (aC (eCall g_law_told (aC (eIx (eV 5) (eC (.int 1))) aN)) aN)))))))))))))
noncomputable def g_law : List D → Option D := runD 1 N_law F_law
end DL
end

section
set_option Elab.async false
set_option linter.all false
set_option maxRecDepth 100000
set_option maxHeartbeats 0
namespace PR
open PySem PySem.Spec PyProof.Rows L2 He
def top (i : Nat) : Stmt := PySem.Challenge.pw_pilereach_k47_whole_endless_decided.main.body.getD i (.Pass ⟨0, 0, 0, 0⟩)
abbrev s_Step_init : Stmt := inClass (top 17) 0
abbrev s_Machine_init : Stmt := inClass (top 19) 0
abbrev s_TakeOff_init : Stmt := inClass (top 6) 0
abbrev s_TakeOff_entries : Stmt := inClass (top 6) 1
abbrev s_TakeOff_use : Stmt := inClass (top 6) 2
abbrev s_Heads_init : Stmt := inClass (top 3) 0
abbrev s_Heads_put : Stmt := inClass (top 3) 1
abbrev s_Heads_moves_from : Stmt := inClass (top 3) 2
abbrev s_Heads_reached : Stmt := inClass (top 3) 3
abbrev s_Rows_init : Stmt := inClass (top 1) 0
abbrev s_Rows_missing : Stmt := inClass (top 1) 1
abbrev s_Rows_add : Stmt := inClass (top 1) 3
abbrev s_way_to : Stmt := top 4
abbrev s_descents : Stmt := top 8
abbrev s_ring_at : Stmt := top 9
abbrev s_told_ranks : Stmt := top 10
abbrev s_told_moves : Stmt := top 11
abbrev s_endless : Stmt := top 12
abbrev s_fits : Stmt := top 18
abbrev s_law_numbers : Stmt := top 21
abbrev s_law_rows : Stmt := top 22
abbrev s_law_machine : Stmt := top 23
abbrev s_law_made : Stmt := top 24
abbrev s_law_configuration : Stmt := top 25
abbrev s_law_marks : Stmt := top 26
abbrev s_law_off_rows : Stmt := top 27
abbrev s_law_move : Stmt := top 28
abbrev s_law_descended : Stmt := top 29
abbrev s_law_ever_right : Stmt := top 30
abbrev s_law_table_is_closed : Stmt := top 31
abbrev s_law_head_edges : Stmt := top 32
abbrev s_law_not_right : Stmt := top 33
abbrev s_law_told : Stmt := top 34
abbrev s_law : Stmt := top 35
def d_Step_init : DefD := ⟨("Step", some "__init__"), "__init__", "Step.__init__", defArgs s_Step_init, defBody s_Step_init, defScope s_Step_init, [.adr (dflAt ("Step", some "__init__") 0), .int 1], []⟩
def d_Machine_init : DefD := ⟨("Machine", some "__init__"), "__init__", "Machine.__init__", defArgs s_Machine_init, defBody s_Machine_init, defScope s_Machine_init, [], []⟩
def d_TakeOff_init : DefD := ⟨("TakeOff", some "__init__"), "__init__", "TakeOff.__init__", defArgs s_TakeOff_init, defBody s_TakeOff_init, defScope s_TakeOff_init, [], []⟩
def d_TakeOff_entries : DefD := ⟨("TakeOff", some "entries"), "entries", "TakeOff.entries", defArgs s_TakeOff_entries, defBody s_TakeOff_entries, defScope s_TakeOff_entries, [], []⟩
def d_TakeOff_use : DefD := ⟨("TakeOff", some "use"), "use", "TakeOff.use", defArgs s_TakeOff_use, defBody s_TakeOff_use, defScope s_TakeOff_use, [], []⟩
def d_Heads_init : DefD := ⟨("Heads", some "__init__"), "__init__", "Heads.__init__", defArgs s_Heads_init, defBody s_Heads_init, defScope s_Heads_init, [], []⟩
def d_Heads_put : DefD := ⟨("Heads", some "put"), "put", "Heads.put", defArgs s_Heads_put, defBody s_Heads_put, defScope s_Heads_put, [], []⟩
def d_Heads_moves_from : DefD := ⟨("Heads", some "moves_from"), "moves_from", "Heads.moves_from", defArgs s_Heads_moves_from, defBody s_Heads_moves_from, defScope s_Heads_moves_from, [], []⟩
def d_Heads_reached : DefD := ⟨("Heads", some "reached"), "reached", "Heads.reached", defArgs s_Heads_reached, defBody s_Heads_reached, defScope s_Heads_reached, [], []⟩
def d_Rows_init : DefD := ⟨("Rows", some "__init__"), "__init__", "Rows.__init__", defArgs s_Rows_init, defBody s_Rows_init, defScope s_Rows_init, [], []⟩
def d_Rows_missing : DefD := ⟨("Rows", some "missing"), "missing", "Rows.missing", defArgs s_Rows_missing, defBody s_Rows_missing, defScope s_Rows_missing, [], []⟩
def d_Rows_add : DefD := ⟨("Rows", some "add"), "add", "Rows.add", defArgs s_Rows_add, defBody s_Rows_add, defScope s_Rows_add, [], []⟩
def d_way_to : DefD := ⟨("way_to", none), "way_to", "way_to", defArgs s_way_to, defBody s_way_to, defScope s_way_to, [], []⟩
def d_descents : DefD := ⟨("descents", none), "descents", "descents", defArgs s_descents, defBody s_descents, defScope s_descents, [], []⟩
def d_ring_at : DefD := ⟨("ring_at", none), "ring_at", "ring_at", defArgs s_ring_at, defBody s_ring_at, defScope s_ring_at, [], []⟩
def d_told_ranks : DefD := ⟨("told_ranks", none), "told_ranks", "told_ranks", defArgs s_told_ranks, defBody s_told_ranks, defScope s_told_ranks, [], []⟩
def d_told_moves : DefD := ⟨("told_moves", none), "told_moves", "told_moves", defArgs s_told_moves, defBody s_told_moves, defScope s_told_moves, [], []⟩
def d_endless : DefD := ⟨("endless", none), "endless", "endless", defArgs s_endless, defBody s_endless, defScope s_endless, [], []⟩
def d_fits : DefD := ⟨("fits", none), "fits", "fits", defArgs s_fits, defBody s_fits, defScope s_fits, [], []⟩
def d_law_numbers : DefD := ⟨("_law_numbers", none), "_law_numbers", "_law_numbers", defArgs s_law_numbers, defBody s_law_numbers, defScope s_law_numbers, [], []⟩
def d_law_rows : DefD := ⟨("_law_rows", none), "_law_rows", "_law_rows", defArgs s_law_rows, defBody s_law_rows, defScope s_law_rows, [], []⟩
def d_law_machine : DefD := ⟨("_law_machine", none), "_law_machine", "_law_machine", defArgs s_law_machine, defBody s_law_machine, defScope s_law_machine, [], []⟩
def d_law_made : DefD := ⟨("_law_made", none), "_law_made", "_law_made", defArgs s_law_made, defBody s_law_made, defScope s_law_made, [], []⟩
def d_law_configuration : DefD := ⟨("_law_configuration", none), "_law_configuration", "_law_configuration", defArgs s_law_configuration, defBody s_law_configuration, defScope s_law_configuration, [], []⟩
def d_law_marks : DefD := ⟨("_law_marks", none), "_law_marks", "_law_marks", defArgs s_law_marks, defBody s_law_marks, defScope s_law_marks, [], []⟩
def d_law_off_rows : DefD := ⟨("_law_off_rows", none), "_law_off_rows", "_law_off_rows", defArgs s_law_off_rows, defBody s_law_off_rows, defScope s_law_off_rows, [], []⟩
def d_law_move : DefD := ⟨("_law_move", none), "_law_move", "_law_move", defArgs s_law_move, defBody s_law_move, defScope s_law_move, [], []⟩
def d_law_descended : DefD := ⟨("_law_descended", none), "_law_descended", "_law_descended", defArgs s_law_descended, defBody s_law_descended, defScope s_law_descended, [], []⟩
def d_law_ever_right : DefD := ⟨("_law_ever_right", none), "_law_ever_right", "_law_ever_right", defArgs s_law_ever_right, defBody s_law_ever_right, defScope s_law_ever_right, [], []⟩
def d_law_table_is_closed : DefD := ⟨("_law_table_is_closed", none), "_law_table_is_closed", "_law_table_is_closed", defArgs s_law_table_is_closed, defBody s_law_table_is_closed, defScope s_law_table_is_closed, [], []⟩
def d_law_head_edges : DefD := ⟨("_law_head_edges", none), "_law_head_edges", "_law_head_edges", defArgs s_law_head_edges, defBody s_law_head_edges, defScope s_law_head_edges, [], []⟩
def d_law_not_right : DefD := ⟨("_law_not_right", none), "_law_not_right", "_law_not_right", defArgs s_law_not_right, defBody s_law_not_right, defScope s_law_not_right, [], []⟩
def d_law_told : DefD := ⟨("_law_told", none), "_law_told", "_law_told", defArgs s_law_told, defBody s_law_told, defScope s_law_told, [], []⟩
def d_law : DefD := ⟨("law", none), "law", "law", defArgs s_law, defBody s_law, defScope s_law, [], []⟩
def fnL : List DefD := [d_Step_init, d_Machine_init, d_TakeOff_init, d_TakeOff_entries, d_TakeOff_use, d_Heads_init, d_Heads_put, d_Heads_moves_from, d_Heads_reached, d_Rows_init, d_Rows_missing, d_Rows_add, d_way_to, d_descents, d_ring_at, d_told_ranks, d_told_moves, d_endless, d_fits, d_law_numbers, d_law_rows, d_law_machine, d_law_made, d_law_configuration, d_law_marks, d_law_off_rows, d_law_move, d_law_descended, d_law_ever_right, d_law_table_is_closed, d_law_head_edges, d_law_not_right, d_law_told, d_law]
def faL : List Fa := [.glo "Step",
  .cls "Step",
  .mkr "Step",
  .noat "Step" "state",
  .noat "Step" "letter",
  .noat "Step" "goal",
  .noat "Step" "laid",
  .noat "Step" "weight",
  .glo "Machine",
  .cls "Machine",
  .mkr "Machine",
  .noat "Machine" "states",
  .noat "Machine" "letters",
  .noat "Machine" "steps",
  .glo "TakeOff",
  .cls "TakeOff",
  .mkr "TakeOff",
  .noat "TakeOff" "machine",
  .noat "TakeOff" "marked",
  .noat "TakeOff" "found",
  .noat "TakeOff" "leaving",
  .meth "TakeOff" "entries",
  .meth "TakeOff" "use",
  .glo "Heads",
  .cls "Heads",
  .mkr "Heads",
  .noat "Heads" "moves",
  .meth "Heads" "put",
  .meth "Heads" "moves_from",
  .meth "Heads" "reached",
  .glo "Rows",
  .cls "Rows",
  .mkr "Rows",
  .noat "Rows" "found",
  .noat "Rows" "places",
  .noat "Rows" "rows",
  .meth "Rows" "missing",
  .meth "Rows" "add",
  .glo "way_to",
  .glo "descents",
  .glo "ring_at",
  .glo "told_ranks",
  .glo "told_moves",
  .glo "endless",
  .glo "fits",
  .glo "_law_numbers",
  .glo "_law_rows",
  .glo "_law_machine",
  .glo "_law_made",
  .glo "_law_configuration",
  .glo "_law_marks",
  .glo "_law_off_rows",
  .glo "_law_move",
  .glo "_law_descended",
  .glo "_law_ever_right",
  .glo "_law_table_is_closed",
  .glo "_law_head_edges",
  .glo "_law_not_right",
  .glo "_law_told",
  .glo "law",
  .free "len",
  .free "range",
  .free "tuple",
  .free "list",
  .free "sorted",
  .free "enumerate",
  .free "all",
  .free "int",
  .free "bool",
  .free "isinstance",
  .free "repr"]
abbrev RR : PySem.W.OpenRow := PySem.W.OpenLaw.row PySem.Challenge.rw_pilereach_k47_whole_endless_decided
abbrev hk : PySem.W.Hook := hookD 4 faL fnL
def ob (s : PySem.W.SharedT) : AlD := obsDG 4 faL fnL (HandSHeadRun.getT s)
theorem ob_eq (s : PySem.W.SharedT) : ob s = hk.obs s.abs := obsDG_eq (HandSHeadRun.getT_eq s)
def loose : List PySem.Str := ["Rows", "Heads", "way_to", "TakeOff", "descents", "ring_at", "told_ranks", "told_moves", "endless", "PileError", "InvalidMachine", "Step", "fits", "Machine", "_law_numbers", "_law_rows", "_law_machine", "_law_made", "_law_configuration", "_law_marks", "_law_off_rows", "_law_move", "_law_descended", "_law_ever_right", "_law_table_is_closed", "_law_head_edges", "_law_not_right", "_law_told", "__name__"]
theorem run (w : World) : HandSHeadRun.RunEq RR (PySem.W.view RR.prog [35]) hk ob 6000 loose w := by
  intro os
  kernel_rfl
end PR
end

section
set_option Elab.async false
set_option linter.all false
set_option maxRecDepth 100000
set_option maxHeartbeats 4000000
namespace DL
open PySem PySem.Spec PyProof.Rows L2 He PR
variable {P : Program} {w : World} {K : PySem.W.Frag} {mg : PySem.Str → Option Value} {base : Heap} {f : Addr} {fd : FuncData}
theorem sc_fits : FnScope N_fits ["step", "states", "letters"] (defScope s_fits) := ⟨rfl, rfl, rfl, by decide +kernel, rfl, by decide +kernel, by decide +kernel⟩
theorem B_fits (T : Tp K mg)  (m : Nat) (cdv : Value) (A : Around) (outer : List PySem.Env) (s : Shared) (H : Hp) (E : XK) (hr : Room 0 (A.deeper (envOfC "fits" (defScope s_fits) s.heap.objs.size f cdv))) : FB (cxOf CX0 P w K mg base N_fits "fits" (defScope s_fits) f cdv A outer s H E).nox (defBody s_fits) (F_fits m) :=
(fb_cons (fs_if (PW.pt (fw_or (ft_not (ft_leLt fe_int (fe_fld T.tx .step 0 (fe_var 0 (pv 0))) (fe_var 1 (pv 1)))) (fw_or (ft_not (ft_leLt fe_int (fe_fld T.tx .step 2 (fe_var 0 (pv 0))) (fe_var 1 (pv 1)))) (fw_or1 (ft_not (ft_leLt fe_int (fe_fld T.tx .step 1 (fe_var 0 (pv 0))) (fe_var 2 (pv 2))))))))
    (fb_one (fs_ret fe_bl))
    fb_nil)
    (fb_cons (fs_if (PW.pt (fw_or (ft_cmp fo_gt (fe_callB fc_len rfl T.b_len (by decide +kernel) (fa_cons (fe_fld T.tx .step 3 (fe_var 0 (pv 0))) fa_nil)) fe_int (nomark _)) (fw_or1 (ft_cmp fo_lt (fe_fld T.tx .step 4 (fe_var 0 (pv 0))) fe_int (nomark _)))))
    (fb_one (fs_ret fe_bl))
    fb_nil)
    (fb_one (fs_ret (fe_callB (fc_all rfl) rfl T.b_all (by decide +kernel) (fa_cons (fe_lc 3 rfl sc_fits.nd (fi_tup (fe_fld T.tx .step 3 (fe_var 0 (pv 0)))) (blkOk_by (own := [("letter", 3)]) (N := N_fits) (sc := defScope s_fits) (by decide +kernel)) (fun _ _ _ _ _ => pg_name (i := 3) sc_fits.nd rfl (Or.inl rfl)) (fun _ _ _ _ _ => fpts_nil (X := _)) (fun _ _ _ _ _ => (fe_leLt fe_int (fe_var 3 (pv 3)) (fe_var 2 (pv 2))))) fa_nil))))))
theorem ok_fits (T : Tp K mg)  (F : FunD K d_fits.name d_fits.qual d_fits.params d_fits.body d_fits.scope (d_fits.dvs K) (d_fits.kws K) f fd) : FnOk P w K mg base CX0 1 f fd ["step", "states", "letters"] (spD ⟨P, w, K⟩ 3 g_fits) :=
  fn_D (Fd := F_fits) F sc_fits (fun m cdv A outer s H E hr => B_fits T  m cdv A outer s H E hr) fun ds z h => runD_ok h
theorem sc_Machine_init : FnScope N_Machine_init ["self", "states", "letters", "steps"] (defScope s_Machine_init) := ⟨rfl, rfl, rfl, by decide +kernel, rfl, by decide +kernel, by decide +kernel⟩
theorem B_Machine_init (T : Tp K mg) (c_fits : Cal P w K mg base 1 "fits" 3 g_fits) (m : Nat) (cdv : Value) (A : Around) (outer : List PySem.Env) (s : Shared) (H : Hp) (E : XK) (hr : Room 1 (A.deeper (envOfC "Machine.__init__" (defScope s_Machine_init) s.heap.objs.size f cdv))) : FB (cxOf CX0 P w K mg base N_Machine_init "Machine.__init__" (defScope s_Machine_init) f cdv A outer s H E).nox (defBody s_Machine_init) (F_Machine_init m) :=
(fb_cons (fs_if (PW.pt (fw_or (ft_cmp fo_lt (fe_var 1 (pv 1)) fe_int (nomark _)) (fw_or (ft_cmp fo_lt (fe_var 2 (pv 2)) fe_int (nomark _)) (fw_or1 (ft_not (ft_val (fe_callB (fc_all rfl) rfl T.b_all (by decide +kernel) (fa_cons (fe_lc 4 rfl sc_Machine_init.nd (fi_list (fe_var 3 (pv 3))) (blkOk_by (own := [("step", 4)]) (N := N_Machine_init) (sc := defScope s_Machine_init) (by decide +kernel)) (fun _ _ _ _ _ => pg_name (i := 4) sc_Machine_init.nd rfl (Or.inl rfl)) (fun _ _ _ _ _ => fpts_nil (X := _)) (fun _ _ _ _ _ => (fe_callC c_fits hr rfl (fa_cons (fe_var 4 (pv 4)) (fa_cons (fe_var 1 (pv 1)) (fa_cons (fe_var 2 (pv 2)) fa_nil)))))) fa_nil))))))))
    (fb_one fs_never)
    fb_nil)
    (fb_cons (fs_fld T.tx 0 .machine 0 (pv 0) (fe_var 1 (pv 1)))
    (fb_cons (fs_fld T.tx 0 .machine 1 (pv 0) (fe_var 2 (pv 2)))
    (fb_one (fs_fld T.tx 0 .machine 2 (pv 0) (fe_callTy fc_tuple rfl T.b_tuple (by decide +kernel) (fa_cons (fe_var 3 (pv 3)) fa_nil)))))))
theorem ok_Machine_init (T : Tp K mg) (c_fits : Cal P w K mg base 1 "fits" 3 g_fits) (F : FunD K d_Machine_init.name d_Machine_init.qual d_Machine_init.params d_Machine_init.body d_Machine_init.scope (d_Machine_init.dvs K) (d_Machine_init.kws K) f fd) : FnOk P w K mg base CX0 2 f fd ["self", "states", "letters", "steps"] (spO ⟨P, w, K⟩ .machine 3 g_Machine_init) :=
  fn_O (Fd := F_Machine_init) F sc_Machine_init rfl (fun m cdv A outer s H E hr => B_Machine_init T c_fits m cdv A outer s H E hr) fun fs ds z h a => ⟨MX, (runI_ok h).2 a⟩
theorem sc_Step_init : FnScope N_Step_init ["self", "state", "letter", "goal", "laid", "weight"] (defScope s_Step_init) := ⟨rfl, rfl, rfl, by decide +kernel, rfl, by decide +kernel, by decide +kernel⟩
theorem B_Step_init (T : Tp K mg)  (m : Nat) (cdv : Value) (A : Around) (outer : List PySem.Env) (s : Shared) (H : Hp) (E : XK) (hr : Room 0 (A.deeper (envOfC "Step.__init__" (defScope s_Step_init) s.heap.objs.size f cdv))) : FB (cxOf CX0 P w K mg base N_Step_init "Step.__init__" (defScope s_Step_init) f cdv A outer s H E).nox (defBody s_Step_init) (F_Step_init m) :=
(fb_cons (fs_fld T.tx 0 .step 0 (pv 0) (fe_var 1 (pv 1)))
    (fb_cons (fs_fld T.tx 0 .step 1 (pv 0) (fe_var 2 (pv 2)))
    (fb_cons (fs_fld T.tx 0 .step 2 (pv 0) (fe_var 3 (pv 3)))
    (fb_cons (fs_fld T.tx 0 .step 3 (pv 0) (fe_callTy fc_tuple rfl T.b_tuple (by decide +kernel) (fa_cons (fe_var 4 (pv 4)) fa_nil)))
    (fb_one (fs_fld T.tx 0 .step 4 (pv 0) (fe_var 5 (pv 5))))))))
theorem ok_Step_init (T : Tp K mg)  (F : FunD K d_Step_init.name d_Step_init.qual d_Step_init.params d_Step_init.body d_Step_init.scope (d_Step_init.dvs K) (d_Step_init.kws K) f fd) : FnOk P w K mg base CX0 1 f fd ["self", "state", "letter", "goal", "laid", "weight"] (spO ⟨P, w, K⟩ .step 5 g_Step_init) :=
  fn_O (Fd := F_Step_init) F sc_Step_init rfl (fun m cdv A outer s H E hr => B_Step_init T  m cdv A outer s H E hr) fun fs ds z h a => ⟨MX, (runI_ok h).2 a⟩
theorem sc_TakeOff_entries : FnScope N_TakeOff_entries ["self", "state", "letter"] (defScope s_TakeOff_entries) := ⟨rfl, rfl, rfl, by decide +kernel, rfl, by decide +kernel, by decide +kernel⟩
theorem B_TakeOff_entries (T : Tp K mg)  (m : Nat) (cdv : Value) (A : Around) (outer : List PySem.Env) (s : Shared) (H : Hp) (E : XK) (hr : Room 0 (A.deeper (envOfC "TakeOff.entries" (defScope s_TakeOff_entries) s.heap.objs.size f cdv))) : FB (cxOf CX0 P w K mg base N_TakeOff_entries "TakeOff.entries" (defScope s_TakeOff_entries) f cdv A outer s H E).nox (defBody s_TakeOff_entries) (F_TakeOff_entries m) :=
(fb_one (fs_ret (fe_getL (hu_of hr) (fe_fld T.tx .takeoff 3 (fe_var 0 (pv 0))) (fe_tup (fa_cons (fe_var 1 (pv 1)) (fa_cons (fe_var 2 (pv 2)) fa_nil))))))
theorem ok_TakeOff_entries (T : Tp K mg)  (F : FunD K d_TakeOff_entries.name d_TakeOff_entries.qual d_TakeOff_entries.params d_TakeOff_entries.body d_TakeOff_entries.scope (d_TakeOff_entries.dvs K) (d_TakeOff_entries.kws K) f fd) : FnOk P w K mg base CX0 1 f fd ["self", "state", "letter"] (spD ⟨P, w, K⟩ 3 g_TakeOff_entries) :=
  fn_D (Fd := F_TakeOff_entries) F sc_TakeOff_entries (fun m cdv A outer s H E hr => B_TakeOff_entries T  m cdv A outer s H E hr) fun ds z h => runM_ok h
theorem sc_descents : FnScope N_descents ["table", "configuration"] (defScope s_descents) := ⟨rfl, rfl, rfl, by decide +kernel, rfl, by decide +kernel, by decide +kernel⟩
theorem B_descents (T : Tp K mg) (c_TakeOff_entries : CalM P w K mg base 1 .takeoff "entries" 3 g_TakeOff_entries) (m : Nat) (cdv : Value) (A : Around) (outer : List PySem.Env) (s : Shared) (H : Hp) (E : XK) (hr : Room 1 (A.deeper (envOfC "descents" (defScope s_descents) s.heap.objs.size f cdv))) : FB (cxOf CX0 P w K mg base N_descents "descents" (defScope s_descents) f cdv A outer s H E).nox (defBody s_descents) (F_descents m) :=
(fb_cons (fs_unp (fe_var 1 (pv 1)) (fg_tup rfl (fgs_cons (fg_name 2 sc_descents.nd) (fgs_cons (fg_name 3 sc_descents.nd) fgs_nil))))
    (fb_cons (fs_newDT .t 4 sc_descents.nd)
    (fb_cons (fs_disp1 5 sc_descents.nd (fe_var 2 (pv 2)) (fe_tup fa_nil))
    (fb_frz 5 (fb_cons (fs_for .never rfl (fi_tup (fe_var 3 (pv 3))) (fg_name 6 sc_descents.nd)
    (fb_cons (fs_newDI 7 sc_descents.nd)
    (fb_cons (fs_for .never rfl (fi_itemsI (fe_var 5 (pv 5))) (fg_tup rfl (fgs_cons (fg_name 8 sc_descents.nd) (fgs_cons (fg_name 9 sc_descents.nd) fgs_nil)))
    (fb_cons (fs_if (ft_pnotInK (hu_of hr) (fe_tup (fa_cons (fe_var 8 (pv 8)) (fa_cons (fe_var 6 (pv 6)) fa_nil))) (fp_var 4 (pv 4)))
    (fb_one (fs_putK (hu_of hr) (fp_var 4 (pv 4)) (fe_tup (fa_cons (fe_var 8 (pv 8)) (fa_cons (fe_var 6 (pv 6)) fa_nil))) (fe_var 9 (pv 9))))
    fb_nil)
    (fb_cons (fs_for .never rfl (fi_list (fe_methC T.tx c_TakeOff_entries hr (fe_var 0 (pv 0)) (fa_cons (fe_var 8 (pv 8)) (fa_cons (fe_var 6 (pv 6)) fa_nil)))) (fg_name 10 sc_descents.nd)
    (fb_cons (fs_if (ft_pnotInK (hu_of hr) (fe_ix (fe_var 10 (pv 10)) fe_int plainIx) (fp_var 7 (pv 7)))
    (fb_one (fs_putK (hu_of hr) (fp_var 7 (pv 7)) (fe_ix (fe_var 10 (pv 10)) fe_int plainIx) (fe_bin fo_cat (fe_var 9 (pv 9)) (fe_tup (fa_cons (fe_var 10 (pv 10)) fa_nil)))))
    fb_nil)
    (fb_fgt [10] fb_nil)))
    (fb_fgt [8, 9, 10] fb_nil))))
    (fb_frz 7 (fb_cons (fs_set 5 sc_descents.nd (fe_var 7 (pv 7)))
    (fb_fgt [6, 7, 8, 9, 10] fb_nil))))))
    (fb_frz 4 (fb_one (fs_ret (fe_var 4 (pv 4))))))))))
theorem ok_descents (T : Tp K mg) (c_TakeOff_entries : CalM P w K mg base 1 .takeoff "entries" 3 g_TakeOff_entries) (F : FunD K d_descents.name d_descents.qual d_descents.params d_descents.body d_descents.scope (d_descents.dvs K) (d_descents.kws K) f fd) : FnOk P w K mg base CX0 2 f fd ["table", "configuration"] (spD ⟨P, w, K⟩ 2 g_descents) :=
  fn_D (Fd := F_descents) F sc_descents (fun m cdv A outer s H E hr => B_descents T c_TakeOff_entries m cdv A outer s H E hr) fun ds z h => runD_ok h
theorem sc_way_to : FnScope N_way_to ["found", "head"] (defScope s_way_to) := ⟨rfl, rfl, rfl, by decide +kernel, rfl, by decide +kernel, by decide +kernel⟩
theorem B_way_to (T : Tp K mg)  (m : Nat) (cdv : Value) (A : Around) (outer : List PySem.Env) (s : Shared) (H : Hp) (E : XK) (hr : Room 0 (A.deeper (envOfC "way_to" (defScope s_way_to) s.heap.objs.size f cdv))) : FB (cxOf CX0 P w K mg base N_way_to "way_to" (defScope s_way_to) f cdv A outer s H E).nox (defBody s_way_to) (F_way_to m) :=
(fb_cons (fs_newL 2 sc_way_to.nd fa_nil)
    (fb_cons (fs_while m .never (ft_notN (fe_getK (hu_of hr) (fe_var 0 (pv 0)) (fe_var 1 (pv 1))))
    (fb_cons (fs_unp (fe_getK (hu_of hr) (fe_var 0 (pv 0)) (fe_var 1 (pv 1))) (fg_tup rfl (fgs_cons (fg_name 1 sc_way_to.nd) (fgs_cons (fg_name 3 sc_way_to.nd) fgs_nil))))
    (fb_cons (fs_app (fp_var 2 (pv 2)) (fe_var 3 (pv 3)))
    (fb_fgt [3] fb_nil))))
    (fb_one (fs_ret (fe_prev (fp_var 2 (pv 2)))))))
theorem ok_way_to (T : Tp K mg)  (F : FunD K d_way_to.name d_way_to.qual d_way_to.params d_way_to.body d_way_to.scope (d_way_to.dvs K) (d_way_to.kws K) f fd) : FnOk P w K mg base CX0 1 f fd ["found", "head"] (spD ⟨P, w, K⟩ 2 g_way_to) :=
  fn_D (Fd := F_way_to) F sc_way_to (fun m cdv A outer s H E hr => B_way_to T  m cdv A outer s H E hr) fun ds z h => runD_ok h
theorem sc_Heads_moves_from : FnScope N_Heads_moves_from ["self", "head"] (defScope s_Heads_moves_from) := ⟨rfl, rfl, rfl, by decide +kernel, rfl, by decide +kernel, by decide +kernel⟩
theorem B_Heads_moves_from (T : Tp K mg)  (m : Nat) (cdv : Value) (A : Around) (outer : List PySem.Env) (s : Shared) (H : Hp) (E : XK) (hr : Room 0 (A.deeper (envOfC "Heads.moves_from" (defScope s_Heads_moves_from) s.heap.objs.size f cdv))) : FB (cxOf CX0 P w K mg base N_Heads_moves_from "Heads.moves_from" (defScope s_Heads_moves_from) f cdv A outer s H E).nox (defBody s_Heads_moves_from) (F_Heads_moves_from m) :=
(fb_one (fs_ret (fe_getL (hu_of hr) (fe_fld T.tx .heads 0 (fe_var 0 (pv 0))) (fe_var 1 (pv 1)))))
theorem ok_Heads_moves_from (T : Tp K mg)  (F : FunD K d_Heads_moves_from.name d_Heads_moves_from.qual d_Heads_moves_from.params d_Heads_moves_from.body d_Heads_moves_from.scope (d_Heads_moves_from.dvs K) (d_Heads_moves_from.kws K) f fd) : FnOk P w K mg base CX0 1 f fd ["self", "head"] (spD ⟨P, w, K⟩ 2 g_Heads_moves_from) :=
  fn_D (Fd := F_Heads_moves_from) F sc_Heads_moves_from (fun m cdv A outer s H E hr => B_Heads_moves_from T  m cdv A outer s H E hr) fun ds z h => runM_ok h
theorem sc_Heads_reached : FnScope N_Heads_reached ["self", "heads"] (defScope s_Heads_reached) := ⟨rfl, rfl, rfl, by decide +kernel, rfl, by decide +kernel, by decide +kernel⟩
theorem B_Heads_reached (T : Tp K mg) (c_Heads_moves_from : CalM P w K mg base 1 .heads "moves_from" 2 g_Heads_moves_from) (m : Nat) (cdv : Value) (A : Around) (outer : List PySem.Env) (s : Shared) (H : Hp) (E : XK) (hr : Room 1 (A.deeper (envOfC "Heads.reached" (defScope s_Heads_reached) s.heap.objs.size f cdv))) : FB (cxOf CX0 P w K mg base N_Heads_reached "Heads.reached" (defScope s_Heads_reached) f cdv A outer s H E).nox (defBody s_Heads_reached) (F_Heads_reached m) :=
(fb_cons (fs_newDT .t 2 sc_Heads_reached.nd)
    (fb_cons (fs_for .never rfl (fi_list (fe_var 1 (pv 1))) (fg_name 3 sc_Heads_reached.nd)
    (fb_one (fs_putK (hu_of hr) (fp_var 2 (pv 2)) (fe_var 3 (pv 3)) fe_non)))
    (fb_cons (fs_keysO 4 rfl sc_Heads_reached.nd (fp_var 2 (pv 2)) rfl T.b_list)
    (fb_cons (fs_while m .never (ft_cmp fo_gt (fe_plen (fp_var 4 (pv 4)) rfl T.b_len) fe_int (nomark _))
    (fb_cons (fs_popTo 3 sc_Heads_reached.nd (fp_var 4 (pv 4)))
    (fb_cons (fs_for .never rfl (fi_list (fe_methC T.tx c_Heads_moves_from hr (fe_var 0 (pv 0)) (fa_cons (fe_var 3 (pv 3)) fa_nil))) (fg_name 5 sc_Heads_reached.nd)
    (fb_cons (fs_if (ft_pnotInK (hu_of hr) (fe_ix (fe_var 5 (pv 5)) fe_int plainIx) (fp_var 2 (pv 2)))
    (fb_cons (fs_putK (hu_of hr) (fp_var 2 (pv 2)) (fe_ix (fe_var 5 (pv 5)) fe_int plainIx) (fe_tup (fa_cons (fe_var 3 (pv 3)) (fa_cons (fe_var 5 (pv 5)) fa_nil))))
    (fb_one (fs_app (fp_var 4 (pv 4)) (fe_ix (fe_var 5 (pv 5)) fe_int plainIx))))
    fb_nil)
    (fb_fgt [5] fb_nil)))
    (fb_fgt [5] fb_nil))))
    (fb_frz 2 (fb_one (fs_ret (fe_var 2 (pv 2)))))))))
theorem ok_Heads_reached (T : Tp K mg) (c_Heads_moves_from : CalM P w K mg base 1 .heads "moves_from" 2 g_Heads_moves_from) (F : FunD K d_Heads_reached.name d_Heads_reached.qual d_Heads_reached.params d_Heads_reached.body d_Heads_reached.scope (d_Heads_reached.dvs K) (d_Heads_reached.kws K) f fd) : FnOk P w K mg base CX0 2 f fd ["self", "heads"] (spD ⟨P, w, K⟩ 2 g_Heads_reached) :=
  fn_D (Fd := F_Heads_reached) F sc_Heads_reached (fun m cdv A outer s H E hr => B_Heads_reached T c_Heads_moves_from m cdv A outer s H E hr) fun ds z h => runM_ok h
theorem sc_ring_at : FnScope N_ring_at ["heads", "found"] (defScope s_ring_at) := ⟨rfl, rfl, rfl, by decide +kernel, rfl, by decide +kernel, by decide +kernel⟩
theorem B_ring_at (T : Tp K mg) (c_way_to : Cal P w K mg base 1 "way_to" 2 g_way_to) (c_Heads_moves_from : CalM P w K mg base 1 .heads "moves_from" 2 g_Heads_moves_from) (c_Heads_reached : CalM P w K mg base 2 .heads "reached" 2 g_Heads_reached) (m : Nat) (cdv : Value) (A : Around) (outer : List PySem.Env) (s : Shared) (H : Hp) (E : XK) (hr : Room 2 (A.deeper (envOfC "ring_at" (defScope s_ring_at) s.heap.objs.size f cdv))) : FB (cxOf CX0 P w K mg base N_ring_at "ring_at" (defScope s_ring_at) f cdv A outer s H E).nox (defBody s_ring_at) (F_ring_at m) :=
(fb_cons (fs_for .never rfl (fi_keysK (fe_var 1 (pv 1))) (fg_name 2 sc_ring_at.nd)
    (fb_cons (fs_for .never rfl (fi_list (fe_methC T.tx c_Heads_moves_from hr (fe_var 0 (pv 0)) (fa_cons (fe_var 2 (pv 2)) fa_nil))) (fg_name 3 sc_ring_at.nd)
    (fb_cons (fs_if (ft_val (fe_ix (fe_var 3 (pv 3)) fe_int plainIx))
    (fb_cons (fs_set 4 sc_ring_at.nd (fe_methC T.tx c_Heads_reached hr (fe_var 0 (pv 0)) (fa_cons (fe_lst (fa_cons (fe_ix (fe_var 3 (pv 3)) fe_int plainIx) fa_nil)) fa_nil)))
    (fb_one (fs_if (ft_cmp (fo_inK (hu_of hr)) (fe_var 2 (pv 2)) (fe_var 4 (pv 4)) rfl)
    (fb_one (fs_ret (fe_tup (fa_cons (fe_var 2 (pv 2)) (fa_cons (fe_var 3 (pv 3)) (fa_cons (fe_callC c_way_to hr rfl (fa_cons (fe_var 4 (pv 4)) (fa_cons (fe_var 2 (pv 2)) fa_nil))) fa_nil))))))
    fb_nil)))
    fb_nil)
    (fb_fgt [3, 4] fb_nil)))
    (fb_fgt [2, 3, 4] fb_nil)))
    (fb_one (fs_ret fe_non)))
theorem ok_ring_at (T : Tp K mg) (c_way_to : Cal P w K mg base 1 "way_to" 2 g_way_to) (c_Heads_moves_from : CalM P w K mg base 1 .heads "moves_from" 2 g_Heads_moves_from) (c_Heads_reached : CalM P w K mg base 2 .heads "reached" 2 g_Heads_reached) (F : FunD K d_ring_at.name d_ring_at.qual d_ring_at.params d_ring_at.body d_ring_at.scope (d_ring_at.dvs K) (d_ring_at.kws K) f fd) : FnOk P w K mg base CX0 3 f fd ["heads", "found"] (spD ⟨P, w, K⟩ 2 g_ring_at) :=
  fn_D (Fd := F_ring_at) F sc_ring_at (fun m cdv A outer s H E hr => B_ring_at T c_way_to c_Heads_moves_from c_Heads_reached m cdv A outer s H E hr) fun ds z h => runD_ok h
theorem sc_Rows_missing : FnScope N_Rows_missing ["self", "key"] (defScope s_Rows_missing) := ⟨rfl, rfl, rfl, by decide +kernel, rfl, by decide +kernel, by decide +kernel⟩
theorem B_Rows_missing (T : Tp K mg)  (m : Nat) (cdv : Value) (A : Around) (outer : List PySem.Env) (s : Shared) (H : Hp) (E : XK) (hr : Room 0 (A.deeper (envOfC "Rows.missing" (defScope s_Rows_missing) s.heap.objs.size f cdv))) : FB (cxOf CX0 P w K mg base N_Rows_missing "Rows.missing" (defScope s_Rows_missing) f cdv A outer s H E).nox (defBody s_Rows_missing) (F_Rows_missing m) :=
(fb_cons (fs_set 2 sc_Rows_missing.nd (fe_ix (fe_getK (hu_of hr) (fe_ofld T.tx 0 .rows 0 (pv 0)) (fe_var 1 (pv 1))) fe_int plainIx))
    (fb_one (fs_ret (fe_lc 3 rfl sc_Rows_missing.nd (fi_tup (fe_var 2 (pv 2))) (blkOk_by (own := [("part", 3)]) (N := N_Rows_missing) (sc := defScope s_Rows_missing) (by decide +kernel)) (fun _ _ _ _ _ => pg_name (i := 3) sc_Rows_missing.nd rfl (Or.inl rfl)) (fun _ _ _ _ _ => pts_one (PW.pt (fw_and (ft_notN (fe_ix (fe_getK (hu_of hr) (fe_ofld T.tx 0 .rows 0 (pv 0)) (fe_var 3 (pv 3))) fe_int plainIx)) (fw_and1 (ft_pnotInK (hu_of hr) (fe_var 3 (pv 3)) (fp_fld T.tx 0 .rows 1 (pv 0))))))) (fun _ _ _ _ _ => (fe_var 3 (pv 3)))))))
theorem ok_Rows_missing (T : Tp K mg)  (F : FunD K d_Rows_missing.name d_Rows_missing.qual d_Rows_missing.params d_Rows_missing.body d_Rows_missing.scope (d_Rows_missing.dvs K) (d_Rows_missing.kws K) f fd) : FnOk P w K mg base CX0 1 f fd ["self", "key"] (spO ⟨P, w, K⟩ .rows 1 g_Rows_missing) :=
  fn_O (Fd := F_Rows_missing) F sc_Rows_missing rfl (fun m cdv A outer s H E hr => B_Rows_missing T  m cdv A outer s H E hr) fun fs ds z h a => ⟨MX, (runO_ok h).2 a⟩
theorem sc_Rows_add : FnScope N_Rows_add ["self", "key", "with_items"] (defScope s_Rows_add) := ⟨rfl, rfl, rfl, by decide +kernel, rfl, by decide +kernel, by decide +kernel⟩
theorem B_Rows_add (T : Tp K mg) (c_Rows_missing : CalO P w K mg base 1 .rows "missing" 1 g_Rows_missing) (m : Nat) (cdv : Value) (A : Around) (outer : List PySem.Env) (s : Shared) (H : Hp) (E : XK) (hr : Room 1 (A.deeper (envOfC "Rows.add" (defScope s_Rows_add) s.heap.objs.size f cdv))) : FB (cxOf CX0 P w K mg base N_Rows_add "Rows.add" (defScope s_Rows_add) f cdv A outer s H E).nox (defBody s_Rows_add) (F_Rows_add m) :=
(fb_cons (fs_newL 3 sc_Rows_add.nd (fa_cons (fe_var 1 (pv 1)) fa_nil))
    (fb_one (fs_while m .never (ft_cmp fo_gt (fe_plen (fp_var 3 (pv 3)) rfl T.b_len) fe_int (nomark _))
    (fb_cons (fs_set 4 sc_Rows_add.nd (fe_plast (fp_var 3 (pv 3)) plainIx))
    (fb_cons (fs_unp (fe_getK (hu_of hr) (fe_ofld T.tx 0 .rows 0 (pv 0)) (fe_var 4 (pv 4))) (fg_tup rfl (fgs_cons (fg_name 5 sc_Rows_add.nd) (fgs_cons (fg_name 6 sc_Rows_add.nd) fgs_nil))))
    (fb_cons (fs_methTo T.tx 7 0 sc_Rows_add.nd c_Rows_missing hr (pv 0) (fa_cons (fe_var 4 (pv 4)) fa_nil))
    (fb_cons (fs_if (PW.pt (fw_or (ft_isN (fe_var 5 (pv 5))) (fw_or1 (ft_pinK (hu_of hr) (fe_var 4 (pv 4)) (fp_fld T.tx 0 .rows 1 (pv 0))))))
    (fb_one (fs_pop (fp_var 3 (pv 3))))
    (fb_one (fs_if (ft_cmp fo_gt (fe_callB fc_len rfl T.b_len (by decide +kernel) (fa_cons (fe_var 7 (pv 7)) fa_nil)) fe_int (nomark _))
    (fb_one (fs_ext (fp_var 3 (pv 3)) (fe_var 7 (pv 7))))
    (fb_cons (fs_if (ft_val (fe_var 2 (pv 2)))
    fb_never
    (fb_one (fs_set 9 sc_Rows_add.nd (fe_callTy fc_tuple rfl T.b_tuple (by decide +kernel) (fa_cons (fe_lc 8 rfl sc_Rows_add.nd (fi_tup (fe_var 6 (pv 6))) (blkOk_by (own := [("part", 8)]) (N := N_Rows_add) (sc := defScope s_Rows_add) (by decide +kernel)) (fun _ _ _ _ _ => pg_name (i := 8) sc_Rows_add.nd rfl (Or.inl rfl)) (fun _ _ _ _ _ => fpts_nil (X := _)) (fun _ _ _ _ _ => (fe_pgetK (hu_of hr) (fp_fld T.tx 0 .rows 1 (pv 0)) (fe_var 8 (pv 8))))) fa_nil)))))
    (fb_cons (fs_putK (hu_of hr) (fp_fld T.tx 0 .rows 1 (pv 0)) (fe_var 4 (pv 4)) (fe_plen (fp_fld T.tx 0 .rows 2 (pv 0)) rfl T.b_len))
    (fb_cons (fs_app (fp_fld T.tx 0 .rows 2 (pv 0)) (fe_tup (fa_cons (fe_var 5 (pv 5)) (fa_cons (fe_var 9 (pv 9)) fa_nil))))
    (fb_one (fs_pop (fp_var 3 (pv 3))))))))))
    (fb_fgt [4, 5, 6, 7, 9] fb_nil))))))))
theorem ok_Rows_add (T : Tp K mg) (c_Rows_missing : CalO P w K mg base 1 .rows "missing" 1 g_Rows_missing) (F : FunD K d_Rows_add.name d_Rows_add.qual d_Rows_add.params d_Rows_add.body d_Rows_add.scope (d_Rows_add.dvs K) (d_Rows_add.kws K) f fd) : FnOk P w K mg base CX0 2 f fd ["self", "key", "with_items"] (spO ⟨P, w, K⟩ .rows 2 g_Rows_add) :=
  fn_O (Fd := F_Rows_add) F sc_Rows_add rfl (fun m cdv A outer s H E hr => B_Rows_add T c_Rows_missing m cdv A outer s H E hr) fun fs ds z h a => ⟨MX, (runO_ok h).2 a⟩
theorem sc_told_moves : FnScope N_told_moves ["rows", "moves"] (defScope s_told_moves) := ⟨rfl, rfl, rfl, by decide +kernel, rfl, by decide +kernel, by decide +kernel⟩
theorem B_told_moves (T : Tp K mg) (c_Rows_add : CalO P w K mg base 2 .rows "add" 2 g_Rows_add) (m : Nat) (cdv : Value) (A : Around) (outer : List PySem.Env) (s : Shared) (H : Hp) (E : XK) (hr : Room 2 (A.deeper (envOfC "told_moves" (defScope s_told_moves) s.heap.objs.size f cdv))) : FB (cxOf CX0 P w K mg base N_told_moves "told_moves" (defScope s_told_moves) f cdv A outer s H E).nox (defBody s_told_moves) (F_told_moves m) :=
(fb_cons (fs_newL 2 sc_told_moves.nd fa_nil)
    (fb_cons (fs_for .never rfl (fi_list (fe_var 1 (pv 1))) (fg_name 3 sc_told_moves.nd)
    (fb_cons (fs_set 4 sc_told_moves.nd fe_non)
    (fb_cons (fs_if (ft_notN (fe_ix (fe_var 3 (pv 3)) fe_int plainIx))
    (fb_cons (fs_meth T.tx 0 c_Rows_add hr (pv 0) (fa_cons (fe_ix (fe_var 3 (pv 3)) fe_int plainIx) (fa_cons fe_bl fa_nil)))
    (fb_one (fs_set 4 sc_told_moves.nd (fe_pgetK (hu_of hr) (fp_fld T.tx 0 .rows 1 (pv 0)) (fe_ix (fe_var 3 (pv 3)) fe_int plainIx)))))
    fb_nil)
    (fb_cons (fs_app (fp_var 2 (pv 2)) (fe_tup (fa_cons (fe_ix (fe_var 3 (pv 3)) fe_int plainIx) (fa_cons (fe_var 4 (pv 4)) fa_nil))))
    (fb_fgt [3, 4] fb_nil)))))
    (fb_frz 2 (fb_one (fs_ret (fe_callTy fc_tuple rfl T.b_tuple (by decide +kernel) (fa_cons (fe_var 2 (pv 2)) fa_nil)))))))
theorem ok_told_moves (T : Tp K mg) (c_Rows_add : CalO P w K mg base 2 .rows "add" 2 g_Rows_add) (F : FunD K d_told_moves.name d_told_moves.qual d_told_moves.params d_told_moves.body d_told_moves.scope (d_told_moves.dvs K) (d_told_moves.kws K) f fd) : FnOk P w K mg base CX0 3 f fd ["rows", "moves"] (spO ⟨P, w, K⟩ .rows 1 g_told_moves) :=
  fn_O (Fd := F_told_moves) F sc_told_moves rfl (fun m cdv A outer s H E hr => B_told_moves T c_Rows_add m cdv A outer s H E hr) fun fs ds z h a => ⟨MX, (runO_ok h).2 a⟩
theorem sc_told_ranks : FnScope N_told_ranks ["heads", "found"] (defScope s_told_ranks) := ⟨rfl, rfl, rfl, by decide +kernel, rfl, by decide +kernel, by decide +kernel⟩
theorem B_told_ranks (T : Tp K mg) (c_Heads_moves_from : CalM P w K mg base 1 .heads "moves_from" 2 g_Heads_moves_from) (m : Nat) (cdv : Value) (A : Around) (outer : List PySem.Env) (s : Shared) (H : Hp) (E : XK) (hr : Room 1 (A.deeper (envOfC "told_ranks" (defScope s_told_ranks) s.heap.objs.size f cdv))) : FB (cxOf CX0 P w K mg base N_told_ranks "told_ranks" (defScope s_told_ranks) f cdv A outer s H E).nox (defBody s_told_ranks) (F_told_ranks m) :=
(fb_cons (fs_newDT .t 2 sc_told_ranks.nd)
    (fb_cons (fs_for .never rfl (fi_keysK (fe_var 1 (pv 1))) (fg_name 3 sc_told_ranks.nd)
    (fb_one (fs_putK (hu_of hr) (fp_var 2 (pv 2)) (fe_var 3 (pv 3)) fe_int)))
    (fb_cons (fs_set 4 sc_told_ranks.nd fe_bl)
    (fb_cons (fs_while m .never (ft_val (fe_var 4 (pv 4)))
    (fb_cons (fs_set 4 sc_told_ranks.nd fe_bl)
    (fb_cons (fs_for .never rfl (fi_keysK (fe_var 1 (pv 1))) (fg_name 3 sc_told_ranks.nd)
    (fb_cons (fs_for .never rfl (fi_list (fe_methC T.tx c_Heads_moves_from hr (fe_var 0 (pv 0)) (fa_cons (fe_var 3 (pv 3)) fa_nil))) (fg_name 5 sc_told_ranks.nd)
    (fb_cons (fs_set 6 sc_told_ranks.nd (fe_bin fo_add (fe_pgetK (hu_of hr) (fp_var 2 (pv 2)) (fe_ix (fe_var 5 (pv 5)) fe_int plainIx)) (fe_callTy fc_int rfl T.b_int (by decide +kernel) (fa_cons (fe_ix (fe_var 5 (pv 5)) fe_int plainIx) fa_nil))))
    (fb_cons (fs_if (ft_cmp fo_gt (fe_var 6 (pv 6)) (fe_pgetK (hu_of hr) (fp_var 2 (pv 2)) (fe_var 3 (pv 3))) (nomark _))
    (fb_cons (fs_putK (hu_of hr) (fp_var 2 (pv 2)) (fe_var 3 (pv 3)) (fe_var 6 (pv 6)))
    (fb_one (fs_set 4 sc_told_ranks.nd fe_bl)))
    fb_nil)
    (fb_fgt [5, 6] fb_nil))))
    (fb_fgt [5, 6] fb_nil)))
    (fb_fgt [5, 6] fb_nil))))
    (fb_frz 2 (fb_one (fs_ret (fe_callTy fc_tuple rfl T.b_tuple (by decide +kernel) (fa_cons (fe_callB (fc_sorted hr) rfl T.b_sorted (by decide +kernel) (fa_cons (fe_listItems rfl (fe_var 2 (pv 2)) rfl T.b_list) fa_nil)) fa_nil)))))))))
theorem ok_told_ranks (T : Tp K mg) (c_Heads_moves_from : CalM P w K mg base 1 .heads "moves_from" 2 g_Heads_moves_from) (F : FunD K d_told_ranks.name d_told_ranks.qual d_told_ranks.params d_told_ranks.body d_told_ranks.scope (d_told_ranks.dvs K) (d_told_ranks.kws K) f fd) : FnOk P w K mg base CX0 2 f fd ["heads", "found"] (spD ⟨P, w, K⟩ 2 g_told_ranks) :=
  fn_D (Fd := F_told_ranks) F sc_told_ranks (fun m cdv A outer s H E hr => B_told_ranks T c_Heads_moves_from m cdv A outer s H E hr) fun ds z h => runD_ok h
theorem sc_Heads_put : FnScope N_Heads_put ["self", "step", "move"] (defScope s_Heads_put) := ⟨rfl, rfl, rfl, by decide +kernel, rfl, by decide +kernel, by decide +kernel⟩
theorem B_Heads_put (T : Tp K mg)  (m : Nat) (cdv : Value) (A : Around) (outer : List PySem.Env) (s : Shared) (H : Hp) (E : XK) (hr : Room 0 (A.deeper (envOfC "Heads.put" (defScope s_Heads_put) s.heap.objs.size f cdv))) : FB (cxOf CX0 P w K mg base N_Heads_put "Heads.put" (defScope s_Heads_put) f cdv A outer s H E).nox (defBody s_Heads_put) (F_Heads_put m) :=
(fb_one (fs_sdApp (hu_of hr) (fp_fld T.tx 0 .heads 0 (pv 0)) (fe_tup (fa_cons (fe_fld T.tx .step 0 (fe_var 1 (pv 1))) (fa_cons (fe_fld T.tx .step 1 (fe_var 1 (pv 1))) fa_nil))) (fe_var 2 (pv 2))))
theorem ok_Heads_put (T : Tp K mg)  (F : FunD K d_Heads_put.name d_Heads_put.qual d_Heads_put.params d_Heads_put.body d_Heads_put.scope (d_Heads_put.dvs K) (d_Heads_put.kws K) f fd) : FnOk P w K mg base CX0 1 f fd ["self", "step", "move"] (spO ⟨P, w, K⟩ .heads 2 g_Heads_put) :=
  fn_O (Fd := F_Heads_put) F sc_Heads_put rfl (fun m cdv A outer s H E hr => B_Heads_put T  m cdv A outer s H E hr) fun fs ds z h a => ⟨MX, (runO_ok h).2 a⟩
theorem sc_Heads_init : FnScope N_Heads_init ["self", "machine", "table"] (defScope s_Heads_init) := ⟨rfl, rfl, rfl, by decide +kernel, rfl, by decide +kernel, by decide +kernel⟩
theorem B_Heads_init (T : Tp K mg) (c_Heads_put : CalO P w K mg base 1 .heads "put" 2 g_Heads_put) (c_TakeOff_entries : CalM P w K mg base 1 .takeoff "entries" 3 g_TakeOff_entries) (m : Nat) (cdv : Value) (A : Around) (outer : List PySem.Env) (s : Shared) (H : Hp) (E : XK) (hr : Room 1 (A.deeper (envOfC "Heads.__init__" (defScope s_Heads_init) s.heap.objs.size f cdv))) : FB (cxOf CX0 P w K mg base N_Heads_init "Heads.__init__" (defScope s_Heads_init) f cdv A outer s H E).nox (defBody s_Heads_init) (F_Heads_init m) :=
(fb_cons (fs_fldB T.tx 0 .heads 0 (pv 0))
    (fb_one (fs_for .never rfl (fi_enumT rfl T.b_enumerate (fa_cons (fe_fld T.tx .machine 2 (fe_var 1 (pv 1))) fa_nil)) (fg_tup rfl (fgs_cons (fg_name 3 sc_Heads_init.nd) (fgs_cons (fg_name 4 sc_Heads_init.nd) fgs_nil)))
    (fb_cons (fs_set 5 sc_Heads_init.nd (fe_cmp (fo_inK (hu_of hr)) (fe_var 3 (pv 3)) (fe_fld T.tx .takeoff 1 (fe_var 2 (pv 2))) rfl))
    (fb_cons (fs_if (ft_cmp fo_gt (fe_callB fc_len rfl T.b_len (by decide +kernel) (fa_cons (fe_fld T.tx .step 3 (fe_var 4 (pv 4))) fa_nil)) fe_int (nomark _))
    (fb_one (fs_meth T.tx 0 c_Heads_put hr (pv 0) (fa_cons (fe_var 4 (pv 4)) (fa_cons (fe_tup (fa_cons (fe_tup (fa_cons (fe_fld T.tx .step 2 (fe_var 4 (pv 4))) (fa_cons (fe_ix (fe_fld T.tx .step 3 (fe_var 4 (pv 4))) fe_int plainIx) fa_nil))) (fa_cons (fe_var 5 (pv 5)) (fa_cons (fe_var 3 (pv 3)) (fa_cons fe_non fa_nil))))) fa_nil))))
    fb_nil)
    (fb_cons (fs_if (ft_cmp fo_eqI (fe_callB fc_len rfl T.b_len (by decide +kernel) (fa_cons (fe_fld T.tx .step 3 (fe_var 4 (pv 4))) fa_nil)) fe_int (nomark _))
    (fb_one (fs_for .never rfl (fi_list (fe_methC T.tx c_TakeOff_entries hr (fe_var 2 (pv 2)) (fa_cons (fe_fld T.tx .step 2 (fe_var 4 (pv 4))) (fa_cons (fe_ix (fe_fld T.tx .step 3 (fe_var 4 (pv 4))) fe_int plainIx) fa_nil)))) (fg_name 6 sc_Heads_init.nd)
    (fb_cons (fs_meth T.tx 0 c_Heads_put hr (pv 0) (fa_cons (fe_var 4 (pv 4)) (fa_cons (fe_tup (fa_cons (fe_tup (fa_cons (fe_ix (fe_var 6 (pv 6)) fe_int plainIx) (fa_cons (fe_ix (fe_fld T.tx .step 3 (fe_var 4 (pv 4))) fe_int plainIx) fa_nil))) (fa_cons (fe_or (fe_var 5 (pv 5)) (fe_ix (fe_var 6 (pv 6)) fe_int plainIx)) (fa_cons (fe_var 3 (pv 3)) (fa_cons (fe_var 6 (pv 6)) fa_nil))))) fa_nil)))
    (fb_fgt [6] fb_nil))))
    fb_nil)
    (fb_fgt [3, 4, 5, 6] fb_nil)))))))
theorem ok_Heads_init (T : Tp K mg) (c_Heads_put : CalO P w K mg base 1 .heads "put" 2 g_Heads_put) (c_TakeOff_entries : CalM P w K mg base 1 .takeoff "entries" 3 g_TakeOff_entries) (F : FunD K d_Heads_init.name d_Heads_init.qual d_Heads_init.params d_Heads_init.body d_Heads_init.scope (d_Heads_init.dvs K) (d_Heads_init.kws K) f fd) : FnOk P w K mg base CX0 2 f fd ["self", "machine", "table"] (spO ⟨P, w, K⟩ .heads 2 g_Heads_init) :=
  fn_O (Fd := F_Heads_init) F sc_Heads_init rfl (fun m cdv A outer s H E hr => B_Heads_init T c_Heads_put c_TakeOff_entries m cdv A outer s H E hr) fun fs ds z h a => ⟨MX, (runI_ok h).2 a⟩
theorem sc_Rows_init : FnScope N_Rows_init ["self", "found"] (defScope s_Rows_init) := ⟨rfl, rfl, rfl, by decide +kernel, rfl, by decide +kernel, by decide +kernel⟩
theorem B_Rows_init (T : Tp K mg)  (m : Nat) (cdv : Value) (A : Around) (outer : List PySem.Env) (s : Shared) (H : Hp) (E : XK) (hr : Room 0 (A.deeper (envOfC "Rows.__init__" (defScope s_Rows_init) s.heap.objs.size f cdv))) : FB (cxOf CX0 P w K mg base N_Rows_init "Rows.__init__" (defScope s_Rows_init) f cdv A outer s H E).nox (defBody s_Rows_init) (F_Rows_init m) :=
(fb_cons (fs_fld T.tx 0 .rows 0 (pv 0) (fe_var 1 (pv 1)))
    (fb_cons (fs_fldX T.tx 0 .rows 1 .e (pv 0))
    (fb_one (fs_fldL T.tx 0 .rows 2 (pv 0)))))
theorem ok_Rows_init (T : Tp K mg)  (F : FunD K d_Rows_init.name d_Rows_init.qual d_Rows_init.params d_Rows_init.body d_Rows_init.scope (d_Rows_init.dvs K) (d_Rows_init.kws K) f fd) : FnOk P w K mg base CX0 1 f fd ["self", "found"] (spO ⟨P, w, K⟩ .rows 1 g_Rows_init) :=
  fn_O (Fd := F_Rows_init) F sc_Rows_init rfl (fun m cdv A outer s H E hr => B_Rows_init T  m cdv A outer s H E hr) fun fs ds z h a => ⟨MX, (runI_ok h).2 a⟩
theorem sc_TakeOff_use : FnScope N_TakeOff_use ["self", "index"] (defScope s_TakeOff_use) := ⟨rfl, rfl, rfl, by decide +kernel, rfl, by decide +kernel, by decide +kernel⟩
theorem B_TakeOff_use (T : Tp K mg) (c_TakeOff_entriesE : CalE P w K mg base 1) (m : Nat) (cdv : Value) (A : Around) (outer : List PySem.Env) (s : Shared) (H : Hp) (E : XK) (hr : Room 1 (A.deeper (envOfC "TakeOff.use" (defScope s_TakeOff_use) s.heap.objs.size f cdv))) : FB (cxOf CX0 P w K mg base N_TakeOff_use "TakeOff.use" (defScope s_TakeOff_use) f cdv A outer s H E).nox (defBody s_TakeOff_use) (F_TakeOff_use m) :=
(fb_cons (fs_set 2 sc_TakeOff_use.nd (fe_ix (fe_fld T.tx .machine 2 (fe_ofld T.tx 0 .takeoff 0 (pv 0))) (fe_var 1 (pv 1)) plainIx))
    (fb_cons (fs_set 3 sc_TakeOff_use.nd (fe_lst (fa_cons (fe_tup (fa_cons (fe_fld T.tx .step 2 (fe_var 2 (pv 2))) (fa_cons (fe_pinK (hu_of hr) (fe_var 1 (pv 1)) (fp_fld T.tx 0 .takeoff 1 (pv 0))) (fa_cons (fe_tup fa_nil) fa_nil)))) fa_nil)))
    (fb_cons (fs_for .never rfl (fi_tup (fe_fld T.tx .step 3 (fe_var 2 (pv 2)))) (fg_name 4 sc_TakeOff_use.nd)
    (fb_cons (fs_newL 5 sc_TakeOff_use.nd fa_nil)
    (fb_cons (fs_for .never rfl (fi_list (fe_var 3 (pv 3))) (fg_tup rfl (fgs_cons (fg_name 6 sc_TakeOff_use.nd) (fgs_cons (fg_name 7 sc_TakeOff_use.nd) (fgs_cons (fg_name 8 sc_TakeOff_use.nd) fgs_nil))))
    (fb_one (fs_forE T.tx 0 c_TakeOff_entriesE hr (pv 0) (fa_cons (fe_var 6 (pv 6)) (fa_cons (fe_var 4 (pv 4)) fa_nil)) .never rfl (fg_name 9 sc_TakeOff_use.nd)
    (fb_one (fs_app (fp_var 5 (pv 5)) (fe_tup (fa_cons (fe_ix (fe_var 9 (pv 9)) fe_int plainIx) (fa_cons (fe_or (fe_var 7 (pv 7)) (fe_ix (fe_var 9 (pv 9)) fe_int plainIx)) (fa_cons (fe_bin fo_cat (fe_var 8 (pv 8)) (fe_tup (fa_cons (fe_var 9 (pv 9)) fa_nil))) fa_nil)))))) (hlen := fun _ _ h => len2 h))))
    (fb_frz 5 (fb_cons (fs_set 3 sc_TakeOff_use.nd (fe_var 5 (pv 5)))
    (fb_fgt [4, 5] fb_nil))))))
    (fb_one (fs_for .never rfl (fi_list (fe_var 3 (pv 3))) (fg_tup rfl (fgs_cons (fg_name 6 sc_TakeOff_use.nd) (fgs_cons (fg_name 7 sc_TakeOff_use.nd) (fgs_cons (fg_name 8 sc_TakeOff_use.nd) fgs_nil))))
    (fb_cons (fs_set 9 sc_TakeOff_use.nd (fe_tup (fa_cons (fe_fld T.tx .step 0 (fe_var 2 (pv 2))) (fa_cons (fe_fld T.tx .step 1 (fe_var 2 (pv 2))) (fa_cons (fe_var 6 (pv 6)) (fa_cons (fe_var 7 (pv 7)) fa_nil))))))
    (fb_one (fs_if (ft_pnotInK (hu_of hr) (fe_var 9 (pv 9)) (fp_fld T.tx 0 .takeoff 2 (pv 0)))
    (fb_cons (fs_putK (hu_of hr) (fp_fld T.tx 0 .takeoff 2 (pv 0)) (fe_var 9 (pv 9)) (fe_tup (fa_cons (fe_var 1 (pv 1)) (fa_cons (fe_var 8 (pv 8)) fa_nil))))
    (fb_one (fs_sdApp (hu_of hr) (fp_fld T.tx 0 .takeoff 3 (pv 0)) (fe_to (i := 2) (fe_var 9 (pv 9))) (fe_var 9 (pv 9)))))
    fb_nil))))))))
theorem ok_TakeOff_use (T : Tp K mg) (c_TakeOff_entriesE : CalE P w K mg base 1) (F : FunD K d_TakeOff_use.name d_TakeOff_use.qual d_TakeOff_use.params d_TakeOff_use.body d_TakeOff_use.scope (d_TakeOff_use.dvs K) (d_TakeOff_use.kws K) f fd) : FnOk P w K mg base CX0 2 f fd ["self", "index"] (spO ⟨P, w, K⟩ .takeoff 1 g_TakeOff_use) :=
  fn_O (Fd := F_TakeOff_use) F sc_TakeOff_use rfl (fun m cdv A outer s H E hr => B_TakeOff_use T c_TakeOff_entriesE m cdv A outer s H E hr) fun fs ds z h a => ⟨MX, (runO_ok h).2 a⟩
theorem sc_TakeOff_init : FnScope N_TakeOff_init ["self", "machine", "marked"] (defScope s_TakeOff_init) := ⟨rfl, rfl, rfl, by decide +kernel, rfl, by decide +kernel, by decide +kernel⟩
theorem B_TakeOff_init (T : Tp K mg) (c_TakeOff_use : CalO P w K mg base 2 .takeoff "use" 1 g_TakeOff_use) (m : Nat) (cdv : Value) (A : Around) (outer : List PySem.Env) (s : Shared) (H : Hp) (E : XK) (hr : Room 2 (A.deeper (envOfC "TakeOff.__init__" (defScope s_TakeOff_init) s.heap.objs.size f cdv))) : FB (cxOf CX0 P w K mg base N_TakeOff_init "TakeOff.__init__" (defScope s_TakeOff_init) f cdv A outer s H E).nox (defBody s_TakeOff_init) (F_TakeOff_init m) :=
(fb_cons (fs_fld T.tx 0 .takeoff 0 (pv 0) (fe_var 1 (pv 1)))
    (fb_cons (fs_fldI T.tx 0 .takeoff 1 (pv 0))
    (fb_cons (fs_for .never rfl (fi_tup (fe_var 2 (pv 2))) (fg_name 3 sc_TakeOff_init.nd)
    (fb_one (fs_putK (hu_of hr) (fp_fld T.tx 0 .takeoff 1 (pv 0)) (fe_var 3 (pv 3)) fe_bl)))
    (fb_cons (fs_fldX T.tx 0 .takeoff 2 .e (pv 0))
    (fb_cons (fs_fldB T.tx 0 .takeoff 3 (pv 0))
    (fb_cons (fs_set 4 sc_TakeOff_init.nd fe_bl)
    (fb_one (fs_while m .never (ft_val (fe_var 4 (pv 4)))
    (fb_cons (fs_set 5 sc_TakeOff_init.nd (fe_plenK (fp_fld T.tx 0 .takeoff 2 (pv 0)) rfl T.b_len))
    (fb_cons (fs_for .never rfl (fi_range rfl T.b_range (fa_cons (fe_callB fc_len rfl T.b_len (by decide +kernel) (fa_cons (fe_fld T.tx .machine 2 (fe_var 1 (pv 1))) fa_nil)) fa_nil)) (fg_name 3 sc_TakeOff_init.nd)
    (fb_one (fs_meth T.tx 0 c_TakeOff_use hr (pv 0) (fa_cons (fe_var 3 (pv 3)) fa_nil))))
    (fb_cons (fs_set 4 sc_TakeOff_init.nd (fe_cmp fo_gt (fe_plenK (fp_fld T.tx 0 .takeoff 2 (pv 0)) rfl T.b_len) (fe_var 5 (pv 5)) (nomark _)))
    (fb_fgt [5] fb_nil))))))))))))
theorem ok_TakeOff_init (T : Tp K mg) (c_TakeOff_use : CalO P w K mg base 2 .takeoff "use" 1 g_TakeOff_use) (F : FunD K d_TakeOff_init.name d_TakeOff_init.qual d_TakeOff_init.params d_TakeOff_init.body d_TakeOff_init.scope (d_TakeOff_init.dvs K) (d_TakeOff_init.kws K) f fd) : FnOk P w K mg base CX0 3 f fd ["self", "machine", "marked"] (spO ⟨P, w, K⟩ .takeoff 2 g_TakeOff_init) :=
  fn_O (Fd := F_TakeOff_init) F sc_TakeOff_init rfl (fun m cdv A outer s H E hr => B_TakeOff_init T c_TakeOff_use m cdv A outer s H E hr) fun fs ds z h a => ⟨MX, (runI_ok h).2 a⟩
theorem sc_endless : FnScope N_endless ["machine", "marked", "configuration"] (defScope s_endless) := ⟨rfl, rfl, rfl, by decide +kernel, rfl, by decide +kernel, by decide +kernel⟩
theorem B_endless (T : Tp K mg) (c_descents : Cal P w K mg base 2 "descents" 2 g_descents) (c_ring_at : Cal P w K mg base 3 "ring_at" 2 g_ring_at) (c_told_moves : CalG P w K mg base 3 .rows "told_moves" 1 g_told_moves) (c_told_ranks : Cal P w K mg base 2 "told_ranks" 2 g_told_ranks) (c_way_to : Cal P w K mg base 1 "way_to" 2 g_way_to) (c_Heads : CalI P w K mg base 2 .heads 2 g_Heads_init) (c_Heads_reached : CalM P w K mg base 2 .heads "reached" 2 g_Heads_reached) (c_Rows : CalI P w K mg base 1 .rows 1 g_Rows_init) (c_Rows_add : CalO P w K mg base 2 .rows "add" 2 g_Rows_add) (c_TakeOff : CalI P w K mg base 3 .takeoff 2 g_TakeOff_init) (m : Nat) (cdv : Value) (A : Around) (outer : List PySem.Env) (s : Shared) (H : Hp) (E : XK) (hr : Room 4 (A.deeper (envOfC "endless" (defScope s_endless) s.heap.objs.size f cdv))) : FB (cxOf CX0 P w K mg base N_endless "endless" (defScope s_endless) f cdv A outer s H E).nox (defBody s_endless) (F_endless m) :=
(fb_cons (fs_make (c := .takeoff) 3 sc_endless.nd c_TakeOff hr (by exact rfl) (fa_cons (fe_var 0 (pv 0)) (fa_cons (fe_var 1 (pv 1)) fa_nil)))
    (fb_frz 3 (fb_cons (fs_make (c := .heads) 4 sc_endless.nd c_Heads hr (by exact rfl) (fa_cons (fe_var 0 (pv 0)) (fa_cons (fe_var 3 (pv 3)) fa_nil)))
    (fb_frz 4 (fb_cons (fs_set 5 sc_endless.nd (fe_callC c_descents hr rfl (fa_cons (fe_var 3 (pv 3)) (fa_cons (fe_var 2 (pv 2)) fa_nil))))
    (fb_cons (fs_set 6 sc_endless.nd (fe_methC T.tx c_Heads_reached hr (fe_var 4 (pv 4)) (fa_cons (fe_callTy (fc_keys rfl) rfl T.b_list (by decide +kernel) (fa_cons (fe_var 5 (pv 5)) fa_nil)) fa_nil)))
    (fb_cons (fs_set 7 sc_endless.nd (fe_callC c_ring_at hr rfl (fa_cons (fe_var 4 (pv 4)) (fa_cons (fe_var 6 (pv 6)) fa_nil))))
    (fb_cons (fs_if (ft_isN (fe_var 7 (pv 7)))
    (fb_one (fs_ret (fe_tup (fa_cons fe_bl (fa_cons (fe_tup (fa_cons fe_str (fa_cons (fe_callTy fc_tuple rfl T.b_tuple (by decide +kernel) (fa_cons (fe_callB (fc_sorted hr) rfl T.b_sorted (by decide +kernel) (fa_cons (fe_callTy (fc_keys rfl) rfl T.b_list (by decide +kernel) (fa_cons (fe_fld T.tx .takeoff 2 (fe_var 3 (pv 3))) fa_nil)) fa_nil)) fa_nil)) (fa_cons (fe_callC c_told_ranks hr rfl (fa_cons (fe_var 4 (pv 4)) (fa_cons (fe_var 6 (pv 6)) fa_nil))) fa_nil)))) fa_nil)))))
    fb_nil)
    (fb_cons (fs_set 8 sc_endless.nd (fe_callC c_way_to hr rfl (fa_cons (fe_var 6 (pv 6)) (fa_cons (fe_ix (fe_var 7 (pv 7)) fe_int plainIx) fa_nil))))
    (fb_cons (fs_set 9 sc_endless.nd (fe_ix (fe_var 7 (pv 7)) fe_int plainIx))
    (fb_cons (fs_while m .never (ft_notN (fe_getK (hu_of hr) (fe_var 6 (pv 6)) (fe_var 9 (pv 9))))
    (fb_one (fs_set 9 sc_endless.nd (fe_ix (fe_getK (hu_of hr) (fe_var 6 (pv 6)) (fe_var 9 (pv 9))) fe_int plainIx))))
    (fb_cons (fs_make (c := .rows) 10 sc_endless.nd c_Rows hr (by exact rfl) (fa_cons (fe_fld T.tx .takeoff 2 (fe_var 3 (pv 3))) fa_nil))
    (fb_cons (fs_for .never rfl (fi_tup (fe_getK (hu_of hr) (fe_var 5 (pv 5)) (fe_var 9 (pv 9)))) (fg_name 11 sc_endless.nd)
    (fb_one (fs_meth T.tx 10 c_Rows_add hr (pv 10) (fa_cons (fe_var 11 (pv 11)) (fa_cons fe_bl fa_nil)))))
    (fb_cons (fs_set 12 sc_endless.nd (fe_callTy fc_tuple rfl T.b_tuple (by decide +kernel) (fa_cons (fe_lc 11 rfl sc_endless.nd (fi_tup (fe_getK (hu_of hr) (fe_var 5 (pv 5)) (fe_var 9 (pv 9)))) (blkOk_by (own := [("entry", 11)]) (N := N_endless) (sc := defScope s_endless) (by decide +kernel)) (fun _ _ _ _ _ => pg_name (i := 11) sc_endless.nd rfl (Or.inl rfl)) (fun _ _ _ _ _ => fpts_nil (X := _)) (fun _ _ _ _ _ => (fe_pgetK (hu_of hr) (fp_fld T.tx 10 .rows 1 (pv 10)) (fe_var 11 (pv 11))))) fa_nil)))
    (fb_cons (fs_callO 13 10 sc_endless.nd c_told_moves hr (by exact rfl) (pv 10) (fa_cons (fe_var 8 (pv 8)) fa_nil))
    (fb_cons (fs_callO 14 10 sc_endless.nd c_told_moves hr (by exact rfl) (pv 10) (fa_cons (fe_bin fo_catL (fe_lst (fa_cons (fe_ix (fe_var 7 (pv 7)) fe_int plainIx) fa_nil)) (fe_ix (fe_var 7 (pv 7)) fe_int plainIx)) fa_nil))
    (fb_frz 10 (fb_one (fs_ret (fe_tup (fa_cons fe_bl (fa_cons (fe_tup (fa_cons fe_str (fa_cons (fe_callTy fc_tuple rfl T.b_tuple (by decide +kernel) (fa_cons (fe_fld T.tx .rows 2 (fe_var 10 (pv 10))) fa_nil)) (fa_cons (fe_var 12 (pv 12)) (fa_cons (fe_var 13 (pv 13)) (fa_cons (fe_var 14 (pv 14)) fa_nil)))))) fa_nil))))))))))))))))))))))
theorem ok_endless (T : Tp K mg) (c_descents : Cal P w K mg base 2 "descents" 2 g_descents) (c_ring_at : Cal P w K mg base 3 "ring_at" 2 g_ring_at) (c_told_moves : CalG P w K mg base 3 .rows "told_moves" 1 g_told_moves) (c_told_ranks : Cal P w K mg base 2 "told_ranks" 2 g_told_ranks) (c_way_to : Cal P w K mg base 1 "way_to" 2 g_way_to) (c_Heads : CalI P w K mg base 2 .heads 2 g_Heads_init) (c_Heads_reached : CalM P w K mg base 2 .heads "reached" 2 g_Heads_reached) (c_Rows : CalI P w K mg base 1 .rows 1 g_Rows_init) (c_Rows_add : CalO P w K mg base 2 .rows "add" 2 g_Rows_add) (c_TakeOff : CalI P w K mg base 3 .takeoff 2 g_TakeOff_init) (F : FunD K d_endless.name d_endless.qual d_endless.params d_endless.body d_endless.scope (d_endless.dvs K) (d_endless.kws K) f fd) : FnOk P w K mg base CX0 5 f fd ["machine", "marked", "configuration"] (spD ⟨P, w, K⟩ 3 g_endless) :=
  fn_D (Fd := F_endless) F sc_endless (fun m cdv A outer s H E hr => B_endless T c_descents c_ring_at c_told_moves c_told_ranks c_way_to c_Heads c_Heads_reached c_Rows c_Rows_add c_TakeOff m cdv A outer s H E hr) fun ds z h => runD_ok h
end DL
end

section
set_option Elab.async false
set_option linter.all false
set_option maxRecDepth 100000
set_option maxHeartbeats 4000000
namespace DL
open PySem PySem.Spec PyProof.Rows L2 He PR
variable {P : Program} {w : World} {K : PySem.W.Frag} {mg : PySem.Str → Option Value} {base : Heap} {f : Addr} {fd : FuncData}
theorem sc_law_numbers : FnScope N_law_numbers ["_law_script", "_law_count"] (defScope s_law_numbers) := ⟨rfl, rfl, rfl, by decide +kernel, rfl, by decide +kernel, by decide +kernel⟩
theorem B_law_numbers (T : Tp K mg)  (m : Nat) (cdv : Value) (A : Around) (outer : List PySem.Env) (s : Shared) (H : Hp) (E : XK) (hr : Room 0 (A.deeper (envOfC "_law_numbers" (defScope s_law_numbers) s.heap.objs.size f cdv))) : FB (cxOf CX0 P w K mg base N_law_numbers "_law_numbers" (defScope s_law_numbers) f cdv A outer s H E).nox (defBody s_law_numbers) (F_law_numbers m) :=
(fb_cons (fs_set 2 sc_law_numbers.nd fe_int)
    (fb_cons (fs_if (ft_cmp fo_gt (fe_callB fc_len rfl T.b_len (by decide +kernel) (fa_cons (fe_var 0 (pv 0)) fa_nil)) fe_int (nomark _))
    (fb_one (fs_set 2 sc_law_numbers.nd (fe_ix (fe_var 0 (pv 0)) fe_int plainIx)))
    fb_nil)
    (fb_cons (fs_set 3 sc_law_numbers.nd (fe_cmp fo_ge (fe_var 2 (pv 2)) (fe_bin fo_pow fe_int fe_int) (nomark _)))
    (fb_cons (fs_newL 4 sc_law_numbers.nd fa_nil)
    (fb_cons (fs_for .never rfl (fi_range rfl T.b_range (fa_cons (fe_var 1 (pv 1)) fa_nil)) (fg_name 5 sc_law_numbers.nd)
    (fb_cons (fs_if (PW.pt (fw_and (ft_val (fe_var 3 (pv 3))) (fw_and1 (ft_cmp fo_gt (fe_var 2 (pv 2)) fe_int (nomark _)))))
    (fb_cons (fs_app (fp_var 4 (pv 4)) (fe_bin fo_mod (fe_var 2 (pv 2)) fe_int))
    (fb_one (fs_set 2 sc_law_numbers.nd (fe_bin fo_div (fe_var 2 (pv 2)) fe_int))))
    (fb_cons (fs_set 6 sc_law_numbers.nd fe_int)
    (fb_cons (fs_if (ft_cmp fo_gt (fe_callB fc_len rfl T.b_len (by decide +kernel) (fa_cons (fe_var 0 (pv 0)) fa_nil)) fe_int (nomark _))
    (fb_one (fs_set 6 sc_law_numbers.nd (fe_bin fo_add (fe_ix (fe_var 0 (pv 0)) (fe_bin fo_mod (fe_var 5 (pv 5)) (fe_callB fc_len rfl T.b_len (by decide +kernel) (fa_cons (fe_var 0 (pv 0)) fa_nil))) plainIx) (fe_bin fo_mul fe_int (fe_var 5 (pv 5))))))
    fb_nil)
    (fb_one (fs_app (fp_var 4 (pv 4)) (fe_bin fo_mod (fe_bin fo_mod (fe_bin fo_mul (fe_bin fo_mod (fe_bin fo_mul (fe_var 6 (pv 6)) fe_int) fe_int) fe_int) fe_int) fe_int))))))
    (fb_fgt [5, 6] fb_nil)))
    (fb_frz 4 (fb_one (fs_ret (fe_var 4 (pv 4))))))))))
theorem ok_law_numbers (T : Tp K mg)  (F : FunD K d_law_numbers.name d_law_numbers.qual d_law_numbers.params d_law_numbers.body d_law_numbers.scope (d_law_numbers.dvs K) (d_law_numbers.kws K) f fd) : FnOk P w K mg base CX0 1 f fd ["_law_script", "_law_count"] (spD ⟨P, w, K⟩ 2 g_law_numbers) :=
  fn_D (Fd := F_law_numbers) F sc_law_numbers (fun m cdv A outer s H E hr => B_law_numbers T  m cdv A outer s H E hr) fun ds z h => runD_ok h
theorem sc_law_rows : FnScope N_law_rows ["_law_numbers_here", "_law_place", "_law_states", "_law_letters", "_law_count"] (defScope s_law_rows) := ⟨rfl, rfl, rfl, by decide +kernel, rfl, by decide +kernel, by decide +kernel⟩
theorem B_law_rows (T : Tp K mg)  (m : Nat) (cdv : Value) (A : Around) (outer : List PySem.Env) (s : Shared) (H : Hp) (E : XK) (hr : Room 0 (A.deeper (envOfC "_law_rows" (defScope s_law_rows) s.heap.objs.size f cdv))) : FB (cxOf CX0 P w K mg base N_law_rows "_law_rows" (defScope s_law_rows) f cdv A outer s H E).nox (defBody s_law_rows) (F_law_rows m) :=
(fb_cons (fs_newL 5 sc_law_rows.nd fa_nil)
    (fb_cons (fs_for .never rfl (fi_range rfl T.b_range (fa_cons (fe_var 4 (pv 4)) fa_nil)) (fg_name 6 sc_law_rows.nd)
    (fb_cons (fs_set 7 sc_law_rows.nd (fe_ix (fe_var 0 (pv 0)) (fe_bin fo_add (fe_var 1 (pv 1)) (fe_var 6 (pv 6))) plainIx))
    (fb_cons (fs_set 8 sc_law_rows.nd (fe_ix (fe_lst (fa_cons fe_int (fa_cons fe_int (fa_cons fe_int (fa_cons fe_int (fa_cons fe_int fa_nil)))))) (fe_bin fo_mod (fe_var 7 (pv 7)) fe_int) plainIx))
    (fb_cons (fs_set 7 sc_law_rows.nd (fe_bin fo_div (fe_var 7 (pv 7)) fe_int))
    (fb_cons (fs_newL 9 sc_law_rows.nd fa_nil)
    (fb_cons (fs_for .never rfl (fi_range rfl T.b_range (fa_cons (fe_var 8 (pv 8)) fa_nil)) (fg_name 10 sc_law_rows.nd)
    (fb_cons (fs_app (fp_var 9 (pv 9)) (fe_bin fo_mod (fe_var 7 (pv 7)) (fe_var 3 (pv 3))))
    (fb_cons (fs_set 7 sc_law_rows.nd (fe_bin fo_div (fe_var 7 (pv 7)) (fe_var 3 (pv 3))))
    (fb_fgt [10] fb_nil))))
    (fb_cons (fs_set 11 sc_law_rows.nd (fe_bin fo_mod (fe_var 7 (pv 7)) (fe_var 2 (pv 2))))
    (fb_cons (fs_set 7 sc_law_rows.nd (fe_bin fo_div (fe_var 7 (pv 7)) (fe_var 2 (pv 2))))
    (fb_cons (fs_set 12 sc_law_rows.nd (fe_bin fo_mod (fe_var 7 (pv 7)) (fe_var 3 (pv 3))))
    (fb_cons (fs_set 7 sc_law_rows.nd (fe_bin fo_div (fe_var 7 (pv 7)) (fe_var 3 (pv 3))))
    (fb_cons (fs_set 13 sc_law_rows.nd (fe_bin fo_mod (fe_var 7 (pv 7)) (fe_var 2 (pv 2))))
    (fb_frz 9 (fb_cons (fs_app (fp_var 5 (pv 5)) (fe_tup (fa_cons (fe_var 11 (pv 11)) (fa_cons (fe_var 12 (pv 12)) (fa_cons (fe_var 13 (pv 13)) (fa_cons (fe_callTy fc_tuple rfl T.b_tuple (by decide +kernel) (fa_cons (fe_var 9 (pv 9)) fa_nil)) (fa_cons (fe_bin fo_mod (fe_bin fo_div (fe_var 7 (pv 7)) (fe_var 2 (pv 2))) fe_int) fa_nil)))))))
    (fb_fgt [6, 7, 8, 9, 10, 11, 12, 13] fb_nil))))))))))))))
    (fb_frz 5 (fb_one (fs_ret (fe_var 5 (pv 5)))))))
theorem ok_law_rows (T : Tp K mg)  (F : FunD K d_law_rows.name d_law_rows.qual d_law_rows.params d_law_rows.body d_law_rows.scope (d_law_rows.dvs K) (d_law_rows.kws K) f fd) : FnOk P w K mg base CX0 1 f fd ["_law_numbers_here", "_law_place", "_law_states", "_law_letters", "_law_count"] (spD ⟨P, w, K⟩ 5 g_law_rows) :=
  fn_D (Fd := F_law_rows) F sc_law_rows (fun m cdv A outer s H E hr => B_law_rows T  m cdv A outer s H E hr) fun ds z h => runD_ok h
theorem sc_law_machine : FnScope N_law_machine ["_law_numbers_here", "_law_place"] (defScope s_law_machine) := ⟨rfl, rfl, rfl, by decide +kernel, rfl, by decide +kernel, by decide +kernel⟩
theorem B_law_machine (T : Tp K mg) (c_law_rows : Cal P w K mg base 1 "_law_rows" 5 g_law_rows) (m : Nat) (cdv : Value) (A : Around) (outer : List PySem.Env) (s : Shared) (H : Hp) (E : XK) (hr : Room 1 (A.deeper (envOfC "_law_machine" (defScope s_law_machine) s.heap.objs.size f cdv))) : FB (cxOf CX0 P w K mg base N_law_machine "_law_machine" (defScope s_law_machine) f cdv A outer s H E).nox (defBody s_law_machine) (F_law_machine m) :=
(fb_cons (fs_set 2 sc_law_machine.nd (fe_bin fo_add (fe_bin fo_mod (fe_ix (fe_var 0 (pv 0)) (fe_var 1 (pv 1)) plainIx) fe_int) fe_int))
    (fb_cons (fs_set 3 sc_law_machine.nd (fe_bin fo_add (fe_bin fo_mod (fe_bin fo_div (fe_ix (fe_var 0 (pv 0)) (fe_var 1 (pv 1)) plainIx) fe_int) fe_int) fe_int))
    (fb_one (fs_ret (fe_lst (fa_cons (fe_var 2 (pv 2)) (fa_cons (fe_var 3 (pv 3)) (fa_cons (fe_callC c_law_rows hr rfl (fa_cons (fe_var 0 (pv 0)) (fa_cons (fe_bin fo_add (fe_var 1 (pv 1)) fe_int) (fa_cons (fe_var 2 (pv 2)) (fa_cons (fe_var 3 (pv 3)) (fa_cons (fe_bin fo_mod (fe_bin fo_div (fe_ix (fe_var 0 (pv 0)) (fe_var 1 (pv 1)) plainIx) fe_int) fe_int) fa_nil)))))) fa_nil))))))))
theorem ok_law_machine (T : Tp K mg) (c_law_rows : Cal P w K mg base 1 "_law_rows" 5 g_law_rows) (F : FunD K d_law_machine.name d_law_machine.qual d_law_machine.params d_law_machine.body d_law_machine.scope (d_law_machine.dvs K) (d_law_machine.kws K) f fd) : FnOk P w K mg base CX0 2 f fd ["_law_numbers_here", "_law_place"] (spD ⟨P, w, K⟩ 2 g_law_machine) :=
  fn_D (Fd := F_law_machine) F sc_law_machine (fun m cdv A outer s H E hr => B_law_machine T c_law_rows m cdv A outer s H E hr) fun ds z h => runD_ok h
theorem sc_law_made : FnScope N_law_made ["_law_parts"] (defScope s_law_made) := ⟨rfl, rfl, rfl, by decide +kernel, rfl, by decide +kernel, by decide +kernel⟩
theorem B_law_made (T : Tp K mg) (c_Machine : CalI P w K mg base 2 .machine 3 g_Machine_init) (c_Step : CalI P w K mg base 1 .step 5 g_Step_init) (m : Nat) (cdv : Value) (A : Around) (outer : List PySem.Env) (s : Shared) (H : Hp) (E : XK) (hr : Room 3 (A.deeper (envOfC "_law_made" (defScope s_law_made) s.heap.objs.size f cdv))) : FB (cxOf CX0 P w K mg base N_law_made "_law_made" (defScope s_law_made) f cdv A outer s H E).nox (defBody s_law_made) (F_law_made m) :=
(fb_one (fs_ret (fe_make (c := .machine) c_Machine hr (by exact rfl) (fa_cons (fe_ix (fe_var 0 (pv 0)) fe_int plainIx) (fa_cons (fe_ix (fe_var 0 (pv 0)) fe_int plainIx) (fa_cons (fe_lc 1 rfl sc_law_made.nd (fi_list (fe_ix (fe_var 0 (pv 0)) fe_int plainIx)) (blkOk_by (own := [("_law_row", 1)]) (N := N_law_made) (sc := defScope s_law_made) (by decide +kernel)) (fun _ _ _ _ _ => pg_name (i := 1) sc_law_made.nd rfl (Or.inl rfl)) (fun _ _ _ _ _ => fpts_nil (X := _)) (fun _ _ _ _ _ => (fe_make (c := .step) c_Step hr (by exact rfl) (fa_cons (fe_ix (fe_var 1 (pv 1)) fe_int plainIx) (fa_cons (fe_ix (fe_var 1 (pv 1)) fe_int plainIx) (fa_cons (fe_ix (fe_var 1 (pv 1)) fe_int plainIx) (fa_cons (fe_ix (fe_var 1 (pv 1)) fe_int plainIx) (fa_cons (fe_ix (fe_var 1 (pv 1)) fe_int plainIx) fa_nil)))))))) fa_nil))))))
theorem ok_law_made (T : Tp K mg) (c_Machine : CalI P w K mg base 2 .machine 3 g_Machine_init) (c_Step : CalI P w K mg base 1 .step 5 g_Step_init) (F : FunD K d_law_made.name d_law_made.qual d_law_made.params d_law_made.body d_law_made.scope (d_law_made.dvs K) (d_law_made.kws K) f fd) : FnOk P w K mg base CX0 4 f fd ["_law_parts"] (spD ⟨P, w, K⟩ 1 g_law_made) :=
  fn_D (Fd := F_law_made) F sc_law_made (fun m cdv A outer s H E hr => B_law_made T c_Machine c_Step m cdv A outer s H E hr) fun ds z h => runD_ok h
theorem sc_law_configuration : FnScope N_law_configuration ["_law_number", "_law_states", "_law_letters", "_law_most"] (defScope s_law_configuration) := ⟨rfl, rfl, rfl, by decide +kernel, rfl, by decide +kernel, by decide +kernel⟩
theorem B_law_configuration (T : Tp K mg)  (m : Nat) (cdv : Value) (A : Around) (outer : List PySem.Env) (s : Shared) (H : Hp) (E : XK) (hr : Room 0 (A.deeper (envOfC "_law_configuration" (defScope s_law_configuration) s.heap.objs.size f cdv))) : FB (cxOf CX0 P w K mg base N_law_configuration "_law_configuration" (defScope s_law_configuration) f cdv A outer s H E).nox (defBody s_law_configuration) (F_law_configuration m) :=
(fb_cons (fs_newL 4 sc_law_configuration.nd fa_nil)
    (fb_cons (fs_set 5 sc_law_configuration.nd (fe_bin fo_div (fe_bin fo_div (fe_var 0 (pv 0)) fe_int) (fe_var 1 (pv 1))))
    (fb_cons (fs_for .never rfl (fi_range rfl T.b_range (fa_cons (fe_bin fo_mod (fe_bin fo_mod (fe_var 0 (pv 0)) fe_int) (fe_bin fo_add (fe_var 3 (pv 3)) fe_int)) fa_nil)) (fg_name 6 sc_law_configuration.nd)
    (fb_cons (fs_app (fp_var 4 (pv 4)) (fe_bin fo_mod (fe_var 5 (pv 5)) (fe_var 2 (pv 2))))
    (fb_cons (fs_set 5 sc_law_configuration.nd (fe_bin fo_add (fe_bin fo_div (fe_var 5 (pv 5)) (fe_var 2 (pv 2))) (fe_bin fo_mul fe_int (fe_var 6 (pv 6)))))
    (fb_fgt [6] fb_nil))))
    (fb_frz 4 (fb_one (fs_ret (fe_tup (fa_cons (fe_bin fo_mod (fe_bin fo_div (fe_var 0 (pv 0)) fe_int) (fe_var 1 (pv 1))) (fa_cons (fe_callTy fc_tuple rfl T.b_tuple (by decide +kernel) (fa_cons (fe_var 4 (pv 4)) fa_nil)) fa_nil)))))))))
theorem ok_law_configuration (T : Tp K mg)  (F : FunD K d_law_configuration.name d_law_configuration.qual d_law_configuration.params d_law_configuration.body d_law_configuration.scope (d_law_configuration.dvs K) (d_law_configuration.kws K) f fd) : FnOk P w K mg base CX0 1 f fd ["_law_number", "_law_states", "_law_letters", "_law_most"] (spD ⟨P, w, K⟩ 4 g_law_configuration) :=
  fn_D (Fd := F_law_configuration) F sc_law_configuration (fun m cdv A outer s H E hr => B_law_configuration T  m cdv A outer s H E hr) fun ds z h => runD_ok h
theorem sc_law_marks : FnScope N_law_marks ["_law_number", "_law_count"] (defScope s_law_marks) := ⟨rfl, rfl, rfl, by decide +kernel, rfl, by decide +kernel, by decide +kernel⟩
theorem B_law_marks (T : Tp K mg)  (m : Nat) (cdv : Value) (A : Around) (outer : List PySem.Env) (s : Shared) (H : Hp) (E : XK) (hr : Room 0 (A.deeper (envOfC "_law_marks" (defScope s_law_marks) s.heap.objs.size f cdv))) : FB (cxOf CX0 P w K mg base N_law_marks "_law_marks" (defScope s_law_marks) f cdv A outer s H E).nox (defBody s_law_marks) (F_law_marks m) :=
(fb_cons (fs_newL 2 sc_law_marks.nd fa_nil)
    (fb_cons (fs_for .never rfl (fi_range rfl T.b_range (fa_cons (fe_var 1 (pv 1)) fa_nil)) (fg_name 3 sc_law_marks.nd)
    (fb_cons (fs_if (ft_cmp fo_eqI (fe_bin fo_mod (fe_var 0 (pv 0)) fe_int) fe_int (nomark _))
    (fb_one (fs_app (fp_var 2 (pv 2)) (fe_var 3 (pv 3))))
    fb_nil)
    (fb_cons (fs_set 0 sc_law_marks.nd (fe_bin fo_div (fe_var 0 (pv 0)) fe_int))
    (fb_fgt [3] fb_nil))))
    (fb_frz 2 (fb_one (fs_ret (fe_callTy fc_tuple rfl T.b_tuple (by decide +kernel) (fa_cons (fe_var 2 (pv 2)) fa_nil)))))))
theorem ok_law_marks (T : Tp K mg)  (F : FunD K d_law_marks.name d_law_marks.qual d_law_marks.params d_law_marks.body d_law_marks.scope (d_law_marks.dvs K) (d_law_marks.kws K) f fd) : FnOk P w K mg base CX0 1 f fd ["_law_number", "_law_count"] (spD ⟨P, w, K⟩ 2 g_law_marks) :=
  fn_D (Fd := F_law_marks) F sc_law_marks (fun m cdv A outer s H E hr => B_law_marks T  m cdv A outer s H E hr) fun ds z h => runD_ok h
theorem sc_law_off_rows : FnScope N_law_off_rows ["_law_parts", "_law_marked", "_law_rows_here"] (defScope s_law_off_rows) := ⟨rfl, rfl, rfl, by decide +kernel, rfl, by decide +kernel, by decide +kernel⟩
theorem B_law_off_rows (T : Tp K mg)  (m : Nat) (cdv : Value) (A : Around) (outer : List PySem.Env) (s : Shared) (H : Hp) (E : XK) (hr : Room 0 (A.deeper (envOfC "_law_off_rows" (defScope s_law_off_rows) s.heap.objs.size f cdv))) : FB (cxOf CX0 P w K mg base N_law_off_rows "_law_off_rows" (defScope s_law_off_rows) f cdv A outer s H E).nox (defBody s_law_off_rows) (F_law_off_rows m) :=
(fb_cons (fs_newL 3 sc_law_off_rows.nd fa_nil)
    (fb_cons (fs_for .never rfl (fi_tup (fe_var 2 (pv 2))) (fg_name 4 sc_law_off_rows.nd)
    (fb_cons (fs_if (PW.pt (fw_or (ft_cmp fo_lt (fe_ix (fe_var 4 (pv 4)) fe_int plainIx) fe_int (nomark _)) (fw_or (ft_cmp fo_ge (fe_ix (fe_var 4 (pv 4)) fe_int plainIx) (fe_callB fc_len rfl T.b_len (by decide +kernel) (fa_cons (fe_ix (fe_var 0 (pv 0)) fe_int plainIx) fa_nil)) (nomark _)) (fw_or1 (ft_cmp fo_neI (fe_callB fc_len rfl T.b_len (by decide +kernel) (fa_cons (fe_ix (fe_var 4 (pv 4)) fe_int plainIx) fa_nil)) (fe_callB fc_len rfl T.b_len (by decide +kernel) (fa_cons (fe_ix (fe_ix (fe_ix (fe_var 0 (pv 0)) fe_int plainIx) (fe_ix (fe_var 4 (pv 4)) fe_int plainIx) plainIx) fe_int plainIx) fa_nil)) (nomark _))))))
    (fb_one (fs_ret fe_non))
    fb_nil)
    (fb_cons (fs_set 5 sc_law_off_rows.nd (fe_ix (fe_ix (fe_var 0 (pv 0)) fe_int plainIx) (fe_ix (fe_var 4 (pv 4)) fe_int plainIx) plainIx))
    (fb_cons (fs_set 6 sc_law_off_rows.nd (fe_ix (fe_var 5 (pv 5)) fe_int plainIx))
    (fb_cons (fs_set 7 sc_law_off_rows.nd (fe_cmp fo_inI (fe_ix (fe_var 4 (pv 4)) fe_int plainIx) (fe_var 1 (pv 1)) rfl))
    (fb_cons (fs_for .never rfl (fi_range rfl T.b_range (fa_cons (fe_callB fc_len rfl T.b_len (by decide +kernel) (fa_cons (fe_ix (fe_var 4 (pv 4)) fe_int plainIx) fa_nil)) fa_nil)) (fg_name 8 sc_law_off_rows.nd)
    (fb_cons (fs_if (PW.pt (fw_or (ft_cmp fo_lt (fe_ix (fe_ix (fe_var 4 (pv 4)) fe_int plainIx) (fe_var 8 (pv 8)) plainIx) fe_int (nomark _)) (fw_or1 (ft_cmp fo_ge (fe_ix (fe_ix (fe_var 4 (pv 4)) fe_int plainIx) (fe_var 8 (pv 8)) plainIx) (fe_plen (fp_var 3 (pv 3)) rfl T.b_len) (nomark _)))))
    (fb_one (fs_ret fe_non))
    fb_nil)
    (fb_cons (fs_set 9 sc_law_off_rows.nd (fe_pix (fp_var 3 (pv 3)) (fe_ix (fe_ix (fe_var 4 (pv 4)) fe_int plainIx) (fe_var 8 (pv 8)) plainIx) plainIx))
    (fb_cons (fs_if (PW.pt (fw_or (ft_cmp fo_neI (fe_ix (fe_var 9 (pv 9)) fe_int plainIx) (fe_var 6 (pv 6)) (nomark _)) (fw_or1 (ft_cmp fo_neI (fe_ix (fe_var 9 (pv 9)) fe_int plainIx) (fe_ix (fe_ix (fe_var 5 (pv 5)) fe_int plainIx) (fe_var 8 (pv 8)) plainIx) (nomark _)))))
    (fb_one (fs_ret fe_non))
    fb_nil)
    (fb_cons (fs_set 6 sc_law_off_rows.nd (fe_ix (fe_var 9 (pv 9)) fe_int plainIx))
    (fb_cons (fs_set 7 sc_law_off_rows.nd (fe_or (fe_var 7 (pv 7)) (fe_ix (fe_var 9 (pv 9)) fe_int plainIx)))
    (fb_fgt [8, 9] fb_nil)))))))
    (fb_cons (fs_app (fp_var 3 (pv 3)) (fe_tup (fa_cons (fe_ix (fe_var 5 (pv 5)) fe_int plainIx) (fa_cons (fe_ix (fe_var 5 (pv 5)) fe_int plainIx) (fa_cons (fe_var 6 (pv 6)) (fa_cons (fe_var 7 (pv 7)) fa_nil))))))
    (fb_fgt [4, 5, 6, 7, 8, 9] fb_nil))))))))
    (fb_frz 3 (fb_one (fs_ret (fe_var 3 (pv 3)))))))
theorem ok_law_off_rows (T : Tp K mg)  (F : FunD K d_law_off_rows.name d_law_off_rows.qual d_law_off_rows.params d_law_off_rows.body d_law_off_rows.scope (d_law_off_rows.dvs K) (d_law_off_rows.kws K) f fd) : FnOk P w K mg base CX0 1 f fd ["_law_parts", "_law_marked", "_law_rows_here"] (spD ⟨P, w, K⟩ 3 g_law_off_rows) :=
  fn_D (Fd := F_law_off_rows) F sc_law_off_rows (fun m cdv A outer s H E hr => B_law_off_rows T  m cdv A outer s H E hr) fun ds z h => runD_ok h
theorem sc_law_move : FnScope N_law_move ["_law_parts", "_law_marked", "_law_told_here", "_law_move_here"] (defScope s_law_move) := ⟨rfl, rfl, rfl, by decide +kernel, rfl, by decide +kernel, by decide +kernel⟩
theorem B_law_move (T : Tp K mg)  (m : Nat) (cdv : Value) (A : Around) (outer : List PySem.Env) (s : Shared) (H : Hp) (E : XK) (hr : Room 0 (A.deeper (envOfC "_law_move" (defScope s_law_move) s.heap.objs.size f cdv))) : FB (cxOf CX0 P w K mg base N_law_move "_law_move" (defScope s_law_move) f cdv A outer s H E).nox (defBody s_law_move) (F_law_move m) :=
(fb_cons (fs_if (PW.pt (fw_or (ft_cmp fo_lt (fe_ix (fe_var 3 (pv 3)) fe_int plainIx) fe_int (nomark _)) (fw_or1 (ft_cmp fo_ge (fe_ix (fe_var 3 (pv 3)) fe_int plainIx) (fe_callB fc_len rfl T.b_len (by decide +kernel) (fa_cons (fe_ix (fe_var 0 (pv 0)) fe_int plainIx) fa_nil)) (nomark _)))))
    (fb_one (fs_ret fe_non))
    fb_nil)
    (fb_cons (fs_set 4 sc_law_move.nd (fe_ix (fe_ix (fe_var 0 (pv 0)) fe_int plainIx) (fe_ix (fe_var 3 (pv 3)) fe_int plainIx) plainIx))
    (fb_cons (fs_set 5 sc_law_move.nd (fe_tup (fa_cons (fe_ix (fe_var 4 (pv 4)) fe_int plainIx) (fa_cons (fe_ix (fe_var 4 (pv 4)) fe_int plainIx) fa_nil))))
    (fb_cons (fs_if (ft_isN (fe_ix (fe_var 3 (pv 3)) fe_int plainIx))
    (fb_cons (fs_if (ft_cmp fo_eqI (fe_callB fc_len rfl T.b_len (by decide +kernel) (fa_cons (fe_ix (fe_var 4 (pv 4)) fe_int plainIx) fa_nil)) fe_int (nomark _))
    (fb_one (fs_ret fe_non))
    fb_nil)
    (fb_one (fs_ret (fe_lst (fa_cons (fe_var 5 (pv 5)) (fa_cons (fe_tup (fa_cons (fe_ix (fe_var 4 (pv 4)) fe_int plainIx) (fa_cons (fe_ix (fe_ix (fe_var 4 (pv 4)) fe_int plainIx) fe_int plainIx) fa_nil))) (fa_cons (fe_cmp fo_inI (fe_ix (fe_var 3 (pv 3)) fe_int plainIx) (fe_var 1 (pv 1)) rfl) fa_nil)))))))
    fb_nil)
    (fb_cons (fs_if (PW.pt (fw_or (ft_cmp fo_neI (fe_callB fc_len rfl T.b_len (by decide +kernel) (fa_cons (fe_ix (fe_var 4 (pv 4)) fe_int plainIx) fa_nil)) fe_int (nomark _)) (fw_or (ft_cmp fo_lt (fe_ix (fe_var 3 (pv 3)) fe_int plainIx) fe_int (nomark _)) (fw_or1 (ft_cmp fo_ge (fe_ix (fe_var 3 (pv 3)) fe_int plainIx) (fe_callB fc_len rfl T.b_len (by decide +kernel) (fa_cons (fe_var 2 (pv 2)) fa_nil)) (nomark _))))))
    (fb_one (fs_ret fe_non))
    fb_nil)
    (fb_cons (fs_set 6 sc_law_move.nd (fe_ix (fe_var 2 (pv 2)) (fe_ix (fe_var 3 (pv 3)) fe_int plainIx) plainIx))
    (fb_cons (fs_if (PW.pt (fw_or (ft_cmp fo_neI (fe_ix (fe_var 6 (pv 6)) fe_int plainIx) (fe_ix (fe_var 4 (pv 4)) fe_int plainIx) (nomark _)) (fw_or1 (ft_cmp fo_neI (fe_ix (fe_var 6 (pv 6)) fe_int plainIx) (fe_ix (fe_ix (fe_var 4 (pv 4)) fe_int plainIx) fe_int plainIx) (nomark _)))))
    (fb_one (fs_ret fe_non))
    fb_nil)
    (fb_one (fs_ret (fe_lst (fa_cons (fe_var 5 (pv 5)) (fa_cons (fe_tup (fa_cons (fe_ix (fe_var 6 (pv 6)) fe_int plainIx) (fa_cons (fe_ix (fe_ix (fe_var 4 (pv 4)) fe_int plainIx) fe_int plainIx) fa_nil))) (fa_cons (fe_or (fe_cmp fo_inI (fe_ix (fe_var 3 (pv 3)) fe_int plainIx) (fe_var 1 (pv 1)) rfl) (fe_ix (fe_var 6 (pv 6)) fe_int plainIx)) fa_nil)))))))))))))
theorem ok_law_move (T : Tp K mg)  (F : FunD K d_law_move.name d_law_move.qual d_law_move.params d_law_move.body d_law_move.scope (d_law_move.dvs K) (d_law_move.kws K) f fd) : FnOk P w K mg base CX0 1 f fd ["_law_parts", "_law_marked", "_law_told_here", "_law_move_here"] (spD ⟨P, w, K⟩ 4 g_law_move) :=
  fn_D (Fd := F_law_move) F sc_law_move (fun m cdv A outer s H E hr => B_law_move T  m cdv A outer s H E hr) fun ds z h => runD_ok h
theorem sc_law_descended : FnScope N_law_descended ["_law_told_here", "_law_configuration_here", "_law_descent"] (defScope s_law_descended) := ⟨rfl, rfl, rfl, by decide +kernel, rfl, by decide +kernel, by decide +kernel⟩
theorem B_law_descended (T : Tp K mg)  (m : Nat) (cdv : Value) (A : Around) (outer : List PySem.Env) (s : Shared) (H : Hp) (E : XK) (hr : Room 0 (A.deeper (envOfC "_law_descended" (defScope s_law_descended) s.heap.objs.size f cdv))) : FB (cxOf CX0 P w K mg base N_law_descended "_law_descended" (defScope s_law_descended) f cdv A outer s H E).nox (defBody s_law_descended) (F_law_descended m) :=
(fb_cons (fs_set 3 sc_law_descended.nd (fe_ix (fe_var 1 (pv 1)) fe_int plainIx))
    (fb_cons (fs_if (ft_cmp fo_ge (fe_callB fc_len rfl T.b_len (by decide +kernel) (fa_cons (fe_var 2 (pv 2)) fa_nil)) (fe_callB fc_len rfl T.b_len (by decide +kernel) (fa_cons (fe_ix (fe_var 1 (pv 1)) fe_int plainIx) fa_nil)) (nomark _))
    (fb_one (fs_ret fe_non))
    fb_nil)
    (fb_cons (fs_for .never rfl (fi_range rfl T.b_range (fa_cons (fe_callB fc_len rfl T.b_len (by decide +kernel) (fa_cons (fe_var 2 (pv 2)) fa_nil)) fa_nil)) (fg_name 4 sc_law_descended.nd)
    (fb_cons (fs_if (PW.pt (fw_or (ft_cmp fo_lt (fe_ix (fe_var 2 (pv 2)) (fe_var 4 (pv 4)) plainIx) fe_int (nomark _)) (fw_or1 (ft_cmp fo_ge (fe_ix (fe_var 2 (pv 2)) (fe_var 4 (pv 4)) plainIx) (fe_callB fc_len rfl T.b_len (by decide +kernel) (fa_cons (fe_var 0 (pv 0)) fa_nil)) (nomark _)))))
    (fb_one (fs_ret fe_non))
    fb_nil)
    (fb_cons (fs_set 5 sc_law_descended.nd (fe_ix (fe_var 0 (pv 0)) (fe_ix (fe_var 2 (pv 2)) (fe_var 4 (pv 4)) plainIx) plainIx))
    (fb_cons (fs_if (PW.pt (fw_or (ft_cmp fo_neI (fe_ix (fe_var 5 (pv 5)) fe_int plainIx) (fe_var 3 (pv 3)) (nomark _)) (fw_or1 (ft_cmp fo_neI (fe_ix (fe_var 5 (pv 5)) fe_int plainIx) (fe_ix (fe_ix (fe_var 1 (pv 1)) fe_int plainIx) (fe_var 4 (pv 4)) plainIx) (nomark _)))))
    (fb_one (fs_ret fe_non))
    fb_nil)
    (fb_cons (fs_set 3 sc_law_descended.nd (fe_ix (fe_var 5 (pv 5)) fe_int plainIx))
    (fb_fgt [4, 5] fb_nil))))))
    (fb_one (fs_ret (fe_tup (fa_cons (fe_var 3 (pv 3)) (fa_cons (fe_ix (fe_ix (fe_var 1 (pv 1)) fe_int plainIx) (fe_callB fc_len rfl T.b_len (by decide +kernel) (fa_cons (fe_var 2 (pv 2)) fa_nil)) plainIx) fa_nil))))))))
theorem ok_law_descended (T : Tp K mg)  (F : FunD K d_law_descended.name d_law_descended.qual d_law_descended.params d_law_descended.body d_law_descended.scope (d_law_descended.dvs K) (d_law_descended.kws K) f fd) : FnOk P w K mg base CX0 1 f fd ["_law_told_here", "_law_configuration_here", "_law_descent"] (spD ⟨P, w, K⟩ 3 g_law_descended) :=
  fn_D (Fd := F_law_descended) F sc_law_descended (fun m cdv A outer s H E hr => B_law_descended T  m cdv A outer s H E hr) fun ds z h => runD_ok h
theorem sc_law_ever_right : FnScope N_law_ever_right ["_law_parts", "_law_marked", "_law_configuration_here", "_law_paper"] (defScope s_law_ever_right) := ⟨rfl, rfl, rfl, by decide +kernel, rfl, by decide +kernel, by decide +kernel⟩
theorem B_law_ever_right (T : Tp K mg) (c_law_descended : Cal P w K mg base 1 "_law_descended" 3 g_law_descended) (c_law_move : Cal P w K mg base 1 "_law_move" 4 g_law_move) (c_law_off_rows : Cal P w K mg base 1 "_law_off_rows" 3 g_law_off_rows) (m : Nat) (cdv : Value) (A : Around) (outer : List PySem.Env) (s : Shared) (H : Hp) (E : XK) (hr : Room 1 (A.deeper (envOfC "_law_ever_right" (defScope s_law_ever_right) s.heap.objs.size f cdv))) : FB (cxOf CX0 P w K mg base N_law_ever_right "_law_ever_right" (defScope s_law_ever_right) f cdv A outer s H E).nox (defBody s_law_ever_right) (F_law_ever_right m) :=
(fb_cons (fs_if (PW.pt (fw_or (ft_cmp fo_neI (fe_callB fc_len rfl T.b_len (by decide +kernel) (fa_cons (fe_var 3 (pv 3)) fa_nil)) fe_int (nomark _)) (fw_or1 (ft_cmp fo_neS (fe_ix (fe_var 3 (pv 3)) fe_int plainIx) fe_str (nomark _)))))
    (fb_one (fs_ret fe_bl))
    fb_nil)
    (fb_cons (fs_set 4 sc_law_ever_right.nd (fe_callC c_law_off_rows hr rfl (fa_cons (fe_var 0 (pv 0)) (fa_cons (fe_var 1 (pv 1)) (fa_cons (fe_ix (fe_var 3 (pv 3)) fe_int plainIx) fa_nil)))))
    (fb_cons (fs_if (ft_isN (fe_var 4 (pv 4)))
    (fb_one (fs_ret fe_bl))
    fb_nil)
    (fb_cons (fs_set 5 sc_law_ever_right.nd (fe_callC c_law_descended hr rfl (fa_cons (fe_var 4 (pv 4)) (fa_cons (fe_var 2 (pv 2)) (fa_cons (fe_ix (fe_var 3 (pv 3)) fe_int plainIx) fa_nil)))))
    (fb_cons (fs_if (PW.pt (fw_or (ft_isN (fe_var 5 (pv 5))) (fw_or1 (ft_cmp fo_eqI (fe_callB fc_len rfl T.b_len (by decide +kernel) (fa_cons (fe_ix (fe_var 3 (pv 3)) fe_int plainIx) fa_nil)) fe_int (nomark _)))))
    (fb_one (fs_ret fe_bl))
    fb_nil)
    (fb_cons (fs_for .never rfl (fi_tup (fe_ix (fe_var 3 (pv 3)) fe_int plainIx)) (fg_name 6 sc_law_ever_right.nd)
    (fb_cons (fs_set 7 sc_law_ever_right.nd (fe_callC c_law_move hr rfl (fa_cons (fe_var 0 (pv 0)) (fa_cons (fe_var 1 (pv 1)) (fa_cons (fe_var 4 (pv 4)) (fa_cons (fe_var 6 (pv 6)) fa_nil))))))
    (fb_cons (fs_if (PW.pt (fw_or (ft_isN (fe_var 7 (pv 7))) (fw_or1 (ft_cmp (fo_neD hr.units) (fe_ix (fe_var 7 (pv 7)) fe_int plainIx) (fe_var 5 (pv 5)) (nomark _)))))
    (fb_one (fs_ret fe_bl))
    fb_nil)
    (fb_one (fs_set 5 sc_law_ever_right.nd (fe_ix (fe_var 7 (pv 7)) fe_int plainIx))))))
    (fb_cons (fs_set 8 sc_law_ever_right.nd (fe_var 5 (pv 5)))
    (fb_cons (fs_set 9 sc_law_ever_right.nd fe_bl)
    (fb_cons (fs_for .never rfl (fi_tup (fe_ix (fe_var 3 (pv 3)) fe_int plainIx)) (fg_name 6 sc_law_ever_right.nd)
    (fb_cons (fs_set 7 sc_law_ever_right.nd (fe_callC c_law_move hr rfl (fa_cons (fe_var 0 (pv 0)) (fa_cons (fe_var 1 (pv 1)) (fa_cons (fe_var 4 (pv 4)) (fa_cons (fe_var 6 (pv 6)) fa_nil))))))
    (fb_cons (fs_if (PW.pt (fw_or (ft_isN (fe_var 7 (pv 7))) (fw_or1 (ft_cmp (fo_neD hr.units) (fe_ix (fe_var 7 (pv 7)) fe_int plainIx) (fe_var 5 (pv 5)) (nomark _)))))
    (fb_one (fs_ret fe_bl))
    fb_nil)
    (fb_cons (fs_set 5 sc_law_ever_right.nd (fe_ix (fe_var 7 (pv 7)) fe_int plainIx))
    (fb_one (fs_set 9 sc_law_ever_right.nd (fe_or (fe_var 9 (pv 9)) (fe_ix (fe_var 7 (pv 7)) fe_int plainIx))))))))
    (fb_one (fs_ret (fe_and (fe_var 9 (pv 9)) (fe_cmp (fo_eqD hr.units) (fe_var 5 (pv 5)) (fe_var 8 (pv 8)) (nomark _))))))))))))))
theorem ok_law_ever_right (T : Tp K mg) (c_law_descended : Cal P w K mg base 1 "_law_descended" 3 g_law_descended) (c_law_move : Cal P w K mg base 1 "_law_move" 4 g_law_move) (c_law_off_rows : Cal P w K mg base 1 "_law_off_rows" 3 g_law_off_rows) (F : FunD K d_law_ever_right.name d_law_ever_right.qual d_law_ever_right.params d_law_ever_right.body d_law_ever_right.scope (d_law_ever_right.dvs K) (d_law_ever_right.kws K) f fd) : FnOk P w K mg base CX0 2 f fd ["_law_parts", "_law_marked", "_law_configuration_here", "_law_paper"] (spD ⟨P, w, K⟩ 4 g_law_ever_right) :=
  fn_D (Fd := F_law_ever_right) F sc_law_ever_right (fun m cdv A outer s H E hr => B_law_ever_right T c_law_descended c_law_move c_law_off_rows m cdv A outer s H E hr) fun ds z h => runD_ok h
theorem sc_law_table_is_closed : FnScope N_law_table_is_closed ["_law_parts", "_law_marked", "_law_table"] (defScope s_law_table_is_closed) := ⟨rfl, rfl, rfl, by decide +kernel, rfl, by decide +kernel, by decide +kernel⟩
theorem B_law_table_is_closed (T : Tp K mg)  (m : Nat) (cdv : Value) (A : Around) (outer : List PySem.Env) (s : Shared) (H : Hp) (E : XK) (hr : Room 0 (A.deeper (envOfC "_law_table_is_closed" (defScope s_law_table_is_closed) s.heap.objs.size f cdv))) : FB (cxOf CX0 P w K mg base N_law_table_is_closed "_law_table_is_closed" (defScope s_law_table_is_closed) f cdv A outer s H E).nox (defBody s_law_table_is_closed) (F_law_table_is_closed m) :=
(fb_cons (fs_for .never rfl (fi_range rfl T.b_range (fa_cons (fe_callB fc_len rfl T.b_len (by decide +kernel) (fa_cons (fe_ix (fe_var 0 (pv 0)) fe_int plainIx) fa_nil)) fa_nil)) (fg_name 3 sc_law_table_is_closed.nd)
    (fb_cons (fs_set 4 sc_law_table_is_closed.nd (fe_ix (fe_ix (fe_var 0 (pv 0)) fe_int plainIx) (fe_var 3 (pv 3)) plainIx))
    (fb_cons (fs_set 5 sc_law_table_is_closed.nd (fe_lst (fa_cons (fe_tup (fa_cons (fe_ix (fe_var 4 (pv 4)) fe_int plainIx) (fa_cons (fe_cmp fo_inI (fe_var 3 (pv 3)) (fe_var 1 (pv 1)) rfl) fa_nil))) fa_nil)))
    (fb_cons (fs_for .never rfl (fi_tup (fe_ix (fe_var 4 (pv 4)) fe_int plainIx)) (fg_name 6 sc_law_table_is_closed.nd)
    (fb_cons (fs_set 7 sc_law_table_is_closed.nd (fe_lst fa_nil))
    (fb_cons (fs_for .never rfl (fi_list (fe_var 5 (pv 5))) (fg_name 8 sc_law_table_is_closed.nd)
    (fb_cons (fs_setLc 10 9 rfl sc_law_table_is_closed.nd rfl rfl (sw_true rfl rfl rfl (by decide +kernel)) (fi_tup (fe_var 2 (pv 2))) (blkOk_by (own := [("_law_entry", 9)]) (N := N_law_table_is_closed) (sc := defScope s_law_table_is_closed) (by decide +kernel)) (fun _ _ _ _ _ => pg_name (i := 9) sc_law_table_is_closed.nd rfl (Or.inl rfl)) (fun _ _ _ _ _ => pts_one (ft_cmp (fo_eqD hr.units) (fe_to (i := 2) (fe_var 9 (pv 9))) (fe_tup (fa_cons (fe_ix (fe_var 8 (pv 8)) fe_int plainIx) (fa_cons (fe_var 6 (pv 6)) fa_nil))) (nomark _))) (fun _ _ _ _ _ => (fe_var 9 (pv 9))))
    (fb_cons (fs_set 7 sc_law_table_is_closed.nd (fe_bin fo_catL (fe_var 7 (pv 7)) (fe_lc 9 rfl sc_law_table_is_closed.nd (fi_list (fe_var 10 (pv 10))) (blkOk_by (own := [("_law_entry", 9)]) (N := N_law_table_is_closed) (sc := defScope s_law_table_is_closed) (by decide +kernel)) (fun _ _ _ _ _ => pg_name (i := 9) sc_law_table_is_closed.nd rfl (Or.inl rfl)) (fun _ _ _ _ _ => fpts_nil (X := _)) (fun _ _ _ _ _ => (fe_tup (fa_cons (fe_ix (fe_var 9 (pv 9)) fe_int plainIx) (fa_cons (fe_or (fe_ix (fe_var 8 (pv 8)) fe_int plainIx) (fe_ix (fe_var 9 (pv 9)) fe_int plainIx)) fa_nil)))))))
    (fb_fgt [10] fb_nil))))
    (fb_cons (fs_set 5 sc_law_table_is_closed.nd (fe_var 7 (pv 7)))
    (fb_fgt [6, 7, 10] fb_nil)))))
    (fb_cons (fs_for .never rfl (fi_list (fe_var 5 (pv 5))) (fg_name 8 sc_law_table_is_closed.nd)
    (fb_one (fs_if (ft_cmp (fo_notInT (units65 hr)) (fe_tup (fa_cons (fe_ix (fe_var 4 (pv 4)) fe_int plainIx) (fa_cons (fe_ix (fe_var 4 (pv 4)) fe_int plainIx) (fa_cons (fe_ix (fe_var 8 (pv 8)) fe_int plainIx) (fa_cons (fe_ix (fe_var 8 (pv 8)) fe_int plainIx) fa_nil))))) (fe_var 2 (pv 2)) rfl)
    (fb_one (fs_ret fe_bl))
    fb_nil)))
    (fb_fgt [3, 4, 5, 6, 7, 8, 10] fb_nil))))))
    (fb_one (fs_ret fe_bl)))
theorem ok_law_table_is_closed (T : Tp K mg)  (F : FunD K d_law_table_is_closed.name d_law_table_is_closed.qual d_law_table_is_closed.params d_law_table_is_closed.body d_law_table_is_closed.scope (d_law_table_is_closed.dvs K) (d_law_table_is_closed.kws K) f fd) : FnOk P w K mg base CX0 1 f fd ["_law_parts", "_law_marked", "_law_table"] (spD ⟨P, w, K⟩ 3 g_law_table_is_closed) :=
  fn_D (Fd := F_law_table_is_closed) F sc_law_table_is_closed (fun m cdv A outer s H E hr => B_law_table_is_closed T  m cdv A outer s H E hr) fun ds z h => runD_ok h
theorem sc_law_head_edges : FnScope N_law_head_edges ["_law_parts", "_law_marked", "_law_table"] (defScope s_law_head_edges) := ⟨rfl, rfl, rfl, by decide +kernel, rfl, by decide +kernel, by decide +kernel⟩
theorem B_law_head_edges (T : Tp K mg)  (m : Nat) (cdv : Value) (A : Around) (outer : List PySem.Env) (s : Shared) (H : Hp) (E : XK) (hr : Room 0 (A.deeper (envOfC "_law_head_edges" (defScope s_law_head_edges) s.heap.objs.size f cdv))) : FB (cxOf CX0 P w K mg base N_law_head_edges "_law_head_edges" (defScope s_law_head_edges) f cdv A outer s H E).nox (defBody s_law_head_edges) (F_law_head_edges m) :=
(fb_cons (fs_newL 3 sc_law_head_edges.nd fa_nil)
    (fb_cons (fs_for .never rfl (fi_range rfl T.b_range (fa_cons (fe_callB fc_len rfl T.b_len (by decide +kernel) (fa_cons (fe_ix (fe_var 0 (pv 0)) fe_int plainIx) fa_nil)) fa_nil)) (fg_name 4 sc_law_head_edges.nd)
    (fb_cons (fs_set 5 sc_law_head_edges.nd (fe_ix (fe_ix (fe_var 0 (pv 0)) fe_int plainIx) (fe_var 4 (pv 4)) plainIx))
    (fb_cons (fs_if (ft_cmp fo_gt (fe_callB fc_len rfl T.b_len (by decide +kernel) (fa_cons (fe_ix (fe_var 5 (pv 5)) fe_int plainIx) fa_nil)) fe_int (nomark _))
    (fb_one (fs_app (fp_var 3 (pv 3)) (fe_tup (fa_cons (fe_tup (fa_cons (fe_ix (fe_var 5 (pv 5)) fe_int plainIx) (fa_cons (fe_ix (fe_var 5 (pv 5)) fe_int plainIx) fa_nil))) (fa_cons (fe_tup (fa_cons (fe_ix (fe_var 5 (pv 5)) fe_int plainIx) (fa_cons (fe_ix (fe_ix (fe_var 5 (pv 5)) fe_int plainIx) fe_int plainIx) fa_nil))) (fa_cons (fe_cmp fo_inI (fe_var 4 (pv 4)) (fe_var 1 (pv 1)) rfl) fa_nil))))))
    fb_nil)
    (fb_cons (fs_if (ft_cmp fo_eqI (fe_callB fc_len rfl T.b_len (by decide +kernel) (fa_cons (fe_ix (fe_var 5 (pv 5)) fe_int plainIx) fa_nil)) fe_int (nomark _))
    (fb_one (fs_for .never rfl (fi_tup (fe_var 2 (pv 2))) (fg_name 6 sc_law_head_edges.nd)
    (fb_cons (fs_if (ft_cmp (fo_eqD hr.units) (fe_to (i := 2) (fe_var 6 (pv 6))) (fe_tup (fa_cons (fe_ix (fe_var 5 (pv 5)) fe_int plainIx) (fa_cons (fe_ix (fe_ix (fe_var 5 (pv 5)) fe_int plainIx) fe_int plainIx) fa_nil))) (nomark _))
    (fb_one (fs_app (fp_var 3 (pv 3)) (fe_tup (fa_cons (fe_tup (fa_cons (fe_ix (fe_var 5 (pv 5)) fe_int plainIx) (fa_cons (fe_ix (fe_var 5 (pv 5)) fe_int plainIx) fa_nil))) (fa_cons (fe_tup (fa_cons (fe_ix (fe_var 6 (pv 6)) fe_int plainIx) (fa_cons (fe_ix (fe_ix (fe_var 5 (pv 5)) fe_int plainIx) fe_int plainIx) fa_nil))) (fa_cons (fe_or (fe_cmp fo_inI (fe_var 4 (pv 4)) (fe_var 1 (pv 1)) rfl) (fe_ix (fe_var 6 (pv 6)) fe_int plainIx)) fa_nil))))))
    fb_nil)
    (fb_fgt [6] fb_nil))))
    fb_nil)
    (fb_fgt [4, 5, 6] fb_nil)))))
    (fb_frz 3 (fb_one (fs_ret (fe_var 3 (pv 3)))))))
theorem ok_law_head_edges (T : Tp K mg)  (F : FunD K d_law_head_edges.name d_law_head_edges.qual d_law_head_edges.params d_law_head_edges.body d_law_head_edges.scope (d_law_head_edges.dvs K) (d_law_head_edges.kws K) f fd) : FnOk P w K mg base CX0 1 f fd ["_law_parts", "_law_marked", "_law_table"] (spD ⟨P, w, K⟩ 3 g_law_head_edges) :=
  fn_D (Fd := F_law_head_edges) F sc_law_head_edges (fun m cdv A outer s H E hr => B_law_head_edges T  m cdv A outer s H E hr) fun ds z h => runD_ok h
theorem sc_law_not_right : FnScope N_law_not_right ["_law_parts", "_law_marked", "_law_configuration_here", "_law_paper"] (defScope s_law_not_right) := ⟨rfl, rfl, rfl, by decide +kernel, rfl, by decide +kernel, by decide +kernel⟩
theorem B_law_not_right (T : Tp K mg) (c_law_head_edges : Cal P w K mg base 1 "_law_head_edges" 3 g_law_head_edges) (c_law_table_is_closed : Cal P w K mg base 1 "_law_table_is_closed" 3 g_law_table_is_closed) (m : Nat) (cdv : Value) (A : Around) (outer : List PySem.Env) (s : Shared) (H : Hp) (E : XK) (hr : Room 1 (A.deeper (envOfC "_law_not_right" (defScope s_law_not_right) s.heap.objs.size f cdv))) : FB (cxOf CX0 P w K mg base N_law_not_right "_law_not_right" (defScope s_law_not_right) f cdv A outer s H E).nox (defBody s_law_not_right) (F_law_not_right m) :=
(fb_cons (fs_if (PW.pt (fw_or (ft_cmp fo_neI (fe_callB fc_len rfl T.b_len (by decide +kernel) (fa_cons (fe_var 3 (pv 3)) fa_nil)) fe_int (nomark _)) (fw_or (ft_cmp fo_neS (fe_ix (fe_var 3 (pv 3)) fe_int plainIx) fe_str (nomark _)) (fw_or1 (ft_not (ft_val (fe_callC c_law_table_is_closed hr rfl (fa_cons (fe_var 0 (pv 0)) (fa_cons (fe_var 1 (pv 1)) (fa_cons (fe_ix (fe_var 3 (pv 3)) fe_int plainIx) fa_nil))))))))))
    (fb_one (fs_ret fe_bl))
    fb_nil)
    (fb_cons (fs_newDT .t 4 sc_law_not_right.nd)
    (fb_cons (fs_set 5 sc_law_not_right.nd (fe_tup (fa_cons fe_negc (fa_cons fe_int fa_nil))))
    (fb_cons (fs_for .never rfl (fi_tup (fe_ix (fe_var 3 (pv 3)) fe_int plainIx)) (fg_name 6 sc_law_not_right.nd)
    (fb_cons (fs_if (PW.pt (fw_or (ft_cmp (fo_leT (units0 hr)) (fe_ix (fe_var 6 (pv 6)) fe_int plainIx) (fe_var 5 (pv 5)) (nomark _)) (fw_or1 (ft_cmp fo_lt (fe_ix (fe_var 6 (pv 6)) fe_int plainIx) fe_int (nomark _)))))
    (fb_one (fs_ret fe_bl))
    fb_nil)
    (fb_cons (fs_set 5 sc_law_not_right.nd (fe_ix (fe_var 6 (pv 6)) fe_int plainIx))
    (fb_cons (fs_putK (hu_of hr) (fp_var 4 (pv 4)) (fe_ix (fe_var 6 (pv 6)) fe_int plainIx) (fe_ix (fe_var 6 (pv 6)) fe_int plainIx))
    (fb_fgt [6] fb_nil)))))
    (fb_cons (fs_set 7 sc_law_not_right.nd (fe_lst (fa_cons (fe_ix (fe_var 2 (pv 2)) fe_int plainIx) fa_nil)))
    (fb_cons (fs_for .never rfl (fi_tup (fe_ix (fe_var 2 (pv 2)) fe_int plainIx)) (fg_name 8 sc_law_not_right.nd)
    (fb_cons (fs_for .never rfl (fi_list (fe_var 7 (pv 7))) (fg_name 9 sc_law_not_right.nd)
    (fb_cons (fs_if (ft_pnotInK (hu_of hr) (fe_tup (fa_cons (fe_var 9 (pv 9)) (fa_cons (fe_var 8 (pv 8)) fa_nil))) (fp_var 4 (pv 4)))
    (fb_one (fs_ret fe_bl))
    fb_nil)
    (fb_fgt [9] fb_nil)))
    (fb_cons (fs_set 7 sc_law_not_right.nd (fe_lc 10 rfl sc_law_not_right.nd (fi_tup (fe_ix (fe_var 3 (pv 3)) fe_int plainIx)) (blkOk_by (own := [("_law_entry", 10)]) (N := N_law_not_right) (sc := defScope s_law_not_right) (by decide +kernel)) (fun _ _ _ _ _ => pg_name (i := 10) sc_law_not_right.nd rfl (Or.inl rfl)) (fun _ _ _ _ _ => pts_one (PW.pt (fw_and (ft_cmp fo_inI (fe_ix (fe_var 10 (pv 10)) fe_int plainIx) (fe_var 7 (pv 7)) rfl) (fw_and1 (ft_cmp fo_eqI (fe_ix (fe_var 10 (pv 10)) fe_int plainIx) (fe_var 8 (pv 8)) (nomark _)))))) (fun _ _ _ _ _ => (fe_ix (fe_var 10 (pv 10)) fe_int plainIx))))
    (fb_fgt [8, 9] fb_nil))))
    (fb_cons (fs_for .never rfl (fi_list (fe_callC c_law_head_edges hr rfl (fa_cons (fe_var 0 (pv 0)) (fa_cons (fe_var 1 (pv 1)) (fa_cons (fe_ix (fe_var 3 (pv 3)) fe_int plainIx) fa_nil))))) (fg_name 11 sc_law_not_right.nd)
    (fb_cons (fs_if (ft_pinK (hu_of hr) (fe_ix (fe_var 11 (pv 11)) fe_int plainIx) (fp_var 4 (pv 4)))
    (fb_one (fs_if (PW.pt (fw_or (ft_pnotInK (hu_of hr) (fe_ix (fe_var 11 (pv 11)) fe_int plainIx) (fp_var 4 (pv 4))) (fw_or1 (ft_cmp fo_gt (fe_bin fo_add (fe_pgetK (hu_of hr) (fp_var 4 (pv 4)) (fe_ix (fe_var 11 (pv 11)) fe_int plainIx)) (fe_callTy fc_int rfl T.b_int (by decide +kernel) (fa_cons (fe_ix (fe_var 11 (pv 11)) fe_int plainIx) fa_nil))) (fe_pgetK (hu_of hr) (fp_var 4 (pv 4)) (fe_ix (fe_var 11 (pv 11)) fe_int plainIx)) (nomark _)))))
    (fb_one (fs_ret fe_bl))
    fb_nil))
    fb_nil)
    (fb_fgt [11] fb_nil)))
    (fb_one (fs_ret fe_bl)))))))))
theorem ok_law_not_right (T : Tp K mg) (c_law_head_edges : Cal P w K mg base 1 "_law_head_edges" 3 g_law_head_edges) (c_law_table_is_closed : Cal P w K mg base 1 "_law_table_is_closed" 3 g_law_table_is_closed) (F : FunD K d_law_not_right.name d_law_not_right.qual d_law_not_right.params d_law_not_right.body d_law_not_right.scope (d_law_not_right.dvs K) (d_law_not_right.kws K) f fd) : FnOk P w K mg base CX0 2 f fd ["_law_parts", "_law_marked", "_law_configuration_here", "_law_paper"] (spD ⟨P, w, K⟩ 4 g_law_not_right) :=
  fn_D (Fd := F_law_not_right) F sc_law_not_right (fun m cdv A outer s H E hr => B_law_not_right T c_law_head_edges c_law_table_is_closed m cdv A outer s H E hr) fun ds z h => runD_ok h
theorem sc_law_told : FnScope N_law_told ["_law_paper"] (defScope s_law_told) := ⟨rfl, rfl, rfl, by decide +kernel, rfl, by decide +kernel, by decide +kernel⟩
theorem B_law_told (T : Tp K mg)  (m : Nat) (cdv : Value) (A : Around) (outer : List PySem.Env) (s : Shared) (H : Hp) (E : XK) (hr : Room 0 (A.deeper (envOfC "_law_told" (defScope s_law_told) s.heap.objs.size f cdv))) : FB (cxOf CX0 P w K mg base N_law_told "_law_told" (defScope s_law_told) f cdv A outer s H E).nox (defBody s_law_told) (F_law_told m) :=
(fb_cons (fs_if (ft_cmp fo_eqS (fe_ix (fe_var 0 (pv 0)) fe_int plainIx) fe_str (nomark _))
    (fb_cons (fs_set 2 sc_law_told.nd (fe_callTy fc_tuple rfl T.b_tuple (by decide +kernel) (fa_cons (fe_lc 1 rfl sc_law_told.nd (fi_tup (fe_ix (fe_var 0 (pv 0)) fe_int plainIx)) (blkOk_by (own := [("_law_entry", 1)]) (N := N_law_told) (sc := defScope s_law_told) (by decide +kernel)) (fun _ _ _ _ _ => pg_name (i := 1) sc_law_told.nd rfl (Or.inl rfl)) (fun _ _ _ _ _ => fpts_nil (X := _)) (fun _ _ _ _ _ => (fe_tup (fa_cons (fe_ix (fe_var 1 (pv 1)) fe_int plainIx) (fa_cons (fe_ix (fe_var 1 (pv 1)) fe_int plainIx) (fa_cons (fe_ix (fe_var 1 (pv 1)) fe_int plainIx) (fa_cons (fe_callTy fc_bool rfl T.b_bool (by decide +kernel) (fa_cons (fe_ix (fe_var 1 (pv 1)) fe_int plainIx) fa_nil)) fa_nil))))))) fa_nil)))
    (fb_one (fs_ret (fe_tup (fa_cons fe_str (fa_cons (fe_var 2 (pv 2)) (fa_cons (fe_callTy fc_tuple rfl T.b_tuple (by decide +kernel) (fa_cons (fe_lc 3 rfl sc_law_told.nd (fi_tup (fe_ix (fe_var 0 (pv 0)) fe_int plainIx)) (blkOk_by (own := [("_law_pair", 3)]) (N := N_law_told) (sc := defScope s_law_told) (by decide +kernel)) (fun _ _ _ _ _ => pg_name (i := 3) sc_law_told.nd rfl (Or.inl rfl)) (fun _ _ _ _ _ => fpts_nil (X := _)) (fun _ _ _ _ _ => (fe_tup (fa_cons (fe_callTy fc_tuple rfl T.b_tuple (by decide +kernel) (fa_cons (fe_ix (fe_var 3 (pv 3)) fe_int plainIx) fa_nil)) (fa_cons (fe_ix (fe_var 3 (pv 3)) fe_int plainIx) fa_nil))))) fa_nil)) fa_nil)))))))
    fb_nil)
    (fb_cons (fs_set 5 sc_law_told.nd (fe_callTy fc_tuple rfl T.b_tuple (by decide +kernel) (fa_cons (fe_lc 4 rfl sc_law_told.nd (fi_tup (fe_ix (fe_var 0 (pv 0)) fe_int plainIx)) (blkOk_by (own := [("_law_row", 4)]) (N := N_law_told) (sc := defScope s_law_told) (by decide +kernel)) (fun _ _ _ _ _ => pg_name (i := 4) sc_law_told.nd rfl (Or.inl rfl)) (fun _ _ _ _ _ => fpts_nil (X := _)) (fun _ _ _ _ _ => (fe_tup (fa_cons (fe_ix (fe_var 4 (pv 4)) fe_int plainIx) (fa_cons (fe_callTy fc_tuple rfl T.b_tuple (by decide +kernel) (fa_cons (fe_ix (fe_var 4 (pv 4)) fe_int plainIx) fa_nil)) fa_nil))))) fa_nil)))
    (fb_cons (fs_setLc 8 6 rfl sc_law_told.nd rfl rfl (sw_true rfl rfl rfl (by decide +kernel)) (fi_tup (fe_from (i := 3) (fe_var 0 (pv 0)))) (blkOk_by (own := [("_law_part", 6)]) (N := N_law_told) (sc := defScope s_law_told) (by decide +kernel)) (fun _ _ _ _ _ => pg_name (i := 6) sc_law_told.nd rfl (Or.inl rfl)) (fun _ _ _ _ _ => fpts_nil (X := _)) (fun _ _ _ _ _ => (fe_callTy fc_tuple rfl T.b_tuple (by decide +kernel) (fa_cons (fe_lc 7 rfl sc_law_told.nd (fi_tup (fe_var 6 (pv 6))) (blkOk_by (own := [("_law_move_here", 7)]) (N := N_law_told) (sc := _) (by kernel_rfl)) (fun _ _ _ _ _ => pg_name (i := 7) sc_law_told.nd rfl (Or.inl rfl)) (fun _ _ _ _ _ => fpts_nil (X := _)) (fun _ _ _ _ _ => (fe_tup (fa_cons (fe_ix (fe_var 7 (pv 7)) fe_int plainIx) (fa_cons (fe_ix (fe_var 7 (pv 7)) fe_int plainIx) fa_nil))))) fa_nil))))
    (fb_one (fs_ret (fe_tup (fa_cons fe_str (fa_cons (fe_var 5 (pv 5)) (fa_cons (fe_callTy fc_tuple rfl T.b_tuple (by decide +kernel) (fa_cons (fe_ix (fe_var 0 (pv 0)) fe_int plainIx) fa_nil)) (fa_cons (fe_ix (fe_var 8 (pv 8)) fe_int plainIx) (fa_cons (fe_ix (fe_var 8 (pv 8)) fe_int plainIx) fa_nil)))))))))))
theorem ok_law_told (T : Tp K mg)  (F : FunD K d_law_told.name d_law_told.qual d_law_told.params d_law_told.body d_law_told.scope (d_law_told.dvs K) (d_law_told.kws K) f fd) : FnOk P w K mg base CX0 1 f fd ["_law_paper"] (spD ⟨P, w, K⟩ 1 g_law_told) :=
  fn_D (Fd := F_law_told) F sc_law_told (fun m cdv A outer s H E hr => B_law_told T  m cdv A outer s H E hr) fun ds z h => runD_ok h
theorem sc_law : FnScope N_law ["_law_script"] (defScope s_law) := ⟨rfl, rfl, rfl, by decide +kernel, rfl, by decide +kernel, by decide +kernel⟩
theorem B_law (T : Tp K mg) (c_law_configuration : Cal P w K mg base 1 "_law_configuration" 4 g_law_configuration) (c_law_ever_right : Cal P w K mg base 2 "_law_ever_right" 4 g_law_ever_right) (c_law_machine : Cal P w K mg base 2 "_law_machine" 2 g_law_machine) (c_law_made : Cal P w K mg base 4 "_law_made" 1 g_law_made) (c_law_marks : Cal P w K mg base 1 "_law_marks" 2 g_law_marks) (c_law_not_right : Cal P w K mg base 2 "_law_not_right" 4 g_law_not_right) (c_law_numbers : Cal P w K mg base 1 "_law_numbers" 2 g_law_numbers) (c_law_told : Cal P w K mg base 1 "_law_told" 1 g_law_told) (c_endless : Cal P w K mg base 5 "endless" 3 g_endless) (m : Nat) (cdv : Value) (A : Around) (outer : List PySem.Env) (s : Shared) (H : Hp) (E : XK) (hr : Room 5 (A.deeper (envOfC "law" (defScope s_law) s.heap.objs.size f cdv))) (hgd : (A.deeper (envOfC "law" (defScope s_law) s.heap.objs.size f cdv)).guards = some []) : FB (cxOf CX0 P w K mg base N_law "law" (defScope s_law) f cdv A outer s H E).nox (defBody s_law) (F_law m) :=
(fb_cons (fs_set 1 sc_law.nd (fe_callC c_law_numbers hr rfl (fa_cons (fe_var 0 (pv 0)) (fa_cons fe_int fa_nil))))
    (fb_cons (fs_set 2 sc_law.nd (fe_callC c_law_machine hr rfl (fa_cons (fe_var 1 (pv 1)) (fa_cons fe_int fa_nil))))
    (fb_cons (fs_set 3 sc_law.nd (fe_callC c_law_marks hr rfl (fa_cons (fe_ix (fe_var 1 (pv 1)) fe_int plainIx) (fa_cons (fe_callB fc_len rfl T.b_len (by decide +kernel) (fa_cons (fe_ix (fe_var 2 (pv 2)) fe_int plainIx) fa_nil)) fa_nil))))
    (fb_cons (fs_set 4 sc_law.nd (fe_callC c_law_configuration hr rfl (fa_cons (fe_ix (fe_var 1 (pv 1)) fe_int plainIx) (fa_cons (fe_ix (fe_var 2 (pv 2)) fe_int plainIx) (fa_cons (fe_ix (fe_var 2 (pv 2)) fe_int plainIx) (fa_cons fe_int fa_nil))))))
    (fb_cons (fs_set 5 sc_law.nd (fe_callC c_endless hr rfl (fa_cons (fe_callC c_law_made hr rfl (fa_cons (fe_var 2 (pv 2)) fa_nil)) (fa_cons (fe_var 3 (pv 3)) (fa_cons (fe_var 4 (pv 4)) fa_nil)))))
    (fb_cons (fs_if (PW.pt (fw_or (ft_not (ft_val (fe_isTup (fe_var 5 (pv 5)) rfl T.b_isinstance rfl T.b_tuple))) (fw_or (ft_cmp fo_neI (fe_callB fc_len rfl T.b_len (by decide +kernel) (fa_cons (fe_var 5 (pv 5)) fa_nil)) fe_int (nomark _)) (fw_or (ft_not (ft_val (fe_isBl (fe_ix (fe_var 5 (pv 5)) fe_int plainIx) rfl T.b_isinstance rfl T.b_bool))) (fw_or1 (ft_not (ft_val (fe_isTup (fe_ix (fe_var 5 (pv 5)) fe_int plainIx) rfl T.b_isinstance rfl T.b_tuple))))))))
    (fb_one (fs_ret fe_bl))
    fb_nil)
    (fb_cons (fs_if (ft_cmp (fo_neD hr.units) (fe_callC c_endless hr rfl (fa_cons (fe_callC c_law_made hr rfl (fa_cons (fe_var 2 (pv 2)) fa_nil)) (fa_cons (fe_var 3 (pv 3)) (fa_cons (fe_var 4 (pv 4)) fa_nil)))) (fe_var 5 (pv 5)) (nomark _))
    (fb_one (fs_ret fe_bl))
    fb_nil)
    (fb_cons (fs_if (ft_val (fe_ix (fe_var 5 (pv 5)) fe_int plainIx))
    (fb_one (fs_set 6 sc_law.nd (fe_callC c_law_ever_right hr rfl (fa_cons (fe_var 2 (pv 2)) (fa_cons (fe_var 3 (pv 3)) (fa_cons (fe_var 4 (pv 4)) (fa_cons (fe_ix (fe_var 5 (pv 5)) fe_int plainIx) fa_nil)))))))
    (fb_cons (fs_set 6 sc_law.nd (fe_callC c_law_not_right hr rfl (fa_cons (fe_var 2 (pv 2)) (fa_cons (fe_var 3 (pv 3)) (fa_cons (fe_var 4 (pv 4)) (fa_cons (fe_ix (fe_var 5 (pv 5)) fe_int plainIx) fa_nil))))))
    (fb_cons (fs_set 9 sc_law.nd (fe_bin fo_catL (fe_lc 7 rfl sc_law.nd (fi_tup (fe_ix (fe_ix (fe_var 5 (pv 5)) fe_int plainIx) fe_int plainIx)) (blkOk_by (own := [("_law_row", 7)]) (N := N_law) (sc := defScope s_law) (by decide +kernel)) (fun _ _ _ _ _ => pg_name (i := 7) sc_law.nd rfl (Or.inl rfl)) (fun _ _ _ _ _ => fpts_nil (X := _)) (fun _ _ _ _ _ => (fe_tup (fa_cons (fe_ix (fe_var 7 (pv 7)) fe_int plainIx) (fa_cons (fe_ix (fe_var 7 (pv 7)) fe_int plainIx) (fa_cons (fe_ix (fe_var 7 (pv 7)) fe_int plainIx) fa_nil)))))) (fe_lc 8 rfl sc_law.nd (fi_tup (fe_ix (fe_ix (fe_var 5 (pv 5)) fe_int plainIx) fe_int plainIx)) (blkOk_by (own := [("_law_pair", 8)]) (N := N_law) (sc := defScope s_law) (by decide +kernel)) (fun _ _ _ _ _ => pg_name (i := 8) sc_law.nd rfl (Or.inl rfl)) (fun _ _ _ _ _ => fpts_nil (X := _)) (fun _ _ _ _ _ => (fe_tup (fa_cons (fe_ix (fe_ix (fe_var 8 (pv 8)) fe_int plainIx) fe_int plainIx) (fa_cons (fe_ix (fe_ix (fe_var 8 (pv 8)) fe_int plainIx) fe_int plainIx) (fa_cons fe_int fa_nil))))))))
    (fb_one (fs_for .never rfl (fi_list (fe_var 9 (pv 9))) (fg_name 7 sc_law.nd)
    (fb_one (fs_if (PW.pt (fw_or (ft_not (ft_leLt fe_int (fe_ix (fe_var 7 (pv 7)) fe_int plainIx) (fe_ix (fe_var 2 (pv 2)) fe_int plainIx))) (fw_or (ft_not (ft_leLt fe_int (fe_ix (fe_var 7 (pv 7)) fe_int plainIx) (fe_ix (fe_var 2 (pv 2)) fe_int plainIx))) (fw_or1 (ft_not (ft_leLt fe_int (fe_ix (fe_var 7 (pv 7)) fe_int plainIx) (fe_ix (fe_var 2 (pv 2)) fe_int plainIx)))))))
    (fb_one (fs_ret fe_bl))
    fb_nil)))))))
    (fb_one (fs_ret (fe_and (fe_var 6 (pv 6)) (fe_cmp fo_eqS (fe_callB (fc_repr hr hgd) rfl T.b_repr (by decide +kernel) (fa_cons (fe_ix (fe_var 5 (pv 5)) fe_int plainIx) fa_nil)) (fe_callB (fc_repr hr hgd) rfl T.b_repr (by decide +kernel) (fa_cons (fe_callC c_law_told hr rfl (fa_cons (fe_ix (fe_var 5 (pv 5)) fe_int plainIx) fa_nil)) fa_nil)) (nomark _)))))))))))))
end DL
end

section
set_option Elab.async false
set_option linter.all false
set_option maxRecDepth 100000
set_option maxHeartbeats 4000000
namespace DL
open PySem PySem.Spec PyProof.Rows L2 He PR
variable {P : Program} {w : World} {K : PySem.W.Frag} {mg : PySem.Str → Option Value} {base : Heap}
theorem nil_of {ds : List Value} {a b : V} (h : Vals ([a, b].drop 2) ds) : ds = [] := by cases h; rfl

theorem tx_of (c : SaysD faL fnL K) : TxC K := by
  refine ⟨fun cc => ?_, fun cc f hf => ?_⟩
  · cases cc
    · exact cls_ok (c.fact 1 (f := .cls "Step") rfl)
    · exact cls_ok (c.fact 9 (f := .cls "Machine") rfl)
    · exact cls_ok (c.fact 15 (f := .cls "TakeOff") rfl)
    · exact cls_ok (c.fact 24 (f := .cls "Heads") rfl)
    · exact cls_ok (c.fact 31 (f := .cls "Rows") rfl)
  · cases cc
    · have hf : f ∈ (["state", "letter", "goal", "laid", "weight"] : List PySem.Str) := hf
      simp only [List.mem_cons, List.not_mem_nil, or_false] at hf
      rcases hf with rfl | rfl | rfl | rfl | rfl
      · exact noat_ok (c.fact 3 (f := .noat "Step" "state") rfl)
      · exact noat_ok (c.fact 4 (f := .noat "Step" "letter") rfl)
      · exact noat_ok (c.fact 5 (f := .noat "Step" "goal") rfl)
      · exact noat_ok (c.fact 6 (f := .noat "Step" "laid") rfl)
      · exact noat_ok (c.fact 7 (f := .noat "Step" "weight") rfl)
    · have hf : f ∈ (["states", "letters", "steps"] : List PySem.Str) := hf
      simp only [List.mem_cons, List.not_mem_nil, or_false] at hf
      rcases hf with rfl | rfl | rfl
      · exact noat_ok (c.fact 11 (f := .noat "Machine" "states") rfl)
      · exact noat_ok (c.fact 12 (f := .noat "Machine" "letters") rfl)
      · exact noat_ok (c.fact 13 (f := .noat "Machine" "steps") rfl)
    · have hf : f ∈ (["machine", "marked", "found", "leaving"] : List PySem.Str) := hf
      simp only [List.mem_cons, List.not_mem_nil, or_false] at hf
      rcases hf with rfl | rfl | rfl | rfl
      · exact noat_ok (c.fact 17 (f := .noat "TakeOff" "machine") rfl)
      · exact noat_ok (c.fact 18 (f := .noat "TakeOff" "marked") rfl)
      · exact noat_ok (c.fact 19 (f := .noat "TakeOff" "found") rfl)
      · exact noat_ok (c.fact 20 (f := .noat "TakeOff" "leaving") rfl)
    · have hf : f ∈ (["moves"] : List PySem.Str) := hf
      simp only [List.mem_cons, List.not_mem_nil, or_false] at hf
      rcases hf with rfl
      · exact noat_ok (c.fact 26 (f := .noat "Heads" "moves") rfl)
    · have hf : f ∈ (["found", "places", "rows"] : List PySem.Str) := hf
      simp only [List.mem_cons, List.not_mem_nil, or_false] at hf
      rcases hf with rfl | rfl | rfl
      · exact noat_ok (c.fact 33 (f := .noat "Rows" "found") rfl)
      · exact noat_ok (c.fact 34 (f := .noat "Rows" "places") rfl)
      · exact noat_ok (c.fact 35 (f := .noat "Rows" "rows") rfl)
theorem tp_of {h : Heap} (inK : K.In h) (G : h.Ns mainGlobals mg) (c : SaysD faL fnL K) : Tp K mg where
  tx := tx_of c
  b_len := free_ok inK G (c.fact 60 (f := .free "len") rfl)
  b_range := free_ok inK G (c.fact 61 (f := .free "range") rfl)
  b_tuple := free_ok inK G (c.fact 62 (f := .free "tuple") rfl)
  b_list := free_ok inK G (c.fact 63 (f := .free "list") rfl)
  b_sorted := free_ok inK G (c.fact 64 (f := .free "sorted") rfl)
  b_enumerate := free_ok inK G (c.fact 65 (f := .free "enumerate") rfl)
  b_all := free_ok inK G (c.fact 66 (f := .free "all") rfl)
  b_int := free_ok inK G (c.fact 67 (f := .free "int") rfl)
  b_bool := free_ok inK G (c.fact 68 (f := .free "bool") rfl)
  b_isinstance := free_ok inK G (c.fact 69 (f := .free "isinstance") rfl)
  b_repr := free_ok inK G (c.fact 70 (f := .free "repr") rfl)
theorem ok_TakeOff_entriesE (T : Tp K mg) {f : Addr} {fd : FuncData} (F : FunD K d_TakeOff_entries.name d_TakeOff_entries.qual d_TakeOff_entries.params d_TakeOff_entries.body d_TakeOff_entries.scope (d_TakeOff_entries.dvs K) (d_TakeOff_entries.kws K) f fd) : FnOk P w K mg base CX0 1 f fd ["self", "state", "letter"] (spEnt ⟨P, w, K⟩) :=
  fn_ent (fj := eTup (aC (eV 1) (aC (eV 2) aN))) F sc_TakeOff_entries rfl (fun cdv A outer s H E hr => pss_one (PSimp (ps_ret (pe_ent (hu_of hr) (fp_fld T.tx 0 .takeoff 3 (pv 0)) (fe_tup (fa_cons (fe_var 1 (pv 1)) (fa_cons (fe_var 2 (pv 2)) fa_nil))))) fun D σ H h => h)) fun a fs ds hl => by
    match ds, hl with
    | [x, y], _ => rfl
theorem k_law_numbers {h : Heap} (inK : K.In h) (G : h.Ns mainGlobals mg) (c : SaysD faL fnL K) : Cal P w K mg base 1 "_law_numbers" 2 g_law_numbers := by
  obtain ⟨fd, F⟩ := c.def_ 19 (d := d_law_numbers) rfl
  have B : Binds K fd ["_law_script", "_law_count"] [] := F.bindsN (ps := ["_law_script", "_law_count"]) fun _ _ _ _ _ _ us hl => match us, hl with | [_, _], _ => rfl
  exact ⟨⟨_, fd, ["_law_script", "_law_count"], rfl, ok_law_numbers (tp_of inK G c)  F, glo_ok inK G (c.fact 45 (f := .glo "_law_numbers") rfl), F.kp, B⟩, runD_len⟩
theorem k_law_rows {h : Heap} (inK : K.In h) (G : h.Ns mainGlobals mg) (c : SaysD faL fnL K) : Cal P w K mg base 1 "_law_rows" 5 g_law_rows := by
  obtain ⟨fd, F⟩ := c.def_ 20 (d := d_law_rows) rfl
  have B : Binds K fd ["_law_numbers_here", "_law_place", "_law_states", "_law_letters", "_law_count"] [] := F.bindsN (ps := ["_law_numbers_here", "_law_place", "_law_states", "_law_letters", "_law_count"]) fun _ _ _ _ _ _ us hl => match us, hl with | [_, _, _, _, _], _ => rfl
  exact ⟨⟨_, fd, ["_law_numbers_here", "_law_place", "_law_states", "_law_letters", "_law_count"], rfl, ok_law_rows (tp_of inK G c)  F, glo_ok inK G (c.fact 46 (f := .glo "_law_rows") rfl), F.kp, B⟩, runD_len⟩
theorem k_law_machine {h : Heap} (inK : K.In h) (G : h.Ns mainGlobals mg) (c : SaysD faL fnL K) : Cal P w K mg base 2 "_law_machine" 2 g_law_machine := by
  obtain ⟨fd, F⟩ := c.def_ 21 (d := d_law_machine) rfl
  have B : Binds K fd ["_law_numbers_here", "_law_place"] [] := F.bindsN (ps := ["_law_numbers_here", "_law_place"]) fun _ _ _ _ _ _ us hl => match us, hl with | [_, _], _ => rfl
  exact ⟨⟨_, fd, ["_law_numbers_here", "_law_place"], rfl, ok_law_machine (tp_of inK G c) (k_law_rows inK G c) F, glo_ok inK G (c.fact 47 (f := .glo "_law_machine") rfl), F.kp, B⟩, runD_len⟩
theorem k_fits {h : Heap} (inK : K.In h) (G : h.Ns mainGlobals mg) (c : SaysD faL fnL K) : Cal P w K mg base 1 "fits" 3 g_fits := by
  obtain ⟨fd, F⟩ := c.def_ 18 (d := d_fits) rfl
  have B : Binds K fd ["step", "states", "letters"] [] := F.bindsN (ps := ["step", "states", "letters"]) fun _ _ _ _ _ _ us hl => match us, hl with | [_, _, _], _ => rfl
  exact ⟨⟨_, fd, ["step", "states", "letters"], rfl, ok_fits (tp_of inK G c)  F, glo_ok inK G (c.fact 44 (f := .glo "fits") rfl), F.kp, B⟩, runD_len⟩
theorem k_Machine {h : Heap} (inK : K.In h) (G : h.Ns mainGlobals mg) (c : SaysD faL fnL K) : CalI P w K mg base 2 .machine 3 g_Machine_init := by
  obtain ⟨fd, F⟩ := c.def_ 1 (d := d_Machine_init) rfl
  have B : Binds K fd ["self", "states", "letters", "steps"] [] := F.bindsN (ps := ["self", "states", "letters", "steps"]) fun _ _ _ _ _ _ us hl => match us, hl with | [_, _, _, _], _ => rfl
  exact ⟨⟨_, fd, ["self", "states", "letters", "steps"], rfl, ok_Machine_init (tp_of inK G c) (k_fits inK G c) F, mkr_ok (c.fact 10 (f := .mkr "Machine") rfl), glo_ok inK G (c.fact 8 (f := .glo "Machine") rfl), B⟩, runI_len, runI_non⟩
theorem k_Step {h : Heap} (inK : K.In h) (G : h.Ns mainGlobals mg) (c : SaysD faL fnL K) : CalI P w K mg base 1 .step 5 g_Step_init := by
  obtain ⟨fd, F⟩ := c.def_ 0 (d := d_Step_init) rfl
  have B : Binds K fd ["self", "state", "letter", "goal", "laid", "weight"] [] := by
    obtain ⟨ds, hv, hb⟩ := F.binds1 (ps := ["self", "state", "letter", "goal", "laid", "weight"]) 6 2 (by exact List.cons_ne_nil _ _) rfl fun _ _ _ _ _ _ _ us its hl hi => match us, its, hl, hi with | [_, _, _, _, _, _], [_, _], _, _ => ⟨_, rfl, rfl⟩
    cases nil_of hv
    exact hb
  exact ⟨⟨_, fd, ["self", "state", "letter", "goal", "laid", "weight"], rfl, ok_Step_init (tp_of inK G c)  F, mkr_ok (c.fact 2 (f := .mkr "Step") rfl), glo_ok inK G (c.fact 0 (f := .glo "Step") rfl), B⟩, runI_len, runI_non⟩
theorem k_law_made {h : Heap} (inK : K.In h) (G : h.Ns mainGlobals mg) (c : SaysD faL fnL K) : Cal P w K mg base 4 "_law_made" 1 g_law_made := by
  obtain ⟨fd, F⟩ := c.def_ 22 (d := d_law_made) rfl
  have B : Binds K fd ["_law_parts"] [] := F.bindsN (ps := ["_law_parts"]) fun _ _ _ _ _ _ us hl => match us, hl with | [_], _ => rfl
  exact ⟨⟨_, fd, ["_law_parts"], rfl, ok_law_made (tp_of inK G c) (k_Machine inK G c) (k_Step inK G c) F, glo_ok inK G (c.fact 48 (f := .glo "_law_made") rfl), F.kp, B⟩, runD_len⟩
theorem k_law_configuration {h : Heap} (inK : K.In h) (G : h.Ns mainGlobals mg) (c : SaysD faL fnL K) : Cal P w K mg base 1 "_law_configuration" 4 g_law_configuration := by
  obtain ⟨fd, F⟩ := c.def_ 23 (d := d_law_configuration) rfl
  have B : Binds K fd ["_law_number", "_law_states", "_law_letters", "_law_most"] [] := F.bindsN (ps := ["_law_number", "_law_states", "_law_letters", "_law_most"]) fun _ _ _ _ _ _ us hl => match us, hl with | [_, _, _, _], _ => rfl
  exact ⟨⟨_, fd, ["_law_number", "_law_states", "_law_letters", "_law_most"], rfl, ok_law_configuration (tp_of inK G c)  F, glo_ok inK G (c.fact 49 (f := .glo "_law_configuration") rfl), F.kp, B⟩, runD_len⟩
theorem k_law_marks {h : Heap} (inK : K.In h) (G : h.Ns mainGlobals mg) (c : SaysD faL fnL K) : Cal P w K mg base 1 "_law_marks" 2 g_law_marks := by
  obtain ⟨fd, F⟩ := c.def_ 24 (d := d_law_marks) rfl
  have B : Binds K fd ["_law_number", "_law_count"] [] := F.bindsN (ps := ["_law_number", "_law_count"]) fun _ _ _ _ _ _ us hl => match us, hl with | [_, _], _ => rfl
  exact ⟨⟨_, fd, ["_law_number", "_law_count"], rfl, ok_law_marks (tp_of inK G c)  F, glo_ok inK G (c.fact 50 (f := .glo "_law_marks") rfl), F.kp, B⟩, runD_len⟩
theorem k_law_off_rows {h : Heap} (inK : K.In h) (G : h.Ns mainGlobals mg) (c : SaysD faL fnL K) : Cal P w K mg base 1 "_law_off_rows" 3 g_law_off_rows := by
  obtain ⟨fd, F⟩ := c.def_ 25 (d := d_law_off_rows) rfl
  have B : Binds K fd ["_law_parts", "_law_marked", "_law_rows_here"] [] := F.bindsN (ps := ["_law_parts", "_law_marked", "_law_rows_here"]) fun _ _ _ _ _ _ us hl => match us, hl with | [_, _, _], _ => rfl
  exact ⟨⟨_, fd, ["_law_parts", "_law_marked", "_law_rows_here"], rfl, ok_law_off_rows (tp_of inK G c)  F, glo_ok inK G (c.fact 51 (f := .glo "_law_off_rows") rfl), F.kp, B⟩, runD_len⟩
theorem k_law_move {h : Heap} (inK : K.In h) (G : h.Ns mainGlobals mg) (c : SaysD faL fnL K) : Cal P w K mg base 1 "_law_move" 4 g_law_move := by
  obtain ⟨fd, F⟩ := c.def_ 26 (d := d_law_move) rfl
  have B : Binds K fd ["_law_parts", "_law_marked", "_law_told_here", "_law_move_here"] [] := F.bindsN (ps := ["_law_parts", "_law_marked", "_law_told_here", "_law_move_here"]) fun _ _ _ _ _ _ us hl => match us, hl with | [_, _, _, _], _ => rfl
  exact ⟨⟨_, fd, ["_law_parts", "_law_marked", "_law_told_here", "_law_move_here"], rfl, ok_law_move (tp_of inK G c)  F, glo_ok inK G (c.fact 52 (f := .glo "_law_move") rfl), F.kp, B⟩, runD_len⟩
theorem k_law_descended {h : Heap} (inK : K.In h) (G : h.Ns mainGlobals mg) (c : SaysD faL fnL K) : Cal P w K mg base 1 "_law_descended" 3 g_law_descended := by
  obtain ⟨fd, F⟩ := c.def_ 27 (d := d_law_descended) rfl
  have B : Binds K fd ["_law_told_here", "_law_configuration_here", "_law_descent"] [] := F.bindsN (ps := ["_law_told_here", "_law_configuration_here", "_law_descent"]) fun _ _ _ _ _ _ us hl => match us, hl with | [_, _, _], _ => rfl
  exact ⟨⟨_, fd, ["_law_told_here", "_law_configuration_here", "_law_descent"], rfl, ok_law_descended (tp_of inK G c)  F, glo_ok inK G (c.fact 53 (f := .glo "_law_descended") rfl), F.kp, B⟩, runD_len⟩
theorem k_law_ever_right {h : Heap} (inK : K.In h) (G : h.Ns mainGlobals mg) (c : SaysD faL fnL K) : Cal P w K mg base 2 "_law_ever_right" 4 g_law_ever_right := by
  obtain ⟨fd, F⟩ := c.def_ 28 (d := d_law_ever_right) rfl
  have B : Binds K fd ["_law_parts", "_law_marked", "_law_configuration_here", "_law_paper"] [] := F.bindsN (ps := ["_law_parts", "_law_marked", "_law_configuration_here", "_law_paper"]) fun _ _ _ _ _ _ us hl => match us, hl with | [_, _, _, _], _ => rfl
  exact ⟨⟨_, fd, ["_law_parts", "_law_marked", "_law_configuration_here", "_law_paper"], rfl, ok_law_ever_right (tp_of inK G c) (k_law_descended inK G c) (k_law_move inK G c) (k_law_off_rows inK G c) F, glo_ok inK G (c.fact 54 (f := .glo "_law_ever_right") rfl), F.kp, B⟩, runD_len⟩
theorem k_law_table_is_closed {h : Heap} (inK : K.In h) (G : h.Ns mainGlobals mg) (c : SaysD faL fnL K) : Cal P w K mg base 1 "_law_table_is_closed" 3 g_law_table_is_closed := by
  obtain ⟨fd, F⟩ := c.def_ 29 (d := d_law_table_is_closed) rfl
  have B : Binds K fd ["_law_parts", "_law_marked", "_law_table"] [] := F.bindsN (ps := ["_law_parts", "_law_marked", "_law_table"]) fun _ _ _ _ _ _ us hl => match us, hl with | [_, _, _], _ => rfl
  exact ⟨⟨_, fd, ["_law_parts", "_law_marked", "_law_table"], rfl, ok_law_table_is_closed (tp_of inK G c)  F, glo_ok inK G (c.fact 55 (f := .glo "_law_table_is_closed") rfl), F.kp, B⟩, runD_len⟩
theorem k_law_head_edges {h : Heap} (inK : K.In h) (G : h.Ns mainGlobals mg) (c : SaysD faL fnL K) : Cal P w K mg base 1 "_law_head_edges" 3 g_law_head_edges := by
  obtain ⟨fd, F⟩ := c.def_ 30 (d := d_law_head_edges) rfl
  have B : Binds K fd ["_law_parts", "_law_marked", "_law_table"] [] := F.bindsN (ps := ["_law_parts", "_law_marked", "_law_table"]) fun _ _ _ _ _ _ us hl => match us, hl with | [_, _, _], _ => rfl
  exact ⟨⟨_, fd, ["_law_parts", "_law_marked", "_law_table"], rfl, ok_law_head_edges (tp_of inK G c)  F, glo_ok inK G (c.fact 56 (f := .glo "_law_head_edges") rfl), F.kp, B⟩, runD_len⟩
theorem k_law_not_right {h : Heap} (inK : K.In h) (G : h.Ns mainGlobals mg) (c : SaysD faL fnL K) : Cal P w K mg base 2 "_law_not_right" 4 g_law_not_right := by
  obtain ⟨fd, F⟩ := c.def_ 31 (d := d_law_not_right) rfl
  have B : Binds K fd ["_law_parts", "_law_marked", "_law_configuration_here", "_law_paper"] [] := F.bindsN (ps := ["_law_parts", "_law_marked", "_law_configuration_here", "_law_paper"]) fun _ _ _ _ _ _ us hl => match us, hl with | [_, _, _, _], _ => rfl
  exact ⟨⟨_, fd, ["_law_parts", "_law_marked", "_law_configuration_here", "_law_paper"], rfl, ok_law_not_right (tp_of inK G c) (k_law_head_edges inK G c) (k_law_table_is_closed inK G c) F, glo_ok inK G (c.fact 57 (f := .glo "_law_not_right") rfl), F.kp, B⟩, runD_len⟩
theorem k_law_told {h : Heap} (inK : K.In h) (G : h.Ns mainGlobals mg) (c : SaysD faL fnL K) : Cal P w K mg base 1 "_law_told" 1 g_law_told := by
  obtain ⟨fd, F⟩ := c.def_ 32 (d := d_law_told) rfl
  have B : Binds K fd ["_law_paper"] [] := F.bindsN (ps := ["_law_paper"]) fun _ _ _ _ _ _ us hl => match us, hl with | [_], _ => rfl
  exact ⟨⟨_, fd, ["_law_paper"], rfl, ok_law_told (tp_of inK G c)  F, glo_ok inK G (c.fact 58 (f := .glo "_law_told") rfl), F.kp, B⟩, runD_len⟩
theorem k_TakeOff_entries {h : Heap} (inK : K.In h) (G : h.Ns mainGlobals mg) (c : SaysD faL fnL K) : CalM P w K mg base 1 .takeoff "entries" 3 g_TakeOff_entries := by
  obtain ⟨fd, F⟩ := c.def_ 3 (d := d_TakeOff_entries) rfl
  have B : Binds K fd ["self", "state", "letter"] [] := F.bindsN (ps := ["self", "state", "letter"]) fun _ _ _ _ _ _ us hl => match us, hl with | [_, _, _], _ => rfl
  exact ⟨⟨_, fd, ["self", "state", "letter"], rfl, ok_TakeOff_entries (tp_of inK G c)  F, meth_ok (c.fact 21 (f := .meth "TakeOff" "entries") rfl), B⟩, runM_len, runM_self, by decide +kernel⟩
theorem k_TakeOff_entriesE {h : Heap} (inK : K.In h) (G : h.Ns mainGlobals mg) (c : SaysD faL fnL K) : CalE P w K mg base 1 := by
  obtain ⟨fd, F⟩ := c.def_ 3 (d := d_TakeOff_entries) rfl
  have B : Binds K fd ["self", "state", "letter"] [] := F.bindsN (ps := ["self", "state", "letter"]) fun _ _ _ _ _ _ us hl => match us, hl with | [_, _, _], _ => rfl
  exact ⟨⟨_, fd, ["self", "state", "letter"], rfl, ok_TakeOff_entriesE (tp_of inK G c) F, meth_ok (c.fact 21 (f := .meth "TakeOff" "entries") rfl), B⟩⟩
theorem k_descents {h : Heap} (inK : K.In h) (G : h.Ns mainGlobals mg) (c : SaysD faL fnL K) : Cal P w K mg base 2 "descents" 2 g_descents := by
  obtain ⟨fd, F⟩ := c.def_ 13 (d := d_descents) rfl
  have B : Binds K fd ["table", "configuration"] [] := F.bindsN (ps := ["table", "configuration"]) fun _ _ _ _ _ _ us hl => match us, hl with | [_, _], _ => rfl
  exact ⟨⟨_, fd, ["table", "configuration"], rfl, ok_descents (tp_of inK G c) (k_TakeOff_entries inK G c) F, glo_ok inK G (c.fact 39 (f := .glo "descents") rfl), F.kp, B⟩, runD_len⟩
theorem k_way_to {h : Heap} (inK : K.In h) (G : h.Ns mainGlobals mg) (c : SaysD faL fnL K) : Cal P w K mg base 1 "way_to" 2 g_way_to := by
  obtain ⟨fd, F⟩ := c.def_ 12 (d := d_way_to) rfl
  have B : Binds K fd ["found", "head"] [] := F.bindsN (ps := ["found", "head"]) fun _ _ _ _ _ _ us hl => match us, hl with | [_, _], _ => rfl
  exact ⟨⟨_, fd, ["found", "head"], rfl, ok_way_to (tp_of inK G c)  F, glo_ok inK G (c.fact 38 (f := .glo "way_to") rfl), F.kp, B⟩, runD_len⟩
theorem k_Heads_moves_from {h : Heap} (inK : K.In h) (G : h.Ns mainGlobals mg) (c : SaysD faL fnL K) : CalM P w K mg base 1 .heads "moves_from" 2 g_Heads_moves_from := by
  obtain ⟨fd, F⟩ := c.def_ 7 (d := d_Heads_moves_from) rfl
  have B : Binds K fd ["self", "head"] [] := F.bindsN (ps := ["self", "head"]) fun _ _ _ _ _ _ us hl => match us, hl with | [_, _], _ => rfl
  exact ⟨⟨_, fd, ["self", "head"], rfl, ok_Heads_moves_from (tp_of inK G c)  F, meth_ok (c.fact 28 (f := .meth "Heads" "moves_from") rfl), B⟩, runM_len, runM_self, by decide +kernel⟩
theorem k_Heads_reached {h : Heap} (inK : K.In h) (G : h.Ns mainGlobals mg) (c : SaysD faL fnL K) : CalM P w K mg base 2 .heads "reached" 2 g_Heads_reached := by
  obtain ⟨fd, F⟩ := c.def_ 8 (d := d_Heads_reached) rfl
  have B : Binds K fd ["self", "heads"] [] := F.bindsN (ps := ["self", "heads"]) fun _ _ _ _ _ _ us hl => match us, hl with | [_, _], _ => rfl
  exact ⟨⟨_, fd, ["self", "heads"], rfl, ok_Heads_reached (tp_of inK G c) (k_Heads_moves_from inK G c) F, meth_ok (c.fact 29 (f := .meth "Heads" "reached") rfl), B⟩, runM_len, runM_self, by decide +kernel⟩
theorem k_ring_at {h : Heap} (inK : K.In h) (G : h.Ns mainGlobals mg) (c : SaysD faL fnL K) : Cal P w K mg base 3 "ring_at" 2 g_ring_at := by
  obtain ⟨fd, F⟩ := c.def_ 14 (d := d_ring_at) rfl
  have B : Binds K fd ["heads", "found"] [] := F.bindsN (ps := ["heads", "found"]) fun _ _ _ _ _ _ us hl => match us, hl with | [_, _], _ => rfl
  exact ⟨⟨_, fd, ["heads", "found"], rfl, ok_ring_at (tp_of inK G c) (k_way_to inK G c) (k_Heads_moves_from inK G c) (k_Heads_reached inK G c) F, glo_ok inK G (c.fact 40 (f := .glo "ring_at") rfl), F.kp, B⟩, runD_len⟩
theorem k_Rows_missing {h : Heap} (inK : K.In h) (G : h.Ns mainGlobals mg) (c : SaysD faL fnL K) : CalO P w K mg base 1 .rows "missing" 1 g_Rows_missing := by
  obtain ⟨fd, F⟩ := c.def_ 10 (d := d_Rows_missing) rfl
  have B : Binds K fd ["self", "key"] [] := F.bindsN (ps := ["self", "key"]) fun _ _ _ _ _ _ us hl => match us, hl with | [_, _], _ => rfl
  exact ⟨⟨_, fd, ["self", "key"], rfl, ok_Rows_missing (tp_of inK G c)  F, meth_ok (c.fact 36 (f := .meth "Rows" "missing") rfl), B⟩, runO_len, by decide +kernel⟩
theorem k_Rows_add {h : Heap} (inK : K.In h) (G : h.Ns mainGlobals mg) (c : SaysD faL fnL K) : CalO P w K mg base 2 .rows "add" 2 g_Rows_add := by
  obtain ⟨fd, F⟩ := c.def_ 11 (d := d_Rows_add) rfl
  have B : Binds K fd ["self", "key", "with_items"] [] := F.bindsN (ps := ["self", "key", "with_items"]) fun _ _ _ _ _ _ us hl => match us, hl with | [_, _, _], _ => rfl
  exact ⟨⟨_, fd, ["self", "key", "with_items"], rfl, ok_Rows_add (tp_of inK G c) (k_Rows_missing inK G c) F, meth_ok (c.fact 37 (f := .meth "Rows" "add") rfl), B⟩, runO_len, by decide +kernel⟩
theorem k_told_moves {h : Heap} (inK : K.In h) (G : h.Ns mainGlobals mg) (c : SaysD faL fnL K) : CalG P w K mg base 3 .rows "told_moves" 1 g_told_moves := by
  obtain ⟨fd, F⟩ := c.def_ 16 (d := d_told_moves) rfl
  have B : Binds K fd ["rows", "moves"] [] := F.bindsN (ps := ["rows", "moves"]) fun _ _ _ _ _ _ us hl => match us, hl with | [_, _], _ => rfl
  exact ⟨⟨_, fd, ["rows", "moves"], rfl, ok_told_moves (tp_of inK G c) (k_Rows_add inK G c) F, glo_ok inK G (c.fact 42 (f := .glo "told_moves") rfl), F.kp, B⟩, runO_len⟩
theorem k_told_ranks {h : Heap} (inK : K.In h) (G : h.Ns mainGlobals mg) (c : SaysD faL fnL K) : Cal P w K mg base 2 "told_ranks" 2 g_told_ranks := by
  obtain ⟨fd, F⟩ := c.def_ 15 (d := d_told_ranks) rfl
  have B : Binds K fd ["heads", "found"] [] := F.bindsN (ps := ["heads", "found"]) fun _ _ _ _ _ _ us hl => match us, hl with | [_, _], _ => rfl
  exact ⟨⟨_, fd, ["heads", "found"], rfl, ok_told_ranks (tp_of inK G c) (k_Heads_moves_from inK G c) F, glo_ok inK G (c.fact 41 (f := .glo "told_ranks") rfl), F.kp, B⟩, runD_len⟩
theorem k_Heads_put {h : Heap} (inK : K.In h) (G : h.Ns mainGlobals mg) (c : SaysD faL fnL K) : CalO P w K mg base 1 .heads "put" 2 g_Heads_put := by
  obtain ⟨fd, F⟩ := c.def_ 6 (d := d_Heads_put) rfl
  have B : Binds K fd ["self", "step", "move"] [] := F.bindsN (ps := ["self", "step", "move"]) fun _ _ _ _ _ _ us hl => match us, hl with | [_, _, _], _ => rfl
  exact ⟨⟨_, fd, ["self", "step", "move"], rfl, ok_Heads_put (tp_of inK G c)  F, meth_ok (c.fact 27 (f := .meth "Heads" "put") rfl), B⟩, runO_len, by decide +kernel⟩
theorem k_Heads {h : Heap} (inK : K.In h) (G : h.Ns mainGlobals mg) (c : SaysD faL fnL K) : CalI P w K mg base 2 .heads 2 g_Heads_init := by
  obtain ⟨fd, F⟩ := c.def_ 5 (d := d_Heads_init) rfl
  have B : Binds K fd ["self", "machine", "table"] [] := F.bindsN (ps := ["self", "machine", "table"]) fun _ _ _ _ _ _ us hl => match us, hl with | [_, _, _], _ => rfl
  exact ⟨⟨_, fd, ["self", "machine", "table"], rfl, ok_Heads_init (tp_of inK G c) (k_Heads_put inK G c) (k_TakeOff_entries inK G c) F, mkr_ok (c.fact 25 (f := .mkr "Heads") rfl), glo_ok inK G (c.fact 23 (f := .glo "Heads") rfl), B⟩, runI_len, runI_non⟩
theorem k_Rows {h : Heap} (inK : K.In h) (G : h.Ns mainGlobals mg) (c : SaysD faL fnL K) : CalI P w K mg base 1 .rows 1 g_Rows_init := by
  obtain ⟨fd, F⟩ := c.def_ 9 (d := d_Rows_init) rfl
  have B : Binds K fd ["self", "found"] [] := F.bindsN (ps := ["self", "found"]) fun _ _ _ _ _ _ us hl => match us, hl with | [_, _], _ => rfl
  exact ⟨⟨_, fd, ["self", "found"], rfl, ok_Rows_init (tp_of inK G c)  F, mkr_ok (c.fact 32 (f := .mkr "Rows") rfl), glo_ok inK G (c.fact 30 (f := .glo "Rows") rfl), B⟩, runI_len, runI_non⟩
theorem k_TakeOff_use {h : Heap} (inK : K.In h) (G : h.Ns mainGlobals mg) (c : SaysD faL fnL K) : CalO P w K mg base 2 .takeoff "use" 1 g_TakeOff_use := by
  obtain ⟨fd, F⟩ := c.def_ 4 (d := d_TakeOff_use) rfl
  have B : Binds K fd ["self", "index"] [] := F.bindsN (ps := ["self", "index"]) fun _ _ _ _ _ _ us hl => match us, hl with | [_, _], _ => rfl
  exact ⟨⟨_, fd, ["self", "index"], rfl, ok_TakeOff_use (tp_of inK G c) (k_TakeOff_entriesE inK G c) F, meth_ok (c.fact 22 (f := .meth "TakeOff" "use") rfl), B⟩, runO_len, by decide +kernel⟩
theorem k_TakeOff {h : Heap} (inK : K.In h) (G : h.Ns mainGlobals mg) (c : SaysD faL fnL K) : CalI P w K mg base 3 .takeoff 2 g_TakeOff_init := by
  obtain ⟨fd, F⟩ := c.def_ 2 (d := d_TakeOff_init) rfl
  have B : Binds K fd ["self", "machine", "marked"] [] := F.bindsN (ps := ["self", "machine", "marked"]) fun _ _ _ _ _ _ us hl => match us, hl with | [_, _, _], _ => rfl
  exact ⟨⟨_, fd, ["self", "machine", "marked"], rfl, ok_TakeOff_init (tp_of inK G c) (k_TakeOff_use inK G c) F, mkr_ok (c.fact 16 (f := .mkr "TakeOff") rfl), glo_ok inK G (c.fact 14 (f := .glo "TakeOff") rfl), B⟩, runI_len, runI_non⟩
theorem k_endless {h : Heap} (inK : K.In h) (G : h.Ns mainGlobals mg) (c : SaysD faL fnL K) : Cal P w K mg base 5 "endless" 3 g_endless := by
  obtain ⟨fd, F⟩ := c.def_ 17 (d := d_endless) rfl
  have B : Binds K fd ["machine", "marked", "configuration"] [] := F.bindsN (ps := ["machine", "marked", "configuration"]) fun _ _ _ _ _ _ us hl => match us, hl with | [_, _, _], _ => rfl
  exact ⟨⟨_, fd, ["machine", "marked", "configuration"], rfl, ok_endless (tp_of inK G c) (k_descents inK G c) (k_ring_at inK G c) (k_told_moves inK G c) (k_told_ranks inK G c) (k_way_to inK G c) (k_Heads inK G c) (k_Heads_reached inK G c) (k_Rows inK G c) (k_Rows_add inK G c) (k_TakeOff inK G c) F, glo_ok inK G (c.fact 43 (f := .glo "endless") rfl), F.kp, B⟩, runD_len⟩
theorem law_runs (hp : ∀ l : List Int, l.length ≤ 63 → g_law [.scr l] = some (.bl true)) {h : Heap} (inK : K.In h) (G : h.Ns mainGlobals mg) (c : SaysD faL fnL K) {base : Heap} {HH : Hp} {t1 : Shared} {a : Addr} {ns : List Int} (hlen : ns.length ≤ 63)
    (en : Env0 P w K mg base callerA [] t1 HH) (hS : SqL K HH a (ns.map V.int)) {fa : Addr} (hfa : mg "law" = some (.ref fa)) : codeAny (model P w) callerA (.call (.ref fa) ⟨[.ref a], []⟩) (CR CX0 [] P w HH t1 (fun v _ => v = .bl true) E0) t1 := by
  obtain ⟨fd, F⟩ := c.def_ 33 (d := d_law) rfl
  have e := hfa.symm.trans (glo_ok inK G (c.fact 59 (f := .glo "law") rfl))
  cases e
  have bnd := FunD.bindsA (ps := ["_law_script"]) F fun _ _ _ _ _ _ us hl => match us, hl with | [_], _ => rfl
  have room : Room 6 callerA := ⟨rfl, by decide, by decide⟩
  obtain ⟨hl1, m, hm⟩ := runD_ok (hp ns hlen)
  refine body_runs (goal := fun v _ => v = .bl true) F sc_law rfl (by decide) en (bnd t1 [.ref a] rfl) (.cons rfl .nil) (vs := [.ref a]) rfl fun cdv => ?_
  have wd : Wd HH HH := ⟨.refl _, fun _ _ h => h⟩
  refine ⟨_, (B_law (tp_of inK G c) (k_law_configuration inK G c) (k_law_ever_right inK G c) (k_law_machine inK G c) (k_law_made inK G c) (k_law_marks inK G c) (k_law_not_right inK G c) (k_law_numbers inK G c) (k_law_told inK G c) (k_endless inK G c) m cdv callerA [] t1 HH E0 (room.deeper _) rfl).nox, restOf HH HH, HH, _, Has.start (ds := [.scr ns]) wd (.cons (.scr hS) .nil), ?_⟩
  revert hm
  cases F_law m (envOf N_law ([.scr ns].map .dat)) with
  | fail => exact fun h => h.elim
  | nx r2 => exact fun h => nomatch (show D.bl true = .non from h)
  | rt d r2 =>
    intro h v σ' G' H' h1 e2 hv
    cases (show d = .bl true from h)
    cases hv
    rfl

end DL
open PySem PySem.W PySem.Calls PyProof.Rows
theorem DL.row_of (hp : ∀ l : List Int, l.length ≤ 63 → DL.g_law [.scr l] = some (.bl true)) : PySem.Challenge.rw_pilereach_k47_whole_endless_decided.Holds := by
  w_on; o_law
  refine HandSHeadRun.head_any (r := OpenLaw.row PySem.Challenge.rw_pilereach_k47_whole_endless_decided) (q := view (OpenLaw.row PySem.Challenge.rw_pilereach_k47_whole_endless_decided).prog [35]) (H := PR.hk) (ob := PR.ob) (M := 6000) (loose := PR.loose) (d := HandSHeadRun.topDef (OpenLaw.row PySem.Challenge.rw_pilereach_k47_whole_endless_decided).prog 35) (kwd := []) PR.ob_eq
    (by kernel_rfl) (fun s => by kernel_rfl) PR.run (by kernel_rfl) (by kernel_rfl) (by kernel_rfl) (by rfl) (by first | assumption | decide +kernel) (by decide +kernel) ⟨rfl, rfl, rfl, rfl, rfl, by decide +kernel⟩ ?hw ?hc
  case hw => w_witness2
  case hc =>
    refine DL.walk_at (l := PySem.Challenge.rw_pilereach_k47_whole_endless_decided) (n := 63) rfl (by decide) (by kernel_rfl) ?F
    intro w mg fa h Y G hmg0
    obtain ⟨K, KX, c⟩ := Y
    have hmg : mg ("law" : PySem.Str) = some (.ref fa) := by
      have e : (HandSHeadRun.topDef (OpenLaw.row PySem.Challenge.rw_pilereach_k47_whole_endless_decided).prog 35).name = ("law" : PySem.Str) := by kernel_rfl
      rw [← e]
      exact hmg0
    exact ⟨K, KX, fun base HH t1 a ns hl hK hN hE hS _ => DL.law_runs hp KX G c hl hE hS hmg⟩
end

section
set_option linter.all false
set_option maxRecDepth 100000
set_option maxHeartbeats 1000000
/-! E1 (pure): rules for what a statement's denotation does; dicts as association lists. -/
namespace DL

/-- the end of a run: goes on with Q, returns with R -/
inductive Tr (Q : Env → Prop) (R : D → Env → Prop) : Res → Prop
  | nx {r : Env} : Q r → Tr Q R (.nx r)
  | rt {d : D} {r : Env} : R d r → Tr Q R (.rt d r)
section
variable {Q Q' : Env → Prop} {R : D → Env → Prop} {F G : ST} {r : Env} {e : EX} {d : D}
theorem Tr.imp {R' : D → Env → Prop} {q : Res} (h : Tr Q R q) (a : ∀ r, Q r → Q' r) (b : ∀ d r, R d r → R' d r) : Tr Q' R' q := by
  cases h with
  | nx h => exact .nx (a _ h)
  | rt h => exact .rt (b _ _ h)
theorem tr_nil (h : Q r) : Tr Q R (sNil r) := .nx h
theorem tr_seq (h : Tr (fun r' => Tr Q R (G r')) R (F r)) : Tr Q R (sSeq F G r) := by
  unfold sSeq
  generalize F r = q at h ⊢
  cases h with
  | nx h => exact h
  | rt h => exact .rt h
theorem tr_seq' {Q1 : Env → Prop} (h : Tr Q1 R (F r)) (k : ∀ r', Q1 r' → Tr Q R (G r')) : Tr Q R (sSeq F G r) := tr_seq (h.imp k fun _ _ h => h)
theorem tr_bind {α : Type} {o : Option α} {f : α → Res} {x : α} (h : o = some x) (k : Tr Q R (f x)) : Tr Q R (sBind o f) := by
  subst h; exact k
theorem tr_set {i : Nat} (h : e r = some d) (k : Q (r.set i (some (.dat d)))) : Tr Q R (sSet i e r) := tr_bind h (.nx k)
theorem tr_ret (h : e r = some d) (k : R d r) : Tr Q R (sRet e r) := tr_bind h (.rt k)
theorem tr_if {b : Bool} (h : (e r).bind blD = some b) (h1 : b = true → Tr Q R (F r)) (h2 : b = false → Tr Q R (G r)) : Tr Q R (sIf e F G r) := by
  refine tr_bind h ?_
  cases b with
  | true => exact h1 rfl
  | false => exact h2 rfl
theorem tr_fgt {l : List Nat} (k : Q (l.foldl (fun r i => r.set i none) r)) : Tr Q R (sFgt l r) := .nx k
theorem tr_own {i : Nat} {c : Env → Option C1} {x : C1} (h : c r = some x) (k : Q (r.set i (some (.own x)))) : Tr Q R (sOwn i c r) := tr_bind h (.nx k)
theorem tr_frz {i : Nat} {x : SV} (h : slot r i = some x) (hp : x.isP = false) (k : Q (r.set i (some (.dat x.frz)))) : Tr Q R (sFrz i r) := by
  refine tr_bind h ?_
  rw [hp]
  exact .nx k
theorem tr_app {p : Pl} {l : List D} (h1 : (getP r p).bind c1L = some l) (h2 : e r = some d) (h3 : l.length < lim) (k : Q (setP r (.lst (l ++ [d])) p)) : Tr Q R (sApp p e r) := by
  refine tr_bind h1 (tr_bind h2 ?_)
  rw [if_pos h3]
  exact .nx k
theorem tr_ext {p : Pl} {l m : List D} (h1 : (getP r p).bind c1L = some l) (h2 : (e r).bind lstD = some m) (h3 : l.length + m.length ≤ lim) (k : Q (setP r (.lst (l ++ m)) p)) : Tr Q R (sExt p e r) := by
  refine tr_bind h1 (tr_bind h2 ?_)
  rw [if_pos h3]
  exact .nx k
theorem tr_pop {p : Pl} {l : List D} (h1 : (getP r p).bind c1L = some l) (h2 : l.getLast? = some d) (k : Q (setP r (.lst l.dropLast) p)) : Tr Q R (sPop p r) := tr_bind h1 (tr_bind h2 (.nx k))
theorem tr_popTo {i : Nat} {p : Pl} {l : List D} (h1 : (getP r p).bind c1L = some l) (h2 : l.getLast? = some d) (k : Q ((setP r (.lst l.dropLast) p).set i (some (.dat d)))) : Tr Q R (sPopTo i p r) := tr_bind h1 (tr_bind h2 (.nx k))
theorem tr_put {κ : KK} {p : Pl} {j : EX} {kvs : List (List Int × D)} {k0 : List Int} (h1 : (getP r p).bind (c1D κ) = some kvs) (h2 : e r = some d) (h3 : (j r).bind (toKey κ) = some k0) (h4 : kvs.length < lim) (k : Q (setP r (.dic κ (put kvs k0 d)) p)) : Tr Q R (sPut κ p j e r) := by
  refine tr_bind h1 (tr_bind h2 (tr_bind h3 ?_))
  rw [if_pos h4]
  exact .nx k
theorem tr_sdApp {p : Pl} {j : EX} {kvs : List (List Int × List D)} {k0 : List Int} (h1 : (getP r p).bind c1B = some kvs) (h2 : (j r).bind (toKey .t) = some k0) (h3 : e (setP r (.dil (sdp kvs k0)) p) = some d) (h4 : kvs.length < lim) (h5 : ((look kvs k0).getD []).length < lim)
    (k : Q (setP r (.dil (put kvs k0 ((look kvs k0).getD [] ++ [d]))) p)) : Tr Q R (sSdApp p j e r) := by
  refine tr_bind h1 (tr_bind h2 (tr_bind h3 ?_))
  rw [if_pos ⟨h4, h5⟩]
  exact .nx k
theorem tr_unp {g : TGT} {r' : Env} (h1 : e r = some d) (h2 : g d r = some r') (k : Q r') : Tr Q R (sUnp g e r) := tr_bind h1 (tr_bind h2 (.nx k))
theorem tr_forD {g : TGT} (I : Nat → Env → Prop) : ∀ (l : List D) (n : Nat) (r : Env), I n r → (∀ k d r, l[k]? = some d → I (n + k) r → ∃ r', g d r = some r' ∧ Tr (I (n + k + 1)) R (F r')) → Tr (I (n + l.length)) R (forD g F l r)
  | [], n, r, h, _ => .nx h
  | d :: l, n, r, h, s => by
    obtain ⟨r', h1, h2⟩ := s 0 d r rfl h
    unfold forD
    rw [h1]
    show Tr _ R (match F r' with
      | .nx r2 => forD g F l r2
      | z => z)
    generalize F r' = q at h2 ⊢
    cases h2 with
    | rt h => exact .rt h
    | @nx r2 h2 =>
      have := tr_forD I l (n + 1) r2 h2 fun k d r hk hr => by
        have := s (k + 1) d r (by simpa using hk) (by rw [show n + (k + 1) = n + 1 + k by omega]; exact hr)
        rw [show n + (k + 1) + 1 = n + 1 + k + 1 by omega] at this
        exact this
      rw [show n + 1 + l.length = n + (d :: l).length by rw [List.length_cons]; omega] at this
      exact this
/-- for: I the state behind k turns -/
theorem tr_for {g : TGT} {it : EXs} {l : List D} (I : Nat → Env → Prop) (h1 : it r = some l) (h0 : I 0 r) (hs : ∀ k d r, l[k]? = some d → I k r → ∃ r', g d r = some r' ∧ Tr (I (k + 1)) R (F r')) (hq : ∀ r, I l.length r → Q r) : Tr Q R (sFor g it F r) := by
  refine tr_bind h1 ?_
  have := tr_forD (F := F) (g := g) (R := R) I l 0 r h0 fun k d r hk hr => by
    rw [Nat.zero_add] at hr ⊢
    exact hs k d r hk hr
  rw [Nat.zero_add] at this
  exact this.imp hq fun _ _ h => h
/-- while: I the state with m as a bound of what is left -/
theorem tr_while {t : EX} (I : Nat → Env → Prop) (hs : ∀ m r, I m r → ∃ b, (t r).bind blD = some b ∧ (b = true → Tr (fun r' => ∃ m' < m, I m' r') R (F r)) ∧ (b = false → Q r)) : ∀ (n m : Nat) (r : Env), m < n → I m r → Tr Q R (whD t F n r)
  | 0, m, r, h, _ => by omega
  | n + 1, m, r, h, hi => by
    obtain ⟨b, h1, h2, h3⟩ := hs m r hi
    unfold whD
    refine tr_bind h1 ?_
    cases b with
    | false => exact .nx (h3 rfl)
    | true =>
      have h2 := h2 rfl
      show Tr Q R (match F r with
        | .nx r2 => whD t F n r2
        | z => z)
      generalize F r = q at h2 ⊢
      cases h2 with
      | rt h => exact .rt h
      | @nx r2 h2 =>
        obtain ⟨m', hm, h2⟩ := h2
        exact tr_while I hs n m' r2 (by omega) h2
theorem tr_meth {i : Nat} {c : CN} {g : GO} {a : EXs} {t : Option PySem.Addr} {fs : List Fld} {ds : List D} {z : D × List Fld} (h1 : slot r i = some (.obj t c fs)) (h2 : a r = some ds) (h3 : g fs ds = some z) (k : Q (r.set i (some (.obj t c z.2)))) : Tr Q R (sMeth i c g a r) := by
  unfold sMeth
  rw [h1]
  simp only [if_true]
  exact tr_bind h2 (tr_bind h3 (.nx k))
theorem tr_callO {x i : Nat} {c : CN} {g : GO} {a : EXs} {t : Option PySem.Addr} {fs : List Fld} {ds : List D} {z : D × List Fld} (h1 : slot r i = some (.obj t c fs)) (h2 : a r = some ds) (h3 : g fs ds = some z) (k : Q ((r.set i (some (.obj t c z.2))).set x (some (.dat z.1)))) : Tr Q R (sCallO x i c g a r) := by
  unfold sCallO
  rw [h1]
  simp only [if_true]
  exact tr_bind h2 (tr_bind h3 (.nx k))
theorem tr_make {x : Nat} {c : CN} {g : GO} {a : EXs} {ds : List D} {z : D × List Fld} (h2 : a r = some ds) (h3 : g [] ds = some z) (hx : x < r.length) (k : Q (r.set x (some (.obj none c z.2)))) : Tr Q R (sMake x c g a r) := by
  refine tr_bind h2 (tr_bind h3 ?_)
  rw [if_pos hx]
  exact .nx k
theorem tr_fld {i : Nat} {c : CN} {j : Nat} {t : Option PySem.Addr} {fs : List Fld} (h1 : e r = some d) (h2 : slot r i = some (.obj t c fs)) (h3 : fs.length = j) (k : Q (r.set i (some (.obj t c (fs ++ [.dat d]))))) : Tr Q R (DL.sFld i c j e r) := by
  refine tr_bind h1 ?_
  rw [h2]
  simp only [h3, and_self, if_true]
  exact .nx k
theorem tr_fldO {i : Nat} {c : CN} {j : Nat} {x : C1} {t : Option PySem.Addr} {fs : List Fld} (h2 : slot r i = some (.obj t c fs)) (h3 : fs.length = j) (k : Q (r.set i (some (.obj t c (fs ++ [.own x]))))) : Tr Q R (sFldO i c j x r) := by
  unfold sFldO
  rw [h2]
  simp only [h3, and_self, if_true]
  exact .nx k
theorem tr_forE {i : Nat} {key : EXs} {g : TGT} {a : PySem.Addr} {fs : List Fld} {kvs : List (List Int × List D)} {ds : List D} {k0 : List Int} (I : Nat → Env → Prop) (h1 : slot r i = some (.obj (some a) .takeoff fs)) (h2 : fs[3]? = some (.own (.dil kvs))) (h3 : key r = some ds) (h4 : toKey .t (.tup ds) = some k0)
    (h0 : I 0 (r.set i (some (.ptr a)))) (hs : ∀ k d r, ((look kvs k0).getD [])[k]? = some d → I k r → ∃ r', g d r = some r' ∧ Tr (I (k + 1)) (fun _ _ => False) (F r'))
    (hq : ∀ r, I ((look kvs k0).getD []).length r → slot r i = some (.ptr a) ∧ Q (r.set i (some (.obj (some a) .takeoff fs)))) : Tr Q R (sForE i key g F r) := by
  unfold sForE
  rw [h1]
  simp only [h2]
  refine tr_bind h3 (tr_bind h4 ?_)
  have := tr_forD (F := F) (g := g) (R := fun _ _ => False) I ((look kvs k0).getD []) 0 _ h0 fun k d r hk hr => by
    rw [Nat.zero_add] at hr ⊢
    exact hs k d r hk hr
  rw [Nat.zero_add] at this
  generalize forD g F ((look kvs k0).getD []) (r.set i (some (.ptr a))) = q at this ⊢
  cases this with
  | rt h => exact h.elim
  | @nx r' h =>
    obtain ⟨h5, h6⟩ := hq r' h
    simp only [h5, if_true]
    exact .nx h6
end
/-- from Tr to the end of a def -/
theorem ends_of {z : D} {q : Res} (h : Tr (fun _ => z = .non) (fun d _ => d = z) q) : Ends_ z q := by
  cases h with
  | nx h => exact h
  | rt h => exact h
theorem endsO_of {a : PySem.Addr} {c : CN} {z : D × List Fld} {q : Res} (h : Tr (fun r => z.1 = .non ∧ slot r 0 = some (.obj (some a) c z.2)) (fun d r => d = z.1 ∧ slot r 0 = some (.obj (some a) c z.2)) q) : EndsO a c z q := by
  cases h with
  | nx h => exact h
  | rt h => exact h
/-- a run that returns something -/
theorem ends_some {P : D → Prop} {q : Res} (h : Tr (fun _ => False) (fun d _ => P d) q) : ∃ d, P d ∧ Ends_ d q := by
  cases h with
  | nx h => exact h.elim
  | rt h => exact ⟨_, h, rfl⟩
/-! ### what a def answers -/
theorem runD_tr {n : Nat} {N : List PySem.Str} {F : Nat → ST} {ds : List D} {z : D} (hl : ds.length = n) (h : Tr (fun _ => z = .non) (fun d _ => d = z) (F MX (envOf N (ds.map .dat)))) : runD n N F ds = some z := runD_at hl (ends_of h)
theorem runD_ex {n : Nat} {N : List PySem.Str} {F : Nat → ST} {ds : List D} {P : D → Prop} (hl : ds.length = n) (h : Tr (fun _ => False) (fun d _ => P d) (F MX (envOf N (ds.map .dat)))) : ∃ d, P d ∧ runD n N F ds = some d := by
  obtain ⟨d, h1, h2⟩ := ends_some h
  exact ⟨d, h1, runD_at hl h2⟩
theorem runM_tr {c : CN} {n : Nat} {N : List PySem.Str} {F : Nat → ST} {fs ds : List D} {z : D} (hl : (D.obj c fs :: ds).length = n) (h : Tr (fun _ => z = .non) (fun d _ => d = z) (F MX (envOf N ((D.obj c fs :: ds).map .dat)))) : runM c n N F (.obj c fs :: ds) = some z := runM_at hl (ends_of h)
theorem runM_ex {c : CN} {n : Nat} {N : List PySem.Str} {F : Nat → ST} {fs ds : List D} {P : D → Prop} (hl : (D.obj c fs :: ds).length = n) (h : Tr (fun _ => False) (fun d _ => P d) (F MX (envOf N ((D.obj c fs :: ds).map .dat)))) : ∃ d, P d ∧ runM c n N F (.obj c fs :: ds) = some d := by
  obtain ⟨d, h1, h2⟩ := ends_some h
  exact ⟨d, h1, runM_at hl h2⟩
theorem runO_tr {c : CN} {n : Nat} {N : List PySem.Str} {F : Nat → ST} {fs : List Fld} {ds : List D} {z : D × List Fld} (hl : ds.length = n)
    (h : ∀ a, Tr (fun r => z.1 = .non ∧ slot r 0 = some (.obj (some a) c z.2)) (fun d r => d = z.1 ∧ slot r 0 = some (.obj (some a) c z.2)) (F MX (envOf N (.obj (some a) c fs :: ds.map .dat)))) : runO c n N F fs ds = some z := runO_at hl fun a => endsO_of (h a)
theorem runI_tr {c : CN} {n : Nat} {N : List PySem.Str} {F : Nat → ST} {fs fs' : List Fld} {ds : List D} (hl : ds.length = n)
    (h : ∀ a, Tr (fun r => slot r 0 = some (.obj (some a) c fs')) (fun _ _ => False) (F MX (envOf N (.obj (some a) c fs :: ds.map .dat)))) : runI c n N F fs ds = some (.non, fs') := runI_at hl fun a => endsO_of ((h a).imp (fun r h => ⟨rfl, h⟩) fun d r h => h.elim)
/-! ### association lists -/
section
variable {α β : Type} [DecidableEq α]
def getA (L : List (α × β)) (a : α) : Option β := (L.find? fun p => decide (p.1 = a)).map (·.2)
def putA (L : List (α × β)) (a : α) (b : β) : List (α × β) := if (L.any fun p => decide (p.1 = a)) then L.map fun p => if p.1 = a then (p.1, b) else p else L ++ [(a, b)]
/-- a dict's pairs -/
def enc {γ : Type} (κ : α → List Int) (v : β → γ) (L : List (α × β)) : List (List Int × γ) := L.map fun p => (κ p.1, v p.2)
variable {γ : Type} {κ : α → List Int} {v : β → γ}
theorem getA_cons {p : α × β} {L : List (α × β)} {a : α} : getA (p :: L) a = if p.1 = a then some p.2 else getA L a := by
  unfold getA
  rw [List.find?_cons]
  by_cases h : p.1 = a <;> simp [h]
theorem look_enc (inj : ∀ a b, κ a = κ b → a = b) (L : List (α × β)) (a : α) : look (enc κ v L) (κ a) = (getA L a).map v := by
  induction L with
  | nil => rfl
  | cons p L ih =>
    rw [getA_cons]
    show look ((κ p.1, v p.2) :: enc κ v L) (κ a) = _
    unfold look at ih ⊢
    rw [List.find?_cons]
    by_cases h : p.1 = a
    · simp [h]
    · have h' : κ p.1 ≠ κ a := fun z => h (inj _ _ z)
      simp only [h', decide_false, h, if_false]
      exact ih
theorem put_enc (inj : ∀ a b, κ a = κ b → a = b) (L : List (α × β)) (a : α) (b : β) : put (enc κ v L) (κ a) (v b) = enc κ v (putA L a b) := by
  have hany : ((enc κ v L).any fun p => decide (p.1 = κ a)) = (L.any fun p => decide (p.1 = a)) := by
    unfold enc
    rw [List.any_map]
    congr 1
    funext p
    by_cases h : p.1 = a
    · simp [h]
    · have h' : κ p.1 ≠ κ a := fun z => h (inj _ _ z)
      simp [h, h']
  unfold put putA
  rw [hany]
  split
  · unfold enc
    rw [List.map_map, List.map_map]
    apply List.map_congr_left
    intro p _
    by_cases h : p.1 = a
    · simp [h]
    · have h' : κ p.1 ≠ κ a := fun z => h (inj _ _ z)
      simp [h, h']
  · unfold enc
    rw [List.map_append]
    rfl
theorem enc_len (L : List (α × β)) : (enc κ v L).length = L.length := by simp [enc]
theorem getA_some {L : List (α × β)} {a : α} {b : β} (h : getA L a = some b) : (a, b) ∈ L := by
  induction L with
  | nil => simp [getA] at h
  | cons p L ih =>
    rw [getA_cons] at h
    by_cases q : p.1 = a
    · rw [if_pos q] at h
      cases h
      rw [← q]
      exact List.mem_cons_self
    · rw [if_neg q] at h
      exact List.mem_cons_of_mem _ (ih h)
theorem getA_none {L : List (α × β)} {a : α} : getA L a = none ↔ a ∉ L.map (·.1) := by
  induction L with
  | nil => simp [getA]
  | cons p L ih =>
    rw [getA_cons, List.map_cons, List.mem_cons]
    by_cases q : p.1 = a
    · simp [q]
    · rw [if_neg q, ih]
      constructor
      · rintro h (z | z)
        · exact q z.symm
        · exact h z
      · exact fun h z => h (.inr z)
theorem getA_isSome {L : List (α × β)} {a : α} : (getA L a).isSome = decide (a ∈ L.map (·.1)) := by
  cases h : getA L a with
  | none => simp [getA_none.mp h]
  | some b =>
    have : a ∈ L.map (·.1) := List.mem_map.mpr ⟨_, getA_some h, rfl⟩
    simp [this]
theorem getA_in {L : List (α × β)} {a : α} : (getA L a).isSome = true ↔ a ∈ L.map (·.1) := by
  rw [getA_isSome]; exact decide_eq_true_iff
theorem getA_out {L : List (α × β)} {a : α} : (getA L a).isSome = false ↔ a ∉ L.map (·.1) := by
  rw [getA_isSome]; exact decide_eq_false_iff_not
theorem getA_mem {L : List (α × β)} {a : α} {b : β} (nd : (L.map (·.1)).Nodup) (h : (a, b) ∈ L) : getA L a = some b := by
  induction L with
  | nil => cases h
  | cons p L ih =>
    rw [getA_cons]
    rw [List.map_cons] at nd
    obtain ⟨n1, n2⟩ := List.nodup_cons.mp nd
    rcases List.mem_cons.mp h with z | z
    · rw [← z, if_pos rfl]
    · have : p.1 ≠ a := fun q => n1 (by rw [q]; exact List.mem_map.mpr ⟨_, z, rfl⟩)
      rw [if_neg this]
      exact ih n2 z
theorem any_getA {L : List (α × β)} {a : α} : (L.any fun p => decide (p.1 = a)) = (getA L a).isSome := by
  rw [getA_isSome]
  induction L with
  | nil => rfl
  | cons p L ih =>
    rw [List.any_cons, ih, List.map_cons]
    by_cases q : p.1 = a
    · simp [q]
    · have : a ≠ p.1 := fun z => q z.symm
      simp [q, this]
theorem putA_new {L : List (α × β)} {a : α} {b : β} (h : a ∉ L.map (·.1)) : putA L a b = L ++ [(a, b)] := by
  unfold putA
  rw [any_getA, getA_none.mpr h]
  rfl
theorem putA_keys {L : List (α × β)} {a : α} {b : β} (h : a ∈ L.map (·.1)) : (putA L a b).map (·.1) = L.map (·.1) := by
  unfold putA
  rw [any_getA, getA_isSome, decide_eq_true h, if_pos rfl, List.map_map]
  apply List.map_congr_left
  intro p _
  by_cases q : p.1 = a <;> simp [q]
theorem getA_app_new {L : List (α × β)} {a a' : α} {b : β} (h : a ∉ L.map (·.1)) : getA (L ++ [(a, b)]) a' = if a = a' then some b else getA L a' := by
  induction L with
  | nil => rw [List.nil_append, getA_cons]
  | cons p L ih =>
    have h2 : a ∉ L.map (·.1) := fun z => h (List.mem_cons_of_mem _ z)
    have h1 : a ≠ p.1 := fun z => h (by rw [z]; exact List.mem_cons_self)
    rw [List.cons_append, getA_cons, getA_cons, ih h2]
    by_cases q : p.1 = a'
    · have : a ≠ a' := fun z => h1 (z.trans q.symm)
      simp [q, this]
    · simp [q]
theorem getA_map_set {L : List (α × β)} {a a' : α} {b : β} : getA (L.map fun p => if p.1 = a then (p.1, b) else p) a' = if a = a' then (getA L a').map (fun _ => b) else getA L a' := by
  induction L with
  | nil => simp [getA]
  | cons p L ih =>
    rw [List.map_cons, getA_cons, getA_cons, ih]
    by_cases q : p.1 = a
    · by_cases q2 : a = a'
      · simp [q, q2]
      · simp [q, q2]
    · by_cases q3 : p.1 = a'
      · have q4 : a ≠ a' := fun z => q (q3.trans z.symm)
        rw [if_neg q, if_neg q4, if_pos q3, if_neg q4]
      · simp [q, q3]
theorem getA_putA {L : List (α × β)} {a a' : α} {b : β} : getA (putA L a b) a' = if a = a' then some b else getA L a' := by
  by_cases h : a ∈ L.map (·.1)
  · unfold putA
    rw [any_getA, getA_isSome, decide_eq_true h, if_pos rfl, getA_map_set]
    by_cases q : a = a'
    · subst q
      cases z : getA L a with
      | none => exact absurd h (getA_none.mp z)
      | some y => simp
    · simp [q]
  · rw [putA_new h]
    exact getA_app_new h
theorem putA_nodup {L : List (α × β)} {a : α} {b : β} (nd : (L.map (·.1)).Nodup) : ((putA L a b).map (·.1)).Nodup := by
  by_cases h : a ∈ L.map (·.1)
  · rw [putA_keys h]; exact nd
  · rw [putA_new h, List.map_append]
    exact List.nodup_append.mpr ⟨nd, by simp, fun x hx y hy => by
      have : y = a := by simpa using hy
      subst this
      exact fun z => h (z ▸ hx)⟩
theorem putA_mem {L : List (α × β)} {a : α} {b : β} {p : α × β} (h : p ∈ putA L a b) : p = (a, b) ∨ p ∈ L := by
  unfold putA at h
  split at h
  · obtain ⟨q, hq, e⟩ := List.mem_map.mp h
    by_cases z : q.1 = a
    · rw [if_pos z] at e
      rw [← e, z]
      exact .inl rfl
    · rw [if_neg z] at e
      rw [← e]
      exact .inr hq
  · rcases List.mem_append.mp h with z | z
    · exact .inr z
    · exact .inl (by simpa using z)
theorem putA_len {L : List (α × β)} {a : α} {b : β} : (putA L a b).length ≤ L.length + 1 := by
  unfold putA
  split <;> simp
end
end DL
end

section
set_option linter.all false
set_option maxRecDepth 100000
set_option maxHeartbeats 1000000
/-! E2 (pure): the law's own script, machine, marks, configuration. -/
namespace DL

theorem ev2 {f : O2} {a b : EX} {r : Env} {x y z : D} (h1 : a r = some x) (h2 : b r = some y) (h3 : f x y = some z) : e2 f a b r = some z := by
  unfold DL.e2
  rw [h1, h2]
  exact h3
theorem ev1 {f : D → Option D} {a : EX} {r : Env} {x z : D} (h1 : a r = some x) (h3 : f x = some z) : e1 f a r = some z := by
  unfold DL.e1
  rw [h1]
  exact h3
theorem evA {a : EX} {as : EXs} {r : Env} {x : D} {xs : List D} (h1 : a r = some x) (h2 : as r = some xs) : aC a as r = some (x :: xs) := by
  unfold aC
  rw [h1, h2]
  rfl
theorem evN {r : Env} : aN r = some [] := rfl
theorem evC {g : List D → Option D} {as : EXs} {r : Env} {xs : List D} {z : D} (h1 : as r = some xs) (h2 : g xs = some z) : eCall g as r = some z := by
  unfold eCall
  rw [h1]
  exact h2
theorem evB {a : EX} {r : Env} {b : Bool} (h : a r = some (.bl b)) : (a r).bind blD = some b := by rw [h]; rfl
theorem evI {a : EX} {r : Env} {i : Int} (h : a r = some (.int i)) : (a r).bind intD = some i := by rw [h]; rfl
theorem oMul_r {i j : Int} (h : -(2 ^ 64) < j ∧ j < 2 ^ 64) : oMul (.int i) (.int j) = some (.int (i * j)) := by
  unfold oMul intD
  simp only [Option.bind_some]
  rw [if_pos (.inr h)]
theorem oMul_l {i j : Int} (h : -(2 ^ 64) < i ∧ i < 2 ^ 64) : oMul (.int i) (.int j) = some (.int (i * j)) := by
  unfold oMul intD
  simp only [Option.bind_some]
  rw [if_pos (.inl h)]
theorem oMod_p {i j : Int} (h : 0 < j) : oMod (.int i) (.int j) = some (.int (i % j)) := by
  unfold oMod intD
  simp only [Option.bind_some]
  rw [if_pos h]
theorem oDiv_p {i j : Int} (h : 0 < j) (h2 : j < 1073741824) : oDiv (.int i) (.int j) = some (.int (i / j)) := by
  unfold oDiv intD
  simp only [Option.bind_some]
  rw [if_pos ⟨h, h2⟩]
theorem oIx_at {d : D} {l : List D} {i : Nat} {z : D} (h1 : seqD d = some l) (h2 : l[i]? = some z) : oIx d (.int (i : Nat)) = some z := by
  unfold oIx
  rw [h1]
  show atD l (i : Nat) = some z
  unfold atD
  rw [if_pos (Int.natCast_nonneg i)]
  exact h2
theorem evIx {a b : EX} {r : Env} {d : D} {l : List D} {i : Nat} {z : D} (h1 : a r = some d) (h2 : b r = some (.int (i : Nat))) (h3 : seqD d = some l) (h4 : l[i]? = some z) : eIx a b r = some z := ev2 h1 h2 (oIx_at h3 h4)
theorem map_at {α β : Type} {l : List α} {f : α → β} {i : Nat} {x : α} (h : l[i]? = some x) : (l.map f)[i]? = some (f x) := by rw [List.getElem?_map, h]; rfl
theorem range_lim (n : Nat) (hn : n < 100000) : ((n : Nat) : Int) < 2 ^ 62 ∧ -(2 ^ 62) ≤ ((n : Nat) : Int) := by
  have b1 : (100000 : Int) < 2 ^ 62 := by decide
  have b2 : -(2 ^ 62) ≤ (0 : Int) := by decide
  exact ⟨Int.lt_trans (by omega) b1, Int.le_trans b2 (Int.natCast_nonneg n)⟩
theorem evRange {e : EX} {r : Env} {n : Nat} (h : e r = some (.int (n : Nat))) (hn : n < 100000) : iRange e r = some ((List.range n).map fun i => .int (i : Nat)) := by
  unfold iRange
  rw [evI h, Option.bind_some, if_pos (range_lim n hn)]
  rfl
theorem range_at {n i : Nat} {d : D} (h : ((List.range n).map fun i => D.int (i : Nat))[i]? = some d) : i < n ∧ d = .int (i : Nat) := by
  rw [List.getElem?_map] at h
  obtain ⟨x, h1, h2⟩ := Option.map_eq_some_iff.mp h
  obtain ⟨h3, h4⟩ := List.getElem?_eq_some_iff.mp h1
  rw [List.getElem_range] at h4
  rw [List.length_range] at h3
  subst h4
  exact ⟨h3, h2.symm⟩
theorem snoc_map {α β : Type} (f : α → β) (l : List α) (x : α) : l.map f ++ [f x] = (l ++ [x]).map f := by simp
/-! ### the numbers -/
theorem numbers_ok (l : List Int) (hl : l.length ≤ 63) : ∃ ns : List Int, g_law_numbers [.scr l, .int 14] = some (.lst (ns.map .int)) ∧ ns.length = 14 ∧ ∀ n ∈ ns, 0 ≤ n ∧ n < 1000000 := by
  suffices h : Tr (fun _ => False) (fun d _ => ∃ ns : List Int, ns.length = 14 ∧ (∀ n ∈ ns, 0 ≤ n ∧ n < 1000000) ∧ d = .lst (ns.map .int)) (F_law_numbers MX (envOf N_law_numbers ([.scr l, .int 14].map .dat))) by
    obtain ⟨d, ⟨ns, h1, h2, rfl⟩, h3⟩ := runD_ex (n := 2) rfl h
    exact ⟨ns, h3, h1, h2⟩
  · show Tr _ _ (F_law_numbers MX [some (.dat (.scr l)), some (.dat (.int 14)), none, none, none, none, none])
    unfold F_law_numbers
    have glen : gLen [.scr l] = some (.int l.length) := by simp [gLen, seqD]
    refine tr_seq (tr_set rfl (tr_seq ?_))
    have first : Tr (fun r => ∃ rest : Int, r = [some (.dat (.scr l)), some (.dat (.int 14)), some (.dat (.int rest)), none, none, none, none]) (fun d _ => ∃ ns : List Int, ns.length = 14 ∧ (∀ n ∈ ns, 0 ≤ n ∧ n < 1000000) ∧ d = .lst (ns.map .int))
        (sIf (e2 oGt (eCall gLen (aC (eV 0) aN)) (eC (.int 0))) (sSet 2 (eIx (eV 0) (eC (.int 0)))) sNil [some (.dat (.scr l)), some (.dat (.int 14)), some (.dat (.int 0)), none, none, none, none]) := by
      refine tr_if (b := decide ((0 : Int) < l.length)) (evB (ev2 (x := .int l.length) (y := .int 0) (evC (evA rfl evN) glen) rfl rfl)) (fun hb => ?_) (fun hb => tr_nil ⟨0, rfl⟩)
      have hp : 0 < l.length := by have := of_decide_eq_true hb; omega
      refine tr_set (evIx (i := 0) (l := l.map .int) (z := .int l[0]) rfl rfl rfl ?_) ⟨l[0], rfl⟩
      rw [List.getElem?_map, List.getElem?_eq_getElem hp]; rfl
    refine first.imp (fun r ⟨rest, hr⟩ => ?_) (fun _ _ h => h)
    subst hr
    obtain ⟨by_, hby⟩ : ∃ b : Bool, e2 oGe (eV 2) (e2 oPow (eC (.int 10)) (eC (.int 18))) [some (.dat (.scr l)), some (.dat (.int 14)), some (.dat (.int rest)), none, none, none, none] = some (.bl b) := ⟨_, ev2 rfl rfl rfl⟩
    refine tr_seq (tr_set hby (tr_seq (tr_own (x := .lst []) rfl (tr_seq ?_))))
    refine tr_for (l := (List.range 14).map fun i => .int (i : Nat)) (fun k r => ∃ (rest : Int) (ns : List Int), r = [some (.dat (.scr l)), some (.dat (.int 14)), some (.dat (.int rest)), some (.dat (.bl by_)), some (.own (.lst (ns.map .int))), none, none] ∧ ns.length = k ∧ ∀ n ∈ ns, 0 ≤ n ∧ n < 1000000)
      (evRange (n := 14) rfl (by decide)) ⟨rest, [], rfl, rfl, fun n h => by cases h⟩ ?_ ?_
    · rintro k d r hk ⟨rest, ns, rfl, hns, hb⟩
      obtain ⟨hk, rfl⟩ := range_at hk
      refine ⟨_, rfl, tr_seq ?_⟩
      have app : ∀ (r : Env) (n : Int), 0 ≤ n ∧ n < 1000000 → ∀ m ∈ ns ++ [n], 0 ≤ m ∧ m < 1000000 := fun r n hn m hm => by
        rcases List.mem_append.mp hm with z | z
        · exact hb m z
        · have e : m = n := by simpa using z
          rw [e]; exact hn
      have short : (ns.map D.int).length < lim := by rw [List.length_map, hns]; unfold lim; omega
      have hmod : ∀ x : Int, 0 ≤ x % 1000000 ∧ x % 1000000 < 1000000 := fun x => ⟨Int.emod_nonneg _ (by omega), Int.emod_lt_of_pos _ (by omega)⟩
      have hcond : ∃ b, (eAnd (eV 3) (e2 oGt (eV 2) (eC (.int 0)))  [some (.dat (.scr l)), some (.dat (.int 14)), some (.dat (.int rest)), some (.dat (.bl by_)), some (.own (.lst (ns.map .int))), some (.dat (.int (k : Nat))), none]).bind blD = some b := by
        cases by_ <;> exact ⟨_, rfl⟩
      obtain ⟨b, hcond⟩ := hcond
      refine tr_if hcond (fun _ => ?_) (fun _ => ?_)
      · refine tr_seq (tr_app (l := ns.map .int) rfl (ev2 rfl rfl (oMod_p (by decide))) short (tr_set (ev2 rfl rfl (oDiv_p (by decide) (by decide))) (tr_seq (tr_fgt (tr_nil ⟨rest / 1000000, ns ++ [rest % 1000000], ?_, by simp [hns], app [] _ (hmod _)⟩)))))
        simp [setP, List.foldl]
      · refine tr_seq (tr_set rfl (tr_seq ?_))
        have cell : Tr (fun r => ∃ c : Int, r = [some (.dat (.scr l)), some (.dat (.int 14)), some (.dat (.int rest)), some (.dat (.bl by_)), some (.own (.lst (ns.map .int))), some (.dat (.int (k : Nat))), some (.dat (.int c))]) (fun d _ => ∃ ns : List Int, ns.length = 14 ∧ (∀ n ∈ ns, 0 ≤ n ∧ n < 1000000) ∧ d = .lst (ns.map .int))
            (sIf (e2 oGt (eCall gLen (aC (eV 0) aN)) (eC (.int 0))) (sSet 6 (e2 oAdd (eIx (eV 0) (e2 oMod (eV 5) (eCall gLen (aC (eV 0) aN)))) (e2 oMul (eC (.int 7919)) (eV 5)))) sNil [some (.dat (.scr l)), some (.dat (.int 14)), some (.dat (.int rest)), some (.dat (.bl by_)), some (.own (.lst (ns.map .int))), some (.dat (.int (k : Nat))), some (.dat (.int 13))]) := by
          refine tr_if (b := decide ((0 : Int) < l.length)) (evB (ev2 (x := .int l.length) (y := .int 0) (evC (evA rfl evN) glen) rfl rfl)) (fun hb => ?_) (fun hb => tr_nil ⟨13, rfl⟩)
          have hp : 0 < l.length := by have := of_decide_eq_true hb; omega
          have hm : k % l.length < l.length := Nat.mod_lt _ hp
          have e1 : oMod (.int (k : Nat)) (.int (l.length : Nat)) = some (.int ((k % l.length : Nat) : Int)) := by
            rw [oMod_p (by omega)]
            congr 2
          exact tr_set (ev2 (evIx (l := l.map .int) (i := k % l.length) (z := .int l[k % l.length]) rfl (ev2 rfl (evC (evA rfl evN) glen) e1) rfl (by rw [List.getElem?_map, List.getElem?_eq_getElem hm]; rfl)) (ev2 rfl rfl (oMul_l (by decide))) rfl) ⟨_, rfl⟩
        refine cell.imp (fun r ⟨c, hr⟩ => ?_) (fun _ _ h => h)
        subst hr
        refine tr_app (l := ns.map .int) rfl (ev2 (ev2 (ev2 (ev2 (ev2 rfl rfl (oMul_r (by decide))) rfl (oMod_p (by decide))) rfl (oMul_r (by decide))) rfl (oMod_p (by decide))) rfl (oMod_p (by decide))) short (tr_seq (tr_fgt (tr_nil ⟨rest, ns ++ [c * 48271 % 2147483647 * 69621 % 2147483629 % 1000000], ?_, by simp [hns], app [] _ (hmod _)⟩)))
        simp [setP, List.foldl]
    · rintro r ⟨rest, ns, rfl, hns, hb⟩
      exact tr_seq (tr_frz rfl rfl (tr_ret rfl ⟨ns, by simpa using hns, hb, rfl⟩))
end DL
end

section
set_option linter.all false
set_option maxRecDepth 100000
set_option maxHeartbeats 1000000
/-! E3 (pure): machines as the law makes them. -/
namespace DL
/-- a step -/
structure Ste where
  s : Int
  l : Int
  g : Int
  laid : List Int
  w : Int
def Ste.row (x : Ste) : D := .tup [.int x.s, .int x.l, .int x.g, .tup (x.laid.map .int), .int x.w]
def Ste.d (x : Ste) : D := .obj .step [.int x.s, .int x.l, .int x.g, .tup (x.laid.map .int), .int x.w]
structure Good (S L : Int) (x : Ste) : Prop where
  s0 : 0 ≤ x.s
  s1 : x.s < S
  l0 : 0 ≤ x.l
  l1 : x.l < L
  g0 : 0 ≤ x.g
  g1 : x.g < S
  two : x.laid.length ≤ 2
  lt : ∀ y ∈ x.laid, 0 ≤ y ∧ y < L
  w0 : 0 ≤ x.w
structure Mach where
  S : Int
  L : Int
  st : List Ste
  S1 : 1 ≤ S
  S4 : S ≤ 4
  L1 : 1 ≤ L
  L3 : L ≤ 3
  n10 : st.length ≤ 10
  ok : ∀ x ∈ st, Good S L x
def Mach.parts (M : Mach) : D := .lst [.int M.S, .int M.L, .lst (M.st.map Ste.row)]
def Mach.d (M : Mach) : D := .obj .machine [.int M.S, .int M.L, .tup (M.st.map Ste.d)]

theorem evT {as : EXs} {r : Env} {xs : List D} (h1 : as r = some xs) (h2 : xs.length ≤ 100) : eTup as r = some (.tup xs) := by
  unfold eTup
  rw [h1]
  show (if xs.length ≤ lim then _ else none) = _
  rw [if_pos (by unfold lim; omega)]
theorem evL {as : EXs} {r : Env} {xs : List D} (h1 : as r = some xs) (h2 : xs.length ≤ 100) : eLst as r = some (.lst xs) := by
  unfold eLst
  rw [h1]
  show (if xs.length ≤ lim then _ else none) = _
  rw [if_pos (by unfold lim; omega)]
theorem modr {i j : Int} (h : 0 < j) : 0 ≤ i % j ∧ i % j < j := ⟨Int.emod_nonneg _ (by omega), Int.emod_lt_of_pos _ h⟩

theorem rows_ok (ns : List Int) (hn : ns.length = 14) (S L : Int) (S1 : 1 ≤ S) (S4 : S ≤ 4) (L1 : 1 ≤ L) (L3 : L ≤ 3) (c : Nat) (hc : c ≤ 10) :
    ∃ st : List Ste, g_law_rows [.lst (ns.map .int), .int 1, .int S, .int L, .int (c : Nat)] = some (.lst (st.map Ste.row)) ∧ st.length = c ∧ ∀ x ∈ st, Good S L x := by
  suffices h : Tr (fun _ => False) (fun d _ => ∃ st : List Ste, st.length = c ∧ (∀ x ∈ st, Good S L x) ∧ d = .lst (st.map Ste.row)) (F_law_rows MX (envOf N_law_rows ([.lst (ns.map .int), .int 1, .int S, .int L, .int (c : Nat)].map .dat))) by
    obtain ⟨d, ⟨st, h1, h2, rfl⟩, h3⟩ := runD_ex (n := 5) rfl h
    exact ⟨st, h3, h1, h2⟩
  show Tr _ _ (F_law_rows MX [some (.dat (.lst (ns.map .int))), some (.dat (.int 1)), some (.dat (.int S)), some (.dat (.int L)), some (.dat (.int (c : Nat))), none, none, none, none, none, none, none, none, none])
  unfold F_law_rows
  refine tr_seq (tr_own (x := .lst []) rfl (tr_seq ?_))
  refine tr_for (l := (List.range c).map fun i => .int (i : Nat)) (fun k r => ∃ st : List Ste, r = [some (.dat (.lst (ns.map .int))), some (.dat (.int 1)), some (.dat (.int S)), some (.dat (.int L)), some (.dat (.int (c : Nat))), some (.own (.lst (st.map Ste.row))), none, none, none, none, none, none, none, none] ∧ st.length = k ∧ ∀ x ∈ st, Good S L x)
    (evRange rfl (by omega)) ⟨[], rfl, rfl, fun n h => by cases h⟩ ?_ ?_
  · rintro k d r hk ⟨st, rfl, hst, hg⟩
    obtain ⟨hk, rfl⟩ := range_at hk
    refine ⟨_, rfl, tr_seq ?_⟩
    have hlt : 1 + k < ns.length := by omega
    have e1 : oAdd (.int 1) (.int (k : Nat)) = some (.int ((1 + k : Nat) : Int)) := congrArg (fun z => some (D.int z)) (show (1 : Int) + (k : Nat) = ((1 + k : Nat) : Int) by omega)
    obtain ⟨i, hi⟩ : ∃ i, i = 1 + k := ⟨_, rfl⟩
    rw [← hi] at e1 hlt
    obtain ⟨n, hn1⟩ : ∃ n, ns[i]? = some n := ⟨_, List.getElem?_eq_getElem hlt⟩
    refine tr_set (evIx (l := ns.map .int) (i := i) (z := .int n) rfl (ev2 rfl rfl e1) rfl (map_at hn1)) (tr_seq ?_)
    clear e1 hn1
    have hsz : ∃ sz : Nat, sz ≤ 2 ∧ eIx (eLst (aC (eC (.int 0)) (aC (eC (.int 0)) (aC (eC (.int 1)) (aC (eC (.int 2)) (aC (eC (.int 2)) aN)))))) (e2 oMod (eV 7) (eC (.int 5)))
        [some (.dat (.lst (ns.map .int))), some (.dat (.int 1)), some (.dat (.int S)), some (.dat (.int L)), some (.dat (.int (c : Nat))), some (.own (.lst (st.map Ste.row))), some (.dat (.int (k : Nat))), some (.dat (.int n)), none, none, none, none, none, none] = some (.int (sz : Nat)) := by
      have h5 := modr (i := n) (j := 5) (by omega)
      have hm : ∀ m : Nat, n % 5 = (m : Nat) → oMod (.int n) (.int 5) = some (.int (m : Nat)) := fun m hm => by rw [oMod_p (by omega), hm]
      have hl : eLst (aC (eC (.int 0)) (aC (eC (.int 0)) (aC (eC (.int 1)) (aC (eC (.int 2)) (aC (eC (.int 2)) aN))))) [some (.dat (.lst (ns.map .int))), some (.dat (.int 1)), some (.dat (.int S)), some (.dat (.int L)), some (.dat (.int (c : Nat))), some (.own (.lst (st.map Ste.row))), some (.dat (.int (k : Nat))), some (.dat (.int n)), none, none, none, none, none, none] = some (.lst [.int 0, .int 0, .int 1, .int 2, .int 2]) := evL rfl (by decide)
      have : n % 5 = (0 : Nat) ∨ n % 5 = (1 : Nat) ∨ n % 5 = (2 : Nat) ∨ n % 5 = (3 : Nat) ∨ n % 5 = (4 : Nat) := by omega
      rcases this with z | z | z | z | z
      · exact ⟨0, by omega, evIx hl (ev2 rfl rfl (hm 0 z)) rfl rfl⟩
      · exact ⟨0, by omega, evIx hl (ev2 rfl rfl (hm 1 z)) rfl rfl⟩
      · exact ⟨1, by omega, evIx hl (ev2 rfl rfl (hm 2 z)) rfl rfl⟩
      · exact ⟨2, by omega, evIx hl (ev2 rfl rfl (hm 3 z)) rfl rfl⟩
      · exact ⟨2, by omega, evIx hl (ev2 rfl rfl (hm 4 z)) rfl rfl⟩
    obtain ⟨sz, hsz2, hsz⟩ := hsz
    refine tr_set hsz (tr_seq (tr_set (ev2 rfl rfl (oDiv_p (by decide) (by decide))) (tr_seq (tr_own (x := .lst []) rfl (tr_seq ?_)))))
    refine tr_for (l := (List.range sz).map fun i => .int (i : Nat)) (fun j r => ∃ (n : Int) (laid : List Int), r = [some (.dat (.lst (ns.map .int))), some (.dat (.int 1)), some (.dat (.int S)), some (.dat (.int L)), some (.dat (.int (c : Nat))), some (.own (.lst (st.map Ste.row))), some (.dat (.int (k : Nat))), some (.dat (.int n)), some (.dat (.int (sz : Nat))), some (.own (.lst (laid.map .int))), none, none, none, none] ∧ laid.length = j ∧ ∀ y ∈ laid, 0 ≤ y ∧ y < L)
      (evRange rfl (by omega)) ⟨n / 5, [], rfl, rfl, fun y h => by cases h⟩ ?_ ?_
    · rintro j d r hj ⟨n, laid, rfl, hlaid, hy⟩
      obtain ⟨hj, rfl⟩ := range_at hj
      refine ⟨_, rfl, tr_seq (tr_app (l := laid.map .int) rfl (ev2 rfl rfl (oMod_p (by omega))) (by rw [List.length_map, hlaid]; unfold lim; omega) (tr_seq (tr_set (ev2 rfl rfl (oDiv_p (by omega) (by omega))) (tr_seq (tr_fgt (tr_nil ⟨n / L, laid ++ [n % L], ?_, by simp [hlaid], ?_⟩))))))⟩
      · simp [setP, List.foldl]
      · intro y hm
        rcases List.mem_append.mp hm with z | z
        · exact hy y z
        · have e : y = n % L := by simpa using z
          rw [e]; exact modr (by omega)
    · rintro r ⟨n, laid, rfl, hlaid, hy⟩
      have hlaid : laid.length = sz := by simpa using hlaid
      refine tr_seq (tr_set (ev2 rfl rfl (oMod_p (by omega))) (tr_seq (tr_set (ev2 rfl rfl (oDiv_p (by omega) (by omega))) (tr_seq (tr_set (ev2 rfl rfl (oMod_p (by omega))) (tr_seq (tr_set (ev2 rfl rfl (oDiv_p (by omega) (by omega))) (tr_seq (tr_set (ev2 rfl rfl (oMod_p (by omega))) (tr_seq (tr_frz rfl rfl ?_)))))))))))
      have hs := modr (i := n) (j := S) (by omega)
      have hl := modr (i := n / S) (j := L) (by omega)
      have hg2 := modr (i := n / S / L) (j := S) (by omega)
      have hw := modr (i := n / S / L / S) (j := 6) (by omega)
      refine tr_seq (tr_app (l := st.map Ste.row) (d := Ste.row ⟨n % S, n / S % L, n / S / L % S, laid, n / S / L / S % 6⟩) rfl (evT (evA rfl (evA rfl (evA rfl (evA (evC (evA rfl evN) rfl) (evA (ev2 (ev2 rfl rfl (oDiv_p (by omega) (by omega))) rfl (oMod_p (by omega))) evN))))) (by simp)) (by rw [List.length_map, hst]; unfold lim; omega) (tr_seq (tr_fgt (tr_nil ⟨st ++ [⟨n % S, n / S % L, n / S / L % S, laid, n / S / L / S % 6⟩], ?_, by simp [hst], ?_⟩))))
      · simp [setP, List.foldl]
      · intro x hm
        rcases List.mem_append.mp hm with z | z
        · exact hg x z
        · have e : x = ⟨n % S, n / S % L, n / S / L % S, laid, n / S / L / S % 6⟩ := by simpa using z
          rw [e]
          exact ⟨hs.1, hs.2, hl.1, hl.2, hg2.1, hg2.2, by show laid.length ≤ 2; omega, hy, hw.1⟩
  · rintro r ⟨st, rfl, hst, hg⟩
    exact tr_seq (tr_frz rfl rfl (tr_ret rfl ⟨st, by simpa using hst, hg, rfl⟩))
theorem machine_ok (ns : List Int) (hn : ns.length = 14) : ∃ M : Mach, g_law_machine [.lst (ns.map .int), .int 0] = some M.parts := by
  have hp : 0 < ns.length := by omega
  generalize hx : ns[0] = x
  have hx0 : ns[0]? = some x := by rw [List.getElem?_eq_getElem hp, hx]
  have h4 := modr (i := x) (j := 4) (by omega)
  have h3 := modr (i := x / 4) (j := 3) (by omega)
  have h11 := modr (i := x / 12) (j := 11) (by omega)
  obtain ⟨c, hc⟩ : ∃ c : Nat, x / 12 % 11 = (c : Nat) := ⟨(x / 12 % 11).toNat, by omega⟩
  obtain ⟨st, h1, h2, h5⟩ := rows_ok ns hn (x % 4 + 1) (x / 4 % 3 + 1) (by omega) (by omega) (by omega) (by omega) c (by omega)
  refine ⟨⟨x % 4 + 1, x / 4 % 3 + 1, st, by omega, by omega, by omega, by omega, by omega, h5⟩, runD_tr rfl ?_⟩
  show Tr _ _ (F_law_machine MX [some (.dat (.lst (ns.map .int))), some (.dat (.int 0)), none, none])
  unfold F_law_machine
  have at0 : ∀ a b : Option SV, eIx (eV 0) (eV 1) [some (.dat (.lst (ns.map .int))), some (.dat (.int 0)), a, b] = some (.int x) := fun a b => evIx (i := 0) (l := ns.map .int) rfl rfl rfl (map_at hx0)
  refine tr_seq (tr_set (ev2 (ev2 (at0 _ _) rfl (oMod_p (by omega))) rfl rfl) (tr_seq (tr_set (ev2 (ev2 (ev2 (at0 _ _) rfl (oDiv_p (by omega) (by omega))) rfl (oMod_p (by omega))) rfl rfl) (tr_ret (evL (evA rfl (evA rfl (evA (evC (evA rfl (evA (ev2 rfl rfl rfl) (evA rfl (evA rfl (evA (ev2 (ev2 (at0 _ _) rfl (oDiv_p (by omega) (by omega))) rfl (oMod_p (by omega))) evN))))) ?_) evN))) ?_) rfl))))
  · rw [hc]; exact h1
  · simp
end DL
end

section
set_option linter.all false
set_option maxRecDepth 100000
set_option maxHeartbeats 1000000
/-! E4 (pure): marks, configurations; the machine made. -/
namespace DL
theorem marks_ok (x : Int) (c : Nat) (hc : c ≤ 10) : ∃ mk : List Int, g_law_marks [.int x, .int (c : Nat)] = some (.tup (mk.map .int)) ∧ mk.length ≤ 10 ∧ ∀ i ∈ mk, 0 ≤ i ∧ i < c := by
  suffices h : Tr (fun _ => False) (fun d _ => ∃ mk : List Int, mk.length ≤ 10 ∧ (∀ i ∈ mk, 0 ≤ i ∧ i < c) ∧ d = .tup (mk.map .int)) (F_law_marks MX (envOf N_law_marks ([.int x, .int (c : Nat)].map .dat))) by
    obtain ⟨d, ⟨mk, h1, h2, rfl⟩, h3⟩ := runD_ex (n := 2) rfl h
    exact ⟨mk, h3, h1, h2⟩
  show Tr _ _ (F_law_marks MX [some (.dat (.int x)), some (.dat (.int (c : Nat))), none, none])
  unfold F_law_marks
  refine tr_seq (tr_own (x := .lst []) rfl (tr_seq ?_))
  refine tr_for (l := (List.range c).map fun i => .int (i : Nat)) (fun k r => ∃ (x : Int) (mk : List Int), r = [some (.dat (.int x)), some (.dat (.int (c : Nat))), some (.own (.lst (mk.map .int))), none] ∧ mk.length ≤ k ∧ ∀ i ∈ mk, 0 ≤ i ∧ i < c)
    (evRange rfl (by omega)) ⟨x, [], rfl, Nat.zero_le _, fun i h => by cases h⟩ ?_ ?_
  · rintro k d r hk ⟨x, mk, rfl, hm, hb⟩
    obtain ⟨hk, rfl⟩ := range_at hk
    refine ⟨_, rfl, tr_seq ?_⟩
    have step : ∀ (b : Bool), Tr (fun r => ∃ mk' : List Int, r = [some (.dat (.int x)), some (.dat (.int (c : Nat))), some (.own (.lst (mk'.map .int))), some (.dat (.int (k : Nat)))] ∧ mk'.length ≤ k + 1 ∧ ∀ i ∈ mk', 0 ≤ i ∧ i < c)
        (fun d _ => ∃ mk : List Int, mk.length ≤ 10 ∧ (∀ i ∈ mk, 0 ≤ i ∧ i < c) ∧ d = .tup (mk.map .int)) (sIf (e2 oEqI (e2 oMod (eV 0) (eC (.int 3))) (eC (.int 1))) (sApp (.s 2) (eV 3)) sNil [some (.dat (.int x)), some (.dat (.int (c : Nat))), some (.own (.lst (mk.map .int))), some (.dat (.int (k : Nat)))]) := fun _ => by
      refine tr_if (b := decide (x % 3 = 1)) (evB (ev2 (ev2 rfl rfl (oMod_p (by omega))) rfl rfl)) (fun _ => ?_) (fun _ => tr_nil ⟨mk, rfl, by omega, hb⟩)
      refine tr_app (l := mk.map .int) rfl rfl (by rw [List.length_map]; unfold lim; omega) ⟨mk ++ [((k : Nat) : Int)], by simp [setP, slot], by simp; omega, ?_⟩
      intro i hi
      rcases List.mem_append.mp hi with z | z
      · exact hb i z
      · have e : i = (k : Nat) := by simpa using z
        rw [e]; omega
    refine (step true).imp (fun r ⟨mk', hr, h1, h2⟩ => ?_) (fun _ _ h => h)
    subst hr
    exact tr_seq (tr_set (ev2 rfl rfl (oDiv_p (by omega) (by omega))) (tr_seq (tr_fgt (tr_nil ⟨x / 3, mk', rfl, h1, h2⟩))))
  · rintro r ⟨x, mk, rfl, hm, hb⟩
    have hm : mk.length ≤ c := by simpa using hm
    exact tr_seq (tr_frz rfl rfl (tr_ret (evC (evA rfl evN) rfl) ⟨mk, by omega, hb, rfl⟩))
/-- a configuration -/
structure Conf (M : Mach) where
  s : Int
  pile : List Int
  s0 : 0 ≤ s
  s1 : s < M.S
  p5 : pile.length ≤ 5
  ok : ∀ y ∈ pile, 0 ≤ y ∧ y < M.L
def Conf.d {M : Mach} (C : Conf M) : D := .tup [.int C.s, .tup (C.pile.map .int)]
theorem conf_ok (M : Mach) (x : Int) : ∃ C : Conf M, g_law_configuration [.int x, .int M.S, .int M.L, .int 5] = some C.d := by
  have S1 := M.S1; have S4 := M.S4; have L1 := M.L1; have L3 := M.L3
  suffices h : Tr (fun _ => False) (fun d _ => ∃ C : Conf M, d = C.d) (F_law_configuration MX (envOf N_law_configuration ([.int x, .int M.S, .int M.L, .int 5].map .dat))) by
    obtain ⟨d, ⟨C, rfl⟩, h3⟩ := runD_ex (n := 4) rfl h
    exact ⟨C, h3⟩
  show Tr _ _ (F_law_configuration MX [some (.dat (.int x)), some (.dat (.int M.S)), some (.dat (.int M.L)), some (.dat (.int 5)), none, none, none])
  unfold F_law_configuration
  have h8 := modr (i := x) (j := 8) (by omega)
  have h6 := modr (i := x % 8) (j := 6) (by omega)
  obtain ⟨c, hc⟩ : ∃ c : Nat, x % 8 % 6 = (c : Nat) := ⟨(x % 8 % 6).toNat, by omega⟩
  refine tr_seq (tr_own (x := .lst []) rfl (tr_seq (tr_set (ev2 (ev2 rfl rfl (oDiv_p (by omega) (by omega))) rfl (oDiv_p (by omega) (by omega))) (tr_seq ?_))))
  refine tr_for (l := (List.range c).map fun i => .int (i : Nat)) (fun k r => ∃ (z : Int) (p : List Int), r = [some (.dat (.int x)), some (.dat (.int M.S)), some (.dat (.int M.L)), some (.dat (.int 5)), some (.own (.lst (p.map .int))), some (.dat (.int z)), none] ∧ p.length = k ∧ ∀ y ∈ p, 0 ≤ y ∧ y < M.L)
    (evRange (n := c) (ev2 (ev2 rfl rfl (oMod_p (by omega))) rfl (by
      show oMod (.int (x % 8)) (.int 6) = _
      rw [oMod_p (by omega), hc])) (by omega)) ⟨x / 8 / M.S, [], rfl, rfl, fun i h => by cases h⟩ ?_ ?_
  · rintro k d r hk ⟨z, p, rfl, hp, hb⟩
    obtain ⟨hk, rfl⟩ := range_at hk
    refine ⟨_, rfl, tr_seq (tr_app (l := p.map .int) rfl (ev2 rfl rfl (oMod_p (by omega))) (by rw [List.length_map]; unfold lim; omega) (tr_seq (tr_set (ev2 (ev2 rfl rfl (oDiv_p (by omega) (by omega))) (ev2 rfl rfl (oMul_l (by decide))) rfl) (tr_seq (tr_fgt (tr_nil ⟨z / M.L + 7 * (k : Nat), p ++ [z % M.L], by simp [setP, List.foldl], by simp [hp], ?_⟩))))))⟩
    intro y hy
    rcases List.mem_append.mp hy with q | q
    · exact hb y q
    · have e : y = z % M.L := by simpa using q
      rw [e]; exact modr (by omega)
  · rintro r ⟨z, p, rfl, hp, hb⟩
    have hp : p.length = c := by simpa using hp
    have hs := modr (i := x / 8) (j := M.S) (by omega)
    exact tr_seq (tr_frz rfl rfl (tr_ret (evT (evA (ev2 (ev2 rfl rfl (oDiv_p (by omega) (by omega))) rfl (oMod_p (by omega))) (evA (evC (evA rfl evN) rfl) evN)) (by simp)) ⟨⟨x / 8 % M.S, p, hs.1, hs.2, by omega, hb⟩, rfl⟩))
/-! ### Step(..), Machine(..) -/
theorem evMk {c : CN} {g : GO} {as : EXs} {r : Env} {ds fs : List D} {z : D × List Fld} (h1 : as r = some ds) (h2 : g [] ds = some z) (h3 : fldsD z.2 = some fs) : eMake c g as r = some (.obj c fs) := by
  unfold eMake
  rw [h1, Option.bind_some, h2, Option.bind_some, h3]
  rfl
theorem step_made (x : Ste) : g_Step_init [] [.int x.s, .int x.l, .int x.g, .tup (x.laid.map .int), .int x.w] = some (.non, [.dat (.int x.s), .dat (.int x.l), .dat (.int x.g), .dat (.tup (x.laid.map .int)), .dat (.int x.w)]) := by
  refine runI_tr rfl fun a => ?_
  show Tr _ _ (F_Step_init MX [some (.obj (some a) .step []), some (.dat (.int x.s)), some (.dat (.int x.l)), some (.dat (.int x.g)), some (.dat (.tup (x.laid.map .int))), some (.dat (.int x.w))])
  unfold F_Step_init
  exact tr_seq (tr_fld rfl rfl rfl (tr_seq (tr_fld rfl rfl rfl (tr_seq (tr_fld rfl rfl rfl (tr_seq (tr_fld (evC (evA rfl evN) rfl) rfl rfl (tr_fld rfl rfl rfl rfl))))))))
theorem leLt_ok {a b c : EX} {r : Env} {i j k : Int} (h1 : a r = some (.int i)) (h2 : b r = some (.int j)) (h3 : c r = some (.int k)) (h : i ≤ j ∧ j < k) : eLeLt a b c r = some (.bl true) := by
  unfold eLeLt
  rw [evI h1, evI h2, Option.bind_some, Option.bind_some, if_pos h.1, evI h3, Option.bind_some, decide_eq_true h.2]
theorem not_t {a : EX} {r : Env} {b : Bool} (h : a r = some (.bl b)) : eNot a r = some (.bl (!b)) := by
  unfold eNot
  rw [evB h]
  rfl
theorem or_f {a b : EX} {r : Env} {y : Bool} (h1 : a r = some (.bl false)) (h2 : b r = some (.bl y)) : eOr a b r = some (.bl y) := by
  unfold eOr
  rw [evB h1, Option.bind_some, if_neg Bool.false_ne_true, h2]
  rfl
theorem or_t {a b : EX} {r : Env} (h1 : a r = some (.bl true)) : eOr a b r = some (.bl true) := by
  unfold eOr
  rw [evB h1]
  rfl
theorem or_b {a b : EX} {r : Env} {x y : Bool} (h1 : a r = some (.bl x)) (h2 : b r = some (.bl y)) : eOr a b r = some (.bl (x || y)) := by
  cases x with
  | true => exact or_t h1
  | false => exact or_f h1 h2
theorem and_t {a b : EX} {r : Env} {y : Bool} (h1 : a r = some (.bl true)) (h2 : b r = some (.bl y)) : eAnd a b r = some (.bl y) := by
  unfold eAnd
  rw [evB h1, Option.bind_some, if_pos rfl, h2]
  rfl
theorem and_f {a b : EX} {r : Env} (h1 : a r = some (.bl false)) : eAnd a b r = some (.bl false) := by
  unfold eAnd
  rw [evB h1]
  rfl
/-- [e for x in it], each e known -/
theorem lcD_map {i : Nat} {e : EX} {r : Env} {h : D → D} : ∀ (l : List D), (∀ d ∈ l, e (r.set i (some (.dat d))) = some (h d)) → lcD i (eC (.bl true)) e r l = some (l.map h)
  | [], _ => rfl
  | d :: l, q => by
    unfold lcD
    show (some true).bind _ = _
    rw [Option.bind_some, if_pos rfl, q d List.mem_cons_self, lcD_map l fun x hx => q x (List.mem_cons_of_mem _ hx)]
    rfl
theorem evLc {i : Nat} {it : EXs} {e : EX} {r : Env} {l : List D} {h : D → D} (h1 : it r = some l) (h2 : l.length ≤ 100000) (h3 : ∀ d ∈ l, e (r.set i (some (.dat d))) = some (h d)) : eLc i it (eC (.bl true)) e r = some (.lst (l.map h)) := by
  unfold eLc
  rw [h1]
  show (if l.length ≤ lim then _ else none) = _
  rw [if_pos (by unfold lim; omega), lcD_map l h3]
  rfl
theorem bls_all {l : List D} (h : ∀ d ∈ l, d = .bl true) : ∃ bs, blsD l = some bs ∧ bs.all id = true := by
  induction l with
  | nil => exact ⟨[], rfl, rfl⟩
  | cons d l ih =>
    obtain ⟨bs, h1, h2⟩ := ih fun x hx => h x (List.mem_cons_of_mem _ hx)
    refine ⟨true :: bs, ?_, by simpa using h2⟩
    rw [h d List.mem_cons_self]
    unfold blsD
    rw [h1]
    rfl
theorem gAll_t {l : List D} (h : ∀ d ∈ l, d = .bl true) : gAll [.lst l] = some (.bl true) := by
  obtain ⟨bs, h1, h2⟩ := bls_all h
  unfold gAll
  show ((some l).bind blsD).map _ = _
  rw [Option.bind_some, h1, Option.map_some, h2]
theorem fits_ok {S L : Int} {x : Ste} (g : Good S L x) : g_fits [x.d, .int S, .int L] = some (.bl true) := by
  obtain ⟨s0, s1, l0, l1, g0, g1, two, lt, w0⟩ := g
  refine runD_tr rfl ?_
  show Tr _ _ (F_fits MX [some (.dat x.d), some (.dat (.int S)), some (.dat (.int L)), none])
  unfold F_fits
  refine tr_seq (tr_if (b := false) (evB (or_f (y := false) (not_t (b := true) (leLt_ok (i := 0) (j := x.s) (k := S) rfl rfl rfl ⟨s0, s1⟩)) (or_f (y := false) (not_t (b := true) (leLt_ok (i := 0) (j := x.g) (k := S) rfl rfl rfl ⟨g0, g1⟩)) (not_t (b := true) (leLt_ok (i := 0) (j := x.l) (k := L) rfl rfl rfl ⟨l0, l1⟩))))) (fun h => nomatch h) fun _ => tr_nil (tr_seq ?_))
  refine tr_if (b := false) (evB (or_f (y := false) (ev2 (x := .int x.laid.length) (y := .int 2) (evC (evA rfl evN) ?_) rfl ?_) (ev2 (x := .int x.w) (y := .int 0) rfl rfl ?_))) (fun h => nomatch h) fun _ => tr_nil (tr_ret (evC (evA (evLc (l := x.laid.map .int) (h := fun _ => .bl true) rfl (by rw [List.length_map]; omega) ?_) evN) (gAll_t fun d hd => ?_)) rfl)
  · show some (D.int ((x.laid.map D.int).length : Nat)) = _
    rw [List.length_map]
  · show some (D.bl (decide ((2 : Int) < x.laid.length))) = _
    rw [decide_eq_false (by omega)]
  · show some (D.bl (decide (x.w < (0 : Int)))) = _
    rw [decide_eq_false (by omega)]
  · intro d hd
    obtain ⟨y, hy, rfl⟩ := List.mem_map.mp hd
    exact leLt_ok (i := 0) (j := y) (k := L) rfl rfl rfl (lt y hy)
  · obtain ⟨y, hy, rfl⟩ := List.mem_map.mp hd
    rfl
theorem machine_made (M : Mach) : g_Machine_init [] [.int M.S, .int M.L, .lst (M.st.map Ste.d)] = some (.non, [.dat (.int M.S), .dat (.int M.L), .dat (.tup (M.st.map Ste.d))]) := by
  have S1 := M.S1; have S4 := M.S4; have L1 := M.L1; have L3 := M.L3; have n10 := M.n10
  refine runI_tr rfl fun a => ?_
  show Tr _ _ (F_Machine_init MX [some (.obj (some a) .machine []), some (.dat (.int M.S)), some (.dat (.int M.L)), some (.dat (.lst (M.st.map Ste.d))), none])
  unfold F_Machine_init
  refine tr_seq (tr_if (b := false) (evB (or_f (y := false) (ev2 (x := .int M.S) (y := .int 1) rfl rfl ?_) (or_f (y := false) (ev2 (x := .int M.L) (y := .int 1) rfl rfl ?_) (not_t (b := true) (evC (evA (evLc (l := M.st.map Ste.d) (h := fun _ => .bl true) rfl (by rw [List.length_map]; omega) ?_) evN) (gAll_t fun d hd => ?_)))))) (fun h => nomatch h) fun _ => tr_nil ?_)
  · show some (D.bl (decide (M.S < (1 : Int)))) = _
    rw [decide_eq_false (by omega)]
  · show some (D.bl (decide (M.L < (1 : Int)))) = _
    rw [decide_eq_false (by omega)]
  · intro d hd
    obtain ⟨y, hy, rfl⟩ := List.mem_map.mp hd
    exact evC (evA rfl (evA rfl (evA rfl evN))) (fits_ok (M.ok y hy))
  · obtain ⟨y, hy, rfl⟩ := List.mem_map.mp hd
    rfl
  · exact tr_seq (tr_fld rfl rfl rfl (tr_seq (tr_fld rfl rfl rfl (tr_fld (evC (evA rfl evN) rfl) rfl rfl rfl))))
theorem made_ok (M : Mach) : g_law_made [M.parts] = some M.d := by
  have n10 := M.n10
  refine runD_tr rfl ?_
  show Tr _ _ (F_law_made MX [some (.dat M.parts), none])
  unfold F_law_made
  have steps : eLc 1 (oList (eIx (eV 0) (eC (.int 2)))) (eC (.bl true)) (eMake .step g_Step_init (aC (eIx (eV 1) (eC (.int 0))) (aC (eIx (eV 1) (eC (.int 1))) (aC (eIx (eV 1) (eC (.int 2))) (aC (eIx (eV 1) (eC (.int 3))) (aC (eIx (eV 1) (eC (.int 4))) aN)))))) [some (.dat M.parts), none] = some (.lst (M.st.map Ste.d)) := by
    have : ∀ l : List Ste, lcD 1 (eC (.bl true)) (eMake .step g_Step_init (aC (eIx (eV 1) (eC (.int 0))) (aC (eIx (eV 1) (eC (.int 1))) (aC (eIx (eV 1) (eC (.int 2))) (aC (eIx (eV 1) (eC (.int 3))) (aC (eIx (eV 1) (eC (.int 4))) aN)))))) [some (.dat M.parts), none] (l.map Ste.row) = some (l.map Ste.d) := by
      intro l
      induction l with
      | nil => rfl
      | cons x l ih =>
        rw [List.map_cons]
        unfold lcD
        have e : eMake .step g_Step_init (aC (eIx (eV 1) (eC (.int 0))) (aC (eIx (eV 1) (eC (.int 1))) (aC (eIx (eV 1) (eC (.int 2))) (aC (eIx (eV 1) (eC (.int 3))) (aC (eIx (eV 1) (eC (.int 4))) aN))))) [some (.dat M.parts), some (.dat x.row)] = some x.d := by
          exact evMk (ds := [.int x.s, .int x.l, .int x.g, .tup (x.laid.map .int), .int x.w]) rfl (step_made x) rfl
        show (some true).bind _ = _
        rw [Option.bind_some, if_pos rfl]
        show (eMake .step g_Step_init _ [some (.dat M.parts), some (.dat x.row)]).bind _ = _
        rw [e, Option.bind_some, ih]
        rfl
    unfold eLc
    show (if (M.st.map Ste.row).length ≤ lim then (lcD 1 _ _ _ (M.st.map Ste.row)).map D.lst else none) = _
    rw [if_pos (by rw [List.length_map]; unfold lim; omega), this]
    rfl
  exact tr_ret (evMk (evA (x := .int M.S) rfl (evA (x := .int M.L) rfl (evA steps evN))) (machine_made M) rfl) rfl
end DL
end

section
set_option linter.all false
set_option maxRecDepth 100000
set_option maxHeartbeats 1000000
/-! E5 (pure): one turn of taking off. -/
namespace DL
/-- an entry: what a letter's taking off does -/
structure Ent where
  s : Int
  l : Int
  g : Int
  f : Bool
  deriving DecidableEq
def Ent.d (e : Ent) : D := .tup [.int e.s, .int e.l, .int e.g, .bl e.f]
def Ent.k (e : Ent) : List Int := [e.s, e.l, e.g, b2 e.f]
abbrev Hd := Int × Int
def hdD (h : Hd) : D := .tup [.int h.1, .int h.2]
def hdK (h : Hd) : List Int := [h.1, h.2]
def Ent.h (e : Ent) : Hd := (e.s, e.l)
theorem b2_inj {a b : Bool} (h : b2 a = b2 b) : a = b := by cases a <;> cases b <;> first | rfl | (exact absurd h (by decide))
theorem Ent.k_inj (a b : Ent) (h : a.k = b.k) : a = b := by
  obtain ⟨s, l, g, f⟩ := a
  obtain ⟨s', l', g', f'⟩ := b
  simp only [Ent.k, List.cons.injEq] at h
  obtain ⟨rfl, rfl, rfl, h, _⟩ := h
  rw [b2_inj h]
theorem hdK_inj (a b : Hd) (h : hdK a = hdK b) : a = b := by
  obtain ⟨x, y⟩ := a
  obtain ⟨x', y'⟩ := b
  simp only [hdK, List.cons.injEq] at h
  obtain ⟨rfl, rfl, _⟩ := h
  rfl
theorem Ent.d_key (e : Ent) : toKey .e e.d = some e.k := rfl
theorem hdD_key (h : Hd) : toKey .t (hdD h) = some (hdK h) := rfl
theorem ofKey_e (e : Ent) : ofKey .e e.k = e.d := by
  obtain ⟨s, l, g, f⟩ := e
  cases f <;> rfl
theorem ofKey_t (h : Hd) : ofKey .t (hdK h) = hdD h := rfl
/-- the table: entries, each with its step and its parts -/
abbrev Tab := List (Ent × (Nat × List Ent))
abbrev Lvs := List (Hd × List Ent)
def rowD (p : Nat × List Ent) : D := .tup [.int (p.1 : Nat), .tup (p.2.map Ent.d)]
def tabD (T : Tab) : List (List Int × D) := enc Ent.k rowD T
def lvsD (L : Lvs) : List (List Int × List D) := enc hdK (fun l => l.map Ent.d) L
abbrev Way := Int × Bool × List Ent
def wayD (w : Way) : D := .tup [.int w.1, .bl w.2.1, .tup (w.2.2.map Ent.d)]
def entsL (L : Lvs) (h : Hd) : List Ent := (getA L h).getD []
/-- a table of one's own, as the object's attributes -/
def tkF (M : Mach) (mkv : List (List Int × D)) (T : Tab) (L : Lvs) : List Fld := [.dat M.d, .own (.dic .i mkv), .own (.dic .e (tabD T)), .own (.dil (lvsD L))]
def extW (L : Lvs) (ws : List Way) (c : Int) : List Way := ws.flatMap fun w => (entsL L (w.1, c)).map fun e => (e.g, w.2.1 || e.f, w.2.2 ++ [e])
def waysL (L : Lvs) (x : Ste) (m : Bool) : List Way := x.laid.foldl (extW L) [(x.g, m, [])]
def addL (L : Lvs) (e : Ent) : Lvs := putA L e.h (entsL L e.h ++ [e])
def addS (i : Nat) (x : Ste) (S : Tab × Lvs) (w : Way) : Tab × Lvs :=
  if (⟨x.s, x.l, w.1, w.2.1⟩ : Ent) ∈ S.1.map (·.1) then S else (S.1 ++ [(⟨x.s, x.l, w.1, w.2.1⟩, (i, w.2.2))], addL S.2 ⟨x.s, x.l, w.1, w.2.1⟩)
def useS (i : Nat) (x : Ste) (m : Bool) (S : Tab × Lvs) : Tab × Lvs := (waysL S.2 x m).foldl (addS i x) S

theorem look_tab (T : Tab) (e : Ent) : look (tabD T) e.k = (getA T e).map rowD := look_enc Ent.k_inj T e
theorem look_lvs (L : Lvs) (h : Hd) : (look (lvsD L) (hdK h)).getD [] = (entsL L h).map Ent.d := by
  unfold lvsD entsL
  rw [look_enc hdK_inj]
  cases getA L h <;> rfl
theorem put_tab (T : Tab) (e : Ent) (p : Nat × List Ent) : put (tabD T) e.k (rowD p) = tabD (putA T e p) := put_enc Ent.k_inj T e p
theorem put_lvs (L : Lvs) (h : Hd) (l : List Ent) : put (lvsD L) (hdK h) (l.map Ent.d) = lvsD (putA L h l) := put_enc hdK_inj (v := fun l : List Ent => l.map Ent.d) L h l
theorem take_next {α : Type} {l : List α} {k : Nat} {x : α} (h : l[k]? = some x) : l.take (k + 1) = l.take k ++ [x] := by
  rw [List.take_add_one, h]; rfl
theorem getElem_map_some {α β : Type} {l : List α} {f : α → β} {k : Nat} {d : β} (h : (l.map f)[k]? = some d) : ∃ x, l[k]? = some x ∧ d = f x := by
  rw [List.getElem?_map] at h
  obtain ⟨x, h1, h2⟩ := Option.map_eq_some_iff.mp h
  exact ⟨x, h1, h2.symm⟩
theorem catT_ok {a b : List D} (h : a.length + b.length ≤ 1000) : oCatT (.tup a) (.tup b) = some (.tup (a ++ b)) := by
  unfold oCatT tupD
  simp only [Option.bind_some]
  rw [if_pos (by unfold lim; omega)]
theorem flatMap_len {α β : Type} {f : α → List β} {n : Nat} : ∀ (l : List α), (∀ x ∈ l, (f x).length ≤ n) → (l.flatMap f).length ≤ l.length * n
  | [], _ => Nat.zero_le _
  | x :: l, h => by
    rw [List.flatMap_cons, List.length_append, List.length_cons]
    have h1 := h x List.mem_cons_self
    have h2 := flatMap_len l fun y hy => h y (List.mem_cons_of_mem _ hy)
    rw [Nat.succ_mul]; omega
theorem ext_len {L : Lvs} (hL : ∀ h, (entsL L h).length ≤ 96) (ws : List Way) (c : Int) : (extW L ws c).length ≤ ws.length * 96 :=
  flatMap_len ws fun w _ => by rw [List.length_map]; exact hL _
/-- ways have parts of the letters walked -/
theorem ways_parts {L : Lvs} : ∀ (cs : List Int) (ws : List Way) (n : Nat), (∀ w ∈ ws, w.2.2.length = n) → ∀ w ∈ cs.foldl (extW L) ws, w.2.2.length = n + cs.length
  | [], ws, n, h => h
  | c :: cs, ws, n, h => by
    intro w hw
    have := ways_parts cs (extW L ws c) (n + 1) (fun w hw => by
      obtain ⟨w', hw', hm⟩ := List.mem_flatMap.mp hw
      obtain ⟨e, he, rfl⟩ := List.mem_map.mp hm
      show (w'.2.2 ++ [e]).length = n + 1
      rw [List.length_append, h w' hw']; rfl) w hw
    rw [this, List.length_cons]; omega
theorem ways_len {L : Lvs} (hL : ∀ h, (entsL L h).length ≤ 96) : ∀ (cs : List Int) (ws : List Way), (cs.foldl (extW L) ws).length ≤ ws.length * 96 ^ cs.length
  | [], ws => by simp
  | c :: cs, ws => by
    have h1 := ways_len hL cs (extW L ws c)
    have h2 := ext_len hL ws c
    rw [List.length_cons, Nat.pow_succ]
    calc ((c :: cs).foldl (extW L) ws).length ≤ (extW L ws c).length * 96 ^ cs.length := h1
      _ ≤ (ws.length * 96) * 96 ^ cs.length := Nat.mul_le_mul_right _ h2
      _ = ws.length * (96 ^ cs.length * 96) := by rw [Nat.mul_assoc, Nat.mul_comm 96]
/-- sizes of a table -/
structure Sz (n : Nat) (S : Tab × Lvs) : Prop where
  t : S.1.length ≤ n
  v : S.2.length ≤ n
  l : ∀ h, (entsL S.2 h).length ≤ n
theorem entsL_addL {L : Lvs} {e : Ent} {h : Hd} : entsL (addL L e) h = if e.h = h then entsL L h ++ [e] else entsL L h := by
  unfold addL
  show (getA (putA L e.h (entsL L e.h ++ [e])) h).getD [] = _
  rw [getA_putA]
  by_cases q : e.h = h
  · rw [if_pos q, if_pos q, q]; rfl
  · rw [if_neg q, if_neg q]; rfl
theorem Sz.add {n i : Nat} {x : Ste} {S : Tab × Lvs} {w : Way} (h : Sz n S) : Sz (n + 1) (addS i x S w) := by
  unfold addS
  split
  · exact ⟨by have := h.t; omega, by have := h.v; omega, fun q => by have := h.l q; omega⟩
  · refine ⟨?_, ?_, fun q => ?_⟩
    · show (S.1 ++ [_]).length ≤ _
      rw [List.length_append]; have := h.t; simp; omega
    · show (addL S.2 _).length ≤ _
      have := h.v
      have := putA_len (L := S.2) (a := (⟨x.s, x.l, w.1, w.2.1⟩ : Ent).h) (b := entsL S.2 (⟨x.s, x.l, w.1, w.2.1⟩ : Ent).h ++ [⟨x.s, x.l, w.1, w.2.1⟩])
      unfold addL
      omega
    · show (entsL (addL S.2 _) q).length ≤ _
      have := h.l q
      rw [entsL_addL]
      split
      · rw [List.length_append]; simp; omega
      · omega
theorem Sz.fold {n i : Nat} {x : Ste} : ∀ (ws : List Way) (S : Tab × Lvs), Sz n S → Sz (n + ws.length) (ws.foldl (addS i x) S) := by
  intro ws
  induction ws generalizing n with
  | nil => exact fun S h => h
  | cons w ws ih =>
    intro S h
    have := ih (n := n + 1) (addS i x S w) h.add
    rw [List.length_cons, show n + (ws.length + 1) = n + 1 + ws.length by omega]
    exact this
theorem gT3 {r : Env} {a b c : Nat} {x y z : D} : gT [a, b, c] (.tup [x, y, z]) r = some (((r.set a (some (.dat x))).set b (some (.dat y))).set c (some (.dat z))) := rfl
theorem evOrB {a b : EX} {r : Env} {x y : Bool} (h1 : a r = some (.bl x)) (h2 : b r = some (.bl y)) : eOr a b r = some (.bl (x || y)) := or_b h1 h2
/-- THE TURN: what use does -/
theorem use_ok (M : Mach) (mkv : List (List Int × D)) (m : Bool) (S : Tab × Lvs) (i : Nat) (x : Ste) (hx : M.st[i]? = some x) (hm : (look mkv [(i : Int)]).isSome = m) (hS : Sz 96 S) :
    g_TakeOff_use (tkF M mkv S.1 S.2) [.int (i : Nat)] = some (.non, tkF M mkv (useS i x m S).1 (useS i x m S).2) := by
  have gx := M.ok x (List.mem_of_getElem? hx)
  have two := gx.two
  refine runO_tr rfl fun a => ?_
  show Tr _ _ (F_TakeOff_use MX [some (.obj (some a) .takeoff (tkF M mkv S.1 S.2)), some (.dat (.int (i : Nat))), none, none, none, none, none, none, none, none])
  unfold F_TakeOff_use
  refine tr_seq (tr_set (d := x.d) (evIx (l := M.st.map Ste.d) (i := i) rfl rfl rfl (map_at hx)) (tr_seq ?_))
  have hw0 : eLst (aC (eTup (aC (e1 (oFld .step 2) (eV 2)) (aC (pIn .i false (eV 1) (.f 0 .takeoff 1)) (aC (eTup aN) aN)))) aN) [some (.obj (some a) .takeoff (tkF M mkv S.1 S.2)), some (.dat (.int (i : Nat))), some (.dat x.d), none, none, none, none, none, none, none] = some (.lst [wayD (x.g, m, [])]) := by
    refine evL (evA (evT (evA (x := .int x.g) rfl (evA (x := .bl m) ?_ (evA (x := .tup []) rfl evN))) (by simp)) evN) (by simp)
    show some (D.bl (look mkv [(i : Int)]).isSome) = _
    rw [hm]
  refine tr_set hw0 (tr_seq ?_)
  -- the letters
  refine tr_for (l := x.laid.map .int) (fun k r => ∃ x6 x7 x8 x9 : Option SV, r = [some (.obj (some a) .takeoff (tkF M mkv S.1 S.2)), some (.dat (.int (i : Nat))), some (.dat x.d), some (.dat (.lst (((x.laid.take k).foldl (extW S.2) [(x.g, m, [])]).map wayD))), none, none, x6, x7, x8, x9])
    rfl ⟨none, none, none, none, rfl⟩ ?_ ?_
  · rintro k d r hk ⟨x6, x7, x8, x9, rfl⟩
    obtain ⟨c, hc, rfl⟩ := getElem_map_some hk
    have hk2 : k < 2 := by have := (List.getElem?_eq_some_iff.mp hc).1; omega
    rw [take_next hc, List.foldl_append]
    generalize hws : (x.laid.take k).foldl (extW S.2) [(x.g, m, [])] = ws
    have hwl : ws.length ≤ 96 := by
      rw [← hws]
      refine Nat.le_trans (ways_len hS.l _ _) ?_
      rw [List.length_take, List.length_singleton, Nat.one_mul]
      have : min k x.laid.length ≤ 1 := by omega
      exact Nat.le_trans (Nat.pow_le_pow_right (by decide) this) (by decide)
    have hwp : ∀ w ∈ ws, w.2.2.length ≤ 2 := by
      intro w hw
      rw [← hws] at hw
      have := ways_parts _ _ 0 (fun w hw => by
        have e : w = (x.g, m, []) := by simpa using hw
        rw [e]; rfl) w hw
      rw [List.length_take] at this; omega
    refine ⟨_, rfl, tr_seq (tr_own (x := .lst []) rfl (tr_seq ?_))⟩
    refine tr_for (l := ws.map wayD) (fun j r => ∃ x6 x7 x8 x9 : Option SV, r = [some (.obj (some a) .takeoff (tkF M mkv S.1 S.2)), some (.dat (.int (i : Nat))), some (.dat x.d), some (.dat (.lst (ws.map wayD))), some (.dat (.int c)), some (.own (.lst ((extW S.2 (ws.take j) c).map wayD))), x6, x7, x8, x9])
      rfl ⟨x6, x7, x8, x9, rfl⟩ ?_ ?_
    · rintro j d r hj ⟨x6, x7, x8, x9, rfl⟩
      obtain ⟨w, hw, rfl⟩ := getElem_map_some hj
      have hjl : j < ws.length := (List.getElem?_eq_some_iff.mp hw).1
      have hwm : w ∈ ws := List.mem_of_getElem? hw
      have hacc : (extW S.2 (ws.take j) c).length ≤ 96 * 96 := by
        refine Nat.le_trans (ext_len hS.l _ _) (Nat.mul_le_mul_right _ ?_)
        rw [List.length_take]; omega
      rw [take_next hw]
      have eacc : extW S.2 (ws.take j ++ [w]) c = extW S.2 (ws.take j) c ++ (entsL S.2 (w.1, c)).map fun e => (e.g, w.2.1 || e.f, w.2.2 ++ [e]) := by
        unfold extW
        rw [List.flatMap_append, List.flatMap_singleton]
      rw [eacc]
      generalize extW S.2 (ws.take j) c = acc at hacc
      refine ⟨_, gT3, ?_⟩
      have hlk := look_lvs S.2 (w.1, c)
      refine tr_forE (kvs := lvsD S.2) (k0 := hdK (w.1, c)) (ds := [.int w.1, .int c]) (fun n r => ∃ x9 : Option SV, r = [some (.ptr a), some (.dat (.int (i : Nat))), some (.dat x.d), some (.dat (.lst (ws.map wayD))), some (.dat (.int c)), some (.own (.lst ((acc ++ ((entsL S.2 (w.1, c)).take n).map fun e => (e.g, w.2.1 || e.f, w.2.2 ++ [e])).map wayD))), some (.dat (.int w.1)), some (.dat (.bl w.2.1)), some (.dat (.tup (w.2.2.map Ent.d))), x9])
        rfl rfl rfl rfl ⟨x9, by rw [List.take_zero, List.map_nil, List.append_nil]; rfl⟩ ?_ ?_
      · rintro n d r hn ⟨x9, rfl⟩
        rw [hlk] at hn
        obtain ⟨e, he, rfl⟩ := getElem_map_some hn
        have hnl : n < 96 := Nat.lt_of_lt_of_le (List.getElem?_eq_some_iff.mp he).1 (hS.l _)
        refine ⟨_, rfl, tr_app (l := (acc ++ ((entsL S.2 (w.1, c)).take n).map fun e => (e.g, w.2.1 || e.f, w.2.2 ++ [e])).map wayD) (d := wayD (e.g, w.2.1 || e.f, w.2.2 ++ [e])) rfl (evT (evA (x := .int e.g) rfl (evA (x := .bl (w.2.1 || e.f)) (evOrB rfl rfl) (evA (x := .tup ((w.2.2 ++ [e]).map Ent.d)) (ev2 rfl (evT (evA rfl evN) (by simp)) ?_) evN))) (by simp)) ?_ ?_⟩
        · rw [List.map_append]
          refine catT_ok ?_
          have := hwp w hwm
          rw [List.length_map]; simp; omega
        · rw [List.length_map, List.length_append, List.length_map, List.length_take]; unfold lim; omega
        · refine ⟨some (.dat e.d), ?_⟩
          have eL : (acc ++ ((entsL S.2 (w.1, c)).take (n + 1)).map fun e => (e.g, w.2.1 || e.f, w.2.2 ++ [e])).map wayD = (acc ++ ((entsL S.2 (w.1, c)).take n).map fun e => (e.g, w.2.1 || e.f, w.2.2 ++ [e])).map wayD ++ [wayD (e.g, w.2.1 || e.f, w.2.2 ++ [e])] := by
            rw [take_next he]; simp
          rw [eL]
          rfl
      · rintro r ⟨x9, rfl⟩
        refine ⟨rfl, some (.dat (.int w.1)), some (.dat (.bl w.2.1)), some (.dat (.tup (w.2.2.map Ent.d))), x9, ?_⟩
        rw [hlk, List.length_map, List.take_length]
        rfl
    · rintro r ⟨x6, x7, x8, x9, rfl⟩
      rw [List.length_map, List.take_length]
      refine tr_seq (tr_frz rfl rfl (tr_seq (tr_set rfl (tr_seq (tr_fgt (tr_nil ⟨x6, x7, x8, x9, ?_⟩))))))
      rfl
  · rintro r ⟨x6, x7, x8, x9, rfl⟩
    rw [List.length_map, List.take_length]
    have hws : x.laid.foldl (extW S.2) [(x.g, m, [])] = waysL S.2 x m := rfl
    rw [hws]
    have hwl : (waysL S.2 x m).length ≤ 9216 := by
      refine Nat.le_trans (ways_len hS.l _ _) ?_
      rw [List.length_singleton, Nat.one_mul]
      exact Nat.le_trans (Nat.pow_le_pow_right (by decide) two) (by decide)
    unfold useS
    generalize waysL S.2 x m = ws at hwl
    refine tr_for (l := ws.map wayD) (fun j r => ∃ x6 x7 x8 x9 : Option SV, r = [some (.obj (some a) .takeoff (tkF M mkv ((ws.take j).foldl (addS i x) S).1 ((ws.take j).foldl (addS i x) S).2)), some (.dat (.int (i : Nat))), some (.dat x.d), some (.dat (.lst (ws.map wayD))), none, none, x6, x7, x8, x9])
      rfl ⟨x6, x7, x8, x9, rfl⟩ ?_ ?_
    · rintro j d r hj ⟨x6, x7, x8, x9, rfl⟩
      obtain ⟨w, hw, rfl⟩ := getElem_map_some hj
      have hjl : j < ws.length := (List.getElem?_eq_some_iff.mp hw).1
      have sz := Sz.fold (i := i) (x := x) (ws.take j) S hS
      rw [take_next hw, List.foldl_append]
      rw [List.length_take] at sz
      generalize (ws.take j).foldl (addS i x) S = Sj at sz
      refine ⟨_, gT3, tr_seq (tr_set (d := Ent.d ⟨x.s, x.l, w.1, w.2.1⟩) (evT (evA rfl (evA rfl (evA rfl (evA rfl evN)))) (by simp)) ?_)⟩
      have hin : pIn .e true (eV 9) (.f 0 .takeoff 2) [some (.obj (some a) .takeoff (tkF M mkv Sj.1 Sj.2)), some (.dat (.int (i : Nat))), some (.dat x.d), some (.dat (.lst (ws.map wayD))), none, none, some (.dat (.int w.1)), some (.dat (.bl w.2.1)), some (.dat (.tup (w.2.2.map Ent.d))), some (.dat (Ent.d ⟨x.s, x.l, w.1, w.2.1⟩))] = some (.bl (!decide ((⟨x.s, x.l, w.1, w.2.1⟩ : Ent) ∈ Sj.1.map (·.1)))) := by
        show some (D.bl (!(look (tabD Sj.1) (Ent.k ⟨x.s, x.l, w.1, w.2.1⟩)).isSome)) = _
        rw [look_tab, Option.isSome_map, getA_isSome]
      refine tr_if (evB hin) (fun hb => ?_) (fun hb => ?_)
      · have hnew : (⟨x.s, x.l, w.1, w.2.1⟩ : Ent) ∉ Sj.1.map (·.1) := by simpa using hb
        refine tr_seq (tr_put (kvs := tabD Sj.1) (d := rowD (i, w.2.2)) (k0 := Ent.k ⟨x.s, x.l, w.1, w.2.1⟩) rfl (evT (evA rfl (evA rfl evN)) (by simp)) rfl (by rw [tabD, enc_len]; have := sz.t; unfold lim; omega) ?_)
        rw [put_tab, putA_new hnew]
        show Tr _ _ _
        refine tr_sdApp (kvs := lvsD Sj.2) (k0 := hdK (x.s, x.l)) (d := Ent.d ⟨x.s, x.l, w.1, w.2.1⟩) rfl ?_ rfl (by rw [lvsD, enc_len]; have := sz.v; unfold lim; omega) (by rw [look_lvs, List.length_map]; have := sz.l (x.s, x.l); unfold lim; omega) ?_
        · rfl
        · refine ⟨some (.dat (.int w.1)), some (.dat (.bl w.2.1)), some (.dat (.tup (w.2.2.map Ent.d))), some (.dat (Ent.d ⟨x.s, x.l, w.1, w.2.1⟩)), ?_⟩
          have e1 : (look (lvsD Sj.2) (hdK (x.s, x.l))).getD [] ++ [Ent.d ⟨x.s, x.l, w.1, w.2.1⟩] = (entsL Sj.2 (x.s, x.l) ++ [(⟨x.s, x.l, w.1, w.2.1⟩ : Ent)]).map Ent.d := by
            rw [look_lvs, List.map_append]; rfl
          rw [e1, put_lvs]
          have e2 : [w].foldl (addS i x) Sj = (Sj.1 ++ [(⟨x.s, x.l, w.1, w.2.1⟩, (i, w.2.2))], addL Sj.2 ⟨x.s, x.l, w.1, w.2.1⟩) := by
            show addS i x Sj w = _
            unfold addS
            rw [if_neg hnew]
          rw [e2]
          rfl
      · have hold : (⟨x.s, x.l, w.1, w.2.1⟩ : Ent) ∈ Sj.1.map (·.1) := by simpa using hb
        refine tr_nil ⟨some (.dat (.int w.1)), some (.dat (.bl w.2.1)), some (.dat (.tup (w.2.2.map Ent.d))), some (.dat (Ent.d ⟨x.s, x.l, w.1, w.2.1⟩)), ?_⟩
        have e2 : [w].foldl (addS i x) Sj = Sj := by
          show addS i x Sj w = _
          unfold addS
          rw [if_pos hold]
        rw [e2]
        rfl
    · rintro r ⟨x6, x7, x8, x9, rfl⟩
      rw [List.length_map, List.take_length]
      exact ⟨rfl, rfl⟩
end DL
end

section
set_option linter.all false
set_option maxRecDepth 100000
set_option maxHeartbeats 1000000
/-! E6 (pure): the table of taking off, closed. -/
namespace DL
/-- a chain of parts over letters -/
def chain : Int → List Int → Bool → List Ent → Option (Int × Bool)
  | s, [], f, [] => some (s, f)
  | s, c :: cs, f, p :: ps => if p.s = s ∧ p.l = c then chain p.g cs (f || p.f) ps else none
  | _, _, _, _ => none
structure Rng (M : Mach) (e : Ent) : Prop where
  s0 : 0 ≤ e.s
  s1 : e.s < M.S
  l0 : 0 ≤ e.l
  l1 : e.l < M.L
  g0 : 0 ≤ e.g
  g1 : e.g < M.S
def keys (T : Tab) : List Ent := T.map (·.1)
/-- a row is right, its parts among what stands ahead of it -/
def RowOk (M : Mach) (mk : List Int) (ahead : List Ent) (p : Ent × (Nat × List Ent)) : Prop :=
  ∃ x, M.st[p.2.1]? = some x ∧ x.s = p.1.s ∧ x.l = p.1.l ∧ chain x.g x.laid (decide ((p.2.1 : Int) ∈ mk)) p.2.2 = some (p.1.g, p.1.f) ∧ ∀ q ∈ p.2.2, q ∈ ahead
structure TInv (M : Mach) (mk : List Int) (S : Tab × Lvs) : Prop where
  nd : (keys S.1).Nodup
  rng : ∀ e ∈ keys S.1, Rng M e
  lv : ∀ h, entsL S.2 h = (keys S.1).filter fun e => decide (e.h = h)
  v : S.2.length ≤ S.1.length
  row : ∀ (k : Nat) p, S.1[k]? = some p → RowOk M mk ((keys S.1).take k) p
def Closed (M : Mach) (mk : List Int) (S : Tab × Lvs) : Prop := ∀ (i : Nat) x, M.st[i]? = some x → ∀ w ∈ waysL S.2 x (decide ((i : Int) ∈ mk)), (⟨x.s, x.l, w.1, w.2.1⟩ : Ent) ∈ keys S.1
/-! ### at most 96 entries -/
theorem nodup_lt : ∀ (n : Nat) (l : List Nat), l.Nodup → (∀ x ∈ l, x < n) → l.length ≤ n
  | 0, [], _, _ => Nat.le_refl _
  | 0, x :: l, _, h => absurd (h x List.mem_cons_self) (Nat.not_lt_zero _)
  | n + 1, l, nd, h => by
    have h1 := nodup_lt n (l.erase n) (nd.erase n) fun x hx => by
      have := (List.Nodup.mem_erase_iff nd).mp hx
      have := h x this.2
      omega
    have h2 : l.length ≤ (l.erase n).length + 1 := by
      by_cases hm : n ∈ l
      · rw [List.length_erase_of_mem hm]; omega
      · rw [List.erase_of_not_mem hm]; omega
    omega
def Ent.code (e : Ent) : Nat := ((e.s.toNat * 3 + e.l.toNat) * 4 + e.g.toNat) * 2 + (if e.f then 1 else 0)
theorem Rng.code_lt {M : Mach} {e : Ent} (h : Rng M e) : e.code < 96 := by
  have := M.S4; have := M.L3
  have := h.s0; have := h.s1; have := h.l0; have := h.l1; have := h.g0; have := h.g1
  unfold Ent.code
  split <;> omega
theorem Rng.code_inj {M : Mach} {e e' : Ent} (h : Rng M e) (h' : Rng M e') (q : e.code = e'.code) : e = e' := by
  have := M.S4; have := M.L3
  have := h.s0; have := h.s1; have := h.l0; have := h.l1; have := h.g0; have := h.g1
  have := h'.s0; have := h'.s1; have := h'.l0; have := h'.l1; have := h'.g0; have := h'.g1
  obtain ⟨s, l, g, f⟩ := e
  obtain ⟨s', l', g', f'⟩ := e'
  simp only [Ent.code] at *
  have e1 : s = s' := by cases f <;> cases f' <;> simp at q <;> omega
  have e2 : l = l' := by cases f <;> cases f' <;> simp at q <;> omega
  have e3 : g = g' := by cases f <;> cases f' <;> simp at q <;> omega
  have e4 : f = f' := by cases f <;> cases f' <;> simp at q <;> first | rfl | omega
  rw [e1, e2, e3, e4]
theorem nodup_map_of {α β : Type} {f : α → β} {l : List α} (nd : l.Nodup) (inj : ∀ x ∈ l, ∀ y ∈ l, f x = f y → x = y) : (l.map f).Nodup := by
  induction l with
  | nil => exact List.nodup_nil
  | cons a l ih =>
    obtain ⟨n1, n2⟩ := List.nodup_cons.mp nd
    rw [List.map_cons]
    refine List.nodup_cons.mpr ⟨fun z => ?_, ih n2 fun x hx y hy => inj x (List.mem_cons_of_mem _ hx) y (List.mem_cons_of_mem _ hy)⟩
    obtain ⟨y, hy, e⟩ := List.mem_map.mp z
    have := inj a List.mem_cons_self y (List.mem_cons_of_mem _ hy) e.symm
    rw [this] at n1
    exact n1 hy
theorem ents_le {M : Mach} {l : List Ent} (nd : l.Nodup) (h : ∀ e ∈ l, Rng M e) : l.length ≤ 96 := by
  have := nodup_lt 96 (l.map Ent.code) (nodup_map_of nd fun x hx y hy => Rng.code_inj (h x hx) (h y hy)) fun x hx => by
    obtain ⟨e, he, rfl⟩ := List.mem_map.mp hx
    exact (h e he).code_lt
  rwa [List.length_map] at this
section
variable {M : Mach} {mk : List Int} {S : Tab × Lvs}
theorem TInv.len (h : TInv M mk S) : S.1.length ≤ 96 := by
  have := ents_le h.nd h.rng
  unfold keys at this
  rwa [List.length_map] at this
theorem TInv.sz (h : TInv M mk S) : Sz 96 S := by
  have h1 := h.len
  refine ⟨h1, Nat.le_trans h.v h1, fun q => ?_⟩
  rw [h.lv]
  refine Nat.le_trans (List.length_filter_le _ _) ?_
  unfold keys
  rwa [List.length_map]
/-! ### ways -/
theorem ways_iff {L : Lvs} {K : List Ent} (hL : ∀ h, entsL L h = K.filter fun e => decide (e.h = h)) : ∀ (cs : List Int) (ws : List Way) (w : Way), w ∈ cs.foldl (extW L) ws ↔ ∃ w0 ∈ ws, ∃ ps, w.2.2 = w0.2.2 ++ ps ∧ chain w0.1 cs w0.2.1 ps = some (w.1, w.2.1) ∧ ∀ p ∈ ps, p ∈ K
  | [], ws, w => by
    constructor
    · intro h
      exact ⟨w, h, [], by simp, rfl, fun p hp => by cases hp⟩
    · rintro ⟨w0, h, ps, e1, e2, e3⟩
      cases ps with
      | nil =>
        have e4 := Option.some.inj (show some (w0.1, w0.2.1) = some (w.1, w.2.1) from e2)
        obtain ⟨e5, e6⟩ := Prod.mk.inj e4
        have : w = w0 := by
          obtain ⟨a, b, c⟩ := w
          obtain ⟨a', b', c'⟩ := w0
          simp at e1 e5 e6
          rw [e1, e5, e6]
        rw [this]; exact h
      | cons p ps => cases e2
  | c :: cs, ws, w => by
    rw [List.foldl_cons, ways_iff hL cs]
    constructor
    · rintro ⟨w1, h1, ps, e1, e2, e3⟩
      obtain ⟨w0, h0, hm⟩ := List.mem_flatMap.mp h1
      obtain ⟨e, he, rfl⟩ := List.mem_map.mp hm
      rw [hL] at he
      obtain ⟨he1, he2⟩ := List.mem_filter.mp he
      have he2 : e.h = (w0.1, c) := of_decide_eq_true he2
      have hs : e.s = w0.1 := congrArg Prod.fst he2
      have hl : e.l = c := congrArg Prod.snd he2
      refine ⟨w0, h0, e :: ps, by rw [e1]; simp, ?_, fun p hp => ?_⟩
      · show (if e.s = w0.1 ∧ e.l = c then chain e.g cs (w0.2.1 || e.f) ps else none) = _
        rw [if_pos ⟨hs, hl⟩]
        exact e2
      · rcases List.mem_cons.mp hp with z | z
        · rw [z]; exact he1
        · exact e3 p z
    · rintro ⟨w0, h0, ps, e1, e2, e3⟩
      cases ps with
      | nil => cases e2
      | cons e ps =>
        have e2' : (if e.s = w0.1 ∧ e.l = c then chain e.g cs (w0.2.1 || e.f) ps else none) = some (w.1, w.2.1) := e2
        by_cases q : e.s = w0.1 ∧ e.l = c
        · rw [if_pos q] at e2'
          refine ⟨(e.g, w0.2.1 || e.f, w0.2.2 ++ [e]), List.mem_flatMap.mpr ⟨w0, h0, List.mem_map.mpr ⟨e, ?_, rfl⟩⟩, ps, by rw [e1]; simp, e2', fun p hp => e3 p (List.mem_cons_of_mem _ hp)⟩
          rw [hL]
          refine List.mem_filter.mpr ⟨e3 e List.mem_cons_self, decide_eq_true ?_⟩
          show (e.s, e.l) = _
          rw [q.1, q.2]
        · rw [if_neg q] at e2'; cases e2'
theorem waysL_iff {L : Lvs} {K : List Ent} (hL : ∀ h, entsL L h = K.filter fun e => decide (e.h = h)) {x : Ste} {m : Bool} {w : Way} : w ∈ waysL L x m ↔ chain x.g x.laid m w.2.2 = some (w.1, w.2.1) ∧ ∀ p ∈ w.2.2, p ∈ K := by
  unfold waysL
  rw [ways_iff hL]
  constructor
  · rintro ⟨w0, h0, ps, e1, e2, e3⟩
    have : w0 = (x.g, m, []) := by simpa using h0
    subst this
    have e1 : w.2.2 = ps := by simpa using e1
    rw [e1]
    exact ⟨e2, e3⟩
  · rintro ⟨e2, e3⟩
    exact ⟨(x.g, m, []), by simp, w.2.2, by simp, e2, e3⟩
/-- where a chain ends -/
theorem chain_rng {g0 : Int} : ∀ (cs : List Int) (ps : List Ent) (s : Int) (f : Bool) (z : Int × Bool), (0 ≤ s ∧ s < M.S) → (∀ p ∈ ps, Rng M p) → chain s cs f ps = some z → 0 ≤ z.1 ∧ z.1 < M.S
  | [], [], s, f, z, h, _, e => by cases e; exact h
  | [], p :: ps, _, _, _, _, _, e => by cases e
  | c :: cs, [], _, _, _, _, _, e => by cases e
  | c :: cs, p :: ps, s, f, z, h, hp, e => by
    have e' : (if p.s = s ∧ p.l = c then chain p.g cs (f || p.f) ps else none) = some z := e
    by_cases q : p.s = s ∧ p.l = c
    · rw [if_pos q] at e'
      have r := hp p List.mem_cons_self
      exact chain_rng (g0 := g0) cs ps _ _ z ⟨r.g0, r.g1⟩ (fun p h => hp p (List.mem_cons_of_mem _ h)) e'
    · rw [if_neg q] at e'; cases e'
/-- a way whose parts are in the table may be added -/
theorem TInv.add (h : TInv M mk S) {i : Nat} {x : Ste} (hx : M.st[i]? = some x) {w : Way} (hc : chain x.g x.laid (decide ((i : Int) ∈ mk)) w.2.2 = some (w.1, w.2.1)) (hp : ∀ p ∈ w.2.2, p ∈ keys S.1) : TInv M mk (addS i x S w) := by
  unfold addS
  split
  · exact h
  · rename_i hnew
    have gx := M.ok x (List.mem_of_getElem? hx)
    have r := chain_rng (g0 := 0) x.laid w.2.2 x.g _ _ ⟨gx.g0, gx.g1⟩ (fun p q => h.rng p (hp p q)) hc
    have ek : ∀ p, keys (S.1 ++ [p]) = keys S.1 ++ [p.1] := fun p => by unfold keys; simp
    refine ⟨?_, ?_, fun q => ?_, ?_, fun k p hk => ?_⟩
    · show (keys (S.1 ++ [_])).Nodup
      rw [ek]
      refine List.nodup_append.mpr ⟨h.nd, by simp, fun a ha b hb => ?_⟩
      have e : b = ⟨x.s, x.l, w.1, w.2.1⟩ := by simpa using hb
      rintro rfl
      rw [e] at ha
      exact hnew ha
    · intro e he
      rw [show keys (S.1 ++ [((⟨x.s, x.l, w.1, w.2.1⟩ : Ent), (i, w.2.2))]) = _ from ek _] at he
      rcases List.mem_append.mp he with z | z
      · exact h.rng e z
      · have e1 : e = ⟨x.s, x.l, w.1, w.2.1⟩ := by simpa using z
        rw [e1]
        exact ⟨gx.s0, gx.s1, gx.l0, gx.l1, r.1, r.2⟩
    · show entsL (addL S.2 _) q = (keys (S.1 ++ [_])).filter _
      rw [entsL_addL, ek, List.filter_append, h.lv]
      by_cases z : (⟨x.s, x.l, w.1, w.2.1⟩ : Ent).h = q
      · rw [if_pos z]
        simp [z]
      · rw [if_neg z]
        simp [z]
    · show (addL S.2 _).length ≤ (S.1 ++ [_]).length
      have := h.v
      have := putA_len (L := S.2) (a := (⟨x.s, x.l, w.1, w.2.1⟩ : Ent).h) (b := entsL S.2 (⟨x.s, x.l, w.1, w.2.1⟩ : Ent).h ++ [⟨x.s, x.l, w.1, w.2.1⟩])
      unfold addL
      rw [List.length_append, List.length_singleton]
      omega
    · have hk : (S.1 ++ [((⟨x.s, x.l, w.1, w.2.1⟩ : Ent), (i, w.2.2))])[k]? = some p := hk
      show RowOk M mk ((keys (S.1 ++ [_])).take k) p
      rw [ek]
      by_cases hlt : k < S.1.length
      · rw [List.getElem?_append_left hlt] at hk
        have e : (keys S.1 ++ [(⟨x.s, x.l, w.1, w.2.1⟩ : Ent)]).take k = (keys S.1).take k := by
          rw [List.take_append_of_le_length]
          unfold keys; rw [List.length_map]; omega
        rw [e]
        exact h.row k p hk
      · rw [List.getElem?_append_right (by omega)] at hk
        have hk0 : k - S.1.length = 0 := by
          have := (List.getElem?_eq_some_iff.mp hk).1
          simp at this; omega
        rw [hk0] at hk
        have hp' : p = (⟨x.s, x.l, w.1, w.2.1⟩, (i, w.2.2)) := by simpa using hk.symm
        have e : (keys S.1 ++ [(⟨x.s, x.l, w.1, w.2.1⟩ : Ent)]).take k = keys S.1 := by
          have : k = (keys S.1).length := by unfold keys; rw [List.length_map]; omega
          rw [this, List.take_left']
          rfl
        rw [e, hp']
        exact ⟨x, hx, rfl, rfl, hc, hp⟩
theorem add_grow {i : Nat} {x : Ste} (S : Tab × Lvs) (w : Way) : ∃ new, (addS i x S w).1 = S.1 ++ new ∧ (new = [] → addS i x S w = S) ∧ (⟨x.s, x.l, w.1, w.2.1⟩ : Ent) ∈ keys (addS i x S w).1 := by
  unfold addS
  split
  · rename_i h
    exact ⟨[], by simp, fun _ => rfl, h⟩
  · refine ⟨[(⟨x.s, x.l, w.1, w.2.1⟩, (i, w.2.2))], rfl, fun h => by simp at h, ?_⟩
    show _ ∈ keys (S.1 ++ [_])
    unfold keys
    simp
theorem fold_grow {i : Nat} {x : Ste} : ∀ (ws : List Way) (S : Tab × Lvs), ∃ new, (ws.foldl (addS i x) S).1 = S.1 ++ new ∧ (new = [] → ws.foldl (addS i x) S = S ∧ ∀ w ∈ ws, (⟨x.s, x.l, w.1, w.2.1⟩ : Ent) ∈ keys S.1)
  | [], S => ⟨[], by simp, fun _ => ⟨rfl, fun w h => by cases h⟩⟩
  | w :: ws, S => by
    obtain ⟨n1, e1, h1, h2⟩ := add_grow (i := i) (x := x) S w
    obtain ⟨n2, e2, h3⟩ := fold_grow (i := i) (x := x) ws (addS i x S w)
    refine ⟨n1 ++ n2, by rw [List.foldl_cons, e2, e1, List.append_assoc], fun h => ?_⟩
    obtain ⟨r1, r2⟩ := List.append_eq_nil_iff.mp h
    have h1 := h1 r1
    obtain ⟨h4, h5⟩ := h3 r2
    rw [h1] at h4 h5 h2
    refine ⟨by rw [List.foldl_cons, h1, h4], fun w' hw => ?_⟩
    rcases List.mem_cons.mp hw with z | z
    · rw [z]; exact h2
    · exact h5 w' z
theorem keys_app (T N : Tab) : keys (T ++ N) = keys T ++ keys N := by unfold keys; simp
theorem TInv.fold {i : Nat} {x : Ste} (hx : M.st[i]? = some x) : ∀ (ws : List Way) (S : Tab × Lvs), TInv M mk S → (∀ w ∈ ws, chain x.g x.laid (decide ((i : Int) ∈ mk)) w.2.2 = some (w.1, w.2.1) ∧ ∀ p ∈ w.2.2, p ∈ keys S.1) → TInv M mk (ws.foldl (addS i x) S)
  | [], S, h, _ => h
  | w :: ws, S, h, hw => by
    rw [List.foldl_cons]
    obtain ⟨c1, c2⟩ := hw w List.mem_cons_self
    refine TInv.fold hx ws _ (h.add hx c1 c2) fun w' hw' => ?_
    obtain ⟨d1, d2⟩ := hw w' (List.mem_cons_of_mem _ hw')
    obtain ⟨n, e, _⟩ := add_grow (i := i) (x := x) S w
    refine ⟨d1, fun p hp => ?_⟩
    rw [e, keys_app]
    exact List.mem_append_left _ (d2 p hp)
theorem TInv.use (h : TInv M mk S) {i : Nat} {x : Ste} (hx : M.st[i]? = some x) : TInv M mk (useS i x (decide ((i : Int) ∈ mk)) S) :=
  TInv.fold hx _ S h fun w hw => (waysL_iff h.lv).mp hw
theorem use_grow (i : Nat) (x : Ste) (m : Bool) (S : Tab × Lvs) : ∃ new, (useS i x m S).1 = S.1 ++ new ∧ (new = [] → useS i x m S = S ∧ ∀ w ∈ waysL S.2 x m, (⟨x.s, x.l, w.1, w.2.1⟩ : Ent) ∈ keys S.1) := fold_grow _ S
/-! ### a pass, the loop -/
def stepAt (M : Mach) (mk : List Int) (S : Tab × Lvs) (i : Nat) : Tab × Lvs := match M.st[i]? with
  | some x => useS i x (decide ((i : Int) ∈ mk)) S
  | none => S
def passN (M : Mach) (mk : List Int) (n : Nat) (S : Tab × Lvs) : Tab × Lvs := (List.range n).foldl (stepAt M mk) S
def passS (M : Mach) (mk : List Int) (S : Tab × Lvs) : Tab × Lvs := passN M mk M.st.length S
theorem TInv.step (h : TInv M mk S) (i : Nat) : TInv M mk (stepAt M mk S i) := by
  unfold stepAt
  cases q : M.st[i]? with
  | none => exact h
  | some x => exact h.use q
theorem passN_succ (n : Nat) (S : Tab × Lvs) : passN M mk (n + 1) S = stepAt M mk (passN M mk n S) n := by
  unfold passN
  rw [List.range_succ, List.foldl_append]
  rfl
theorem TInv.passN (h : TInv M mk S) (n : Nat) : TInv M mk (passN M mk n S) := by
  induction n with
  | zero => exact h
  | succ n ih => rw [passN_succ]; exact ih.step n
theorem step_grow (i : Nat) (S : Tab × Lvs) : ∃ new, (stepAt M mk S i).1 = S.1 ++ new ∧ (new = [] → stepAt M mk S i = S ∧ ∀ x, M.st[i]? = some x → ∀ w ∈ waysL S.2 x (decide ((i : Int) ∈ mk)), (⟨x.s, x.l, w.1, w.2.1⟩ : Ent) ∈ keys S.1) := by
  unfold stepAt
  cases q : M.st[i]? with
  | none => exact ⟨[], by simp, fun _ => ⟨rfl, fun x h => by cases h⟩⟩
  | some x =>
    obtain ⟨n, e, h⟩ := use_grow i x (decide ((i : Int) ∈ mk)) S
    exact ⟨n, e, fun z => ⟨(h z).1, fun y hy => by cases hy; exact (h z).2⟩⟩
theorem passN_grow : ∀ (n : Nat) (S : Tab × Lvs), ∃ new, (passN M mk n S).1 = S.1 ++ new ∧ (new = [] → passN M mk n S = S ∧ ∀ i < n, ∀ x, M.st[i]? = some x → ∀ w ∈ waysL S.2 x (decide ((i : Int) ∈ mk)), (⟨x.s, x.l, w.1, w.2.1⟩ : Ent) ∈ keys S.1)
  | 0, S => ⟨[], by simp [passN], fun _ => ⟨rfl, fun i h => absurd h (Nat.not_lt_zero _)⟩⟩
  | n + 1, S => by
    obtain ⟨n1, e1, h1⟩ := passN_grow n S
    obtain ⟨n2, e2, h2⟩ := step_grow (M := M) (mk := mk) n (passN M mk n S)
    rw [passN_succ]
    refine ⟨n1 ++ n2, by rw [e2, e1, List.append_assoc], fun h => ?_⟩
    obtain ⟨r1, r2⟩ := List.append_eq_nil_iff.mp h
    obtain ⟨h3, h4⟩ := h1 r1
    obtain ⟨h5, h6⟩ := h2 r2
    rw [h3] at h5 h6
    refine ⟨by rw [h3]; exact h5, fun i hi => ?_⟩
    by_cases z : i = n
    · subst z; exact h6
    · exact h4 i (by omega)
def loopS (M : Mach) (mk : List Int) : Nat → Tab × Lvs → Tab × Lvs
  | 0, S => S
  | n + 1, S => if S.1.length < (passS M mk S).1.length then loopS M mk n (passS M mk S) else passS M mk S
theorem pass_same (h : ¬ S.1.length < (passS M mk S).1.length) : passS M mk S = S ∧ Closed M mk S := by
  obtain ⟨n, e, q⟩ := passN_grow (M := M) (mk := mk) M.st.length S
  have hn : n = [] := by
    have e' : (passS M mk S).1 = S.1 ++ n := e
    rw [e', List.length_append] at h
    exact List.length_eq_zero_iff.mp (by omega)
  obtain ⟨h1, h2⟩ := q hn
  exact ⟨h1, fun i x hx => h2 i (List.getElem?_eq_some_iff.mp hx).1 x hx⟩
theorem loop_ok : ∀ (n : Nat) (S : Tab × Lvs), TInv M mk S → 98 ≤ n + S.1.length → TInv M mk (loopS M mk n S) ∧ Closed M mk (loopS M mk n S)
  | 0, S, h, hn => by have := h.len; omega
  | n + 1, S, h, hn => by
    unfold loopS
    split
    · rename_i hlt
      exact loop_ok n _ (h.passN _) (by omega)
    · rename_i hlt
      obtain ⟨h1, h2⟩ := pass_same hlt
      rw [h1]
      exact ⟨h, h2⟩
theorem TInv.nil : TInv M mk ([], []) := ⟨List.nodup_nil, (fun e h => by cases h), (fun h => rfl), Nat.le_refl _, (fun k p h => by simp at h)⟩
end
/-! ### the marks as a dict -/
def mkA (mk : List Int) : List (Int × D) := mk.foldl (fun A i => putA A i (.bl true)) []
def mkD (mk : List Int) : List (List Int × D) := enc (fun i => [i]) id (mkA mk)
theorem one_inj (a b : Int) (h : ([a] : List Int) = [b]) : a = b := by simpa using h
theorem mkA_mem : ∀ (mk : List Int) (A : List (Int × D)) (i : Int), i ∈ (mk.foldl (fun A i => putA A i (D.bl true)) A).map (·.1) ↔ i ∈ mk ∨ i ∈ A.map (·.1)
  | [], A, i => by simp
  | x :: mk, A, i => by
    rw [List.foldl_cons, mkA_mem mk]
    have : i ∈ (putA A x (D.bl true)).map (·.1) ↔ i = x ∨ i ∈ A.map (·.1) := by
      by_cases h : x ∈ A.map (·.1)
      · rw [putA_keys h]
        constructor
        · exact .inr
        · rintro (z | z)
          · rw [z]; exact h
          · exact z
      · rw [putA_new h, List.map_append]
        simp [or_comm]
    rw [this, List.mem_cons]
    constructor
    · rintro (z | z | z)
      · exact .inl (.inr z)
      · exact .inl (.inl z)
      · exact .inr z
    · rintro ((z | z) | z)
      · exact .inr (.inl z)
      · exact .inl z
      · exact .inr (.inr z)
theorem look_mk (mk : List Int) (i : Int) : (look (mkD mk) [i]).isSome = decide (i ∈ mk) := by
  unfold mkD
  have := look_enc (v := (id : D → D)) one_inj (mkA mk) i
  rw [this, Option.isSome_map, getA_isSome]
  have h := mkA_mem mk [] i
  simp at h
  unfold mkA
  simp [h]
theorem mkA_len : ∀ (mk : List Int) (A : List (Int × D)), (mk.foldl (fun A i => putA A i (D.bl true)) A).length ≤ A.length + mk.length
  | [], A => Nat.le_refl _
  | x :: mk, A => by
    rw [List.foldl_cons, List.length_cons]
    have h1 := mkA_len mk (putA A x (D.bl true))
    have h2 := putA_len (L := A) (a := x) (b := D.bl true)
    omega
/-! ### TakeOff(machine, marked) -/
def finS (M : Mach) (mk : List Int) : Tab × Lvs := loopS M mk 98 ([], [])
theorem fin_ok (M : Mach) (mk : List Int) : TInv M mk (finS M mk) ∧ Closed M mk (finS M mk) := loop_ok 98 _ .nil (by simp)
theorem take_map_snoc {α : Type} {l : List α} {k : Nat} {x : α} (h : l[k]? = some x) {β : Type} (f : β → α → β) (b : β) : (l.take (k + 1)).foldl f b = f ((l.take k).foldl f b) x := by
  rw [take_next h, List.foldl_append]; rfl
theorem takeoff_ok (M : Mach) (mk : List Int) (hmk : mk.length ≤ 10) : g_TakeOff_init [] [M.d, .tup (mk.map .int)] = some (.non, tkF M (mkD mk) (finS M mk).1 (finS M mk).2) := by
  have n10 := M.n10
  refine runI_tr rfl fun a => ?_
  show Tr _ _ (F_TakeOff_init MX [some (.obj (some a) .takeoff []), some (.dat M.d), some (.dat (.tup (mk.map .int))), none, none, none])
  unfold F_TakeOff_init
  refine tr_seq (tr_fld rfl rfl rfl (tr_seq (tr_fldO rfl rfl (tr_seq ?_))))
  refine tr_for (l := mk.map .int) (fun k r => ∃ x3, r = [some (.obj (some a) .takeoff [.dat M.d, .own (.dic .i (mkD (mk.take k)))]), some (.dat M.d), some (.dat (.tup (mk.map .int))), x3, none, none]) rfl ⟨none, rfl⟩ ?_ ?_
  · rintro k d r hk ⟨x3, rfl⟩
    obtain ⟨i, hi, rfl⟩ := getElem_map_some hk
    refine ⟨_, rfl, ?_⟩
    refine tr_put (kvs := mkD (mk.take k)) (d := .bl true) (k0 := [i]) rfl rfl rfl ?_ ⟨some (.dat (.int i)), ?_⟩
    · unfold mkD mkA
      rw [enc_len]
      have := mkA_len (mk.take k) []
      rw [List.length_take] at this
      simp at this
      unfold lim; omega
    · have e : put (mkD (mk.take k)) [i] (.bl true) = mkD (mk.take (k + 1)) := by
        unfold mkD
        have := put_enc (v := (id : D → D)) one_inj (mkA (mk.take k)) i (.bl true)
        refine this.trans ?_
        congr 1
        unfold mkA
        rw [take_map_snoc hi]
      rw [e]
      rfl
  · rintro r ⟨x3, rfl⟩
    rw [List.length_map, List.take_length]
    refine tr_seq (tr_fldO rfl rfl (tr_seq (tr_fldO rfl rfl (tr_seq (tr_set rfl ?_)))))
    refine tr_while (fun m r => ∃ (S : Tab × Lvs) (ch : Bool) (x3 : Option SV), r = [some (.obj (some a) .takeoff (tkF M (mkD mk) S.1 S.2)), some (.dat M.d), some (.dat (.tup (mk.map .int))), x3, some (.dat (.bl ch)), none] ∧ TInv M mk S ∧ (ch = true → 98 ≤ m + S.1.length ∧ loopS M mk m S = finS M mk) ∧ (ch = false → m = 0 ∧ S = finS M mk))
      ?_ MX 98 _ (by unfold MX; decide) ⟨([], []), true, x3, rfl, .nil, fun _ => ⟨by simp, rfl⟩, (fun h => nomatch h)⟩
    rintro m r ⟨S, ch, x3, rfl, hI, h1, h2⟩
    refine ⟨ch, rfl, fun hc => ?_, fun hc => ?_⟩
    · subst hc
      obtain ⟨h3, h4⟩ := h1 rfl
      have hlen := hI.len
      obtain ⟨n, rfl⟩ : ∃ n, m = n + 1 := ⟨m - 1, by omega⟩
      have elen : pLenD .e (.f 0 .takeoff 2) [some (.obj (some a) .takeoff (tkF M (mkD mk) S.1 S.2)), some (.dat M.d), some (.dat (.tup (mk.map .int))), x3, some (.dat (.bl true)), none] = some (.int (S.1.length : Nat)) := by
        show (if (tabD S.1).length ≤ lim then some (D.int (tabD S.1).length) else none) = _
        rw [tabD, enc_len, if_pos (by unfold lim; omega)]
      refine tr_seq (tr_set elen (tr_seq ?_))
      refine tr_for (l := (List.range M.st.length).map fun i => .int (i : Nat)) (fun k r => ∃ x3, r = [some (.obj (some a) .takeoff (tkF M (mkD mk) (passN M mk k S).1 (passN M mk k S).2)), some (.dat M.d), some (.dat (.tup (mk.map .int))), x3, some (.dat (.bl true)), some (.dat (.int (S.1.length : Nat)))])
        (evRange (n := M.st.length) (evC (evA rfl evN) (by
          show some (D.int ((M.st.map Ste.d).length : Nat)) = _
          rw [List.length_map])) (by omega)) ⟨x3, rfl⟩ ?_ ?_
      · rintro k d r hk ⟨x3, rfl⟩
        obtain ⟨hkl, rfl⟩ := range_at hk
        refine ⟨_, rfl, ?_⟩
        have hx : M.st[k]? = some M.st[k] := List.getElem?_eq_getElem hkl
        refine tr_meth rfl (evA rfl evN) (use_ok M (mkD mk) (decide ((k : Int) ∈ mk)) (passN M mk k S) k M.st[k] hx (look_mk mk _) (hI.passN k).sz) ⟨some (.dat (.int (k : Nat))), ?_⟩
        rw [passN_succ]
        unfold stepAt
        rw [hx]
        rfl
      · rintro r ⟨x3, rfl⟩
        have hI2 := hI.passN (n := M.st.length)
        have hlen2 := hI2.len
        rw [List.length_map, List.length_range]
        have ep : passN M mk M.st.length S = passS M mk S := rfl
        rw [ep] at hI2 hlen2 ⊢
        have elen2 : e2 oGt (pLenD .e (.f 0 .takeoff 2)) (eV 5) [some (.obj (some a) .takeoff (tkF M (mkD mk) (passS M mk S).1 (passS M mk S).2)), some (.dat M.d), some (.dat (.tup (mk.map .int))), x3, some (.dat (.bl true)), some (.dat (.int (S.1.length : Nat)))] = some (.bl (decide (S.1.length < (passS M mk S).1.length))) := by
          refine ev2 (x := .int ((passS M mk S).1.length : Nat)) (y := .int (S.1.length : Nat)) ?_ rfl ?_
          · show (if (tabD (passS M mk S).1).length ≤ lim then some (D.int (tabD (passS M mk S).1).length) else none) = _
            rw [tabD, enc_len, if_pos (by unfold lim; omega)]
          · show some (D.bl (decide ((S.1.length : Int) < (passS M mk S).1.length))) = _
            congr 2
            exact decide_eq_decide.mpr Int.ofNat_lt
        refine tr_seq (tr_set elen2 (tr_seq (tr_fgt (tr_nil ?_))))
        by_cases hlt : S.1.length < (passS M mk S).1.length
        · refine ⟨n, by omega, passS M mk S, true, x3, ?_, hI2, fun _ => ⟨by omega, ?_⟩, (fun h => nomatch h)⟩
          · rw [decide_eq_true hlt]; rfl
          · rw [← h4]
            exact (if_pos hlt).symm
        · refine ⟨0, by omega, passS M mk S, false, x3, ?_, hI2, (fun h => nomatch h), fun _ => ⟨rfl, ?_⟩⟩
          · rw [decide_eq_false hlt]; rfl
          · rw [← h4]
            exact (if_neg hlt).symm
    · subst hc
      obtain ⟨_, h4⟩ := h2 rfl
      rw [← h4]
      rfl
end DL
end

section
set_option linter.all false
set_option maxRecDepth 100000
set_option maxHeartbeats 1000000
/-! E7 (pure): heads and their moves. -/
namespace DL
structure Mv where
  h : Hd
  m : Bool
  i : Nat
  e : Option Ent
def eD : Option Ent → D
  | none => .non
  | some e => e.d
def Mv.d (v : Mv) : D := .tup [hdD v.h, .bl v.m, .int (v.i : Nat), eD v.e]
abbrev Mvs := List (Hd × List Mv)
def mvsOf (A : Mvs) (h : Hd) : List Mv := (getA A h).getD []
def mvsD (A : Mvs) : List (List Int × List D) := enc hdK (fun l => l.map Mv.d) A
def putM (A : Mvs) (p : Hd × Mv) : Mvs := putA A p.1 (mvsOf A p.1 ++ [p.2])
/-- the moves that a step gives -/
def mv1 (i : Nat) (x : Ste) (m : Bool) : List Mv := match x.laid with
  | [] => []
  | c :: _ => [⟨(x.g, c), m, i, none⟩]
def mv2 (K : List Ent) (i : Nat) (x : Ste) (m : Bool) : List Mv := match x.laid with
  | [c, c2] => (K.filter fun e => decide (e.h = (x.g, c))).map fun e => ⟨(e.g, c2), m || e.f, i, some e⟩
  | _ => []
def stepMv (K : List Ent) (i : Nat) (x : Ste) (m : Bool) : List Mv := mv1 i x m ++ mv2 K i x m
theorem mv1_len (i : Nat) (x : Ste) (m : Bool) : (mv1 i x m).length ≤ 1 := by
  unfold mv1
  split <;> simp
theorem mv2_len {K : List Ent} (hK : K.length ≤ 96) (i : Nat) (x : Ste) (m : Bool) : (mv2 K i x m).length ≤ 96 := by
  unfold mv2
  split
  · rw [List.length_map]; exact Nat.le_trans (List.length_filter_le _ _) hK
  · simp
def movesAt (M : Mach) (mk : List Int) (K : List Ent) (i : Nat) : List (Hd × Mv) := match M.st[i]? with
  | some x => (stepMv K i x (decide ((i : Int) ∈ mk))).map fun v => ((x.s, x.l), v)
  | none => []
def allMv (M : Mach) (mk : List Int) (K : List Ent) (n : Nat) : List (Hd × Mv) := (List.range n).flatMap (movesAt M mk K)
theorem mvs_putM {A : Mvs} {p : Hd × Mv} {h : Hd} : mvsOf (putM A p) h = if p.1 = h then mvsOf A h ++ [p.2] else mvsOf A h := by
  unfold putM
  show (getA (putA A p.1 (mvsOf A p.1 ++ [p.2])) h).getD [] = _
  rw [getA_putA]
  by_cases q : p.1 = h
  · rw [if_pos q, if_pos q, q]; rfl
  · rw [if_neg q, if_neg q]; rfl
theorem mvs_fold : ∀ (l : List (Hd × Mv)) (A : Mvs) (h : Hd), mvsOf (l.foldl putM A) h = mvsOf A h ++ (l.filter fun p => decide (p.1 = h)).map (·.2)
  | [], A, h => by simp
  | p :: l, A, h => by
    rw [List.foldl_cons, mvs_fold l, mvs_putM]
    by_cases q : p.1 = h
    · simp [q]
    · simp [q]
theorem putM_len (A : Mvs) (p : Hd × Mv) : (putM A p).length ≤ A.length + 1 := putA_len
theorem foldM_len : ∀ (l : List (Hd × Mv)) (A : Mvs), (l.foldl putM A).length ≤ A.length + l.length
  | [], A => Nat.le_refl _
  | p :: l, A => by
    rw [List.foldl_cons, List.length_cons]
    have := foldM_len l (putM A p)
    have := putM_len A p
    omega
theorem foldM_mvs (l : List (Hd × Mv)) (h : Hd) : (mvsOf (l.foldl putM []) h).length ≤ l.length := by
  rw [mvs_fold]
  show (([] : List Mv) ++ _).length ≤ _
  rw [List.nil_append, List.length_map]
  exact List.length_filter_le _ _
theorem look_mvs (A : Mvs) (h : Hd) : (look (mvsD A) (hdK h)).getD [] = (mvsOf A h).map Mv.d := by
  unfold mvsD mvsOf
  rw [look_enc hdK_inj]
  cases getA A h <;> rfl
theorem put_mvs (A : Mvs) (h : Hd) (l : List Mv) : put (mvsD A) (hdK h) (l.map Mv.d) = mvsD (putA A h l) := put_enc hdK_inj (v := fun l : List Mv => l.map Mv.d) A h l
/-- a dict of lists, frozen -/
def frzB (kvs : List (List Int × List D)) : List (List Int × D) := kvs.map fun p => (p.1, .lst p.2)
theorem look_frzB (kvs : List (List Int × List D)) (k : List Int) : look (frzB kvs) k = (look kvs k).map .lst := by
  unfold frzB look
  induction kvs with
  | nil => rfl
  | cons p l ih =>
    rw [List.map_cons, List.find?_cons, List.find?_cons]
    by_cases q : p.1 = k
    · simp [q]
    · simp only [q, decide_false]
      exact ih
theorem getD_lst (o : Option (List D)) : (o.map D.lst).getD (.lst []) = .lst (o.getD []) := by cases o <;> rfl
/-- the table as data -/
def tkD (M : Mach) (mk : List Int) (S : Tab × Lvs) : D := .obj .takeoff [M.d, .dic .i (mkD mk), .dic .e (tabD S.1), .dic .t (frzB (lvsD S.2))]
theorem tkF_frz (M : Mach) (mk : List Int) (S : Tab × Lvs) : (SV.obj none .takeoff (tkF M (mkD mk) S.1 S.2)).frz = tkD M mk S := rfl
theorem entries_ok (M : Mach) (mk : List Int) (S : Tab × Lvs) (s c : Int) : g_TakeOff_entries [tkD M mk S, .int s, .int c] = some (.lst ((entsL S.2 (s, c)).map Ent.d)) := by
  refine runM_tr rfl ?_
  show Tr _ _ (F_TakeOff_entries MX [some (.dat (tkD M mk S)), some (.dat (.int s)), some (.dat (.int c))])
  unfold F_TakeOff_entries
  refine tr_ret (ev2 rfl (evT (evA rfl (evA rfl evN)) (by simp)) ?_) rfl
  show some ((look (frzB (lvsD S.2)) (hdK (s, c))).getD (.lst [])) = _
  rw [look_frzB, getD_lst, look_lvs]
def hdO (A : Mvs) : D := .obj .heads [.dic .t (frzB (mvsD A))]
theorem put_ok (A : Mvs) (x : Ste) (v : Mv) (h1 : A.length < 10000) (h2 : (mvsOf A (x.s, x.l)).length < 10000) :
    g_Heads_put [.own (.dil (mvsD A))] [x.d, v.d] = some (.non, [.own (.dil (mvsD (putM A ((x.s, x.l), v))))]) := by
  refine runO_tr rfl fun a => ?_
  show Tr _ _ (F_Heads_put MX [some (.obj (some a) .heads [.own (.dil (mvsD A))]), some (.dat x.d), some (.dat v.d)])
  unfold F_Heads_put
  refine tr_sdApp (kvs := mvsD A) (k0 := hdK (x.s, x.l)) (d := v.d) rfl ?_ rfl (by rw [mvsD, enc_len]; unfold lim; omega) (by rw [look_mvs, List.length_map]; unfold lim; omega) ⟨rfl, ?_⟩
  · rw [evT (evA rfl (evA rfl evN)) (by simp)]; rfl
  · have e1 : (look (mvsD A) (hdK (x.s, x.l))).getD [] ++ [v.d] = (mvsOf A (x.s, x.l) ++ [v]).map Mv.d := by rw [look_mvs, List.map_append]; rfl
    rw [e1, put_mvs]
    rfl
theorem moves_ok (A : Mvs) (h : Hd) : g_Heads_moves_from [hdO A, hdD h] = some (.lst ((mvsOf A h).map Mv.d)) := by
  refine runM_tr rfl ?_
  show Tr _ _ (F_Heads_moves_from MX [some (.dat (hdO A)), some (.dat (hdD h))])
  unfold F_Heads_moves_from
  refine tr_ret (ev2 rfl rfl ?_) rfl
  show some ((look (frzB (mvsD A)) (hdK h)).getD (.lst [])) = _
  rw [look_frzB, getD_lst, look_mvs]
theorem stepMv_len {K : List Ent} (hK : K.length ≤ 96) (i : Nat) (x : Ste) (m : Bool) : (stepMv K i x m).length ≤ 97 := by
  unfold stepMv
  rw [List.length_append]
  have h1 := mv1_len i x m
  have h2 := mv2_len hK i x m
  omega
theorem allMv_len {M : Mach} {mk : List Int} {K : List Ent} (hK : K.length ≤ 96) (n : Nat) : (allMv M mk K n).length ≤ n * 97 := by
  unfold allMv
  have := flatMap_len (f := movesAt M mk K) (n := 97) (List.range n) fun i _ => by
    unfold movesAt
    split
    · rw [List.length_map]; exact stepMv_len hK _ _ _
    · simp
  rwa [List.length_range] at this
theorem allMv_succ {M : Mach} {mk : List Int} {K : List Ent} (n : Nat) : allMv M mk K (n + 1) = allMv M mk K n ++ movesAt M mk K n := by
  unfold allMv
  rw [List.range_succ, List.flatMap_append, List.flatMap_singleton]
/-- all moves, by their heads -/
def hdsA (M : Mach) (mk : List Int) (K : List Ent) : Mvs := (allMv M mk K M.st.length).foldl putM []
theorem mapIdx_some {α β : Type} {l : List α} {f : Nat → α → β} {k : Nat} {d : β} (h : (l.mapIdx f)[k]? = some d) : ∃ x, l[k]? = some x ∧ d = f k x := by
  rw [List.getElem?_mapIdx] at h
  obtain ⟨x, h1, h2⟩ := Option.map_eq_some_iff.mp h
  exact ⟨x, h1, h2.symm⟩
theorem gT2 {r : Env} {a b : Nat} {x y : D} : gT [a, b] (.tup [x, y]) r = some ((r.set a (some (.dat x))).set b (some (.dat y))) := rfl
theorem heads_ok (M : Mach) (mk : List Int) (S : Tab × Lvs) (hI : TInv M mk S) : g_Heads_init [] [M.d, tkD M mk S] = some (.non, [.own (.dil (mvsD (hdsA M mk (keys S.1))))]) := by
  have n10 := M.n10
  have hK : (keys S.1).length ≤ 96 := by unfold keys; rw [List.length_map]; exact hI.len
  refine runI_tr rfl fun a => ?_
  show Tr _ _ (F_Heads_init MX [some (.obj (some a) .heads []), some (.dat M.d), some (.dat (tkD M mk S)), none, none, none, none])
  unfold F_Heads_init
  refine tr_seq (tr_fldO rfl rfl ?_)
  have hit : iEnum (e1 (oFld .machine 2) (eV 1)) [some (.obj (some a) .heads [.own (.dil [])]), some (.dat M.d), some (.dat (tkD M mk S)), none, none, none, none] = some ((M.st.map Ste.d).mapIdx fun i d => .tup [.int (i : Nat), d]) := rfl
  refine tr_for (fun k r => r = [some (.obj (some a) .heads [.own (.dil (mvsD ((allMv M mk (keys S.1) k).foldl putM [])))]), some (.dat M.d), some (.dat (tkD M mk S)), none, none, none, none]) hit rfl ?_ ?_
  · rintro k d r hk rfl
    obtain ⟨y, hy, rfl⟩ := mapIdx_some hk
    obtain ⟨x, hx, rfl⟩ := getElem_map_some hy
    have hkl := (List.getElem?_eq_some_iff.mp hx).1
    have gx := M.ok x (List.mem_of_getElem? hx)
    have hal := allMv_len (M := M) (mk := mk) hK k
    have hA1 := foldM_len (allMv M mk (keys S.1) k) []
    have hA2 := foldM_mvs (allMv M mk (keys S.1) k)
    have hk97 : k * 97 ≤ 970 := by omega
    simp at hA1
    rw [allMv_succ, List.foldl_append]
    have emv : movesAt M mk (keys S.1) k = (stepMv (keys S.1) k x (decide ((k : Int) ∈ mk))).map fun v => ((x.s, x.l), v) := by unfold movesAt; rw [hx]
    rw [emv]
    generalize (allMv M mk (keys S.1) k).foldl putM [] = A at hA1 hA2
    refine ⟨_, gT2, tr_seq (tr_set (d := .bl (decide ((k : Int) ∈ mk))) (ev2 (x := .int (k : Nat)) (y := .dic .i (mkD mk)) rfl rfl ?_) ?_)⟩
    · show some (D.bl (look (mkD mk) [(k : Int)]).isSome) = _
      rw [look_mk]
    generalize decide ((k : Int) ∈ mk) = m
    -- the first letter
    have glen : gLen [.tup (x.laid.map .int)] = some (.int (x.laid.length : Nat)) := by
      show some (D.int ((x.laid.map D.int).length : Nat)) = _
      rw [List.length_map]
    obtain ⟨m1, hm1⟩ : ∃ m1, m1 = mv1 k x m := ⟨_, rfl⟩
    obtain ⟨m2, hm2⟩ : ∃ m2, m2 = mv2 (keys S.1) k x m := ⟨_, rfl⟩
    have hst : stepMv (keys S.1) k x m = m1 ++ m2 := by rw [hm1, hm2]; rfl
    have h1 : m1.length ≤ 1 := by rw [hm1]; exact mv1_len k x m
    unfold mv1 at hm1
    unfold mv2 at hm2
    rw [hst, List.map_append, List.foldl_append]
    have first : Tr (fun r => r = [some (.obj (some a) .heads [.own (.dil (mvsD ((m1.map fun v => ((x.s, x.l), v)).foldl putM A)))]), some (.dat M.d), some (.dat (tkD M mk S)), some (.dat (.int (k : Nat))), some (.dat x.d), some (.dat (.bl m)), none]) (fun _ _ => False)
        (sIf (e2 oGt (eCall gLen (aC (e1 (oFld .step 3) (eV 4)) aN)) (eC (.int 0)))
          (sMeth 0 .heads g_Heads_put (aC (eV 4) (aC (eTup (aC (eTup (aC (e1 (oFld .step 2) (eV 4)) (aC (eIx (e1 (oFld .step 3) (eV 4)) (eC (.int 0))) aN))) (aC (eV 5) (aC (eV 3) (aC (eC .non) aN))))) aN)))
          sNil [some (.obj (some a) .heads [.own (.dil (mvsD A))]), some (.dat M.d), some (.dat (tkD M mk S)), some (.dat (.int (k : Nat))), some (.dat x.d), some (.dat (.bl m)), none]) := by
      refine tr_if (b := decide ((0 : Int) < (x.laid.length : Nat))) (evB (ev2 (x := .int (x.laid.length : Nat)) (y := .int 0) (evC (evA rfl evN) glen) rfl rfl)) (fun hb => ?_) (fun hb => ?_)
      · have hp := of_decide_eq_true hb
        cases hl : x.laid with
        | nil => rw [hl] at hp; simp at hp
        | cons c cs =>
          simp only [hl] at hm1
          refine tr_meth rfl (evA rfl (evA (evT (evA (x := hdD (x.g, c)) (evT (evA rfl (evA (x := .int c) (evIx (i := 0) (l := x.laid.map .int) rfl rfl rfl (by rw [hl]; rfl)) evN)) (by simp)) (evA rfl (evA rfl (evA rfl evN)))) (by simp)) evN)) (put_ok A x ⟨(x.g, c), m, k, none⟩ (by omega) (by have := hA2 (x.s, x.l); omega)) ?_
          rw [hm1]
          rfl
      · have hp := of_decide_eq_false hb
        cases hl : x.laid with
        | nil =>
          simp only [hl] at hm1
          rw [hm1]
          exact tr_nil rfl
        | cons c cs => rw [hl] at hp; exact absurd hp (by simp)
    refine tr_seq' first fun r hr => ?_
    subst hr
    have hB1 : ((m1.map fun v => ((x.s, x.l), v)).foldl putM A).length ≤ 2000 := by
      have := foldM_len (m1.map fun v => ((x.s, x.l), v)) A
      rw [List.length_map] at this; omega
    have hB2 : ∀ h, (mvsOf ((m1.map fun v => ((x.s, x.l), v)).foldl putM A) h).length ≤ 2000 := fun h => by
      rw [mvs_fold, List.length_append, List.length_map]
      have h2 := List.length_filter_le (fun p : Hd × Mv => decide (p.1 = h)) (m1.map fun v => ((x.s, x.l), v))
      rw [List.length_map] at h2
      have := hA2 h
      omega
    generalize (m1.map fun v => ((x.s, x.l), v)).foldl putM A = B at hB1 hB2
    have second : Tr (fun r => ∃ x6, r = [some (.obj (some a) .heads [.own (.dil (mvsD ((m2.map fun v => ((x.s, x.l), v)).foldl putM B)))]), some (.dat M.d), some (.dat (tkD M mk S)), some (.dat (.int (k : Nat))), some (.dat x.d), some (.dat (.bl m)), x6]) (fun _ _ => False)
        (sIf (e2 oEqI (eCall gLen (aC (e1 (oFld .step 3) (eV 4)) aN)) (eC (.int 2)))
          (sFor (gN 6) (oList (eCall g_TakeOff_entries (aC (eV 2) (aC (e1 (oFld .step 2) (eV 4)) (aC (eIx (e1 (oFld .step 3) (eV 4)) (eC (.int 0))) aN)))))
            (sSeq (sMeth 0 .heads g_Heads_put (aC (eV 4) (aC (eTup (aC (eTup (aC (eIx (eV 6) (eC (.int 2))) (aC (eIx (e1 (oFld .step 3) (eV 4)) (eC (.int 1))) aN))) (aC (eOr (eV 5) (eIx (eV 6) (eC (.int 3)))) (aC (eV 3) (aC (eV 6) aN))))) aN)))
            (sSeq (sFgt [6]) sNil)))
          sNil [some (.obj (some a) .heads [.own (.dil (mvsD B))]), some (.dat M.d), some (.dat (tkD M mk S)), some (.dat (.int (k : Nat))), some (.dat x.d), some (.dat (.bl m)), none]) := by
      refine tr_if (b := decide ((x.laid.length : Int) = 2)) (evB (ev2 (x := .int (x.laid.length : Nat)) (y := .int 2) (evC (evA rfl evN) glen) rfl rfl)) (fun hb => ?_) (fun hb => ?_)
      · have hp := of_decide_eq_true hb
        obtain ⟨c, c2, hl⟩ : ∃ c c2, x.laid = [c, c2] := by
          match hq : x.laid with
          | [] => rw [hq] at hp; simp at hp
          | [c] => rw [hq] at hp; simp at hp
          | [c, c2] => exact ⟨c, c2, rfl⟩
          | c :: c2 :: c3 :: cs => rw [hq] at hp; simp at hp; omega
        simp only [hl] at hm2
        have hes : entsL S.2 (x.g, c) = (keys S.1).filter fun e => decide (e.h = (x.g, c)) := hI.lv _
        have hesl : (entsL S.2 (x.g, c)).length ≤ 96 := hI.sz.l _
        have hm2' : m2 = (entsL S.2 (x.g, c)).map fun e => ⟨(e.g, c2), m || e.f, k, some e⟩ := by rw [hm2, hes]
        have hcall : oList (eCall g_TakeOff_entries (aC (eV 2) (aC (e1 (oFld .step 2) (eV 4)) (aC (eIx (e1 (oFld .step 3) (eV 4)) (eC (.int 0))) aN)))) [some (.obj (some a) .heads [.own (.dil (mvsD B))]), some (.dat M.d), some (.dat (tkD M mk S)), some (.dat (.int (k : Nat))), some (.dat x.d), some (.dat (.bl m)), none] = some ((entsL S.2 (x.g, c)).map Ent.d) := by
          unfold oList
          rw [evC (evA rfl (evA (x := .int x.g) rfl (evA (x := .int c) (evIx (i := 0) (l := x.laid.map .int) rfl rfl rfl (by rw [hl]; rfl)) evN))) (entries_ok M mk S x.g c)]
          rfl
        generalize entsL S.2 (x.g, c) = es at hm2' hesl hcall
        refine tr_for (fun n r => ∃ x6, r = [some (.obj (some a) .heads [.own (.dil (mvsD ((((es.take n).map fun e => (⟨(e.g, c2), m || e.f, k, some e⟩ : Mv)).map fun v => ((x.s, x.l), v)).foldl putM B)))]), some (.dat M.d), some (.dat (tkD M mk S)), some (.dat (.int (k : Nat))), some (.dat x.d), some (.dat (.bl m)), x6]) hcall ⟨none, rfl⟩ ?_ ?_
        · rintro n d r hn ⟨x6, rfl⟩
          obtain ⟨e, he, rfl⟩ := getElem_map_some hn
          have hnl := (List.getElem?_eq_some_iff.mp he).1
          rw [take_next he, List.map_append, List.map_append, List.foldl_append]
          have hC1 : ((((es.take n).map fun e => (⟨(e.g, c2), m || e.f, k, some e⟩ : Mv)).map fun v => ((x.s, x.l), v)).foldl putM B).length ≤ 3000 := by
            have := foldM_len (((es.take n).map fun e => (⟨(e.g, c2), m || e.f, k, some e⟩ : Mv)).map fun v => ((x.s, x.l), v)) B
            rw [List.length_map, List.length_map, List.length_take] at this
            omega
          have hC2 : (mvsOf ((((es.take n).map fun e => (⟨(e.g, c2), m || e.f, k, some e⟩ : Mv)).map fun v => ((x.s, x.l), v)).foldl putM B) (x.s, x.l)).length ≤ 3000 := by
            rw [mvs_fold, List.length_append, List.length_map]
            have h2 := List.length_filter_le (fun p : Hd × Mv => decide (p.1 = (x.s, x.l))) (((es.take n).map fun e => (⟨(e.g, c2), m || e.f, k, some e⟩ : Mv)).map fun v => ((x.s, x.l), v))
            rw [List.length_map, List.length_map, List.length_take] at h2
            have := hB2 (x.s, x.l)
            omega
          generalize (((es.take n).map fun e => (⟨(e.g, c2), m || e.f, k, some e⟩ : Mv)).map fun v => ((x.s, x.l), v)).foldl putM B = C at hC1 hC2
          refine ⟨_, rfl, tr_seq (tr_meth rfl (evA rfl (evA (evT (evA (x := hdD (e.g, c2)) (evT (evA rfl (evA (x := .int c2) (evIx (i := 1) (l := x.laid.map .int) rfl rfl rfl (by rw [hl]; rfl)) evN)) (by simp)) (evA (x := .bl (m || e.f)) (evOrB rfl rfl) (evA rfl (evA rfl evN)))) (by simp)) evN)) (put_ok C x ⟨(e.g, c2), m || e.f, k, some e⟩ (by omega) (by omega)) (tr_seq (tr_fgt (tr_nil ⟨none, rfl⟩))))⟩
        · rintro r ⟨x6, rfl⟩
          rw [List.length_map, List.take_length, ← hm2']
          exact ⟨x6, rfl⟩
      · have hp := of_decide_eq_false hb
        have : m2 = [] := by
          rw [hm2]
          match hq : x.laid with
          | [] => rfl
          | [c] => rfl
          | [c, c2] => rw [hq] at hp; simp at hp
          | c :: c2 :: c3 :: cs => rfl
        rw [this]
        exact tr_nil ⟨none, rfl⟩
    refine tr_seq' second fun r hr => ?_
    obtain ⟨x6, rfl⟩ := hr
    exact tr_fgt rfl
  · rintro r rfl
    rw [List.length_mapIdx, List.length_map]
    rfl
end DL
end

section
set_option linter.all false
set_option maxRecDepth 100000
set_option maxHeartbeats 1000000
/-! E8 (pure): what heads reach, ways, the ring. -/
namespace DL
structure HR (M : Mach) (h : Hd) : Prop where
  s0 : 0 ≤ h.1
  s1 : h.1 < M.S
  l0 : 0 ≤ h.2
  l1 : h.2 < M.L
structure AOk (M : Mach) (A : Mvs) : Prop where
  rng : ∀ h mv, mv ∈ mvsOf A h → HR M mv.h
  len : ∀ h, (mvsOf A h).length ≤ 5000
/-- what was found, with the head and the move ahead -/
abbrev Fnd := List (Hd × Option (Hd × Mv))
def fv : Option (Hd × Mv) → D
  | none => .non
  | some p => .tup [hdD p.1, p.2.d]
def fndD (F : Fnd) : List (List Int × D) := enc hdK fv F
def fk (F : Fnd) : List Hd := F.map (·.1)
theorem look_fnd (F : Fnd) (h : Hd) : look (fndD F) (hdK h) = (getA F h).map fv := look_enc hdK_inj F h
theorem put_fnd (F : Fnd) (h : Hd) (v : Option (Hd × Mv)) : put (fndD F) (hdK h) (fv v) = fndD (putA F h v) := put_enc hdK_inj F h v
def Path (A : Mvs) : Hd → List Mv → Hd → Prop
  | h, [], h' => h = h'
  | h, v :: ws, h' => v ∈ mvsOf A h ∧ Path A v.h ws h'
structure RSpec (M : Mach) (A : Mvs) (hs : List Hd) (F : Fnd) : Prop where
  nd : (fk F).Nodup
  rng : ∀ h ∈ fk F, HR M h
  all : ∀ h ∈ hs, h ∈ fk F
  pred : ∀ (k : Nat) p, F[k]? = some p → (p.2 = none → p.1 ∈ hs) ∧ ∀ q, p.2 = some q → q.2 ∈ mvsOf A q.1 ∧ q.2.h = p.1 ∧ q.1 ∈ fk (F.take k)
  clo : ∀ h ∈ fk F, ∀ v ∈ mvsOf A h, v.h ∈ fk F
def hcode (h : Hd) : Nat := h.1.toNat * 3 + h.2.toNat
theorem HR.lt {M : Mach} {h : Hd} (q : HR M h) : hcode h < 12 := by
  have := M.S4; have := M.L3; have := q.s0; have := q.s1; have := q.l0; have := q.l1
  unfold hcode; omega
theorem HR.inj {M : Mach} {h h' : Hd} (q : HR M h) (q' : HR M h') (e : hcode h = hcode h') : h = h' := by
  have := M.S4; have := M.L3; have := q.s0; have := q.s1; have := q.l0; have := q.l1
  have := q'.s0; have := q'.s1; have := q'.l0; have := q'.l1
  obtain ⟨a, b⟩ := h
  obtain ⟨a', b'⟩ := h'
  simp only [hcode] at *
  have e1 : a = a' := by omega
  have e2 : b = b' := by omega
  rw [e1, e2]
theorem heads_le {M : Mach} {l : List Hd} (nd : l.Nodup) (h : ∀ e ∈ l, HR M e) : l.length ≤ 12 := by
  have := nodup_lt 12 (l.map hcode) (nodup_map_of nd fun x hx y hy => HR.inj (h x hx) (h y hy)) fun x hx => by
    obtain ⟨e, he, rfl⟩ := List.mem_map.mp hx
    exact (h e he).lt
  rwa [List.length_map] at this
theorem fk_app (F G : Fnd) : fk (F ++ G) = fk F ++ fk G := by unfold fk; simp
theorem fk_one (h : Hd) (v : Option (Hd × Mv)) : fk [(h, v)] = [h] := rfl
/-- while the search goes on: P what is still to be looked at, x the head that is just looked at -/
structure RInv (M : Mach) (A : Mvs) (hs : List Hd) (F : Fnd) (P : List Hd) (x : Option Hd) : Prop where
  nd : (fk F).Nodup
  rng : ∀ h ∈ fk F, HR M h
  all : ∀ h ∈ hs, h ∈ fk F
  pred : ∀ (k : Nat) p, F[k]? = some p → (p.2 = none → p.1 ∈ hs) ∧ ∀ q, p.2 = some q → q.2 ∈ mvsOf A q.1 ∧ q.2.h = p.1 ∧ q.1 ∈ fk (F.take k)
  sub : ∀ h ∈ P, h ∈ fk F
  clo : ∀ h ∈ fk F, some h = x ∨ h ∈ P ∨ ∀ v ∈ mvsOf A h, v.h ∈ fk F
theorem RInv.len {M : Mach} {A : Mvs} {hs : List Hd} {F : Fnd} {P : List Hd} {x : Option Hd} (h : RInv M A hs F P x) : F.length ≤ 12 := by
  have := heads_le h.nd h.rng
  unfold fk at this
  rwa [List.length_map] at this
theorem RInv.add {M : Mach} {A : Mvs} {hs : List Hd} {F : Fnd} {P : List Hd} {x : Hd} (hA : AOk M A) (h : RInv M A hs F P (some x)) (hx : x ∈ fk F) {v : Mv} (hv : v ∈ mvsOf A x) (hn : v.h ∉ fk F) : RInv M A hs (F ++ [(v.h, some (x, v))]) (P ++ [v.h]) (some x) := by
  refine ⟨?_, fun y hy => ?_, fun y hy => ?_, fun k p hk => ?_, fun y hy => ?_, fun y hy => ?_⟩
  · rw [fk_app, fk_one]
    refine List.nodup_append.mpr ⟨h.nd, by simp, fun a ha b hb => ?_⟩
    have : b = v.h := by simpa using hb
    rintro rfl
    exact hn (this ▸ ha)
  · rw [fk_app, fk_one] at hy
    rcases List.mem_append.mp hy with z | z
    · exact h.rng y z
    · have : y = v.h := by simpa using z
      rw [this]; exact hA.rng x v hv
  · rw [fk_app]; exact List.mem_append_left _ (h.all y hy)
  · by_cases hlt : k < F.length
    · rw [List.getElem?_append_left hlt] at hk
      rw [List.take_append_of_le_length (by omega)]
      exact h.pred k p hk
    · rw [List.getElem?_append_right (by omega)] at hk
      have hk0 : k - F.length = 0 := by
        have := (List.getElem?_eq_some_iff.mp hk).1
        simp at this; omega
      rw [hk0] at hk
      have hp : p = (v.h, some (x, v)) := by simpa using hk.symm
      have : k = F.length := by omega
      rw [this, List.take_left', hp]
      · refine ⟨(fun z => nomatch z), fun q hq => ?_⟩
        cases hq
        exact ⟨hv, rfl, hx⟩
      · rfl
  · rw [fk_app, fk_one]
    rcases List.mem_append.mp hy with z | z
    · exact List.mem_append_left _ (h.sub y z)
    · exact List.mem_append_right _ z
  · rw [fk_app, fk_one] at hy
    rcases List.mem_append.mp hy with z | z
    · rcases h.clo y z with q | q | q
      · exact .inl q
      · exact .inr (.inl (List.mem_append_left _ q))
      · exact .inr (.inr fun w hw => by rw [fk_app]; exact List.mem_append_left _ (q w hw))
    · exact .inr (.inl (List.mem_append_right _ z))
theorem reached_ok {M : Mach} {A : Mvs} (hA : AOk M A) (hs : List Hd) (hl : hs.length ≤ 12) (hr : ∀ h ∈ hs, HR M h) : ∃ F, g_Heads_reached [hdO A, .lst (hs.map hdD)] = some (.dic .t (fndD F)) ∧ RSpec M A hs F := by
  suffices q : Tr (fun _ => False) (fun d _ => ∃ F, d = .dic .t (fndD F) ∧ RSpec M A hs F) (F_Heads_reached MX (envOf N_Heads_reached ([hdO A, .lst (hs.map hdD)].map .dat))) by
    obtain ⟨d, ⟨F, rfl, h2⟩, h3⟩ := runM_ex (c := .heads) (n := 2) rfl q
    exact ⟨F, h3, h2⟩
  show Tr _ _ (F_Heads_reached MX [some (.dat (hdO A)), some (.dat (.lst (hs.map hdD))), none, none, none, none])
  unfold F_Heads_reached
  refine tr_seq (tr_own (x := .dic .t []) rfl (tr_seq ?_))
  -- the beginnings
  refine tr_for (l := hs.map hdD) (fun k r => ∃ (F : Fnd) (x3 : Option SV), r = [some (.dat (hdO A)), some (.dat (.lst (hs.map hdD))), some (.own (.dic .t (fndD F))), x3, none, none] ∧ (fk F).Nodup ∧ (∀ p ∈ F, p.2 = none ∧ p.1 ∈ hs) ∧ (∀ h ∈ hs.take k, h ∈ fk F) ∧ F.length ≤ k)
    rfl ⟨[], none, rfl, List.nodup_nil, (fun p h => by cases h), (fun h hh => by simp at hh), Nat.le_refl _⟩ ?_ ?_
  · rintro k d r hk ⟨F, x3, rfl, nd, h1, h2, h3⟩
    obtain ⟨h, hh, rfl⟩ := getElem_map_some hk
    have hkl := (List.getElem?_eq_some_iff.mp hh).1
    refine ⟨_, rfl, tr_put (kvs := fndD F) (d := fv none) (k0 := hdK h) rfl rfl rfl (by rw [fndD, enc_len]; unfold lim; omega) ?_⟩
    rw [put_fnd]
    refine ⟨putA F h none, some (.dat (hdD h)), rfl, putA_nodup nd, fun p hp => ?_, fun y hy => ?_, by have := putA_len (L := F) (a := h) (b := (none : Option (Hd × Mv))); omega⟩
    · rcases putA_mem hp with z | z
      · rw [z]
        exact ⟨rfl, List.mem_of_getElem? hh⟩
      · exact h1 p z
    · rw [take_next hh] at hy
      by_cases q : h ∈ F.map (·.1)
      · have e : fk (putA F h none) = fk F := putA_keys q
        rw [e]
        rcases List.mem_append.mp hy with z | z
        · exact h2 y z
        · have : y = h := by simpa using z
          rw [this]; exact q
      · have e : fk (putA F h none) = fk F ++ [h] := by rw [putA_new q, fk_app]; rfl
        rw [e]
        rcases List.mem_append.mp hy with z | z
        · exact List.mem_append_left _ (h2 y z)
        · exact List.mem_append_right _ z
  · rintro r ⟨F0, x3, rfl, nd, h1, h2, h3⟩
    rw [List.length_map, List.take_length] at h2
    rw [List.length_map] at h3
    have ek : cKeys .t (.s 2) [some (.dat (hdO A)), some (.dat (.lst (hs.map hdD))), some (.own (.dic .t (fndD F0))), x3, none, none] = some (.lst ((fk F0).map hdD)) := by
      show some (C1.lst ((fndD F0).map fun q => ofKey .t q.1)) = _
      unfold fndD enc fk
      rw [List.map_map, List.map_map]
      rfl
    refine tr_seq (tr_own ek (tr_seq ?_))
    have hfk : (fk F0).length = F0.length := by unfold fk; simp
    have I0 : RInv M A hs F0 (fk F0) none := by
      refine ⟨nd, fun h hh => ?_, h2, fun k p hk => ?_, fun h hh => hh, fun h hh => .inr (.inl hh)⟩
      · obtain ⟨p, hp, rfl⟩ := List.mem_map.mp hh
        exact hr _ (h1 p hp).2
      · obtain ⟨z1, z2⟩ := h1 p (List.mem_of_getElem? hk)
        exact ⟨fun _ => z2, fun q hq => by rw [z1] at hq; cases hq⟩
    refine tr_while (fun m r => ∃ (F : Fnd) (P : List Hd) (x3 : Option SV), r = [some (.dat (hdO A)), some (.dat (.lst (hs.map hdD))), some (.own (.dic .t (fndD F))), x3, some (.own (.lst (P.map hdD))), none] ∧ RInv M A hs F P none ∧ m = 2 * (12 - F.length) + P.length ∧ m ≤ 36)
      ?_ MX (2 * (12 - F0.length) + (fk F0).length) _ (by unfold MX; omega) ⟨F0, fk F0, x3, rfl, I0, rfl, by omega⟩
    rintro m r ⟨F, P, x3, rfl, I, hm, hm36⟩
    have hPlen : (e2 oGt (pLenL (.s 4)) (eC (.int 0))) [some (.dat (hdO A)), some (.dat (.lst (hs.map hdD))), some (.own (.dic .t (fndD F))), x3, some (.own (.lst (P.map hdD))), none] = some (.bl (decide ((0 : Int) < (P.length : Nat)))) := by
      refine ev2 (x := .int (P.length : Nat)) (y := .int 0) ?_ rfl rfl
      show some (D.int ((P.map hdD).length : Nat)) = _
      rw [List.length_map]
    refine ⟨_, evB hPlen, fun hb => ?_, fun hb => ?_⟩
    · have hp := of_decide_eq_true hb
      obtain ⟨P', x, rfl⟩ : ∃ P' x, P = P' ++ [x] := ⟨P.dropLast, P.getLast (fun z => by rw [z] at hp; simp at hp), (List.dropLast_concat_getLast _).symm⟩
      have hx : x ∈ fk F := I.sub x (by simp)
      refine tr_seq (tr_popTo (l := (P' ++ [x]).map hdD) (d := hdD x) rfl (by rw [List.map_append]; simp) (tr_seq ?_))
      have edl : ((P' ++ [x]).map hdD).dropLast = P'.map hdD := by rw [List.map_append]; simp
      rw [edl]
      have I1 : RInv M A hs F P' (some x) := ⟨I.nd, I.rng, I.all, I.pred, fun h hh => I.sub h (List.mem_append_left _ hh), fun h hh => by
        rcases I.clo h hh with z | z | z
        · cases z
        · rcases List.mem_append.mp z with y | y
          · exact .inr (.inl y)
          · have : h = x := by simpa using y
            exact .inl (by rw [this])
        · exact .inr (.inr z)⟩
      have hcall : oList (eCall g_Heads_moves_from (aC (eV 0) (aC (eV 3) aN))) [some (.dat (hdO A)), some (.dat (.lst (hs.map hdD))), some (.own (.dic .t (fndD F))), some (.dat (hdD x)), some (.own (.lst (P'.map hdD))), none] = some ((mvsOf A x).map Mv.d) := by
        unfold oList
        rw [evC (evA rfl (evA rfl evN)) (moves_ok A x)]
        rfl
      have hmv : ∀ v, v ∈ mvsOf A x → v ∈ mvsOf A x := fun v h => h
      generalize hvs : mvsOf A x = vs at hcall
      refine tr_for (fun j r => ∃ (F' : Fnd) (P2 : List Hd), r = [some (.dat (hdO A)), some (.dat (.lst (hs.map hdD))), some (.own (.dic .t (fndD F'))), some (.dat (hdD x)), some (.own (.lst (P2.map hdD))), none] ∧ RInv M A hs F' P2 (some x) ∧ x ∈ fk F' ∧ (∀ v ∈ vs.take j, v.h ∈ fk F') ∧ 2 * (12 - F'.length) + P2.length ≤ 2 * (12 - F.length) + P'.length )
        hcall ⟨F, P', rfl, I1, hx, (fun v hv => by simp at hv), Nat.le_refl _⟩ ?_ ?_
      · rintro j d r hj ⟨F', P2, rfl, I2, hx2, h4, h5⟩
        obtain ⟨v, hv, rfl⟩ := getElem_map_some hj
        have hvm : v ∈ mvsOf A x := by rw [hvs]; exact List.mem_of_getElem? hv
        have hF := I2.len
        refine ⟨_, rfl, tr_seq ?_⟩
        have hin : pIn .t true (eIx (eV 5) (eC (.int 0))) (.s 2) [some (.dat (hdO A)), some (.dat (.lst (hs.map hdD))), some (.own (.dic .t (fndD F'))), some (.dat (hdD x)), some (.own (.lst (P2.map hdD))), some (.dat v.d)] = some (.bl (!(getA F' v.h).isSome)) := by
          show some (D.bl (!(look (fndD F') (hdK v.h)).isSome)) = _
          rw [look_fnd, Option.isSome_map]
        refine tr_if (evB hin) (fun hb => ?_) (fun hb => ?_)
        · have hnew : v.h ∉ fk F' := getA_out.mp (by simpa using hb)
          refine tr_seq (tr_put (kvs := fndD F') (d := fv (some (x, v))) (k0 := hdK v.h) rfl (evT (evA rfl (evA rfl evN)) (by simp)) rfl (by rw [fndD, enc_len]; unfold lim; omega) ?_)
          rw [put_fnd, putA_new hnew]
          have I3 := I2.add hA hx2 hvm hnew
          have hF3 := I3.len
          rw [List.length_append, List.length_singleton] at hF3
          refine tr_app (l := P2.map hdD) (d := hdD v.h) rfl rfl ?_ (tr_seq (tr_fgt (tr_nil ⟨F' ++ [(v.h, some (x, v))], P2 ++ [v.h], ?_, I3, ?_, fun w hw => ?_, ?_⟩)))
          · rw [List.length_map]; rw [List.length_append, List.length_singleton] at hm; unfold lim; omega
          · rw [List.map_append]; rfl
          · rw [fk_app]; exact List.mem_append_left _ hx2
          · rw [take_next hv] at hw
            rw [fk_app, fk_one]
            rcases List.mem_append.mp hw with z | z
            · exact List.mem_append_left _ (h4 w z)
            · have : w = v := by simpa using z
              rw [this]; simp
          · rw [List.length_append, List.length_append, List.length_singleton, List.length_singleton]; omega
        · have hold : v.h ∈ fk F' := getA_in.mp (by simpa using hb)
          refine tr_nil (tr_seq (tr_fgt (tr_nil ⟨F', P2, rfl, I2, hx2, fun w hw => ?_, h5⟩)))
          rw [take_next hv] at hw
          rcases List.mem_append.mp hw with z | z
          · exact h4 w z
          · have : w = v := by simpa using z
            rw [this]; exact hold
      · rintro r ⟨F', P2, rfl, I2, hx2, h4, h5⟩
        rw [List.length_map, List.take_length] at h4
        refine tr_seq (tr_fgt (tr_nil ⟨2 * (12 - F'.length) + P2.length, ?_, F', P2, some (.dat (hdD x)), rfl, ⟨I2.nd, I2.rng, I2.all, I2.pred, I2.sub, fun h hh => ?_⟩, rfl, ?_⟩))
        · rw [hm, List.length_append, List.length_singleton]; omega
        · rcases I2.clo h hh with z | z | z
          · refine .inr (.inr fun v hv => h4 v ?_)
            cases z
            rw [← hvs]; exact hv
          · exact .inr (.inl z)
          · exact .inr (.inr z)
        · rw [List.length_append, List.length_singleton] at hm; omega
    · have hp := of_decide_eq_false hb
      have hP : P = [] := List.length_eq_zero_iff.mp (by omega)
      subst hP
      refine tr_seq (tr_frz rfl rfl (tr_ret rfl ⟨F, rfl, I.nd, I.rng, I.all, I.pred, fun h hh v hv => ?_⟩))
      rcases I.clo h hh with z | z | z
      · cases z
      · cases z
      · exact z v hv
end DL
end

section
set_option linter.all false
set_option maxRecDepth 100000
set_option maxHeartbeats 1000000
/-! E9 (pure): ways and the ring. -/
namespace DL
theorem Path.app {A : Mvs} : ∀ {ws ws' : List Mv} {a b c : Hd}, Path A a ws b → Path A b ws' c → Path A a (ws ++ ws') c
  | [], _, _, _, _, h, h' => by cases h; exact h'
  | _ :: _, _, _, _, _, h, h' => ⟨h.1, Path.app h.2 h'⟩
theorem Path.stay {A : Mvs} {K : List Hd} (hc : ∀ h ∈ K, ∀ v ∈ mvsOf A h, v.h ∈ K) : ∀ {ws : List Mv} {a b : Hd}, Path A a ws b → a ∈ K → b ∈ K
  | [], _, _, h, ha => by cases h; exact ha
  | v :: ws, _, _, h, ha => Path.stay hc h.2 (hc _ ha v h.1)
theorem mem_take_fk {F : Fnd} {k : Nat} {h : Hd} (q : h ∈ fk (F.take k)) : ∃ (j : Nat) (v : Option (Hd × Mv)), j < k ∧ F[j]? = some (h, v) := by
  obtain ⟨p, hp, rfl⟩ := List.mem_map.mp q
  obtain ⟨j, hj⟩ := List.mem_iff_getElem?.mp hp
  rw [List.getElem?_take] at hj
  split at hj
  · exact ⟨j, p.2, by assumption, hj⟩
  · cases hj
theorem mem_fk {F : Fnd} {h : Hd} (q : h ∈ fk F) : ∃ (j : Nat) (v : Option (Hd × Mv)), F[j]? = some (h, v) := by
  obtain ⟨p, hp, rfl⟩ := List.mem_map.mp q
  obtain ⟨j, hj⟩ := List.mem_iff_getElem?.mp hp
  exact ⟨j, p.2, hj⟩
theorem RSpec.get {M : Mach} {A : Mvs} {hs : List Hd} {F : Fnd} (hF : RSpec M A hs F) {k : Nat} {h : Hd} {v : Option (Hd × Mv)} (hk : F[k]? = some (h, v)) : getA F h = some v := getA_mem hF.nd (List.mem_of_getElem? hk)
theorem RSpec.len {M : Mach} {A : Mvs} {hs : List Hd} {F : Fnd} (hF : RSpec M A hs F) : F.length ≤ 12 := by
  have := heads_le hF.nd hF.rng
  unfold fk at this
  rwa [List.length_map] at this
/-- following what was found to where the search began -/
inductive Fol (F : Fnd) : Hd → Hd → Prop
  | root {h : Hd} : getA F h = some none → Fol F h h
  | step {h h0 : Hd} {q : Hd × Mv} : getA F h = some (some q) → Fol F q.1 h0 → Fol F h h0
theorem Fol.det {F : Fnd} {h a b : Hd} (p : Fol F h a) (q : Fol F h b) : a = b := by
  induction p with
  | root e =>
    cases q with
    | root e' => rfl
    | step e' _ => rw [e] at e'; cases e'
  | step e _ ih =>
    cases q with
    | root e' => rw [e] at e'; cases e'
    | step e' q' =>
      rw [e] at e'
      cases e'
      exact ih q'
theorem way_ok {M : Mach} {A : Mvs} {hs : List Hd} {F : Fnd} (hF : RSpec M A hs F) {h : Hd} (hh : h ∈ fk F) : ∃ (ws : List Mv) (h0 : Hd), g_way_to [.dic .t (fndD F), hdD h] = some (.lst (ws.map Mv.d)) ∧ Path A h0 ws h ∧ getA F h0 = some none ∧ h0 ∈ hs ∧ ws.length ≤ 12 ∧ Fol F h h0 := by
  have hlen := hF.len
  suffices q : Tr (fun _ => False) (fun d _ => ∃ (ws : List Mv) (h0 : Hd), d = .lst (ws.map Mv.d) ∧ Path A h0 ws h ∧ getA F h0 = some none ∧ h0 ∈ hs ∧ ws.length ≤ 12 ∧ Fol F h h0) (F_way_to MX (envOf N_way_to ([.dic .t (fndD F), hdD h].map .dat))) by
    obtain ⟨d, ⟨ws, h0, rfl, h2⟩, h3⟩ := runD_ex (n := 2) rfl q
    exact ⟨ws, h0, h3, h2⟩
  show Tr _ _ (F_way_to MX [some (.dat (.dic .t (fndD F))), some (.dat (hdD h)), none, none])
  unfold F_way_to
  obtain ⟨k0, v0, hk0⟩ := mem_fk hh
  have hk0l := (List.getElem?_eq_some_iff.mp hk0).1
  refine tr_seq (tr_own (x := .lst []) rfl (tr_seq ?_))
  refine tr_while (fun m r => ∃ (h1 : Hd) (acc : List Mv) (v : Option (Hd × Mv)), r = [some (.dat (.dic .t (fndD F))), some (.dat (hdD h1)), some (.own (.lst (acc.map Mv.d))), none] ∧ F[m]? = some (h1, v) ∧ Path A h1 acc.reverse h ∧ acc.length + m ≤ 11 ∧ ∀ h0, Fol F h1 h0 → Fol F h h0)
    ?_ MX k0 _ (by unfold MX; omega) ⟨h, [], v0, rfl, hk0, rfl, by simp; omega, fun _ z => z⟩
  rintro m r ⟨h1, acc, v, rfl, hm, hp, hl, hfo⟩
  have hget : ∀ x3, e2 (oGet .t) (eV 0) (eV 1) [some (.dat (.dic .t (fndD F))), some (.dat (hdD h1)), some (.own (.lst (acc.map Mv.d))), x3] = some (fv v) := fun x3 => by
    refine ev2 rfl rfl ?_
    show look (fndD F) (hdK h1) = _
    rw [look_fnd, hF.get hm]
    rfl
  obtain ⟨p1, p2⟩ := hF.pred m _ hm
  cases v with
  | none =>
    refine ⟨false, evB (ev1 (hget none) rfl), (fun z => nomatch z), fun _ => ?_⟩
    refine tr_ret (d := .lst ((acc.map Mv.d).reverse)) rfl ⟨acc.reverse, h1, ?_, hp, hF.get hm, p1 rfl, by rw [List.length_reverse]; omega, hfo _ (.root (hF.get hm))⟩
    rw [List.map_reverse]
  | some q =>
    refine ⟨true, evB (ev1 (hget none) rfl), fun _ => ?_, (fun z => nomatch z)⟩
    obtain ⟨q1, q2, q3⟩ := p2 q rfl
    obtain ⟨j, v', hj, hj2⟩ := mem_take_fk q3
    refine tr_seq (tr_unp (hget none) gT2 (tr_seq (tr_app (l := acc.map Mv.d) (d := q.2.d) rfl rfl (by rw [List.length_map]; unfold lim; omega) (tr_seq (tr_fgt (tr_nil ⟨j, hj, q.1, acc ++ [q.2], v', ?_, hj2, ?_, ?_, fun h0 z => hfo h0 (.step (hF.get hm) z)⟩))))))
    · rw [List.map_append]; rfl
    · rw [List.reverse_append]
      exact ⟨q1, by rw [q2]; exact hp⟩
    · rw [List.length_append, List.length_singleton]; omega
/-- no ring with a mark -/
def NoRing (A : Mvs) (K : List Hd) : Prop := ∀ h ∈ K, ∀ v ∈ mvsOf A h, v.m = true → ∀ ws, ¬ Path A v.h ws h
theorem ring_ok {M : Mach} {A : Mvs} (hA : AOk M A) {hs : List Hd} {F : Fnd} (hF : RSpec M A hs F) : ∃ d, g_ring_at [hdO A, .dic .t (fndD F)] = some d ∧
    ((d = .non ∧ NoRing A (fk F)) ∨ ∃ (h : Hd) (v : Mv) (ws : List Mv), d = .tup [hdD h, v.d, .lst (ws.map Mv.d)] ∧ h ∈ fk F ∧ v ∈ mvsOf A h ∧ v.m = true ∧ Path A v.h ws h ∧ ws.length ≤ 12) := by
  suffices q : Tr (fun _ => False) (fun d _ => (d = .non ∧ NoRing A (fk F)) ∨ ∃ (h : Hd) (v : Mv) (ws : List Mv), d = .tup [hdD h, v.d, .lst (ws.map Mv.d)] ∧ h ∈ fk F ∧ v ∈ mvsOf A h ∧ v.m = true ∧ Path A v.h ws h ∧ ws.length ≤ 12) (F_ring_at MX (envOf N_ring_at ([hdO A, .dic .t (fndD F)].map .dat))) by
    obtain ⟨d, h2, h3⟩ := runD_ex (n := 2) rfl q
    exact ⟨d, h3, h2⟩
  show Tr _ _ (F_ring_at MX [some (.dat (hdO A)), some (.dat (.dic .t (fndD F))), none, none, none])
  unfold F_ring_at
  have hkeys : iKeys .t (eV 1) [some (.dat (hdO A)), some (.dat (.dic .t (fndD F))), none, none, none] = some ((fk F).map hdD) := by
    show some ((fndD F).map fun p => ofKey .t p.1) = _
    unfold fndD enc fk
    rw [List.map_map, List.map_map]
    rfl
  refine tr_seq ?_
  refine tr_for (fun k r => r = [some (.dat (hdO A)), some (.dat (.dic .t (fndD F))), none, none, none] ∧ NoRing A ((fk F).take k)) hkeys ⟨rfl, fun h hh => by simp at hh⟩ ?_ ?_
  · rintro k d r hk ⟨rfl, hno⟩
    obtain ⟨h, hh, rfl⟩ := getElem_map_some hk
    have hmem : h ∈ fk F := List.mem_of_getElem? hh
    refine ⟨_, rfl, tr_seq ?_⟩
    have hcall : oList (eCall g_Heads_moves_from (aC (eV 0) (aC (eV 2) aN))) [some (.dat (hdO A)), some (.dat (.dic .t (fndD F))), some (.dat (hdD h)), none, none] = some ((mvsOf A h).map Mv.d) := by
      unfold oList
      rw [evC (evA rfl (evA rfl evN)) (moves_ok A h)]
      rfl
    refine tr_for (fun j r => r = [some (.dat (hdO A)), some (.dat (.dic .t (fndD F))), some (.dat (hdD h)), none, none] ∧ ∀ v ∈ (mvsOf A h).take j, v.m = true → ∀ ws, ¬ Path A v.h ws h) hcall ⟨rfl, fun v hv => by simp at hv⟩ ?_ ?_
    · rintro j d r hj ⟨rfl, hno2⟩
      obtain ⟨v, hv, rfl⟩ := getElem_map_some hj
      have hvm : v ∈ mvsOf A h := List.mem_of_getElem? hv
      refine ⟨_, rfl, tr_seq ?_⟩
      have next : ∀ x3 x4 : Option SV, (v.m = true → ∀ ws, ¬ Path A v.h ws h) → Tr (fun r => r = [some (.dat (hdO A)), some (.dat (.dic .t (fndD F))), some (.dat (hdD h)), none, none] ∧ ∀ v ∈ (mvsOf A h).take (j + 1), v.m = true → ∀ ws, ¬ Path A v.h ws h)
          (fun d _ => (d = .non ∧ NoRing A (fk F)) ∨ ∃ (h : Hd) (v : Mv) (ws : List Mv), d = .tup [hdD h, v.d, .lst (ws.map Mv.d)] ∧ h ∈ fk F ∧ v ∈ mvsOf A h ∧ v.m = true ∧ Path A v.h ws h ∧ ws.length ≤ 12) (sSeq (sFgt [3, 4]) sNil [some (.dat (hdO A)), some (.dat (.dic .t (fndD F))), some (.dat (hdD h)), x3, x4]) := fun x3 x4 hv2 => by
        refine tr_seq (tr_fgt (tr_nil ⟨rfl, fun w hw => ?_⟩))
        rw [take_next hv] at hw
        rcases List.mem_append.mp hw with z | z
        · exact hno2 w z
        · have : w = v := by simpa using z
          rw [this]; exact hv2
      refine tr_if (b := v.m) rfl (fun hm => ?_) (fun hm => tr_nil (next _ _ fun z => by rw [hm] at z; cases z))
      obtain ⟨B, hB1, hB2⟩ := reached_ok hA [v.h] (by simp) (fun y hy => by
        have : y = v.h := by simpa using hy
        rw [this]; exact hA.rng h v hvm)
      refine tr_seq (tr_set (d := .dic .t (fndD B)) (evC (evA rfl (evA (evL (evA (x := hdD v.h) rfl evN) (by simp)) evN)) hB1) ?_)
      have hin : e2 (oIn .t false) (eV 2) (eV 4) [some (.dat (hdO A)), some (.dat (.dic .t (fndD F))), some (.dat (hdD h)), some (.dat v.d), some (.dat (.dic .t (fndD B)))] = some (.bl (getA B h).isSome) := by
        refine ev2 rfl rfl ?_
        show some (D.bl (look (fndD B) (hdK h)).isSome) = _
        rw [look_fnd, Option.isSome_map]
      refine tr_if (evB hin) (fun hb => ?_) (fun hb => tr_nil (next _ _ fun _ ws hp => ?_))
      · have hhB : h ∈ fk B := getA_in.mp hb
        obtain ⟨ws, h0, w1, w2, w3, w4, w5, _⟩ := way_ok hB2 hhB
        have : h0 = v.h := by simpa using w4
        subst this
        exact tr_ret (evT (evA rfl (evA rfl (evA (evC (evA rfl (evA rfl evN)) w1) evN))) (by simp)) (.inr ⟨h, v, ws, rfl, hmem, hvm, hm, w2, w5⟩)
      · have hnB : h ∉ fk B := getA_out.mp hb
        exact hnB (Path.stay hB2.clo hp (hB2.all _ (by simp)))
    · rintro r ⟨rfl, hno2⟩
      rw [List.length_map, List.take_length] at hno2
      refine tr_seq (tr_fgt (tr_nil ⟨rfl, fun y hy => ?_⟩))
      rw [take_next hh] at hy
      rcases List.mem_append.mp hy with z | z
      · exact hno y z
      · have : y = h := by simpa using z
        rw [this]; exact hno2
  · rintro r ⟨rfl, hno⟩
    rw [List.length_map, List.take_length] at hno
    exact tr_ret rfl (.inl ⟨rfl, hno⟩)
end DL
end

section
set_option linter.all false
set_option maxRecDepth 100000
set_option maxHeartbeats 1000000
/-! E10 (pure): sorted; ranks. -/
namespace DL
theorem pureL_map {α : Type} {f : α → D} (l : List α) (h : ∀ a ∈ l, (f a).pure = true) : pureL (l.map f) = true := by
  induction l with
  | nil => rfl
  | cons a l ih =>
    show ((f a).pure && pureL (l.map f)) = true
    rw [h a List.mem_cons_self, ih fun b hb => h b (List.mem_cons_of_mem _ hb)]
    rfl
theorem sorted_map {α : Type} (f : α → D) (l : List α) (hp : ∀ a ∈ l, (f a).pure = true) (ha : ∀ a b, PySem.W.alike (f a).py (f b).py = true) (ht : ∀ a, ∃ x r, (f a).py = .tuple (x :: r)) (hd : ∀ a, (f a).py.depth < 60) (hl : l.length ≤ 100000) :
    gSorted [.lst (l.map f)] = some (.lst ((l.mergeSort fun a b => PySem.W.dataLe false D.py (f a) (f b)).map f)) := by
  unfold gSorted
  have c : pureL (l.map f) = true ∧ PySem.W.AllAlike ((l.map f).map D.py) ∧ PySem.W.Sortable ((l.map f).map D.py) ∧ (∀ d ∈ l.map f, d.py.depth < 60) ∧ (l.map f).length ≤ lim := by
    refine ⟨pureL_map l hp, ?_, ?_, fun d hd2 => ?_, by rw [List.length_map]; unfold lim; omega⟩
    · rw [List.map_map]
      exact PySem.W.AllAlike.of (enc := D.py ∘ f) fun a b => ha a b
    · rw [List.map_map]
      exact PySem.W.Sortable.tuples (enc := D.py ∘ f) fun a => ht a
    · obtain ⟨a, _, rfl⟩ := List.mem_map.mp hd2
      exact hd a
  simp only [if_pos c]
  rw [List.map_mergeSort (r := fun a b => PySem.W.dataLe false D.py (f a) (f b)) (s := PySem.W.dataLe false D.py) (f := f) (l := l) fun a _ b _ => rfl]
def rkD (p : Hd × Int) : D := .tup [hdD p.1, .int p.2]
abbrev hlt (a b : Hd) : Prop := a.1 < b.1 ∨ (a.1 = b.1 ∧ a.2 < b.2)
theorem le_total : PySem.W.TotalLe (PySem.W.dataLe false D.py) := PySem.W.sortLe_total _ false _
theorem le_total_of {α : Type} (f : α → D) : PySem.W.TotalLe (fun a b => PySem.W.dataLe false D.py (f a) (f b)) where
  trans a b c h1 h2 := le_total.trans (f a) (f b) (f c) h1 h2
  total a b := le_total.total (f a) (f b)
theorem rk_lt {p q : Hd × Int} (h : PySem.W.dataLe false D.py (rkD p) (rkD q) = true) (hne : p.1 ≠ q.1) : hlt p.1 q.1 := by
  have h1 : (!PySem.W.dataLt (rkD q).py (rkD p).py) = true := h
  have h2 : PySem.W.dataLt (.tuple [.tuple [.int q.1.1, .int q.1.2], .int q.2]) (.tuple [.tuple [.int p.1.1, .int p.1.2], .int p.2]) = false := by
    have := Bool.not_eq_true' _ |>.mp h1
    exact this
  rw [PySem.W.dataLt_pair (by simp [PySem.W.alike, PySem.W.alikeAll]) (by simp [PySem.W.alike])] at h2
  have hk : PySem.PyData.eqv (.tuple [.int q.1.1, .int q.1.2]) (.tuple [.int p.1.1, .int p.1.2]) = false := by
    cases z : PySem.PyData.eqv (.tuple [.int q.1.1, .int q.1.2]) (.tuple [.int p.1.1, .int p.1.2]) with
    | false => rfl
    | true =>
      exfalso
      simp [PySem.PyData.eqv, PySem.PyData.eqvAll] at z
      exact hne (Prod.ext z.1.symm z.2.symm)
  rw [hk] at h2
  simp only [Bool.false_eq_true, if_false] at h2
  rw [PySem.W.dataLt_ii] at h2
  have h3 := of_decide_eq_false h2
  have h4 : ¬ (p.1.1 = q.1.1 ∧ p.1.2 = q.1.2) := fun z => hne (Prod.ext z.1 z.2)
  show p.1.1 < q.1.1 ∨ (p.1.1 = q.1.1 ∧ p.1.2 < q.1.2)
  omega
theorem sorted_rk (Rk : List (Hd × Int)) (nd : (Rk.map (·.1)).Nodup) (hl : Rk.length ≤ 100) : ∃ Rs : List (Hd × Int), gSorted [.lst (Rk.map rkD)] = some (.lst (Rs.map rkD)) ∧ Rs.Perm Rk ∧ Rs.Pairwise fun p q => hlt p.1 q.1 := by
  refine ⟨_, sorted_map rkD Rk (fun a _ => rfl) (fun a b => by simp [rkD, hdD, D.py, pyL, PySem.W.alike, PySem.W.alikeAll]) (fun a => ⟨_, _, rfl⟩) (fun a => by simp [rkD, hdD, D.py, pyL, PySem.PyData.depth, PySem.PyData.depthAll]) (by omega), List.mergeSort_perm _ _, ?_⟩
  have hp := PySem.W.sort_pairwise (le_total_of rkD) Rk
  have hn : (Rk.mergeSort fun a b => PySem.W.dataLe false D.py (rkD a) (rkD b)).Pairwise fun p q => p.1 ≠ q.1 := by
    have : ((Rk.mergeSort fun a b => PySem.W.dataLe false D.py (rkD a) (rkD b)).map (·.1)).Nodup := ((List.mergeSort_perm _ _).map _).nodup_iff.mpr nd
    exact List.pairwise_map.mp this
  exact (hp.and hn).imp fun ⟨h1, h2⟩ => rk_lt h1 h2
theorem sorted_ents (K : List Ent) (hl : K.length ≤ 100) : ∃ Ks : List Ent, gSorted [.lst (K.map Ent.d)] = some (.lst (Ks.map Ent.d)) ∧ Ks.Perm K :=
  ⟨_, sorted_map Ent.d K (fun a _ => rfl) (fun a b => by simp [Ent.d, D.py, pyL, PySem.W.alike, PySem.W.alikeAll]) (fun a => ⟨_, _, rfl⟩) (fun a => by simp [Ent.d, D.py, pyL, PySem.PyData.depth, PySem.PyData.depthAll]) (by omega), List.mergeSort_perm _ _⟩
/-! ### the bound of ranks: how many heads are reached -/
open Classical in
noncomputable def cnt (A : Mvs) (K : List Hd) (h : Hd) : Nat := (K.filter fun x => decide (∃ ws, Path A h ws x)).length
theorem filter_le {α : Type} {p q : α → Bool} : ∀ (l : List α), (∀ x ∈ l, p x = true → q x = true) → (l.filter p).length ≤ (l.filter q).length
  | [], _ => Nat.le_refl _
  | x :: l, h => by
    have ih := filter_le l fun y hy => h y (List.mem_cons_of_mem _ hy)
    have hx := h x List.mem_cons_self
    rw [List.filter_cons, List.filter_cons]
    cases hp : p x with
    | true => rw [if_pos rfl, if_pos (hx hp)]; simp; exact ih
    | false =>
      rw [if_neg Bool.false_ne_true]
      split
      · simp; omega
      · exact ih
theorem filter_lt {α : Type} {p q : α → Bool} : ∀ (l : List α), (∀ x ∈ l, p x = true → q x = true) → (∃ x ∈ l, q x = true ∧ p x = false) → (l.filter p).length < (l.filter q).length
  | [], _, ⟨x, h, _⟩ => by cases h
  | y :: l, h, ⟨x, hx, h1, h2⟩ => by
    have le := filter_le l fun y hy => h y (List.mem_cons_of_mem _ hy)
    rw [List.filter_cons, List.filter_cons]
    rcases List.mem_cons.mp hx with z | z
    · subst z
      rw [if_pos h1, if_neg (by rw [h2]; exact Bool.false_ne_true)]
      simp; omega
    · have ih := filter_lt l (fun y hy => h y (List.mem_cons_of_mem _ hy)) ⟨x, z, h1, h2⟩
      have hy := h y List.mem_cons_self
      cases hp : p y with
      | true => rw [if_pos rfl, if_pos (hy hp)]; simp; exact ih
      | false =>
        rw [if_neg Bool.false_ne_true]
        split
        · simp; omega
        · exact ih
open Classical in
theorem cnt_step {A : Mvs} {K : List Hd} (hn : NoRing A K) {h : Hd} (hh : h ∈ K) {v : Mv} (hv : v ∈ mvsOf A h) : cnt A K v.h + (if v.m then 1 else 0) ≤ cnt A K h := by
  unfold cnt
  have sub : ∀ x, (∃ ws, Path A v.h ws x) → ∃ ws, Path A h ws x := fun x ⟨ws, p⟩ => ⟨v :: ws, hv, p⟩
  cases hm : v.m with
  | false =>
    simp only [Bool.false_eq_true, if_false, Nat.add_zero]
    exact filter_le K fun x _ hx => decide_eq_true (sub x (of_decide_eq_true hx))
  | true =>
    simp only [if_true]
    exact filter_lt K (fun x _ hx => decide_eq_true (sub x (of_decide_eq_true hx))) ⟨h, hh, decide_eq_true ⟨[], rfl⟩, decide_eq_false fun ⟨ws, p⟩ => hn h hh v hv hm ws p⟩
theorem cnt_le (A : Mvs) (K : List Hd) (h : Hd) : cnt A K h ≤ K.length := List.length_filter_le _ _
/-! ### the ranks' loop -/
abbrev Rks := List (Hd × Int)
def rksD (R : Rks) : List (List Int × D) := enc hdK D.int R
theorem look_rks (R : Rks) (h : Hd) : look (rksD R) (hdK h) = (getA R h).map D.int := look_enc hdK_inj R h
theorem put_rks (R : Rks) (h : Hd) (i : Int) : put (rksD R) (hdK h) (.int i) = rksD (putA R h i) := put_enc hdK_inj R h i
def mu (R : Rks) : Nat := (R.map fun p => (12 - p.2).toNat).sum
theorem putA_in {α β : Type} [DecidableEq α] {L : List (α × β)} {a : α} {b : β} (h : a ∈ L.map (·.1)) : putA L a b = L.map fun p => if p.1 = a then (p.1, b) else p := by
  unfold putA
  rw [any_getA, getA_in.mpr h, if_pos rfl]
theorem mu_put : ∀ (R : Rks) (h : Hd) (r r' : Int), (R.map (·.1)).Nodup → getA R h = some r → r < r' → r' ≤ 12 → mu (R.map fun p => if p.1 = h then (p.1, r') else p) < mu R
  | [], h, r, r', _, hg, _, _ => by simp [getA] at hg
  | p :: R, h, r, r', nd, hg, h1, h2 => by
    rw [List.map_cons] at nd
    obtain ⟨n1, n2⟩ := List.nodup_cons.mp nd
    rw [getA_cons] at hg
    unfold mu
    by_cases q : p.1 = h
    · rw [if_pos q] at hg
      cases hg
      have e : (R.map fun p => if p.1 = h then (p.1, r') else p) = R := by
        have : ∀ x ∈ R, x.1 ≠ h := fun x hx z => n1 (by rw [q, ← z]; exact List.mem_map.mpr ⟨x, hx, rfl⟩)
        rw [List.map_congr_left (g := id) fun x hx => by rw [if_neg (this x hx)]; rfl, List.map_id]
      rw [List.map_cons, if_pos q, e, List.map_cons, List.map_cons, List.sum_cons, List.sum_cons]
      show (12 - r').toNat + _ < _
      omega
    · rw [if_neg q] at hg
      have ih := mu_put R h r r' n2 hg h1 h2
      unfold mu at ih
      rw [List.map_cons, if_neg q, List.map_cons, List.map_cons, List.sum_cons, List.sum_cons]
      omega
structure RkI (A : Mvs) (K : List Hd) (R : Rks) : Prop where
  ks : R.map (·.1) = K
  lo : ∀ h r, getA R h = some r → 0 ≤ r
  hi : ∀ h r, getA R h = some r → r ≤ cnt A K h
def Stable (A : Mvs) (R : Rks) (h : Hd) : Prop := ∀ v ∈ mvsOf A h, ∀ r r', getA R h = some r → getA R v.h = some r' → r' + b2 v.m ≤ r
theorem mu_le (R : Rks) (h : ∀ p ∈ R, 0 ≤ p.2) : mu R ≤ 12 * R.length := by
  induction R with
  | nil => exact Nat.zero_le _
  | cons p R ih =>
    have := ih fun q hq => h q (List.mem_cons_of_mem _ hq)
    have h1 := h p List.mem_cons_self
    unfold mu at this ⊢
    rw [List.map_cons, List.sum_cons, List.length_cons]
    omega
theorem ranks_ok {M : Mach} {A : Mvs} (hA : AOk M A) {hs : List Hd} {F : Fnd} (hF : RSpec M A hs F) (hn : NoRing A (fk F)) : ∃ Rs : Rks, g_told_ranks [hdO A, .dic .t (fndD F)] = some (.tup (Rs.map rkD)) ∧ (Rs.Pairwise fun p q => hlt p.1 q.1) ∧
    (∀ h, h ∈ Rs.map (·.1) ↔ h ∈ fk F) ∧ (∀ p ∈ Rs, 0 ≤ p.2 ∧ p.2 ≤ 12) ∧ (∀ h ∈ fk F, ∀ v ∈ mvsOf A h, ∀ r r', (h, r) ∈ Rs → (v.h, r') ∈ Rs → r' + b2 v.m ≤ r) := by
  have hlen := hF.len
  have hkl : (fk F).length ≤ 12 := by unfold fk; rw [List.length_map]; exact hlen
  suffices q : Tr (fun _ => False) (fun d _ => ∃ Rs : Rks, d = .tup (Rs.map rkD) ∧ (Rs.Pairwise fun p q => hlt p.1 q.1) ∧
      (∀ h, h ∈ Rs.map (·.1) ↔ h ∈ fk F) ∧ (∀ p ∈ Rs, 0 ≤ p.2 ∧ p.2 ≤ 12) ∧ (∀ h ∈ fk F, ∀ v ∈ mvsOf A h, ∀ r r', (h, r) ∈ Rs → (v.h, r') ∈ Rs → r' + b2 v.m ≤ r)) (F_told_ranks MX (envOf N_told_ranks ([hdO A, .dic .t (fndD F)].map .dat))) by
    obtain ⟨d, ⟨Rs, rfl, h2⟩, h3⟩ := runD_ex (n := 2) rfl q
    exact ⟨Rs, h3, h2⟩
  show Tr _ _ (F_told_ranks MX [some (.dat (hdO A)), some (.dat (.dic .t (fndD F))), none, none, none, none, none])
  unfold F_told_ranks
  have hkeys : ∀ x2 x3 x4 x5 x6, iKeys .t (eV 1) [some (.dat (hdO A)), some (.dat (.dic .t (fndD F))), x2, x3, x4, x5, x6] = some ((fk F).map hdD) := fun x2 x3 x4 x5 x6 => by
    show some ((fndD F).map fun p => ofKey .t p.1) = _
    unfold fndD enc fk
    rw [List.map_map, List.map_map]
    rfl
  refine tr_seq (tr_own (x := .dic .t []) rfl (tr_seq ?_))
  refine tr_for (fun k r => ∃ x3, r = [some (.dat (hdO A)), some (.dat (.dic .t (fndD F))), some (.own (.dic .t (rksD (((fk F).take k).map fun h => (h, 0))))), x3, none, none, none]) (hkeys _ _ _ _ _) ⟨none, rfl⟩ ?_ ?_
  · rintro k d r hk ⟨x3, rfl⟩
    obtain ⟨h, hh, rfl⟩ := getElem_map_some hk
    have hkl2 := (List.getElem?_eq_some_iff.mp hh).1
    refine ⟨_, rfl, tr_put (kvs := rksD (((fk F).take k).map fun h => (h, 0))) (d := .int 0) (k0 := hdK h) rfl rfl rfl (by rw [rksD, enc_len, List.length_map, List.length_take]; unfold lim; omega) ⟨some (.dat (hdD h)), ?_⟩⟩
    have hnew : h ∉ (((fk F).take k).map fun h => (h, (0 : Int))).map (·.1) := by
      rw [List.map_map]
      have e : ((fun p : Hd × Int => p.1) ∘ fun h => (h, (0 : Int))) = id := rfl
      rw [e, List.map_id]
      intro hm
      obtain ⟨j, hj⟩ := List.mem_iff_getElem?.mp hm
      rw [List.getElem?_take] at hj
      split at hj
      · rename_i hjk
        have := (List.getElem?_inj (by omega) hF.nd).mp (hj.trans hh.symm)
        omega
      · cases hj
    rw [put_rks, putA_new hnew, take_next hh, List.map_append]
    rfl
  · rintro r ⟨x3, rfl⟩
    rw [List.length_map, List.take_length]
    refine tr_seq (tr_set rfl ?_)
    have g0 : ∀ h r, getA ((fk F).map fun h => (h, (0 : Int))) h = some r → r = 0 := fun h r hg => by
      have := getA_some hg
      obtain ⟨y, _, e⟩ := List.mem_map.mp this
      cases e; rfl
    have I0 : RkI A (fk F) ((fk F).map fun h => (h, (0 : Int))) := by
      refine ⟨?_, fun h r hg => by rw [g0 h r hg]; exact Int.le_refl _, fun h r hg => by rw [g0 h r hg]; omega⟩
      rw [List.map_map]
      exact List.map_id _
    refine tr_seq' (Q1 := fun r => ∃ (R : Rks) (x3 : Option SV), r = [some (.dat (hdO A)), some (.dat (.dic .t (fndD F))), some (.own (.dic .t (rksD R))), x3, some (.dat (.bl false)), none, none] ∧ RkI A (fk F) R ∧ ∀ h ∈ fk F, Stable A R h) ?_ ?_
    · have hmu0 := mu_le ((fk F).map fun h => (h, (0 : Int))) (fun p hp => by
        obtain ⟨y, _, e⟩ := List.mem_map.mp hp
        rw [← e]; exact Int.le_refl _)
      rw [List.length_map] at hmu0
      refine tr_while (fun m r => ∃ (R : Rks) (ch : Bool) (x3 : Option SV), r = [some (.dat (hdO A)), some (.dat (.dic .t (fndD F))), some (.own (.dic .t (rksD R))), x3, some (.dat (.bl ch)), none, none] ∧ RkI A (fk F) R ∧ (ch = true → m = mu R + 1) ∧ (ch = false → m = 0 ∧ ∀ h ∈ fk F, Stable A R h))
        ?_ MX (mu ((fk F).map fun h => (h, (0 : Int))) + 1) _ (by unfold MX; omega) ⟨(fk F).map fun h => (h, 0), true, x3, rfl, I0, (fun _ => rfl), (fun h => nomatch h)⟩
      rintro m r ⟨R, ch, x3, rfl, I, h1, h2⟩
      refine ⟨ch, rfl, fun hc => ?_, fun hc => ?_⟩
      · subst hc
        have hm := h1 rfl
        refine tr_seq (tr_set (d := .bl false) rfl (tr_seq ?_))
        refine tr_for (fun k r => ∃ (R' : Rks) (ch : Bool) (x3 : Option SV), r = [some (.dat (hdO A)), some (.dat (.dic .t (fndD F))), some (.own (.dic .t (rksD R'))), x3, some (.dat (.bl ch)), none, none] ∧ RkI A (fk F) R' ∧ (ch = true → mu R' < mu R) ∧ (ch = false → R' = R ∧ ∀ h ∈ (fk F).take k, Stable A R h))
          (hkeys _ _ _ _ _) ⟨R, false, x3, rfl, I, (fun h => nomatch h), fun _ => ⟨rfl, fun h hh => by simp at hh⟩⟩ ?_ ?_
        · rintro k d r hk ⟨R1, c1, x3, rfl, I1, q1, q2⟩
          obtain ⟨h, hh, rfl⟩ := getElem_map_some hk
          have hmem : h ∈ fk F := List.mem_of_getElem? hh
          refine ⟨_, rfl, tr_seq ?_⟩
          have hcall : oList (eCall g_Heads_moves_from (aC (eV 0) (aC (eV 3) aN))) [some (.dat (hdO A)), some (.dat (.dic .t (fndD F))), some (.own (.dic .t (rksD R1))), some (.dat (hdD h)), some (.dat (.bl c1)), none, none] = some ((mvsOf A h).map Mv.d) := by
            unfold oList
            rw [evC (evA rfl (evA rfl evN)) (moves_ok A h)]
            rfl
          refine tr_for (fun j r => ∃ (R' : Rks) (ch : Bool), r = [some (.dat (hdO A)), some (.dat (.dic .t (fndD F))), some (.own (.dic .t (rksD R'))), some (.dat (hdD h)), some (.dat (.bl ch)), none, none] ∧ RkI A (fk F) R' ∧ (ch = true → mu R' < mu R) ∧ (ch = false → R' = R ∧ (∀ h ∈ (fk F).take k, Stable A R h) ∧ ∀ v ∈ (mvsOf A h).take j, ∀ r r', getA R h = some r → getA R v.h = some r' → r' + b2 v.m ≤ r))
            hcall ⟨R1, c1, rfl, I1, q1, fun z => ⟨(q2 z).1, (q2 z).2, fun v hv => by simp at hv⟩⟩ ?_ ?_
          · rintro j d r hj ⟨R2, c2, rfl, I2, q3, q4⟩
            obtain ⟨v, hv, rfl⟩ := getElem_map_some hj
            have hvm : v ∈ mvsOf A h := List.mem_of_getElem? hv
            have hvk : v.h ∈ fk F := hF.clo h hmem v hvm
            obtain ⟨rv, hrv⟩ : ∃ r, getA R2 v.h = some r := Option.isSome_iff_exists.mp (getA_in.mpr (by rw [I2.ks]; exact hvk))
            obtain ⟨rh, hrh⟩ : ∃ r, getA R2 h = some r := Option.isSome_iff_exists.mp (getA_in.mpr (by rw [I2.ks]; exact hmem))
            have hstep := cnt_step hn hmem hvm
            have hb2 : b2 v.m = (if v.m then 1 else 0 : Nat) := by unfold b2; cases v.m <;> rfl
            have hcl := cnt_le A (fk F) h
            have hR2l : R2.length ≤ 12 := by
              have := congrArg List.length I2.ks
              rw [List.length_map] at this; omega
            have v1 := I2.hi _ _ hrv
            have v2 := I2.lo _ _ hrv
            have v3 := I2.hi _ _ hrh
            have v4 := I2.lo _ _ hrh
            have hnd : (R2.map (·.1)).Nodup := by rw [I2.ks]; exact hF.nd
            refine ⟨_, rfl, tr_seq (tr_set (d := .int (rv + b2 v.m)) (ev2 (x := .int rv) (y := .int (b2 v.m)) ?_ (evC (evA (x := .bl v.m) rfl evN) rfl) rfl) (tr_seq ?_))⟩
            · show look (rksD R2) (hdK v.h) = _
              rw [look_rks, hrv]; rfl
            have hcmp : e2 oGt (eV 6) (pGet .t (.s 2) (eV 3)) [some (.dat (hdO A)), some (.dat (.dic .t (fndD F))), some (.own (.dic .t (rksD R2))), some (.dat (hdD h)), some (.dat (.bl c2)), some (.dat v.d), some (.dat (.int (rv + b2 v.m)))] = some (.bl (decide (rh < rv + b2 v.m))) := by
              refine ev2 (x := .int (rv + b2 v.m)) (y := .int rh) rfl ?_ rfl
              show look (rksD R2) (hdK h) = _
              rw [look_rks, hrh]; rfl
            refine tr_if (evB hcmp) (fun hb => ?_) (fun hb => ?_)
            · have hlt2 := of_decide_eq_true hb
              refine tr_seq (tr_put (kvs := rksD R2) (d := .int (rv + b2 v.m)) (k0 := hdK h) rfl rfl rfl (by rw [rksD, enc_len]; unfold lim; omega) ?_)
              rw [put_rks]
              have hin : h ∈ R2.map (·.1) := by rw [I2.ks]; exact hmem
              refine tr_set (d := .bl true) rfl (tr_seq (tr_fgt (tr_nil ⟨putA R2 h (rv + b2 v.m), true, rfl, ⟨?_, fun y r hg => ?_, fun y r hg => ?_⟩, fun _ => ?_, (fun z => nomatch z)⟩)))
              · rw [putA_keys hin]; exact I2.ks
              · rw [getA_putA] at hg
                split at hg
                · cases hg; unfold b2; split <;> omega
                · exact I2.lo _ _ hg
              · rw [getA_putA] at hg
                split at hg
                · rename_i e
                  cases hg
                  rw [← e, hb2]
                  omega
                · exact I2.hi _ _ hg
              · have hmu := mu_put R2 h rh (rv + b2 v.m) hnd hrh hlt2 (by rw [hb2]; omega)
                rw [putA_in hin]
                cases c2 with
                | true => have := q3 rfl; omega
                | false => rw [(q4 rfl).1] at hmu ⊢; exact hmu
            · have hge := of_decide_eq_false hb
              refine tr_nil (tr_seq (tr_fgt (tr_nil ⟨R2, c2, rfl, I2, q3, fun z => ?_⟩)))
              obtain ⟨z1, z2, z3⟩ := q4 z
              refine ⟨z1, z2, fun w hw => ?_⟩
              rw [take_next hv] at hw
              rcases List.mem_append.mp hw with y | y
              · exact z3 w y
              · have : w = v := by simpa using y
                subst this
                intro r r' e1 e2
                rw [z1] at hrv hrh
                rw [hrh] at e1
                rw [hrv] at e2
                cases e1
                cases e2
                omega
          · rintro r ⟨R2, c2, rfl, I2, q3, q4⟩
            refine tr_seq (tr_fgt (tr_nil ⟨R2, c2, some (.dat (hdD h)), rfl, I2, q3, fun z => ?_⟩))
            obtain ⟨z1, z2, z3⟩ := q4 z
            rw [List.length_map, List.take_length] at z3
            refine ⟨z1, fun y hy => ?_⟩
            rw [take_next hh] at hy
            rcases List.mem_append.mp hy with w | w
            · exact z2 y w
            · have : y = h := by simpa using w
              rw [this]; exact z3
        · rintro r ⟨R1, c1, x3, rfl, I1, q1, q2⟩
          rw [List.length_map, List.take_length] at q2
          refine tr_seq (tr_fgt (tr_nil ?_))
          cases c1 with
          | true => exact ⟨mu R1 + 1, by have := q1 rfl; omega, R1, true, x3, rfl, I1, (fun _ => rfl), (fun z => nomatch z)⟩
          | false =>
            obtain ⟨z1, z2⟩ := q2 rfl
            refine ⟨0, by omega, R1, false, x3, rfl, I1, (fun z => nomatch z), fun _ => ⟨rfl, ?_⟩⟩
            rw [z1]; exact z2
      · subst hc
        exact ⟨R, x3, rfl, I, (h2 rfl).2⟩
    · rintro r ⟨R, x3, rfl, I, hst⟩
      have hnd : (R.map (·.1)).Nodup := by rw [I.ks]; exact hF.nd
      have hRl : R.length ≤ 12 := by
        have := congrArg List.length I.ks
        rw [List.length_map] at this; omega
      obtain ⟨Rs, s1, s2, s3⟩ := sorted_rk R hnd (by omega)
      have hit : e1 (oItems .t) (eV 2) [some (.dat (hdO A)), some (.dat (.dic .t (fndD F))), some (.dat (.dic .t (rksD R))), x3, some (.dat (.bl false)), none, none] = some (.lst (R.map rkD)) := by
        show some (D.lst ((rksD R).map fun p => .tup [ofKey .t p.1, p.2])) = _
        unfold rksD enc
        rw [List.map_map]
        rfl
      refine tr_seq (tr_frz rfl rfl (tr_ret (evC (evA (evC (evA hit evN) s1) evN) rfl) ⟨Rs, rfl, s3, fun h => ?_, fun p hp => ?_, fun h hh v hv r r' h1 h2 => ?_⟩))
      · rw [(s2.map (·.1)).mem_iff, I.ks]
      · have := getA_mem (a := p.1) (b := p.2) hnd (s2.mem_iff.mp hp)
        have u1 := I.hi _ _ this
        have u2 := cnt_le A (fk F) p.1
        exact ⟨I.lo _ _ this, by omega⟩
      · have g1 := getA_mem hnd (s2.mem_iff.mp h1)
        have g2 := getA_mem hnd (s2.mem_iff.mp h2)
        exact hst h hh v hv r r' g1 g2
end DL
end

section
set_option linter.all false
set_option maxRecDepth 100000
set_option maxHeartbeats 1000000
/-! E11 (pure): descents. -/
namespace DL
def Down : Int → List Int → List Ent → Int → Prop
  | s, [], [], t => s = t
  | s, c :: cs, e :: es, t => e.s = s ∧ e.l = c ∧ Down e.g cs es t
  | _, _, _, _ => False
theorem Down.snoc : ∀ {cs : List Int} {es : List Ent} {s t : Int} {e : Ent}, Down s cs es t → e.s = t → Down s (cs ++ [e.l]) (es ++ [e]) e.g
  | [], [], s, t, e, h, h1 => by cases h; exact ⟨h1, rfl, rfl⟩
  | [], _ :: _, _, _, _, h, _ => h.elim
  | _ :: _, [], _, _, _, h, _ => h.elim
  | c :: cs, e' :: es, s, t, e, h, h1 => ⟨h.1, h.2.1, Down.snoc h.2.2 h1⟩
theorem Down.split : ∀ {cs : List Int} {es : List Ent} {s t c : Int}, Down s (cs ++ [c]) es t → ∃ es' e, es = es' ++ [e] ∧ Down s cs es' e.s ∧ e.l = c ∧ e.g = t
  | [], [], s, t, c, h => h.elim
  | [], [e], s, t, c, h => ⟨[], e, rfl, h.1.symm, h.2.1, h.2.2⟩
  | [], _ :: _ :: _, s, t, c, h => h.2.2.elim
  | c' :: cs, [], s, t, c, h => h.elim
  | c' :: cs, e' :: es, s, t, c, h => by
    obtain ⟨es', e, h1, h2, h3, h4⟩ := Down.split h.2.2
    exact ⟨e' :: es', e, by rw [h1]; rfl, ⟨h.1, h.2.1, h2⟩, h3, h4⟩
theorem Down.rng {M : Mach} : ∀ {cs : List Int} {es : List Ent} {s t : Int}, Down s cs es t → (0 ≤ s ∧ s < M.S) → (∀ e ∈ es, Rng M e) → 0 ≤ t ∧ t < M.S
  | [], [], _, _, h, hs, _ => by cases h; exact hs
  | [], _ :: _, _, _, h, _, _ => h.elim
  | _ :: _, [], _, _, h, _, _ => h.elim
  | c :: cs, e :: es, s, t, h, hs, hr => Down.rng h.2.2 ⟨(hr e List.mem_cons_self).g0, (hr e List.mem_cons_self).g1⟩ fun x hx => hr x (List.mem_cons_of_mem _ hx)
abbrev Beg := List (Hd × List Ent)
abbrev Lev := List (Int × List Ent)
def esD (es : List Ent) : D := .tup (es.map Ent.d)
def begD (B : Beg) : List (List Int × D) := enc hdK esD B
def levD (L : Lev) : List (List Int × D) := enc (fun i => [i]) esD L
theorem look_beg (B : Beg) (h : Hd) : look (begD B) (hdK h) = (getA B h).map esD := look_enc hdK_inj B h
theorem put_beg (B : Beg) (h : Hd) (es : List Ent) : put (begD B) (hdK h) (esD es) = begD (putA B h es) := put_enc hdK_inj B h es
theorem look_lev (L : Lev) (i : Int) : look (levD L) [i] = (getA L i).map esD := look_enc (κ := fun i => [i]) one_inj L i
theorem put_lev (L : Lev) (i : Int) (es : List Ent) : put (levD L) [i] (esD es) = levD (putA L i es) := put_enc (κ := fun i => [i]) one_inj L i es
section
variable {M : Mach} (K : List Ent) (C : Conf M)
def VB (p : Hd × List Ent) : Prop := C.pile[p.2.length]? = some p.1.2 ∧ Down C.s (C.pile.take p.2.length) p.2 p.1.1 ∧ ∀ e ∈ p.2, e ∈ K
def VL (k : Nat) (p : Int × List Ent) : Prop := p.2.length = k ∧ Down C.s (C.pile.take k) p.2 p.1 ∧ ∀ e ∈ p.2, e ∈ K
structure LI (k : Nat) (B : Beg) (L : Lev) : Prop where
  b1 : (B.map (·.1)).Nodup
  b2 : ∀ p ∈ B, VB K C p
  l1 : (L.map (·.1)).Nodup
  l2 : ∀ p ∈ L, VL K C k p
  cov : ∀ es t, Down C.s (C.pile.take k) es t → (∀ e ∈ es, e ∈ K) → t ∈ L.map (·.1)
  cob : ∀ j < k, ∀ c, C.pile[j]? = some c → ∀ es t, Down C.s (C.pile.take j) es t → (∀ e ∈ es, e ∈ K) → (t, c) ∈ B.map (·.1)
variable {K C}
theorem beg_len {B : Beg} (hK : ∀ e ∈ K, Rng M e) (b1 : (B.map (·.1)).Nodup) (b2 : ∀ p ∈ B, VB K C p) : B.length ≤ 12 ∧ ∀ h ∈ B.map (·.1), HR M h := by
  have hr : ∀ h ∈ B.map (·.1), HR M h := fun h hh => by
    obtain ⟨p, hp, rfl⟩ := List.mem_map.mp hh
    obtain ⟨h1, h2, h3⟩ := b2 p hp
    obtain ⟨r1, r2⟩ := h2.rng (M := M) ⟨C.s0, C.s1⟩ fun e he => hK e (h3 e he)
    obtain ⟨r3, r4⟩ := C.ok _ (List.mem_of_getElem? h1)
    exact ⟨r1, r2, r3, r4⟩
  have := heads_le b1 hr
  rw [List.length_map] at this
  exact ⟨this, hr⟩
theorem lev_len {L : Lev} {k : Nat} (hK : ∀ e ∈ K, Rng M e) (l1 : (L.map (·.1)).Nodup) (l2 : ∀ p ∈ L, VL K C k p) : L.length ≤ 4 := by
  have hr : ∀ t ∈ L.map (·.1), 0 ≤ t ∧ t < M.S := fun t ht => by
    obtain ⟨p, hp, rfl⟩ := List.mem_map.mp ht
    obtain ⟨h1, h2, h3⟩ := l2 p hp
    exact h2.rng (M := M) ⟨C.s0, C.s1⟩ fun e he => hK e (h3 e he)
  have S4 := M.S4
  have := nodup_lt 4 ((L.map (·.1)).map Int.toNat) (nodup_map_of l1 fun x hx y hy e => by have := hr x hx; have := hr y hy; omega) fun x hx => by
    obtain ⟨t, ht, rfl⟩ := List.mem_map.mp hx
    have := hr t ht
    omega
  rw [List.length_map, List.length_map] at this
  exact this
end
theorem descents_ok (M : Mach) (mk : List Int) (S : Tab × Lvs) (hI : TInv M mk S) (C : Conf M) : ∃ B : Beg, g_descents [tkD M mk S, C.d] = some (.dic .t (begD B)) ∧ (B.map (·.1)).Nodup ∧ (∀ p ∈ B, VB (keys S.1) C p) ∧
    ∀ j c, C.pile[j]? = some c → ∀ es t, Down C.s (C.pile.take j) es t → (∀ e ∈ es, e ∈ keys S.1) → (t, c) ∈ B.map (·.1) := by
  have p5 := C.p5
  have hK := hI.rng
  suffices q : Tr (fun _ => False) (fun d _ => ∃ B : Beg, d = .dic .t (begD B) ∧ (B.map (·.1)).Nodup ∧ (∀ p ∈ B, VB (keys S.1) C p) ∧
      ∀ j c, C.pile[j]? = some c → ∀ es t, Down C.s (C.pile.take j) es t → (∀ e ∈ es, e ∈ keys S.1) → (t, c) ∈ B.map (·.1)) (F_descents MX (envOf N_descents ([tkD M mk S, C.d].map .dat))) by
    obtain ⟨d, ⟨B, rfl, h2⟩, h3⟩ := runD_ex (n := 2) rfl q
    exact ⟨B, h3, h2⟩
  show Tr _ _ (F_descents MX [some (.dat (tkD M mk S)), some (.dat C.d), none, none, none, none, none, none, none, none, none])
  unfold F_descents
  refine tr_seq (tr_unp rfl gT2 (tr_seq (tr_own (x := .dic .t []) rfl (tr_seq (tr_own (x := .dic .i (levD [(C.s, [])])) ?_ (tr_seq (tr_frz rfl rfl (tr_seq ?_))))))))
  · rfl
  refine tr_for (l := C.pile.map .int) (fun k r => ∃ (B : Beg) (L : Lev), r = [some (.dat (tkD M mk S)), some (.dat C.d), some (.dat (.int C.s)), some (.dat (.tup (C.pile.map .int))), some (.own (.dic .t (begD B))), some (.dat (.dic .i (levD L))), none, none, none, none, none] ∧ LI (keys S.1) C k B L)
    rfl ⟨[], [(C.s, [])], rfl, List.nodup_nil, (fun p hp => by cases hp), by simp, (fun p hp => ?_), (fun es t h _ => ?_), fun j hj => absurd hj (Nat.not_lt_zero _)⟩ ?_ ?_
  · have e : p = (C.s, []) := by simpa using hp
    rw [e]
    exact ⟨rfl, rfl, fun e he => by cases he⟩
  · rw [List.take_zero] at h
    cases es with
    | nil =>
      cases h
      simp
    | cons e es => exact h.elim
  · rintro k d r hk ⟨B, L, rfl, I⟩
    obtain ⟨c, hc, rfl⟩ := getElem_map_some hk
    have hkl := (List.getElem?_eq_some_iff.mp hc).1
    have hL4 := lev_len hK I.l1 I.l2
    refine ⟨_, rfl, tr_seq (tr_own (x := .dic .i []) rfl (tr_seq ?_))⟩
    have hitems : iItems .i (eV 5) [some (.dat (tkD M mk S)), some (.dat C.d), some (.dat (.int C.s)), some (.dat (.tup (C.pile.map .int))), some (.own (.dic .t (begD B))), some (.dat (.dic .i (levD L))), some (.dat (.int c)), some (.own (.dic .i [])), none, none, none] = some (L.map fun p => D.tup [.int p.1, esD p.2]) := by
      show some ((levD L).map fun p => D.tup [ofKey .i p.1, p.2]) = _
      unfold levD enc
      rw [List.map_map]
      rfl
    refine tr_for (fun j r => ∃ (B' : Beg) (W : Lev), r = [some (.dat (tkD M mk S)), some (.dat C.d), some (.dat (.int C.s)), some (.dat (.tup (C.pile.map .int))), some (.own (.dic .t (begD B'))), some (.dat (.dic .i (levD L))), some (.dat (.int c)), some (.own (.dic .i (levD W))), none, none, none] ∧
        (B'.map (·.1)).Nodup ∧ (∀ p ∈ B', VB (keys S.1) C p) ∧ (∀ h ∈ B.map (·.1), h ∈ B'.map (·.1)) ∧ (∀ p ∈ L.take j, (p.1, c) ∈ B'.map (·.1)) ∧
        (W.map (·.1)).Nodup ∧ (∀ p ∈ W, VL (keys S.1) C (k + 1) p) ∧ ∀ p ∈ L.take j, ∀ e ∈ entsL S.2 (p.1, c), e.g ∈ W.map (·.1))
      hitems ⟨B, [], rfl, I.b1, I.b2, (fun h hh => hh), (fun p hp => by simp at hp), List.nodup_nil, (fun p hp => by cases hp), fun p hp => by simp at hp⟩ ?_ ?_
    · rintro j d r hj ⟨B', W, rfl, b1, b2, b3, b4, w1, w2, w3⟩
      obtain ⟨p, hp, rfl⟩ := getElem_map_some hj
      have hpm : p ∈ L := List.mem_of_getElem? hp
      obtain ⟨v1, v2, v3⟩ := I.l2 p hpm
      have hB12 := (beg_len hK b1 b2).1
      refine ⟨_, gT2, ?_⟩
      have hin : pIn .t true (eTup (aC (eV 8) (aC (eV 6) aN))) (.s 4) [some (.dat (tkD M mk S)), some (.dat C.d), some (.dat (.int C.s)), some (.dat (.tup (C.pile.map .int))), some (.own (.dic .t (begD B'))), some (.dat (.dic .i (levD L))), some (.dat (.int c)), some (.own (.dic .i (levD W))), some (.dat (.int p.1)), some (.dat (esD p.2)), none] = some (.bl (!(getA B' (p.1, c)).isSome)) := by
        show some (D.bl (!(look (begD B') (hdK (p.1, c))).isSome)) = _
        rw [look_beg, Option.isSome_map]
      refine tr_seq' (Q1 := fun r => ∃ B2 : Beg, r = [some (.dat (tkD M mk S)), some (.dat C.d), some (.dat (.int C.s)), some (.dat (.tup (C.pile.map .int))), some (.own (.dic .t (begD B2))), some (.dat (.dic .i (levD L))), some (.dat (.int c)), some (.own (.dic .i (levD W))), some (.dat (.int p.1)), some (.dat (esD p.2)), none] ∧
        (B2.map (·.1)).Nodup ∧ (∀ p ∈ B2, VB (keys S.1) C p) ∧ (∀ h ∈ B'.map (·.1), h ∈ B2.map (·.1)) ∧ (p.1, c) ∈ B2.map (·.1)) ?_ ?_
      · refine tr_if (evB hin) (fun hb => ?_) (fun hb => ?_)
        · have hnew : (p.1, c) ∉ B'.map (·.1) := getA_out.mp (by simpa using hb)
          refine tr_put (kvs := begD B') (d := esD p.2) (k0 := hdK (p.1, c)) rfl rfl rfl (by rw [begD, enc_len]; unfold lim; omega) ?_
          rw [put_beg, putA_new hnew]
          refine ⟨B' ++ [((p.1, c), p.2)], rfl, ?_, fun q hq => ?_, fun h hh => ?_, ?_⟩
          · rw [List.map_append]
            refine List.nodup_append.mpr ⟨b1, by simp, fun a ha b hb => ?_⟩
            have : b = (p.1, c) := by simpa using hb
            rintro rfl
            exact hnew (this ▸ ha)
          · rcases List.mem_append.mp hq with z | z
            · exact b2 q z
            · have : q = ((p.1, c), p.2) := by simpa using z
              rw [this]
              refine ⟨?_, ?_, v3⟩
              · show C.pile[p.2.length]? = some c
                rw [v1]; exact hc
              · show Down C.s (C.pile.take p.2.length) p.2 p.1
                rw [v1]; exact v2
          · rw [List.map_append]; exact List.mem_append_left _ hh
          · rw [List.map_append]; simp
        · exact tr_nil ⟨B', rfl, b1, b2, fun h hh => hh, getA_in.mp (by simpa using hb)⟩
      · rintro r ⟨B2, rfl, d1, d2, d3, d4⟩
        have hcall : oList (eCall g_TakeOff_entries (aC (eV 0) (aC (eV 8) (aC (eV 6) aN)))) [some (.dat (tkD M mk S)), some (.dat C.d), some (.dat (.int C.s)), some (.dat (.tup (C.pile.map .int))), some (.own (.dic .t (begD B2))), some (.dat (.dic .i (levD L))), some (.dat (.int c)), some (.own (.dic .i (levD W))), some (.dat (.int p.1)), some (.dat (esD p.2)), none] = some ((entsL S.2 (p.1, c)).map Ent.d) := by
          unfold oList
          rw [evC (evA rfl (evA (x := .int p.1) rfl (evA (x := .int c) rfl evN))) (entries_ok M mk S p.1 c)]
          rfl
        refine tr_seq ?_
        refine tr_for (fun n r => ∃ W' : Lev, r = [some (.dat (tkD M mk S)), some (.dat C.d), some (.dat (.int C.s)), some (.dat (.tup (C.pile.map .int))), some (.own (.dic .t (begD B2))), some (.dat (.dic .i (levD L))), some (.dat (.int c)), some (.own (.dic .i (levD W'))), some (.dat (.int p.1)), some (.dat (esD p.2)), none] ∧
          (W'.map (·.1)).Nodup ∧ (∀ p ∈ W', VL (keys S.1) C (k + 1) p) ∧ (∀ t ∈ W.map (·.1), t ∈ W'.map (·.1)) ∧ ∀ e ∈ (entsL S.2 (p.1, c)).take n, e.g ∈ W'.map (·.1))
          hcall ⟨W, rfl, w1, w2, (fun t ht => ht), fun e he => by simp at he⟩ ?_ ?_
        · rintro n d r hn ⟨W', rfl, x1, x2, x3, x4⟩
          obtain ⟨e, he, rfl⟩ := getElem_map_some hn
          have hem : e ∈ entsL S.2 (p.1, c) := List.mem_of_getElem? he
          rw [hI.lv] at hem
          obtain ⟨he1, he2⟩ := List.mem_filter.mp hem
          have he2 : e.h = (p.1, c) := of_decide_eq_true he2
          have hes : e.s = p.1 := congrArg Prod.fst he2
          have hel : e.l = c := congrArg Prod.snd he2
          have hW4 := lev_len hK x1 x2
          refine ⟨_, rfl, tr_seq ?_⟩
          have hin2 : pIn .i true (eIx (eV 10) (eC (.int 2))) (.s 7) [some (.dat (tkD M mk S)), some (.dat C.d), some (.dat (.int C.s)), some (.dat (.tup (C.pile.map .int))), some (.own (.dic .t (begD B2))), some (.dat (.dic .i (levD L))), some (.dat (.int c)), some (.own (.dic .i (levD W'))), some (.dat (.int p.1)), some (.dat (esD p.2)), some (.dat e.d)] = some (.bl (!(getA W' e.g).isSome)) := by
            show some (D.bl (!(look (levD W') [e.g]).isSome)) = _
            rw [look_lev, Option.isSome_map]
          refine tr_if (evB hin2) (fun hb => ?_) (fun hb => ?_)
          · have hnew : e.g ∉ W'.map (·.1) := getA_out.mp (by simpa using hb)
            have ees : D.tup (p.2.map Ent.d ++ [e.d]) = esD (p.2 ++ [e]) := by unfold esD; rw [List.map_append]; rfl
            refine tr_put (kvs := levD W') (d := esD (p.2 ++ [e])) (k0 := [e.g]) rfl (ev2 (x := esD p.2) (y := .tup [e.d]) rfl (evT (evA rfl evN) (by simp)) ?_) rfl (by rw [levD, enc_len]; unfold lim; omega) ?_
            · rw [← ees]
              exact catT_ok (by rw [List.length_map, v1]; simp; omega)
            · rw [put_lev, putA_new hnew]
              refine tr_seq (tr_fgt (tr_nil ⟨W' ++ [(e.g, p.2 ++ [e])], rfl, ?_, fun q hq => ?_, fun t ht => ?_, fun y hy => ?_⟩))
              · rw [List.map_append]
                refine List.nodup_append.mpr ⟨x1, by simp, fun a ha b hb => ?_⟩
                have : b = e.g := by simpa using hb
                rintro rfl
                exact hnew (this ▸ ha)
              · rcases List.mem_append.mp hq with z | z
                · exact x2 q z
                · have : q = (e.g, p.2 ++ [e]) := by simpa using z
                  rw [this]
                  refine ⟨by simp [v1], ?_, fun y hy => ?_⟩
                  · show Down C.s (C.pile.take (k + 1)) (p.2 ++ [e]) e.g
                    rw [take_next hc]
                    have := Down.snoc v2 hes
                    rw [hel] at this
                    exact this
                  · rcases List.mem_append.mp hy with z | z
                    · exact v3 y z
                    · have : y = e := by simpa using z
                      rw [this]; exact he1
              · rw [List.map_append]; exact List.mem_append_left _ (x3 t ht)
              · rw [List.map_append]
                rw [take_next he] at hy
                rcases List.mem_append.mp hy with z | z
                · exact List.mem_append_left _ (x4 y z)
                · have : y = e := by simpa using z
                  rw [this]; simp
          · refine tr_nil (tr_seq (tr_fgt (tr_nil ⟨W', rfl, x1, x2, x3, fun y hy => ?_⟩)))
            rw [take_next he] at hy
            rcases List.mem_append.mp hy with z | z
            · exact x4 y z
            · have : y = e := by simpa using z
              rw [this]; exact getA_in.mp (by simpa using hb)
        · rintro r ⟨W', rfl, x1, x2, x3, x4⟩
          rw [List.length_map, List.take_length] at x4
          refine tr_seq (tr_fgt (tr_nil ⟨B2, W', rfl, d1, d2, (fun h hh => d3 h (b3 h hh)), fun q hq => ?_, x1, x2, fun q hq e he => ?_⟩))
          · rw [take_next hp] at hq
            rcases List.mem_append.mp hq with z | z
            · exact d3 _ (b4 q z)
            · have : q = p := by simpa using z
              rw [this]; exact d4
          · rw [take_next hp] at hq
            rcases List.mem_append.mp hq with z | z
            · exact x3 _ (w3 q z e he)
            · have : q = p := by simpa using z
              rw [this] at he
              exact x4 e he
    · rintro r ⟨B', W, rfl, b1, b2, b3, b4, w1, w2, w3⟩
      rw [List.length_map, List.take_length] at b4 w3
      refine tr_seq (tr_frz rfl rfl (tr_seq (tr_set rfl (tr_seq (tr_fgt (tr_nil ⟨B', W, rfl, b1, b2, w1, w2, fun es t h he => ?_, fun j hj c' hc' es t h he => ?_⟩))))))
      · rw [take_next hc] at h
        obtain ⟨es', e, rfl, h1, h2, h3⟩ := h.split
        have hs := I.cov es' e.s h1 fun y hy => he y (List.mem_append_left _ hy)
        obtain ⟨p, hp, hp2⟩ := List.mem_map.mp hs
        rw [← h3]
        refine w3 p hp e ?_
        rw [hI.lv]
        refine List.mem_filter.mpr ⟨he e (by simp), decide_eq_true ?_⟩
        show (e.s, e.l) = (p.1, c)
        rw [hp2, h2]
      · by_cases q : j < k
        · exact b3 _ (I.cob j q c' hc' es t h he)
        · have : j = k := by omega
          subst this
          rw [hc] at hc'
          cases hc'
          have hs := I.cov es t h he
          obtain ⟨p, hp, hp2⟩ := List.mem_map.mp hs
          rw [← hp2]
          exact b4 p hp
  · rintro r ⟨B, L, rfl, I⟩
    rw [List.length_map] at I
    exact tr_seq (tr_frz rfl rfl (tr_ret rfl ⟨B, rfl, I.b1, I.b2, fun j c hc => I.cob j (List.getElem?_eq_some_iff.mp hc).1 c hc⟩))
end DL
end

section
set_option linter.all false
set_option maxRecDepth 100000
set_option maxHeartbeats 1000000
/-! E12 (pure): rows of taking off, each behind the rows of its parts. -/
namespace DL
def pl : List Ent → Nat → List (Ent × Nat)
  | [], _ => []
  | x :: X, n => (x, n) :: pl X (n + 1)
theorem pl_keys : ∀ (X : List Ent) (n : Nat), (pl X n).map (·.1) = X
  | [], _ => rfl
  | x :: X, n => by show x :: (pl X (n + 1)).map (·.1) = _; rw [pl_keys X]
theorem pl_app : ∀ (X : List Ent) (x : Ent) (n : Nat), pl (X ++ [x]) n = pl X n ++ [(x, n + X.length)]
  | [], x, n => rfl
  | y :: X, x, n => by
    show (y, n) :: pl (X ++ [x]) (n + 1) = _
    rw [pl_app X x (n + 1), List.length_cons]
    show _ = (y, n) :: (pl X (n + 1) ++ _)
    rw [show n + 1 + X.length = n + (X.length + 1) by omega]
theorem pl_len : ∀ (X : List Ent) (n : Nat), (pl X n).length = X.length
  | [], _ => rfl
  | x :: X, n => by show (pl X (n + 1)).length + 1 = _; rw [pl_len X]; rfl
theorem pl_get : ∀ (X : List Ent) (n : Nat) (p : Ent) (i : Nat), getA (pl X n) p = some i → n ≤ i ∧ X[i - n]? = some p
  | [], n, p, i, h => by simp [pl, getA] at h
  | x :: X, n, p, i, h => by
    have h' : getA ((x, n) :: pl X (n + 1)) p = some i := h
    rw [getA_cons] at h'
    by_cases q : x = p
    · rw [if_pos q] at h'
      cases h'
      exact ⟨Nat.le_refl _, by rw [Nat.sub_self, ← q]; rfl⟩
    · rw [if_neg q] at h'
      obtain ⟨h1, h2⟩ := pl_get X (n + 1) p i h'
      refine ⟨by omega, ?_⟩
      rw [show i - n = (i - (n + 1)) + 1 by omega]
      exact h2
/-- the place of an entry -/
def plc (X : List Ent) (p : Ent) : Nat := (getA (pl X 0) p).getD 0
theorem plc_some {X : List Ent} {p : Ent} (h : p ∈ X) : getA (pl X 0) p = some (plc X p) ∧ X[plc X p]? = some p := by
  obtain ⟨i, hi⟩ : ∃ i, getA (pl X 0) p = some i := Option.isSome_iff_exists.mp (getA_in.mpr (by rw [pl_keys]; exact h))
  have : plc X p = i := by unfold plc; rw [hi]; rfl
  rw [this]
  exact ⟨hi, by have := (pl_get X 0 p i hi).2; simpa using this⟩
theorem getA_left {α β : Type} [DecidableEq α] {L L' : List (α × β)} {a : α} (h : a ∈ L.map (·.1)) : getA (L ++ L') a = getA L a := by
  induction L with
  | nil => cases h
  | cons p L ih =>
    rw [List.cons_append, getA_cons, getA_cons]
    by_cases q : p.1 = a
    · rw [if_pos q, if_pos q]
    · rw [if_neg q, if_neg q]
      rw [List.map_cons] at h
      rcases List.mem_cons.mp h with z | z
      · exact absurd z.symm q
      · exact ih z
theorem plc_app {X : List Ent} {p x : Ent} (h : p ∈ X) : plc (X ++ [x]) p = plc X p := by
  unfold plc
  rw [pl_app, getA_left (by rw [pl_keys]; exact h)]
theorem plc_apps {X : List Ent} {p : Ent} (h : p ∈ X) : ∀ N : List Ent, plc (X ++ N) p = plc X p := by
  intro N
  induction N generalizing X with
  | nil => rw [List.append_nil]
  | cons x N ih =>
    rw [show X ++ x :: N = (X ++ [x]) ++ N by simp, ih (List.mem_append_left _ h), plc_app h]
def placeD (X : List Ent) (p : Ent) : D := .int (plc X p : Nat)
def nD (n : Nat) : D := .int (n : Nat)
/-- the row of an entry -/
def rowOf (T : Tab) (X : List Ent) (e : Ent) : D := match getA T e with
  | some p => .tup [.int (p.1 : Nat), .tup (p.2.map (placeD X))]
  | none => .non
def rwF (T : Tab) (X : List Ent) : List Fld := [.dat (.dic .e (tabD T)), .own (.dic .e (enc Ent.k nD (pl X 0))), .own (.lst (X.map (rowOf T X)))]
theorem look_pl (X : List Ent) (e : Ent) : look (enc Ent.k nD (pl X 0)) e.k = (getA (pl X 0) e).map nD := look_enc Ent.k_inj _ e
section
variable (T : Tab)
/-- the parts of an entry -/
def prt (e : Ent) : List Ent := match getA T e with
  | some p => p.2
  | none => []
def Below (j : Nat) (y : Ent) : Prop := ∃ i, i < j ∧ (keys T)[i]? = some y
structure TOk : Prop where
  nd : (keys T).Nodup
  prt : ∀ (k : Nat) p, T[k]? = some p → p.2.2.length ≤ 2 ∧ ∀ q ∈ p.2.2, Below T k q
structure XOk (X : List Ent) : Prop where
  nd : X.Nodup
  sub : ∀ e ∈ X, e ∈ keys T
  par : ∀ (k : Nat) e, X[k]? = some e → ∀ q ∈ prt T e, q ∈ X.take k
end
section
variable {T : Tab}
theorem getA_key (h : TOk T) {j : Nat} {x : Ent} (hx : (keys T)[j]? = some x) : ∃ p, T[j]? = some (x, p) ∧ getA T x = some p := by
  unfold keys at hx
  rw [List.getElem?_map] at hx
  obtain ⟨p, hp, rfl⟩ := Option.map_eq_some_iff.mp hx
  exact ⟨p.2, hp, getA_mem h.nd (List.mem_of_getElem? hp)⟩
theorem Below.key {j : Nat} {y : Ent} (h : Below T j y) : y ∈ keys T := let ⟨_, _, h⟩ := h; List.mem_of_getElem? h
theorem XOk.add (h : XOk T X) {x : Ent} (hx : x ∈ keys T) (hn : x ∉ X) (hp : ∀ q ∈ prt T x, q ∈ X) : XOk T (X ++ [x]) := by
  refine ⟨List.nodup_append.mpr ⟨h.nd, by simp, fun a ha b hb => ?_⟩, fun e he => ?_, fun k e hk q hq => ?_⟩
  · have : b = x := by simpa using hb
    rintro rfl
    exact hn (this ▸ ha)
  · rcases List.mem_append.mp he with z | z
    · exact h.sub e z
    · have : e = x := by simpa using z
      rw [this]; exact hx
  · by_cases hlt : k < X.length
    · rw [List.getElem?_append_left hlt] at hk
      rw [List.take_append_of_le_length (by omega)]
      exact h.par k e hk q hq
    · rw [List.getElem?_append_right (by omega)] at hk
      have hk0 : k - X.length = 0 := by
        have := (List.getElem?_eq_some_iff.mp hk).1
        simp at this; omega
      rw [hk0] at hk
      have he : e = x := by simpa using hk.symm
      have : k = X.length := by omega
      rw [this, List.take_left']
      · rw [he] at hq; exact hp q hq
      · rfl
theorem XOk.parts (h : XOk T X) {e : Ent} (he : e ∈ X) {q : Ent} (hq : q ∈ prt T e) : q ∈ X := by
  obtain ⟨k, hk⟩ := List.mem_iff_getElem?.mp he
  exact List.mem_of_mem_take (h.par k e hk q hq)
theorem row_app (h : XOk T X) {e : Ent} (he : e ∈ X) (x : Ent) : rowOf T (X ++ [x]) e = rowOf T X e := by
  unfold rowOf
  cases q : getA T e with
  | none => rfl
  | some p =>
    have : p.2.map (placeD (X ++ [x])) = p.2.map (placeD X) := List.map_congr_left fun y hy => by
      unfold placeD
      rw [plc_app (h.parts he (by unfold prt; rw [q]; exact hy))]
    show D.tup [_, D.tup (p.2.map (placeD (X ++ [x])))] = _
    rw [this]
theorem rows_app (h : XOk T X) (x : Ent) (hp : ∀ q ∈ prt T x, q ∈ X) : (X ++ [x]).map (rowOf T (X ++ [x])) = X.map (rowOf T X) ++ [rowOf T X x] := by
  rw [List.map_append, List.map_congr_left fun e he => row_app h he x]
  congr 1
  show [rowOf T (X ++ [x]) x] = _
  congr 1
  unfold rowOf
  cases q : getA T x with
  | none => rfl
  | some p =>
    have : p.2.map (placeD (X ++ [x])) = p.2.map (placeD X) := List.map_congr_left fun y hy => by
      unfold placeD
      rw [plc_app (hp y (by unfold prt; rw [q]; exact hy))]
    show D.tup [_, D.tup (p.2.map (placeD (X ++ [x])))] = _
    rw [this]
end
/-! ### missing -/
theorem lcD_filter {α : Type} {i : Nat} {c e : EX} {r : Env} {f : α → D} {q : α → Bool} : ∀ (l : List α), (∀ x ∈ l, c (r.set i (some (.dat (f x)))) = some (.bl (q x)) ∧ e (r.set i (some (.dat (f x)))) = some (f x)) → lcD i c e r (l.map f) = some ((l.filter q).map f)
  | [], _ => rfl
  | x :: l, h => by
    obtain ⟨h1, h2⟩ := h x List.mem_cons_self
    have ih := lcD_filter l fun y hy => h y (List.mem_cons_of_mem _ hy)
    rw [List.map_cons]
    unfold lcD
    rw [h1]
    show (some (q x)).bind _ = _
    rw [Option.bind_some, List.filter_cons]
    cases q x with
    | true => rw [if_pos rfl, if_pos rfl, h2, Option.bind_some, ih]; rfl
    | false => rw [if_neg Bool.false_ne_true, if_neg Bool.false_ne_true, ih]
def mis (T : Tab) (X : List Ent) (e : Ent) : List Ent := (prt T e).filter fun q => !(getA (pl X 0) q).isSome
theorem missing_ok {T : Tab} (hT : TOk T) (X : List Ent) {j : Nat} {x : Ent} (hx : (keys T)[j]? = some x) : g_Rows_missing (rwF T X) [x.d] = some (.lst ((mis T X x).map Ent.d), rwF T X) := by
  obtain ⟨p, hp, hg⟩ := getA_key hT hx
  obtain ⟨h2, hb⟩ := hT.prt j _ hp
  have h2 : p.2.length ≤ 2 := h2
  refine runO_tr rfl fun a => ?_
  show Tr _ _ (F_Rows_missing MX [some (.obj (some a) .rows (rwF T X)), some (.dat x.d), none, none])
  unfold F_Rows_missing
  have hget : ∀ (q : Ent) (y : Nat × List Ent), getA T q = some y → look (tabD T) q.k = some (rowD y) := fun q y hq => by rw [look_tab, hq]; rfl
  refine tr_seq (tr_set (d := .tup (p.2.map Ent.d)) (evIx (i := 1) (l := [.int (p.1 : Nat), .tup (p.2.map Ent.d)]) (ev2 rfl rfl (hget x p hg)) rfl rfl rfl) (tr_ret (d := .lst ((mis T X x).map Ent.d)) ?_ ⟨rfl, rfl⟩))
  unfold eLc
  show (if (p.2.map Ent.d).length ≤ lim then (lcD 3 _ _ _ (p.2.map Ent.d)).map D.lst else none) = _
  rw [if_pos (by rw [List.length_map]; unfold lim; omega)]
  have hpr : prt T x = p.2 := by unfold prt; rw [hg]
  unfold mis
  rw [hpr, lcD_filter (q := fun q => !(getA (pl X 0) q).isSome) p.2 fun q hq => ?_]
  · rfl
  · refine ⟨?_, rfl⟩
    obtain ⟨i, hi, hqi⟩ := hb q hq
    obtain ⟨y, _, hy⟩ := getA_key hT hqi
    refine and_t (ev1 (x := .int (y.1 : Nat)) (evIx (i := 0) (l := [.int (y.1 : Nat), .tup (y.2.map Ent.d)]) (ev2 (x := .dic .e (tabD T)) (y := q.d) rfl rfl (hget q y hy)) rfl rfl rfl) rfl) ?_
    show some (D.bl (!(look (enc Ent.k nD (pl X 0)) q.k).isSome)) = _
    rw [look_pl, Option.isSome_map]
end DL
end

section
set_option linter.all false
set_option maxRecDepth 100000
set_option maxHeartbeats 1000000
/-! E13 (pure): a row is added. -/
namespace DL
theorem tr_eq {q : Res} {e : Env} (h : Tr (fun r => r = e) (fun _ _ => False) q) : q = .nx e := by
  cases h with
  | nx h => rw [h]
  | rt h => exact h.elim
theorem tr_methTo {Q : Env → Prop} {R : D → Env → Prop} {r : Env} {x i : Nat} {c : CN} {g : GO} {a : EXs} {t : Option PySem.Addr} {fs : List Fld} {ds : List D} {z : D × List Fld} (h1 : slot r i = some (.obj t c fs)) (h2 : a r = some ds) (h3 : g fs ds = some z) (k : Q ((r.set i (some (.obj t c z.2))).set x (some (.dat z.1)))) : Tr Q R (sMethTo x i c g a r) := tr_callO h1 h2 h3 k
noncomputable def addC : EX := e2 oGt (pLenL (.s 3)) (eC (.int 0))
noncomputable def addB : ST :=
  sSeq (sSet 4 (pLast (.s 3))) (sSeq (sUnp (gT [5, 6]) (e2 (oGet .e) (eOFld 0 .rows 0) (eV 4))) (sSeq (sMethTo 7 0 .rows g_Rows_missing (aC (eV 4) aN))
    (sSeq (sIf (eOr (e1 oIsN (eV 5)) (pIn .e false (eV 4) (.f 0 .rows 1))) (sPop (.s 3))
      (sIf (e2 oGt (eCall gLen (aC (eV 7) aN)) (eC (.int 0))) (sExt (.s 3) (eV 7))
        (sSeq (sIf (eV 2) sNever (sSet 9 (eCall gTuple (aC (eLc 8 (oTup (eV 6)) (eC (.bl true)) (pGet .e (.f 0 .rows 1) (eV 8))) aN))))
          (sSeq (sPut .e (.f 0 .rows 1) (eV 4) (pLenL (.f 0 .rows 2))) (sSeq (sApp (.f 0 .rows 2) (eTup (aC (eV 5) (aC (eV 9) aN)))) (sPop (.s 3)))))))
      (sSeq (sFgt [4, 5, 6, 7, 9]) sNil))))
def eA (a : PySem.Addr) (T : Tab) (key : Ent) (X P : List Ent) : Env :=
  [some (.obj (some a) .rows (rwF T X)), some (.dat key.d), some (.dat (.bl false)), some (.own (.lst (P.map Ent.d))), none, none, none, none, none, none]
section
variable {T : Tab} (a : PySem.Addr) (key : Ent)
/-- the first half of a turn -/
theorem add_head (hT : TOk T) {X base : List Ent} {x : Ent} {p : Nat × List Ent} {j : Nat} (hx : (keys T)[j]? = some x) (hg : getA T x = some p) {Q : Env → Prop} {R : D → Env → Prop}
    (k : Tr (fun r => Q (([4, 5, 6, 7, 9] : List Nat).foldl (fun r i => r.set i none) r)) R (sIf (eOr (e1 oIsN (eV 5)) (pIn .e false (eV 4) (.f 0 .rows 1))) (sPop (.s 3))
      (sIf (e2 oGt (eCall gLen (aC (eV 7) aN)) (eC (.int 0))) (sExt (.s 3) (eV 7))
        (sSeq (sIf (eV 2) sNever (sSet 9 (eCall gTuple (aC (eLc 8 (oTup (eV 6)) (eC (.bl true)) (pGet .e (.f 0 .rows 1) (eV 8))) aN))))
          (sSeq (sPut .e (.f 0 .rows 1) (eV 4) (pLenL (.f 0 .rows 2))) (sSeq (sApp (.f 0 .rows 2) (eTup (aC (eV 5) (aC (eV 9) aN)))) (sPop (.s 3))))))
      [some (.obj (some a) .rows (rwF T X)), some (.dat key.d), some (.dat (.bl false)), some (.own (.lst ((base ++ [x]).map Ent.d))), some (.dat x.d), some (.dat (.int (p.1 : Nat))), some (.dat (.tup (p.2.map Ent.d))), some (.dat (.lst ((mis T X x).map Ent.d))), none, none])) :
    Tr Q R (addB (eA a T key X (base ++ [x]))) := by
  unfold addB eA
  refine tr_seq (tr_set (d := x.d) ?_ (tr_seq (tr_unp (d := rowD p) (ev2 rfl rfl ?_) gT2 (tr_seq (tr_methTo rfl (evA rfl evN) (missing_ok hT X hx) (tr_seq (k.imp (fun r h => tr_seq (tr_fgt (tr_nil h))) fun _ _ h => h)))))))
  · show ((base ++ [x]).map Ent.d).getLast? = _
    rw [List.map_append]; simp
  · show look (tabD T) x.k = _
    rw [look_tab, hg]; rfl
theorem cond1 {X base : List Ent} {x : Ent} {p : Nat × List Ent} (x9 : Option SV) (msD : D) : (eOr (e1 oIsN (eV 5)) (pIn .e false (eV 4) (.f 0 .rows 1)) [some (.obj (some a) .rows (rwF T X)), some (.dat key.d), some (.dat (.bl false)), some (.own (.lst ((base ++ [x]).map Ent.d))), some (.dat x.d), some (.dat (.int (p.1 : Nat))), some (.dat (.tup (p.2.map Ent.d))), some (.dat msD), none, x9]) = some (.bl (getA (pl X 0) x).isSome) := by
  refine or_f (y := (getA (pl X 0) x).isSome) (ev1 (x := .int (p.1 : Nat)) rfl rfl) ?_
  show some (D.bl (look (enc Ent.k nD (pl X 0)) x.k).isSome) = _
  rw [look_pl, Option.isSome_map]
theorem it_pop (hT : TOk T) {X base : List Ent} {x : Ent} {j : Nat} (hx : (keys T)[j]? = some x) (hin : x ∈ X) : addB (eA a T key X (base ++ [x])) = .nx (eA a T key X base) := by
  obtain ⟨p, hp, hg⟩ := getA_key hT hx
  refine tr_eq (add_head a key hT hx hg (tr_if (b := true) (evB ((cond1 a key none _).trans (by rw [(plc_some hin).1]; rfl))) (fun _ => ?_) (fun h => nomatch h)))
  refine tr_pop (l := (base ++ [x]).map Ent.d) (d := x.d) rfl (by rw [List.map_append]; simp) ?_
  have e : ((base ++ [x]).map Ent.d).dropLast = base.map Ent.d := by rw [List.map_append]; simp
  rw [e]
  rfl
theorem notin_pl {X : List Ent} {x : Ent} (h : x ∉ X) : (getA (pl X 0) x).isSome = false := getA_out.mpr (by rw [pl_keys]; exact h)
theorem mis_nil {X : List Ent} {x : Ent} (h : mis T X x = []) : ∀ q ∈ prt T x, q ∈ X := fun q hq => by
  unfold mis at h
  have := List.filter_eq_nil_iff.mp h q hq
  have h2 : (getA (pl X 0) q).isSome = true := by
    cases z : (getA (pl X 0) q).isSome with
    | true => rfl
    | false => rw [z] at this; exact absurd rfl this
  have := getA_in.mp h2
  rwa [pl_keys] at this
theorem it_ext (hT : TOk T) {X base : List Ent} {x : Ent} {j : Nat} (hx : (keys T)[j]? = some x) (hn : x ∉ X) (hm : mis T X x ≠ []) (hb : base.length ≤ 1000) : addB (eA a T key X (base ++ [x])) = .nx (eA a T key X (base ++ [x] ++ mis T X x)) := by
  obtain ⟨p, hp, hg⟩ := getA_key hT hx
  obtain ⟨h2, _⟩ := hT.prt j _ hp
  have h2 : p.2.length ≤ 2 := h2
  have hml : (mis T X x).length ≤ 2 := by
    unfold mis
    refine Nat.le_trans (List.length_filter_le _ _) ?_
    unfold prt; rw [hg]; exact h2
  have hpos : 0 < (mis T X x).length := List.length_pos_iff.mpr hm
  refine tr_eq (add_head a key hT hx hg (tr_if (b := false) (evB ((cond1 a key none _).trans (by rw [notin_pl hn]))) (fun h => nomatch h) (fun _ => ?_)))
  refine tr_if (b := true) (evB (ev2 (x := .int ((mis T X x).length : Nat)) (y := .int 0) (evC (evA rfl evN) ?_) rfl ?_)) (fun _ => ?_) (fun h => nomatch h)
  · show some (D.int (((mis T X x).map Ent.d).length : Nat)) = _
    rw [List.length_map]
  · show some (D.bl (decide ((0 : Int) < ((mis T X x).length : Nat)))) = _
    rw [decide_eq_true (by omega)]
  · refine tr_ext (l := (base ++ [x]).map Ent.d) (m := (mis T X x).map Ent.d) rfl rfl (by rw [List.length_map, List.length_map, List.length_append, List.length_singleton]; unfold lim; omega) ?_
    rw [← List.map_append]
    rfl
theorem it_put (hT : TOk T) {X base : List Ent} (hX : XOk T X) {x : Ent} {j : Nat} (hx : (keys T)[j]? = some x) (hn : x ∉ X) (hm : mis T X x = []) (hl : X.length ≤ 1000) : addB (eA a T key X (base ++ [x])) = .nx (eA a T key (X ++ [x]) base) := by
  obtain ⟨p, hp, hg⟩ := getA_key hT hx
  obtain ⟨h2, _⟩ := hT.prt j _ hp
  have h2 : p.2.length ≤ 2 := h2
  have hpar := mis_nil hm
  have hprt : prt T x = p.2 := by unfold prt; rw [hg]
  refine tr_eq (add_head a key hT hx hg (tr_if (b := false) (evB ((cond1 a key none _).trans (by rw [notin_pl hn]))) (fun h => nomatch h) (fun _ => ?_)))
  refine tr_if (b := false) (evB (ev2 (x := .int 0) (y := .int 0) (evC (evA rfl evN) ?_) rfl rfl)) (fun h => nomatch h) (fun _ => ?_)
  · rw [hm]; rfl
  refine tr_seq (tr_if (b := false) rfl (fun h => nomatch h) fun _ => tr_set (d := .tup (p.2.map (placeD X))) (evC (evA (evLc (l := p.2.map Ent.d) (h := fun d => .int (((toKey .e d).bind fun k => look (enc Ent.k nD (pl X 0)) k).bind intD).get!) rfl (by rw [List.length_map]; omega) fun d hd => ?_) evN) ?_) ?_)
  · obtain ⟨q, hq, rfl⟩ := List.mem_map.mp hd
    have hqX := hpar q (by rw [hprt]; exact hq)
    show look (enc Ent.k nD (pl X 0)) q.k = _
    have e : look (enc Ent.k nD (pl X 0)) q.k = some (placeD X q) := by rw [look_pl, (plc_some hqX).1]; rfl
    rw [e]
    show _ = some (D.int (((some q.k).bind fun k => look (enc Ent.k nD (pl X 0)) k).bind intD).get!)
    rw [Option.bind_some, e]
    rfl
  · show some (D.tup _) = _
    congr 2
    rw [List.map_map]
    refine List.map_congr_left fun q hq => ?_
    have hqX := hpar q (by rw [hprt]; exact hq)
    have e : look (enc Ent.k nD (pl X 0)) q.k = some (placeD X q) := by rw [look_pl, (plc_some hqX).1]; rfl
    show D.int (((some q.k).bind fun k => look (enc Ent.k nD (pl X 0)) k).bind intD).get! = _
    rw [Option.bind_some, e]
    rfl
  have hnk : x ∉ (pl X 0).map (·.1) := by rw [pl_keys]; exact hn
  refine tr_seq (tr_put (kvs := enc Ent.k nD (pl X 0)) (d := nD X.length) (k0 := x.k) rfl ?_ rfl (by rw [enc_len, pl_len]; unfold lim; omega) ?_)
  · show some (D.int ((X.map (rowOf T X)).length : Nat)) = _
    rw [List.length_map]
    rfl
  have e1 : put (enc Ent.k nD (pl X 0)) x.k (nD X.length) = enc Ent.k nD (pl (X ++ [x]) 0) := by
    rw [put_enc Ent.k_inj, putA_new hnk, pl_app, Nat.zero_add]
  rw [e1]
  have e2 : rowOf T X x = .tup [.int (p.1 : Nat), .tup (p.2.map (placeD X))] := by unfold rowOf; rw [hg]
  refine tr_seq (tr_app (l := X.map (rowOf T X)) (d := rowOf T X x) rfl (by rw [e2]; exact evT (evA rfl (evA rfl evN)) (by simp)) (by rw [List.length_map]; unfold lim; omega) ?_)
  rw [← rows_app hX x hpar]
  refine tr_pop (l := (base ++ [x]).map Ent.d) (d := x.d) rfl (by rw [List.map_append]; simp) ?_
  have e : ((base ++ [x]).map Ent.d).dropLast = base.map Ent.d := by rw [List.map_append]; simp
  rw [e]
  rfl
end
end DL
end

section
set_option linter.all false
set_option maxRecDepth 100000
set_option maxHeartbeats 1000000
/-! E14 (pure): Rows.add, told_moves. -/
namespace DL
theorem nth_lt' {α : Type} {l : List α} {j : Nat} {x : α} (h : l[j]? = some x) : j < l.length := (List.getElem?_eq_some_iff.mp h).1
theorem whD_step {t : EX} {b : ST} {n : Nat} {r r2 : Env} (h1 : (t r).bind blD = some true) (h2 : b r = .nx r2) : whD t b (n + 1) r = whD t b n r2 := by
  show sBind ((t r).bind blD) (fun c => if c then (match b r with
    | .nx r2 => whD t b n r2
    | z => z) else .nx r) = _
  rw [h1, h2]
  rfl
theorem whD_end {t : EX} {b : ST} {n : Nat} {r : Env} (h1 : (t r).bind blD = some false) : whD t b (n + 1) r = .nx r := by
  show sBind ((t r).bind blD) (fun c => if c then (match b r with
    | .nx r2 => whD t b n r2
    | z => z) else .nx r) = _
  rw [h1]
  rfl
theorem addC_eq (a : PySem.Addr) (T : Tab) (key : Ent) (X P : List Ent) : (addC (eA a T key X P)).bind blD = some (decide (0 < P.length)) := by
  refine evB (ev2 (x := .int (P.length : Nat)) (y := .int 0) ?_ rfl ?_)
  · show some (D.int ((P.map Ent.d).length : Nat)) = _
    rw [List.length_map]
  · show some (D.bl (decide ((0 : Int) < (P.length : Nat)))) = _
    congr 2
    exact decide_eq_decide.mpr (by omega)
theorem nodup_sub_len {α : Type} [BEq α] [LawfulBEq α] : ∀ (X K : List α), X.Nodup → (∀ x ∈ X, x ∈ K) → X.length ≤ K.length
  | [], _, _, _ => Nat.zero_le _
  | x :: X, K, nd, h => by
    obtain ⟨n1, n2⟩ := List.nodup_cons.mp nd
    have hx := h x List.mem_cons_self
    have := nodup_sub_len X (K.erase x) n2 fun y hy => (List.mem_erase_of_ne fun z => n1 (by rw [← z]; exact hy)).mpr (h y (List.mem_cons_of_mem _ hy))
    rw [List.length_erase_of_mem hx] at this
    have := List.length_pos_of_mem hx
    rw [List.length_cons]; omega
section
variable {T : Tab}
theorem XOk.len (hl : T.length ≤ 96) {X : List Ent} (h : XOk T X) : X.length ≤ 96 := by
  have := nodup_sub_len X (keys T) h.nd h.sub
  unfold keys at this
  rw [List.length_map] at this; omega
/-- what a stack of entries comes to -/
def Done (T : Tab) (X base P : List Ent) (N : List Ent) (c : Nat) : Prop := ∀ (a : PySem.Addr) (key : Ent) (n : Nat), whD addC addB (n + c) (eA a T key X (base ++ P)) = whD addC addB n (eA a T key (X ++ N) base)
theorem Below.mono {i j : Nat} {y : Ent} (h : Below T i y) (q : i ≤ j) : Below T j y := let ⟨k, h1, h2⟩ := h; ⟨k, by omega, h2⟩
theorem proc_list (hT : TOk T) (j : Nat) (ih : ∀ i, i < j → ∀ (x : Ent) (X base : List Ent), (keys T)[i]? = some x → XOk T X → base.length + 3 * (i + 1) ≤ 900 →
    ∃ N c, XOk T (X ++ N) ∧ x ∈ X ++ N ∧ (∀ y ∈ N, Below T (i + 1) y) ∧ c ≤ 4 * N.length + 1 ∧ Done T X base [x] N c) : ∀ (ms X base : List Ent), (∀ m ∈ ms, Below T j m) → XOk T X → base.length + ms.length + 3 * j ≤ 900 →
    ∃ N c, XOk T (X ++ N) ∧ (∀ m ∈ ms, m ∈ X ++ N) ∧ (∀ y ∈ N, Below T j y) ∧ c ≤ 4 * N.length + ms.length ∧ Done T X base ms.reverse N c
  | [], X, base, _, hX, _ => ⟨[], 0, by rw [List.append_nil]; exact hX, (fun m h => by cases h), (fun y h => by cases h), Nat.zero_le _, fun a key n => by simp⟩
  | m :: ms, X, base, hm, hX, hb => by
    obtain ⟨i, hi, hmi⟩ := hm m List.mem_cons_self
    rw [List.length_cons] at hb
    obtain ⟨N1, c1, o1, o2, o3, o4, o5⟩ := ih i hi m X (base ++ ms.reverse) hmi hX (by rw [List.length_append, List.length_reverse]; omega)
    obtain ⟨N2, c2, p1, p2, p3, p4, p5⟩ := proc_list hT j ih ms (X ++ N1) base (fun y hy => hm y (List.mem_cons_of_mem _ hy)) o1 (by omega)
    refine ⟨N1 ++ N2, c2 + c1, by rw [← List.append_assoc]; exact p1, fun y hy => ?_, fun y hy => ?_, by rw [List.length_append, List.length_cons]; omega, fun a key n => ?_⟩
    · rw [← List.append_assoc]
      rcases List.mem_cons.mp hy with z | z
      · rw [z]; exact List.mem_append_left _ o2
      · exact p2 y z
    · rcases List.mem_append.mp hy with z | z
      · exact (o3 y z).mono (by omega)
      · exact p3 y z
    · rw [List.reverse_cons, ← List.append_assoc, ← Nat.add_assoc, o5, p5, List.append_assoc]
theorem proc (hT : TOk T) (hl : T.length ≤ 96) (j : Nat) : ∀ (x : Ent) (X base : List Ent), (keys T)[j]? = some x → XOk T X → base.length + 3 * (j + 1) ≤ 900 →
    ∃ N c, XOk T (X ++ N) ∧ x ∈ X ++ N ∧ (∀ y ∈ N, Below T (j + 1) y) ∧ c ≤ 4 * N.length + 1 ∧ Done T X base [x] N c := by
  induction j using Nat.strongRecOn with
  | ind j ih =>
    intro x X base hx hX hb
    have one : ∀ (a : PySem.Addr) (key : Ent), (addC (eA a T key X (base ++ [x]))).bind blD = some true := fun a key => by
      rw [addC_eq, decide_eq_true (by simp)]
    by_cases hin : x ∈ X
    · exact ⟨[], 1, by rw [List.append_nil]; exact hX, by rw [List.append_nil]; exact hin, (fun y h => by cases h), by simp, fun a key n => by
        rw [List.append_nil]
        exact whD_step (one a key) (it_pop a key hT hx hin)⟩
    · by_cases hm : mis T X x = []
      · refine ⟨[x], 1, hX.add (List.mem_of_getElem? hx) hin (mis_nil hm), by simp, fun y hy => ?_, by simp, fun a key n => whD_step (one a key) (it_put a key hT hX hx hin hm (by have := hX.len hl; omega))⟩
        have : y = x := by simpa using hy
        rw [this]; exact ⟨j, Nat.lt_succ_self _, hx⟩
      · obtain ⟨p, hp, hg⟩ := getA_key hT hx
        obtain ⟨h2, h3⟩ := hT.prt j _ hp
        have hprt : prt T x = p.2 := by unfold prt; rw [hg]
        have hml : (mis T X x).length ≤ 2 := by
          unfold mis
          refine Nat.le_trans (List.length_filter_le _ _) ?_
          rw [hprt]; exact h2
        have hmb : ∀ m ∈ (mis T X x).reverse, Below T j m := fun m hm => by
          have := (List.mem_filter.mp (List.mem_reverse.mp hm)).1
          rw [hprt] at this
          exact h3 m this
        obtain ⟨N1, c1, o1, o2, o3, o4, o5⟩ := proc_list hT j ih (mis T X x).reverse X (base ++ [x]) hmb hX (by rw [List.length_append, List.length_reverse, List.length_singleton]; omega)
        rw [List.reverse_reverse] at o5
        rw [List.length_reverse] at o4
        have hn1 : x ∉ X ++ N1 := fun z => by
          rcases List.mem_append.mp z with y | y
          · exact hin y
          · obtain ⟨i, hi, hxi⟩ := o3 x y
            have := (List.getElem?_inj (nth_lt' hxi) hT.nd).mp (hxi.trans hx.symm)
            omega
        have hpar : ∀ q ∈ prt T x, q ∈ X ++ N1 := fun q hq => by
          by_cases z : q ∈ X
          · exact List.mem_append_left _ z
          · exact o2 q (List.mem_reverse.mpr (List.mem_filter.mpr ⟨hq, by rw [notin_pl z]; rfl⟩))
        have hm1 : mis T (X ++ N1) x = [] := List.filter_eq_nil_iff.mpr fun q hq => by
          rw [(plc_some (hpar q hq)).1]; simp
        refine ⟨N1 ++ [x], (1 + c1) + 1, by rw [← List.append_assoc]; exact o1.add (List.mem_of_getElem? hx) hn1 hpar, by simp, fun y hy => ?_, by rw [List.length_append, List.length_singleton]; omega, fun a key n => ?_⟩
        · rcases List.mem_append.mp hy with z | z
          · exact (o3 y z).mono (by omega)
          · have : y = x := by simpa using z
            rw [this]; exact ⟨j, Nat.lt_succ_self _, hx⟩
        · rw [← Nat.add_assoc, whD_step (one a key) (it_ext a key hT hx hin hm (by omega)), ← Nat.add_assoc, o5, ← List.append_assoc]
          have one' : (addC (eA a T key (X ++ N1) (base ++ [x]))).bind blD = some true := by rw [addC_eq, decide_eq_true (by simp)]
          exact whD_step one' (it_put a key hT o1 hx hn1 hm1 (by have := o1.len hl; omega))
theorem add_ok (hT : TOk T) (hl : T.length ≤ 96) {X : List Ent} (hX : XOk T X) {x : Ent} (hx : x ∈ keys T) : ∃ N, XOk T (X ++ N) ∧ x ∈ X ++ N ∧ g_Rows_add (rwF T X) [x.d, .bl false] = some (.non, rwF T (X ++ N)) := by
  obtain ⟨j, hj⟩ := List.mem_iff_getElem?.mp hx
  have hj96 : j < 96 := by
    have := nth_lt' hj
    unfold keys at this
    rw [List.length_map] at this; omega
  obtain ⟨N, c, o1, o2, o3, o4, o5⟩ := proc hT hl j x X [] hj hX (by simp; omega)
  refine ⟨N, o1, o2, runO_at rfl fun a => ?_⟩
  have hN : N.length ≤ 96 := by have := o1.len hl; rw [List.length_append] at this; omega
  obtain ⟨n, hn⟩ : ∃ n, MX = (n + 1) + c := ⟨MX - c - 1, by unfold MX; omega⟩
  have e : F_Rows_add MX (envOf N_Rows_add (.obj (some a) .rows (rwF T X) :: [x.d, .bl false].map .dat)) = .nx (eA a T x (X ++ N) []) := by
    show sSeq (sOwn 3 (cNewL (aC (eV 1) aN))) (whD addC addB MX) [some (.obj (some a) .rows (rwF T X)), some (.dat x.d), some (.dat (.bl false)), none, none, none, none, none, none, none] = _
    show whD addC addB MX (eA a T x X ([] ++ [x])) = _
    rw [hn, o5 a x (n + 1)]
    exact whD_end (by rw [addC_eq]; rfl)
  rw [e]
  exact ⟨rfl, rfl⟩
end
end DL
end

section
set_option linter.all false
set_option maxRecDepth 100000
set_option maxHeartbeats 1000000
/-! E15 (pure): told moves; the start. -/
namespace DL
theorem evG {κ : KK} {p : Pl} {f : EX} {r : Env} {kvs : List (List Int × D)} {d z : D} {k : List Int} (h1 : (getP r p).bind (c1D κ) = some kvs) (h2 : f r = some d) (h3 : toKey κ d = some k) (h4 : look kvs k = some z) : pGet κ p f r = some z := by
  unfold pGet
  rw [h1, h2]
  show ((toKey κ d).bind fun j => look kvs j) = _
  rw [h3]
  exact h4
section
variable {T : Tab}
open Classical in
noncomputable def addX (T : Tab) (X : List Ent) (e : Ent) : List Ent := if h : ∃ N, XOk T (X ++ N) ∧ e ∈ X ++ N ∧ g_Rows_add (rwF T X) [e.d, .bl false] = some (.non, rwF T (X ++ N)) then X ++ h.choose else X
theorem addX_ok (hT : TOk T) (hl : T.length ≤ 96) {X : List Ent} (hX : XOk T X) {e : Ent} (he : e ∈ keys T) : XOk T (addX T X e) ∧ e ∈ addX T X e ∧ g_Rows_add (rwF T X) [e.d, .bl false] = some (.non, rwF T (addX T X e)) ∧ ∃ N, addX T X e = X ++ N := by
  have h := add_ok hT hl hX he
  unfold addX
  rw [dif_pos h]
  exact ⟨h.choose_spec.1, h.choose_spec.2.1, h.choose_spec.2.2, _, rfl⟩
noncomputable def tell1 (T : Tab) (X : List Ent) (v : Mv) : List Ent := match v.e with
  | none => X
  | some e => addX T X e
noncomputable def tellX (T : Tab) (X : List Ent) (vs : List Mv) : List Ent := vs.foldl (tell1 T) X
def partD (X : List Ent) : Option Ent → D
  | none => .non
  | some e => placeD X e
def toldD (X : List Ent) (v : Mv) : D := .tup [.int (v.i : Nat), partD X v.e]
def EIn (K : List Ent) (vs : List Mv) : Prop := ∀ v ∈ vs, ∀ e, v.e = some e → e ∈ K
theorem told_stable {X N : List Ent} {v : Mv} (h : ∀ e, v.e = some e → e ∈ X) : toldD (X ++ N) v = toldD X v := by
  unfold toldD
  cases q : v.e with
  | none => rfl
  | some e =>
    show D.tup [_, placeD (X ++ N) e] = D.tup [_, placeD X e]
    unfold placeD
    rw [plc_apps (h e q)]
theorem tell1_ok (hT : TOk T) (hl : T.length ≤ 96) {X : List Ent} (hX : XOk T X) {v : Mv} (hv : ∀ e, v.e = some e → e ∈ keys T) : XOk T (tell1 T X v) ∧ (∃ N, tell1 T X v = X ++ N) ∧ ∀ e, v.e = some e → e ∈ tell1 T X v := by
  unfold tell1
  cases q : v.e with
  | none => exact ⟨hX, ⟨[], by simp⟩, fun e h => by cases h⟩
  | some e =>
    obtain ⟨h1, h2, _, h4⟩ := addX_ok hT hl hX (hv e q)
    exact ⟨h1, h4, fun e' h => by cases h; exact h2⟩
theorem tell_ok (hT : TOk T) (hl : T.length ≤ 96) : ∀ (vs : List Mv) (X : List Ent), XOk T X → EIn (keys T) vs → XOk T (tellX T X vs) ∧ (∃ N, tellX T X vs = X ++ N) ∧ EIn (tellX T X vs) vs
  | [], X, hX, _ => ⟨hX, ⟨[], by simp [tellX]⟩, fun v h => by cases h⟩
  | v :: vs, X, hX, h => by
    obtain ⟨h1, ⟨N1, h2⟩, h3⟩ := tell1_ok hT hl hX (h v List.mem_cons_self)
    obtain ⟨g1, ⟨N2, g2⟩, g3⟩ := tell_ok hT hl vs (tell1 T X v) h1 fun w hw => h w (List.mem_cons_of_mem _ hw)
    have e : tellX T X (v :: vs) = tellX T (tell1 T X v) vs := rfl
    rw [e]
    refine ⟨g1, ⟨N1 ++ N2, by rw [g2, h2, List.append_assoc]⟩, fun w hw e he => ?_⟩
    rcases List.mem_cons.mp hw with z | z
    · rw [z] at he
      rw [g2]
      exact List.mem_append_left _ (h3 e he)
    · exact g3 w z e he
theorem told_ok (hT : TOk T) (hl : T.length ≤ 96) {X : List Ent} (hX : XOk T X) {vs : List Mv} (hv : EIn (keys T) vs) (hvl : vs.length ≤ 1000) : g_told_moves (rwF T X) [.lst (vs.map Mv.d)] = some (.tup (vs.map (toldD (tellX T X vs))), rwF T (tellX T X vs)) := by
  refine runO_tr rfl fun a => ?_
  show Tr _ _ (F_told_moves MX [some (.obj (some a) .rows (rwF T X)), some (.dat (.lst (vs.map Mv.d))), none, none, none])
  unfold F_told_moves
  refine tr_seq (tr_own (x := .lst []) rfl (tr_seq ?_))
  refine tr_for (l := vs.map Mv.d) (fun k r => r = [some (.obj (some a) .rows (rwF T (tellX T X (vs.take k)))), some (.dat (.lst (vs.map Mv.d))), some (.own (.lst ((vs.take k).map (toldD (tellX T X (vs.take k)))))), none, none]) rfl rfl ?_ ?_
  · rintro k d r hk rfl
    obtain ⟨v, hvk, rfl⟩ := getElem_map_some hk
    have hkl := nth_lt' hvk
    obtain ⟨t1, t2, t3⟩ := tell_ok hT hl (vs.take k) X hX fun w hw => hv w (List.mem_of_mem_take hw)
    have hvm := List.mem_of_getElem? hvk
    have hnext : tellX T X (vs.take (k + 1)) = tell1 T (tellX T X (vs.take k)) v := take_map_snoc hvk _ _
    have htold : (vs.take (k + 1)).map (toldD (tellX T X (vs.take (k + 1)))) = (vs.take k).map (toldD (tellX T X (vs.take k))) ++ [toldD (tellX T X (vs.take (k + 1))) v] := by
      obtain ⟨_, ⟨N, hN⟩, _⟩ := tell1_ok hT hl t1 (hv v hvm)
      rw [take_next hvk, List.map_append]
      congr 1
      refine List.map_congr_left fun w hw => ?_
      have e : tellX T X (vs.take k ++ [v]) = tellX T X (vs.take k) ++ N := by rw [← take_next hvk, hnext, hN]
      rw [e]
      exact told_stable (t3 w hw)
    rw [htold, hnext]
    have hlen : ((vs.take k).map (toldD (tellX T X (vs.take k)))).length ≤ 1000 := by rw [List.length_map, List.length_take]; omega
    generalize (vs.take k).map (toldD (tellX T X (vs.take k))) = acc at hlen
    generalize tellX T X (vs.take k) = Y at t1
    refine ⟨_, rfl, tr_seq (tr_set rfl ?_)⟩
    have hv3 : ∀ x2 x4, eIx (eV 3) (eC (.int 3)) [some (.obj (some a) .rows (rwF T Y)), some (.dat (.lst (vs.map Mv.d))), x2, some (.dat v.d), x4] = some (eD v.e) := fun x2 x4 => rfl
    refine tr_seq' (Q1 := fun r => r = [some (.obj (some a) .rows (rwF T (tell1 T Y v))), some (.dat (.lst (vs.map Mv.d))), some (.own (.lst acc)), some (.dat v.d), some (.dat (partD (tell1 T Y v) v.e))]) ?_ ?_
    · cases q : v.e with
      | none =>
        refine tr_if (b := false) (evB (ev1 (x := .non) (by rw [← show eD v.e = .non by rw [q]; rfl]; exact hv3 _ _) rfl)) (fun h => nomatch h) fun _ => tr_nil ?_
        have : tell1 T Y v = Y := by unfold tell1; rw [q]
        rw [this]
        rfl
      | some e =>
        obtain ⟨a1, a2, a3, _⟩ := addX_ok hT hl t1 (hv v hvm e q)
        have et : tell1 T Y v = addX T Y e := by unfold tell1; rw [q]
        rw [et]
        have hve : ∀ r : Env, eIx (eV 3) (eC (.int 3)) r = some (eD v.e) → eIx (eV 3) (eC (.int 3)) r = some e.d := fun r h => by rw [h, q]; rfl
        refine tr_if (b := true) (evB (ev1 (x := e.d) (hve _ rfl) rfl)) (fun _ => ?_) (fun h => nomatch h)
        exact tr_seq (tr_meth rfl (evA (hve _ rfl) (evA rfl evN)) a3 (tr_set (d := placeD (addX T Y e) e) (evG (kvs := enc Ent.k nD (pl (addX T Y e) 0)) (k := e.k) rfl (hve _ rfl) rfl (by rw [look_pl, (plc_some a2).1]; rfl)) rfl))
    · rintro r rfl
      refine tr_seq (tr_app (l := acc) (d := toldD (tell1 T Y v) v) rfl (evT (evA rfl (evA rfl evN)) (by simp)) (by unfold lim; omega) (tr_seq (tr_fgt (tr_nil rfl))))
  · rintro r rfl
    rw [List.length_map, List.take_length]
    exact tr_seq (tr_frz rfl rfl (tr_ret (evC (evA rfl evN) rfl) ⟨rfl, rfl⟩))
end
end DL
end

section
set_option linter.all false
set_option maxRecDepth 100000
set_option maxHeartbeats 1000000
/-! E16 (pure): endless. -/
namespace DL
theorem chain_len : ∀ {cs : List Int} {ps : List Ent} {s : Int} {f : Bool} {z : Int × Bool}, chain s cs f ps = some z → ps.length = cs.length
  | [], [], _, _, _, _ => rfl
  | [], _ :: _, _, _, _, h => by cases h
  | _ :: _, [], _, _, _, h => by cases h
  | c :: cs, p :: ps, s, f, z, h => by
    have h' : (if p.s = s ∧ p.l = c then chain p.g cs (f || p.f) ps else none) = some z := h
    split at h'
    · rw [List.length_cons, List.length_cons, chain_len h']
    · cases h'
theorem TInv.tok {M : Mach} {mk : List Int} {S : Tab × Lvs} (h : TInv M mk S) : TOk S.1 := ⟨h.nd, fun k p hp => by
  obtain ⟨x, h1, h2, h3, h4, h5⟩ := h.row k p hp
  have gx := M.ok x (List.mem_of_getElem? h1)
  refine ⟨by rw [chain_len h4]; exact gx.two, fun q hq => ?_⟩
  obtain ⟨i, hi⟩ := List.mem_iff_getElem?.mp (h5 q hq)
  rw [List.getElem?_take] at hi
  split at hi
  · exact ⟨i, by assumption, hi⟩
  · cases hi⟩
theorem mem_mvs {M : Mach} {mk : List Int} {K : List Ent} {h : Hd} {v : Mv} : v ∈ mvsOf (hdsA M mk K) h ↔ ∃ (i : Nat) (x : Ste), M.st[i]? = some x ∧ h = (x.s, x.l) ∧ v ∈ stepMv K i x (decide ((i : Int) ∈ mk)) := by
  unfold hdsA
  rw [mvs_fold]
  show v ∈ ([] : List Mv) ++ _ ↔ _
  rw [List.nil_append, List.mem_map]
  constructor
  · rintro ⟨p, hp, rfl⟩
    obtain ⟨h1, h2⟩ := List.mem_filter.mp hp
    have h2 : p.1 = h := of_decide_eq_true h2
    unfold allMv at h1
    obtain ⟨i, _, hi⟩ := List.mem_flatMap.mp h1
    unfold movesAt at hi
    cases q : M.st[i]? with
    | none => rw [q] at hi; cases hi
    | some x =>
      rw [q] at hi
      obtain ⟨w, hw, e⟩ := List.mem_map.mp hi
      rw [← e] at h2 ⊢
      exact ⟨i, x, q, h2.symm, hw⟩
  · rintro ⟨i, x, h1, rfl, h2⟩
    refine ⟨((x.s, x.l), v), List.mem_filter.mpr ⟨?_, decide_eq_true rfl⟩, rfl⟩
    unfold allMv
    refine List.mem_flatMap.mpr ⟨i, List.mem_range.mpr (nth_lt' h1), ?_⟩
    unfold movesAt
    rw [h1]
    exact List.mem_map.mpr ⟨v, h2, rfl⟩
theorem mem_step {K : List Ent} {i : Nat} {x : Ste} {m : Bool} {v : Mv} : v ∈ stepMv K i x m ↔ (∃ c cs, x.laid = c :: cs ∧ v = ⟨(x.g, c), m, i, none⟩) ∨ ∃ c c2 e, x.laid = [c, c2] ∧ e ∈ K ∧ e.h = (x.g, c) ∧ v = ⟨(e.g, c2), m || e.f, i, some e⟩ := by
  unfold stepMv
  rw [List.mem_append]
  constructor
  · rintro (h | h)
    · unfold mv1 at h
      split at h
      · cases h
      · rename_i c cs q
        exact .inl ⟨c, cs, q, by simpa using h⟩
    · unfold mv2 at h
      split at h
      · rename_i c c2 q
        obtain ⟨e, he, rfl⟩ := List.mem_map.mp h
        obtain ⟨h1, h2⟩ := List.mem_filter.mp he
        exact .inr ⟨c, c2, e, q, h1, of_decide_eq_true h2, rfl⟩
      · cases h
  · rintro (⟨c, cs, q, rfl⟩ | ⟨c, c2, e, q, h1, h2, rfl⟩)
    · refine .inl ?_
      unfold mv1
      rw [q]
      simp
    · refine .inr ?_
      unfold mv2
      rw [q]
      exact List.mem_map.mpr ⟨e, List.mem_filter.mpr ⟨h1, decide_eq_true h2⟩, rfl⟩
theorem hds_ok {M : Mach} {mk : List Int} {K : List Ent} (hK : ∀ e ∈ K, Rng M e) (hl : K.length ≤ 96) : AOk M (hdsA M mk K) where
  rng h v hv := by
    obtain ⟨i, x, h1, rfl, h2⟩ := mem_mvs.mp hv
    have gx := M.ok x (List.mem_of_getElem? h1)
    rcases mem_step.mp h2 with ⟨c, cs, q, rfl⟩ | ⟨c, c2, e, q, he, _, rfl⟩
    · obtain ⟨z1, z2⟩ := gx.lt c (by rw [q]; simp)
      exact ⟨gx.g0, gx.g1, z1, z2⟩
    · obtain ⟨z1, z2⟩ := gx.lt c2 (by rw [q]; simp)
      exact ⟨(hK e he).g0, (hK e he).g1, z1, z2⟩
  len h := by
    have h1 := foldM_mvs (allMv M mk K M.st.length) h
    have h2 := allMv_len (M := M) (mk := mk) hl M.st.length
    have := M.n10
    unfold hdsA
    omega
theorem evLc2 {α : Type} {i : Nat} {it : EXs} {e : EX} {r : Env} {l : List α} {f g : α → D} (h1 : it r = some (l.map f)) (h2 : l.length ≤ 100000) (h3 : ∀ x ∈ l, e (r.set i (some (.dat (f x)))) = some (g x)) : eLc i it (eC (.bl true)) e r = some (.lst (l.map g)) := by
  have : ∀ l : List α, (∀ x ∈ l, e (r.set i (some (.dat (f x)))) = some (g x)) → lcD i (eC (.bl true)) e r (l.map f) = some (l.map g) := by
    intro l
    induction l with
    | nil => intro _; rfl
    | cons x l ih =>
      intro h
      rw [List.map_cons]
      unfold lcD
      show (some true).bind _ = _
      rw [Option.bind_some, if_pos rfl, h x List.mem_cons_self, Option.bind_some, ih fun y hy => h y (List.mem_cons_of_mem _ hy)]
      rfl
  unfold eLc
  rw [h1]
  show (if (l.map f).length ≤ lim then _ else none) = _
  rw [if_pos (by rw [List.length_map]; unfold lim; omega), this l h3]
  rfl
noncomputable def addsX (T : Tab) (X : List Ent) (es : List Ent) : List Ent := es.foldl (addX T) X
theorem adds_ok {T : Tab} (hT : TOk T) (hl : T.length ≤ 96) : ∀ (es X : List Ent), XOk T X → (∀ e ∈ es, e ∈ keys T) → XOk T (addsX T X es) ∧ (∃ N, addsX T X es = X ++ N) ∧ ∀ e ∈ es, e ∈ addsX T X es
  | [], X, hX, _ => ⟨hX, ⟨[], by simp [addsX]⟩, fun e h => by cases h⟩
  | e :: es, X, hX, h => by
    obtain ⟨h1, h2, _, N1, h4⟩ := addX_ok hT hl hX (h e List.mem_cons_self)
    obtain ⟨g1, ⟨N2, g2⟩, g3⟩ := adds_ok hT hl es (addX T X e) h1 fun w hw => h w (List.mem_cons_of_mem _ hw)
    have q : addsX T X (e :: es) = addsX T (addX T X e) es := rfl
    rw [q]
    refine ⟨g1, ⟨N1 ++ N2, by rw [g2, h4, List.append_assoc]⟩, fun y hy => ?_⟩
    rcases List.mem_cons.mp hy with z | z
    · rw [z, g2]; exact List.mem_append_left _ h2
    · exact g3 y z
theorem rows_init (T : Tab) : g_Rows_init [] [.dic .e (tabD T)] = some (.non, rwF T []) := by
  refine runI_tr rfl fun a => ?_
  show Tr _ _ (F_Rows_init MX [some (.obj (some a) .rows []), some (.dat (.dic .e (tabD T)))])
  unfold F_Rows_init
  exact tr_seq (tr_fld rfl rfl rfl (tr_seq (tr_fldO rfl rfl (tr_fldO rfl rfl rfl))))
def NotR (M : Mach) (mk : List Int) (C : Conf M) (d : D) : Prop := ∃ (Ks : List Ent) (Rs : Rks) (hs : List Hd) (F : Fnd), d = .tup [.bl false, .tup [.str "not", .tup (Ks.map Ent.d), .tup (Rs.map rkD)]] ∧ Ks.Perm (keys (finS M mk).1) ∧ RSpec M (hdsA M mk (keys (finS M mk).1)) hs F ∧
  (∀ j c, C.pile[j]? = some c → ∀ es t, Down C.s (C.pile.take j) es t → (∀ e ∈ es, e ∈ keys (finS M mk).1) → (t, c) ∈ hs) ∧ (Rs.Pairwise fun p q => hlt p.1 q.1) ∧ (∀ h, h ∈ Rs.map (·.1) ↔ h ∈ fk F) ∧ (∀ p ∈ Rs, 0 ≤ p.2 ∧ p.2 ≤ 12) ∧
  ∀ h ∈ fk F, ∀ v ∈ mvsOf (hdsA M mk (keys (finS M mk).1)) h, ∀ r r', (h, r) ∈ Rs → (v.h, r') ∈ Rs → r' + b2 v.m ≤ r
def EverR (M : Mach) (mk : List Int) (C : Conf M) (d : D) : Prop := ∃ (X es : List Ent) (ws : List Mv) (v : Mv) (rs : List Mv) (h0 h : Hd),
  d = .tup [.bl true, .tup [.str "ever", .tup (X.map (rowOf (finS M mk).1 X)), .tup (es.map (placeD X)), .tup (ws.map (toldD X)), .tup ((v :: rs).map (toldD X))]] ∧ XOk (finS M mk).1 X ∧ VB (keys (finS M mk).1) C (h0, es) ∧ (∀ e ∈ es, e ∈ X) ∧
  Path (hdsA M mk (keys (finS M mk).1)) h0 ws h ∧ EIn X ws ∧ v ∈ mvsOf (hdsA M mk (keys (finS M mk).1)) h ∧ v.m = true ∧ Path (hdsA M mk (keys (finS M mk).1)) v.h rs h ∧ EIn X (v :: rs) ∧ ws.length ≤ 12 ∧ rs.length ≤ 12
theorem path_ein {M : Mach} {mk : List Int} {K : List Ent} : ∀ {ws : List Mv} {a b : Hd}, Path (hdsA M mk K) a ws b → EIn K ws
  | [], _, _, _ => fun v h => by cases h
  | v :: ws, _, _, h => fun w hw e he => by
    rcases List.mem_cons.mp hw with z | z
    · subst z
      obtain ⟨i, x, _, _, h2⟩ := mem_mvs.mp h.1
      rcases mem_step.mp h2 with ⟨c, cs, q, rfl⟩ | ⟨c, c2, e', q, he', _, rfl⟩
      · cases he
      · cases he; exact he'
    · exact path_ein h.2 w z e he
theorem endless_ok (M : Mach) (mk : List Int) (hmk : mk.length ≤ 10) (C : Conf M) : ∃ d, g_endless [M.d, .tup (mk.map .int), C.d] = some d ∧ (NotR M mk C d ∨ EverR M mk C d) := by
  obtain ⟨hI, hCl⟩ := fin_ok M mk
  have htk := takeoff_ok M mk hmk
  have hhd := heads_ok M mk (finS M mk) hI
  have hT := hI.tok
  have hTl := hI.len
  obtain ⟨B, hB, b1, b2, b3⟩ := descents_ok M mk (finS M mk) hI C
  have hK := hI.rng
  have hKl : (keys (finS M mk).1).length ≤ 96 := by unfold keys; rw [List.length_map]; exact hTl
  have hA := hds_ok (mk := mk) hK hKl
  obtain ⟨bl, br⟩ := beg_len hK b1 b2
  obtain ⟨F, hF, rF⟩ := reached_ok hA (B.map (·.1)) (by rw [List.length_map]; exact bl) br
  obtain ⟨rg, hrg, rgs⟩ := ring_ok hA rF
  suffices q : Tr (fun _ => False) (fun d _ => NotR M mk C d ∨ EverR M mk C d) (F_endless MX (envOf N_endless ([M.d, .tup (mk.map .int), C.d].map .dat))) by
    obtain ⟨d, h2, h3⟩ := runD_ex (n := 3) rfl q
    exact ⟨d, h3, h2⟩
  show Tr _ _ (F_endless MX [some (.dat M.d), some (.dat (.tup (mk.map .int))), some (.dat C.d), none, none, none, none, none, none, none, none, none, none, none, none])
  unfold F_endless
  have hkt : gKeys .t [.dic .t (begD B)] = some (.lst ((B.map (·.1)).map hdD)) := by
    show some (D.lst ((begD B).map fun p => ofKey .t p.1)) = _
    unfold begD enc
    rw [List.map_map, List.map_map]
    rfl
  have hke : gKeys .e [.dic .e (tabD (finS M mk).1)] = some (.lst ((keys (finS M mk).1).map Ent.d)) := by
    show some (D.lst ((tabD (finS M mk).1).map fun p => ofKey .e p.1)) = _
    unfold tabD enc keys
    rw [List.map_map, List.map_map]
    congr 2
    refine List.map_congr_left fun p _ => ?_
    exact ofKey_e p.1
  refine tr_seq (tr_make (evA rfl (evA rfl evN)) htk (by show 3 < 15; decide) (tr_seq (tr_frz (x := .obj none .takeoff (tkF M (mkD mk) (finS M mk).1 (finS M mk).2)) rfl rfl ?_)))
  rw [tkF_frz]
  refine tr_seq (tr_make (evA rfl (evA rfl evN)) hhd (by show 4 < 15; decide) (tr_seq (tr_frz (x := .obj none .heads [.own (.dil (mvsD (hdsA M mk (keys (finS M mk).1))))]) rfl rfl ?_)))
  have e1 : (SV.obj none .heads [.own (.dil (mvsD (hdsA M mk (keys (finS M mk).1))))]).frz = hdO (hdsA M mk (keys (finS M mk).1)) := rfl
  rw [e1]
  refine tr_seq (tr_set (evC (evA rfl (evA rfl evN)) hB) (tr_seq (tr_set (evC (evA rfl (evA (evC (evA rfl evN) hkt) evN)) hF) (tr_seq (tr_set (evC (evA rfl (evA rfl evN)) hrg) (tr_seq ?_))))))
  rcases rgs with ⟨rfl, hno⟩ | ⟨h, v, rs, rfl, hh, hv, hm, hp, hrl⟩
  · -- no ring
    obtain ⟨Rs, s1, s2, s3, s4, s5⟩ := ranks_ok hA rF hno
    obtain ⟨Ks, k1, k2⟩ := sorted_ents (keys (finS M mk).1) (by omega)
    refine tr_if (b := true) (evB (ev1 rfl rfl)) (fun _ => ?_) (fun h => nomatch h)
    refine tr_ret (evT (evA rfl (evA (evT (evA rfl (evA (evC (evA (evC (evA (evC (evA rfl evN) hke) evN) k1) evN) rfl) (evA (evC (evA rfl (evA rfl evN)) s1) evN))) (by simp)) evN)) (by simp)) (.inl ⟨Ks, Rs, _, F, rfl, k2, rF, b3, s2, s3, s4, s5⟩)
  · -- a ring
    refine tr_if (b := false) (evB (ev1 rfl rfl)) (fun h => nomatch h) (fun _ => tr_nil ?_)
    obtain ⟨ws, h0, w1, w2, w3, w4, w5, w6⟩ := way_ok rF hh
    refine tr_seq (tr_set (evC (evA rfl (evA (x := hdD h) (evIx (i := 0) (l := [hdD h, v.d, .lst (rs.map Mv.d)]) rfl rfl rfl rfl) evN)) w1) (tr_seq (tr_set (d := hdD h) (evIx (i := 0) (l := [hdD h, v.d, .lst (rs.map Mv.d)]) rfl rfl rfl rfl) ?_)))
    generalize hr0 : (hdO (hdsA M mk (keys (finS M mk).1))) = HO
    generalize htkd : tkD M mk (finS M mk) = TO
    have hFl := rF.len
    obtain ⟨k0, v0, hk0⟩ := mem_fk hh
    have hk0l := nth_lt' hk0
    refine tr_seq' (Q1 := fun r => r = [some (.dat M.d), some (.dat (.tup (mk.map .int))), some (.dat C.d), some (.dat TO), some (.dat HO), some (.dat (.dic .t (begD B))), some (.dat (.dic .t (fndD F))), some (.dat (.tup [hdD h, v.d, .lst (rs.map Mv.d)])), some (.dat (.lst (ws.map Mv.d))), some (.dat (hdD h0)), none, none, none, none, none]) ?_ ?_
    · refine tr_while (fun m r => ∃ (h1 : Hd) (u : Option (Hd × Mv)), r = [some (.dat M.d), some (.dat (.tup (mk.map .int))), some (.dat C.d), some (.dat TO), some (.dat HO), some (.dat (.dic .t (begD B))), some (.dat (.dic .t (fndD F))), some (.dat (.tup [hdD h, v.d, .lst (rs.map Mv.d)])), some (.dat (.lst (ws.map Mv.d))), some (.dat (hdD h1)), none, none, none, none, none] ∧ F[m]? = some (h1, u) ∧ ∀ z, Fol F h1 z → Fol F h z)
        ?_ MX k0 _ (by unfold MX; omega) ⟨h, v0, rfl, hk0, fun _ z => z⟩
      rintro m r ⟨h1, u, rfl, hm1, hfo⟩
      have hget : e2 (oGet .t) (eV 6) (eV 9) [some (.dat M.d), some (.dat (.tup (mk.map .int))), some (.dat C.d), some (.dat TO), some (.dat HO), some (.dat (.dic .t (begD B))), some (.dat (.dic .t (fndD F))), some (.dat (.tup [hdD h, v.d, .lst (rs.map Mv.d)])), some (.dat (.lst (ws.map Mv.d))), some (.dat (hdD h1)), none, none, none, none, none] = some (fv u) := by
        refine ev2 rfl rfl ?_
        show look (fndD F) (hdK h1) = _
        rw [look_fnd, rF.get hm1]; rfl
      obtain ⟨p1, p2⟩ := rF.pred m _ hm1
      cases u with
      | none =>
        refine ⟨false, evB (ev1 hget rfl), (fun z => nomatch z), fun _ => ?_⟩
        have := w6.det (hfo h1 (.root (rF.get hm1)))
        rw [this]
      | some q =>
        refine ⟨true, evB (ev1 hget rfl), fun _ => ?_, (fun z => nomatch z)⟩
        obtain ⟨q1, q2, q3⟩ := p2 q rfl
        obtain ⟨j, u', hj, hj2⟩ := mem_take_fk q3
        exact tr_set (d := hdD q.1) (evIx (i := 0) (l := [hdD q.1, q.2.d]) hget rfl rfl rfl) ⟨j, hj, q.1, u', rfl, hj2, fun z hz => hfo z (.step (rF.get hm1) hz)⟩
    rintro r rfl
    obtain ⟨⟨g0, es⟩, hpB, hpe⟩ := List.mem_map.mp w4
    have hpe : g0 = h0 := hpe
    subst hpe
    have hvb := b2 _ hpB
    have hes := hvb.2.2
    have hesl : es.length ≤ 5 := by
      have := nth_lt' hvb.1
      have := C.p5
      show (g0, es).2.length ≤ 5
      omega
    have hbeg : ∀ x10 x11 x12 x13 x14, e2 (oGet .t) (eV 5) (eV 9) [some (.dat M.d), some (.dat (.tup (mk.map .int))), some (.dat C.d), some (.dat TO), some (.dat HO), some (.dat (.dic .t (begD B))), some (.dat (.dic .t (fndD F))), some (.dat (.tup [hdD h, v.d, .lst (rs.map Mv.d)])), some (.dat (.lst (ws.map Mv.d))), some (.dat (hdD g0)), x10, x11, x12, x13, x14] = some (.tup (es.map Ent.d)) := fun x10 x11 x12 x13 x14 => by
      refine ev2 rfl rfl ?_
      show look (begD B) (hdK g0) = _
      rw [look_beg, getA_mem b1 hpB]; rfl
    refine tr_seq (tr_make (evA (x := .dic .e (tabD (finS M mk).1)) (by rw [← htkd]; rfl) evN) (rows_init (finS M mk).1) (by show 10 < 15; decide) (tr_seq ?_))
    have x0 : XOk (finS M mk).1 [] := ⟨List.nodup_nil, (fun e h => by cases h), (fun k e h => by simp at h)⟩
    obtain ⟨x1, _, x3⟩ := adds_ok hT hTl es [] x0 hes
    refine tr_for (l := es.map Ent.d) (fun k r => ∃ x11, r = [some (.dat M.d), some (.dat (.tup (mk.map .int))), some (.dat C.d), some (.dat TO), some (.dat HO), some (.dat (.dic .t (begD B))), some (.dat (.dic .t (fndD F))), some (.dat (.tup [hdD h, v.d, .lst (rs.map Mv.d)])), some (.dat (.lst (ws.map Mv.d))), some (.dat (hdD g0)), some (.obj none .rows (rwF (finS M mk).1 (addsX (finS M mk).1 [] (es.take k)))), x11, none, none, none])
      (by show (e2 (oGet .t) (eV 5) (eV 9) _).bind tupD = _
          exact (congrArg (fun z => z.bind tupD) (hbeg _ _ _ _ _)).trans rfl) ⟨none, rfl⟩ ?_ ?_
    · rintro k d r hk ⟨x11, rfl⟩
      obtain ⟨e, he, rfl⟩ := getElem_map_some hk
      obtain ⟨y1, _, _⟩ := adds_ok hT hTl (es.take k) [] x0 fun y hy => hes y (List.mem_of_mem_take hy)
      obtain ⟨_, _, z3, _⟩ := addX_ok hT hTl y1 (hes e (List.mem_of_getElem? he))
      have en : addsX (finS M mk).1 [] (es.take (k + 1)) = addX (finS M mk).1 (addsX (finS M mk).1 [] (es.take k)) e := take_map_snoc he _ _
      rw [en]
      exact ⟨_, rfl, tr_meth rfl (evA rfl (evA rfl evN)) z3 ⟨some (.dat e.d), rfl⟩⟩
    · rintro r ⟨x11, rfl⟩
      rw [List.length_map, List.take_length]
      have v1 : EIn (keys (finS M mk).1) ws := path_ein w2
      have v2 : EIn (keys (finS M mk).1) (v :: rs) := path_ein (a := h) (b := h) ⟨hv, hp⟩
      obtain ⟨t1, ⟨N1, t2⟩, t3⟩ := tell_ok hT hTl ws _ x1 v1
      obtain ⟨u1, ⟨N2, u2⟩, u3⟩ := tell_ok hT hTl (v :: rs) _ t1 v2
      have c1 := told_ok hT hTl x1 v1 (by omega)
      have c2 := told_ok hT hTl t1 v2 (by rw [List.length_cons]; omega)
      generalize hX1 : addsX (finS M mk).1 [] es = X1 at *
      generalize hX2 : tellX (finS M mk).1 X1 ws = X2 at *
      generalize hX3 : tellX (finS M mk).1 X2 (v :: rs) = X3 at *
      have hdes : eLc 11 (oTup (e2 (oGet .t) (eV 5) (eV 9))) (eC (.bl true)) (pGet .e (.f 10 .rows 1) (eV 11)) [some (.dat M.d), some (.dat (.tup (mk.map .int))), some (.dat C.d), some (.dat TO), some (.dat HO), some (.dat (.dic .t (begD B))), some (.dat (.dic .t (fndD F))), some (.dat (.tup [hdD h, v.d, .lst (rs.map Mv.d)])), some (.dat (.lst (ws.map Mv.d))), some (.dat (hdD g0)), some (.obj none .rows (rwF (finS M mk).1 X1)), x11, none, none, none] = some (.lst (es.map (placeD X1))) := by
        refine evLc2 (f := Ent.d) ((congrArg (fun z => z.bind tupD) (hbeg _ _ _ _ _)).trans rfl) (by omega) fun e he => ?_
        exact evG (kvs := enc Ent.k nD (pl X1 0)) (k := e.k) rfl rfl rfl (by rw [look_pl, (plc_some (x3 e he)).1]; rfl)
      refine tr_seq (tr_set (evC (evA hdes evN) rfl) (tr_seq (tr_callO rfl (evA rfl evN) c1 (tr_seq (tr_callO rfl (evA (x := .lst ((v :: rs).map Mv.d)) (ev2 (x := .lst [v.d]) (y := .lst (rs.map Mv.d)) (evL (evA (evIx (i := 1) (l := [hdD h, v.d, .lst (rs.map Mv.d)]) rfl rfl rfl rfl) evN) (by simp)) (evIx (i := 2) (l := [hdD h, v.d, .lst (rs.map Mv.d)]) rfl rfl rfl rfl) ?_) evN) c2 (tr_seq (tr_frz rfl rfl ?_)))))))
      · unfold oCat lstD
        simp only [Option.bind_some]
        rw [if_pos (by rw [List.length_map, List.length_singleton]; unfold lim; omega)]
        rfl
      · refine tr_ret (d := .tup [.bl true, .tup [.str "ever", .tup (X3.map (rowOf (finS M mk).1 X3)), .tup (es.map (placeD X1)), .tup (ws.map (toldD X2)), .tup ((v :: rs).map (toldD X3))]]) (evT (evA rfl (evA (evT (evA rfl (evA (evC (evA rfl evN) rfl) (evA rfl (evA rfl (evA rfl evN))))) (by simp)) evN)) (by simp)) (.inr ⟨X3, es, ws, v, rs, g0, h, ?_, u1, hvb, fun e he => ?_, w2, fun w hw e he => ?_, hv, hm, hp, u3, by omega, by omega⟩)
        · have q1 : es.map (placeD X1) = es.map (placeD X3) := List.map_congr_left fun e he => by
            unfold placeD
            rw [u2, t2, List.append_assoc, plc_apps (x3 e he)]
          have q2 : ws.map (toldD X2) = ws.map (toldD X3) := List.map_congr_left fun w hw => by
            rw [u2, told_stable (t3 w hw)]
          rw [q1, q2]
        · rw [u2, t2, List.append_assoc]; exact List.mem_append_left _ (x3 e he)
        · rw [u2]; exact List.mem_append_left _ (t3 w hw e he)
end DL
end

section
set_option linter.all false
set_option maxRecDepth 100000
set_option maxHeartbeats 1000000
/-! E17 (pure): the law reads the rows of a told paper. -/
namespace DL
theorem evInI {neg : Bool} {a b : EX} {r : Env} {i : Int} {l : List Int} {d : D} (h1 : a r = some (.int i)) (h2 : b r = some d) (h3 : seqD d = some (l.map .int)) : e2 (oInI neg) a b r = some (.bl (if neg then !decide (i ∈ l) else decide (i ∈ l))) := by
  refine ev2 h1 h2 ?_
  unfold oInI
  have : ∀ l : List Int, intsD (l.map D.int) = some l := by
    intro l
    induction l with
    | nil => rfl
    | cons x l ih => rw [List.map_cons]; unfold intsD; rw [ih]; rfl
  rw [h3]
  show (some i).bind _ = _
  rw [Option.bind_some, Option.bind_some, this, Option.bind_some]
theorem evPIx {p : Pl} {e : EX} {r : Env} {l : List D} {i : Nat} {z : D} (h1 : (getP r p).bind c1L = some l) (h2 : e r = some (.int (i : Nat))) (h3 : l[i]? = some z) : pIx p e r = some z := by
  unfold pIx
  rw [h1, Option.bind_some, evI h2, Option.bind_some]
  unfold atD
  rw [if_pos (by omega), Int.toNat_natCast, h3]
theorem evLt_f {a b : EX} {r : Env} {i j : Int} (h1 : a r = some (.int i)) (h2 : b r = some (.int j)) (h : ¬ i < j) : e2 oLt a b r = some (.bl false) := by
  refine ev2 h1 h2 ?_
  show some (D.bl (decide (i < j))) = _
  rw [decide_eq_false h]
theorem evGe_f {a b : EX} {r : Env} {i j : Int} (h1 : a r = some (.int i)) (h2 : b r = some (.int j)) (h : ¬ j ≤ i) : e2 oGe a b r = some (.bl false) := by
  refine ev2 h1 h2 ?_
  show some (D.bl (decide (j ≤ i))) = _
  rw [decide_eq_false h]
theorem evNe_f {a b : EX} {r : Env} {i j : Int} (h1 : a r = some (.int i)) (h2 : b r = some (.int j)) (h : i = j) : e2 oNeI a b r = some (.bl false) := by
  refine ev2 h1 h2 ?_
  show some (D.bl (!decide (i = j))) = _
  rw [decide_eq_true h]; rfl
theorem evLen {a : EX} {r : Env} {d : D} {l : List D} (h1 : a r = some d) (h2 : seqD d = some l) : eCall gLen (aC a aN) r = some (.int l.length) := by
  refine evC (evA h1 evN) ?_
  show Option.map (fun l : List D => D.int l.length) (seqD d) = _
  rw [h2]; rfl
theorem chain_take : ∀ {cs : List Int} {ps : List Ent} {s : Int} {f : Bool} {z : Int × Bool}, chain s cs f ps = some z → ∀ k, k ≤ ps.length → ∃ z', chain s (cs.take k) f (ps.take k) = some z' ∧ ∀ p c, ps[k]? = some p → cs[k]? = some c → p.s = z'.1 ∧ p.l = c ∧ chain s (cs.take (k + 1)) f (ps.take (k + 1)) = some (p.g, z'.2 || p.f)
  | [], [], s, f, z, h, k, hk => ⟨(s, f), by simp [chain], fun p c hp => by simp at hp⟩
  | [], _ :: _, _, _, _, h, _, _ => by cases h
  | _ :: _, [], _, _, _, h, _, _ => by cases h
  | c :: cs, p :: ps, s, f, z, h, k, hk => by
    have h' : (if p.s = s ∧ p.l = c then chain p.g cs (f || p.f) ps else none) = some z := h
    split at h'
    · rename_i q
      cases k with
      | zero =>
        refine ⟨(s, f), by simp [chain], fun p' c' hp hc => ?_⟩
        cases hp; cases hc
        refine ⟨q.1, q.2, ?_⟩
        show (if p.s = s ∧ p.l = c then chain p.g (cs.take 0) (f || p.f) (ps.take 0) else none) = _
        rw [if_pos q]; simp [chain]
      | succ k =>
        obtain ⟨z', h1, h2⟩ := chain_take h' k (by simpa using hk)
        refine ⟨z', ?_, fun p' c' hp hc => ?_⟩
        · show (if p.s = s ∧ p.l = c then chain p.g (cs.take k) (f || p.f) (ps.take k) else none) = _
          rw [if_pos q, h1]
        · obtain ⟨g1, g2, g3⟩ := h2 p' c' hp hc
          refine ⟨g1, g2, ?_⟩
          show (if p.s = s ∧ p.l = c then chain p.g (cs.take (k + 1)) (f || p.f) (ps.take (k + 1)) else none) = _
          rw [if_pos q, g3]
    · cases h'
theorem plc_at {X : List Ent} (nd : X.Nodup) {j : Nat} {q : Ent} (h : X[j]? = some q) : plc X q = j := by
  have h1 := (plc_some (List.mem_of_getElem? h)).2
  obtain ⟨a1, a2⟩ := List.getElem?_eq_some_iff.mp h1
  obtain ⟨b1, b2⟩ := List.getElem?_eq_some_iff.mp h
  have pw := List.pairwise_iff_getElem.mp nd
  rcases Nat.lt_trichotomy (plc X q) j with z | z | z
  · exact absurd (a2.trans b2.symm) (pw _ _ a1 b1 z)
  · exact z
  · exact absurd (b2.trans a2.symm) (pw _ _ b1 a1 z)
theorem plc_lt {X : List Ent} (nd : X.Nodup) {n : Nat} {q : Ent} (h : q ∈ X.take n) : plc X q < n := by
  obtain ⟨j, hj⟩ := List.mem_iff_getElem?.mp h
  rw [List.getElem?_take] at hj
  split at hj
  · rw [plc_at nd hj]; assumption
  · cases hj
section
variable {M : Mach} {mk : List Int} {S : Tab × Lvs} {X : List Ent}
theorem row_of_ent (hI : TInv M mk S) (hX : XOk S.1 X) {n : Nat} {e : Ent} (he : X[n]? = some e) : ∃ (i : Nat) (ps : List Ent) (x : Ste), rowOf S.1 X e = .tup [.int (i : Nat), .tup (ps.map (placeD X))] ∧ M.st[i]? = some x ∧ x.s = e.s ∧ x.l = e.l ∧
    chain x.g x.laid (decide ((i : Int) ∈ mk)) ps = some (e.g, e.f) ∧ ∀ q ∈ ps, plc X q < n ∧ X[plc X q]? = some q := by
  have hk := hX.sub e (List.mem_of_getElem? he)
  obtain ⟨j, hj⟩ := List.mem_iff_getElem?.mp hk
  obtain ⟨p, hp, hg⟩ := getA_key hI.tok hj
  obtain ⟨x, h1, h2, h3, h4, h5⟩ := hI.row j _ hp
  refine ⟨p.1, p.2, x, by unfold rowOf; rw [hg], h1, h2, h3, h4, fun q hq => ?_⟩
  have hq' := hX.par n e he q (by unfold prt; rw [hg]; exact hq)
  exact ⟨plc_lt hX.nd hq', (plc_some (List.mem_of_mem_take hq')).2⟩
theorem off_rows_ok (hI : TInv M mk S) (hX : XOk S.1 X) (hl : X.length ≤ 1000) : g_law_off_rows [M.parts, .tup (mk.map .int), .tup (X.map (rowOf S.1 X))] = some (.lst (X.map Ent.d)) := by
  refine runD_tr rfl ?_
  have hR : ∀ R : D, Tr (fun _ => D.lst (X.map Ent.d) = .non) (fun d _ => d = D.lst (X.map Ent.d)) (F_law_off_rows MX [some (.dat M.parts), some (.dat (.tup (mk.map .int))), some (.dat (.tup (X.map (rowOf S.1 X)))), none, none, none, none, none, none, none]) := fun R => ?_
  · exact hR .non
  unfold F_law_off_rows
  refine tr_seq (tr_own (x := .lst []) rfl (tr_seq ?_))
  refine tr_for (l := X.map (rowOf S.1 X)) (fun k r => r = [some (.dat M.parts), some (.dat (.tup (mk.map .int))), some (.dat (.tup (X.map (rowOf S.1 X)))), some (.own (.lst ((X.take k).map Ent.d))), none, none, none, none, none, none]) rfl rfl ?_ ?_
  · rintro k d r hk rfl
    obtain ⟨e, he, rfl⟩ := getElem_map_some hk
    obtain ⟨i, ps, x, h0, h1, h2, h3, h4, h5⟩ := row_of_ent hI hX he
    have hkl := nth_lt' he
    have hil := nth_lt' h1
    have hn := M.n10
    have hpl := chain_len h4
    have hx2 := (M.ok x (List.mem_of_getElem? h1)).two
    rw [h0, take_next he, List.map_append]
    have hP : ∀ q ∈ ps, ((X.take k).map Ent.d)[plc X q]? = some q.d := fun q hq => by
      obtain ⟨a, b⟩ := h5 q hq
      rw [List.getElem?_map, List.getElem?_take, if_pos a, b]; rfl
    have hacc : ((X.take k).map Ent.d).length = k := by rw [List.length_map, List.length_take]; omega
    generalize (X.take k).map Ent.d = acc at hP hacc
    generalize D.tup (X.map (rowOf S.1 X)) = rows
    have hP0 : ∀ q ∈ ps, plc X q < k := fun q hq => (h5 q hq).1
    refine ⟨_, rfl, tr_seq (tr_if (b := false) (evB (or_f (evLt_f (i := (i : Nat)) (j := 0) rfl rfl (by omega)) (or_f (evGe_f (i := (i : Nat)) (j := M.st.length) rfl (by rw [← List.length_map (f := Ste.row)]; exact evLen (d := .lst (M.st.map Ste.row)) rfl rfl) (by omega))
      (evNe_f (i := ps.length) (j := x.laid.length) (by rw [← List.length_map (f := placeD X)]; exact evLen (d := .tup (ps.map (placeD X))) rfl rfl) (by
        rw [← List.length_map (f := D.int)]
        refine evLen (d := .tup (x.laid.map .int)) (evIx (i := 3) (d := x.row) (evIx (i := i) (d := .lst (M.st.map Ste.row)) rfl rfl rfl (map_at h1)) rfl rfl rfl) rfl) (by omega))))) (fun h => nomatch h) fun _ => tr_nil ?_)⟩
    refine tr_seq (tr_set (d := x.row) (evIx (i := i) (d := .lst (M.st.map Ste.row)) rfl rfl rfl (map_at h1)) (tr_seq (tr_set (d := .int x.g) rfl (tr_seq (tr_set (evInI (i := (i : Nat)) rfl rfl rfl) (tr_seq ?_))))))
    refine tr_for (l := (List.range ps.length).map fun i => .int (i : Nat)) (fun j r => ∃ z, chain x.g (x.laid.take j) (decide ((i : Int) ∈ mk)) (ps.take j) = some z ∧ r = [some (.dat M.parts), some (.dat (.tup (mk.map .int))), some (.dat rows), some (.own (.lst acc)), some (.dat (.tup [.int (i : Nat), .tup (ps.map (placeD X))])), some (.dat x.row), some (.dat (.int z.1)), some (.dat (.bl z.2)), none, none])
      (evRange (by rw [← List.length_map (f := placeD X)]; exact evLen (d := .tup (ps.map (placeD X))) rfl rfl) (by omega)) ⟨(x.g, decide ((i : Int) ∈ mk)), by simp [chain], rfl⟩ ?_ ?_
    · rintro j d r hj ⟨z, hz, rfl⟩
      obtain ⟨hjl, rfl⟩ := range_at hj
      obtain ⟨p, hp⟩ : ∃ p, ps[j]? = some p := ⟨_, List.getElem?_eq_getElem hjl⟩
      obtain ⟨c, hc⟩ : ∃ c, x.laid[j]? = some c := ⟨_, List.getElem?_eq_getElem (by omega)⟩
      obtain ⟨z', g1, g2⟩ := chain_take h4 j (by omega)
      have : z' = z := by rw [g1] at hz; exact Option.some.inj hz
      subst this
      obtain ⟨q1, q2, q3⟩ := g2 p c hp hc
      have hpm := List.mem_of_getElem? hp
      have hat : (ps.map (placeD X))[j]? = some (.int (plc X p : Nat)) := by rw [List.getElem?_map, hp]; rfl
      have hc' : (x.laid.map D.int)[j]? = some (.int c) := map_at hc
      have hpx := hP0 p hpm
      refine ⟨_, rfl, tr_seq (tr_if (b := false) (evB (or_f (evLt_f (i := (plc X p : Nat)) (j := 0) (evIx (i := j) (d := .tup (ps.map (placeD X))) rfl rfl rfl hat) rfl (by omega)) (evGe_f (i := (plc X p : Nat)) (j := (acc.length : Nat)) (evIx (i := j) (d := .tup (ps.map (placeD X))) rfl rfl rfl hat) rfl (by omega)))) (fun h => nomatch h) fun _ => tr_nil ?_)⟩
      refine tr_seq (tr_set (d := p.d) (evPIx (l := acc) (i := plc X p) rfl (evIx (i := j) (d := .tup (ps.map (placeD X))) rfl rfl rfl hat) (hP p hpm)) (tr_seq (tr_if (b := false) (evB (or_f (evNe_f (i := p.s) (j := z'.1) rfl rfl q1) (evNe_f (i := p.l) (j := c) rfl (evIx (i := j) (d := .tup (x.laid.map .int)) rfl rfl rfl hc') q2))) (fun h => nomatch h) fun _ => tr_nil ?_)))
      exact tr_seq (tr_set (d := .int p.g) rfl (tr_seq (tr_set (d := .bl (z'.2 || p.f)) (or_b rfl rfl) (tr_seq (tr_fgt (tr_nil ⟨(p.g, z'.2 || p.f), q3, rfl⟩))))))
    · rintro r ⟨z, hz, rfl⟩
      rw [List.length_map, List.length_range, List.take_length, hpl, List.take_length, h4] at hz
      cases hz
      refine tr_seq (tr_app (l := acc) (d := e.d) rfl (by
        show _ = some (D.tup [.int e.s, .int e.l, .int e.g, .bl e.f])
        rw [← h2, ← h3]
        exact evT (evA rfl (evA rfl (evA rfl (evA rfl evN)))) (by simp)) (by unfold lim; omega) (tr_seq (tr_fgt (tr_nil rfl))))
  · rintro r rfl
    rw [List.length_map, List.take_length]
    exact tr_seq (tr_frz rfl rfl (tr_ret rfl rfl))
end
end DL
end

section
set_option linter.all false
set_option maxRecDepth 100000
set_option maxHeartbeats 1000000
/-! E18 (pure): the law reads told moves and descents. -/
namespace DL
theorem hdD_tup {a b : EX} {r : Env} {i j : Int} (h1 : a r = some (.int i)) (h2 : b r = some (.int j)) : eTup (aC a (aC b aN)) r = some (hdD (i, j)) := evT (evA h1 (evA h2 evN)) (by simp)
theorem map_len {α β : Type} (f : α → β) (l : List α) : (l.map f).length = l.length := List.length_map f
theorem move_ok {M : Mach} {mk : List Int} {K X : List Ent} {h : Hd} {v : Mv} (hv : v ∈ mvsOf (hdsA M mk K) h) (hx : ∀ e, v.e = some e → e ∈ X) :
    g_law_move [M.parts, .tup (mk.map .int), .lst (X.map Ent.d), toldD X v] = some (.lst [hdD h, hdD v.h, .bl v.m]) := by
  obtain ⟨i, x, h1, rfl, h2⟩ := mem_mvs.mp hv
  have hil := nth_lt' h1
  refine runD_tr rfl ?_
  have hrow : ∀ r : Env, eIx (eIx (eV 0) (eC (.int 2))) (eIx (eV 3) (eC (.int 0))) (some (.dat M.parts) :: some (.dat (.tup (mk.map .int))) :: some (.dat (.lst (X.map Ent.d))) :: some (.dat (toldD X v)) :: r) = some x.row := fun r => by
    have hvi : v.i = i := by
      rcases mem_step.mp h2 with ⟨c, cs, q, rfl⟩ | ⟨c, c2, e, q, he, _, rfl⟩ <;> rfl
    have h1' : M.st[v.i]? = some x := by rw [hvi]; exact h1
    exact evIx (i := v.i) (d := .lst (M.st.map Ste.row)) rfl rfl rfl (map_at h1')
  have hvi : v.i = i := by
    rcases mem_step.mp h2 with ⟨c, cs, q, rfl⟩ | ⟨c, c2, e, q, he, _, rfl⟩ <;> rfl
  show Tr _ _ (F_law_move MX [some (.dat M.parts), some (.dat (.tup (mk.map .int))), some (.dat (.lst (X.map Ent.d))), some (.dat (toldD X v)), none, none, none])
  unfold F_law_move
  refine tr_seq (tr_if (b := false) (evB (or_f (evLt_f (i := (v.i : Nat)) (j := 0) rfl rfl (by omega)) (evGe_f (i := (v.i : Nat)) (j := M.st.length) rfl (by rw [← map_len Ste.row]; exact evLen (d := .lst (M.st.map Ste.row)) rfl rfl) (by omega)))) (fun h => nomatch h) fun _ => tr_nil ?_)
  refine tr_seq (tr_set (d := x.row) (hrow _) (tr_seq (tr_set (d := hdD (x.s, x.l)) (hdD_tup rfl rfl) ?_)))
  rcases mem_step.mp h2 with ⟨c, cs, q, rfl⟩ | ⟨c, c2, e, q, he, heh, rfl⟩
  · refine tr_seq (tr_if (b := true) (evB rfl) (fun _ => ?_) (fun h => nomatch h))
    refine tr_seq (tr_if (b := false) (evB (b := false) (ev2 (x := .int (x.laid.map D.int).length) (y := .int 0) (evLen (d := .tup (x.laid.map .int)) rfl rfl) rfl ?_)) (fun h => nomatch h) fun _ => tr_nil ?_)
    · rw [q]
      show some (D.bl (decide _)) = _
      rw [decide_eq_false (by simp; omega)]
    · refine tr_ret (d := .lst [hdD (x.s, x.l), hdD (x.g, c), .bl (decide ((i : Int) ∈ mk))]) (evL (evA rfl (evA (hdD_tup rfl (evIx (i := 0) (d := .tup (x.laid.map .int)) rfl rfl rfl (by rw [q]; rfl))) (evA (evInI (i := (i : Nat)) rfl rfl rfl) evN))) (by simp)) rfl
  · have hex := hx e rfl
    obtain ⟨p1, p2⟩ := plc_some hex
    have hpl := nth_lt' p2
    refine tr_seq (tr_if (b := false) (evB rfl) (fun h => nomatch h) fun _ => tr_nil ?_)
    refine tr_seq (tr_if (b := false) (evB (or_f (evNe_f (i := (x.laid.map D.int).length) (j := 2) (evLen (d := .tup (x.laid.map .int)) rfl rfl) rfl (by rw [q]; rfl)) (or_f (evLt_f (i := (plc X e : Nat)) (j := 0) rfl rfl (by omega)) (evGe_f (i := (plc X e : Nat)) (j := X.length) rfl (by rw [← map_len Ent.d]; exact evLen (d := .lst (X.map Ent.d)) rfl rfl) (by omega))))) (fun h => nomatch h) fun _ => tr_nil ?_)
    have e1 : e.s = x.g := congrArg Prod.fst heh
    have e2' : e.l = c := congrArg Prod.snd heh
    refine tr_seq (tr_set (d := e.d) (evIx (i := plc X e) (d := .lst (X.map Ent.d)) rfl rfl rfl (map_at p2)) (tr_seq (tr_if (b := false) (evB (or_f (evNe_f (i := e.s) (j := x.g) rfl rfl e1) (evNe_f (i := e.l) (j := c) rfl (evIx (i := 0) (d := .tup (x.laid.map .int)) rfl rfl rfl (by rw [q]; rfl)) e2'))) (fun h => nomatch h) fun _ => tr_nil ?_)))
    exact tr_ret (d := .lst [hdD (x.s, x.l), hdD (e.g, c2), .bl (decide ((i : Int) ∈ mk) || e.f)]) (evL (evA rfl (evA (hdD_tup rfl (evIx (i := 1) (d := .tup (x.laid.map .int)) rfl rfl rfl (by rw [q]; rfl))) (evA (or_b (evInI (i := (i : Nat)) rfl rfl rfl) rfl) evN))) (by simp)) rfl
theorem Down.at : ∀ {cs : List Int} {es : List Ent} {s t : Int}, Down s cs es t → ∀ k, k ≤ es.length → ∃ t', Down s (cs.take k) (es.take k) t' ∧ ∀ e c, es[k]? = some e → cs[k]? = some c → e.s = t' ∧ e.l = c ∧ Down s (cs.take (k + 1)) (es.take (k + 1)) e.g
  | [], [], s, t, h, k, hk => ⟨s, by simp [Down], fun e c he => by simp at he⟩
  | [], _ :: _, _, _, h, _, _ => h.elim
  | _ :: _, [], _, _, h, _, _ => h.elim
  | c :: cs, e :: es, s, t, h, k, hk => by
    cases k with
    | zero =>
      refine ⟨s, rfl, fun e' c' he hc => ?_⟩
      cases he; cases hc
      exact ⟨h.1, h.2.1, h.1, h.2.1, rfl⟩
    | succ k =>
      obtain ⟨t', h1, h2⟩ := Down.at h.2.2 k (by simpa using hk)
      refine ⟨t', ⟨h.1, h.2.1, h1⟩, fun e' c' he hc => ?_⟩
      obtain ⟨g1, g2, g3⟩ := h2 e' c' he hc
      exact ⟨g1, g2, h.1, h.2.1, g3⟩
theorem Down.uniq : ∀ {cs : List Int} {es : List Ent} {s t t' : Int}, Down s cs es t → Down s cs es t' → t = t'
  | [], [], s, t, t', h, h' => by cases h; cases h'; rfl
  | [], _ :: _, _, _, _, h, _ => h.elim
  | _ :: _, [], _, _, _, h, _ => h.elim
  | c :: cs, e :: es, s, t, t', h, h' => Down.uniq h.2.2 h'.2.2
theorem Down.len : ∀ {cs : List Int} {es : List Ent} {s t : Int}, Down s cs es t → es.length = cs.length
  | [], [], _, _, _ => rfl
  | [], _ :: _, _, _, h => h.elim
  | _ :: _, [], _, _, h => h.elim
  | c :: cs, e :: es, _, _, h => by rw [List.length_cons, List.length_cons, Down.len h.2.2]
theorem take_at {α : Type} {l : List α} {n k : Nat} (h : k < n) : (l.take n)[k]? = l[k]? := by rw [List.getElem?_take, if_pos h]
theorem descended_ok {M : Mach} {K X : List Ent} {C : Conf M} {h0 : Hd} {es : List Ent} (hv : VB K C (h0, es)) (hx : ∀ e ∈ es, e ∈ X) :
    g_law_descended [.lst (X.map Ent.d), C.d, .tup (es.map (placeD X))] = some (hdD h0) := by
  obtain ⟨v1, v2, v3⟩ := hv
  have v1 : C.pile[es.length]? = some h0.2 := v1
  have v2 : Down C.s (C.pile.take es.length) es h0.1 := v2
  have hpl := nth_lt' v1
  have p5 := C.p5
  refine runD_tr rfl ?_
  show Tr _ _ (F_law_descended MX [some (.dat (.lst (X.map Ent.d))), some (.dat C.d), some (.dat (.tup (es.map (placeD X)))), none, none, none])
  unfold F_law_descended
  refine tr_seq (tr_set (d := .int C.s) rfl (tr_seq (tr_if (b := false) (evB (evGe_f (i := es.length) (j := C.pile.length) (by rw [← map_len (placeD X)]; exact evLen (d := .tup (es.map (placeD X))) rfl rfl) (by rw [← map_len D.int]; exact evLen (d := .tup (C.pile.map .int)) rfl rfl) (by omega))) (fun h => nomatch h) fun _ => tr_nil (tr_seq ?_))))
  refine tr_for (l := (List.range es.length).map fun i => .int (i : Nat)) (fun k r => ∃ t, Down C.s ((C.pile.take es.length).take k) (es.take k) t ∧ r = [some (.dat (.lst (X.map Ent.d))), some (.dat C.d), some (.dat (.tup (es.map (placeD X)))), some (.dat (.int t)), none, none])
    (evRange (by rw [← map_len (placeD X)]; exact evLen (d := .tup (es.map (placeD X))) rfl rfl) (by omega)) ⟨C.s, by simp [Down], rfl⟩ ?_ ?_
  · rintro k d r hk ⟨t, ht, rfl⟩
    obtain ⟨hkl, rfl⟩ := range_at hk
    obtain ⟨e, he⟩ : ∃ e, es[k]? = some e := ⟨_, List.getElem?_eq_getElem hkl⟩
    obtain ⟨c, hc⟩ : ∃ c, C.pile[k]? = some c := ⟨_, List.getElem?_eq_getElem (by omega)⟩
    obtain ⟨t', g1, g2⟩ := v2.at k (by omega)
    have := Down.uniq g1 ht
    subst this
    obtain ⟨q1, q2, q3⟩ := g2 e c he (by rw [take_at hkl]; exact hc)
    obtain ⟨p1, p2⟩ := plc_some (hx e (List.mem_of_getElem? he))
    have hpp := nth_lt' p2
    have hat : (es.map (placeD X))[k]? = some (.int (plc X e : Nat)) := by rw [List.getElem?_map, he]; rfl
    have hc' : (C.pile.map D.int)[k]? = some (.int c) := map_at hc
    refine ⟨_, rfl, tr_seq (tr_if (b := false) (evB (or_f (evLt_f (i := (plc X e : Nat)) (j := 0) (evIx (i := k) (d := .tup (es.map (placeD X))) rfl rfl rfl hat) rfl (by omega)) (evGe_f (i := (plc X e : Nat)) (j := X.length) (evIx (i := k) (d := .tup (es.map (placeD X))) rfl rfl rfl hat) (by rw [← map_len Ent.d]; exact evLen (d := .lst (X.map Ent.d)) rfl rfl) (by omega)))) (fun h => nomatch h) fun _ => tr_nil ?_)⟩
    refine tr_seq (tr_set (d := e.d) (evIx (i := plc X e) (d := .lst (X.map Ent.d)) rfl (evIx (i := k) (d := .tup (es.map (placeD X))) rfl rfl rfl hat) rfl (map_at p2)) (tr_seq (tr_if (b := false) (evB (or_f (evNe_f (i := e.s) (j := t') rfl rfl q1) (evNe_f (i := e.l) (j := c) rfl (evIx (i := k) (d := .tup (C.pile.map .int)) rfl rfl rfl hc') q2))) (fun h => nomatch h) fun _ => tr_nil ?_)))
    exact tr_seq (tr_set (d := .int e.g) rfl (tr_fgt ⟨e.g, q3, rfl⟩))
  · rintro r ⟨t, ht, rfl⟩
    rw [List.length_map, List.length_range, List.take_length, List.take_take, Nat.min_self] at ht
    have := Down.uniq ht v2
    subst this
    exact tr_ret (d := hdD (h0.1, h0.2)) (hdD_tup rfl (evIx (i := es.length) (d := .tup (C.pile.map .int)) rfl (by rw [← map_len (placeD X)]; exact evLen (d := .tup (es.map (placeD X))) rfl rfl) rfl (map_at v1))) rfl
end DL
end

section
set_option linter.all false
set_option maxRecDepth 100000
set_option maxHeartbeats 1000000
/-! E19 (pure): plain data: alike itself. -/
namespace DL
inductive Nice : Nat → D → Prop
  | non (n : Nat) : Nice n .non
  | bl (n : Nat) (b : Bool) : Nice n (.bl b)
  | int (n : Nat) (i : Int) : Nice n (.int i)
  | str (n : Nat) (s : PySem.Str) : PySem.PyData.strOk s = true → Nice n (.str s)
  | tup {n : Nat} {l : List D} : (∀ d ∈ l, Nice n d) → Nice (n + 1) (.tup l)
structure NFact (n : Nat) (d : D) : Prop where
  pure : d.pure = true
  can : d.py.canLay0 = true
  depth : d.py.depth ≤ n
  refl : PySem.PyData.eqv d.py d.py = true
theorem nfact_all {n : Nat} : ∀ l : List D, (∀ d ∈ l, NFact n d) → pureL l = true ∧ PySem.PyData.canLayAll0 (pyL l) = true ∧ PySem.PyData.depthAll (pyL l) ≤ n ∧ PySem.PyData.eqvAll (pyL l) (pyL l) = true
  | [], _ => ⟨rfl, rfl, Nat.zero_le _, rfl⟩
  | d :: l, h => by
    obtain ⟨h1, h2, h3, h4⟩ := nfact_all l fun x hx => h x (List.mem_cons_of_mem _ hx)
    obtain ⟨g1, g2, g3, g4⟩ := h d List.mem_cons_self
    refine ⟨?_, ?_, ?_, ?_⟩
    · unfold pureL; rw [g1, h1]; rfl
    · unfold pyL PySem.PyData.canLayAll0; rw [g2, h2]; rfl
    · unfold pyL PySem.PyData.depthAll; exact Nat.max_le.mpr ⟨g3, h3⟩
    · unfold pyL PySem.PyData.eqvAll; rw [g4, h4]; rfl
theorem Nice.fact {n : Nat} {d : D} (h : Nice n d) : NFact n d := by
  induction h with
  | non n => exact ⟨rfl, rfl, Nat.zero_le _, rfl⟩
  | bl n b => exact ⟨rfl, rfl, Nat.zero_le _, by simp [D.py, PySem.PyData.eqv]⟩
  | int n i => exact ⟨rfl, rfl, Nat.zero_le _, by simp [D.py, PySem.PyData.eqv]⟩
  | str n s h => exact ⟨rfl, h, Nat.zero_le _, by simp [D.py, PySem.PyData.eqv]⟩
  | @tup n l _ ih =>
    obtain ⟨h1, h2, h3, h4⟩ := nfact_all l ih
    refine ⟨h1, ?_, ?_, ?_⟩
    · unfold D.py PySem.PyData.canLay0; exact h2
    · unfold D.py PySem.PyData.depth; omega
    · unfold D.py PySem.PyData.eqv; exact h4
theorem Nice.shaped {n : Nat} {d : D} (h : Nice n d) (hn : n ≤ 64) : PySem.SeqAt.shaped d.py = true := by
  unfold PySem.SeqAt.shaped
  rw [h.fact.can, decide_eq_true (Nat.le_trans h.fact.depth hn)]
  rfl
theorem oNeD_self {n : Nat} {d : D} (h : Nice n d) (hn : n ≤ 64) : oNeD d d = some (.bl false) := by
  unfold oNeD
  rw [if_pos ⟨h.fact.pure, h.fact.pure, h.shaped hn, h.shaped hn⟩, h.fact.refl]
  rfl
theorem oEqD_self {n : Nat} {d : D} (h : Nice n d) (hn : n ≤ 64) : oEqD d d = some (.bl true) := by
  unfold oEqD
  rw [if_pos ⟨h.fact.pure, h.fact.pure, h.shaped hn, h.shaped hn⟩, h.fact.refl]
theorem oEqD_nice {n : Nat} {a b : D} (h : Nice n a) (g : Nice n b) (hn : n ≤ 64) : oEqD a b = some (.bl (PySem.PyData.eqv a.py b.py)) := by
  unfold oEqD
  rw [if_pos ⟨h.fact.pure, g.fact.pure, h.shaped hn, g.shaped hn⟩]
theorem nice_hd (h : Hd) : Nice 1 (hdD h) := .tup fun d hd => by
  rcases List.mem_cons.mp hd with z | z
  · rw [z]; exact .int _ _
  · rw [List.mem_singleton.mp z]; exact .int _ _
theorem eqv_hd (a b : Hd) : PySem.PyData.eqv (hdD a).py (hdD b).py = decide (a = b) := by
  obtain ⟨a1, a2⟩ := a
  obtain ⟨b1, b2⟩ := b
  simp [hdD, D.py, pyL, PySem.PyData.eqv, PySem.PyData.eqvAll]
  rfl
end DL
end

section
set_option linter.all false
set_option maxRecDepth 100000
set_option maxHeartbeats 1000000
/-! E20 (pure): the law's word on an ever-paper. -/
namespace DL
def everP (T : Tab) (X es : List Ent) (ws rs : List Mv) : D := .tup [.str "ever", .tup (X.map (rowOf T X)), .tup (es.map (placeD X)), .tup (ws.map (toldD X)), .tup (rs.map (toldD X))]
theorem drop_cons {α : Type} {l : List α} {k : Nat} {x : α} (h : l[k]? = some x) : l.drop k = x :: l.drop (k + 1) := by
  obtain ⟨h1, h2⟩ := List.getElem?_eq_some_iff.mp h
  rw [List.drop_eq_getElem_cons h1, h2]
theorem ever_right_ok {M : Mach} {mk : List Int} {C : Conf M} {X es : List Ent} {ws : List Mv} {v : Mv} {rs : List Mv} {h0 h : Hd} (hX : XOk (finS M mk).1 X) (hB : VB (keys (finS M mk).1) C (h0, es)) (hes : ∀ e ∈ es, e ∈ X)
    (hw : Path (hdsA M mk (keys (finS M mk).1)) h0 ws h) (hwe : EIn X ws) (hv : v ∈ mvsOf (hdsA M mk (keys (finS M mk).1)) h) (hvm : v.m = true) (hr : Path (hdsA M mk (keys (finS M mk).1)) v.h rs h) (hre : EIn X (v :: rs)) :
    g_law_ever_right [M.parts, .tup (mk.map .int), C.d, everP (finS M mk).1 X es ws (v :: rs)] = some (.bl true) := by
  obtain ⟨hI, hCl⟩ := fin_ok M mk
  have hXl : X.length ≤ 96 := Nat.le_trans (nodup_sub_len X _ hX.nd hX.sub) (by unfold keys; rw [List.length_map]; exact hI.len)
  have hoff := off_rows_ok hI hX (by omega)
  have hdes := descended_ok hB hes
  generalize hP : everP (finS M mk).1 X es ws (v :: rs) = P
  have p1 : seqD P = some [.str "ever", .tup (X.map (rowOf (finS M mk).1 X)), .tup (es.map (placeD X)), .tup (ws.map (toldD X)), .tup ((v :: rs).map (toldD X))] := by rw [← hP]; rfl
  have ix : ∀ {r : Env} (i : Nat) {z : D}, eV 3 r = some P → [D.str "ever", .tup (X.map (rowOf (finS M mk).1 X)), .tup (es.map (placeD X)), .tup (ws.map (toldD X)), .tup ((v :: rs).map (toldD X))][i]? = some z → eIx (eV 3) (eC (.int (i : Nat))) r = some z := fun i z q w => evIx (i := i) q rfl p1 w
  have it : ∀ {r : Env} (i : Nat) {z : List D}, eV 3 r = some P → [D.str "ever", .tup (X.map (rowOf (finS M mk).1 X)), .tup (es.map (placeD X)), .tup (ws.map (toldD X)), .tup ((v :: rs).map (toldD X))][i]? = some (.tup z) → oTup (eIx (eV 3) (eC (.int (i : Nat)))) r = some z := fun i z q w => by
    unfold oTup
    rw [ix i q w]
    rfl
  refine runD_tr rfl ?_
  show Tr _ _ (F_law_ever_right MX [some (.dat M.parts), some (.dat (.tup (mk.map .int))), some (.dat C.d), some (.dat P), none, none, none, none, none, none])
  unfold F_law_ever_right
  refine tr_seq (tr_if (b := false) (evB (or_f (evNe_f (i := 5) (j := 5) (evLen rfl p1) rfl rfl) (ev2 (x := .str "ever") (y := .str "ever") (ix 0 rfl rfl) rfl rfl))) (fun h => nomatch h) fun _ => tr_nil ?_)
  refine tr_seq (tr_set (d := .lst (X.map Ent.d)) (evC (evA rfl (evA rfl (evA (ix 1 rfl rfl) evN))) hoff) (tr_seq (tr_if (b := false) (evB rfl) (fun h => nomatch h) fun _ => tr_nil ?_)))
  refine tr_seq (tr_set (d := hdD h0) (evC (evA rfl (evA rfl (evA (ix 2 rfl rfl) evN))) hdes) (tr_seq (tr_if (b := false) (evB (or_f rfl (ev2 (x := .int ((v :: rs).map (toldD X)).length) (y := .int 0) (evLen (ix 4 rfl rfl) rfl) rfl (by
    show some (D.bl (decide _)) = some (D.bl false)
    rw [decide_eq_false (by simp; omega)])))) (fun h => nomatch h) fun _ => tr_nil (tr_seq ?_))))
  refine tr_for (l := ws.map (toldD X)) (fun k r => ∃ c s6 s7, Path (hdsA M mk (keys (finS M mk).1)) c (ws.drop k) h ∧ r = [some (.dat M.parts), some (.dat (.tup (mk.map .int))), some (.dat C.d), some (.dat P), some (.dat (.lst (X.map Ent.d))), some (.dat (hdD c)), s6, s7, none, none])
    (it 3 rfl rfl) ⟨h0, none, none, hw, rfl⟩ ?_ ?_
  · rintro k d r hk ⟨c, s6, s7, hc, rfl⟩
    obtain ⟨w, hwk, rfl⟩ := getElem_map_some hk
    rw [drop_cons hwk] at hc
    have hmv := move_ok hc.1 fun e he => hwe w (List.mem_of_getElem? hwk) e he
    refine ⟨_, rfl, tr_seq (tr_set (d := .lst [hdD c, hdD w.h, .bl w.m]) (evC (evA rfl (evA rfl (evA rfl (evA rfl evN)))) hmv) (tr_seq (tr_if (b := false) (evB (or_f rfl (ev2 (x := hdD c) (y := hdD c) rfl rfl (oNeD_self (nice_hd c) (by omega))))) (fun h => nomatch h) fun _ => tr_nil (tr_set (d := hdD w.h) rfl ⟨w.h, _, _, hc.2, rfl⟩))))⟩
  · rintro r ⟨c, s6, s7, hc, rfl⟩
    rw [List.length_map, List.drop_length] at hc
    have hc : c = h := hc
    subst hc
    refine tr_seq (tr_set (d := hdD c) rfl (tr_seq (tr_set (d := .bl false) rfl (tr_seq ?_))))
    refine tr_for (l := (v :: rs).map (toldD X)) (fun k r => ∃ a b s6 s7, Path (hdsA M mk (keys (finS M mk).1)) a ((v :: rs).drop k) c ∧ (0 < k → b = true) ∧ r = [some (.dat M.parts), some (.dat (.tup (mk.map .int))), some (.dat C.d), some (.dat P), some (.dat (.lst (X.map Ent.d))), some (.dat (hdD a)), s6, s7, some (.dat (hdD c)), some (.dat (.bl b))])
      (it 4 rfl rfl) ⟨c, false, s6, s7, ⟨hv, hr⟩, (fun h => by omega), rfl⟩ ?_ ?_
    · rintro k d r hk ⟨a, b, s6, s7, ha, hb, rfl⟩
      obtain ⟨w, hwk, rfl⟩ := getElem_map_some hk
      rw [drop_cons hwk] at ha
      have hmv := move_ok ha.1 fun e he => hre w (List.mem_of_getElem? hwk) e he
      refine ⟨_, rfl, tr_seq (tr_set (d := .lst [hdD a, hdD w.h, .bl w.m]) (evC (evA rfl (evA rfl (evA rfl (evA rfl evN)))) hmv) (tr_seq (tr_if (b := false) (evB (or_f rfl (ev2 (x := hdD a) (y := hdD a) rfl rfl (oNeD_self (nice_hd a) (by omega))))) (fun h => nomatch h) fun _ => tr_nil (tr_seq (tr_set (d := hdD w.h) rfl (tr_set (d := .bl (b || w.m)) (or_b rfl rfl) ⟨w.h, b || w.m, _, _, ha.2, ?_, rfl⟩))))))⟩
      intro _
      cases k with
      | zero => cases hwk; rw [hvm, Bool.or_true]
      | succ k => rw [hb (by omega)]; rfl
    · rintro r ⟨a, b, s6, s7, ha, hb, rfl⟩
      rw [List.length_map, List.drop_length] at ha
      have ha : a = c := ha
      subst ha
      rw [hb (by simp)]
      exact tr_ret (d := .bl true) (and_t rfl (ev2 (x := hdD a) (y := hdD a) rfl rfl (oEqD_self (nice_hd a) (by omega)))) rfl
end DL
end

section
set_option linter.all false
set_option maxRecDepth 100000
set_option maxHeartbeats 1000000
/-! E21 (pure): the law sees that a table is closed. -/
namespace DL
abbrev PW := Int × Bool
def pwD (w : PW) : D := .tup [.int w.1, .bl w.2]
def extP (K : List Ent) (W : List PW) (c : Int) : List PW := W.flatMap fun w => (K.filter fun e => decide (e.h = (w.1, c))).map fun e => (e.g, w.2 || e.f)
theorem extP_len {K : List Ent} (hK : K.length ≤ 96) (W : List PW) (c : Int) : (extP K W c).length ≤ W.length * 96 := flatMap_len _ fun w _ => by
  rw [List.length_map]; exact Nat.le_trans (List.length_filter_le _ _) hK
theorem extP_sub {K : List Ent} {L : Lvs} (hL : ∀ h, entsL L h = (keys T).filter fun e => decide (e.h = h)) (hK : ∀ e ∈ K, e ∈ keys T) : ∀ (cs : List Int) (W : List PW) (V : List Way), (∀ p ∈ W, ∃ w ∈ V, (w.1, w.2.1) = p) → ∀ p ∈ cs.foldl (extP K) W, ∃ w ∈ cs.foldl (extW L) V, (w.1, w.2.1) = p
  | [], W, V, h => h
  | c :: cs, W, V, h => extP_sub hL hK cs (extP K W c) (extW L V c) fun p hp => by
    obtain ⟨q, hq, hp⟩ := List.mem_flatMap.mp hp
    obtain ⟨e, he, rfl⟩ := List.mem_map.mp hp
    obtain ⟨e1, e2⟩ := List.mem_filter.mp he
    obtain ⟨w, hw, rfl⟩ := h q hq
    refine ⟨(e.g, w.2.1 || e.f, w.2.2 ++ [e]), List.mem_flatMap.mpr ⟨w, hw, List.mem_map.mpr ⟨e, ?_, rfl⟩⟩, rfl⟩
    rw [hL]
    exact List.mem_filter.mpr ⟨hK e e1, e2⟩
theorem nice_ent (e : Ent) : Nice 1 e.d := .tup fun d hd => by
  simp only [List.mem_cons, List.not_mem_nil, or_false] at hd
  rcases hd with rfl | rfl | rfl | rfl
  · exact .int _ _
  · exact .int _ _
  · exact .int _ _
  · exact .bl _ _
theorem nice_map {α : Type} {n : Nat} {l : List α} {f : α → D} (h : ∀ x ∈ l, Nice n (f x)) : Nice (n + 1) (.tup (l.map f)) := .tup fun d hd => by
  obtain ⟨x, hx, rfl⟩ := List.mem_map.mp hd
  exact h x hx
theorem pureL_nice {n : Nat} {l : List D} (h : Nice n (.tup l)) : pureL l = true := h.fact.pure
theorem evLcF {α : Type} {i : Nat} {it : EXs} {c e : EX} {r : Env} {l : List α} {f : α → D} {q : α → Bool} (h1 : it r = some (l.map f)) (h2 : l.length ≤ 100000) (h3 : ∀ x ∈ l, c (r.set i (some (.dat (f x)))) = some (.bl (q x)) ∧ e (r.set i (some (.dat (f x)))) = some (f x)) : eLc i it c e r = some (.lst ((l.filter q).map f)) := by
  unfold eLc
  rw [h1]
  show (if (l.map f).length ≤ lim then _ else none) = _
  rw [if_pos (by rw [List.length_map]; unfold lim; omega), lcD_filter l h3]
  rfl
theorem oNotInT_ent {K : List Ent} {e : Ent} (h : e ∈ K) : oNotInT e.d (.tup (K.map Ent.d)) = some (.bl false) := by
  have hn : Nice 2 (.tup (K.map Ent.d)) := nice_map fun x _ => nice_ent x
  unfold oNotInT
  show (some (K.map Ent.d)).bind _ = _
  rw [Option.bind_some, if_pos ⟨(nice_ent e).fact.pure, pureL_nice hn, (nice_ent e).shaped (by omega), hn.shaped (by omega)⟩]
  have : (pyL (K.map Ent.d)).any (fun z => PySem.PyData.eqv z e.d.py) = true := by
    induction K with
    | nil => cases h
    | cons x K ih =>
      rw [List.map_cons]
      unfold pyL
      rw [List.any_cons]
      rcases List.mem_cons.mp h with z | z
      · rw [← z, (nice_ent e).fact.refl]; rfl
      · rw [ih z (nice_map fun x _ => nice_ent x), Bool.or_true]
  rw [this]
  rfl
theorem evToHd {a : EX} {r : Env} {e : Ent} (h : a r = some e.d) : e1 (oTo 2) a r = some (hdD e.h) := by
  refine ev1 h ?_
  unfold oTo
  show (some [D.int e.s, D.int e.l, D.int e.g, D.bl e.f]).bind _ = _
  rw [Option.bind_some, if_pos ⟨by simp, by simp [lim]⟩]
  rfl
theorem eqHd {a b : EX} {r : Env} {h g : Hd} (h1 : a r = some (hdD h)) (h2 : b r = some (hdD g)) : e2 oEqD a b r = some (.bl (decide (h = g))) := by
  rw [← eqv_hd]
  exact ev2 h1 h2 (oEqD_nice (nice_hd h) (nice_hd g) (by omega))
theorem catL {a b : EX} {r : Env} {l m : List D} (h1 : a r = some (.lst l)) (h2 : b r = some (.lst m)) (h : l.length + m.length ≤ 100000) : e2 oCat a b r = some (.lst (l ++ m)) := by
  refine ev2 h1 h2 ?_
  unfold oCat
  show (some l).bind (fun i => (some m).bind fun j => if i.length + j.length ≤ lim then _ else none) = _
  rw [Option.bind_some, Option.bind_some, if_pos (by unfold lim; omega)]
theorem closed_ok {M : Mach} {mk : List Int} {Ks : List Ent} (hp : Ks.Perm (keys (finS M mk).1)) : g_law_table_is_closed [M.parts, .tup (mk.map .int), .tup (Ks.map Ent.d)] = some (.bl true) := by
  obtain ⟨hI, hCl⟩ := fin_ok M mk
  have hKl : Ks.length ≤ 96 := by rw [hp.length_eq]; unfold keys; rw [List.length_map]; exact hI.len
  have hKs : ∀ e ∈ Ks, e ∈ keys (finS M mk).1 := fun e he => hp.mem_iff.mp he
  refine runD_tr rfl ?_
  show Tr _ _ (F_law_table_is_closed MX [some (.dat M.parts), some (.dat (.tup (mk.map .int))), some (.dat (.tup (Ks.map Ent.d))), none, none, none, none, none, none, none, none])
  unfold F_law_table_is_closed
  refine tr_seq ?_
  refine tr_for (l := (List.range M.st.length).map fun i => .int (i : Nat)) (fun k r => r = [some (.dat M.parts), some (.dat (.tup (mk.map .int))), some (.dat (.tup (Ks.map Ent.d))), none, none, none, none, none, none, none, none])
    (evRange (by rw [← map_len Ste.row]; exact evLen (d := .lst (M.st.map Ste.row)) rfl rfl) (by have := M.n10; omega)) rfl ?_ fun r h => ?_
  · rintro i d r hi rfl
    obtain ⟨hil, rfl⟩ := range_at hi
    obtain ⟨x, hx⟩ : ∃ x, M.st[i]? = some x := ⟨_, List.getElem?_eq_getElem hil⟩
    have hx2 := (M.ok x (List.mem_of_getElem? hx)).two
    have hclo := hCl i x hx
    generalize hm : decide ((i : Int) ∈ mk) = mm at hclo
    refine ⟨_, rfl, tr_seq (tr_set (d := x.row) (evIx (i := i) (d := .lst (M.st.map Ste.row)) rfl rfl rfl (map_at hx)) (tr_seq (tr_set (d := .lst ([(x.g, mm)].map pwD)) (evL (evA (evT (evA rfl (evA (by rw [← hm]; exact evInI (i := (i : Nat)) rfl rfl rfl) evN)) (by simp)) evN) (by simp)) (tr_seq ?_))))⟩
    refine Tr.imp (Q := fun r => ∃ s8, r = [some (.dat M.parts), some (.dat (.tup (mk.map .int))), some (.dat (.tup (Ks.map Ent.d))), some (.dat (.int (i : Nat))), some (.dat x.row), some (.dat (.lst ((x.laid.foldl (extP Ks) [(x.g, mm)]).map pwD))), none, none, s8, none, none]) ?_ ?_ fun _ _ h => h
    · refine tr_for (l := x.laid.map .int) (fun k r => ∃ s8, ((x.laid.take k).foldl (extP Ks) [(x.g, mm)]).length ≤ 96 ^ k ∧ r = [some (.dat M.parts), some (.dat (.tup (mk.map .int))), some (.dat (.tup (Ks.map Ent.d))), some (.dat (.int (i : Nat))), some (.dat x.row), some (.dat (.lst (((x.laid.take k).foldl (extP Ks) [(x.g, mm)]).map pwD))), none, none, s8, none, none]) rfl ⟨none, Nat.le_refl _, rfl⟩ ?_ ?_
      · rintro k d r hk ⟨s8, hl, rfl⟩
        obtain ⟨c, hc, rfl⟩ := getElem_map_some hk
        have hkl := nth_lt' hc
        have hnx : (x.laid.take (k + 1)).foldl (extP Ks) [(x.g, mm)] = extP Ks ((x.laid.take k).foldl (extP Ks) [(x.g, mm)]) c := by rw [take_next hc, List.foldl_append]; rfl
        rw [hnx]
        have hl2 : ((x.laid.take k).foldl (extP Ks) [(x.g, mm)]).length ≤ 96 := Nat.le_trans hl (by
          have : k = 0 ∨ k = 1 := by omega
          rcases this with rfl | rfl <;> decide)
        generalize (x.laid.take k).foldl (extP Ks) [(x.g, mm)] = W at hl hl2
        have hW : (extP Ks W c).length ≤ 96 ^ (k + 1) := Nat.le_trans (extP_len hKl W c) (by rw [Nat.pow_succ]; exact Nat.mul_le_mul_right _ hl)
        refine ⟨_, rfl, tr_seq (tr_set (d := .lst []) (evL evN (by simp)) (tr_seq ?_))⟩
        refine tr_for (l := W.map pwD) (fun j r => ∃ s8, (extP Ks (W.take j) c).length ≤ j * 96 ∧ r = [some (.dat M.parts), some (.dat (.tup (mk.map .int))), some (.dat (.tup (Ks.map Ent.d))), some (.dat (.int (i : Nat))), some (.dat x.row), some (.dat (.lst (W.map pwD))), some (.dat (.int c)), some (.dat (.lst ((extP Ks (W.take j) c).map pwD))), s8, none, none]) rfl ⟨s8, Nat.le_refl _, rfl⟩ ?_ ?_
        · rintro j d r hj ⟨s8, hl', rfl⟩
          obtain ⟨w, hw, rfl⟩ := getElem_map_some hj
          have hjl := nth_lt' hw
          have hn2 : extP Ks (W.take (j + 1)) c = extP Ks (W.take j) c ++ (Ks.filter fun e => decide (e.h = (w.1, c))).map fun e => (e.g, w.2 || e.f) := by rw [take_next hw]; unfold extP; rw [List.flatMap_append]; simp
          have hfl : (Ks.filter fun e => decide (e.h = (w.1, c))).length ≤ 96 := Nat.le_trans (List.length_filter_le _ _) hKl
          rw [hn2]
          generalize extP Ks (W.take j) c = acc at hl'
          refine ⟨_, rfl, tr_seq (tr_set (d := .lst ((Ks.filter fun e => decide (e.h = (w.1, c))).map Ent.d)) (evLcF rfl (by omega) fun e he => ⟨eqHd (evToHd rfl) (hdD_tup rfl rfl), rfl⟩) (tr_seq (tr_set (d := .lst (acc.map pwD ++ ((Ks.filter fun e => decide (e.h = (w.1, c))).map fun e => pwD (e.g, w.2 || e.f)))) (catL rfl (evLc2 rfl (by omega) fun e he => evT (evA rfl (evA (or_b rfl rfl) evN)) (by simp)) (by rw [List.length_map, List.length_map]; omega)) (tr_seq (tr_fgt (tr_nil ⟨some (.dat (pwD w)), ?_, ?_⟩))))))⟩
          · rw [List.length_append, List.length_map]; omega
          · rw [List.map_append, List.map_map]; rfl
        · rintro r ⟨s8, _, rfl⟩
          rw [List.length_map, List.take_length]
          exact tr_seq (tr_set rfl (tr_seq (tr_fgt (tr_nil ⟨s8, hW, rfl⟩))))
      · rintro r ⟨s8, _, rfl⟩
        rw [List.length_map, List.take_length]
        exact ⟨s8, rfl⟩
    · rintro r ⟨s8, rfl⟩
      have hsub := extP_sub (K := Ks) hI.lv hKs x.laid [(x.g, mm)] [(x.g, mm, [])] (by intro p hp; rw [List.mem_singleton.mp hp]; exact ⟨_, List.mem_singleton.mpr rfl, rfl⟩)
      generalize x.laid.foldl (extP Ks) [(x.g, mm)] = W at hsub
      refine tr_seq ?_
      refine tr_for (l := W.map pwD) (fun j r => ∃ s8, r = [some (.dat M.parts), some (.dat (.tup (mk.map .int))), some (.dat (.tup (Ks.map Ent.d))), some (.dat (.int (i : Nat))), some (.dat x.row), some (.dat (.lst (W.map pwD))), none, none, s8, none, none]) rfl ⟨s8, rfl⟩ ?_ ?_
      · rintro j d r hj ⟨s8, rfl⟩
        obtain ⟨w, hw, rfl⟩ := getElem_map_some hj
        obtain ⟨v, hv, e⟩ := hsub w (List.mem_of_getElem? hw)
        have hin := hp.mem_iff.mpr (hclo v hv)
        have e1 : v.1 = w.1 := by rw [← e]
        have e2 : v.2.1 = w.2 := by rw [← e]
        rw [e1, e2] at hin
        exact ⟨_, rfl, tr_if (b := false) (evB (ev2 (x := (⟨x.s, x.l, w.1, w.2⟩ : Ent).d) (evT (evA rfl (evA rfl (evA rfl (evA rfl evN)))) (by simp)) rfl (oNotInT_ent hin))) (fun h => nomatch h) fun _ => tr_nil ⟨_, rfl⟩⟩
      · rintro r ⟨s8, rfl⟩
        exact tr_seq (tr_fgt (tr_nil rfl))
  · subst h
    exact tr_ret rfl rfl
end DL
end

section
set_option linter.all false
set_option maxRecDepth 100000
set_option maxHeartbeats 1000000
/-! E22 (pure): the edges between heads, as the law lists them. -/
namespace DL
abbrev Edg := Hd × Hd × Bool
def edD (p : Edg) : D := .tup [hdD p.1, hdD p.2.1, .bl p.2.2]
def ed1 (x : Ste) (m : Bool) : List Edg := match x.laid with
  | [] => []
  | c :: _ => [((x.s, x.l), (x.g, c), m)]
def ed2 (K : List Ent) (x : Ste) (m : Bool) : List Edg := match x.laid with
  | [c, c2] => (K.filter fun e => decide (e.h = (x.g, c))).map fun e => ((x.s, x.l), (e.g, c2), m || e.f)
  | _ => []
def edAt (M : Mach) (mk : List Int) (K : List Ent) (i : Nat) : List Edg := match M.st[i]? with
  | none => []
  | some x => ed1 x (decide ((i : Int) ∈ mk)) ++ ed2 K x (decide ((i : Int) ∈ mk))
def edges (M : Mach) (mk : List Int) (K : List Ent) : List Edg := (List.range M.st.length).flatMap (edAt M mk K)
theorem edge_mv {M : Mach} {mk : List Int} {Ks K : List Ent} (hK : ∀ e ∈ Ks, e ∈ K) {p : Edg} (hp : p ∈ edges M mk Ks) : ∃ v ∈ mvsOf (hdsA M mk K) p.1, v.h = p.2.1 ∧ v.m = p.2.2 := by
  obtain ⟨i, _, hi⟩ := List.mem_flatMap.mp hp
  unfold edAt at hi
  cases q : M.st[i]? with
  | none => rw [q] at hi; cases hi
  | some x =>
    rw [q] at hi
    rcases List.mem_append.mp hi with z | z
    · unfold ed1 at z
      split at z
      · cases z
      · rename_i c cs ql
        have z := List.mem_singleton.mp z
        subst z
        exact ⟨_, mem_mvs.mpr ⟨i, x, q, rfl, mem_step.mpr (.inl ⟨c, cs, ql, rfl⟩)⟩, rfl, rfl⟩
    · unfold ed2 at z
      split at z
      · rename_i c c2 ql
        obtain ⟨e, he, rfl⟩ := List.mem_map.mp z
        obtain ⟨h1, h2⟩ := List.mem_filter.mp he
        exact ⟨_, mem_mvs.mpr ⟨i, x, q, rfl, mem_step.mpr (.inr ⟨c, c2, e, ql, hK e h1, of_decide_eq_true h2, rfl⟩)⟩, rfl, rfl⟩
      · cases z
end DL
end

section
set_option linter.all false
set_option maxRecDepth 100000
set_option maxHeartbeats 1000000
/-! E23 (pure): head_edges. -/
namespace DL
theorem evGt {a b : EX} {r : Env} {i j : Int} (h1 : a r = some (.int i)) (h2 : b r = some (.int j)) : e2 oGt a b r = some (.bl (decide (j < i))) := ev2 h1 h2 rfl
theorem evEqI {a b : EX} {r : Env} {i j : Int} (h1 : a r = some (.int i)) (h2 : b r = some (.int j)) : e2 oEqI a b r = some (.bl (decide (i = j))) := ev2 h1 h2 rfl
theorem edD_ev {a b c : EX} {r : Env} {p : Edg} (h1 : a r = some (hdD p.1)) (h2 : b r = some (hdD p.2.1)) (h3 : c r = some (.bl p.2.2)) : eTup (aC a (aC b (aC c aN))) r = some (edD p) := evT (evA h1 (evA h2 (evA h3 evN))) (by simp)
theorem edges_ok {M : Mach} {mk : List Int} {Ks : List Ent} (hKl : Ks.length ≤ 96) : g_law_head_edges [M.parts, .tup (mk.map .int), .tup (Ks.map Ent.d)] = some (.lst ((edges M mk Ks).map edD)) := by
  have hn := M.n10
  refine runD_tr rfl ?_
  show Tr _ _ (F_law_head_edges MX [some (.dat M.parts), some (.dat (.tup (mk.map .int))), some (.dat (.tup (Ks.map Ent.d))), none, none, none, none])
  unfold F_law_head_edges
  refine tr_seq (tr_own (x := .lst []) rfl (tr_seq ?_))
  refine tr_for (l := (List.range M.st.length).map fun i => .int (i : Nat)) (fun k r => ((List.range k).flatMap (edAt M mk Ks)).length ≤ k * 97 ∧ r = [some (.dat M.parts), some (.dat (.tup (mk.map .int))), some (.dat (.tup (Ks.map Ent.d))), some (.own (.lst (((List.range k).flatMap (edAt M mk Ks)).map edD))), none, none, none])
    (evRange (by rw [← map_len Ste.row]; exact evLen (d := .lst (M.st.map Ste.row)) rfl rfl) (by omega)) ⟨Nat.le_refl _, rfl⟩ ?_ ?_
  · rintro i d r hi ⟨hl, rfl⟩
    obtain ⟨hil, rfl⟩ := range_at hi
    obtain ⟨x, hx⟩ : ∃ x, M.st[i]? = some x := ⟨_, List.getElem?_eq_getElem hil⟩
    have hx2 := (M.ok x (List.mem_of_getElem? hx)).two
    have hnx : (List.range (i + 1)).flatMap (edAt M mk Ks) = (List.range i).flatMap (edAt M mk Ks) ++ (ed1 x (decide ((i : Int) ∈ mk)) ++ ed2 Ks x (decide ((i : Int) ∈ mk))) := by
      rw [List.range_succ, List.flatMap_append]
      congr 1
      simp [edAt, hx]
    rw [hnx]
    generalize (List.range i).flatMap (edAt M mk Ks) = acc at hl
    generalize hm : decide ((i : Int) ∈ mk) = mm
    have lay : ∀ {r : Env}, eV 5 r = some x.row → eIx (eV 5) (eC (.int 3)) r = some (.tup (x.laid.map .int)) := fun h => evIx (i := 3) h rfl rfl rfl
    have l1 : (ed1 x mm).length ≤ 1 := by unfold ed1; split <;> simp
    have l2 : (ed2 Ks x mm).length ≤ 96 := by
      unfold ed2; split
      · rw [List.length_map]; exact Nat.le_trans (List.length_filter_le _ _) hKl
      · simp
    refine ⟨_, rfl, tr_seq (tr_set (d := x.row) (evIx (i := i) (d := .lst (M.st.map Ste.row)) rfl rfl rfl (map_at hx)) (tr_seq' (Q1 := fun r => r = [some (.dat M.parts), some (.dat (.tup (mk.map .int))), some (.dat (.tup (Ks.map Ent.d))), some (.own (.lst ((acc ++ ed1 x mm).map edD))), some (.dat (.int (i : Nat))), some (.dat x.row), none]) ?_ ?_))⟩
    · refine tr_if (evB (evGt (i := (x.laid.map D.int).length) (j := 0) (evLen (lay rfl) rfl) rfl)) (fun h => ?_) (fun h => ?_)
      · have h := of_decide_eq_true h
        obtain ⟨c, cs, q⟩ : ∃ c cs, x.laid = c :: cs := by
          cases q : x.laid with
          | nil => rw [q] at h; exact absurd h (by simp)
          | cons c cs => exact ⟨c, cs, rfl⟩
        refine tr_app (l := acc.map edD) (d := edD ((x.s, x.l), (x.g, c), mm)) rfl (edD_ev (hdD_tup rfl rfl) (hdD_tup rfl (evIx (i := 0) (lay rfl) rfl rfl (by rw [q]; rfl))) (by rw [← hm]; exact evInI (i := (i : Nat)) rfl rfl rfl)) (by rw [List.length_map]; unfold lim; omega) ?_
        have : ed1 x mm = [((x.s, x.l), (x.g, c), mm)] := by unfold ed1; rw [q]
        rw [this, List.map_append]; rfl
      · have h := of_decide_eq_false h
        have q : x.laid = [] := by
          cases q : x.laid with
          | nil => rfl
          | cons c cs => rw [q] at h; exact absurd (by simp) h
        have : ed1 x mm = [] := by unfold ed1; rw [q]
        rw [this, List.append_nil]
        exact tr_nil rfl
    · rintro r rfl
      refine tr_seq' (Q1 := fun r => r = [some (.dat M.parts), some (.dat (.tup (mk.map .int))), some (.dat (.tup (Ks.map Ent.d))), some (.own (.lst ((acc ++ ed1 x mm ++ ed2 Ks x mm).map edD))), some (.dat (.int (i : Nat))), some (.dat x.row), none]) ?_ ?_
      · have lA : (acc ++ ed1 x mm).length ≤ i * 97 + 1 := by rw [List.length_append]; omega
        generalize acc ++ ed1 x mm = A at lA
        refine tr_if (evB (evEqI (i := (x.laid.map D.int).length) (j := 2) (evLen (lay rfl) rfl) rfl)) (fun h => ?_) (fun h => ?_)
        · have h := of_decide_eq_true h
          obtain ⟨c, c2, q⟩ : ∃ c c2, x.laid = [c, c2] := by
            rw [List.length_map] at h
            match x.laid, h with
            | [c, c2], _ => exact ⟨c, c2, rfl⟩
          have e2 : ed2 Ks x mm = (Ks.filter fun e => decide (e.h = (x.g, c))).map fun e => ((x.s, x.l), (e.g, c2), mm || e.f) := by unfold ed2; rw [q]
          rw [e2]
          refine tr_for (l := Ks.map Ent.d) (fun k r => r = [some (.dat M.parts), some (.dat (.tup (mk.map .int))), some (.dat (.tup (Ks.map Ent.d))), some (.own (.lst ((A ++ ((Ks.take k).filter fun e => decide (e.h = (x.g, c))).map fun e => (((x.s, x.l), (e.g, c2), mm || e.f) : Edg)).map edD))), some (.dat (.int (i : Nat))), some (.dat x.row), none]) rfl (by simp) ?_ ?_
          · rintro k d r hk rfl
            obtain ⟨e, he, rfl⟩ := getElem_map_some hk
            have hkl := nth_lt' he
            have hB : (A ++ ((Ks.take (k + 1)).filter fun e => decide (e.h = (x.g, c))).map fun e => (((x.s, x.l), (e.g, c2), mm || e.f) : Edg)) = (A ++ ((Ks.take k).filter fun e => decide (e.h = (x.g, c))).map fun e => (((x.s, x.l), (e.g, c2), mm || e.f) : Edg)) ++ ([e].filter fun e => decide (e.h = (x.g, c))).map fun e => (((x.s, x.l), (e.g, c2), mm || e.f) : Edg) := by
              rw [take_next he, List.filter_append, List.map_append, ← List.append_assoc]
            rw [hB]
            have lB : (A ++ ((Ks.take k).filter fun e => decide (e.h = (x.g, c))).map fun e => (((x.s, x.l), (e.g, c2), mm || e.f) : Edg)).length ≤ i * 97 + 1 + 96 := by
              rw [List.length_append, List.length_map]
              have := List.length_filter_le (fun e : Ent => decide (e.h = (x.g, c))) (Ks.take k)
              rw [List.length_take] at this
              omega
            generalize (A ++ ((Ks.take k).filter fun e => decide (e.h = (x.g, c))).map fun e => (((x.s, x.l), (e.g, c2), mm || e.f) : Edg)) = B at lB
            refine ⟨_, rfl, tr_seq' (Q1 := fun r => r = [some (.dat M.parts), some (.dat (.tup (mk.map .int))), some (.dat (.tup (Ks.map Ent.d))), some (.own (.lst ((B ++ (([e].filter fun e => decide (e.h = (x.g, c))).map fun e => (((x.s, x.l), (e.g, c2), mm || e.f) : Edg))).map edD))), some (.dat (.int (i : Nat))), some (.dat x.row), some (.dat e.d)]) ?_ ?_⟩
            · refine tr_if (evB (eqHd (h := e.h) (g := (x.g, c)) (evToHd rfl) (hdD_tup rfl (evIx (i := 0) (lay rfl) rfl rfl (by rw [q]; rfl))))) (fun h => ?_) (fun h => ?_)
              · refine tr_app (l := B.map edD) (d := edD ((x.s, x.l), (e.g, c2), mm || e.f)) rfl (edD_ev (hdD_tup rfl rfl) (hdD_tup rfl (evIx (i := 1) (lay rfl) rfl rfl (by rw [q]; rfl))) (or_b (by rw [← hm]; exact evInI (i := (i : Nat)) rfl rfl rfl) rfl)) (by rw [List.length_map]; unfold lim; omega) ?_
                rw [List.filter_cons, if_pos h, List.map_append]; rfl
              · rw [List.filter_cons, if_neg (by rw [h]; exact Bool.false_ne_true), List.filter_nil, List.map_nil, List.append_nil]
                exact tr_nil rfl
            · rintro r rfl
              exact tr_seq (tr_fgt (tr_nil rfl))
          · rintro r rfl
            rw [List.length_map, List.take_length]
        · have h := of_decide_eq_false h
          have e2 : ed2 Ks x mm = [] := by
            unfold ed2; split
            · rename_i q; rw [q] at h; exact absurd rfl h
            · rfl
          rw [e2, List.append_nil]
          exact tr_nil rfl
      · rintro r rfl
        refine tr_fgt ⟨by rw [List.length_append, List.length_append]; omega, ?_⟩
        rw [List.append_assoc]; rfl
  · rintro r ⟨_, rfl⟩
    rw [List.length_map, List.length_range]
    exact tr_seq (tr_frz rfl rfl (tr_ret rfl rfl))
end DL
end

section
set_option linter.all false
set_option maxRecDepth 100000
set_option maxHeartbeats 1000000
/-! E24 (pure): the law's word on a not-paper. -/
namespace DL
theorem oLeT_f {a b : Hd} (h : hlt b a) : oLeT (hdD a) (hdD b) = some (.bl false) := by
  show some (D.bl (lexLe [a.1, a.2] [b.1, b.2])) = _
  have : lexLe [a.1, a.2] [b.1, b.2] = false := by
    simp only [lexLe]
    rcases h with h | ⟨h1, h2⟩
    · rw [if_neg (by omega), decide_eq_false (by omega)]
    · rw [if_pos h1.symm, if_neg (by omega), decide_eq_false (by omega)]
  rw [this]
theorem hlt_ne {a b : Hd} (h : hlt a b) : a ≠ b := by
  rintro rfl
  rcases h with h | ⟨_, h⟩ <;> omega
theorem rks_nodup {Rs : Rks} (h : Rs.Pairwise fun p q => hlt p.1 q.1) : (Rs.map (·.1)).Nodup := List.pairwise_map.mpr (h.imp fun h => hlt_ne h)
theorem eInL {neg : Bool} {a : EX} {r : Env} {i : Nat} {Rs : Rks} {h : Hd} (h1 : (getP r (.s i)).bind (c1D .t) = some (rksD Rs)) (h2 : a r = some (hdD h)) : pIn .t neg a (.s i) r = some (.bl (if neg then !(decide (h ∈ Rs.map (·.1))) else decide (h ∈ Rs.map (·.1)))) := by
  unfold pIn
  rw [h1, h2]
  show ((toKey .t (hdD h)).bind fun j => some (D.bl (if neg then !(look (rksD Rs) j).isSome else (look (rksD Rs) j).isSome))) = _
  rw [hdD_key, Option.bind_some, look_rks, Option.isSome_map, getA_isSome]
  congr
def stepS (Ks : List Ent) (c : Int) (W : List Int) : List Int := (Ks.filter fun e => decide (e.s ∈ W) && decide (e.l = c)).map fun e => e.g
theorem reach_down {Ks : List Ent} {C : Conf M} : ∀ (k : Nat), k ≤ C.pile.length → ∀ t ∈ (C.pile.take k).foldl (fun W c => stepS Ks c W) [C.s], ∃ es, Down C.s (C.pile.take k) es t ∧ ∀ e ∈ es, e ∈ Ks
  | 0, _, t, ht => ⟨[], (List.mem_singleton.mp ht).symm, fun e h => by cases h⟩
  | k + 1, hk, t, ht => by
    obtain ⟨c, hc⟩ : ∃ c, C.pile[k]? = some c := ⟨_, List.getElem?_eq_getElem (by omega)⟩
    rw [take_next hc, List.foldl_append] at ht
    obtain ⟨e, he, rfl⟩ := List.mem_map.mp ht
    obtain ⟨h1, h2⟩ := List.mem_filter.mp he
    have h2 := (Bool.and_eq_true_iff.mp h2)
    obtain ⟨es, g1, g2⟩ := reach_down k (by omega) e.s (of_decide_eq_true h2.1)
    have hl : e.l = c := of_decide_eq_true h2.2
    refine ⟨es ++ [e], ?_, fun x hx => ?_⟩
    · rw [take_next hc, ← hl]; exact g1.snoc rfl
    · rcases List.mem_append.mp hx with z | z
      · exact g2 x z
      · rw [List.mem_singleton.mp z]; exact h1
end DL
end

section
set_option linter.all false
set_option maxRecDepth 100000
set_option maxHeartbeats 1000000
/-! E25 (pure): not_right. -/
namespace DL
theorem plc_inj {α : Type} {X : List α} (nd : X.Nodup) {i j : Nat} {q : α} (h : X[i]? = some q) (h' : X[j]? = some q) : i = j := by
  obtain ⟨a1, a2⟩ := List.getElem?_eq_some_iff.mp h
  obtain ⟨b1, b2⟩ := List.getElem?_eq_some_iff.mp h'
  have pw := List.pairwise_iff_getElem.mp nd
  rcases Nat.lt_trichotomy i j with z | z | z
  · exact absurd (a2.trans b2.symm) (pw _ _ a1 b1 z)
  · exact z
  · exact absurd (b2.trans a2.symm) (pw _ _ b1 a1 z)
theorem lcD_fm {α : Type} {i : Nat} {c e : EX} {r : Env} {f g : α → D} {q : α → Bool} : ∀ (l : List α), (∀ x ∈ l, c (r.set i (some (.dat (f x)))) = some (.bl (q x)) ∧ (q x = true → e (r.set i (some (.dat (f x)))) = some (g x))) → lcD i c e r (l.map f) = some ((l.filter q).map g)
  | [], _ => rfl
  | x :: l, h => by
    obtain ⟨h1, h2⟩ := h x List.mem_cons_self
    have ih := lcD_fm l fun y hy => h y (List.mem_cons_of_mem _ hy)
    rw [List.map_cons]
    unfold lcD
    rw [h1]
    show (some (q x)).bind _ = _
    rw [Option.bind_some, List.filter_cons]
    cases hq : q x with
    | true => rw [if_pos rfl, if_pos rfl, h2 hq, Option.bind_some, ih]; rfl
    | false => rw [if_neg Bool.false_ne_true, if_neg Bool.false_ne_true, ih]
theorem evLcG {α : Type} {i : Nat} {it : EXs} {c e : EX} {r : Env} {l : List α} {f g : α → D} {q : α → Bool} (h1 : it r = some (l.map f)) (h2 : l.length ≤ 100000) (h3 : ∀ x ∈ l, c (r.set i (some (.dat (f x)))) = some (.bl (q x)) ∧ (q x = true → e (r.set i (some (.dat (f x)))) = some (g x))) : eLc i it c e r = some (.lst ((l.filter q).map g)) := by
  unfold eLc
  rw [h1]
  show (if (l.map f).length ≤ lim then _ else none) = _
  rw [if_pos (by rw [List.length_map]; unfold lim; omega), lcD_fm l h3]
  rfl
theorem and_b {a b : EX} {r : Env} {x y : Bool} (h1 : a r = some (.bl x)) (h2 : b r = some (.bl y)) : eAnd a b r = some (.bl (x && y)) := by
  cases x with
  | true => exact and_t h1 h2
  | false => exact and_f h1
def notP (Ks : List Ent) (Rs : Rks) : D := .tup [.str "not", .tup (Ks.map Ent.d), .tup (Rs.map rkD)]
theorem not_right_ok {M : Mach} {mk : List Int} {C : Conf M} {Ks : List Ent} {Rs : Rks} {hs : List Hd} {F : Fnd} (hp : Ks.Perm (keys (finS M mk).1)) (hF : RSpec M (hdsA M mk (keys (finS M mk).1)) hs F)
    (hd : ∀ j c, C.pile[j]? = some c → ∀ es t, Down C.s (C.pile.take j) es t → (∀ e ∈ es, e ∈ keys (finS M mk).1) → (t, c) ∈ hs) (hR : Rs.Pairwise fun p q => hlt p.1 q.1) (hm : ∀ h, h ∈ Rs.map (·.1) ↔ h ∈ fk F) (h0 : ∀ p ∈ Rs, 0 ≤ p.2)
    (hr : ∀ h ∈ fk F, ∀ v ∈ mvsOf (hdsA M mk (keys (finS M mk).1)) h, ∀ r r', (h, r) ∈ Rs → (v.h, r') ∈ Rs → r' + b2 v.m ≤ r) :
    g_law_not_right [M.parts, .tup (mk.map .int), C.d, notP Ks Rs] = some (.bl true) := by
  obtain ⟨hI, hCl⟩ := fin_ok M mk
  have hKl : Ks.length ≤ 96 := by rw [hp.length_eq]; unfold keys; rw [List.length_map]; exact hI.len
  have hKs : ∀ e ∈ Ks, e ∈ keys (finS M mk).1 := fun e he => hp.mem_iff.mp he
  have hnd := rks_nodup hR
  have hRl : Rs.length ≤ 12 := by
    have := heads_le hnd fun e he => hF.rng e ((hm e).mp he)
    rw [List.length_map] at this
    exact this
  have hclo := closed_ok hp
  have hedg := edges_ok (M := M) (mk := mk) hKl
  refine runD_tr rfl ?_
  show Tr _ _ (F_law_not_right MX [some (.dat M.parts), some (.dat (.tup (mk.map .int))), some (.dat C.d), some (.dat (notP Ks Rs)), none, none, none, none, none, none, none, none])
  unfold F_law_not_right
  refine tr_seq (tr_if (b := false) (evB (or_f (evNe_f (i := 3) (j := 3) (evLen (d := notP Ks Rs) rfl rfl) rfl rfl) (or_f (ev2 (x := .str "not") (y := .str "not") rfl rfl rfl) (not_t (evC (evA rfl (evA rfl (evA rfl evN))) hclo))))) (fun h => nomatch h) fun _ => tr_nil ?_)
  refine tr_seq (tr_own (x := .dic .t []) rfl (tr_seq (tr_set (d := hdD (-1, 0)) (hdD_tup rfl rfl) (tr_seq ?_))))
  refine tr_for (l := Rs.map rkD) (fun k r => ∃ b : Hd, (∀ p, Rs[k]? = some p → hlt b p.1) ∧ r = [some (.dat M.parts), some (.dat (.tup (mk.map .int))), some (.dat C.d), some (.dat (notP Ks Rs)), some (.own (.dic .t (rksD (Rs.take k)))), some (.dat (hdD b)), none, none, none, none, none, none]) rfl ⟨(-1, 0), fun p hp => ?_, rfl⟩ ?_ ?_
  · have := (hF.rng p.1 ((hm _).mp (List.mem_map_of_mem (List.mem_of_getElem? hp)))).1
    exact .inl (by show (-1 : Int) < _; omega)
  · rintro k d r hk ⟨b, hb, rfl⟩
    obtain ⟨p, hpk, rfl⟩ := getElem_map_some hk
    have hkl := nth_lt' hpk
    have hnew : putA (Rs.take k) p.1 p.2 = Rs.take (k + 1) := by
      rw [putA_new, take_next hpk]
      intro hx
      rw [List.map_take] at hx
      obtain ⟨j, hj⟩ := List.mem_iff_getElem?.mp hx
      rw [List.getElem?_take] at hj
      split at hj
      · have e1 := plc_inj hnd hj (map_at (f := (·.1)) hpk)
        omega
      · cases hj
    refine ⟨_, rfl, tr_seq (tr_if (b := false) (evB (or_f (ev2 (x := hdD p.1) (y := hdD b) rfl rfl (oLeT_f (hb p hpk))) (evLt_f (i := p.2) (j := 0) rfl rfl (by have := h0 p (List.mem_of_getElem? hpk); omega)))) (fun h => nomatch h) fun _ => tr_nil ?_)⟩
    refine tr_seq (tr_set (d := hdD p.1) rfl (tr_seq (tr_put (kvs := rksD (Rs.take k)) (d := .int p.2) (k0 := hdK p.1) rfl rfl rfl (by unfold rksD enc; rw [List.length_map, List.length_take]; unfold lim; omega) (tr_seq (tr_fgt (tr_nil ⟨p.1, fun q hq => ?_, ?_⟩))))))
    · obtain ⟨a1, a2⟩ := List.getElem?_eq_some_iff.mp hpk
      obtain ⟨b1, b2⟩ := List.getElem?_eq_some_iff.mp hq
      have := List.pairwise_iff_getElem.mp hR _ _ a1 b1 (Nat.lt_succ_self k)
      rw [a2, b2] at this
      exact this
    · rw [put_rks, hnew]; rfl
  · rintro r ⟨b, _, rfl⟩
    rw [List.length_map, List.take_length]
    refine tr_seq (tr_set (d := .lst ([C.s].map .int)) (evL (evA rfl evN) (by simp)) (tr_seq ?_))
    refine tr_for (l := C.pile.map .int) (fun k r => ((C.pile.take k).foldl (fun W c => stepS Ks c W) [C.s]).length ≤ 96 ∧ ∃ s6, r = [some (.dat M.parts), some (.dat (.tup (mk.map .int))), some (.dat C.d), some (.dat (notP Ks Rs)), some (.own (.dic .t (rksD Rs))), some (.dat (hdD b)), s6, some (.dat (.lst (((C.pile.take k).foldl (fun W c => stepS Ks c W) [C.s]).map .int))), none, none, none, none]) rfl ⟨by simp, _, rfl⟩ ?_ ?_
    · rintro k d r hk ⟨hWl, s6, rfl⟩
      obtain ⟨c, hc, rfl⟩ := getElem_map_some hk
      have hkl := nth_lt' hc
      have hreach := reach_down (M := M) (C := C) (Ks := Ks) k (by omega)
      rw [take_next hc, List.foldl_append]
      generalize (C.pile.take k).foldl (fun W c => stepS Ks c W) [C.s] = W at hreach hWl
      refine ⟨_, rfl, tr_seq' (Q1 := fun r => r = [some (.dat M.parts), some (.dat (.tup (mk.map .int))), some (.dat C.d), some (.dat (notP Ks Rs)), some (.own (.dic .t (rksD Rs))), some (.dat (hdD b)), s6, some (.dat (.lst (W.map .int))), some (.dat (.int c)), none, none, none]) ?_ ?_⟩
      · refine tr_for (l := W.map .int) (fun j r => r = [some (.dat M.parts), some (.dat (.tup (mk.map .int))), some (.dat C.d), some (.dat (notP Ks Rs)), some (.own (.dic .t (rksD Rs))), some (.dat (hdD b)), s6, some (.dat (.lst (W.map .int))), some (.dat (.int c)), none, none, none]) rfl rfl ?_ fun r h => h
        rintro j d r hj rfl
        obtain ⟨t, ht, rfl⟩ := getElem_map_some hj
        obtain ⟨es, g1, g2⟩ := hreach t (List.mem_of_getElem? ht)
        have hin := (hm (t, c)).mpr (hF.all _ (hd k c hc es t g1 fun e he => hKs e (g2 e he)))
        refine ⟨_, rfl, tr_seq (tr_if (b := false) (evB ?_) (fun h => nomatch h) fun _ => tr_nil (tr_seq (tr_fgt (tr_nil rfl))))⟩
        rw [eInL (neg := true) (Rs := Rs) (h := (t, c)) rfl (hdD_tup rfl rfl), if_pos rfl, decide_eq_true hin]; rfl
      · rintro r rfl
        have hl2 : (stepS Ks c W).length ≤ 96 := by unfold stepS; rw [List.length_map]; exact Nat.le_trans (List.length_filter_le _ _) hKl
        refine tr_seq (tr_set (d := .lst ((stepS Ks c W).map .int)) ?_ (tr_seq (tr_fgt (tr_nil ⟨hl2, s6, rfl⟩))))
        unfold stepS
        rw [List.map_map]
        refine evLcG (f := Ent.d) (q := fun e => decide (e.s ∈ W) && decide (e.l = c)) (g := fun e => D.int e.g) rfl (by omega) fun e he => ⟨?_, fun _ => rfl⟩
        exact and_b (evInI (i := e.s) rfl rfl rfl) (evEqI rfl rfl)
    · rintro r ⟨_, s6, rfl⟩
      rw [List.length_map, List.take_length]
      generalize C.pile.foldl (fun W c => stepS Ks c W) [C.s] = W
      refine tr_seq ?_
      have hedg' : ∀ p ∈ edges M mk Ks, ∃ v ∈ mvsOf (hdsA M mk (keys (finS M mk).1)) p.1, v.h = p.2.1 ∧ v.m = p.2.2 := fun p => edge_mv hKs
      generalize edges M mk Ks = E at hedg hedg'
      refine tr_for (l := E.map edD) (fun j r => r = [some (.dat M.parts), some (.dat (.tup (mk.map .int))), some (.dat C.d), some (.dat (notP Ks Rs)), some (.own (.dic .t (rksD Rs))), some (.dat (hdD b)), s6, some (.dat (.lst (W.map .int))), none, none, none, none]) (by
        show (eCall g_law_head_edges _ _).bind lstD = _
        rw [evC (evA rfl (evA rfl (evA rfl evN))) hedg]
        rfl) rfl ?_ ?_
      · rintro j d r hj rfl
        obtain ⟨p, hpj, rfl⟩ := getElem_map_some hj
        obtain ⟨v, hv, v1, v2⟩ := hedg' p (List.mem_of_getElem? hpj)
        refine ⟨_, rfl, tr_seq' (Q1 := fun r => r = [some (.dat M.parts), some (.dat (.tup (mk.map .int))), some (.dat C.d), some (.dat (notP Ks Rs)), some (.own (.dic .t (rksD Rs))), some (.dat (hdD b)), s6, some (.dat (.lst (W.map .int))), none, none, none, some (.dat (edD p))]) ?_ ?_⟩
        · refine tr_if (evB (eInL (neg := false) (Rs := Rs) (h := p.1) rfl rfl)) (fun h => ?_) (fun _ => tr_nil rfl)
          have h := of_decide_eq_true h
          have hF1 := (hm _).mp h
          have hF2 := hF.clo _ hF1 v hv
          rw [v1] at hF2
          have h2 := (hm _).mpr hF2
          obtain ⟨q1, hq1, e1⟩ := List.mem_map.mp h
          obtain ⟨q2, hq2, e2⟩ := List.mem_map.mp h2
          have m1 : (p.1, q1.2) ∈ Rs := by rw [← e1]; exact hq1
          have m2 : (p.2.1, q2.2) ∈ Rs := by rw [← e2]; exact hq2
          have hle := hr _ hF1 v hv q1.2 q2.2 m1 (by rw [v1]; exact m2)
          rw [v2] at hle
          have g1 : look (rksD Rs) (hdK p.1) = some (.int q1.2) := by rw [look_rks, getA_mem hnd m1]; rfl
          have g2 : look (rksD Rs) (hdK p.2.1) = some (.int q2.2) := by rw [look_rks, getA_mem hnd m2]; rfl
          refine tr_if (b := false) (evB (or_f ?_ ?_)) (fun h => nomatch h) fun _ => tr_nil rfl
          · rw [eInL (neg := true) (Rs := Rs) (h := p.2.1) rfl rfl, if_pos rfl, decide_eq_true h2]; rfl
          · rw [evGt (i := q2.2 + b2 p.2.2) (j := q1.2) (ev2 (evG (kvs := rksD Rs) (d := hdD p.2.1) (k := hdK p.2.1) rfl rfl rfl g2) (evC (xs := [.bl p.2.2]) (evA rfl evN) rfl) rfl) (evG (kvs := rksD Rs) (d := hdD p.1) (k := hdK p.1) rfl rfl rfl g1), decide_eq_false (by omega)]
        · rintro r rfl
          exact tr_seq (tr_fgt (tr_nil rfl))
      · rintro r rfl
        exact tr_ret rfl rfl
end DL
end

section
set_option linter.all false
set_option maxRecDepth 100000
set_option maxHeartbeats 1000000
/-! E26 (pure): papers are plain and small; told as they stand. -/
namespace DL
inductive Small : Nat → Nat → D → Prop
  | non (n w : Nat) : Small n w .non
  | bl (n w : Nat) (b : Bool) : Small n w (.bl b)
  | int (n w : Nat) (i : Int) : i.natAbs < 1000 → 10 ≤ w → Small n w (.int i)
  | str (n w : Nat) (s : PySem.Str) : PySem.PyData.strOk s = true → s.cps.size ≤ w → Small n w (.str s)
  | tup {n w w' : Nat} {l : List D} : (∀ d ∈ l, Small n w d) → l.length * (w + 1) ≤ w' → Small (n + 1) w' (.tup l)
theorem Small.nice {n w : Nat} {d : D} (h : Small n w d) : Nice n d := by
  induction h with
  | non n w => exact .non n
  | bl n w b => exact .bl n b
  | int n w i _ _ => exact .int n i
  | str n w s h _ => exact .str n s h
  | tup _ _ ih => exact .tup ih
structure SFact (w : Nat) (d : D) : Prop where
  can : d.py.canLay0 = true
  show_ : d.py.showable = true
  short : d.py.intsShort 13 = true
  wt : d.py.weight ≤ w
theorem log_lt {n : Nat} (h : n < 1000) : n.log2 < 10 := by
  by_cases z : n = 0
  · subst z; decide
  · exact (Nat.log2_lt z).mpr (by omega)
theorem sfact_all {w : Nat} : ∀ l : List D, (∀ d ∈ l, SFact w d) → PySem.PyData.canLayAll0 (pyL l) = true ∧ PySem.PyData.showableAll (pyL l) = true ∧ PySem.PyData.intsShortAll 13 (pyL l) = true ∧ PySem.PyData.weightAll (pyL l) ≤ l.length * (w + 1)
  | [], _ => ⟨rfl, rfl, rfl, Nat.zero_le _⟩
  | d :: l, h => by
    obtain ⟨h1, h2, h3, h4⟩ := sfact_all l fun x hx => h x (List.mem_cons_of_mem _ hx)
    obtain ⟨g1, g2, g3, g4⟩ := h d List.mem_cons_self
    refine ⟨?_, ?_, ?_, ?_⟩
    · unfold pyL PySem.PyData.canLayAll0; rw [g1, h1]; rfl
    · unfold pyL PySem.PyData.showableAll; rw [g2, h2]; rfl
    · unfold pyL PySem.PyData.intsShortAll; rw [g3, h3]; rfl
    · unfold pyL PySem.PyData.weightAll
      rw [List.length_cons, Nat.succ_mul]
      omega
theorem Small.sfact {n w : Nat} {d : D} (h : Small n w d) : SFact w d := by
  induction h with
  | non n w => exact ⟨rfl, rfl, rfl, Nat.zero_le _⟩
  | bl n w b => exact ⟨rfl, rfl, rfl, Nat.zero_le _⟩
  | int n w i h1 h2 =>
    have hl := log_lt h1
    refine ⟨rfl, ?_, ?_, ?_⟩
    · unfold D.py PySem.PyData.showable; exact decide_eq_true (by omega)
    · unfold D.py PySem.PyData.intsShort; exact decide_eq_true (PySem.PyData.shown_int_le (by omega))
    · unfold D.py PySem.PyData.weight; split <;> omega
  | str n w s h1 h2 => exact ⟨h1, rfl, rfl, h2⟩
  | @tup n w w' l _ hw ih =>
    obtain ⟨h1, h2, h3, h4⟩ := sfact_all l ih
    refine ⟨?_, ?_, ?_, ?_⟩
    · unfold D.py PySem.PyData.canLay0; exact h1
    · unfold D.py PySem.PyData.showable; exact h2
    · unfold D.py PySem.PyData.intsShort; exact h3
    · unfold D.py PySem.PyData.weight; omega
theorem repr_ok {n w : Nat} {l : List D} (h : Small n w (.tup l)) (hn : n < 60) (hw : w ≤ 1000000) : gRepr [.tup l] = some (.str (D.tup l).py.shown) := by
  have f := h.sfact
  have g := h.nice.fact
  show (if pureL l = true ∧ (D.tup l).py.showable = true ∧ (D.tup l).py.hasDict = false ∧ (D.tup l).py.depth < 60 ∧ (D.tup l).py.shown.length ≤ PySem.sizeLine then some (D.str (D.tup l).py.shown) else none) = _
  rw [if_pos ⟨g.pure, f.show_, PySem.PyData.hasDict_of_canLay _ f.can, by have := g.depth; omega, PySem.PyData.shown_fits (B := 13) (by omega) (by omega) (PySem.PyData.leavesShort_of_canLay0 13 _ f.can f.short) (by have := f.wt; omega)⟩]
theorem small_ent {M : Mach} {e : Ent} (h : Rng M e) : Small 1 44 e.d := by
  have := M.S4; have := M.L3; have := h.s0; have := h.s1; have := h.l0; have := h.l1; have := h.g0; have := h.g1
  refine .tup (w := 10) (fun d hd => ?_) (by simp)
  rcases List.mem_cons.mp hd with rfl | hd
  · exact .int _ _ _ (by omega) (by omega)
  rcases List.mem_cons.mp hd with rfl | hd
  · exact .int _ _ _ (by omega) (by omega)
  rcases List.mem_cons.mp hd with rfl | hd
  · exact .int _ _ _ (by omega) (by omega)
  rw [List.mem_singleton.mp hd]
  exact .bl _ _ _
theorem small_rk {M : Mach} {p : Hd × Int} (h : HR M p.1) (h0 : 0 ≤ p.2) (h1 : p.2 ≤ 12) : Small 2 50 (rkD p) := by
  have := M.S4; have := M.L3; have := h.s0; have := h.s1; have := h.l0; have := h.l1
  refine .tup (w := 22) (fun d hd => ?_) (by simp)
  rcases List.mem_cons.mp hd with rfl | hd
  · refine .tup (w := 10) (fun d hd => ?_) (by simp)
    rcases List.mem_cons.mp hd with rfl | hd
    · exact .int _ _ _ (by omega) (by omega)
    rw [List.mem_singleton.mp hd]
    exact .int _ _ _ (by omega) (by omega)
  rw [List.mem_singleton.mp hd]
  exact .int _ _ _ (by omega) (by omega)
theorem small_map {α : Type} {n w w' b : Nat} {f : α → D} {l : List α} (h : ∀ x ∈ l, Small n w (f x)) (hl : l.length ≤ b) (hw : b * (w + 1) ≤ w') : Small (n + 1) w' (.tup (l.map f)) := by
  refine .tup (w := w) (fun d hd => ?_) ?_
  · obtain ⟨x, hx, rfl⟩ := List.mem_map.mp hd
    exact h x hx
  · rw [List.length_map]
    exact Nat.le_trans (Nat.mul_le_mul_right _ hl) hw
theorem Small.mono {n w : Nat} {d : D} (h : Small n w d) : ∀ {m v : Nat}, n ≤ m → w ≤ v → Small m v d := by
  induction h with
  | non n w => intro m v _ _; exact .non m v
  | bl n w b => intro m v _ _; exact .bl m v b
  | int n w i h1 h2 => intro m v _ _; exact .int m v i h1 (by omega)
  | str n w s h1 h2 => intro m v _ _; exact .str m v s h1 (by omega)
  | @tup n w w' l _ hw ih =>
    intro m v hm hv
    obtain ⟨k, rfl⟩ : ∃ k, m = k + 1 := ⟨m - 1, by omega⟩
    exact .tup (fun d hd => ih d hd (by omega) (Nat.le_refl w)) (by omega)
theorem small_not {M : Mach} {Ks : List Ent} {Rs : Rks} (hK : ∀ e ∈ Ks, Rng M e) (hKl : Ks.length ≤ 96) (hR : ∀ p ∈ Rs, HR M p.1 ∧ 0 ≤ p.2 ∧ p.2 ≤ 12) (hRl : Rs.length ≤ 12) : Small 4 20000 (notP Ks Rs) := by
  refine .tup (w := 5000) (fun d hd => ?_) (by simp)
  rcases List.mem_cons.mp hd with rfl | hd
  · exact .str _ _ _ (by decide +kernel) (by show 3 ≤ 5000; omega)
  rcases List.mem_cons.mp hd with rfl | hd
  · exact small_map (n := 2) (w := 44) (fun e he => (small_ent (hK e he)).mono (by omega) (by omega)) hKl (by omega)
  rw [List.mem_singleton.mp hd]
  exact small_map (n := 2) (w := 50) (fun p hp => small_rk (hR p hp).1 (hR p hp).2.1 (hR p hp).2.2) hRl (by omega)
theorem small_plc {X : List Ent} {q : Ent} (hq : q ∈ X) (hl : X.length ≤ 96) {n w : Nat} (hw : 10 ≤ w) : Small n w (placeD X q) := by
  have := nth_lt' (plc_some hq).2
  exact .int _ _ _ (by omega) hw
theorem small_told {M : Mach} {mk : List Int} {K X : List Ent} {w : Mv} {a : Hd} (hw : w ∈ mvsOf (hdsA M mk K) a) (he : ∀ e, w.e = some e → e ∈ X) (hl : X.length ≤ 96) : Small 2 50 (toldD X w) := by
  obtain ⟨i, x, h1, _, h2⟩ := mem_mvs.mp hw
  have hi := nth_lt' h1
  have hn := M.n10
  have e0 : w.i = i := by rcases mem_step.mp h2 with ⟨c, cs, q, rfl⟩ | ⟨c, c2, e', q, he', _, rfl⟩ <;> rfl
  refine .tup (w := 22) (fun d hd => ?_) (by simp)
  rcases List.mem_cons.mp hd with rfl | hd
  · exact .int _ _ _ (by omega) (by omega)
  rw [List.mem_singleton.mp hd]
  cases q : w.e with
  | none => exact .non _ _
  | some e => exact small_plc (he e q) hl (by omega)
theorem path_mem {A : Mvs} : ∀ {ws : List Mv} {a b : Hd}, Path A a ws b → ∀ w ∈ ws, ∃ c, w ∈ mvsOf A c
  | [], _, _, _, w, h => by cases h
  | v :: ws, a, b, h, w, hw => by
    rcases List.mem_cons.mp hw with z | z
    · rw [z]; exact ⟨a, h.1⟩
    · exact path_mem h.2 w z
theorem small_ever {M : Mach} {mk : List Int} {S : Tab × Lvs} {K X es : List Ent} {ws rs : List Mv} (hI : TInv M mk S) (hX : XOk S.1 X) (hl : X.length ≤ 96) (hes : ∀ e ∈ es, e ∈ X) (hel : es.length ≤ 5)
    (hw : ∀ w ∈ ws, ∃ c, w ∈ mvsOf (hdsA M mk K) c) (hwe : EIn X ws) (hwl : ws.length ≤ 12) (hr : ∀ w ∈ rs, ∃ c, w ∈ mvsOf (hdsA M mk K) c) (hre : EIn X rs) (hrl : rs.length ≤ 13) : Small 5 40000 (everP S.1 X es ws rs) := by
  refine .tup (w := 6000) (fun d hd => ?_) (by simp)
  rcases List.mem_cons.mp hd with rfl | hd
  · exact .str _ _ _ (by decide +kernel) (by show 4 ≤ 6000; omega)
  rcases List.mem_cons.mp hd with rfl | hd
  · refine small_map (n := 3) (w := 60) (fun e he => ?_) hl (by omega)
    obtain ⟨n, hn⟩ := List.mem_iff_getElem?.mp he
    obtain ⟨i, ps, x, h0, h1, h2, h3, h4, h5⟩ := row_of_ent hI hX hn
    have hi := nth_lt' h1
    have hn := M.n10
    have hpl := chain_len h4
    have hx2 := (M.ok x (List.mem_of_getElem? h1)).two
    rw [h0]
    refine .tup (n := 2) (w := 22) (fun d hd => ?_) (by simp)
    rcases List.mem_cons.mp hd with rfl | hd
    · exact .int _ _ _ (by omega) (by omega)
    rw [List.mem_singleton.mp hd]
    exact small_map (n := 1) (w := 10) (b := 2) (fun q hq => small_plc (List.mem_of_getElem? (h5 q hq).2) hl (by omega)) (by omega) (by omega)
  rcases List.mem_cons.mp hd with rfl | hd
  · exact small_map (n := 3) (w := 10) (fun q hq => small_plc (hes q hq) hl (by omega)) hel (by omega)
  rcases List.mem_cons.mp hd with rfl | hd
  · exact small_map (n := 3) (w := 50) (fun w hw' => by
      obtain ⟨c, hc⟩ := hw w hw'
      exact (small_told hc (hwe w hw') hl).mono (by omega) (by omega)) hwl (by omega)
  rw [List.mem_singleton.mp hd]
  exact small_map (n := 3) (w := 50) (fun w hw' => by
      obtain ⟨c, hc⟩ := hr w hw'
      exact (small_told hc (hre w hw') hl).mono (by omega) (by omega)) hrl (by omega)
/-! ### told -/
theorem told_not {Ks : List Ent} {Rs : Rks} (hKl : Ks.length ≤ 96) (hRl : Rs.length ≤ 12) : g_law_told [notP Ks Rs] = some (notP Ks Rs) := by
  refine runD_tr rfl ?_
  show Tr _ _ (F_law_told MX [some (.dat (notP Ks Rs)), none, none, none, none, none, none, none, none])
  unfold F_law_told
  refine tr_seq (tr_if (b := true) (evB (ev2 (x := .str "not") (y := .str "not") (evIx (i := 0) (l := [.str "not", .tup (Ks.map Ent.d), .tup (Rs.map rkD)]) rfl rfl rfl rfl) rfl rfl)) (fun _ => ?_) (fun h => nomatch h))
  have e1 : ∀ r : Env, eV 0 r = some (notP Ks Rs) → eLc 1 (oTup (eIx (eV 0) (eC (.int 1)))) (eC (.bl true)) (eTup (aC (eIx (eV 1) (eC (.int 0))) (aC (eIx (eV 1) (eC (.int 1))) (aC (eIx (eV 1) (eC (.int 2))) (aC (eCall gBool (aC (eIx (eV 1) (eC (.int 3))) aN)) aN))))) [some (.dat (notP Ks Rs)), none, none, none, none, none, none, none, none] = some (.lst (Ks.map Ent.d)) := fun r hr => by
    refine evLc2 (f := Ent.d) rfl (by omega) fun e he => ?_
    have ix : ∀ (i : Nat) (z : D), [D.int e.s, .int e.l, .int e.g, .bl e.f][i]? = some z → eIx (eV 1) (eC (.int (i : Nat))) [some (.dat (notP Ks Rs)), some (.dat e.d), none, none, none, none, none, none, none] = some z := fun i z h => evIx (i := i) (l := [D.int e.s, .int e.l, .int e.g, .bl e.f]) rfl rfl rfl h
    exact evT (evA (ix 0 _ rfl) (evA (ix 1 _ rfl) (evA (ix 2 _ rfl) (evA (evC (evA (ix 3 _ rfl) evN) rfl) evN)))) (by simp)
  refine tr_seq (tr_set (evC (evA (e1 [some (.dat (notP Ks Rs))] rfl) evN) rfl) ?_)
  have e3 : eLc 3 (oTup (eIx (eV 0) (eC (.int 2)))) (eC (.bl true)) (eTup (aC (eCall gTuple (aC (eIx (eV 3) (eC (.int 0))) aN)) (aC (eIx (eV 3) (eC (.int 1))) aN))) [some (.dat (notP Ks Rs)), none, some (.dat (.tup (Ks.map Ent.d))), none, none, none, none, none, none] = some (.lst (Rs.map rkD)) := by
    refine evLc2 (f := rkD) rfl (by omega) fun p hp => ?_
    exact evT (evA (evC (evA (evIx (i := 0) (l := [hdD p.1, .int p.2]) rfl rfl rfl rfl) evN) rfl) (evA (evIx (i := 1) (l := [hdD p.1, .int p.2]) rfl rfl rfl rfl) evN)) (by simp)
  exact tr_ret (evT (evA rfl (evA rfl (evA (evC (evA e3 evN) rfl) evN))) (by simp)) rfl
theorem told_ever {M : Mach} {mk : List Int} {S : Tab × Lvs} {X es : List Ent} {ws rs : List Mv} (hI : TInv M mk S) (hX : XOk S.1 X) (hl : X.length ≤ 96) (hwl : ws.length ≤ 12) (hrl : rs.length ≤ 13) : g_law_told [everP S.1 X es ws rs] = some (everP S.1 X es ws rs) := by
  refine runD_tr rfl ?_
  generalize hP : everP S.1 X es ws rs = P
  have p1 : seqD P = some [.str "ever", .tup (X.map (rowOf S.1 X)), .tup (es.map (placeD X)), .tup (ws.map (toldD X)), .tup (rs.map (toldD X))] := by rw [← hP]; rfl
  have p2 : tupD P = some [.str "ever", .tup (X.map (rowOf S.1 X)), .tup (es.map (placeD X)), .tup (ws.map (toldD X)), .tup (rs.map (toldD X))] := by rw [← hP]; rfl
  show Tr _ _ (F_law_told MX [some (.dat P), none, none, none, none, none, none, none, none])
  unfold F_law_told
  refine tr_seq (tr_if (b := false) (evB (ev2 (x := .str "ever") (y := .str "not") (evIx (i := 0) rfl rfl p1 rfl) rfl rfl)) (fun h => nomatch h) (fun _ => tr_nil ?_))
  have e1 : eLc 4 (oTup (eIx (eV 0) (eC (.int 1)))) (eC (.bl true)) (eTup (aC (eIx (eV 4) (eC (.int 0))) (aC (eCall gTuple (aC (eIx (eV 4) (eC (.int 1))) aN)) aN))) [some (.dat P), none, none, none, none, none, none, none, none] = some (.lst (X.map (rowOf S.1 X))) := by
    refine evLc2 (f := rowOf S.1 X) ?_ (by omega) fun e he => ?_
    · unfold oTup
      rw [evIx (i := 1) rfl rfl p1 rfl]
      rfl
    obtain ⟨n, hn⟩ := List.mem_iff_getElem?.mp he
    obtain ⟨i, ps, x, h0, _⟩ := row_of_ent hI hX hn
    rw [h0]
    exact evT (evA (evIx (i := 0) (l := [.int (i : Nat), .tup (ps.map (placeD X))]) rfl rfl rfl rfl) (evA (evC (evA (evIx (i := 1) (l := [.int (i : Nat), .tup (ps.map (placeD X))]) rfl rfl rfl rfl) evN) rfl) evN)) (by simp)
  refine tr_seq (tr_set (evC (evA e1 evN) rfl) ?_)
  refine tr_seq (tr_set (d := .lst ([ws, rs].map fun w => .tup (w.map (toldD X)))) (evLc2 (f := fun w => .tup (w.map (toldD X))) ?_ (by simp) fun w hw => ?_) ?_)
  · unfold oTup
    rw [ev1 (z := .tup [.tup (ws.map (toldD X)), .tup (rs.map (toldD X))]) rfl (by
      unfold oFrom
      rw [p2, Option.bind_some, if_pos ⟨by omega, by simp, by unfold lim; simp⟩]
      rfl)]
    rfl
  · have hwl : w.length ≤ 13 := by
      rcases List.mem_cons.mp hw with z | z
      · rw [z]; omega
      · rw [List.mem_singleton.mp z]; omega
    refine evC (evA (evLc2 (l := w) (f := toldD X) (g := toldD X) rfl (by omega) fun v hv => ?_) evN) rfl
    exact evT (evA (evIx (i := 0) (l := [.int (v.i : Nat), partD X v.e]) rfl rfl rfl rfl) (evA (evIx (i := 1) (l := [.int (v.i : Nat), partD X v.e]) rfl rfl rfl rfl) evN)) (by simp)
  · refine tr_ret (d := P) ?_ rfl
    rw [← hP]
    exact evT (evA rfl (evA rfl (evA (evC (evA (evIx (i := 2) (l := [.str "ever", .tup (X.map (rowOf S.1 X)), .tup (es.map (placeD X)), .tup (ws.map (toldD X)), .tup (rs.map (toldD X))]) rfl rfl rfl rfl) evN) rfl) (evA (evIx (i := 0) (l := [.tup (ws.map (toldD X)), .tup (rs.map (toldD X))]) rfl rfl rfl rfl) (evA (evIx (i := 1) (l := [.tup (ws.map (toldD X)), .tup (rs.map (toldD X))]) rfl rfl rfl rfl) evN))))) (by simp)
end DL
end

section
set_option linter.all false
set_option maxRecDepth 100000
set_option maxHeartbeats 1000000
/-! E27 (pure): the law. -/
namespace DL
theorem not_f {a : EX} {r : Env} (h : a r = some (.bl true)) : eNot a r = some (.bl false) := not_t h
structure Told (M : Mach) (mk : List Int) (C : Conf M) (f : Bool) (p : List D) : Prop where
  small : Small 5 40000 (.tup p)
  told : g_law_told [.tup p] = some (.tup p)
  ever : f = true → g_law_ever_right [M.parts, .tup (mk.map .int), C.d, .tup p] = some (.bl true)
  nott : f = false → g_law_not_right [M.parts, .tup (mk.map .int), C.d, .tup p] = some (.bl true) ∧ ∃ Ks Rs, D.tup p = notP Ks Rs ∧ (∀ e ∈ Ks, Rng M e) ∧ (∀ q ∈ Rs, HR M q.1) ∧ Ks.length ≤ 96 ∧ Rs.length ≤ 12
theorem told_of {M : Mach} {mk : List Int} {C : Conf M} {d : D} (h : NotR M mk C d ∨ EverR M mk C d) : ∃ f p, d = .tup [.bl f, .tup p] ∧ Told M mk C f p := by
  obtain ⟨hI, hCl⟩ := fin_ok M mk
  have hkl : (keys (finS M mk).1).length ≤ 96 := by unfold keys; rw [List.length_map]; exact hI.len
  rcases h with ⟨Ks, Rs, hs, F, rfl, hp, hF, hd, hR, hm, h0, hr⟩ | ⟨X, es, ws, v, rs, h0, h, rfl, hX, hB, hes, hw, hwe, hv, hvm, hr, hre, hwl, hrl⟩
  · have hKl : Ks.length ≤ 96 := by rw [hp.length_eq]; exact hkl
    have hK : ∀ e ∈ Ks, Rng M e := fun e he => hI.rng e (hp.mem_iff.mp he)
    have hRr : ∀ q ∈ Rs, HR M q.1 := fun q hq => hF.rng _ ((hm _).mp (List.mem_map_of_mem hq))
    have hRl : Rs.length ≤ 12 := by
      have := heads_le (rks_nodup hR) fun e he => hF.rng e ((hm e).mp he)
      rw [List.length_map] at this
      exact this
    refine ⟨false, _, rfl, ?_, ?_, (fun h => nomatch h), fun _ => ⟨not_right_ok hp hF hd hR hm (fun q hq => (h0 q hq).1) hr, Ks, Rs, rfl, hK, hRr, hKl, hRl⟩⟩
    · exact (small_not hK hKl (fun q hq => ⟨hRr q hq, h0 q hq⟩) hRl).mono (by omega) (by omega)
    · exact told_not hKl hRl
  · have hXl : X.length ≤ 96 := Nat.le_trans (nodup_sub_len X _ hX.nd hX.sub) hkl
    have hesl : es.length ≤ 5 := by
      have := nth_lt' hB.1
      have := C.p5
      show (h0, es).2.length ≤ 5
      omega
    have hwm := path_mem hw
    have hrm := path_mem (A := hdsA M mk (keys (finS M mk).1)) (ws := v :: rs) (a := h) (b := h) ⟨hv, hr⟩
    have hrl' : (v :: rs).length ≤ 13 := by rw [List.length_cons]; omega
    refine ⟨true, _, rfl, ?_, ?_, (fun _ => ever_right_ok hX hB hes hw hwe hv hvm hr hre), (fun h => nomatch h)⟩
    · exact small_ever hI hX hXl hes hesl hwm hwe hwl hrm hre hrl'
    · exact told_ever hI hX hXl hwl hrl'
def triD (s l g : Int) : D := .tup [.int s, .int l, .int g]
theorem pure_law (l : List Int) (hl : l.length ≤ 63) : g_law [.scr l] = some (.bl true) := by
  obtain ⟨ns, n1, n2, _⟩ := numbers_ok l hl
  obtain ⟨M, m1⟩ := machine_ok ns n2
  obtain ⟨x11, h11⟩ : ∃ x, ns[11]? = some x := ⟨_, List.getElem?_eq_getElem (by omega)⟩
  obtain ⟨x12, h12⟩ : ∃ x, ns[12]? = some x := ⟨_, List.getElem?_eq_getElem (by omega)⟩
  obtain ⟨mk, k1, k2, _⟩ := marks_ok x11 M.st.length M.n10
  obtain ⟨C, c1⟩ := conf_ok M x12
  obtain ⟨d, d1, d2⟩ := endless_ok M mk k2 C
  obtain ⟨f, p, rfl, T⟩ := told_of d2
  have hnice : Nice 6 (.tup [.bl f, .tup p]) := .tup fun d hd => by
    rcases List.mem_cons.mp hd with rfl | hd
    · exact .bl _ _
    · rw [List.mem_singleton.mp hd]
      exact T.small.nice
  have hmade := made_ok M
  refine runD_tr rfl ?_
  show Tr _ _ (F_law MX [some (.dat (.scr l)), none, none, none, none, none, none, none, none, none])
  unfold F_law
  refine tr_seq (tr_set (evC (evA rfl (evA rfl evN)) n1) (tr_seq (tr_set (evC (evA rfl (evA rfl evN)) m1) (tr_seq (tr_set (evC (xs := [.int x11, .int (M.st.length : Nat)]) (evA (evIx (i := 11) (l := ns.map .int) rfl rfl rfl (map_at h11)) (evA ?_ evN)) k1) ?_)))))
  · refine evC (xs := [.lst (M.st.map Ste.row)]) (evA (evIx (i := 2) (l := [.int M.S, .int M.L, .lst (M.st.map Ste.row)]) rfl rfl rfl rfl) evN) ?_
    show some (D.int ((M.st.map Ste.row).length : Nat)) = _
    rw [List.length_map]
  have px : ∀ {r : Env} (i : Nat) {z : D}, eV 2 r = some M.parts → [D.int M.S, .int M.L, .lst (M.st.map Ste.row)][i]? = some z → eIx (eV 2) (eC (.int (i : Nat))) r = some z := fun i z h w => evIx (i := i) h rfl rfl w
  refine tr_seq (tr_set (evC (evA (evIx (i := 12) (l := ns.map .int) rfl rfl rfl (map_at h12)) (evA (px 0 rfl rfl) (evA (px 1 rfl rfl) (evA rfl evN)))) c1) ?_)
  refine tr_seq (tr_set (evC (evA (evC (evA rfl evN) hmade) (evA rfl (evA rfl evN))) d1) ?_)
  have dx : ∀ {r : Env} (i : Nat) {z : D}, eV 5 r = some (.tup [.bl f, .tup p]) → [D.bl f, .tup p][i]? = some z → eIx (eV 5) (eC (.int (i : Nat))) r = some z := fun i z h w => evIx (i := i) h rfl rfl w
  refine tr_seq (tr_if (b := false) (evB (or_f (not_f (ev1 (x := .tup [.bl f, .tup p]) rfl rfl)) (or_f (evNe_f (i := 2) (j := 2) (evLen (d := .tup [.bl f, .tup p]) rfl rfl) rfl rfl) (or_f (not_f (ev1 (dx 0 rfl rfl) rfl)) (not_f (ev1 (dx 1 rfl rfl) rfl)))))) (fun h => nomatch h) fun _ => tr_nil ?_)
  refine tr_seq (tr_if (b := false) (evB (ev2 (x := .tup [.bl f, .tup p]) (y := .tup [.bl f, .tup p]) (evC (evA (evC (evA rfl evN) hmade) (evA rfl (evA rfl evN))) d1) rfl (oNeD_self hnice (by omega)))) (fun h => nomatch h) fun _ => tr_nil ?_)
  refine tr_seq' (Q1 := fun r => ∃ s7 s9, r = [some (.dat (.scr l)), some (.dat (.lst (ns.map .int))), some (.dat M.parts), some (.dat (.tup (mk.map .int))), some (.dat C.d), some (.dat (.tup [.bl f, .tup p])), some (.dat (.bl true)), s7, none, s9]) ?_ ?_
  · refine tr_if (b := f) (evB (dx 0 rfl rfl)) (fun hf => ?_) (fun hf => ?_)
    · exact tr_set (evC (evA rfl (evA rfl (evA rfl (evA (dx 1 rfl rfl) evN)))) (T.ever hf)) ⟨none, none, rfl⟩
    · obtain ⟨hnot, Ks, Rs, hpn, hK, hR, hKl, hRl⟩ := T.nott hf
      have hpl : p = [.str "not", .tup (Ks.map Ent.d), .tup (Rs.map rkD)] := by
        unfold notP at hpn
        exact D.tup.inj hpn
      have nx : ∀ {r : Env} (i : Nat) {z : List D}, eV 5 r = some (.tup [.bl f, .tup p]) → [D.str "not", .tup (Ks.map Ent.d), .tup (Rs.map rkD)][i]? = some (.tup z) → oTup (eIx (eIx (eV 5) (eC (.int 1))) (eC (.int (i : Nat)))) r = some z := fun {r} i z h w => by
        have e : eIx (eIx (eV 5) (eC (.int 1))) (eC (.int (i : Nat))) r = some (.tup z) := evIx (i := i) (l := p) (dx 1 h rfl) rfl rfl (by rw [hpl]; exact w)
        unfold oTup
        rw [e]
        rfl
      refine tr_seq (tr_set (evC (evA rfl (evA rfl (evA rfl (evA (dx 1 rfl rfl) evN)))) hnot) ?_)
      refine tr_seq (tr_set (d := .lst (Ks.map (fun e => triD e.s e.l e.g) ++ Rs.map (fun q => triD q.1.1 q.1.2 0))) (ev2 (evLc2 (f := Ent.d) (g := fun e => triD e.s e.l e.g) (nx 1 rfl rfl) (by omega) fun e he => ?_) (evLc2 (f := rkD) (g := fun q => triD q.1.1 q.1.2 0) (nx 2 rfl rfl) (by omega) fun q hq => ?_) ?_) ?_)
      · exact evT (evA (evIx (i := 0) (l := [.int e.s, .int e.l, .int e.g, .bl e.f]) rfl rfl rfl rfl) (evA (evIx (i := 1) (l := [.int e.s, .int e.l, .int e.g, .bl e.f]) rfl rfl rfl rfl) (evA (evIx (i := 2) (l := [.int e.s, .int e.l, .int e.g, .bl e.f]) rfl rfl rfl rfl) evN))) (by simp)
      · exact evT (evA (evIx (i := 0) (l := [.int q.1.1, .int q.1.2]) (evIx (i := 0) (l := [hdD q.1, .int q.2]) rfl rfl rfl rfl) rfl rfl rfl) (evA (evIx (i := 1) (l := [.int q.1.1, .int q.1.2]) (evIx (i := 0) (l := [hdD q.1, .int q.2]) rfl rfl rfl rfl) rfl rfl rfl) (evA rfl evN))) (by simp)
      · unfold oCat lstD
        simp only [Option.bind_some]
        rw [if_pos (by rw [List.length_map, List.length_map]; unfold lim; omega)]
      have hall : ∀ d ∈ Ks.map (fun e => triD e.s e.l e.g) ++ Rs.map (fun q => triD q.1.1 q.1.2 0), ∃ s l g, d = triD s l g ∧ (0 ≤ s ∧ s < M.S) ∧ (0 ≤ l ∧ l < M.L) ∧ (0 ≤ g ∧ g < M.S) := fun d hd => by
        rcases List.mem_append.mp hd with h | h
        · obtain ⟨e, he, rfl⟩ := List.mem_map.mp h
          have := hK e he
          exact ⟨_, _, _, rfl, ⟨this.s0, this.s1⟩, ⟨this.l0, this.l1⟩, this.g0, this.g1⟩
        · obtain ⟨q, hq, rfl⟩ := List.mem_map.mp h
          have := hR q hq
          have hS := M.S1
          exact ⟨_, _, _, rfl, ⟨this.s0, this.s1⟩, ⟨this.l0, this.l1⟩, Int.le_refl _, by omega⟩
      generalize Ks.map (fun e => triD e.s e.l e.g) ++ Rs.map (fun q => triD q.1.1 q.1.2 0) = Z at hall
      refine tr_for (l := Z) (fun k r => ∃ s7, r = [some (.dat (.scr l)), some (.dat (.lst (ns.map .int))), some (.dat M.parts), some (.dat (.tup (mk.map .int))), some (.dat C.d), some (.dat (.tup [.bl f, .tup p])), some (.dat (.bl true)), s7, none, some (.dat (.lst Z))]) rfl ⟨none, rfl⟩ ?_ ?_
      · rintro k d r hk ⟨s7, rfl⟩
        obtain ⟨s, y, g, rfl, hs, hy, hg⟩ := hall d (List.mem_of_getElem? hk)
        have tx : ∀ {r : Env} (i : Nat) {z : D}, eV 7 r = some (triD s y g) → [D.int s, .int y, .int g][i]? = some z → eIx (eV 7) (eC (.int (i : Nat))) r = some z := fun i z h w => evIx (i := i) h rfl rfl w
        exact ⟨_, rfl, tr_if (b := false) (evB (or_f (not_f (leLt_ok rfl (tx 0 rfl rfl) (px 0 rfl rfl) hs)) (or_f (not_f (leLt_ok rfl (tx 1 rfl rfl) (px 1 rfl rfl) hy)) (not_f (leLt_ok rfl (tx 2 rfl rfl) (px 0 rfl rfl) hg))))) (fun h => nomatch h) fun _ => tr_nil ⟨_, rfl⟩⟩
      · rintro r ⟨s7, rfl⟩
        exact ⟨s7, _, rfl⟩
  · rintro r ⟨s7, s9, rfl⟩
    have hrep := repr_ok T.small (by omega) (by omega)
    refine tr_ret (d := .bl true) (and_t rfl (ev2 (x := .str (D.tup p).py.shown) (y := .str (D.tup p).py.shown) (evC (evA (dx 1 rfl rfl) evN) hrep) (evC (evA (evC (evA (dx 1 rfl rfl) evN) T.told) evN) hrep) ?_)) rfl
    generalize (D.tup p).py.shown = s
    show some (D.bl (decide (s = s))) = _
    rw [decide_eq_true rfl]
end DL
end

theorem PySem.Challenge.cw_pilereach_k47_whole_endless_decided_holds : PySem.Challenge.rw_pilereach_k47_whole_endless_decided.Holds :=
  DL.row_of DL.pure_law
