import PyProof.Rows.All
import HandS.ForMost
import HandS.Exc
import HandS.TryOnly
import HandS.ExcOwn
import HandS.WordsExc
import HandS.Iter
import HandS.Lambda
import HandS.TupAny
import HandS.TupMul
import HandS.Deep
import HandS.Style
import HandS.RaiseMore
import HandS.IsInst
import HandS.More
import HandS.Conv
import HandS.CallSlots
import HandS.Star
import HandS.OwnEq
import HandS.Text
import HandS.FStr
import HandS.Dict
import HandS.Walk
import KE.GoesNew
import KE.GoesEnum
import KE.GoesMore
import HandS.Small
import HandS.ExcInit
import HandS.ExcField
import HandS.Nested
import HandS.Defaults
import HandS.HeadHook4
import HandS.EndTab
import HandS.Head2
import PySem.Challenge.RW_deadends_k07_changed_worlds
section
set_option Elab.async false
set_option linter.all false
set_option maxRecDepth 100000
/-! DE1: a small language of its own (no positions, slots for names), and what it computes. Values are plain data; a list, dict or
object that is changed is owned by one slot (C), everything else is data for ever (D). -/
namespace DE
open PySem

inductive D where
  | non | bl (b : Bool) | int (i : Int) | str (s : Str)
  | tup (ds : List D) | lst (ds : List D) | dic (ks vs : List D)
  | obj (c : Nat) (ns : List Str) (ds : List D)
  | fn (f : Nat) | clo (l : Nat) (ws : List D)

inductive C where
  | un | pu (d : D) | lst (cs : List C) | dic (ks : List D) (cs : List C) | obj (c : Nat) (ns : List Str) (cs : List C)

mutual
def C.fz : C → D
  | .un => .non
  | .pu d => d
  | .lst cs => .lst (fzs cs)
  | .dic ks cs => .dic ks (fzs cs)
  | .obj c ns cs => .obj c ns (fzs cs)
def fzs : List C → List D
  | [] => []
  | c :: cs => c.fz :: fzs cs
end

/-- all of them data: the data -/
def pures : List C → Option (List D)
  | [] => some []
  | .pu d :: cs => (pures cs).map (d :: ·)
  | _ :: _ => none

/-! data without closures -/
mutual
def D.noClo : D → Bool
  | .clo _ _ => false
  | .tup ds => noClos ds
  | .lst ds => noClos ds
  | .dic _ ds => noClos ds
  | .obj _ _ ds => noClos ds
  | _ => true
def noClos : List D → Bool
  | [] => true
  | d :: ds => d.noClo && noClos ds
end
mutual
def C.noClo : C → Bool
  | .un => true
  | .pu d => d.noClo
  | .lst cs => noCloC cs
  | .dic _ cs => noCloC cs
  | .obj _ _ cs => noCloC cs
def noCloC : List C → Bool
  | [] => true
  | c :: cs => c.noClo && noCloC cs
end
/-- one step down a place -/
inductive Sp where
  | f (n : Str) | k (j : Nat)
inductive Rv where
  | pu (d : D) | fr (c : C) | ow (c : C) | bo (i : Nat) (ph : List Sp) (c : C)

structure Exn where
  x : Nat
  ds : List D

abbrev Loc := List C
inductive Res (α : Type) where
  | ok (a : α) (τ : Loc) | exc (x : Exn) (τ : Loc) | stk
def Res.bind {α β : Type} (r : Res α) (f : α → Loc → Res β) : Res β := match r with
  | .ok a τ => f a τ
  | .exc x τ => .exc x τ
  | .stk => .stk
/-- of a call: what comes back, and what its arguments hold -/
abbrev CRes := Res C
inductive SRes where
  | nx (τ : Loc) | ret (c : C) (τ : Loc) | brk (τ : Loc) | cont (τ : Loc) | exc (x : Exn) (τ : Loc) | stk

inductive Bop where
  | add | sub | mul | fdiv | mod | pow
inductive Cop where
  | eq | ne | lt | le | gt | ge | isin | notin
inductive Ty where
  | int | bool | str | tup | lst | cls (c : Nat)
inductive Bi where
  | len | int | str | tuple | list | listD | all | any | max2 | fmt
inductive Mi where
  | append | insert | pop | popAt | split | join | index
mutual
/-- a target -/
inductive Tg where
  | n (i : Nat) | t (ts : Tgs) | f (i : Nat) (n : Str)
inductive Tgs where
  | nil | cons (t : Tg) (ts : Tgs)
end

mutual
inductive E where
  | k (d : D) | rd (p : P) | mv (i : Nat) | kd (ks vs : List D) | inG (neg : Bool) (a : E) (ks : List D) | idxG (i : E) (ks vs : List D)
  | bin (o : Bop) (a b : E) | cmp (o : Cop) (a b : E) | eqo (a b : E) | chain (o o' : Cop) (a b c : E)
  | isN (a : E) | isntN (a : E)
  | and (a b : E) | or (a b : E) | not (a : E) | ife (t : T) (a b : E)
  | tup (es : Es) | lst (es : Es) | dic (ks : List D) (vs : Es)
  | idx (a i : E) | fld (a : E) (f : Str) | sli (a : E) (lo hi : Eo) | rev (a : E)
  | lc (own : List Nat) (tg : Tg) (it : I) (t : T) (e : E)
  | dc (own : List Nat) (tg : Tg) (it : I) (t : T) (k v : E)
  | call (f : Nat) (as : Es) | callf (i : Nat) (as : Es) | callc (i : Nat) (as : Es) | calll (f : Nat) (as : Es) (l : Nat) (is : List Nat) | methl (m : Str) (o : E) (l : Nat) (is : List Nat) | make (c : Nat) (as : Es) | makes (c : Nat) (a : E)
  | meth (m : Str) (o : E) (as : Es)
  | isi (a : E) (t : Ty) | bi (b : Bi) (as : Es) | mi (m : Mi) (o : E) (as : Es)
  | fstr (es : Es) | fz (e : E) | ow (e : E) | cat (a b : E)
inductive Es where
  | nil | cons (e : E) (es : Es)
inductive Eo where
  | no | so (e : E)
inductive P where
  | v (i : Nat) | f (p : P) (n : Str) | x (p : P) (i : E)
inductive I where
  | l (e : E) | rng (a : E) | rng2 (a b : E) | enum (e : E) | zip (a b : E)
/-- a test -/
inductive T where
  | yes | e (a : E) | and (a b : T) | or (a b : T) | not (a : T)
end
/-- what an except suite may store -/
inductive He where
  | k (d : D) | xf (f : Nat) | tup (hs : List He) | lst (hs : List He)
mutual
inductive S where
  | asg (i : Nat) (e : E) | asgT (tg : Tg) (e : E) | par (i j : Nat) (as : Es)
  | setF (p : P) (f : Str) (e : E) | setX (p : P) (i : E) (e : E)
  | aug (i : Nat) (e : E) | augF (p : P) (f : Str) (e : E)
  | ex (e : E) | ife (t : T) (a b : Ss) | for (tg : Tg) (it : I) (body : Ss) | while (t : T) (body : Ss)
  | ret (e : E) | retN | raise (x : Nat) (as : Es)
  | try (body : Ss) (hs : Hs) | pass | brk | cont | fz (i : Nat) | kill (i : Nat)
inductive Ss where
  | nil | cons (s : S) (ss : Ss)
inductive Hs where
  | nil | cons (x : Nat) (h : Hd) (hs : Hs) | as (x : Nat) (i : Nat) (h : Hd) (hs : Hs)
inductive Hd where
  | asg (i : Nat) (e : He) | setX (p : P) (j : Nat) (e : He)
end

/-! ### plain operations -/
def D.isD : D → Bool
  | .dic _ _ | .obj _ _ _ | .fn _ | .clo _ _ => false
  | _ => true
mutual
def D.eqb : D → D → Bool
  | .non, .non => true
  | .bl a, .bl b => a == b
  | .bl a, .int b => (if a then 1 else 0) == b
  | .int a, .bl b => a == (if b then 1 else 0)
  | .int a, .int b => a == b
  | .str a, .str b => a == b
  | .tup as, .tup bs => eqbs as bs
  | .lst as, .lst bs => eqbs as bs
  | _, _ => false
def eqbs : List D → List D → Bool
  | [], [] => true
  | a :: as, b :: bs => a.eqb b && eqbs as bs
  | _, _ => false
end
mutual
/-- how deep; great where it is no plain data -/
def D.dep : D → Nat
  | .tup ds => deps ds + 1
  | .lst ds => deps ds + 1
  | .dic _ _ | .obj _ _ _ | .fn _ | .clo _ _ => 1000
  | .str s => if PyData.strOk s then 0 else 1000
  | _ => 0
def deps : List D → Nat
  | [] => 0
  | d :: ds => max d.dep (deps ds)
end
def big : Nat := 16000000
/-- the data of a list -/
def listOf : C → Option (List D)
  | .pu (.lst ds) => some ds
  | .lst cs => pures cs
  | _ => none
/-- .. of a list or a tuple -/
def seqOf : C → Option (List D)
  | .pu (.tup ds) => some ds
  | c => listOf c
def Rv.c : Rv → C
  | .pu d => .pu d
  | .fr c => c
  | .ow c => c
  | .bo _ _ c => c
def ixN (n : Nat) (i : Int) : Option Nat := if 0 ≤ i then (if i < n then some i.toNat else none) else if -(n : Int) ≤ i then some (i + n).toNat else none
def signs (x : Str) : List D := x.cps.toList.map fun c => .str ⟨#[c]⟩
def sIx (n d : Nat) : Option Int → Nat
  | none => d
  | some v => if v < 0 then (v + (n : Int)).toNat else min v.toNat n
def cut {α : Type} (xs : List α) (lo hi : Option Int) : List α := (xs.drop (sIx xs.length 0 lo)).take (sIx xs.length xs.length hi - sIx xs.length 0 lo)
def addC : C → C → Option Rv
  | .pu (.int a), .pu (.int b) => some (.pu (.int (a + b)))
  | .pu (.str a), .pu (.str b) => if a.length + b.length ≤ big then some (.pu (.str (a ++ b))) else none
  | .pu (.tup a), .pu (.tup b) => if a.length + b.length ≤ big then some (.pu (.tup (a ++ b))) else none
  | a, b => match listOf a, listOf b with
    | some x, some y => if x.length + y.length ≤ big then some (.fr (.lst ((x ++ y).map .pu))) else none
    | _, _ => none
def subC : C → C → Option Rv
  | .pu (.int a), .pu (.int b) => some (.pu (.int (a - b)))
  | _, _ => none
def mulC : C → C → Option Rv
  | .pu (.int a), .pu (.int b) => if -(2 ^ 64) < b ∧ b < 2 ^ 64 then some (.pu (.int (a * b))) else none
  | .pu (.tup a), .pu (.int b) => if 2 ≤ b ∧ b ≤ 1000 ∧ a.length ≤ 1000 ∧ 0 < a.length then some (.pu (.tup (List.replicate b.toNat a).flatten)) else none
  | .lst cs, .pu (.int b) => match pures cs with
    | some x => if 0 ≤ b ∧ b ≤ 1000 ∧ x.length ≤ 1000 then some (.fr (.lst ((List.replicate b.toNat x).flatten.map .pu))) else none
    | none => none
  | _, _ => none
def fdivC : C → C → Option Rv
  | .pu (.int a), .pu (.int b) => if 0 < b ∧ b < 1073741824 then some (.pu (.int (a / b))) else none
  | _, _ => none
def modC : C → C → Option Rv
  | .pu (.int a), .pu (.int b) => if 0 < b then some (.pu (.int (a % b))) else none
  | _, _ => none
def powC : C → C → Option Rv
  | .pu (.int a), .pu (.int b) => if 0 ≤ b ∧ b ≤ 1000 ∧ a.natAbs < 1000 then some (.pu (.int (a ^ b.toNat))) else none
  | _, _ => none
def binop : Bop → C → C → Option Rv
  | .add => addC
  | .sub => subC
  | .mul => mulC
  | .fdiv => fdivC
  | .mod => modC
  | .pow => powC
def subStr (a b : Str) : Bool := !(Builtin.Str.occurrences b a 0 b.length 1).isEmpty
def flat : D → Bool
  | .int _ => true
  | .str _ => true
  | _ => false
def isFl : D → Bool
  | .non | .bl _ | .int _ | .str _ => true
  | _ => false
def inSeq (x : D) (c : C) : Option Bool := match seqOf c with
  | some ds => if isFl x && ds.all isFl then some (ds.any (·.eqb x)) else (match listOf c with
    | some es => if x.dep ≤ 60 ∧ deps es ≤ 60 then some (es.any (·.eqb x)) else none
    | none => none)
  | none => none
def isIn (x : D) : C → Option Bool
  | .pu (.str s) => match x with
    | .str t => some (subStr t s)
    | _ => none
  | .pu (.dic ks _) => if flat x then some (ks.any (·.eqb x)) else none
  | .dic ks _ => if flat x then some (ks.any (·.eqb x)) else none
  | c => inSeq x c
def eqC (a b : C) : Option Bool := if a.fz.dep ≤ 60 ∧ b.fz.dep ≤ 60 then some (a.fz.eqb b.fz) else none
def intC (f : Int → Int → Bool) : C → C → Option Bool
  | .pu (.int a), .pu (.int b) => some (f a b)
  | _, _ => none
def inC : C → C → Option Bool
  | .pu a, b => isIn a b
  | _, _ => none
def cmpop : Cop → C → C → Option Bool
  | .eq => eqC
  | .ne => fun a b => (eqC a b).map (!·)
  | .lt => intC fun a b => decide (a < b)
  | .le => intC fun a b => decide (a ≤ b)
  | .gt => intC fun a b => decide (b < a)
  | .ge => intC fun a b => decide (b ≤ a)
  | .isin => inC
  | .notin => fun a b => (inC a b).map (!·)
/-- truth -/
def truth : C → Option Bool
  | .pu .non => some false
  | .pu (.bl b) => some b
  | .pu (.int i) => some (i != 0)
  | .pu (.str s) => if s.length ≤ big then some (s.length != 0) else none
  | .pu (.tup ds) => some (!ds.isEmpty)
  | .pu (.lst ds) => some (!ds.isEmpty)
  | .lst cs => some (!cs.isEmpty)
  | _ => none
def tyB : Ty → String → Option Bool
  | .int, n => some (n == "int" || n == "bool")
  | .bool, n => some (n == "bool")
  | .str, n => some (n == "str")
  | .tup, n => some (n == "tuple")
  | .lst, n => some (n == "list")
  | .cls _, _ => none
def tyN : C → Option String
  | .pu .non => some "NoneType"
  | .pu (.bl _) => some "bool"
  | .pu (.int _) => some "int"
  | .pu (.str _) => some "str"
  | .pu (.tup _) => some "tuple"
  | .pu (.lst _) => some "list"
  | .pu (.dic _ _) => some "dict"
  | .lst _ => some "list"
  | .dic _ _ => some "dict"
  | _ => none
def clsOf : C → Option Nat
  | .pu (.obj c _ _) => some c
  | .obj c _ _ => some c
  | _ => none
def typeIs (t : Ty) (c : C) : Option Bool := match t with
  | .cls k => if clsOf c = some k then some true else none
  | t => (tyN c).bind (tyB t)
def lookN {α : Type} (n : Str) : List Str → List α → Option α
  | m :: ms, d :: ds => if m = n then some d else lookN n ms ds
  | _, _ => none
def putN {α : Type} (n : Str) (y : α) : List Str → List α → List Str × List α
  | m :: ms, d :: ds => if m = n then (m :: ms, y :: ds) else ((m :: (putN n y ms ds).1), (d :: (putN n y ms ds).2))
  | _, _ => ([n], [y])
/-- the place of a key -/
def keyAt (x : D) : List D → Nat → Option Nat
  | [], _ => none
  | k :: ks, j => if k.eqb x then some j else keyAt x ks (j + 1)
def C.sub : C → Sp → Option C
  | .obj _ ns cs, .f n => lookN n ns cs
  | .pu (.obj _ ns ds), .f n => (lookN n ns ds).map .pu
  | .lst cs, .k j => cs[j]?
  | .dic _ cs, .k j => cs[j]?
  | .pu (.lst ds), .k j => ds[j]?.map .pu
  | .pu (.tup ds), .k j => ds[j]?.map .pu
  | .pu (.dic _ vs), .k j => vs[j]?.map .pu
  | _, _ => none
def C.put : C → Sp → C → C
  | .obj c ns cs, .f n, y => .obj c (putN n y ns cs).1 (putN n y ns cs).2
  | .lst cs, .k j, y => .lst (cs.set j y)
  | .dic ks cs, .k j, y => .dic ks (cs.set j y)
  | c, _, _ => c
def C.get : C → List Sp → Option C
  | c, [] => some c
  | c, p :: ps => (c.sub p).bind fun d => d.get ps
def C.set : C → List Sp → C → C
  | _, [], y => y
  | c, p :: ps, y => match c.sub p with
    | some d => c.put p (d.set ps y)
    | none => c
def look (τ : Loc) (i : Nat) : C := τ.getD i .un
/-- the index x of c as a step -/
def stepAt (c : C) (x : D) : Option Nat := match c, x with
  | .lst cs, .int i => ixN cs.length i
  | .pu (.lst ds), .int i => ixN ds.length i
  | .pu (.tup ds), .int i => ixN ds.length i
  | .dic ks _, x => if flat x then keyAt x ks 0 else none
  | .pu (.dic ks _), x => if flat x then keyAt x ks 0 else none
  | _, _ => none
def wipe (own : List Nat) (τ : Loc) : Loc := own.foldl (fun τ i => τ.set i .un) τ
def back (own : List Nat) (τ0 τ : Loc) : Loc := own.foldl (fun τ i => τ.set i (look τ0 i)) τ
mutual
def asgT : Tg → D → Loc → Option Loc
  | .n i, d, τ => some (τ.set i (.pu d))
  | .t ts, .tup ds, τ => asgTs ts ds τ
  | .f i n, d, τ => (match look τ i with
    | .obj k ns cs => if cs.length < 900 then some (τ.set i (.obj k (putN n (.pu d) ns cs).1 (putN n (.pu d) ns cs).2)) else none
    | _ => none)
  | _, _, _ => none
def asgTs : Tgs → List D → Loc → Option Loc
  | .nil, [], τ => some τ
  | .cons t ts, d :: ds, τ => (asgT t d τ).bind fun τ' => asgTs ts ds τ'
  | _, _, _ => none
end
def boolsOf : List D → Option (List Bool)
  | [] => some []
  | .bl b :: ds => (boolsOf ds).map (b :: ·)
  | _ => none
def strsOf : List D → Option (List Str)
  | [] => some []
  | .str b :: ds => (strsOf ds).map (b :: ·)
  | _ => none
def lenOf : C → Option Nat
  | .pu (.str s) => some s.length
  | .pu (.tup ds) => some ds.length
  | .pu (.lst ds) => some ds.length
  | .lst cs => some cs.length
  | _ => none
def lenB : List C → Option Rv
  | [c] => (lenOf c).bind fun n => if n ≤ big then some (.pu (.int n)) else none
  | _ => none
def intB : List C → Option Rv
  | [.pu (.int i)] => some (.pu (.int i))
  | [.pu (.bl b)] => some (.pu (.int (if b then 1 else 0)))
  | [.pu (.str s)] => match PySem.intText? s with
    | some n => if s.length ≤ 640 then some (.pu (.int n)) else none
    | none => none
  | _ => none
def strB : List C → Option Rv
  | [.pu (.int i)] => if i.natAbs < 1000000 then some (.pu (.str (toString i))) else none
  | [.pu (.str s)] => some (.pu (.str s))
  | _ => none
def tupleB : List C → Option Rv
  | [c] => (seqOf c).map fun ds => .pu (.tup ds)
  | _ => none
def listB : List C → Option Rv
  | [c] => (seqOf c).map fun ds => .fr (.lst (ds.map .pu))
  | _ => none
def listDB : List C → Option Rv
  | [.pu (.dic ks _)] => some (.fr (.lst (ks.map .pu)))
  | [.dic ks _] => some (.fr (.lst (ks.map .pu)))
  | _ => none
def allB : List C → Option Rv
  | [c] => (listOf c).bind fun ds => (boolsOf ds).map fun bs => .pu (.bl (bs.all id))
  | _ => none
def anyB : List C → Option Rv
  | [c] => (listOf c).bind fun ds => (boolsOf ds).map fun bs => .pu (.bl (bs.any id))
  | _ => none
def max2B : List C → Option Rv
  | [.pu (.int i), .pu (.int j)] => some (.pu (.int (if j > i then j else i)))
  | _ => none
def fmtB : List C → Option Rv
  | [.pu (.int i)] => if i.natAbs < 1000000 then some (.pu (.str (toString i))) else none
  | [.pu (.str s)] => if s.length ≤ big then some (.pu (.str s)) else none
  | _ => none
def bi : Bi → List C → Option Rv
  | .len => lenB
  | .int => intB
  | .str => strB
  | .tuple => tupleB
  | .list => listB
  | .listD => listDB
  | .all => allB
  | .any => anyB
  | .max2 => max2B
  | .fmt => fmtB
def sumLen (xs : List Str) : Nat := (xs.map (·.length)).sum
/-- methods of texts -/
def miS : Mi → D → List D → Option Rv
  | .split, .str a, [.str b] => if b.length ≠ 0 ∧ a.length ≤ big then some (.fr (.lst ((Txt.split a b).map fun x => .pu (.str x)))) else none
  | _, _, _ => none
/-- methods that change a list: what they give, what the list is then -/
def miL : Mi → List C → List C → Option (Rv × List C)
  | .append, cs, [c] => if cs.length < big then some (.pu .non, cs ++ [c]) else none
  | .pop, cs, [] => match cs[cs.length - 1]? with
    | some (.pu d) => some (.pu d, cs.dropLast)
    | _ => none
  | .popAt, cs, [.pu (.int i)] => if cs.length ≤ big then (match ixN cs.length i with
    | some j => match cs[j]? with
      | some (.pu d) => some (.pu d, cs.eraseIdx j)
      | _ => none
    | none => none) else none
  | .insert, cs, [.pu (.int i), c] => if 0 ≤ i ∧ i ≤ cs.length ∧ cs.length < big then some (.pu .non, cs.take i.toNat ++ [c] ++ cs.drop i.toNat) else none
  | _, _, _ => none

def ownArg : C → Bool
  | .pu _ => false
  | _ => true
/-! ### the program around -/
structure Kx where
  call : Nat → List C → CRes
  meth : Nat → Str → Option Nat
  init : Nat → Nat
  sub : Nat → Nat → Bool
  xar : Nat → Nat
  fuel : Nat

/-- a fresh thing goes as data -/
def fzFr : Rv → Rv
  | .fr c => .pu c.fz
  | r => r
def roots : List Rv → List Nat
  | [] => []
  | .bo i _ _ :: rs => i :: roots rs
  | _ :: rs => roots rs
/-- the borrowed ones go back -/
def backTo : List Rv → List C → Loc → Loc
  | .bo i ph _ :: rs, o :: os, τ => backTo rs os (τ.set i ((look τ i).set ph o))
  | _ :: rs, _ :: os, τ => backTo rs os τ
  | _, _, τ => τ
def nodupB : List Nat → Bool
  | [] => true
  | i :: is => !is.contains i && nodupB is
def rvRes : C → Rv
  | .pu d => .pu d
  | c => .fr c
def C.isUn : C → Bool
  | .un => true
  | _ => false
/-- what was lent is there again -/
def backOk : List Rv → List C → Bool
  | [], _ => true
  | _ :: rs, o :: os => !o.isUn && backOk rs os
  | _ :: _, [] => false
def callR (f : List C → CRes) (rs : List Rv) (τ : Loc) : Res Rv :=
  if nodupB (roots rs) then match f (rs.map Rv.c) with
    | .ok c os => if backOk rs os then .ok (rvRes c) (backTo rs os τ) else .stk
    | .exc x os => if backOk rs os then .exc x (backTo rs os τ) else .stk
    | .stk => .stk
  else .stk
def doCall (κ : Kx) (f : Nat) (rs : List Rv) (τ : Loc) : Res Rv := callR (κ.call f) (rs.map fzFr) τ
/-- what C(..) gives: the object, behind its __init__ -/
def mkOf (f : List C → CRes) (c : Nat) (as : List C) : CRes := match f (.obj c [] [] :: as) with
  | .ok (.pu .non) (o :: os) => if o.isUn then .stk else .ok o os
  | .exc x (_ :: os) => .exc x os
  | _ => .stk
/-- a truth comes back -/
def blOnly (f : List C → CRes) (as : List C) : CRes := match f as with
  | .ok (.pu (.bl b)) os => .ok (.pu (.bl b)) os
  | .exc x os => .exc x os
  | _ => .stk
def doMake (κ : Kx) (c : Nat) (rs : List Rv) (τ : Loc) : Res Rv := callR (mkOf (κ.call (κ.init c)) c) (rs.map fzFr) τ
def lift (o : Option Rv) (τ : Loc) : Res Rv := match o with
  | some r => .ok r τ
  | none => .stk
def lcLoop {α : Type} (f : D → Loc → Res (Option α)) : List D → Loc → Res (List α)
  | [], τ => .ok [] τ
  | d :: ds, τ => (f d τ).bind fun o τ1 => (lcLoop f ds τ1).bind fun as τ2 => match o with
    | some a => .ok (a :: as) τ2
    | none => .ok as τ2
/-- a dict with an item put in -/
def dPut (ks : List D) (cs : List C) (k : D) (c : C) : List D × List C := match keyAt k ks 0 with
  | some j => (ks, cs.set j c)
  | none => (ks ++ [k], cs ++ [c])
def dPuts : List (D × C) → List D → List C → List D × List C
  | [], ks, cs => (ks, cs)
  | (k, c) :: r, ks, cs => dPuts r (dPut ks cs k c).1 (dPut ks cs k c).2
def Rv.fz : Rv → Option D
  | .pu d => some d
  | .fr c => some c.fz
  | _ => none
/-- kept as it is (fresh), or data -/
def Rv.keep : Rv → Option C
  | .pu d => some (.pu d)
  | .fr c => some c
  | _ => none
def strRes (τ : Loc) (s : Str) : Res Rv := if s.length ≤ big then .ok (.pu (.str s)) τ else .stk

def toF (r : Res Rv) : Res D := r.bind fun x τ => match x.fz with
  | some d => .ok d τ
  | none => .stk
def fzAll : List Rv → Option (List D)
  | [] => some []
  | r :: rs => r.fz.bind fun d => (fzAll rs).map (d :: ·)
def keepAll : List Rv → Option (List C)
  | [] => some []
  | r :: rs => r.keep.bind fun d => (keepAll rs).map (d :: ·)
def tupE (rs : List Rv) : Option Rv := if rs.length ≤ 1000 then (fzAll rs).map fun ds => .pu (.tup ds) else none
def lstE (rs : List Rv) : Option Rv := if rs.length ≤ 1000 then (keepAll rs).map fun cs => .fr (.lst cs) else none
/-- the things in a list, owned or data -/
def catC : Rv → Option (List C)
  | .fr (.lst cs) => some cs
  | r => (listOf r.c).map fun ds => ds.map .pu
def catE (x y : Rv) : Option Rv := match catC x, catC y with
  | some a, some b => if a.length + b.length ≤ big then some (.fr (.lst (a ++ b))) else none
  | _, _ => none
def optR {α : Type} (o : Option α) (τ : Loc) : Res α := match o with
  | some a => .ok a τ
  | none => .stk
def eqName : Str := ⟨#[95, 95, 101, 113, 95, 95]⟩
def rvOf (q : Nat × List Sp × C) : Rv := match q.2.2 with
  | .pu d => .pu d
  | c => .bo q.1 q.2.1 c
def rdC (q : Nat × List Sp × C) (τ : Loc) : Res Rv := .ok (rvOf q) τ
def mvC (i : Nat) (τ : Loc) : Res Rv := match look τ i with
  | .un => .stk
  | .pu d => .ok (.pu d) τ
  | c => .ok (.fr c) (τ.set i .un)
def sameCls (x y : C) : Option Nat := (clsOf x).bind fun c => if clsOf y = some c then some c else none
def eqoE (κ : Kx) (x y : Rv) (τ : Loc) : Res Rv := match (sameCls x.c y.c).bind fun c => κ.meth c eqName with
  | some f => callR (blOnly (κ.call f)) ([x, y].map fzFr) τ
  | none => .stk
def noneC : C → Option Bool
  | .un => none
  | .pu (.clo _ _) => none
  | .pu .non => some true
  | _ => some false
def isNone (x : Rv) : Option Bool := noneC x.c
def idxE (x : Rv) (d : D) (τ : Loc) : Res Rv := match stepAt x.c d with
  | some j => (match x.c.sub (.k j) with
    | some (.pu d) => .ok (.pu d) τ
    | some .un => .stk
    | some c => (match x with
      | .fr _ => .ok (.fr c) τ
      | _ => .stk)
    | none => .stk)
  | none => .stk
def fldE (x : Rv) (f : Str) (τ : Loc) : Res Rv := match x.c.sub (.f f) with
  | some (.pu d) => .ok (.pu d) τ
  | _ => .stk
def sliC (c : C) (l u : Option Int) : Option Rv := match c with
  | .pu (.str s) => if s.length ≤ big then some (.pu (.str ⟨(cut s.cps.toList l u).toArray⟩)) else none
  | .pu (.tup ds) => some (.pu (.tup (cut ds l u)))
  | c => (listOf c).map fun ds => .fr (.lst ((cut ds l u).map .pu))
def sliE (x : Rv) (l u : Option Int) (τ : Loc) : Res Rv := lift (sliC x.c l u) τ
def callfE (κ : Kx) (i : Nat) (g : Loc → Res (List Rv)) (τ : Loc) : Res Rv := match look τ i with
  | .pu (.fn f) => (g τ).bind fun rs τ1 => doCall κ f rs τ1
  | _ => .stk
def methF (κ : Kx) (m : Str) (x : Rv) : Option Nat := (clsOf x.c).bind fun c => κ.meth c m
def methE (κ : Kx) (m : Str) (g : Loc → Res (List Rv)) (x : Rv) (τ : Loc) : Res Rv := match methF κ m x with
  | some f => (g τ).bind fun rs τ1 => doCall κ f (x :: rs) τ1
  | none => .stk
/-- the slots' data, no closures among them -/
def capE (is : List Nat) (τ : Loc) : Res (List D) := match pures (is.map (look τ)) with
  | some ws => if noClos ws then .ok ws τ else .stk
  | none => .stk
def lamCall (κc : List C → CRes) (l : Nat) (ds ws : List D) (τ : Loc) : Res Rv := match κc (ds.map C.pu ++ [.pu (.clo l ws)]) with
  | .ok c _ => if c.noClo then .ok (rvRes c) τ else .stk
  | .exc x _ => if noClos x.ds then .exc x τ else .stk
  | .stk => .stk
/-- o.m(lambda ..), o data -/
def methlE (κ : Kx) (m : Str) (l : Nat) (is : List Nat) (d : D) (τ : Loc) : Res Rv := match methF κ m (.pu d) with
  | some f => (capE is τ).bind fun ws τ2 => lamCall (κ.call f) l [d] ws τ2
  | none => .stk
def clE (κc : List C → CRes) (ws ds : List D) (τ : Loc) : Res Rv := if noClos ds then (match κc (ds.map C.pu ++ ws.map C.pu) with
  | .ok (.pu d) _ => .ok (.pu d) τ
  | _ => .stk) else .stk
def callcE (κ : Kx) (i : Nat) (g : Loc → Res (List Rv)) (τ : Loc) : Res Rv := match look τ i with
  | .pu (.clo l ws) => ((g τ).bind fun rs τ => optR (fzAll rs) τ).bind (clE (κ.call l) ws)
  | _ => .stk
def joinE (a : D) (rs : List Rv) (τ : Loc) : Res Rv := match a, rs with
  | .str a, [r] => (match (seqOf r.c).bind strsOf with
    | some xs => if sumLen xs + a.length * xs.length ≤ 16000000 then .ok (.pu (.str (Txt.join a xs))) τ else .stk
    | none => .stk)
  | _, _ => .stk
def indexE (x : Rv) (rs : List Rv) (τ : Loc) : Res Rv := match listOf x.c, fzAll rs with
  | some xs, some [d] => if d.dep ≤ 60 ∧ deps xs ≤ 60 then (match xs.findIdx? (·.eqb d) with
    | some j => .ok (.pu (.int j)) τ
    | none => .stk) else .stk
  | _, _ => .stk
def splitE (x : Rv) (rs : List Rv) (τ : Loc) : Res Rv := match x.fz, fzAll rs with
  | some d, some ds => lift (miS .split d ds) τ
  | _, _ => .stk
def changeE (m : Mi) (x : Rv) (rs : List Rv) (τ : Loc) : Res Rv := match x, keepAll rs with
  | .bo i ph _, some cs => (match (look τ i).get ph with
    | some (.lst xs) => (match miL m xs cs with
      | some (r, ys) => .ok r (τ.set i ((look τ i).set ph (.lst ys)))
      | none => .stk)
    | _ => .stk)
  | _, _ => .stk
def miR (m : Mi) (x : Rv) (rs : List Rv) (τ : Loc) : Res Rv := match m with
  | .join => (match x.fz with
    | some d => joinE d rs τ
    | none => .stk)
  | .split => splitE x rs τ
  | .index => indexE x rs τ
  | m => changeE m x rs τ
/-- the method is one of what x is -/
def miOk (m : Mi) (x : Rv) : Bool := match m with
  | .join | .split => (match x with | .pu (.str _) => true | _ => false)
  | .index => (listOf x.c).isSome
  | _ => (match x with | .bo _ _ (.lst _) => true | _ => false)
def miE (m : Mi) (g : Loc → Res (List Rv)) (x : Rv) (τ : Loc) : Res Rv := if miOk m x then (g τ).bind fun rs τ1 => miR m x rs τ1 else .stk
/-- one part more of a text -/
def jStep (acc : Str) (f : Str → Loc → Res Str) (d : D) (τ : Loc) : Res Str := match d with
  | .str y => if (acc ++ y).length ≤ big then f (acc ++ y) τ else .stk
  | _ => .stk
def nodupD : List D → Bool
  | [] => true
  | k :: ks => !ks.any (·.eqb k) && nodupD ks
def dicE (ks : List D) (cs : List C) : Option Rv :=
  if ks.all flat && nodupD ks && decide (ks.length ≤ 15) && decide (ks.length = cs.length) then some (.fr (.dic ks cs)) else none
/-- what a for walks -/
def itemsOf : C → Option (List D)
  | .pu (.str s) => some (signs s)
  | .pu (.dic ks _) => if ks.all flat then some ks else none
  | c => seqOf c
def rngOf (i j : Int) : Option (List D) := if -1000000 ≤ i ∧ i ≤ 1000000 ∧ -1000000 ≤ j ∧ j ≤ 1000000 then some ((List.range (j - i).toNat).map fun (k : Nat) => .int (i + (k : Int))) else none
def enumOf (ds : List D) (k : Nat) : List D := match ds with
  | [] => []
  | d :: ds => .tup [.int k, d] :: enumOf ds (k + 1)
def zipOf : List D → List D → List D
  | a :: as, b :: bs => .tup [a, b] :: zipOf as bs
  | _, _ => []
def rng1E (d : D) (τ : Loc) : Res (List D) := match d with
  | .int j => optR (rngOf 0 j) τ
  | _ => .stk
def rng2E (d e : D) (τ : Loc) : Res (List D) := match d, e with
  | .int i, .int j => optR (rngOf i j) τ
  | _, _ => .stk
def zipE (r q : Rv) (τ : Loc) : Res (List D) := match r.c, q.c with
  | .pu (.tup ds), .pu (.str s) => .ok (zipOf ds (signs s)) τ
  | _, _ => .stk
def inGE (neg : Bool) (ks : List D) (d : D) (τ : Loc) : Res Rv := match d with
  | .str s => .ok (.pu (.bl (if neg then !(ks.any (·.eqb (.str s))) else ks.any (·.eqb (.str s))))) τ
  | _ => .stk
def idxGE (ks vs : List D) (d : D) (τ : Loc) : Res Rv := match d with
  | .str s => (match keyAt (.str s) ks 0 with
    | some j => (match vs[j]? with
      | some v => .ok (.pu v) τ
      | none => .stk)
    | none => .stk)
  | _ => .stk
def truthE (r : Rv) (τ : Loc) : Res Bool := optR (truth r.c) τ
/-- nothing may be raised -/
def noX {α : Type} : Res α → Res α
  | .exc _ _ => .stk
  | r => r
/-- the slots hold data or nothing -/
def freeO (own : List Nat) (τ : Loc) : Bool := own.all fun i => match look τ i with
  | .un => true
  | .pu _ => true
  | _ => false
def putBack (own : List Nat) (τ0 : Loc) (r : Res (List D)) : Res Rv := if freeO own τ0 then (noX r).bind fun ds τ => (if ds.length ≤ big then .ok (.fr (.lst (ds.map .pu))) (back own τ0 τ) else .stk) else .stk
def putBackD (own : List Nat) (τ0 : Loc) (r : Res (List (D × C))) : Res Rv := if freeO own τ0 then (noX r).bind fun kvs τ => (if kvs.length ≤ big then .ok (.fr (.dic (dPuts kvs [] []).1 (dPuts kvs [] []).2)) (back own τ0 τ) else .stk) else .stk
/-- one turn of a comprehension -/
def lcTurn (own : List Nat) (tg : Tg) (ft : Loc → Res Bool) (fe : Loc → Res D) (d : D) (τ : Loc) : Res (Option D) := (optR (asgT tg d (wipe own τ)) τ).bind fun τ' _ =>
  (ft τ').bind fun b τ2 => if b then (fe τ2).bind fun d τ3 => .ok (some d) τ3 else .ok none τ2

section
variable (κ : Kx)
mutual
def ev : E → Loc → Res Rv
  | .k d, τ => .ok (.pu d) τ
  | .rd p, τ => (evP p τ).bind rdC
  | .mv i, τ => mvC i τ
  | .kd ks vs, τ => .ok (.fr (.dic ks (vs.map .pu))) τ
  | .inG neg a ks, τ => (toF (ev a τ)).bind fun d τ1 => inGE neg ks d τ1
  | .idxG i ks vs, τ => (toF (ev i τ)).bind fun d τ1 => idxGE ks vs d τ1
  | .bin o a b, τ => (ev a τ).bind fun x τ1 => (ev b τ1).bind fun y τ2 => lift (binop o x.c y.c) τ2
  | .cmp o a b, τ => (ev a τ).bind fun x τ1 => (ev b τ1).bind fun y τ2 => lift ((cmpop o x.c y.c).map fun b => .pu (.bl b)) τ2
  | .eqo a b, τ => (ev a τ).bind fun x τ1 => (ev b τ1).bind fun y τ2 => eqoE κ x y τ2
  | .chain o o' a b c, τ => (ev a τ).bind fun x τ1 => (ev b τ1).bind fun y τ2 => (optR (cmpop o x.c y.c) τ2).bind fun t τ2 =>
    if t then (ev c τ2).bind fun z τ3 => lift ((cmpop o' y.c z.c).map fun b => .pu (.bl b)) τ3 else .ok (.pu (.bl false)) τ2
  | .isN a, τ => (ev a τ).bind fun x τ1 => lift ((isNone x).map fun b => .pu (.bl b)) τ1
  | .isntN a, τ => (ev a τ).bind fun x τ1 => lift ((isNone x).map fun b => .pu (.bl (!b))) τ1
  | .and a b, τ => (ev a τ).bind fun x τ1 => match x with
    | .pu (.bl c) => if c then ev b τ1 else .ok (.pu (.bl false)) τ1
    | _ => .stk
  | .or a b, τ => (ev a τ).bind fun x τ1 => match x with
    | .pu (.bl c) => if c then .ok (.pu (.bl true)) τ1 else ev b τ1
    | _ => .stk
  | .not a, τ => (ev a τ).bind fun x τ1 => match x with
    | .pu (.bl b) => .ok (.pu (.bl (!b))) τ1
    | _ => .stk
  | .ife t a b, τ => (evT t τ).bind fun c τ1 => if c then ev a τ1 else ev b τ1
  | .tup es, τ => (evs es τ).bind fun rs τ1 => lift (tupE rs) τ1
  | .lst es, τ => (evs es τ).bind fun rs τ1 => lift (lstE rs) τ1
  | .dic ks vs, τ => (evs vs τ).bind fun rs τ1 => lift ((keepAll rs).bind fun cs => dicE ks cs) τ1
  | .idx a i, τ => (ev a τ).bind fun x τ1 => (toF (ev i τ1)).bind fun d τ2 => idxE x d τ2
  | .fld a f, τ => (ev a τ).bind fun x τ1 => fldE x f τ1
  | .sli a lo hi, τ => (ev a τ).bind fun x τ1 => (evO lo τ1).bind fun l τ2 => (evO hi τ2).bind fun u τ3 => sliE x l u τ3
  | .rev a, τ => (ev a τ).bind fun x τ1 => lift ((listOf x.c).map fun ds => .fr (.lst (ds.reverse.map .pu))) τ1
  | .lc own tg it t e, τ => (evI it τ).bind fun items τ1 => putBack own τ1 (lcLoop (lcTurn own tg (evT t) fun τ => toF (ev e τ)) items τ1)
  | .dc own tg it t k v, τ => (evI it τ).bind fun items τ1 => putBackD own τ1 (lcLoop (fun d τ => (optR (asgT tg d (wipe own τ)) τ).bind fun τ' _ =>
      (evT t τ').bind fun b τ2 => if b then (toF (ev k τ2)).bind fun d τ3 => (ev v τ3).bind fun r τ4 => (optR r.keep τ4).bind fun c τ4 => .ok (some (d, c)) τ4 else .ok none τ2) items τ1)
  | .call f as, τ => (evs as τ).bind fun rs τ1 => doCall κ f rs τ1
  | .callf i as, τ => callfE κ i (evs as) τ
  | .callc i as, τ => callcE κ i (evs as) τ
  | .calll f as l is, τ => (evL is as τ).bind fun q τ1 => lamCall (κ.call f) l q.1 q.2 τ1
  | .methl m o l is, τ => (toF (ev o τ)).bind (methlE κ m l is)
  | .make c as, τ => (evs as τ).bind fun rs τ1 => doMake κ c rs τ1
  | .makes c a, τ => (toF (ev a τ)).bind fun d τ1 => match d with
    | .tup ds => doMake κ c (ds.map .pu) τ1
    | _ => .stk
  | .meth m o as, τ => (ev o τ).bind (methE κ m (evs as))
  | .isi a t, τ => (ev a τ).bind fun x τ1 => lift ((typeIs t x.c).map fun b => .pu (.bl b)) τ1
  | .bi b as, τ => (evs as τ).bind fun rs τ1 => lift (bi b (rs.map Rv.c)) τ1
  | .mi m o as, τ => (ev o τ).bind (miE m (evs as))
  | .fstr es, τ => (evJ es Str.empty τ).bind fun s τ1 => .ok (.pu (.str s)) τ1
  | .fz e, τ => (toF (ev e τ)).bind fun d τ1 => .ok (.pu d) τ1
  | .ow e, τ => (ev e τ).bind fun r τ1 => match r with
    | .fr c => .ok (.ow c) τ1
    | _ => .stk
  | .cat a b, τ => (ev a τ).bind fun x τ1 => (ev b τ1).bind fun y τ2 => lift (catE x y) τ2
def evs : Es → Loc → Res (List Rv)
  | .nil, τ => .ok [] τ
  | .cons e es, τ => (ev e τ).bind fun r τ1 => (evs es τ1).bind fun rs τ2 => .ok (r :: rs) τ2
def evL (is : List Nat) : Es → Loc → Res (List D × List D)
  | .nil, τ => (capE is τ).bind fun ws τ1 => .ok ([], ws) τ1
  | .cons e es, τ => (toF (ev e τ)).bind fun d τ1 => (evL is es τ1).bind fun p τ2 => .ok (d :: p.1, p.2) τ2
def evJ : Es → Str → Loc → Res Str
  | .nil, acc, τ => .ok acc τ
  | .cons e es, acc, τ => (toF (ev e τ)).bind (jStep acc (evJ es))
def evO : Eo → Loc → Res (Option Int)
  | .no, τ => .ok none τ
  | .so e, τ => (toF (ev e τ)).bind fun d τ1 => match d with
    | .int i => .ok (some i) τ1
    | _ => .stk
def evP : P → Loc → Res (Nat × List Sp × C)
  | .v i, τ => (match look τ i with
    | .un => .stk
    | c => .ok (i, [], c) τ)
  | .f p n, τ => (evP p τ).bind fun q τ1 => (optR (q.2.2.sub (.f n)) τ1).bind fun c τ1 => .ok (q.1, q.2.1 ++ [.f n], c) τ1
  | .x p i, τ => (evP p τ).bind fun q τ1 => (toF (ev i τ1)).bind fun d τ2 => (optR (stepAt q.2.2 d) τ2).bind fun j τ2 =>
    (optR (q.2.2.sub (.k j)) τ2).bind fun c τ2 => .ok (q.1, q.2.1 ++ [.k j], c) τ2
def evI : I → Loc → Res (List D)
  | .l e, τ => (ev e τ).bind fun r τ1 => optR (itemsOf r.c) τ1
  | .rng a, τ => (toF (ev a τ)).bind rng1E
  | .rng2 a b, τ => (toF (ev a τ)).bind fun d τ1 => (toF (ev b τ1)).bind fun e τ2 => rng2E d e τ2
  | .enum e, τ => (ev e τ).bind fun r τ1 => optR ((seqOf r.c).map fun ds => enumOf ds 0) τ1
  | .zip a b, τ => (ev a τ).bind fun r τ1 => (ev b τ1).bind fun q τ2 => zipE r q τ2
def evT : T → Loc → Res Bool
  | .yes, τ => .ok true τ
  | .e a, τ => (ev a τ).bind truthE
  | .and a b, τ => (evT a τ).bind fun c τ1 => if c then evT b τ1 else .ok false τ1
  | .or a b, τ => (evT a τ).bind fun c τ1 => if c then .ok true τ1 else evT b τ1
  | .not a, τ => (evT a τ).bind fun c τ1 => .ok (!c) τ1
end
end

/-! ### statements -/
mutual
def He.val (ds : List D) : He → Option D
  | .k d => some d
  | .xf f => ds[f]?
  | .tup hs => (He.vals ds hs).map .tup
  | .lst hs => (He.vals ds hs).map .lst
def He.vals (ds : List D) : List He → Option (List D)
  | [] => some []
  | h :: hs => (h.val ds).bind fun d => (He.vals ds hs).map (d :: ·)
end
def setP (q : Nat × List Sp × C) (c : C) (τ : Loc) : Loc := τ.set q.1 ((look τ q.1).set q.2.1 c)
/-- x[k] = c, x what stands there -/
def setX (x : C) (k : D) (c : C) : Option C := match x, k with
  | .lst cs, .int i => (ixN cs.length i).map fun j => .lst (cs.set j c)
  | .dic ks cs, k => if flat k = true ∧ nodupD ks = true ∧ cs.length < big then some (.dic (dPut ks cs k c).1 (dPut ks cs k c).2) else none
  | _, _ => none
def setF (x : C) (f : Str) (c : C) : Option C := match x with
  | .obj k ns cs => if cs.length < 900 then some (.obj k (putN f c ns cs).1 (putN f c ns cs).2) else none
  | _ => none
def augI (x : C) (f : Str) : Option Int := match x with
  | .obj _ ns cs => (match lookN f ns cs with
    | some (.pu (.int a)) => some a
    | _ => none)
  | _ => none
def SRes.of {α : Type} (r : Res α) (f : α → Loc → SRes) : SRes := match r with
  | .ok a τ => f a τ
  | .exc x τ => .exc x τ
  | .stk => .stk
def SRes.seq (r : SRes) (f : Loc → SRes) : SRes := match r with
  | .nx τ => f τ
  | r => r
def forLoop (f : D → Loc → SRes) : List D → Loc → SRes
  | [], τ => .nx τ
  | d :: ds, τ => match f d τ with
    | .nx τ1 => forLoop f ds τ1
    | .cont τ1 => forLoop f ds τ1
    | .brk τ1 => .nx τ1
    | r => r
def whileLoop (t : Loc → Res Bool) (f : Loc → SRes) : Nat → Loc → SRes
  | 0, _ => .stk
  | n + 1, τ => .of (t τ) fun b τ1 => if b then (match f τ1 with
    | .nx τ2 => whileLoop t f n τ2
    | .cont τ2 => whileLoop t f n τ2
    | .brk τ2 => .nx τ2
    | r => r) else .nx τ1
def hdRun (ds : List D) (h : Hd) (τ : Loc) : SRes := match h with
  | .asg i e => (match e.val ds with
    | some d => .nx (τ.set i (.pu d))
    | none => .stk)
  | .setX (.v i) j e => (match e.val ds, look τ i with
    | some d, .lst cs => if j < cs.length then .nx (τ.set i (.lst (cs.set j (.pu d)))) else .stk
    | _, _ => .stk)
  | _ => .stk
/-- .. as e: e's slot is free -/
def hdAs (i : Nat) (ds : List D) (h : Hd) (τ : Loc) : SRes := if decide (i < τ.length) && (look τ i).isUn then hdRun ds h τ else .stk
/-- i, j = .., .. -/
def parE (i j : Nat) (ds : List D) (τ : Loc) : SRes := match ds with
  | [d, e] => .nx ((τ.set i (.pu d)).set j (.pu e))
  | _ => .stk
def raiseE (n x : Nat) (ds : List D) (τ : Loc) : SRes := if ds.length = n then .exc ⟨x, ds⟩ τ else .stk
section
variable (κ : Kx)
def handle : Hs → Exn → Loc → SRes
  | .nil, x, τ => .exc x τ
  | .cons c h hs, x, τ => if κ.sub x.x c then hdRun x.ds h τ else handle hs x τ
  | .as c i h hs, x, τ => if κ.sub x.x c then (if x.x = c then hdAs i x.ds h τ else .stk) else handle hs x τ
mutual
def ex : S → Loc → SRes
  | .asg i e, τ => .of (ev κ e τ) fun r τ1 => .of (optR r.keep τ1) fun c τ1 => .nx (τ1.set i c)
  | .asgT tg e, τ => .of (toF (ev κ e τ)) fun d τ1 => .of (optR (asgT tg d τ1) τ1) fun τ2 _ => .nx τ2
  | .par i j as, τ => .of (evs κ as τ) fun rs τ1 => .of (optR (fzAll rs) τ1) fun ds τ1 => parE i j ds τ1
  | .setF p f e, τ => .of (ev κ e τ) fun r τ1 => .of (optR r.keep τ1) fun c τ1 => .of (evP κ p τ1) fun q τ2 => .of (optR (setF q.2.2 f c) τ2) fun y τ2 => .nx (setP q y τ2)
  | .setX p i e, τ => .of (ev κ e τ) fun r τ1 => .of (optR r.keep τ1) fun c τ1 => .of (evP κ p τ1) fun q τ2 => .of (toF (ev κ i τ2)) fun k τ3 => .of (optR (setX q.2.2 k c) τ3) fun y τ3 => .nx (setP q y τ3)
  | .aug i e, τ => (match look τ i with
    | .pu (.int a) => .of (toF (ev κ e τ)) fun d τ1 => (match d with
      | .int b => .nx (τ1.set i (.pu (.int (a + b))))
      | _ => .stk)
    | _ => .stk)
  | .augF p f e, τ => .of (evP κ p τ) fun q τ1 => .of (optR (augI q.2.2 f) τ1) fun a τ1 => .of (toF (ev κ e τ1)) fun d τ2 => (match d with
      | .int b => .of (optR (setF q.2.2 f (.pu (.int (a + b)))) τ2) fun y τ2 => .nx (setP q y τ2)
      | _ => .stk)
  | .ex e, τ => .of (ev κ e τ) fun _ τ1 => .nx τ1
  | .ife t a b, τ => .of (evT κ t τ) fun c τ1 => if c then exs a τ1 else exs b τ1
  | .for tg it body, τ => .of (evI κ it τ) fun items τ1 => forLoop (fun d τ => .of (optR (asgT tg d τ) τ) fun τ' _ => exs body τ') items τ1
  | .while t body, τ => whileLoop (evT κ t) (exs body) κ.fuel τ
  | .ret e, τ => .of (ev κ e τ) fun r τ1 => .of (optR r.keep τ1) fun c τ1 => .ret c τ1
  | .retN, τ => .ret (.pu .non) τ
  | .raise x as, τ => .of (evs κ as τ) fun rs τ1 => .of (optR (fzAll rs) τ1) fun ds τ1 => raiseE (κ.xar x) x ds τ1
  | .try body hs, τ => (match exs body τ with
    | .exc x τ1 => handle κ hs x τ1
    | r => r)
  | .pass, τ => .nx τ
  | .brk, τ => .brk τ
  | .cont, τ => .cont τ
  | .fz i, τ => (match look τ i with
    | .un => .stk
    | c => .nx (τ.set i (.pu c.fz)))
  | .kill i, τ => .nx (τ.set i .un)
def exs : Ss → Loc → SRes
  | .nil, τ => .nx τ
  | .cons s ss, τ => (ex s τ).seq fun τ1 => exs ss τ1
end
end
/-! ### defs -/
structure Df where
  np : Nat
  ns : Nat
  body : Ss
  /-- parameters that are never stored to -/
  io : List Nat
def ioOk (io : List Nat) : List C → Nat → Bool
  | [], _ => true
  | c :: cs, i => (!ownArg c || io.contains i) && ioOk io cs (i + 1)
def maskO : List C → Loc → List C
  | c :: cs, o :: os => (if ownArg c then o else c) :: maskO cs os
  | _, _ => []
def runDf (κ : Kx) (d : Df) (as : List C) : CRes :=
  if as.length == d.np && ioOk d.io as 0 then match exs κ d.body (as ++ List.replicate (d.ns - d.np) .un) with
    | .nx τ => .ok (.pu .non) (maskO as τ)
    | .ret c τ => .ok c (maskO as τ)
    | .exc x τ => .exc x (maskO as τ)
    | _ => .stk
  else .stk
/-- the program: its defs, constants, methods, classes -/
structure Pg where
  df : Nat → Option Df
  meth : Nat → Str → Option Nat
  init : Nat → Nat
  sub : Nat → Nat → Bool
  xar : Nat → Nat
  fuel : Nat
def Pg.call (g : Pg) : Nat → Nat → List C → CRes
  | 0, _, _ => .stk
  | n + 1, f, as => match g.df f with
    | some d => runDf ⟨g.call n, g.meth, g.init, g.sub, g.xar, g.fuel⟩ d as
    | none => .stk
def Pg.kx (g : Pg) (n : Nat) : Kx := ⟨g.call n, g.meth, g.init, g.sub, g.xar, g.fuel⟩
end DE
end
section
set_option Elab.async false
set_option linter.all false
set_option maxRecDepth 100000
set_option maxHeartbeats 1000000
/-! DE2: how plain data and owned things stand in the heap. -/
namespace DE
open PySem L2

/-- the row's written part: where the classes and the defs stand -/
structure Wd where
  K : PySem.W.Frag
  cls : Nat → Addr
  /-- the exceptions' classes -/
  xcls : Nat → Addr
  fn : Nat → Addr
  isF : Nat → Bool
  flds : Nat → List Str
  tabs : List (Addr × Str)
  clo : Nat → List D → V → Hp → Prop
  /-- the fields of an exception -/
  xfl : Nat → List Str

def WrL (K : PySem.W.Frag) (a : Addr) (xs : List V) : Prop := ∃ (o : Obj) (its : Array Value) (n : Nat), K.lookup a = some o ∧ o.cls = .type "list" ∧ o.dict = none ∧ o.data = .seq its n ∧ its.size ≤ sizeLine ∧ Vals xs its.toList
/-- a list that is never written -/
def FzL (K : PySem.W.Frag) (H : Hp) (a : Addr) (xs : List V) : Prop := (∃ o, H a = some (.frz o (.lst xs))) ∨ WrL K a xs
theorem FzL.sq {K : PySem.W.Frag} {H : Hp} {a : Addr} {xs : List V} (h : FzL K H a xs) : SqL K H a xs := by
  rcases h with h | h
  · exact .inl (.inr h)
  · exact .inr h
def dKey : Key → D
  | .inl i => .int i
  | .inr s => .str s
mutual
def RepD (W : Wd) (H : Hp) : D → V → Prop
  | .non, v => v = .non
  | .bl b, v => v = .bl b
  | .int i, v => v = .int i
  | .str s, v => v = .str s
  | .tup ds, v => ∃ (a : Addr) (vs : List V), v = .ref a ∧ H a = some (.tup vs) ∧ RepDs W H ds vs
  | .lst ds, v => ∃ (a : Addr) (vs : List V), v = .ref a ∧ FzL W.K H a vs ∧ RepDs W H ds vs
  | .dic ks ds, v => ∃ (a : Addr) (o : Obj) (kvs : List (Key × V)), v = .ref a ∧ H a = some (.frz o (.dK kvs)) ∧ ks = kvs.map (fun p => dKey p.1) ∧ RepDs W H ds (kvs.map (·.2))
  | .obj c ns ds, v => ∃ (a dx : Addr) (o : Obj) (fs : List (Str × V)), v = .ref a ∧ H a = some (.frz o (.ins (W.cls c) dx fs)) ∧ ns = fs.map (·.1) ∧ (∀ n ∈ ns, n ∈ W.flds c) ∧ RepDs W H ds (fs.map (·.2))
  | .fn f, v => v = .ref (W.fn f) ∧ W.isF f = true
  | .clo l ws, v => W.clo l ws v H
def RepDs (W : Wd) (H : Hp) : List D → List V → Prop
  | [], vs => vs = []
  | d :: ds, vs => ∃ v r, vs = v :: r ∧ RepD W H d v ∧ RepDs W H ds r
end
/-- what stays for ever stays -/
structure Keeps (H H' : Hp) : Prop where
  tup : ∀ b xs, H b = some (.tup xs) → H' b = some (.tup xs)
  frz : ∀ b o u, H b = some (.frz o u) → H' b = some (.frz o u)
  ext : ∀ b φ, H b = some (.ext φ) → H' b = some (.ext φ)
theorem Keeps.refl (H : Hp) : Keeps H H := ⟨fun _ _ h => h, fun _ _ _ h => h, fun _ _ h => h⟩
theorem Keeps.trans {H H1 H2 : Hp} (a : Keeps H H1) (b : Keeps H1 H2) : Keeps H H2 := ⟨fun c xs h => b.tup c xs (a.tup c xs h), fun c o u h => b.frz c o u (a.frz c o u h), fun c φ h => b.ext c φ (a.ext c φ h)⟩
theorem FzL.keep {K : PySem.W.Frag} {H H' : Hp} {a : Addr} {xs : List V} (k : Keeps H H') (h : FzL K H a xs) : FzL K H' a xs := by
  rcases h with ⟨o, h⟩ | h
  · exact .inl ⟨o, k.frz _ _ _ h⟩
  · exact .inr h
/-- closures stay too -/
def Wd.Ok (W : Wd) : Prop := ∀ l ws v H H', Keeps H H' → W.clo l ws v H → W.clo l ws v H'
mutual
theorem RepD.keep {W : Wd} (ok : W.Ok) {H H' : Hp} (k : Keeps H H') : ∀ (d : D) (v : V), RepD W H d v → RepD W H' d v
  | .non, _, h => h
  | .bl _, _, h => h
  | .int _, _, h => h
  | .str _, _, h => h
  | .tup ds, v, h => by
    obtain ⟨a, vs, e, h1, h2⟩ := h
    exact ⟨a, vs, e, k.tup _ _ h1, RepDs.keep ok k ds vs h2⟩
  | .lst ds, v, h => by
    obtain ⟨a, vs, e, h1, h2⟩ := h
    exact ⟨a, vs, e, h1.keep k, RepDs.keep ok k ds vs h2⟩
  | .dic ks ds, v, h => by
    obtain ⟨a, o, kvs, e, h1, h2, h3⟩ := h
    exact ⟨a, o, kvs, e, k.frz _ _ _ h1, h2, RepDs.keep ok k ds _ h3⟩
  | .obj c ns ds, v, h => by
    obtain ⟨a, dx, o, fs, e, h1, h2, hf, h3⟩ := h
    exact ⟨a, dx, o, fs, e, k.frz _ _ _ h1, h2, hf, RepDs.keep ok k ds _ h3⟩
  | .fn _, _, h => h
  | .clo l ws, v, h => ok l ws v H H' k h
theorem RepDs.keep {W : Wd} (ok : W.Ok) {H H' : Hp} (k : Keeps H H') : ∀ (ds : List D) (vs : List V), RepDs W H ds vs → RepDs W H' ds vs
  | [], _, h => h
  | d :: ds, vs, h => by
    obtain ⟨v, r, e, h1, h2⟩ := h
    exact ⟨v, r, e, RepD.keep ok k d v h1, RepDs.keep ok k ds r h2⟩
end
theorem RepDs.length {W : Wd} {H : Hp} : ∀ {ds : List D} {vs : List V}, RepDs W H ds vs → vs.length = ds.length
  | [], _, h => by
    have e : _ = [] := h
    rw [e]
    rfl
  | _ :: ds, _, h => by
    obtain ⟨v, r, rfl, _, h2⟩ := h
    simp [RepDs.length h2]
theorem RepDs.get {W : Wd} {H : Hp} : ∀ {ds : List D} {vs : List V} {j : Nat} {d : D}, RepDs W H ds vs → ds[j]? = some d → ∃ v, vs[j]? = some v ∧ RepD W H d v
  | _ :: _, _, 0, d, h, e => by
    obtain ⟨v, r, rfl, h1, h2⟩ := h
    simp at e
    subst e
    exact ⟨v, by simp, h1⟩
  | _ :: ds, _, j + 1, d, h, e => by
    obtain ⟨v, r, rfl, h1, h2⟩ := h
    simp at e
    obtain ⟨v', e', h'⟩ := RepDs.get h2 e
    exact ⟨v', by simpa using e', h'⟩
theorem RepDs.append {W : Wd} {H : Hp} : ∀ {ds es : List D} {vs us : List V}, RepDs W H ds vs → RepDs W H es us → RepDs W H (ds ++ es) (vs ++ us)
  | [], _, _, _, h, h' => by
    have e : _ = [] := h
    rw [e]
    exact h'
  | _ :: ds, _, _, _, h, h' => by
    obtain ⟨v, r, rfl, h1, h2⟩ := h
    exact ⟨v, r ++ _, rfl, h1, RepDs.append h2 h'⟩
theorem RepDs.drop {W : Wd} {H : Hp} : ∀ (n : Nat) {ds : List D} {vs : List V}, RepDs W H ds vs → RepDs W H (ds.drop n) (vs.drop n)
  | 0, _, _, h => by simpa using h
  | n + 1, [], _, h => by
    have e : _ = [] := h
    subst e
    simpa using h
  | n + 1, _ :: ds, _, h => by
    obtain ⟨v, r, rfl, h1, h2⟩ := h
    simpa using RepDs.drop n h2
theorem RepDs.take {W : Wd} {H : Hp} : ∀ (n : Nat) {ds : List D} {vs : List V}, RepDs W H ds vs → RepDs W H (ds.take n) (vs.take n)
  | 0, _, _, h => by
    simp
    rfl
  | n + 1, [], _, h => by
    have e : _ = [] := h
    subst e
    simpa using h
  | n + 1, _ :: ds, _, h => by
    obtain ⟨v, r, rfl, h1, h2⟩ := h
    simp
    exact ⟨v, _, rfl, h1, RepDs.take n h2⟩
theorem RepDs.nil_of {W : Wd} {H : Hp} {vs : List V} (h : RepDs W H [] vs) : vs = [] := h

/-! ### owned things -/
mutual
def RepC (W : Wd) (H : Hp) : C → V → List Addr → Prop
  | .un, _, _ => False
  | .pu d, v, M => M = [] ∧ RepD W H d v
  | .lst cs, v, M => ∃ (a : Addr) (vs : List V) (M' : List Addr), v = .ref a ∧ M = a :: M' ∧ H a = some (.lst vs) ∧ RepCs W H cs vs M'
  | .dic ks cs, v, M => ∃ (a : Addr) (kvs : List (Key × V)) (M' : List Addr), v = .ref a ∧ M = a :: M' ∧ H a = some (.dK kvs) ∧ ks = kvs.map (fun p => dKey p.1) ∧ RepCs W H cs (kvs.map (·.2)) M'
  | .obj c ns cs, v, M => ∃ (a dx : Addr) (fs : List (Str × V)) (M' : List Addr), v = .ref a ∧ M = a :: M' ∧ H a = some (.ins (W.cls c) dx fs) ∧ ns = fs.map (·.1) ∧ (∀ n ∈ ns, n ∈ W.flds c) ∧ RepCs W H cs (fs.map (·.2)) M'
def RepCs (W : Wd) (H : Hp) : List C → List V → List Addr → Prop
  | [], vs, M => vs = [] ∧ M = []
  | c :: cs, vs, M => ∃ v r M1 M2, vs = v :: r ∧ M = M1 ++ M2 ∧ RepC W H c v M1 ∧ RepCs W H cs r M2
end
mutual
theorem RepC.keep {W : Wd} (ok : W.Ok) {H H' : Hp} (k : Keeps H H') : ∀ (c : C) (v : V) (M : List Addr), (∀ b ∈ M, H' b = H b) → RepC W H c v M → RepC W H' c v M
  | .un, _, _, _, h => h
  | .pu d, v, M, _, h => ⟨h.1, RepD.keep ok k d v h.2⟩
  | .lst cs, v, M, e, h => by
    obtain ⟨a, vs, M', h1, h2, h3, h4⟩ := h
    subst h2
    exact ⟨a, vs, M', h1, rfl, by rw [e a (by simp)]; exact h3, RepCs.keep ok k cs vs M' (fun b hb => e b (by simp [hb])) h4⟩
  | .dic ks cs, v, M, e, h => by
    obtain ⟨a, kvs, M', h1, h2, h3, h4, h5⟩ := h
    subst h2
    exact ⟨a, kvs, M', h1, rfl, by rw [e a (by simp)]; exact h3, h4, RepCs.keep ok k cs _ M' (fun b hb => e b (by simp [hb])) h5⟩
  | .obj c ns cs, v, M, e, h => by
    obtain ⟨a, dx, fs, M', h1, h2, h3, h4, hf, h5⟩ := h
    subst h2
    exact ⟨a, dx, fs, M', h1, rfl, by rw [e a (by simp)]; exact h3, h4, hf, RepCs.keep ok k cs _ M' (fun b hb => e b (by simp [hb])) h5⟩
theorem RepCs.keep {W : Wd} (ok : W.Ok) {H H' : Hp} (k : Keeps H H') : ∀ (cs : List C) (vs : List V) (M : List Addr), (∀ b ∈ M, H' b = H b) → RepCs W H cs vs M → RepCs W H' cs vs M
  | [], _, _, _, h => h
  | c :: cs, vs, M, e, h => by
    obtain ⟨v, r, M1, M2, h1, h2, h3, h4⟩ := h
    subst h2
    exact ⟨v, r, M1, M2, h1, rfl, RepC.keep ok k c v M1 (fun b hb => e b (by simp [hb])) h3, RepCs.keep ok k cs r M2 (fun b hb => e b (by simp [hb])) h4⟩
end
def isMu : HO → Prop
  | .lst _ | .dK _ | .ins _ _ _ => True
  | _ => False
theorem isMu.mut {o : HO} (h : isMu o) : Mut (some o) := by
  cases o <;> first | trivial | exact h.elim
mutual
theorem RepC.mu {W : Wd} {H : Hp} : ∀ (c : C) (v : V) (M : List Addr), RepC W H c v M → ∀ b ∈ M, ∃ o, H b = some o ∧ isMu o
  | .un, _, M, h, b, hb => False.elim h
  | .pu d, v, M, h, b, hb => by
    rw [h.1] at hb
    cases hb
  | .lst cs, v, M, h, b, hb => by
    obtain ⟨a, vs, M', h1, h2, h3, h4⟩ := h
    rw [h2] at hb
    rcases List.mem_cons.mp hb with e | hb
    · rw [e]
      exact ⟨_, h3, trivial⟩
    · exact RepCs.mu cs _ M' h4 b hb
  | .dic ks cs, v, M, h, b, hb => by
    obtain ⟨a, kvs, M', h1, h2, h3, h4, h5⟩ := h
    rw [h2] at hb
    rcases List.mem_cons.mp hb with e | hb
    · rw [e]
      exact ⟨_, h3, trivial⟩
    · exact RepCs.mu cs _ M' h5 b hb
  | .obj c ns cs, v, M, h, b, hb => by
    obtain ⟨a, dx, fs, M', h1, h2, h3, h4, hf, h5⟩ := h
    rw [h2] at hb
    rcases List.mem_cons.mp hb with e | hb
    · rw [e]
      exact ⟨_, h3, trivial⟩
    · exact RepCs.mu cs _ M' h5 b hb
theorem RepCs.mu {W : Wd} {H : Hp} : ∀ (cs : List C) (vs : List V) (M : List Addr), RepCs W H cs vs M → ∀ b ∈ M, ∃ o, H b = some o ∧ isMu o
  | [], _, _, h, b, hb => by
    rw [h.2] at hb
    cases hb
  | c :: cs, vs, M, h, b, hb => by
    obtain ⟨v, r, M1, M2, h1, h2, h3, h4⟩ := h
    rw [h2] at hb
    rcases List.mem_append.mp hb with hb | hb
    · exact RepC.mu c v M1 h3 b hb
    · exact RepCs.mu cs r M2 h4 b hb
end
theorem RepCs.length {W : Wd} {H : Hp} : ∀ {cs : List C} {vs : List V} {M : List Addr}, RepCs W H cs vs M → vs.length = cs.length
  | [], _, _, h => by rw [h.1]; rfl
  | _ :: cs, _, _, h => by
    obtain ⟨v, r, M1, M2, rfl, _, _, h2⟩ := h
    simp [RepCs.length h2]
theorem RepCs.pu {W : Wd} {H : Hp} : ∀ {ds : List D} {vs : List V}, RepDs W H ds vs → RepCs W H (ds.map .pu) vs []
  | [], _, h => ⟨h, rfl⟩
  | d :: ds, _, h => by
    obtain ⟨v, r, rfl, h1, h2⟩ := h
    exact ⟨v, r, [], [], rfl, rfl, ⟨rfl, h1⟩, RepCs.pu h2⟩
/-- all of them data -/
theorem RepCs.pures {W : Wd} {H : Hp} : ∀ {cs : List C} {ds : List D} {vs : List V} {M : List Addr}, DE.pures cs = some ds → RepCs W H cs vs M → RepDs W H ds vs
  | [], ds, vs, M, e, h => by
    simp [DE.pures] at e
    subst e
    exact h.1
  | c :: cs, ds, vs, M, e, h => by
    obtain ⟨v, r, M1, M2, rfl, rfl, h3, h4⟩ := h
    cases c with
    | pu d =>
      simp [DE.pures] at e
      obtain ⟨ds', e1, rfl⟩ := e
      exact ⟨v, r, rfl, h3.2, RepCs.pures e1 h4⟩
    | un => simp [DE.pures] at e
    | lst _ => simp [DE.pures] at e
    | dic _ _ => simp [DE.pures] at e
    | obj _ _ _ => simp [DE.pures] at e
end DE
end
section
set_option Elab.async false
set_option linter.all false
set_option maxRecDepth 100000
set_option maxHeartbeats 1000000
/-! DE3: freezing, slots, steps, places, and the judgements: an expression computes what the evaluator computes. -/
namespace DE
open PySem L2

theorem upd_keeps {H : Hp} {a : Addr} {u o : HO} (h : H a = some u) (m : isMu u) : Keeps H (upd H a o) :=
  ⟨fun b xs e => by
    rw [upd_ne]
    · exact e
    · rintro rfl
      rw [h] at e
      cases e
      exact m.elim,
   fun b o' u' e => by
    rw [upd_ne]
    · exact e
    · rintro rfl
      rw [h] at e
      cases e
      exact m.elim,
   fun b φ e => by
    rw [upd_ne]
    · exact e
    · rintro rfl
      rw [h] at e
      cases e
      exact m.elim⟩
section
variable {X : Cx} {pins : List (Addr × Obj)} {σ : St} {s : Shared} {W : Wd}
mutual
theorem freeze (ok : W.Ok) : ∀ (c : C) (v : V) (M : List Addr) (H : Hp), Inv X pins σ H s → RepC W H c v M → M.Nodup → ∃ H', Inv X pins σ H' s ∧ RepD W H' c.fz v ∧ Keeps H H' ∧ (∀ b, b ∉ M → H' b = H b) ∧ ∀ b, H b ≠ none → H' b ≠ none
  | .un, _, _, _, _, h, _ => False.elim h
  | .pu d, v, M, H, I, h, _ => ⟨H, I, h.2, Keeps.refl H, fun _ _ => rfl, fun _ h => h⟩
  | .lst cs, v, M, H, I, h, nd => by
    obtain ⟨a, vs, M', h1, rfl, h3, h4⟩ := h
    have nd' := List.nodup_cons.mp nd
    obtain ⟨H1, I1, r1, k1, e1, z1⟩ := freezes ok cs vs M' H I h4 nd'.2
    have ha : H1 a = some (.lst vs) := by rw [e1 a nd'.1]; exact h3
    obtain ⟨od, I2⟩ := I1.lock ha trivial
    have k2 : Keeps H1 (upd H1 a (.frz od (.lst vs))) := upd_keeps ha trivial
    refine ⟨_, I2, ⟨a, vs, h1, .inl ⟨od, upd_same⟩, RepDs.keep ok k2 _ _ r1⟩, k1.trans k2, fun b hb => ?_, fun b hb => ?_⟩
    · have hb' : b ≠ a ∧ b ∉ M' := by simpa using hb
      rw [upd_ne hb'.1]
      exact e1 b hb'.2
    · by_cases e : b = a
      · rw [e, upd_same]
        simp
      · rw [upd_ne e]
        exact z1 b hb
  | .dic ks cs, v, M, H, I, h, nd => by
    obtain ⟨a, kvs, M', h1, rfl, h3, h5, h4⟩ := h
    have nd' := List.nodup_cons.mp nd
    obtain ⟨H1, I1, r1, k1, e1, z1⟩ := freezes ok cs _ M' H I h4 nd'.2
    have ha : H1 a = some (.dK kvs) := by rw [e1 a nd'.1]; exact h3
    obtain ⟨od, I2⟩ := I1.lock ha trivial
    have k2 : Keeps H1 (upd H1 a (.frz od (.dK kvs))) := upd_keeps ha trivial
    refine ⟨_, I2, ⟨a, od, kvs, h1, upd_same, h5, RepDs.keep ok k2 _ _ r1⟩, k1.trans k2, fun b hb => ?_, fun b hb => ?_⟩
    · have hb' : b ≠ a ∧ b ∉ M' := by simpa using hb
      rw [upd_ne hb'.1]
      exact e1 b hb'.2
    · by_cases e : b = a
      · rw [e, upd_same]
        simp
      · rw [upd_ne e]
        exact z1 b hb
  | .obj c ns cs, v, M, H, I, h, nd => by
    obtain ⟨a, dx, fs, M', h1, rfl, h3, h5, hf, h4⟩ := h
    have nd' := List.nodup_cons.mp nd
    obtain ⟨H1, I1, r1, k1, e1, z1⟩ := freezes ok cs _ M' H I h4 nd'.2
    have ha : H1 a = some (.ins (W.cls c) dx fs) := by rw [e1 a nd'.1]; exact h3
    obtain ⟨od, I2⟩ := I1.lock ha trivial
    have k2 : Keeps H1 (upd H1 a (.frz od (.ins (W.cls c) dx fs))) := upd_keeps ha trivial
    refine ⟨_, I2, ⟨a, dx, od, fs, h1, upd_same, h5, hf, RepDs.keep ok k2 _ _ r1⟩, k1.trans k2, fun b hb => ?_, fun b hb => ?_⟩
    · have hb' : b ≠ a ∧ b ∉ M' := by simpa using hb
      rw [upd_ne hb'.1]
      exact e1 b hb'.2
    · by_cases e : b = a
      · rw [e, upd_same]
        simp
      · rw [upd_ne e]
        exact z1 b hb
theorem freezes (ok : W.Ok) : ∀ (cs : List C) (vs : List V) (M : List Addr) (H : Hp), Inv X pins σ H s → RepCs W H cs vs M → M.Nodup → ∃ H', Inv X pins σ H' s ∧ RepDs W H' (fzs cs) vs ∧ Keeps H H' ∧ (∀ b, b ∉ M → H' b = H b) ∧ ∀ b, H b ≠ none → H' b ≠ none
  | [], vs, M, H, I, h, _ => ⟨H, I, h.1, Keeps.refl H, fun _ _ => rfl, fun _ h => h⟩
  | c :: cs, vs, M, H, I, h, nd => by
    obtain ⟨v, r, M1, M2, rfl, rfl, h3, h4⟩ := h
    obtain ⟨n1, n2, n3⟩ := List.nodup_append.mp nd
    obtain ⟨H1, I1, r1, k1, e1, z1⟩ := freeze ok c v M1 H I h3 n1
    have h4' : RepCs W H1 cs r M2 := RepCs.keep ok k1 cs r M2 (fun b hb => e1 b fun z => n3 b z b hb rfl) h4
    obtain ⟨H2, I2, r2, k2, e2, z2⟩ := freezes ok cs r M2 H1 I1 h4' n2
    refine ⟨H2, I2, ⟨v, r, rfl, RepD.keep ok k2 _ _ r1, r2⟩, k1.trans k2, fun b hb => ?_, fun b hb => z2 b (z1 b hb)⟩
    have hb' : b ∉ M1 ∧ b ∉ M2 := by simpa using hb
    rw [e2 b hb'.2, e1 b hb'.1]
end
end

/-! ### slots -/
abbrev Own := Nat → List Addr
structure SRep (W : Wd) (τ : Loc) (σ : St) (H : Hp) (own : Own) : Prop where
  at_ : ∀ i, (look τ i = .un ∧ own i = []) ∨ ∃ v, σ[i]? = some (some v) ∧ RepC W H (look τ i) v (own i)
  nd : ∀ i, (own i).Nodup
  dj : ∀ i j b, i ≠ j → b ∈ own i → b ∈ own j → False
  tb : LamX.Tabs W.tabs H
  ln : τ.length ≤ σ.length
theorem SRep.mu {W : Wd} {τ : Loc} {σ : St} {H : Hp} {own : Own} (S : SRep W τ σ H own) {i : Nat} {b : Addr} (hb : b ∈ own i) : ∃ o, H b = some o ∧ isMu o := by
  rcases S.at_ i with ⟨_, e⟩ | ⟨v, _, r⟩
  · rw [e] at hb
    cases hb
  · exact RepC.mu _ _ _ r b hb
/-- what an evaluation may have changed: the slots of tc and what they own, no more -/
structure Stp (tc : Nat → Prop) (τ : Loc) (own : Own) (H : Hp) (τ' : Loc) (own' : Own) (H' : Hp) : Prop where
  fr : ∀ b o, H b = some o → (∀ ps, o ≠ .tbl ps) → (∀ i, tc i → b ∉ own i) → H' b = some o
  dom : ∀ b, H b ≠ none → H' b ≠ none
  un : ∀ i, ¬ tc i → own' i = own i ∧ look τ' i = look τ i
  src : ∀ i b, tc i → b ∈ own' i → (∃ j, tc j ∧ b ∈ own j) ∨ H b = none
def Src (tc : Nat → Prop) (own : Own) (H : Hp) (M : List Addr) : Prop := ∀ b ∈ M, (∃ j, tc j ∧ b ∈ own j) ∨ H b = none
abbrev nob : Nat → Prop := fun _ => False
section
variable {W : Wd} {τ τ1 τ2 : Loc} {σ : St} {H H1 H2 : Hp} {own own1 own2 : Own} {tc tc' : Nat → Prop}
theorem Stp.refl : Stp tc τ own H τ own H := ⟨fun _ _ h _ _ => h, fun _ h => h, fun _ _ => ⟨rfl, rfl⟩, fun i b h hb => .inl ⟨i, h, hb⟩⟩
theorem Stp.mono (x : Stp tc τ own H τ1 own1 H1) (h : ∀ i, tc i → tc' i) : Stp tc' τ own H τ1 own1 H1 :=
  ⟨fun b o e n z => x.fr b o e n fun i hi => z i (h i hi), x.dom, fun i hi => x.un i fun z => hi (h i z), fun i b hi hb => by
    by_cases q : tc i
    · rcases x.src i b q hb with ⟨j, hj, e⟩ | e
      · exact .inl ⟨j, h j hj, e⟩
      · exact .inr e
    · rw [(x.un i q).1] at hb
      exact .inl ⟨i, hi, hb⟩⟩
theorem Src.mono {M : List Addr} (x : Src tc own H M) (h : ∀ i, tc i → tc' i) : Src tc' own H M := fun b hb => by
  rcases x b hb with ⟨j, hj, e⟩ | e
  · exact .inl ⟨j, h j hj, e⟩
  · exact .inr e
theorem Stp.trans (x : Stp tc τ own H τ1 own1 H1) (y : Stp tc τ1 own1 H1 τ2 own2 H2) : Stp tc τ own H τ2 own2 H2 :=
  ⟨fun b o e n z => y.fr b o (x.fr b o e n z) n (fun i hi hb => by
      rcases x.src i b hi hb with ⟨j, hj, q⟩ | q
      · exact z j hj q
      · rw [e] at q
        cases q), fun b h => y.dom b (x.dom b h), fun i hi => ⟨(y.un i hi).1.trans (x.un i hi).1, (y.un i hi).2.trans (x.un i hi).2⟩, fun i b hi hb => by
      rcases y.src i b hi hb with ⟨j, hj, e⟩ | e
      · exact x.src j b hj e
      · refine .inr ?_
        cases q : H b with
        | none => rfl
        | some o => exact absurd e (x.dom b (by rw [q]; simp))⟩
theorem Stp.src_trans {M : List Addr} (x : Stp tc τ own H τ1 own1 H1) (y : Src tc own1 H1 M) : Src tc own H M := fun b hb => by
  rcases y b hb with ⟨j, hj, e⟩ | e
  · exact x.src j b hj e
  · refine .inr ?_
    cases q : H b with
    | none => rfl
    | some o => exact absurd e (x.dom b (by rw [q]; simp))
theorem mu_tbl {o : HO} (h : isMu o) : ∀ ps, o ≠ .tbl ps := fun ps e => by
  rw [e] at h
  exact h
theorem Stp.keeps (S : SRep W τ σ H own) (x : Stp tc τ own H τ1 own1 H1) : Keeps H H1 :=
  ⟨fun b xs e => x.fr b _ e (fun ps z => by cases z) (fun i _ hb => by
    obtain ⟨o, h1, h2⟩ := S.mu hb
    rw [e] at h1
    cases h1
    exact h2), fun b o u e => x.fr b _ e (fun ps z => by cases z) (fun i _ hb => by
    obtain ⟨o, h1, h2⟩ := S.mu hb
    rw [e] at h1
    cases h1
    exact h2), fun b φ e => x.fr b _ e (fun ps z => by cases z) (fun i _ hb => by
    obtain ⟨o, h1, h2⟩ := S.mu hb
    rw [e] at h1
    cases h1
    exact h2)⟩
/-- all that was tracked stays: nothing of the slots is touched -/
theorem Stp.same (h : Same H H1) : Stp tc τ own H τ own H1 := ⟨fun b o e _ _ => h b o e, (fun b e z => by
  cases q : H b with
  | none => exact e q
  | some o =>
    rw [h b o q] at z
    cases z), fun _ _ => ⟨rfl, rfl⟩, fun i b hi hb => .inl ⟨i, hi, hb⟩⟩
theorem same_keeps (h : Same H H1) : Keeps H H1 := ⟨fun b xs e => h b _ e, fun b o u e => h b _ e, fun b φ e => h b _ e⟩
theorem SRep.same (ok : W.Ok) (S : SRep W τ σ H own) (h : Same H H1) : SRep W τ σ H1 own :=
  ⟨fun i => (S.at_ i).imp (fun x => x) fun ⟨v, e, r⟩ => ⟨v, e, RepC.keep ok (same_keeps h) _ _ _ (fun b hb => by
    obtain ⟨o, q, _⟩ := S.mu hb
    rw [q, h b o q]) r⟩, S.nd, S.dj, S.tb.ext h, S.ln⟩

/-! ### places -/
def VAt (H : Hp) : V → List Sp → V → Prop
  | v, [], v1 => v1 = v
  | v, .k j :: ph, v1 => ∃ a w, v = .ref a ∧ ((∃ vs, H a = some (.lst vs) ∧ vs[j]? = some w) ∨ ∃ kvs : List (Key × V), H a = some (.dK kvs) ∧ (kvs.map (·.2))[j]? = some w) ∧ VAt H w ph v1
  | v, .f n :: ph, v1 => ∃ a C dx fs w, v = .ref a ∧ H a = some (.ins C dx fs) ∧ fs.lookup n = some w ∧ VAt H w ph v1
theorem ownArg_pu {c : C} (h : ownArg c = true) : ∀ d, c ≠ .pu d := fun d e => by
  rw [e] at h
  cases h

/-! ### what an expression gives -/
def RvRep (W : Wd) (τ : Loc) (σ : St) (H : Hp) (own : Own) : Rv → V → List Addr → Prop
  | .pu d, v, M => M = [] ∧ RepD W H d v
  | .fr c, v, M => RepC W H c v M ∧ M.Nodup ∧ ∀ i b, b ∈ M → b ∈ own i → False
  | .ow c, v, M => RepC W H c v M ∧ M.Nodup ∧ ∀ i b, b ∈ M → b ∈ own i → False
  | .bo i ph c, v, M => M = [] ∧ ∃ vi, σ[i]? = some (some vi) ∧ VAt H vi ph v ∧ (look τ i).get ph = some c ∧ ownArg c = true ∧ c ≠ .un
/-- where a borrowed one may come from -/
def BoIn (R : Nat → Prop) : Rv → Prop
  | .bo i _ _ => R i
  | _ => True
def ExRep (W : Wd) (H : Hp) (x : Exn) (cls : Value) (d : Option Addr) : Prop := cls = .ref (W.xcls x.x) ∧ (x.ds ≠ [] → ∃ dd fs, d = some dd ∧ H dd = some (.xd fs) ∧ fs.map (·.1) = (W.xfl x.x).reverse ∧ RepDs W H x.ds.reverse (fs.map (·.2)))
end
/-! ### the readings -/
section
variable {α β : Type}
/-- what is wanted of an evaluation's end; τ, own, H: where it began -/
def Fin (W : Wd) (Wx : WX) (tc : Nat → Prop) (Rep : Loc → St → Hp → Own → α → β → List Addr → Prop) (B : α → Prop) (τ : Loc) (own : Own) (σ : St) (H : Hp) (Q : β → Hp → Prop) : Res α → Prop
  | .ok r τ' => ∀ b H' own' M, SRep W τ' σ H' own' → Rep τ' σ H' own' r b M → B r → Stp tc τ own H τ' own' H' → Src tc own H M → Q b H'
  | .exc x τ' => ∀ cls d H' own', SRep W τ' σ H' own' → Stp tc τ own H τ' own' H' → ExRep W H' x cls d → Wx cls d σ H'
  | .stk => False
def tG (W : Wd) (Wx : WX) (tc : Nat → Prop) (Rep : Loc → St → Hp → Own → α → β → List Addr → Prop) (B : α → Prop) (f : Loc → Res α) (σ : St) (H : Hp) (Q : β → Hp → Prop) : Prop :=
  ∃ τ own, SRep W τ σ H own ∧ Fin W Wx tc Rep B τ own σ H Q (f τ)
end
/-- data alone -/
def DRep (W : Wd) (_ : Loc) (_ : St) (H : Hp) (_ : Own) (d : D) (v : V) (M : List Addr) : Prop := M = [] ∧ RepD W H d v
/-- the thing itself -/
def ERep {α : Type} (_ : Loc) (_ : St) (_ : Hp) (_ : Own) (d : α) (v : α) (M : List Addr) : Prop := M = [] ∧ v = d
abbrev tEv (W : Wd) (Wx : WX) (tc R : Nat → Prop) (f : Loc → Res Rv) : TE := tG W Wx tc (RvRep W) (BoIn R) f
abbrev tDv (W : Wd) (Wx : WX) (tc : Nat → Prop) (f : Loc → Res D) : TE := tG W Wx tc (DRep W) (fun _ => True) f
abbrev tBv (W : Wd) (Wx : WX) (tc : Nat → Prop) (f : Loc → Res Bool) : TT := tG W Wx tc ERep (fun _ => True) f
abbrev PEv (W : Wd) (X : Cx) (Wx : WX) (tc R : Nat → Prop) (e : Expr) (f : Loc → Res Rv) : Prop := PE X e (tEv W Wx tc R f)
abbrev PDv (W : Wd) (X : Cx) (Wx : WX) (tc : Nat → Prop) (e : Expr) (f : Loc → Res D) : Prop := PE X e (tDv W Wx tc f)
abbrev PTv (W : Wd) (X : Cx) (Wx : WX) (tc : Nat → Prop) (e : Expr) (f : Loc → Res Bool) : Prop := PT X e (tBv W Wx tc f)

section
variable {α β γ δ : Type} {W : Wd} {Wx : WX} {tc tcb : Nat → Prop} {τ τ1 : Loc} {own own1 : Own} {σ : St} {H H1 : Hp}
  {RepA : Loc → St → Hp → Own → α → β → List Addr → Prop} {BA : α → Prop} {RepB : Loc → St → Hp → Own → γ → δ → List Addr → Prop} {BB : γ → Prop} {Q : β → Hp → Prop} {K : δ → Hp → Prop}
theorem Fin.step {r : Res γ} {g : γ → Loc → Res α} (st : Stp tc τ own H τ1 own1 H1) (sub : ∀ i, tcb i → tc i) (hF : Fin W Wx tc RepA BA τ own σ H Q (r.bind g))
    (k : ∀ y τ2 v H2 own2 M2, r = .ok y τ2 → SRep W τ2 σ H2 own2 → RepB τ2 σ H2 own2 y v M2 → BB y → Stp tcb τ1 own1 H1 τ2 own2 H2 → Src tcb own1 H1 M2 → Stp tc τ own H τ2 own2 H2 → Fin W Wx tc RepA BA τ own σ H Q (g y τ2) → K v H2) :
    Fin W Wx tcb RepB BB τ1 own1 σ H1 K r := by
  cases r with
  | ok y τ2 => exact fun v H2 own2 M2 S2 r2 b2 st2 sr2 => k y τ2 v H2 own2 M2 rfl S2 r2 b2 st2 sr2 (st.trans (st2.mono sub)) hF
  | exc x τ2 => exact fun cls d H2 own2 S2 st2 xr => hF cls d H2 own2 S2 (st.trans (st2.mono sub)) xr
  | stk => exact hF
theorem Fin.imp {Q' : β → Hp → Prop} {r : Res α} (hF : Fin W Wx tc RepA BA τ own σ H Q r) (h : ∀ b H', Q b H' → Q' b H') : Fin W Wx tc RepA BA τ own σ H Q' r := by
  cases r with
  | ok y τ2 => exact fun v H2 own2 M2 S2 r2 b2 st2 sr2 => h _ _ (hF v H2 own2 M2 S2 r2 b2 st2 sr2)
  | exc x τ2 => exact hF
  | stk => exact hF
theorem PE.imp' {X : Cx} {e : Expr} {t t' : TE} (h : PE X e t) (hi : ∀ σ H Q, t' σ H Q → t σ H Q) : PE X e t' := ⟨fun pins s σ H Q I q => h.run pins s σ H Q I (hi σ H Q q)⟩
theorem PT.imp' {X : Cx} {e : Expr} {t t' : TT} (h : PT X e t) (hi : ∀ σ H Q, t' σ H Q → t σ H Q) : PT X e t' := ⟨fun pins s σ H Q I q => h.run pins s σ H Q I (hi σ H Q q)⟩
theorem PS.imp' {X : Cx} {e : Stmt} {t t' : TS} (h : PS X e t) (hi : ∀ D σ H, t' D σ H → t D σ H) : PS X e t' := ⟨fun pins s σ H D I q => h.run pins s σ H D I (hi D σ H q)⟩
theorem PSs.imp' {X : Cx} {e : List Stmt} {t t' : TS} (h : PSs X e t) (hi : ∀ D σ H, t' D σ H → t D σ H) : PSs X e t' := ⟨fun pins s σ H D I q => h.run pins s σ H D I (hi D σ H q)⟩
theorem PA.imp' {X : Cx} {e : List Expr} {t t' : TA} (h : PA X e t) (hi : ∀ σ H Q, t' σ H Q → t σ H Q) : PA X e t' := ⟨fun pos pins s σ H Q I q => h.run pos pins s σ H Q I (hi σ H Q q)⟩
end

/-! ### going down -/
theorem RepCs.focus {W : Wd} (ok : W.Ok) {H : Hp} : ∀ {cs : List C} {vs : List V} {M : List Addr} {j : Nat} {c : C}, RepCs W H cs vs M → cs[j]? = some c →
    ∃ v Mj M1 M2, vs[j]? = some v ∧ M = M1 ++ (Mj ++ M2) ∧ RepC W H c v Mj ∧ ∀ H' c' Mj', Keeps H H' → (∀ b, b ∈ M1 ∨ b ∈ M2 → H' b = H b) → RepC W H' c' v Mj' → RepCs W H' (cs.set j c') vs (M1 ++ (Mj' ++ M2))
  | [], _, _, _, _, _, e => by simp at e
  | c0 :: cs, _, _, 0, c, h, e => by
    obtain ⟨v, r, N1, N2, rfl, rfl, h3, h4⟩ := h
    simp at e
    subst e
    refine ⟨v, N1, [], N2, by simp, by simp, h3, fun H' c' Mj' k e r' => ⟨v, r, Mj', N2, rfl, by simp, r', RepCs.keep ok k _ _ _ (fun b hb => e b (.inr hb)) h4⟩⟩
  | c0 :: cs, _, _, j + 1, c, h, e => by
    obtain ⟨v0, r, N1, N2, rfl, rfl, h3, h4⟩ := h
    simp at e
    obtain ⟨v, Mj, M1, M2, e1, rfl, e3, e4⟩ := RepCs.focus ok h4 e
    refine ⟨v, Mj, N1 ++ M1, M2, by simpa using e1, by simp, e3, fun H' c' Mj' k e r' => ⟨v0, r, N1, M1 ++ (Mj' ++ M2), rfl, by simp, RepC.keep ok k _ _ _ (fun b hb => e b (.inl (by simp [hb]))) h3, e4 H' c' Mj' k (fun b hb => e b ?_) r'⟩⟩
    rcases hb with hb | hb
    · exact .inl (by simp [hb])
    · exact .inr hb
theorem lookN_ix {α : Type} {n : Str} : ∀ {ns : List Str} {cs : List α} {c : α}, lookN n ns cs = some c → ∃ j, cs[j]? = some c ∧ (∀ y, putN n y ns cs = (ns, cs.set j y)) ∧
    ∀ {fs : List (Str × V)}, ns = fs.map (·.1) → ∀ {v : V}, (fs.map (·.2))[j]? = some v → fs.lookup n = some v
  | [], _, _, h => by simp [lookN] at h
  | m :: ns, [], _, h => by simp [lookN] at h
  | m :: ns, d :: cs, c, h => by
    unfold lookN at h
    split at h
    · rename_i e
      cases h
      refine ⟨0, by simp, fun y => by simp [putN, e], fun {fs} ef {v} ev => ?_⟩
      cases fs with
      | nil => simp at ef
      | cons p fs =>
        simp at ef ev
        obtain ⟨e1, e2⟩ := ef
        obtain ⟨p1, p2⟩ := p
        simp at e1 ev
        subst ev
        simp [List.lookup, ← e1, e]
    · rename_i e
      obtain ⟨j, e1, e2, e3⟩ := lookN_ix h
      refine ⟨j + 1, by simpa using e1, fun y => by simp [putN, e, e2], fun {fs} ef {v} ev => ?_⟩
      cases fs with
      | nil => simp at ef
      | cons p fs =>
        simp at ef ev
        obtain ⟨q1, q2⟩ := ef
        obtain ⟨p1, p2⟩ := p
        simp at q1
        have nm : (n == p1) = false := by
          rw [← q1]
          simp
          exact fun z => e z.symm
        simp [List.lookup, nm]
        exact e3 q2 (by simpa using ev)
theorem get_pu {d : D} : ∀ {ph : List Sp} {c : C}, (C.pu d).get ph = some c → ∃ d', c = .pu d'
  | [], c, h => by
    simp [C.get] at h
    exact ⟨d, h.symm⟩
  | p :: ph, c, h => by
    simp only [C.get, Option.bind_eq_some_iff] at h
    obtain ⟨c1, h1, h2⟩ := h
    have q : ∃ d1, c1 = .pu d1 := by
      cases d <;> cases p <;> simp [C.sub] at h1 <;> (obtain ⟨x, _, e⟩ := h1; exact ⟨x, e.symm⟩)
    obtain ⟨d1, rfl⟩ := q
    exact get_pu h2
/-- a place, and the rest around it -/
theorem RepC.focus {W : Wd} (ok : W.Ok) {H : Hp} : ∀ {ph : List Sp} {c0 c : C} {v0 v : V} {M0 : List Addr}, RepC W H c0 v0 M0 → c0.get ph = some c → ownArg c = true → VAt H v0 ph v →
    ∃ Mc M1 M2, M0 = M1 ++ (Mc ++ M2) ∧ RepC W H c v Mc ∧ ∀ H' c' Mc', Keeps H H' → (∀ b, b ∈ M1 ∨ b ∈ M2 → H' b = H b) → RepC W H' c' v Mc' → RepC W H' (c0.set ph c') v0 (M1 ++ (Mc' ++ M2))
  | [], c0, c, v0, v, M0, r, e, _, a => by
    simp [C.get] at e
    subst e
    have a' : v = v0 := a
    subst a'
    exact ⟨M0, [], [], by simp, r, fun H' c' Mc' _ _ r' => by simpa [C.set] using r'⟩
  | .k j :: ph, c0, c, v0, v, M0, r, e, o, a => by
    simp only [C.get, Option.bind_eq_some_iff] at e
    obtain ⟨c1, e1, e2⟩ := e
    obtain ⟨a1, w, rfl, ha, av⟩ := a
    cases c0 with
    | un => exact False.elim r
    | pu d =>
      obtain ⟨d', rfl⟩ := get_pu (ph := .k j :: ph) (d := d) (c := c) (by simp only [C.get, e1, Option.bind_some]; exact e2)
      cases o
    | lst cs =>
      obtain ⟨a2, vs, M', h1, rfl, h3, h4⟩ := r
      cases h1
      simp only [C.sub] at e1
      obtain ⟨u, Mj, N1, N2, q1, rfl, q3, q4⟩ := RepCs.focus ok h4 e1
      have hw : u = w := by
        rcases ha with ⟨vs', z1, z2⟩ | ⟨kvs, z1, z2⟩
        · rw [h3] at z1
          cases z1
          rw [q1] at z2
          exact Option.some.inj z2
        · rw [h3] at z1
          cases z1
      subst hw
      obtain ⟨Mc, K1, K2, rfl, p2, p3⟩ := RepC.focus ok q3 e2 o av
      refine ⟨Mc, a1 :: (N1 ++ K1), K2 ++ N2, by simp, p2, fun H' c' Mc' k eb r' => ?_⟩
      simp only [C.set, C.sub, e1, C.put]
      refine ⟨a1, vs, N1 ++ ((K1 ++ (Mc' ++ K2)) ++ N2), rfl, by simp, by rw [eb a1 (.inl (by simp))]; exact h3, q4 H' _ _ k (fun b hb => eb b ?_) (p3 H' c' Mc' k (fun b hb => eb b ?_) r')⟩
      · rcases hb with hb | hb
        · exact .inl (by simp [hb])
        · exact .inr (by simp [hb])
      · rcases hb with hb | hb
        · exact .inl (by simp [hb])
        · exact .inr (by simp [hb])
    | dic ks cs =>
      obtain ⟨a2, kvs, M', h1, rfl, h3, h5, h4⟩ := r
      cases h1
      simp only [C.sub] at e1
      obtain ⟨u, Mj, N1, N2, q1, rfl, q3, q4⟩ := RepCs.focus ok h4 e1
      have hw : u = w := by
        rcases ha with ⟨vs', z1, z2⟩ | ⟨kvs', z1, z2⟩
        · rw [h3] at z1
          cases z1
        · rw [h3] at z1
          cases z1
          rw [q1] at z2
          exact Option.some.inj z2
      subst hw
      obtain ⟨Mc, K1, K2, rfl, p2, p3⟩ := RepC.focus ok q3 e2 o av
      refine ⟨Mc, a1 :: (N1 ++ K1), K2 ++ N2, by simp, p2, fun H' c' Mc' k eb r' => ?_⟩
      simp only [C.set, C.sub, e1, C.put]
      refine ⟨a1, kvs, N1 ++ ((K1 ++ (Mc' ++ K2)) ++ N2), rfl, by simp, by rw [eb a1 (.inl (by simp))]; exact h3, h5, q4 H' _ _ k (fun b hb => eb b ?_) (p3 H' c' Mc' k (fun b hb => eb b ?_) r')⟩
      · rcases hb with hb | hb
        · exact .inl (by simp [hb])
        · exact .inr (by simp [hb])
      · rcases hb with hb | hb
        · exact .inl (by simp [hb])
        · exact .inr (by simp [hb])
    | obj k ns cs => simp [C.sub] at e1
  | .f n :: ph, c0, c, v0, v, M0, r, e, o, a => by
    simp only [C.get, Option.bind_eq_some_iff] at e
    obtain ⟨c1, e1, e2⟩ := e
    obtain ⟨a1, C1, dx1, fs1, w, rfl, ha, hl, av⟩ := a
    cases c0 with
    | un => exact False.elim r
    | pu d =>
      obtain ⟨d', rfl⟩ := get_pu (ph := .f n :: ph) (d := d) (c := c) (by simp only [C.get, e1, Option.bind_some]; exact e2)
      cases o
    | lst cs => simp [C.sub] at e1
    | dic ks cs => simp [C.sub] at e1
    | obj k ns cs =>
      obtain ⟨a2, dx, fs, M', h1, rfl, h3, h5, hf, h4⟩ := r
      cases h1
      simp only [C.sub] at e1
      obtain ⟨j, j1, j2, j3⟩ := lookN_ix e1
      obtain ⟨u, Mj, N1, N2, q1, rfl, q3, q4⟩ := RepCs.focus ok h4 j1
      have hw : u = w := by
        rw [h3] at ha
        cases ha
        rw [j3 h5 q1] at hl
        exact Option.some.inj hl
      subst hw
      obtain ⟨Mc, K1, K2, rfl, p2, p3⟩ := RepC.focus ok q3 e2 o av
      refine ⟨Mc, a1 :: (N1 ++ K1), K2 ++ N2, by simp, p2, fun H' c' Mc' kk eb r' => ?_⟩
      simp only [C.set, C.sub, e1, C.put, j2]
      refine ⟨a1, dx, fs, N1 ++ ((K1 ++ (Mc' ++ K2)) ++ N2), rfl, by simp, by rw [eb a1 (.inl (by simp))]; exact h3, h5, hf, q4 H' _ _ kk (fun b hb => eb b ?_) (p3 H' c' Mc' kk (fun b hb => eb b ?_) r')⟩
      · rcases hb with hb | hb
        · exact .inl (by simp [hb])
        · exact .inr (by simp [hb])
      · rcases hb with hb | hb
        · exact .inl (by simp [hb])
        · exact .inr (by simp [hb])
/-- a place stays where nothing of its slot changed -/
theorem VAt.keep {W : Wd} (ok : W.Ok) {H H' : Hp} : ∀ {ph : List Sp} {c0 c : C} {v0 v : V} {M0 : List Addr}, RepC W H c0 v0 M0 → c0.get ph = some c → ownArg c = true → VAt H v0 ph v → (∀ b ∈ M0, H' b = H b) → VAt H' v0 ph v
  | [], _, _, _, _, _, _, _, _, a, _ => a
  | .k j :: ph, c0, c, v0, v, M0, r, e, o, a, eb => by
    simp only [C.get, Option.bind_eq_some_iff] at e
    obtain ⟨c1, e1, e2⟩ := e
    obtain ⟨a1, w, rfl, ha, av⟩ := a
    cases c0 with
    | un => exact False.elim r
    | pu d =>
      obtain ⟨d', rfl⟩ := get_pu (ph := .k j :: ph) (d := d) (c := c) (by simp only [C.get, e1, Option.bind_some]; exact e2)
      cases o
    | lst cs =>
      obtain ⟨a2, vs, M', h1, rfl, h3, h4⟩ := r
      cases h1
      simp only [C.sub] at e1
      obtain ⟨u, Mj, N1, N2, q1, rfl, q3, q4⟩ := RepCs.focus ok h4 e1
      have hw : u = w := by
        rcases ha with ⟨vs', z1, z2⟩ | ⟨kvs, z1, z2⟩
        · rw [h3] at z1
          cases z1
          rw [q1] at z2
          exact Option.some.inj z2
        · rw [h3] at z1
          cases z1
      subst hw
      exact ⟨a1, u, rfl, .inl ⟨vs, by rw [eb a1 (by simp)]; exact h3, q1⟩, VAt.keep ok q3 e2 o av fun b hb => eb b (by simp [hb])⟩
    | dic ks cs =>
      obtain ⟨a2, kvs, M', h1, rfl, h3, h5, h4⟩ := r
      cases h1
      simp only [C.sub] at e1
      obtain ⟨u, Mj, N1, N2, q1, rfl, q3, q4⟩ := RepCs.focus ok h4 e1
      have hw : u = w := by
        rcases ha with ⟨vs', z1, z2⟩ | ⟨kvs', z1, z2⟩
        · rw [h3] at z1
          cases z1
        · rw [h3] at z1
          cases z1
          rw [q1] at z2
          exact Option.some.inj z2
      subst hw
      exact ⟨a1, u, rfl, .inr ⟨kvs, by rw [eb a1 (by simp)]; exact h3, q1⟩, VAt.keep ok q3 e2 o av fun b hb => eb b (by simp [hb])⟩
    | obj k ns cs => simp [C.sub] at e1
  | .f n :: ph, c0, c, v0, v, M0, r, e, o, a, eb => by
    simp only [C.get, Option.bind_eq_some_iff] at e
    obtain ⟨c1, e1, e2⟩ := e
    obtain ⟨a1, C1, dx1, fs1, w, rfl, ha, hl, av⟩ := a
    cases c0 with
    | un => exact False.elim r
    | pu d =>
      obtain ⟨d', rfl⟩ := get_pu (ph := .f n :: ph) (d := d) (c := c) (by simp only [C.get, e1, Option.bind_some]; exact e2)
      cases o
    | lst cs => simp [C.sub] at e1
    | dic ks cs => simp [C.sub] at e1
    | obj k ns cs =>
      obtain ⟨a2, dx, fs, M', h1, rfl, h3, h5, hf, h4⟩ := r
      cases h1
      simp only [C.sub] at e1
      obtain ⟨j, j1, j2, j3⟩ := lookN_ix e1
      obtain ⟨u, Mj, N1, N2, q1, rfl, q3, q4⟩ := RepCs.focus ok h4 j1
      have hw : u = w := by
        have z := ha
        rw [h3] at z
        cases z
        rw [j3 h5 q1] at hl
        exact Option.some.inj hl
      subst hw
      exact ⟨a1, C1, dx1, fs1, u, rfl, by rw [eb a1 (by simp)]; exact ha, hl, VAt.keep ok q3 e2 o av fun b hb => eb b (by simp [hb])⟩
end DE
end
section
set_option Elab.async false
set_option linter.all false
set_option maxRecDepth 100000
set_option maxHeartbeats 1000000
/-! DE4: carrying results over steps, freezing an expression's value, names, places, operators. -/
namespace DE
open PySem L2

section
variable {W : Wd} {τ τ1 τ2 : Loc} {σ : St} {H H1 H2 : Hp} {own own1 own2 : Own} {tc tc' R : Nat → Prop} {x : Rv} {v : V} {M : List Addr}
/-- what stands at the addresses of M stays, where M is none of the slots' -/
theorem Stp.off (st : Stp tc τ own H τ1 own1 H1) {b : Addr} (hm : ∃ o, H b = some o ∧ isMu o) (hd : ∀ i, tc i → b ∉ own i) : H1 b = H b := by
  obtain ⟨o, e, m⟩ := hm
  rw [e]
  exact st.fr b o e (mu_tbl m) hd
theorem Stp.apart (st : Stp tc τ own H τ1 own1 H1) {b : Addr} (hm : ∃ o, H b = some o ∧ isMu o) (hd : ∀ i, b ∉ own i) : ∀ i, b ∉ own1 i := fun i hb => by
  by_cases q : tc i
  · rcases st.src i b q hb with ⟨j, _, e⟩ | e
    · exact hd j e
    · obtain ⟨o, e', _⟩ := hm
      rw [e'] at e
      cases e
  · rw [(st.un i q).1] at hb
    exact hd i hb
theorem SRep.bo (ok : W.Ok) (S : SRep W τ σ H own) {i : Nat} {ph : List Sp} {c : C} (r : RvRep W τ σ H own (.bo i ph c) v M) : ∃ vi Mc M1 M2, σ[i]? = some (some vi) ∧ own i = M1 ++ (Mc ++ M2) ∧ RepC W H c v Mc ∧
    ∀ H' c' Mc', Keeps H H' → (∀ b, b ∈ M1 ∨ b ∈ M2 → H' b = H b) → RepC W H' c' v Mc' → RepC W H' ((look τ i).set ph c') vi (M1 ++ (Mc' ++ M2)) := by
  obtain ⟨_, vi, e1, e2, e3, e4, _⟩ := r
  rcases S.at_ i with ⟨e, _⟩ | ⟨v0, e, r0⟩
  · rw [e] at e3
    cases ph with
    | nil =>
      simp [C.get] at e3
      simp_all
    | cons p ph => simp [C.get, C.sub] at e3
  · rw [e1] at e
    cases e
    obtain ⟨Mc, M1, M2, q1, q2, q3⟩ := RepC.focus ok r0 e3 e4 e2
    exact ⟨vi, Mc, M1, M2, e1, q1, q2, q3⟩
/-- a result stands behind a further step too -/
theorem RvRep.step (ok : W.Ok) (S : SRep W τ σ H own) (r : RvRep W τ σ H own x v M) (b : BoIn R x) (st : Stp tc τ own H τ1 own1 H1) (hb : ∀ i, R i → ¬ tc i) : RvRep W τ1 σ H1 own1 x v M := by
  have k := st.keeps S
  cases x with
  | pu d => exact ⟨r.1, RepD.keep ok k _ _ r.2⟩
  | fr c => exact ⟨RepC.keep ok k _ _ _ (fun b hb => st.off (RepC.mu _ _ _ r.1 b hb) fun i _ z => r.2.2 i b hb z) r.1, r.2.1, fun i b hb => st.apart (RepC.mu _ _ _ r.1 b hb) (fun i z => r.2.2 i b hb z) i⟩
  | ow c => exact ⟨RepC.keep ok k _ _ _ (fun b hb => st.off (RepC.mu _ _ _ r.1 b hb) fun i _ z => r.2.2 i b hb z) r.1, r.2.1, fun i b hb => st.apart (RepC.mu _ _ _ r.1 b hb) (fun i z => r.2.2 i b hb z) i⟩
  | bo i ph c =>
    have ni : ¬ tc i := hb i b
    obtain ⟨e0, vi, e1, e2, e3, e4, e5⟩ := r
    refine ⟨e0, vi, e1, ?_, by rw [(st.un i ni).2]; exact e3, e4, e5⟩
    rcases S.at_ i with ⟨e, _⟩ | ⟨v0, e, r0⟩
    · rw [e] at e3
      cases ph with
      | nil =>
        simp [C.get] at e3
        simp_all
      | cons p ph => simp [C.get, C.sub] at e3
    · rw [e1] at e
      cases e
      exact VAt.keep ok r0 e3 e4 e2 fun b hb => st.off (RepC.mu _ _ _ r0 b hb) fun j hj z => S.dj i j b (fun q => ni (q ▸ hj)) hb z
/-- whatever it is: the thing stands there -/
theorem RvRep.rc (ok : W.Ok) (S : SRep W τ σ H own) (r : RvRep W τ σ H own x v M) : ∃ Mc, RepC W H x.c v Mc := by
  cases x with
  | pu d => exact ⟨[], rfl, r.2⟩
  | fr c => exact ⟨M, r.1⟩
  | ow c => exact ⟨M, r.1⟩
  | bo i ph c =>
    obtain ⟨vi, Mc, M1, M2, _, _, q, _⟩ := S.bo ok r
    exact ⟨Mc, q⟩
theorem tabs_mu {T : List (Addr × Str)} (t : LamX.Tabs T H) (h : ∀ b o, H b = some o → ¬ isMu o → H1 b = some o) : LamX.Tabs T H1 := fun p hp => by
  obtain ⟨ps, h1, h2, h3⟩ := t p hp
  refine ⟨ps, h _ _ h1 (fun z => z), h2, fun pos cv hc => ?_⟩
  obtain ⟨c, e1, e2⟩ := h3 pos cv hc
  exact ⟨c, e1, h _ _ e2 (fun z => z)⟩
/-- .. where only things that no slot owns changed -/
theorem SRep.ext (ok : W.Ok) (S : SRep W τ σ H own) (k : Keeps H H1) (h : ∀ i, ∀ b ∈ own i, H1 b = H b) (t : LamX.Tabs W.tabs H1) : SRep W τ σ H1 own :=
  ⟨fun i => (S.at_ i).imp (fun x => x) fun ⟨v, e, r⟩ => ⟨v, e, RepC.keep ok k _ _ _ (h i) r⟩, S.nd, S.dj, t, S.ln⟩
end

/-! ### to data -/
section
variable {W : Wd} {X : Cx} {Wx : WX} {tc R : Nat → Prop} {e : Expr} {f : Loc → Res Rv}
theorem freeze_rv (ok : W.Ok) {pins : List (Addr × Obj)} {σ : St} {s : Shared} {τ τ1 : Loc} {H H1 : Hp} {own own1 : Own} {x : Rv} {v : V} {M : List Addr} {d : D} (I : Inv X pins σ H1 s) (S : SRep W τ1 σ H1 own1) (r : RvRep W τ1 σ H1 own1 x v M) (e : x.fz = some d)
    (st : Stp tc τ own H τ1 own1 H1) (sr : Src tc own H M) : ∃ H2, Inv X pins σ H2 s ∧ SRep W τ1 σ H2 own1 ∧ RepD W H2 d v ∧ Stp tc τ own H τ1 own1 H2 ∧ Keeps H1 H2 ∧ (∀ b, b ∉ M → H2 b = H1 b) ∧ ∀ b, H1 b ≠ none → H2 b ≠ none := by
  cases x with
  | pu d' =>
    simp [Rv.fz] at e
    subst e
    exact ⟨H1, I, S, r.2, st, Keeps.refl _, fun _ _ => rfl, fun _ h => h⟩
  | ow c => simp [Rv.fz] at e
  | bo i ph c => simp [Rv.fz] at e
  | fr c =>
    simp [Rv.fz] at e
    subst e
    obtain ⟨r1, r2, r3⟩ := r
    obtain ⟨H2, I2, q1, q2, q3, q4⟩ := freeze ok c v M H1 I r1 r2
    refine ⟨H2, I2, S.ext ok q2 (fun i b hb => q3 b fun z => r3 i b z hb) ?_, q1, ⟨fun b o eb nt hb => ?_, fun b h => q4 b (st.dom b h), st.un, st.src⟩, q2, q3, q4⟩
    · refine tabs_mu S.tb fun b o eb nm => ?_
      by_cases hb : b ∈ M
      · obtain ⟨o', e', m⟩ := RepC.mu _ _ _ r1 b hb
        rw [eb] at e'
        cases e'
        exact (nm m).elim
      · rw [q3 b hb]
        exact eb
    · have e1 := st.fr b o eb nt hb
      by_cases hm : b ∈ M
      · rcases sr b hm with ⟨j, hj, z⟩ | z
        · exact (hb j hj z).elim
        · rw [eb] at z
          cases z
      · rw [q3 b hm]
        exact e1
theorem pd_of (ok : W.Ok) (h : PEv W X Wx tc R e f) : PDv W X Wx tc e (fun τ => toF (f τ)) := by
  refine ⟨fun pins s σ H Q I ⟨τ, own, S, hF⟩ => ?_⟩
  refine thn (h.run pins s σ H (fun v H1 => ∃ x τ1 own1 M, SRep W τ1 σ H1 own1 ∧ RvRep W τ1 σ H1 own1 x v M ∧ Stp tc τ own H τ1 own1 H1 ∧ Src tc own H M ∧ Fin W Wx tc (DRep W) (fun _ => True) τ own σ H Q (match x.fz with
    | some d => .ok d τ1
    | none => .stk)) I ⟨τ, own, S, Fin.step Stp.refl (fun _ h => h) hF fun x τ1 v H1 own1 M1 e1 S1 r1 b1 st1 sr1 st1' hF1 => ⟨x, τ1, own1, M1, S1, r1, st1, sr1, hF1⟩⟩) fun u s' ⟨v, H1, I1, rv, x, τ1, own1, M, S1, r1, st1, sr1, hF1⟩ => ?_
  cases ez : x.fz with
  | none =>
    rw [ez] at hF1
    exact hF1.elim
  | some d =>
    rw [ez] at hF1
    obtain ⟨H2, I2, S2, rd, st2, _⟩ := freeze_rv ok I1 S1 r1 ez st1 sr1
    exact ⟨v, H2, I2, rv, hF1 v H2 own1 [] S2 ⟨rfl, rd⟩ trivial st2 fun b hb => by cases hb⟩
end

/-! ### the end of a plain operation -/
def ZRep (W : Wd) (H : Hp) : Rv → V → List Addr → Prop
  | .pu d, v, M => M = [] ∧ RepD W H d v
  | .fr c, v, M => RepC W H c v M ∧ M.Nodup
  | _, _, _ => False
section
variable {W : Wd} {Wx : WX} {tc R : Nat → Prop} {τ τ1 : Loc} {own own1 : Own} {σ : St} {H H1 H2 : Hp} {Q : VK} {z : Rv} {v : V} {M : List Addr}
theorem Fin.done (ok : W.Ok) (hF : Fin W Wx tc (RvRep W) (BoIn R) τ own σ H Q (.ok z τ1)) (S : SRep W τ1 σ H1 own1) (st : Stp tc τ own H τ1 own1 H1) (sm : Same H1 H2) (r : ZRep W H2 z v M) (fr : ∀ b ∈ M, H1 b = none) : Q v H2 := by
  have st2 : Stp tc τ own H τ1 own1 H2 := st.trans (Stp.same sm)
  have S2 := S.same ok sm
  have sr : Src tc own H M := st.src_trans fun b hb => .inr (fr b hb)
  cases z with
  | pu d => exact hF v H2 own1 M S2 r trivial st2 sr
  | fr c => exact hF v H2 own1 M S2 ⟨r.1, r.2, fun i b hb z => by
      obtain ⟨o, e, _⟩ := S.mu z
      rw [fr b hb] at e
      cases e⟩ trivial st2 sr
  | ow c => exact r.elim
  | bo i ph c => exact r.elim
theorem Fin.bl (hF : Fin W Wx tc (RvRep W) (BoIn R) τ own σ H Q (.ok (.pu (.bl true)) τ1)) : True := trivial
end

/-! ### constants, names, places -/
section
variable {W : Wd} {X : Cx} {Wx : WX} {R : Nat → Prop} {pos : Pos}
theorem refl_of {α β : Type} {W : Wd} {Wx : WX} {tc : Nat → Prop} {Rep : Loc → St → Hp → Own → α → β → List Addr → Prop} {B : α → Prop} {τ : Loc} {own : Own} {σ : St} {H : Hp} {Q : β → Hp → Prop} {a : α} (S : SRep W τ σ H own)
    (hF : Fin W Wx tc Rep B τ own σ H Q (.ok a τ)) {b : β} (r : Rep τ σ H own a b []) (hb : B a) : Q b H := hF b H own [] S r hb Stp.refl fun b hb => by cases hb
theorem v_non {j : Nat} : PEv W X Wx nob nob (.Constant .none j pos) (fun τ => .ok (.pu .non) τ) := PE.imp' pe_non fun σ H Q ⟨τ, own, S, hF⟩ => refl_of S hF ⟨rfl, rfl⟩ trivial
theorem v_bl {b : Bool} {j : Nat} : PEv W X Wx nob nob (.Constant (.bool b) j pos) (fun τ => .ok (.pu (.bl b)) τ) := PE.imp' pe_bl fun σ H Q ⟨τ, own, S, hF⟩ => refl_of S hF ⟨rfl, rfl⟩ trivial
theorem v_int {b : Int} {j : Nat} : PEv W X Wx nob nob (.Constant (.int b) j pos) (fun τ => .ok (.pu (.int b)) τ) := PE.imp' pe_int fun σ H Q ⟨τ, own, S, hF⟩ => refl_of S hF ⟨rfl, rfl⟩ trivial
theorem v_str {b : Str} {j : Nat} : PEv W X Wx nob nob (.Constant (.str b) j pos) (fun τ => .ok (.pu (.str b)) τ) := PE.imp' pe_str fun σ H Q ⟨τ, own, S, hF⟩ => refl_of S hF ⟨rfl, rfl⟩ trivial
/-- a place's reading: where it is, and what stands there -/
def PRep (W : Wd) (τ : Loc) (σ : St) (H : Hp) (own : Own) (q : Nat × List Sp × C) (v : V) (M : List Addr) : Prop := RvRep W τ σ H own (rvOf q) v M ∧ q.2.2 ≠ .un
def PRoot (i : Nat) (q : Nat × List Sp × C) : Prop := q.1 = i
abbrev PPv (W : Wd) (X : Cx) (Wx : WX) (tc : Nat → Prop) (i : Nat) (e : Expr) (f : Loc → Res (Nat × List Sp × C)) : Prop := PE X e (tG W Wx tc (PRep W) (PRoot i) f)
theorem rvOf_pu {i : Nat} {ph : List Sp} {d : D} : rvOf (i, ph, .pu d) = .pu d := rfl
theorem rvOf_bo {i : Nat} {ph : List Sp} {c : C} (h : ownArg c = true) : rvOf (i, ph, c) = .bo i ph c := by
  cases c <;> first | rfl | cases h
theorem rvOf_in {i : Nat} {q : Nat × List Sp × C} (h : q.1 = i) : BoIn (· = i) (rvOf q) := by
  obtain ⟨j, ph, c⟩ := q
  cases c <;> first | trivial | exact h
def vF (i : Nat) (τ : Loc) : Res (Nat × List Sp × C) := match look τ i with
  | .un => .stk
  | c => .ok (i, [], c) τ
theorem p_var {i : Nat} {x : Str} (hN : X.N[i]? = some x) (hv : Vis X.env.scope x) (hd : (x == ("__debug__" : Str)) = false) (hcd : (x == ("__classdict__" : Str)) = false) : PPv W X Wx nob i (.Name x pos) (vF i) := by
  refine PE.imp' (pe_var hN hv hd hcd) fun σ H Q ⟨τ, own, S, hF⟩ => ?_
  rcases S.at_ i with ⟨e, _⟩ | ⟨v, e, r⟩
  · simp only [vF, e] at hF
    exact hF.elim
  · refine ⟨v, e, ?_⟩
    have key : ∀ c, look τ i = c → c ≠ .un → vF i τ = .ok (i, [], c) τ := fun c e n => by
      unfold vF
      rw [e]
      cases c <;> first | rfl | exact (n rfl).elim
    cases hc : look τ i with
    | un =>
      rw [hc] at r
      exact r.elim
    | pu d =>
      rw [key _ hc (by simp)] at hF
      rw [hc] at r
      exact refl_of S hF ⟨⟨rfl, r.2⟩, by simp⟩ rfl
    | lst cs =>
      rw [key _ hc (by simp)] at hF
      exact refl_of S hF ⟨⟨rfl, v, e, rfl, by rw [hc] <;> rfl, rfl, by simp⟩, by simp⟩ rfl
    | dic ks cs =>
      rw [key _ hc (by simp)] at hF
      exact refl_of S hF ⟨⟨rfl, v, e, rfl, by rw [hc] <;> rfl, rfl, by simp⟩, by simp⟩ rfl
    | obj k ns cs =>
      rw [key _ hc (by simp)] at hF
      exact refl_of S hF ⟨⟨rfl, v, e, rfl, by rw [hc] <;> rfl, rfl, by simp⟩, by simp⟩ rfl
theorem v_rd {tc : Nat → Prop} {i : Nat} {e : Expr} {f : Loc → Res (Nat × List Sp × C)} (h : PPv W X Wx tc i e f) : PEv W X Wx tc (· = i) e (fun τ => (f τ).bind rdC) :=
  PE.imp' h fun σ H Q ⟨τ, own, S, hF⟩ => ⟨τ, own, S, Fin.step Stp.refl (fun _ h => h) hF fun q τ1 v H1 own1 M1 e1 S1 r1 b1 st1 sr1 st1' hF1 => hF1 v H1 own1 M1 S1 r1.1 (rvOf_in b1) st1 sr1⟩
end

/-! ### two operands -/
section
variable {W : Wd} {X : Cx} {Wx : WX} {tca tcb Ra Rb : Nat → Prop} {a b : Expr} {fa fb : Loc → Res Rv} {pos : Pos}
/-- what an operation on values makes of two things that stand there -/
def rTwo (W : Wd) (op : C → C → Option Rv) : R2 := fun v v' H Q => ∃ c c' M M', RepC W H c v M ∧ RepC W H c' v' M' ∧ match op c c' with
  | none => False
  | some z => ∀ w H' M, Same H H' → ZRep W H' z w M → (∀ b ∈ M, H b = none) → Q w H'
/-- the plumbing of two operands: run them, then the operation -/
theorem two_of (ok : W.Ok) {op : C → C → Option Rv} {σ : St} {H : Hp} {Q : VK} (hR : ∀ i, Ra i → ¬ tcb i)
    (h : tEv W Wx (fun i => tca i ∨ tcb i) nob (fun τ => (fa τ).bind fun x τ1 => (fb τ1).bind fun y τ2 => lift (op x.c y.c) τ2) σ H Q) : tOp (rTwo W op) (tEv W Wx tca Ra fa) (tEv W Wx tcb Rb fb) σ H Q := by
  obtain ⟨τ, own, S, hF⟩ := h
  refine ⟨τ, own, S, Fin.step Stp.refl (fun _ h => .inl h) hF fun x τ1 v H1 own1 M1 e1 S1 r1 b1 st1 sr1 st1' hF1 => ?_⟩
  refine ⟨τ1, own1, S1, Fin.step st1' (fun _ h => .inr h) hF1 fun y τ2 v' H2 own2 M2 e2 S2 r2 b2 st2 sr2 st2' hF2 => ?_⟩
  have r1' := r1.step ok S1 b1 st2 hR
  obtain ⟨N1, q1⟩ := r1'.rc ok S2
  obtain ⟨N2, q2⟩ := r2.rc ok S2
  refine ⟨x.c, y.c, N1, N2, q1, q2, ?_⟩
  cases ez : op x.c y.c with
  | none =>
    rw [ez] at hF2
    exact hF2
  | some z =>
    rw [ez] at hF2
    exact fun w H' M sm zr fr => Fin.done ok hF2 S2 st2' sm zr fr
theorem v_bin (ok : W.Ok) {op : Operator} {o : C → C → Option Rv} (ho : OpR X (binaryOp op) (rTwo W o)) (ha : PEv W X Wx tca Ra a fa) (hb : PEv W X Wx tcb Rb b fb) (hR : ∀ i, Ra i → ¬ tcb i) :
    PEv W X Wx (fun i => tca i ∨ tcb i) nob (.BinOp a op b pos) (fun τ => (fa τ).bind fun x τ1 => (fb τ1).bind fun y τ2 => lift (o x.c y.c) τ2) := PE.imp' (pe_op ho ha hb) fun σ H Q h => two_of ok hR h
end
end DE
end
section
set_option Elab.async false
set_option linter.all false
set_option maxRecDepth 100000
set_option maxHeartbeats 2000000
/-! DE5: operators on values. -/
namespace DE
open PySem L2 PyProof.Rows PySem.SeqAt

theorem big_line {n : Nat} (h : n ≤ big) : n ≤ sizeLine := Nat.le_trans h (by decide)
theorem big_line' {n : Nat} (h : n < big) : n < sizeLine := Nat.lt_of_lt_of_le h (by decide)
theorem same_new {H : Hp} {p : Addr} {o : HO} (h : H p = none) : Same H (upd H p o) := fun b u e => by
  rw [upd_ne (ne_of_none e h)]
  exact e
section
variable {W : Wd} {H : Hp} {c : C} {v : V} {M : List Addr} {ds : List D}
theorem rep_list (e : listOf c = some ds) (r : RepC W H c v M) : ∃ a vs, v = .ref a ∧ SqL W.K H a vs ∧ RepDs W H ds vs := by
  unfold listOf at e
  split at e
  · cases e
    obtain ⟨_, a, vs, rfl, h, hr⟩ := r
    exact ⟨a, vs, rfl, h.sq, hr⟩
  · obtain ⟨a, vs, M', rfl, _, h, hr⟩ := r
    exact ⟨a, vs, rfl, SqL.of h, RepCs.pures e hr⟩
  · cases e
theorem rep_seq (e : seqOf c = some ds) (r : RepC W H c v M) : ∃ a vs, v = .ref a ∧ (SqL W.K H a vs ∨ SqT W.K H a vs) ∧ RepDs W H ds vs := by
  unfold seqOf at e
  split at e
  · cases e
    obtain ⟨_, a, vs, rfl, h, hr⟩ := r
    exact ⟨a, vs, rfl, .inr (SqT.of h), hr⟩
  · obtain ⟨a, vs, rfl, h, hr⟩ := rep_list e r
    exact ⟨a, vs, rfl, .inl h, hr⟩
theorem z_list {vs : List V} {p : Addr} (h : RepDs W H ds vs) (hp : H p = none) (ok : W.Ok) : ZRep W (upd H p (.lst vs)) (.fr (.lst (ds.map .pu))) (.ref p) [p] :=
  ⟨⟨p, vs, [], rfl, rfl, upd_same, RepCs.pu (RepDs.keep ok (same_keeps (same_new hp)) _ _ h)⟩, by simp⟩
theorem z_tup {vs : List V} {p : Addr} (h : RepDs W H ds vs) (hp : H p = none) (ok : W.Ok) : ZRep W (upd H p (.tup vs)) (.pu (.tup ds)) (.ref p) [] :=
  ⟨rfl, p, vs, rfl, upd_same, RepDs.keep ok (same_keeps (same_new hp)) _ _ h⟩
theorem fresh1 {p : Addr} (h : H p = none) : ∀ b ∈ [p], H b = none := fun b hb => by
  rw [List.mem_singleton.mp hb]
  exact h
end
section
variable {W : Wd} {X : Cx}
theorem op_catL : OpR X (binaryOp .Add) (fun x y H Q => ∃ l b xs zs, x = .ref l ∧ y = .ref b ∧ SqL X.K H l xs ∧ SqL X.K H b zs ∧ xs.length + zs.length ≤ sizeLine ∧ ∀ p, H p = none → Q (.ref p) (upd H p (.lst (xs ++ zs)))) := by
  intro pins s σ H x y v u Q I rx ry h
  obtain ⟨l, b, xs, zs, rfl, rfl, hH, hB, hz, q⟩ := h
  cases rx
  cases ry
  obtain ⟨its, r, ⟨⟨cls, dd, data, sl⟩, n, ho, hc, hdd, hd⟩, _⟩ := I.list hH
  obtain ⟨its2, r2, ⟨⟨cls2, dd2, data2, sl2⟩, n2, ho2, hc2, hdd2, hd2⟩, _⟩ := I.list hB
  simp only at hc hd hdd hc2 hd2 hdd2
  subst hc hd hdd hc2 hd2 hdd2
  have el := r.length
  have el2 := r2.length
  have e : its.toArray ++ its2.toArray = (its ++ its2).toArray := by simp
  refine concat_meets ⟨_, ho, rfl⟩ ⟨_, ho2, rfl⟩ noFill_list_add seq_list_add PySem.F.slot_list_add PySem.F.entry_list_add (PySem.F.args_list_add_2 _ _) (list_addW l b its.toArray its2.toArray n n2 none none sl sl2 (by simp; omega)) ⟨ho, ho2, ?_⟩
  rw [e]
  exact ⟨.ref _, _, I.lnew (t' := s.toks) (r.append r2) (by rw [List.length_append]; omega), rfl, q _ I.fresh⟩
theorem o_add (ok : W.Ok) (hK : X.K = W.K) : OpR X (binaryOp .Add) (rTwo W addC) := by
  intro pins s σ H x y v u Q I rx ry ⟨c, c', M, M', rc, rc', h⟩
  unfold addC at h
  split at h
  · exact False.elim h
  · rename_i z e
    split at e
    · cases e
      obtain ⟨_, rfl⟩ := rc
      obtain ⟨_, rfl⟩ := rc'
      exact op_add pins s σ H _ _ v u Q I rx ry ⟨_, _, rfl, rfl, h _ H [] (Same.refl H) ⟨rfl, rfl⟩ (by simp)⟩
    · split at e
      · rename_i hl
        cases e
        obtain ⟨_, rfl⟩ := rc
        obtain ⟨_, rfl⟩ := rc'
        exact op_add_str pins s σ H _ _ v u Q I rx ry ⟨_, _, rfl, rfl, big_line hl, h _ H [] (Same.refl H) ⟨rfl, rfl⟩ (by simp)⟩
      · cases e
    · split at e
      · rename_i hl
        cases e
        obtain ⟨_, a, vs, rfl, ha, ra⟩ := rc
        obtain ⟨_, b, us, rfl, hb, rb⟩ := rc'
        refine op_catA pins s σ H _ _ v u Q I rx ry ⟨a, b, vs, us, rfl, rfl, SqT.of ha, SqT.of hb, by rw [ra.length, rb.length]; exact big_line hl, fun e => ?_, fun _ e => ?_, fun _ _ p hp => ?_⟩
        · refine h _ H [] (Same.refl H) ⟨rfl, b, us, rfl, hb, ?_⟩ (by simp)
          have := RepDs.append ra rb
          rw [e] at this
          exact this
        · refine h _ H [] (Same.refl H) ⟨rfl, a, vs, rfl, ha, ?_⟩ (by simp)
          have := RepDs.append ra rb
          rw [e, List.append_nil] at this
          exact this
        · exact h _ _ [] (same_new hp) (z_tup (RepDs.append ra rb) hp ok) (by simp)
      · cases e
    · split at e
      · rename_i xs ys e1 e2
        split at e
        · rename_i hl
          cases e
          obtain ⟨a, vs, rfl, ha, ra⟩ := rep_list e1 rc
          obtain ⟨b, us, rfl, hb, rb⟩ := rep_list e2 rc'
          exact op_catL pins s σ H _ _ v u Q I rx ry ⟨a, b, vs, us, rfl, rfl, by rw [hK]; exact ha, by rw [hK]; exact hb, by rw [ra.length, rb.length]; exact big_line hl, fun p hp => h _ _ [p] (same_new hp) (z_list (RepDs.append ra rb) hp ok) (fresh1 hp)⟩
        · cases e
      · cases e
theorem o_sub : OpR X (binaryOp .Sub) (rTwo W subC) := by
  intro pins s σ H x y v u Q I rx ry ⟨c, c', M, M', rc, rc', h⟩
  unfold subC at h
  split at h
  · exact False.elim h
  · rename_i z e
    split at e
    · cases e
      obtain ⟨_, rfl⟩ := rc
      obtain ⟨_, rfl⟩ := rc'
      exact op_sub pins s σ H _ _ v u Q I rx ry ⟨_, _, rfl, rfl, h _ H [] (Same.refl H) ⟨rfl, rfl⟩ (by simp)⟩
    · cases e
theorem o_fdiv : OpR X (binaryOp .FloorDiv) (rTwo W fdivC) := by
  intro pins s σ H x y v u Q I rx ry ⟨c, c', M, M', rc, rc', h⟩
  unfold fdivC at h
  split at h
  · exact False.elim h
  · rename_i z e
    split at e
    · split at e
      · rename_i hl
        cases e
        obtain ⟨_, rfl⟩ := rc
        obtain ⟨_, rfl⟩ := rc'
        exact op_fdiv pins s σ H _ _ v u Q I rx ry ⟨_, _, rfl, rfl, hl, h _ H [] (Same.refl H) ⟨rfl, rfl⟩ (by simp)⟩
      · cases e
    · cases e
theorem o_mod : OpR X (binaryOp .Mod) (rTwo W modC) := by
  intro pins s σ H x y v u Q I rx ry ⟨c, c', M, M', rc, rc', h⟩
  unfold modC at h
  split at h
  · exact False.elim h
  · rename_i z e
    split at e
    · split at e
      · rename_i hl
        cases e
        obtain ⟨_, rfl⟩ := rc
        obtain ⟨_, rfl⟩ := rc'
        exact op_mod pins s σ H _ _ v u Q I rx ry ⟨_, _, rfl, rfl, hl, h _ H [] (Same.refl H) ⟨rfl, rfl⟩ (by simp)⟩
      · cases e
    · cases e
theorem o_pow : OpR X (binaryOp .Pow) (rTwo W powC) := by
  intro pins s σ H x y v u Q I rx ry ⟨c, c', M, M', rc, rc', h⟩
  unfold powC at h
  split at h
  · exact False.elim h
  · rename_i z e
    split at e
    · split at e
      · rename_i hl
        cases e
        obtain ⟨_, rfl⟩ := rc
        obtain ⟨_, rfl⟩ := rc'
        exact op_pow pins s σ H _ _ v u Q I rx ry ⟨_, _, rfl, rfl, ⟨hl.1, by omega, by omega⟩, h _ H [] (Same.refl H) ⟨rfl, rfl⟩ (by simp)⟩
      · cases e
    · cases e
theorem RepDs.rep {H : Hp} {ds : List D} {vs : List V} (h : RepDs W H ds vs) : ∀ k : Nat, RepDs W H (List.replicate k ds).flatten (List.replicate k vs).flatten
  | 0 => by simp; rfl
  | k + 1 => by
    simp only [List.replicate_succ, List.flatten_cons]
    exact RepDs.append h (RepDs.rep h k)
theorem o_mul (ok : W.Ok) (hK : X.K = W.K) : OpR X (binaryOp .Mult) (rTwo W mulC) := by
  intro pins s σ H x y v u Q I rx ry ⟨c, c', M, M', rc, rc', h⟩
  unfold mulC at h
  split at h
  · exact False.elim h
  · rename_i z e
    split at e
    · split at e
      · rename_i hl
        cases e
        obtain ⟨_, rfl⟩ := rc
        obtain ⟨_, rfl⟩ := rc'
        exact op_mul pins s σ H _ _ v u Q I rx ry ⟨_, _, rfl, rfl, .inr hl, h _ H [] (Same.refl H) ⟨rfl, rfl⟩ (by simp)⟩
      · cases e
    · split at e
      · rename_i hl
        cases e
        obtain ⟨_, a, vs, rfl, ha, ra⟩ := rc
        obtain ⟨_, rfl⟩ := rc'
        have el := ra.length
        refine op_repT pins s σ H _ _ v u Q I rx ry ⟨a, _, vs, rfl, rfl, SqT.of ha, ?_, hl.1, hl.2.1, by omega, fun p hp => h _ _ [] (same_new hp) (z_tup (ra.rep _) hp ok) (by simp)⟩
        rintro rfl
        simp at el
        omega
      · cases e
    · split at e
      · rename_i xs e1
        split at e
        · rename_i hl
          cases e
          obtain ⟨a, vs, M1, rfl, _, ha, ra⟩ := rc
          obtain ⟨_, rfl⟩ := rc'
          have rd := RepCs.pures e1 ra
          have el := rd.length
          refine op_rep pins s σ H _ _ v u Q I rx ry ⟨a, _, vs, rfl, rfl, ha, by omega, by omega, ?_, fun p hp => h _ _ [p] (same_new hp) (z_list (rd.rep _) hp ok) (fresh1 hp)⟩
          refine Nat.le_trans (Nat.mul_le_mul (show vs.length ≤ 1000 by omega) (show _ ≤ 1000 by omega)) (by decide)
        · cases e
      · cases e
    · cases e

/-! ### == of data -/
mutual
def D.py : D → PyData
  | .non => .none
  | .bl b => .bool b
  | .int i => .int i
  | .str s => .str s
  | .tup ds => .tuple (pys ds)
  | .lst ds => .list (pys ds)
  | .dic _ _ => .none
  | .obj _ _ _ => .none
  | .fn _ => .none
  | .clo _ _ => .none
def pys : List D → List PyData
  | [] => []
  | d :: ds => d.py :: pys ds
end
mutual
theorem dp_of {H : Hp} : ∀ (d : D) (v : V), d.dep ≤ 900 → RepD W H d v → Dp W.K H v d.py
  | .non, _, _, h => by
    have e : _ = _ := h
    rw [e]
    exact .non
  | .bl b, _, _, h => by
    have e : _ = _ := h
    rw [e]
    exact .bl b
  | .int b, _, _, h => by
    have e : _ = _ := h
    rw [e]
    exact .int b
  | .str b, _, _, h => by
    have e : _ = _ := h
    rw [e]
    exact .str b
  | .tup ds, v, hd, h => by
    obtain ⟨a, vs, rfl, h1, h2⟩ := h
    simp only [D.dep] at hd
    exact .tup (SqT.of h1) (dps_of ds vs (by omega) h2)
  | .lst ds, v, hd, h => by
    obtain ⟨a, vs, rfl, h1, h2⟩ := h
    simp only [D.dep] at hd
    exact .lst h1.sq (dps_of ds vs (by omega) h2)
  | .dic _ _, _, hd, _ => by simp [D.dep] at hd
  | .obj _ _ _, _, hd, _ => by simp [D.dep] at hd
  | .fn _, _, hd, _ => by simp [D.dep] at hd
  | .clo _ _, _, hd, _ => by simp [D.dep] at hd
theorem dps_of {H : Hp} : ∀ (ds : List D) (vs : List V), deps ds ≤ 900 → RepDs W H ds vs → DpAll W.K H vs (pys ds)
  | [], _, _, h => by
    have e : _ = [] := h
    rw [e]
    exact .nil
  | d :: ds, _, hd, h => by
    obtain ⟨v, r, rfl, h1, h2⟩ := h
    simp only [deps] at hd
    exact .cons (dp_of d v (by omega) h1) (dps_of ds r (by omega) h2)
end
mutual
/-- owned things too -/
theorem dpc_of {H : Hp} : ∀ (c : C) (v : V) (M : List Addr), c.fz.dep ≤ 900 → RepC W H c v M → Dp W.K H v c.fz.py
  | .un, _, _, _, h => False.elim h
  | .pu d, v, M, hd, h => dp_of d v hd h.2
  | .lst cs, v, M, hd, h => by
    obtain ⟨a, vs, M', rfl, _, h1, h2⟩ := h
    simp only [C.fz, D.dep] at hd
    exact .lst (SqL.of h1) (dpcs_of cs vs M' (by omega) h2)
  | .dic _ _, _, _, hd, _ => by simp [C.fz, D.dep] at hd
  | .obj _ _ _, _, _, hd, _ => by simp [C.fz, D.dep] at hd
theorem dpcs_of {H : Hp} : ∀ (cs : List C) (vs : List V) (M : List Addr), deps (fzs cs) ≤ 900 → RepCs W H cs vs M → DpAll W.K H vs (pys (fzs cs))
  | [], _, _, _, h => by
    rw [h.1]
    exact .nil
  | c :: cs, _, _, hd, h => by
    obtain ⟨v, r, M1, M2, rfl, rfl, h1, h2⟩ := h
    simp only [fzs, deps] at hd
    exact .cons (dpc_of c v M1 (by omega) h1) (dpcs_of cs r M2 (by omega) h2)
end
mutual
theorem py_depth : ∀ d : D, d.dep ≤ 900 → d.py.depth ≤ d.dep
  | .non, _ => by simp [D.py, PyData.depth]
  | .bl _, _ => by simp [D.py, PyData.depth]
  | .int _, _ => by simp [D.py, PyData.depth]
  | .str _, _ => by simp [D.py, PyData.depth]
  | .tup ds, h => by
    simp only [D.dep] at h
    have := pys_depth ds (by omega)
    simp only [D.py, D.dep, PyData.depth]
    omega
  | .lst ds, h => by
    simp only [D.dep] at h
    have := pys_depth ds (by omega)
    simp only [D.py, D.dep, PyData.depth]
    omega
  | .dic _ _, _ => by simp [D.py, PyData.depth]
  | .obj _ _ _, _ => by simp [D.py, PyData.depth]
  | .fn _, _ => by simp [D.py, PyData.depth]
  | .clo _ _, _ => by simp [D.py, PyData.depth]
theorem pys_depth : ∀ ds : List D, deps ds ≤ 900 → PyData.depthAll (pys ds) ≤ deps ds
  | [], _ => by simp [pys, PyData.depthAll, deps]
  | d :: ds, h => by
    simp only [deps] at h
    have h1 := py_depth d (by omega)
    have h2 := pys_depth ds (by omega)
    simp only [pys, PyData.depthAll, deps]
    omega
end
mutual
theorem py_lay : ∀ d : D, d.dep ≤ 900 → d.py.canLay0 = true
  | .non, _ => by simp [D.py, PyData.canLay0]
  | .bl _, _ => by simp [D.py, PyData.canLay0]
  | .int _, _ => by simp [D.py, PyData.canLay0]
  | .str s, h => by
    simp only [D.dep] at h
    simp only [D.py, PyData.canLay0]
    split at h
    · assumption
    · omega
  | .tup ds, h => by
    simp only [D.dep] at h
    simp [D.py, PyData.canLay0, pys_lay ds (by omega)]
  | .lst ds, h => by
    simp only [D.dep] at h
    simp [D.py, PyData.canLay0, pys_lay ds (by omega)]
  | .dic _ _, _ => by simp [D.py, PyData.canLay0]
  | .obj _ _ _, _ => by simp [D.py, PyData.canLay0]
  | .fn _, _ => by simp [D.py, PyData.canLay0]
  | .clo _ _, _ => by simp [D.py, PyData.canLay0]
theorem pys_lay : ∀ ds : List D, deps ds ≤ 900 → PyData.canLayAll0 (pys ds) = true
  | [], _ => by simp [pys, PyData.canLayAll0]
  | d :: ds, h => by
    simp only [deps] at h
    simp [pys, PyData.canLayAll0, py_lay d (by omega), pys_lay ds (by omega)]
end
theorem py_shaped {d : D} (h : d.dep ≤ 63) : SeqAt.shaped d.py = true := by
  unfold SeqAt.shaped
  have := py_depth d (by omega)
  simp [py_lay d (by omega)]
  omega
mutual
theorem eqb_py : ∀ a b : D, a.dep ≤ 900 → b.dep ≤ 900 → a.eqb b = PyData.eqv a.py b.py
  | .tup as, b, ha, hb => by
    cases b with
    | tup bs =>
      simp only [D.dep] at ha hb
      simp only [D.eqb, D.py, PyData.eqv]
      exact eqbs_py as bs (by omega) (by omega)
    | dic _ _ => simp [D.dep] at hb
    | obj _ _ _ => simp [D.dep] at hb
    | fn _ => simp [D.dep] at hb
    | clo _ _ => simp [D.dep] at hb
    | _ => simp [D.eqb, D.py, PyData.eqv]
  | .lst as, b, ha, hb => by
    cases b with
    | lst bs =>
      simp only [D.dep] at ha hb
      simp only [D.eqb, D.py, PyData.eqv]
      exact eqbs_py as bs (by omega) (by omega)
    | dic _ _ => simp [D.dep] at hb
    | obj _ _ _ => simp [D.dep] at hb
    | fn _ => simp [D.dep] at hb
    | clo _ _ => simp [D.dep] at hb
    | _ => simp [D.eqb, D.py, PyData.eqv]
  | .non, b, ha, hb => by cases b <;> first | (exfalso; simp [D.dep] at hb; done) | simp [D.eqb, D.py, PyData.eqv]
  | .bl _, b, ha, hb => by cases b <;> first | (exfalso; simp [D.dep] at hb; done) | simp [D.eqb, D.py, PyData.eqv]
  | .int _, b, ha, hb => by cases b <;> first | (exfalso; simp [D.dep] at hb; done) | simp [D.eqb, D.py, PyData.eqv]
  | .str _, b, ha, hb => by cases b <;> first | (exfalso; simp [D.dep] at hb; done) | simp [D.eqb, D.py, PyData.eqv]
  | .dic _ _, _, ha, _ => by simp [D.dep] at ha
  | .obj _ _ _, _, ha, _ => by simp [D.dep] at ha
  | .fn _, _, ha, _ => by simp [D.dep] at ha
  | .clo _ _, _, ha, _ => by simp [D.dep] at ha
theorem eqbs_py : ∀ as bs : List D, deps as ≤ 900 → deps bs ≤ 900 → eqbs as bs = PyData.eqvAll (pys as) (pys bs)
  | [], [], _, _ => by simp [eqbs, pys, PyData.eqvAll]
  | [], _ :: _, _, _ => by simp [eqbs, pys, PyData.eqvAll]
  | _ :: _, [], _, _ => by simp [eqbs, pys, PyData.eqvAll]
  | a :: as, b :: bs, ha, hb => by
    simp only [deps] at ha hb
    simp only [eqbs, pys, PyData.eqvAll]
    rw [eqb_py a b (by omega) (by omega), eqbs_py as bs (by omega) (by omega)]
end
/-- a comparison of two things that stand there -/
def rCmp (W : Wd) (op : C → C → Option Bool) : R2 := fun v v' H Q => ∃ c c' M M', RepC W H c v M ∧ RepC W H c' v' M' ∧ match op c c' with
  | none => False
  | some z => Q (.bl z) H
theorem o_eq (hK : X.K = W.K) (hu : X.A.units + 64 < cLine) : OpR X (compareOp .Eq) (rCmp W eqC) := by
  intro pins s σ H x y v u Q I rx ry ⟨c, c', M, M', rc, rc', h⟩
  unfold eqC at h
  split at h
  · exact False.elim h
  · rename_i z e
    split at e
    · rename_i hl
      cases e
      refine op_eqD hu pins s σ H _ _ v u Q I rx ry ⟨_, _, by rw [hK]; exact dpc_of c x M (by omega) rc, by rw [hK]; exact dpc_of c' y M' (by omega) rc', py_shaped (by omega), py_shaped (by omega), ?_⟩
      rw [← eqb_py _ _ (by omega) (by omega)]
      exact h
    · cases e
theorem o_ne (hK : X.K = W.K) (hu : X.A.units + 64 < cLine) : OpR X (compareOp .NotEq) (rCmp W fun a b => (eqC a b).map (!·)) := by
  intro pins s σ H x y v u Q I rx ry ⟨c, c', M, M', rc, rc', h⟩
  unfold eqC at h
  split at h
  · exact False.elim h
  · rename_i z e
    dsimp only at e
    split at e
    · rename_i hl
      cases e
      refine op_neD hu pins s σ H _ _ v u Q I rx ry ⟨_, _, by rw [hK]; exact dpc_of c x M (by omega) rc, by rw [hK]; exact dpc_of c' y M' (by omega) rc', py_shaped (by omega), py_shaped (by omega), ?_⟩
      rw [← eqb_py _ _ (by omega) (by omega)]
      exact h
    · cases e
theorem o_int {op : CmpOp} {f : Int → Int → Bool} (ho : OpR X (compareOp op) (rI0 fun i j => .bl (f i j))) : OpR X (compareOp op) (rCmp W (intC f)) := by
  intro pins s σ H x y v u Q I rx ry ⟨c, c', M, M', rc, rc', h⟩
  unfold intC at h
  split at h
  · exact False.elim h
  · rename_i z e
    split at e
    · cases e
      obtain ⟨_, rfl⟩ := rc
      obtain ⟨_, rfl⟩ := rc'
      exact ho pins s σ H _ _ v u Q I rx ry ⟨_, _, rfl, rfl, h⟩
    · cases e
/-! ### in -/
theorem fl_rep {H : Hp} {d : D} {v : V} (f : isFl d = true) (h : RepD W H d v) : flatV v = true := by
  cases d <;> first | (cases f; done) | (have e : _ = _ := h; rw [e] <;> rfl)
theorem fls_rep {H : Hp} : ∀ {ds : List D} {vs : List V}, ds.all isFl = true → RepDs W H ds vs → vs.all flatV = true
  | [], _, _, h => by
    have e : _ = [] := h
    rw [e]
    rfl
  | d :: ds, _, f, h => by
    obtain ⟨v, r, rfl, h1, h2⟩ := h
    simp only [List.all_cons, Bool.and_eq_true] at f ⊢
    exact ⟨fl_rep f.1 h1, fls_rep f.2 h2⟩
theorem fl_eq {H : Hp} {d e : D} {v u : V} (f : isFl d = true) (g : isFl e = true) (h : RepD W H d v) (h' : RepD W H e u) : eqV v u = d.eqb e := by
  cases d <;> first
    | (cases f; done)
    | (cases e <;> first
        | (cases g; done)
        | (have q : _ = _ := h
           have q' : _ = _ := h'
           rw [q, q']
           simp [eqV, D.eqb]
           done))
theorem fls_any {H : Hp} {e : D} {u : V} (g : isFl e = true) (h' : RepD W H e u) : ∀ {ds : List D} {vs : List V}, ds.all isFl = true → RepDs W H ds vs → inV u vs = ds.any (·.eqb e)
  | [], _, _, h => by
    have e : _ = [] := h
    rw [e]
    rfl
  | d :: ds, _, f, h => by
    obtain ⟨v, r, rfl, h1, h2⟩ := h
    simp only [List.all_cons, Bool.and_eq_true] at f
    have ih := fls_any g h' f.2 h2
    unfold inV at ih ⊢
    simp only [List.any_cons, ih, fl_eq f.1 g h1 h']
theorem any_py {e : D} (he : e.dep ≤ 60) : ∀ {ds : List D}, deps ds ≤ 60 → ((pys ds).any fun z => PyData.eqv z e.py) = ds.any (·.eqb e)
  | [], _ => rfl
  | d :: ds, h => by
    simp only [deps] at h
    simp only [pys, List.any_cons, any_py he (show deps ds ≤ 60 by omega), eqb_py d e (by omega) (by omega)]
theorem dkey_eq {H : Hp} {x : D} {v : V} (f : flat x = true) (h : RepD W H x v) : ∃ k', v = kV k' ∧ x = dKey k' := by
  cases x <;> first | (cases f; done) | skip
  · rename_i i
    exact ⟨.inl i, h, rfl⟩
  · rename_i i
    exact ⟨.inr i, h, rfl⟩
theorem dkey_eqb (a b : Key) : (dKey a).eqb (dKey b) = decide (a = b) := by
  cases a <;> cases b <;> simp [dKey, D.eqb, Bool.beq_eq_decide_eq]
theorem valV_some (kvs : List (Key × V)) (k : Key) : (valV kvs k).isSome = (kvs.map (fun p => dKey p.1)).any (·.eqb (dKey k)) := by
  rw [← valV_any]
  induction kvs with
  | nil => rfl
  | cons p r ih => simp only [List.any_cons, List.map_cons, ih, dkey_eqb]
theorem o_in_dict (hu : X.A.units + 1 < cLine) {y : Addr} {kvs : List (Key × V)} {k : Key} {pins : List (Addr × Obj)} {s : Shared} {σ : L2.St} {H : Hp} {v : Value} {Q : VK} (I : Inv X pins σ H s) (rx : RelV (kV k) v) (hd : Rd H y (.dK kvs)) (neg : Bool)
    (q : Q (.bl (if neg then !(valV kvs k).isSome else (valV kvs k).isSome)) H) : wpAny (model X.prog X.w) X.A (compareOp (if neg then .NotIn else .In) v (.ref y)) (EP X pins σ Q) X.xe s := by
  cases neg with
  | false => exact d_in hu I (.inl ⟨kvs, k, hd, rfl, rfl⟩) rx fun s' I' => ⟨.bl _, H, I', rfl, q⟩
  | true => exact d_notIn hu I (.inl ⟨kvs, k, hd, rfl, rfl⟩) rx fun s' I' => ⟨.bl _, H, I', rfl, q⟩
def ng (neg : Bool) (b : Bool) : Bool := if neg then !b else b
theorem o_isin (hK : X.K = W.K) (hu : X.A.units + 65 < cLine) (neg : Bool) : OpR X (compareOp (if neg then .NotIn else .In)) (rCmp W fun a b => (inC a b).map (ng neg)) := by
  intro pins s σ H x y v u Q I rx ry ⟨c, c', M, M', rc, rc', h⟩
  dsimp only at h
  unfold inC at h
  split at h
  · exact False.elim h
  · rename_i z e
    split at e
    · rename_i _ _ d
      obtain ⟨_, rd⟩ := rc
      obtain ⟨b, eb, rfl⟩ := Option.map_eq_some_iff.mp e
      unfold isIn at eb
      split at eb
      · obtain ⟨_, rfl⟩ := rc'
        split at eb
        · cases eb
          have rd' : x = _ := rd
          subst rd'
          cases neg with
          | false => exact op_in_str pins s σ H _ _ v u Q I rx ry ⟨_, _, rfl, rfl, h⟩
          | true => exact op_notin_str pins s σ H _ _ v u Q I rx ry ⟨_, _, rfl, rfl, h⟩
        · cases eb
      · split at eb
        · rename_i fx
          cases eb
          obtain ⟨_, a, o, kvs, rfl, ha, rfl, _⟩ := rc'
          obtain ⟨k, rfl, rfl⟩ := dkey_eq fx rd
          cases ry
          refine o_in_dict (by omega) I rx (.inr ⟨o, ha⟩) neg ?_
          rw [valV_some]
          exact h
        · cases eb
      · split at eb
        · rename_i fx
          cases eb
          obtain ⟨a, kvs, M1, rfl, _, ha, rfl, _⟩ := rc'
          obtain ⟨k, rfl, rfl⟩ := dkey_eq fx rd
          cases ry
          refine o_in_dict (by omega) I rx (.inl ha) neg ?_
          rw [valV_some]
          exact h
        · cases eb
      · unfold inSeq at eb
        split at eb
        · rename_i ds es
          split at eb
          · rename_i hf
            cases eb
            simp only [Bool.and_eq_true] at hf
            obtain ⟨a, vs, rfl, ha, ra⟩ := rep_seq es rc'
            have e3 := fls_any hf.1 rd hf.2 ra
            cases neg with
            | false => exact op_in_seq pins s σ H _ _ v u Q I rx ry ⟨a, vs, rfl, by rw [hK]; exact ha, fl_rep hf.1 rd, fls_rep hf.2 ra, by rw [if_neg (by simp), e3]; exact h⟩
            | true => exact op_notIn_seq pins s σ H _ _ v u Q I rx ry ⟨a, vs, rfl, by rw [hK]; exact ha, fl_rep hf.1 rd, fls_rep hf.2 ra, by rw [if_pos rfl, e3]; exact h⟩
          · split at eb
            · rename_i es' el
              split at eb
              · rename_i hl
                cases eb
                obtain ⟨a, vs, rfl, ha, ra⟩ := rep_list el rc'
                have d1 : Dp X.K H x d.py := by rw [hK]; exact dp_of d x (by omega) rd
                have d2 : Dp X.K H (.ref a) (.list (pys es')) := by rw [hK]; exact .lst ha (dps_of _ _ (by omega) ra)
                have s2 : SeqAt.shaped (.list (pys es')) = true := py_shaped (d := .lst es') (by simp only [D.dep]; omega)
                cases neg with
                | false => exact op_inD hu pins s σ H _ _ v u Q I rx ry ⟨_, _, d1, d2, py_shaped (by omega), s2, by rw [any_py hl.1 hl.2]; exact h⟩
                | true => exact op_notInD hu pins s σ H _ _ v u Q I rx ry ⟨_, _, d1, d2, py_shaped (by omega), s2, by rw [any_py hl.1 hl.2]; exact h⟩
              · cases eb
            · cases eb
        · cases eb
    · cases e
end
end DE
end
section
set_option Elab.async false
set_option linter.all false
set_option maxRecDepth 100000
set_option maxHeartbeats 2000000
/-! DE6: comparisons, tests, and, or, not, if; lists of expressions; displays. -/
namespace DE
open PySem L2 PySem.SeqAt

theorem bind_assoc {α β γ : Type} (r : Res α) (f : α → Loc → Res β) (g : β → Loc → Res γ) : (r.bind f).bind g = r.bind fun a τ => (f a τ).bind g := by
  cases r <;> rfl
/-! ### two operands, whatever is done with them -/
section
variable {W : Wd} {X : Cx} {Wx : WX} {tca tcb tcc tc Ra Rb R : Nat → Prop} {a b c : Expr} {fa fb fc : Loc → Res Rv} {pos : Pos}
theorem RvRep.apart {τ : Loc} {own : Own} {σ : L2.St} {H : Hp} {x : Rv} {v : V} {M M2 : List Addr} (r : RvRep W τ σ H own x v M) (sr : Src tc own H M2) : ∀ b ∈ M, b ∉ M2 := fun b hb h2 => by
  have key : RepC W H x.c v M → (∀ i b, b ∈ M → b ∈ own i → False) → False := fun rc dj => by
    obtain ⟨o, e, _⟩ := RepC.mu _ _ _ rc b hb
    rcases sr b h2 with ⟨j, _, z⟩ | z
    · exact dj j b hb z
    · rw [e] at z
      cases z
  cases x with
  | pu d =>
    rw [r.1] at hb
    cases hb
  | fr c => exact key r.1 r.2.2
  | ow c => exact key r.1 r.2.2
  | bo i ph c =>
    rw [r.1] at hb
    cases hb
/-- run two operands; k: what is to be shown then -/
theorem two_run {α β : Type} {Rep : Loc → L2.St → Hp → Own → α → β → List Addr → Prop} {B : α → Prop} {g : Rv → Rv → Loc → Res α} {r : R2} {Q : β → Hp → Prop} {Q' : VK} {σ : L2.St} {H : Hp} (ok : W.Ok) (hR : ∀ i, Ra i → ¬ tcb i) (h1 : ∀ i, tca i → tc i) (h2 : ∀ i, tcb i → tc i)
    (h : tG W Wx tc Rep B (fun τ => (fa τ).bind fun x τ1 => (fb τ1).bind fun y τ2 => g x y τ2) σ H Q)
    (k : ∀ τ τ2 own own2 x y v v' H2 M1 M2, SRep W τ2 σ H2 own2 → RvRep W τ2 σ H2 own2 x v M1 → RvRep W τ2 σ H2 own2 y v' M2 → BoIn Ra x → BoIn Rb y → Stp tc τ own H τ2 own2 H2 → Src tc own H M1 → Src tc own H M2 → (∀ b ∈ M1, b ∉ M2) → Fin W Wx tc Rep B τ own σ H Q (g x y τ2) → r v v' H2 Q') :
    tOp r (tEv W Wx tca Ra fa) (tEv W Wx tcb Rb fb) σ H Q' := by
  obtain ⟨τ, own, S, hF⟩ := h
  refine ⟨τ, own, S, Fin.step Stp.refl h1 hF fun x τ1 v H1 own1 M1 e1 S1 r1 b1 st1 sr1 st1' hF1 => ?_⟩
  refine ⟨τ1, own1, S1, Fin.step st1' h2 hF1 fun y τ2 v' H2 own2 M2 e2 S2 r2 b2 st2 sr2 st2' hF2 => ?_⟩
  exact k τ τ2 own own2 x y v v' H2 M1 M2 S2 (r1.step ok S1 b1 st2 hR) r2 b1 b2 st2' (sr1.mono h1) (st1'.src_trans (sr2.mono h2)) (r1.apart sr2) hF2
theorem refl_of' {α β : Type} {Rep : Loc → L2.St → Hp → Own → α → β → List Addr → Prop} {B : α → Prop} {τ τ1 : Loc} {own own1 : Own} {σ : L2.St} {H H1 : Hp} {Q : β → Hp → Prop} {a : α} (S : SRep W τ1 σ H1 own1) (st : Stp tc τ own H τ1 own1 H1)
    (hF : Fin W Wx tc Rep B τ own σ H Q (.ok a τ1)) {b : β} (r : Rep τ1 σ H1 own1 a b []) (hb : B a) : Q b H1 := hF b H1 own1 [] S r hb st fun b hb => by cases hb
/-- a op b, as a value -/
theorem v_cmp (ok : W.Ok) {op : CmpOp} {o : C → C → Option Bool} (ho : OpR X (compareOp op) (rCmp W o)) (ha : PEv W X Wx tca Ra a fa) (hb : PEv W X Wx tcb Rb b fb) (hR : ∀ i, Ra i → ¬ tcb i) (hm : behindInMarks op b = false) :
    PEv W X Wx (fun i => tca i ∨ tcb i) nob (.Compare a [op] [b] pos) (fun τ => (fa τ).bind fun x τ1 => (fb τ1).bind fun y τ2 => lift ((o x.c y.c).map fun b => .pu (.bl b)) τ2) := PE.imp' (pe_cmpR ho ha hb hm) fun σ H Q h =>
  two_run ok hR (fun _ h => .inl h) (fun _ h => .inr h) h fun τ τ2 own own2 x y v v' H2 M1 M2 S2 r1 r2 b1 b2 st s1 s2 dj hF => by
    obtain ⟨N1, q1⟩ := r1.rc ok S2
    obtain ⟨N2, q2⟩ := r2.rc ok S2
    refine ⟨x.c, y.c, N1, N2, q1, q2, ?_⟩
    cases ez : o x.c y.c with
    | none =>
      rw [ez] at hF
      exact hF
    | some z =>
      rw [ez] at hF
      exact refl_of' S2 st hF ⟨rfl, rfl⟩ trivial
/-- .. as a test -/
theorem t_cmp (ok : W.Ok) {op : CmpOp} {o : C → C → Option Bool} (ho : OpR X (compareOp op) (rCmp W o)) (ha : PEv W X Wx tca Ra a fa) (hb : PEv W X Wx tcb Rb b fb) (hR : ∀ i, Ra i → ¬ tcb i) (hm : behindInMarks op b = false) :
    PTv W X Wx (fun i => tca i ∨ tcb i) (.Compare a [op] [b] pos) (fun τ => ((fa τ).bind fun x τ1 => (fb τ1).bind fun y τ2 => lift ((o x.c y.c).map fun b => .pu (.bl b)) τ2).bind truthE) := PT.imp' (pt_cmpR ho ha hb hm) fun σ H Q h => by
  simp only [bind_assoc] at h
  exact two_run ok hR (fun _ h => .inl h) (fun _ h => .inr h) h fun τ τ2 own own2 x y v v' H2 M1 M2 S2 r1 r2 b1 b2 st s1 s2 dj hF => by
    obtain ⟨N1, q1⟩ := r1.rc ok S2
    obtain ⟨N2, q2⟩ := r2.rc ok S2
    refine ⟨x.c, y.c, N1, N2, q1, q2, ?_⟩
    cases ez : o x.c y.c with
    | none =>
      rw [ez] at hF
      exact hF
    | some z =>
      rw [ez] at hF
      exact ⟨z, rfl, refl_of' (a := z) S2 st hF ⟨rfl, rfl⟩ trivial⟩
/-- a op b op' c -/
theorem v_chain (ok : W.Ok) {op op' : CmpOp} {o o' : C → C → Option Bool} (ho : OpR X (compareOp op) (rCmp W o)) (ho' : OpR X (compareOp op') (rCmp W o')) (ha : PEv W X Wx tca Ra a fa) (hb : PEv W X Wx tcb Rb b fb) (hc : PEv W X Wx tcc R c fc) (hR : ∀ i, Ra i → ¬ tcb i) (hR' : ∀ i, Rb i → ¬ tcc i)
    (hm : lastMarks [op, op'] [b, c] = false) :
    PEv W X Wx (fun i => tca i ∨ tcb i ∨ tcc i) nob (.Compare a [op, op'] [b, c] pos) (fun τ => (fa τ).bind fun x τ1 => (fb τ1).bind fun y τ2 => (optR (o x.c y.c) τ2).bind fun t τ2 =>
      if t then (fc τ2).bind fun z τ3 => lift ((o' y.c z.c).map fun b => .pu (.bl b)) τ3 else .ok (.pu (.bl false)) τ2) := PE.imp' (pe_chain ho ho' ha hb hc hm) fun σ H Q h =>
  two_run (r := fun x y H2 Q => rCmp W o x y H2 fun z H3 => ∃ k, z = .bl k ∧ (if k = true then tEv W Wx tcc R fc σ H3 fun w' H4 => rCmp W o' y w' H4 Q else Q (.bl false) H3)) ok hR (fun _ h => .inl h) (fun _ h => .inr (.inl h)) h
    fun τ τ2 own own2 x y v v' H2 M1 M2 S2 r1 r2 b1 b2 st s1 s2 dj hF => by
    obtain ⟨N1, q1⟩ := r1.rc ok S2
    obtain ⟨N2, q2⟩ := r2.rc ok S2
    refine ⟨x.c, y.c, N1, N2, q1, q2, ?_⟩
    cases ez : o x.c y.c with
    | none =>
      rw [ez] at hF
      exact hF
    | some z =>
      rw [ez] at hF
      refine ⟨z, rfl, ?_⟩
      cases z with
      | false => exact refl_of' S2 st hF ⟨rfl, rfl⟩ trivial
      | true =>
        refine ⟨τ2, own2, S2, Fin.step st (fun _ h => .inr (.inr h)) hF fun z τ3 w H3 own3 M3 e3 S3 r3 b3 st3 sr3 st3' hF3 => ?_⟩
        obtain ⟨N2', q2'⟩ := (r2.step ok S2 b2 st3 hR').rc ok S3
        obtain ⟨N3, q3⟩ := r3.rc ok S3
        refine ⟨y.c, z.c, N2', N3, q2', q3, ?_⟩
        cases ey : o' y.c z.c with
        | none =>
          rw [ey] at hF3
          exact hF3
        | some z' =>
          rw [ey] at hF3
          exact refl_of' S3 st3' hF3 ⟨rfl, rfl⟩ trivial

/-- .. as a test -/
theorem t_chain (ok : W.Ok) {op op' : CmpOp} {o o' : C → C → Option Bool} (ho : OpR X (compareOp op) (rCmp W o)) (ho' : OpR X (compareOp op') (rCmp W o')) (ha : PEv W X Wx tca Ra a fa) (hb : PEv W X Wx tcb Rb b fb) (hc : PEv W X Wx tcc R c fc) (hR : ∀ i, Ra i → ¬ tcb i) (hR' : ∀ i, Rb i → ¬ tcc i)
    (hm : lastMarks [op, op'] [b, c] = false) :
    PTv W X Wx (fun i => tca i ∨ tcb i ∨ tcc i) (.Compare a [op, op'] [b, c] pos) (fun τ => ((fa τ).bind fun x τ1 => (fb τ1).bind fun y τ2 => (optR (o x.c y.c) τ2).bind fun t τ2 =>
      if t then (fc τ2).bind fun z τ3 => lift ((o' y.c z.c).map fun b => .pu (.bl b)) τ3 else .ok (.pu (.bl false)) τ2).bind truthE) := PT.imp' (pt_chain ho ho' ha hb hc hm) fun σ H Q h => by
  simp only [bind_assoc] at h
  exact two_run (r := fun x y H2 Q => rCmp W o x y H2 fun z H3 => ∃ k, z = .bl k ∧ (if k = true then tEv W Wx tcc R fc σ H3 fun w' H4 => rCmp W o' y w' H4 Q else Q (.bl false) H3)) ok hR (fun _ h => .inl h) (fun _ h => .inr (.inl h)) h
    fun τ τ2 own own2 x y v v' H2 M1 M2 S2 r1 r2 b1 b2 st s1 s2 dj hF => by
    obtain ⟨N1, q1⟩ := r1.rc ok S2
    obtain ⟨N2, q2⟩ := r2.rc ok S2
    refine ⟨x.c, y.c, N1, N2, q1, q2, ?_⟩
    cases ez : o x.c y.c with
    | none =>
      rw [ez] at hF
      exact hF
    | some z =>
      rw [ez] at hF
      refine ⟨z, rfl, ?_⟩
      cases z with
      | false => exact ⟨false, rfl, refl_of' (a := false) S2 st hF ⟨rfl, rfl⟩ trivial⟩
      | true =>
        have hF2 : Fin W Wx (fun i => tca i ∨ tcb i ∨ tcc i) _ _ τ own σ H _ (((fc τ2).bind fun z τ3 => lift ((o' y.c z.c).map fun b => Rv.pu (.bl b)) τ3).bind truthE) := hF
        rw [bind_assoc] at hF2
        refine ⟨τ2, own2, S2, Fin.step st (fun _ h => .inr (.inr h)) hF2 fun z τ3 w H3 own3 M3 e3 S3 r3 b3 st3 sr3 st3' hF3 => ?_⟩
        obtain ⟨N2', q2'⟩ := (r2.step ok S2 b2 st3 hR').rc ok S3
        obtain ⟨N3, q3⟩ := r3.rc ok S3
        refine ⟨y.c, z.c, N2', N3, q2', q3, ?_⟩
        cases ey : o' y.c z.c with
        | none =>
          rw [ey] at hF3
          exact hF3
        | some z' =>
          rw [ey] at hF3
          exact ⟨z', rfl, refl_of' (a := z') S3 st3' hF3 ⟨rfl, rfl⟩ trivial⟩

/-! ### one operand -/
theorem non_iff {H : Hp} {c : C} {v : V} {M : List Addr} {b : Bool} (r : RepC W H c v M) (e : noneC c = some b) : decide (v = .non) = b := by
  cases c with
  | un => exact False.elim r
  | pu d =>
    cases d with
    | non =>
      have q : v = _ := r.2
      cases e
      simp [q]
    | clo l ws => cases e
    | tup ds =>
      obtain ⟨_, _, _, rfl, _⟩ := r
      cases e
      simp
    | lst ds =>
      obtain ⟨_, _, _, rfl, _⟩ := r
      cases e
      simp
    | dic ks ds =>
      obtain ⟨_, _, _, _, rfl, _⟩ := r
      cases e
      simp
    | obj k ns ds =>
      obtain ⟨_, _, _, _, _, rfl, _⟩ := r
      cases e
      simp
    | fn f =>
      have q : v = _ := r.2.1
      cases e
      simp [q]
    | _ =>
      have q : v = _ := r.2
      cases e
      simp [q]
  | lst cs =>
    obtain ⟨_, _, _, rfl, _⟩ := r
    cases e
    simp
  | dic ks cs =>
    obtain ⟨_, _, _, rfl, _⟩ := r
    cases e
    simp
  | obj k ns cs =>
    obtain ⟨_, _, _, _, rfl, _⟩ := r
    cases e
    simp
theorem emp_eq {α β : Type} {xs : List α} {ys : List β} (h : ys.length = xs.length) : (!xs.isEmpty) = (!ys.isEmpty) := by
  cases xs <;> cases ys <;> first | rfl | (simp at h)
/-- run one operand -/
theorem one_run {α β : Type} {Rep : Loc → L2.St → Hp → Own → α → β → List Addr → Prop} {B : α → Prop} {g : Rv → Loc → Res α} {Q : β → Hp → Prop} {Q' : VK} {σ : L2.St} {H : Hp} (h1 : ∀ i, tca i → tc i)
    (h : tG W Wx tc Rep B (fun τ => (fa τ).bind g) σ H Q)
    (k : ∀ τ τ2 own own2 x v H2 M1, SRep W τ2 σ H2 own2 → RvRep W τ2 σ H2 own2 x v M1 → BoIn Ra x → Stp tc τ own H τ2 own2 H2 → Src tc own H M1 → Fin W Wx tc Rep B τ own σ H Q (g x τ2) → Q' v H2) :
    tEv W Wx tca Ra fa σ H Q' := by
  obtain ⟨τ, own, S, hF⟩ := h
  exact ⟨τ, own, S, Fin.step Stp.refl h1 hF fun x τ1 v H1 own1 M1 e1 S1 r1 b1 st1 sr1 st1' hF1 => k τ τ1 own own1 x v H1 M1 S1 r1 b1 st1' (sr1.mono h1) hF1⟩
theorem v_isN (ok : W.Ok) {j : Nat} {pos' : Pos} (ha : PEv W X Wx tca Ra a fa) : PEv W X Wx tca nob (.Compare a [.Is] [.Constant .none j pos'] pos) (fun τ => (fa τ).bind fun x τ1 => lift ((isNone x).map fun b => .pu (.bl b)) τ1) :=
  PE.imp' (pe_cmp (pc_isN ha) rfl) fun σ H Q h => one_run (fun _ h => h) h fun τ τ2 own own2 x v H2 M1 S2 r1 b1 st s1 hF => by
    obtain ⟨N1, q1⟩ := r1.rc ok S2
    cases ez : isNone x with
    | none =>
      rw [ez] at hF
      exact hF.elim
    | some z =>
      rw [ez] at hF
      rw [non_iff q1 ez]
      exact refl_of' S2 st hF ⟨rfl, rfl⟩ trivial
theorem v_isntN (ok : W.Ok) {j : Nat} {pos' : Pos} (ha : PEv W X Wx tca Ra a fa) : PEv W X Wx tca nob (.Compare a [.IsNot] [.Constant .none j pos'] pos) (fun τ => (fa τ).bind fun x τ1 => lift ((isNone x).map fun b => .pu (.bl (!b))) τ1) :=
  PE.imp' (pe_cmp (pc_notN ha) rfl) fun σ H Q h => one_run (fun _ h => h) h fun τ τ2 own own2 x v H2 M1 S2 r1 b1 st s1 hF => by
    obtain ⟨N1, q1⟩ := r1.rc ok S2
    cases ez : isNone x with
    | none =>
      rw [ez] at hF
      exact hF.elim
    | some z =>
      rw [ez] at hF
      rw [non_iff q1 ez]
      exact refl_of' S2 st hF ⟨rfl, rfl⟩ trivial
/-- a test whose value is known to be True or False -/
theorem t_isN (ok : W.Ok) {j : Nat} {pos' : Pos} (ha : PEv W X Wx tca Ra a fa) : PTv W X Wx tca (.Compare a [.Is] [.Constant .none j pos'] pos) (fun τ => ((fa τ).bind fun x τ1 => lift ((isNone x).map fun b => .pu (.bl b)) τ1).bind truthE) :=
  PT.imp' (pt_cmp (pc_isN ha) rfl) fun σ H Q h => by
    simp only [bind_assoc] at h
    exact one_run (fun _ h => h) h fun τ τ2 own own2 x v H2 M1 S2 r1 b1 st s1 hF => by
      obtain ⟨N1, q1⟩ := r1.rc ok S2
      cases ez : isNone x with
      | none =>
        rw [ez] at hF
        exact hF.elim
      | some z =>
        rw [ez] at hF
        exact ⟨z, by rw [non_iff q1 ez], refl_of' (a := z) S2 st hF ⟨rfl, rfl⟩ trivial⟩
theorem t_isntN (ok : W.Ok) {j : Nat} {pos' : Pos} (ha : PEv W X Wx tca Ra a fa) : PTv W X Wx tca (.Compare a [.IsNot] [.Constant .none j pos'] pos) (fun τ => ((fa τ).bind fun x τ1 => lift ((isNone x).map fun b => .pu (.bl (!b))) τ1).bind truthE) :=
  PT.imp' (pt_cmp (pc_notN ha) rfl) fun σ H Q h => by
    simp only [bind_assoc] at h
    exact one_run (fun _ h => h) h fun τ τ2 own own2 x v H2 M1 S2 r1 b1 st s1 hF => by
      obtain ⟨N1, q1⟩ := r1.rc ok S2
      cases ez : isNone x with
      | none =>
        rw [ez] at hF
        exact hF.elim
      | some z =>
        rw [ez] at hF
        exact ⟨!z, by rw [non_iff q1 ez], refl_of' (a := !z) S2 st hF ⟨rfl, rfl⟩ trivial⟩
theorem tru_of {H : Hp} {c : C} {v : V} {M : List Addr} {b : Bool} (r : RepC W H c v M) (e : truth c = some b) : TruV W.K v H b := by
  unfold truth at e
  split at e
  · cases e
    have q : v = _ := r.2
    rw [q]
    rfl
  · cases e
    have q : v = _ := r.2
    rw [q]
    rfl
  · cases e
    have q : v = _ := r.2
    rw [q]
    rfl
  · split at e
    · rename_i hl
      cases e
      have q : v = _ := r.2
      rw [q]
      refine ⟨big_line hl, ?_⟩
      rename_i s
      cases hs : s.length <;> simp
      omega
    · cases e
  · cases e
    obtain ⟨_, a, vs, rfl, h1, h2⟩ := r
    exact .inr (.inl ⟨vs, SqT.of h1, emp_eq h2.length⟩)
  · cases e
    obtain ⟨_, a, vs, rfl, h1, h2⟩ := r
    exact .inl ⟨vs, h1.sq, emp_eq h2.length⟩
  · cases e
    obtain ⟨a, vs, M1, rfl, _, h1, h2⟩ := r
    exact .inl ⟨vs, SqL.of h1, emp_eq (RepCs.length h2)⟩
  · cases e
/-- an expression's truth -/
theorem t_truth (ok : W.Ok) (hK : X.K = W.K) (ha : PEv W X Wx tca Ra a fa) (he : ∀ whole, isTrue a X.env whole = (do let v ← whole; standAt a.pos; holding [v] (truthy v))) : PTv W X Wx tca a (fun τ => (fa τ).bind truthE) :=
  PT.imp' (pt_truth ha he) fun σ H Q h => one_run (fun _ h => h) h fun τ τ2 own own2 x v H2 M1 S2 r1 b1 st s1 hF => by
    obtain ⟨N1, q1⟩ := r1.rc ok S2
    unfold truthE at hF
    cases ez : truth x.c with
    | none =>
      rw [ez] at hF
      exact hF.elim
    | some z =>
      rw [ez] at hF
      exact ⟨z, by rw [hK]; exact tru_of q1 ez, refl_of' (a := z) S2 st hF ⟨rfl, rfl⟩ trivial⟩
end
end DE
end
section
set_option Elab.async false
set_option linter.all false
set_option maxRecDepth 100000
set_option maxHeartbeats 2000000
/-! DE7: and, or, not, if; lists of expressions; displays; items, fields, slices. -/
namespace DE
open PySem L2 PySem.SeqAt

section
variable {W : Wd} {X : Cx} {Wx : WX} {tca tcb tcc tc Ra Rb Rc R : Nat → Prop} {a b c e : Expr} {es : List Expr} {rest : List Expr} {fa fb fc : Loc → Res Rv} {pos : Pos}
theorem Fin.tail {α β : Type} {Rep : Loc → L2.St → Hp → Own → α → β → List Addr → Prop} {BA BB : α → Prop} {τ τ1 : Loc} {own own1 : Own} {σ : L2.St} {H H1 : Hp} {Q : β → Hp → Prop} {r : Res α}
    (st : Stp tc τ own H τ1 own1 H1) (sub : ∀ i, tcb i → tc i) (hB : ∀ r, BB r → BA r) (hF : Fin W Wx tc Rep BA τ own σ H Q r) : Fin W Wx tcb Rep BB τ1 own1 σ H1 Q r := by
  cases r with
  | ok y τ2 => exact fun v H2 own2 M2 S2 r2 b2 st2 sr2 => hF v H2 own2 M2 S2 r2 (hB _ b2) (st.trans (st2.mono sub)) (st.src_trans (sr2.mono sub))
  | exc x τ2 => exact fun cls d H2 own2 S2 st2 xr => hF cls d H2 own2 S2 (st.trans (st2.mono sub)) xr
  | stk => exact hF
theorem bo_mono {x : Rv} (h : ∀ i, Ra i → R i) (b : BoIn Ra x) : BoIn R x := by
  cases x <;> first | trivial | exact h _ b
theorem v_one {op : BoolOp} (ha : PEv W X Wx tca Ra a fa) : PEv W X Wx tca Ra (.BoolOp op [a] pos) fa := pe_one ha
def andE (fb : Loc → Res Rv) (x : Rv) (τ1 : Loc) : Res Rv := match x with
  | .pu (.bl c) => if c then fb τ1 else .ok (.pu (.bl false)) τ1
  | _ => .stk
def orE (fb : Loc → Res Rv) (x : Rv) (τ1 : Loc) : Res Rv := match x with
  | .pu (.bl c) => if c then .ok (.pu (.bl true)) τ1 else fb τ1
  | _ => .stk
def notE (x : Rv) (τ1 : Loc) : Res Rv := match x with
  | .pu (.bl b) => .ok (.pu (.bl (!b))) τ1
  | _ => .stk
theorem bl_of {x : Rv} (f : Rv → Loc → Res Rv) (hf : ∀ x τ, (∀ c, x ≠ .pu (.bl c)) → f x τ = .stk) {τ τ1 : Loc} {own : Own} {σ : L2.St} {H : Hp} {Q : VK} (hF : Fin W Wx tc (RvRep W) (BoIn R) τ own σ H Q (f x τ1)) : ∃ c, x = .pu (.bl c) := by
  refine Classical.byContradiction fun n => ?_
  rw [hf x τ1 fun c e => n ⟨c, e⟩] at hF
  exact hF
theorem andE_stk (x : Rv) (τ : Loc) (h : ∀ c, x ≠ .pu (.bl c)) : andE fb x τ = .stk := by
  unfold andE
  split
  · exact (h _ rfl).elim
  · rfl
theorem orE_stk (x : Rv) (τ : Loc) (h : ∀ c, x ≠ .pu (.bl c)) : orE fb x τ = .stk := by
  unfold orE
  split
  · exact (h _ rfl).elim
  · rfl
theorem notE_stk (x : Rv) (τ : Loc) (h : ∀ c, x ≠ .pu (.bl c)) : notE x τ = .stk := by
  unfold notE
  split
  · exact (h _ rfl).elim
  · rfl
theorem v_and (ha : PEv W X Wx tca Ra a fa) (hb : PEv W X Wx tcb Rb (.BoolOp .And (b :: rest) pos) fb) : PEv W X Wx (fun i => tca i ∨ tcb i) Rb (.BoolOp .And (a :: b :: rest) pos) (fun τ => (fa τ).bind (andE fb)) :=
  PE.imp' (pe_and ha hb) fun σ H Q h => one_run (fun _ h => .inl h) h fun τ τ2 own own2 x v H2 M1 S2 r1 b1 st s1 hF => by
    obtain ⟨c, rfl⟩ := bl_of (andE fb) andE_stk hF
    have q : v = _ := r1.2
    refine ⟨c, q, ?_⟩
    cases c with
    | true => exact ⟨τ2, own2, S2, Fin.tail st (fun _ h => .inr h) (fun _ h => h) hF⟩
    | false => exact refl_of' S2 st hF ⟨rfl, rfl⟩ trivial
theorem v_or (ha : PEv W X Wx tca Ra a fa) (hb : PEv W X Wx tcb Rb (.BoolOp .Or (b :: rest) pos) fb) : PEv W X Wx (fun i => tca i ∨ tcb i) Rb (.BoolOp .Or (a :: b :: rest) pos) (fun τ => (fa τ).bind (orE fb)) :=
  PE.imp' (pe_or ha hb) fun σ H Q h => one_run (fun _ h => .inl h) h fun τ τ2 own own2 x v H2 M1 S2 r1 b1 st s1 hF => by
    obtain ⟨c, rfl⟩ := bl_of (orE fb) orE_stk hF
    have q : v = _ := r1.2
    refine ⟨c, q, ?_⟩
    cases c with
    | true => exact refl_of' S2 st hF ⟨rfl, rfl⟩ trivial
    | false => exact ⟨τ2, own2, S2, Fin.tail st (fun _ h => .inr h) (fun _ h => h) hF⟩
theorem v_not (ha : PEv W X Wx tca Ra a fa) : PEv W X Wx tca nob (.UnaryOp .Not a pos) (fun τ => (fa τ).bind notE) :=
  PE.imp' (pe_not ha) fun σ H Q h => one_run (fun _ h => h) h fun τ τ2 own own2 x v H2 M1 S2 r1 b1 st s1 hF => by
    obtain ⟨c, rfl⟩ := bl_of notE notE_stk hF
    have q : v = _ := r1.2
    exact ⟨c, q, refl_of' S2 st hF ⟨rfl, rfl⟩ trivial⟩
/-! tests -/
abbrev PWv (W : Wd) (X : Cx) (Wx : WX) (tc : Nat → Prop) (e : Expr) (f : Loc → Res Bool) : Prop := PW X e (tBv W Wx tc f)
theorem PW.imp' {X : Cx} {e : Expr} {t t' : TT} (h : PW X e t) (hi : ∀ σ H Q, t' σ H Q → t σ H Q) : PW X e t' := ⟨fun wh pins s σ H Q I q => h.run wh pins s σ H Q I (hi σ H Q q)⟩
variable {ga gb : Loc → Res Bool}
def andT (gb : Loc → Res Bool) (c : Bool) (τ1 : Loc) : Res Bool := if c then gb τ1 else .ok false τ1
def orT (gb : Loc → Res Bool) (c : Bool) (τ1 : Loc) : Res Bool := if c then .ok true τ1 else gb τ1
theorem one_runB {α β : Type} {Rep : Loc → L2.St → Hp → Own → α → β → List Addr → Prop} {B : α → Prop} {g : Bool → Loc → Res α} {Q : β → Hp → Prop} {Q' : Bool → Hp → Prop} {σ : L2.St} {H : Hp} (h1 : ∀ i, tca i → tc i)
    (h : tG W Wx tc Rep B (fun τ => (ga τ).bind g) σ H Q)
    (k : ∀ τ τ2 own own2 (x : Bool) H2, SRep W τ2 σ H2 own2 → Stp tc τ own H τ2 own2 H2 → Fin W Wx tc Rep B τ own σ H Q (g x τ2) → Q' x H2) :
    tBv W Wx tca ga σ H Q' := by
  obtain ⟨τ, own, S, hF⟩ := h
  refine ⟨τ, own, S, Fin.step Stp.refl h1 hF fun x τ1 v H1 own1 M1 e1 S1 r1 b1 st1 sr1 st1' hF1 => ?_⟩
  rw [r1.2]
  exact k τ τ1 own own1 x H1 S1 st1' hF1
theorem t_and1 (ha : PTv W X Wx tca a ga) : PWv W X Wx tca (.BoolOp .And [a] pos) ga := pw_and1 ha
theorem t_or1 (ha : PTv W X Wx tca a ga) : PWv W X Wx tca (.BoolOp .Or [a] pos) ga := pw_or1 ha
theorem t_and (ha : PTv W X Wx tca a ga) (hb : PWv W X Wx tcb (.BoolOp .And (b :: rest) pos) gb) : PWv W X Wx (fun i => tca i ∨ tcb i) (.BoolOp .And (a :: b :: rest) pos) (fun τ => (ga τ).bind (andT gb)) :=
  PW.imp' (pw_and ha hb) fun σ H Q h => one_runB (fun _ h => .inl h) h fun τ τ2 own own2 x H2 S2 st hF => by
    cases x with
    | true => exact ⟨τ2, own2, S2, Fin.tail st (fun _ h => .inr h) (fun _ h => h) hF⟩
    | false => exact refl_of' (a := false) S2 st hF ⟨rfl, rfl⟩ trivial
theorem t_or (ha : PTv W X Wx tca a ga) (hb : PWv W X Wx tcb (.BoolOp .Or (b :: rest) pos) gb) : PWv W X Wx (fun i => tca i ∨ tcb i) (.BoolOp .Or (a :: b :: rest) pos) (fun τ => (ga τ).bind (orT gb)) :=
  PW.imp' (pw_or ha hb) fun σ H Q h => one_runB (fun _ h => .inl h) h fun τ τ2 own own2 x H2 S2 st hF => by
    cases x with
    | true => exact refl_of' (a := true) S2 st hF ⟨rfl, rfl⟩ trivial
    | false => exact ⟨τ2, own2, S2, Fin.tail st (fun _ h => .inr h) (fun _ h => h) hF⟩
theorem t_not (ha : PTv W X Wx tca a ga) : PTv W X Wx tca (.UnaryOp .Not a pos) (fun τ => (ga τ).bind fun c τ1 => .ok (!c) τ1) :=
  PT.imp' (pt_not ha) fun σ H Q h => one_runB (fun _ h => h) h fun τ τ2 own own2 x H2 S2 st hF => refl_of' (a := !x) S2 st hF ⟨rfl, rfl⟩ trivial
theorem v_ife (hc : PTv W X Wx tcc c ga) (ha : PEv W X Wx tca Ra a fa) (hb : PEv W X Wx tcb Rb b fb) : PEv W X Wx (fun i => tcc i ∨ tca i ∨ tcb i) (fun i => Ra i ∨ Rb i) (.IfExp c a b pos) (fun τ => (ga τ).bind fun c τ1 => if c then fa τ1 else fb τ1) :=
  PE.imp' (pe_ifExp hc ha hb) fun σ H Q h => one_runB (fun _ h => .inl h) h fun τ τ2 own own2 x H2 S2 st hF => by
    cases x with
    | true => exact ⟨τ2, own2, S2, Fin.tail st (fun _ h => .inr (.inl h)) (fun _ h => bo_mono (fun _ h => .inl h) h) hF⟩
    | false => exact ⟨τ2, own2, S2, Fin.tail st (fun _ h => .inr (.inr h)) (fun _ h => bo_mono (fun _ h => .inr h) h) hF⟩

/-! ### lists of expressions -/
def RvReps (W : Wd) (τ : Loc) (σ : L2.St) (H : Hp) (own : Own) : List Rv → List V → List Addr → Prop
  | [], vs, M => vs = [] ∧ M = []
  | r :: rs, vs, M => ∃ v q M1 M2, vs = v :: q ∧ M = M1 ++ M2 ∧ RvRep W τ σ H own r v M1 ∧ RvReps W τ σ H own rs q M2 ∧ ∀ b ∈ M1, b ∉ M2
def BoIns (R : Nat → Prop) (rs : List Rv) : Prop := ∀ r ∈ rs, BoIn R r
abbrev PAv (W : Wd) (X : Cx) (Wx : WX) (tc R : Nat → Prop) (es : List Expr) (f : Loc → Res (List Rv)) : Prop := PA X es (tG W Wx tc (RvReps W) (BoIns R) f)
theorem RvReps.step (ok : W.Ok) {τ τ1 : Loc} {own own1 : Own} {σ : L2.St} {H H1 : Hp} (S : SRep W τ σ H own) (st : Stp tc τ own H τ1 own1 H1) (hb : ∀ i, R i → ¬ tc i) : ∀ {rs : List Rv} {vs : List V} {M : List Addr}, RvReps W τ σ H own rs vs M → BoIns R rs → RvReps W τ1 σ H1 own1 rs vs M
  | [], _, _, r, _ => r
  | x :: rs, _, _, r, b => by
    obtain ⟨v, q, M1, M2, rfl, rfl, h1, h2, h3⟩ := r
    exact ⟨v, q, M1, M2, rfl, rfl, h1.step ok S (b x (by simp)) st hb, RvReps.step ok S st hb h2 fun y hy => b y (by simp [hy]), h3⟩
theorem RvReps.length {τ : Loc} {own : Own} {σ : L2.St} {H : Hp} : ∀ {rs : List Rv} {vs : List V} {M : List Addr}, RvReps W τ σ H own rs vs M → vs.length = rs.length
  | [], _, _, r => by rw [r.1]; rfl
  | x :: rs, _, _, r => by
    obtain ⟨v, q, M1, M2, rfl, rfl, h1, h2, h3⟩ := r
    simp [RvReps.length h2]
variable {fs : Loc → Res (List Rv)}
theorem a_nil : PAv W X Wx nob nob [] (fun τ => .ok [] τ) := PA.imp' pa_nil fun σ H Q ⟨τ, own, S, hF⟩ => refl_of S hF ⟨rfl, rfl⟩ fun r hr => by cases hr
theorem a_cons (ok : W.Ok) (ha : PEv W X Wx tca Ra e fa) (hs : PAv W X Wx tcb Rb es fs) (hR : ∀ i, Ra i → ¬ tcb i) (he : starEach (e :: es) X.env = (false, eval e X.env) :: starEach es X.env) :
    PAv W X Wx (fun i => tca i ∨ tcb i) (fun i => Ra i ∨ Rb i) (e :: es) (fun τ => (fa τ).bind fun r τ1 => (fs τ1).bind fun rs τ2 => .ok (r :: rs) τ2) :=
  PA.imp' (pa_cons ha hs he) fun σ H Q h => one_run (fun _ h => .inl h) h fun τ τ1 own own1 x v H1 M1 S1 r1 b1 st1 s1 hF1 => by
    refine ⟨τ1, own1, S1, Fin.step st1 (fun _ h => .inr h) hF1 fun rs τ2 vs H2 own2 M2 e2 S2 r2 b2 st2 sr2 st2' hF2 => ?_⟩
    refine hF2 (v :: vs) H2 own2 (M1 ++ M2) S2 ⟨v, vs, M1, M2, rfl, rfl, r1.step ok S1 b1 st2 hR, r2, r1.apart sr2⟩ (fun r hr => ?_) st2' ?_
    · rcases List.mem_cons.mp hr with e | hr
      · rw [e]
        exact bo_mono (fun _ h => .inl h) b1
      · exact bo_mono (fun _ h => .inr h) (b2 r hr)
    · intro b hb
      rcases List.mem_append.mp hb with hb | hb
      · exact s1 b hb
      · exact st1.src_trans (sr2.mono fun _ h => .inr h) b hb

/-! to data, all of them -/
theorem freeze_cs (ok : W.Ok) {pins : List (Addr × Obj)} {σ : L2.St} {s : Shared} {τ τ1 : Loc} {H H1 : Hp} {own own1 : Own} {cs : List C} {vs : List V} {M : List Addr} (I : Inv X pins σ H1 s) (S : SRep W τ1 σ H1 own1) (r1 : RepCs W H1 cs vs M) (r2 : M.Nodup) (r3 : ∀ i b, b ∈ M → b ∈ own1 i → False)
    (st : Stp tc τ own H τ1 own1 H1) (sr : Src tc own H M) : ∃ H2, Inv X pins σ H2 s ∧ SRep W τ1 σ H2 own1 ∧ RepDs W H2 (fzs cs) vs ∧ Stp tc τ own H τ1 own1 H2 ∧ Keeps H1 H2 ∧ (∀ b, b ∉ M → H2 b = H1 b) := by
  obtain ⟨H2, I2, q1, q2, q3, q4⟩ := freezes ok cs vs M H1 I r1 r2
  refine ⟨H2, I2, S.ext ok q2 (fun i b hb => q3 b fun z => r3 i b z hb) ?_, q1, ⟨fun b o eb nt hb => ?_, fun b h => q4 b (st.dom b h), st.un, st.src⟩, q2, q3⟩
  · refine tabs_mu S.tb fun b o eb nm => ?_
    by_cases hb : b ∈ M
    · obtain ⟨o', e', m⟩ := RepCs.mu _ _ _ r1 b hb
      rw [eb] at e'
      cases e'
      exact (nm m).elim
    · rw [q3 b hb]
      exact eb
  · have e1 := st.fr b o eb nt hb
    by_cases hm : b ∈ M
    · rcases sr b hm with ⟨j, hj, z⟩ | z
      · exact (hb j hj z).elim
      · rw [eb] at z
        cases z
    · rw [q3 b hm]
      exact e1
theorem fz_cs {τ : Loc} {own : Own} {σ : L2.St} {H : Hp} : ∀ {rs : List Rv} {vs : List V} {M : List Addr} {ds : List D}, RvReps W τ σ H own rs vs M → fzAll rs = some ds → RepCs W H (rs.map Rv.c) vs M ∧ M.Nodup ∧ (∀ i b, b ∈ M → b ∈ own i → False) ∧ ds = fzs (rs.map Rv.c)
  | [], _, _, ds, r, e => by
    simp [fzAll] at e
    subst e
    refine ⟨r, ?_, ?_, rfl⟩
    · rw [r.2]
      simp
    · rw [r.2]
      intro i b hb
      cases hb
  | x :: rs, _, _, ds, r, e => by
    obtain ⟨v, q, M1, M2, rfl, rfl, h1, h2, h3⟩ := r
    simp only [fzAll, Option.bind_eq_some_iff, Option.map_eq_some_iff] at e
    obtain ⟨d, e1, ds', e2, rfl⟩ := e
    obtain ⟨g1, g2, g3, g4⟩ := fz_cs h2 e2
    have key : RepC W H x.c v M1 ∧ M1.Nodup ∧ (∀ i b, b ∈ M1 → b ∈ own i → False) ∧ d = x.c.fz := by
      cases x with
      | pu d' =>
        cases e1
        have z := h1.1
        subst z
        exact ⟨⟨rfl, h1.2⟩, by simp, (fun i b hb => by cases hb), rfl⟩
      | fr c =>
        cases e1
        exact ⟨h1.1, h1.2.1, h1.2.2, rfl⟩
      | ow c => cases e1
      | bo i ph c => cases e1
    refine ⟨⟨v, q, M1, M2, rfl, rfl, key.1, g1⟩, ?_, fun i b hb z => ?_, ?_⟩
    · exact List.nodup_append.mpr ⟨key.2.1, g2, fun a ha b hb e => h3 a ha (e ▸ hb)⟩
    · rcases List.mem_append.mp hb with hb | hb
      · exact key.2.2.1 i b hb z
      · exact g3 i b hb z
    · simp only [List.map_cons, fzs]
      rw [← key.2.2.2, ← g4]
theorem keep_cs {τ : Loc} {own : Own} {σ : L2.St} {H : Hp} : ∀ {rs : List Rv} {vs : List V} {M : List Addr} {cs : List C}, RvReps W τ σ H own rs vs M → keepAll rs = some cs → RepCs W H cs vs M ∧ M.Nodup ∧ (∀ i b, b ∈ M → b ∈ own i → False)
  | [], _, _, ds, r, e => by
    simp [keepAll] at e
    subst e
    refine ⟨r, ?_, ?_⟩
    · rw [r.2]
      simp
    · rw [r.2]
      intro i b hb
      cases hb
  | x :: rs, _, _, ds, r, e => by
    obtain ⟨v, q, M1, M2, rfl, rfl, h1, h2, h3⟩ := r
    simp only [keepAll, Option.bind_eq_some_iff, Option.map_eq_some_iff] at e
    obtain ⟨d, e1, ds', e2, rfl⟩ := e
    obtain ⟨g1, g2, g3⟩ := keep_cs h2 e2
    have key : RepC W H d v M1 ∧ M1.Nodup ∧ (∀ i b, b ∈ M1 → b ∈ own i → False) := by
      cases x with
      | pu d' =>
        cases e1
        have z := h1.1
        subst z
        exact ⟨⟨rfl, h1.2⟩, by simp, (fun i b hb => by cases hb)⟩
      | fr c =>
        cases e1
        exact ⟨h1.1, h1.2.1, h1.2.2⟩
      | ow c => cases e1
      | bo i ph c => cases e1
    refine ⟨⟨v, q, M1, M2, rfl, rfl, key.1, g1⟩, ?_, fun i b hb z => ?_⟩
    · exact List.nodup_append.mpr ⟨key.2.1, g2, fun a ha b hb e => h3 a ha (e ▸ hb)⟩
    · rcases List.mem_append.mp hb with hb | hb
      · exact key.2.2 i b hb z
      · exact g3 i b hb z
/-- the values as data -/
def DReps (W : Wd) (_ : Loc) (_ : L2.St) (H : Hp) (_ : Own) (ds : List D) (vs : List V) (M : List Addr) : Prop := M = [] ∧ RepDs W H ds vs
abbrev PAd (W : Wd) (X : Cx) (Wx : WX) (tc : Nat → Prop) (es : List Expr) (f : Loc → Res (List D)) : Prop := PA X es (tG W Wx tc (DReps W) (fun _ => True) f)
theorem a_data (ok : W.Ok) (h : PAv W X Wx tc R es fs) : PAd W X Wx tc es (fun τ => (fs τ).bind fun rs τ => optR (fzAll rs) τ) := by
  refine ⟨fun pos pins s σ H Q I ⟨τ, own, S, hF⟩ => ?_⟩
  refine thn (h.run pos pins s σ H (fun vs H1 => ∃ rs τ1 own1 M, SRep W τ1 σ H1 own1 ∧ RvReps W τ1 σ H1 own1 rs vs M ∧ Stp tc τ own H τ1 own1 H1 ∧ Src tc own H M ∧ Fin W Wx tc (DReps W) (fun _ => True) τ own σ H Q (optR (fzAll rs) τ1)) I
    ⟨τ, own, S, Fin.step Stp.refl (fun _ h => h) hF fun x τ1 v H1 own1 M1 e1 S1 r1 b1 st1 sr1 st1' hF1 => ⟨x, τ1, own1, M1, S1, r1, st1, sr1, hF1⟩⟩) fun u s' ⟨v, H1, I1, rv, x, τ1, own1, M, S1, r1, st1, sr1, hF1⟩ => ?_
  cases ez : fzAll x with
  | none =>
    rw [ez] at hF1
    exact hF1.elim
  | some d =>
    rw [ez] at hF1
    obtain ⟨g1, g2, g3, g4⟩ := fz_cs r1 ez
    obtain ⟨H2, I2, S2, rd, st2, _⟩ := freeze_cs ok I1 S1 g1 g2 g3 st1 sr1
    rw [← g4] at rd
    exact ⟨v, H2, I2, rv, hF1 v H2 own1 [] S2 ⟨rfl, rd⟩ trivial st2 fun b hb => by cases hb⟩
/-- .. as owned things -/
def CReps (W : Wd) (_ : Loc) (_ : L2.St) (H : Hp) (own : Own) (cs : List C) (vs : List V) (M : List Addr) : Prop := RepCs W H cs vs M ∧ M.Nodup ∧ ∀ i b, b ∈ M → b ∈ own i → False
theorem fz_len : ∀ {rs : List Rv} {ds : List D}, fzAll rs = some ds → ds.length = rs.length
  | [], ds, e => by
    simp [fzAll] at e
    subst e
    rfl
  | y :: rs, ds, e => by
    simp only [fzAll, Option.bind_eq_some_iff, Option.map_eq_some_iff] at e
    obtain ⟨d, _, ds', e2, rfl⟩ := e
    simp [fz_len e2]
theorem kp_len : ∀ {rs : List Rv} {ds : List C}, keepAll rs = some ds → ds.length = rs.length
  | [], ds, e => by
    simp [keepAll] at e
    subst e
    rfl
  | y :: rs, ds, e => by
    simp only [keepAll, Option.bind_eq_some_iff, Option.map_eq_some_iff] at e
    obtain ⟨d, _, ds', e2, rfl⟩ := e
    simp [kp_len e2]
theorem a_run {α β : Type} {Rep : Loc → L2.St → Hp → Own → α → β → List Addr → Prop} {B : α → Prop} {γ δ : Type} {RepA : Loc → L2.St → Hp → Own → γ → δ → List Addr → Prop} {BA : γ → Prop} {f : Loc → Res γ} {g : γ → Loc → Res α} {Q : β → Hp → Prop} {Q' : δ → Hp → Prop} {σ : L2.St} {H : Hp} (h1 : ∀ i, tca i → tc i)
    (h : tG W Wx tc Rep B (fun τ => (f τ).bind g) σ H Q)
    (k : ∀ τ τ2 own own2 x v H2 M1, SRep W τ2 σ H2 own2 → RepA τ2 σ H2 own2 x v M1 → BA x → Stp tc τ own H τ2 own2 H2 → Src tc own H M1 → Fin W Wx tc Rep B τ own σ H Q (g x τ2) → Q' v H2) :
    tG W Wx tca RepA BA f σ H Q' := by
  obtain ⟨τ, own, S, hF⟩ := h
  exact ⟨τ, own, S, Fin.step Stp.refl h1 hF fun x τ1 v H1 own1 M1 e1 S1 r1 b1 st1 sr1 st1' hF1 => k τ τ1 own own1 x v H1 M1 S1 r1 b1 st1' (sr1.mono h1) hF1⟩
/-- data, few -/
theorem a_dataF (ok : W.Ok) {g : List D → Loc → Res Rv} {σ : L2.St} {H : Hp} {Q : VK} (op : List Rv → Option Rv) (hop : ∀ rs z, op rs = some z → ∃ ds, fzAll rs = some ds ∧ ds.length ≤ 1000 ∧ z = .pu (.tup ds)) (h : tEv W Wx tc nob (fun τ => (fs τ).bind fun rs τ1 => lift (op rs) τ1) σ H Q) :
    tEv W Wx tc nob (fun τ => ((fs τ).bind fun rs τ => optR (fzAll rs) τ).bind fun ds τ => if ds.length ≤ 1000 then .ok (.pu (.tup ds)) τ else .stk) σ H Q := by
  obtain ⟨τ, own, S, hF⟩ := h
  refine ⟨τ, own, S, ?_⟩
  dsimp only at hF ⊢
  rw [bind_assoc]
  revert hF
  cases fs τ with
  | exc x τ1 => exact fun h => h
  | stk => exact fun h => h
  | ok rs τ1 =>
    intro hF
    have hF' : Fin W Wx tc (RvRep W) (BoIn nob) τ own σ H Q (lift (op rs) τ1) := hF
    show Fin W Wx tc (RvRep W) (BoIn nob) τ own σ H Q ((optR (fzAll rs) τ1).bind _)
    cases ez : op rs with
    | none =>
      rw [ez] at hF'
      exact hF'.elim
    | some z =>
      obtain ⟨ds, e1, e2, rfl⟩ := hop rs z ez
      rw [ez] at hF'
      rw [e1]
      simp only [optR, Res.bind]
      rw [if_pos e2]
      exact hF'
theorem v_tup (ok : W.Ok) {x1 : Nat} (hs : PAv W X Wx tc R es fs) : PEv W X Wx tc nob (.Tuple es x1 pos) (fun τ => (fs τ).bind fun rs τ1 => lift (tupE rs) τ1) :=
  PE.imp' (pe_tup (a_data ok hs)) fun σ H Q h => by
    have h' := a_dataF ok (g := fun _ _ => .stk) tupE (fun rs z e => by
      unfold tupE at e
      split at e
      · obtain ⟨ds, e1, rfl⟩ := Option.map_eq_some_iff.mp e
        exact ⟨ds, e1, by rw [fz_len e1]; assumption, rfl⟩
      · cases e) h
    refine a_run (fun _ h => h) h' fun τ τ1 own own1 ds vs H1 M1 S1 r1 b1 st1 sr1 hF1 => ?_
    split at hF1
    · rename_i hl
      refine ⟨?_, fun p hp => Fin.done ok hF1 S1 st1 (same_new hp) (z_tup r1.2 hp ok) (by simp)⟩
      rw [RepDs.length r1.2]
      exact Nat.le_trans hl (by decide)
    · exact hF1.elim
/-- [a, b, ..] -/
theorem v_lst (ok : W.Ok) (hs : PAv W X Wx tc R es fs) : PEv W X Wx tc nob (.List es pos) (fun τ => (fs τ).bind fun rs τ1 => lift (lstE rs) τ1) :=
  PE.imp' (pe_lst hs) fun σ H Q h => a_run (fun _ h => h) h fun τ τ1 own own1 rs vs H1 M1 S1 r1 b1 st1 sr1 hF1 => by
    unfold lstE at hF1
    split at hF1
    · rename_i hl
      cases ez : keepAll rs with
      | none =>
        rw [ez] at hF1
        exact hF1.elim
      | some cs =>
        rw [ez] at hF1
        obtain ⟨g1, g2, g3⟩ := keep_cs r1 ez
        refine ⟨?_, fun p hp => ?_⟩
        · rw [RepCs.length g1, kp_len ez]
          exact Nat.le_trans hl (by decide)
        · have sm : Same H1 (upd H1 p (.lst vs)) := same_new hp
          have np : p ∉ M1 := fun z => by
            obtain ⟨o, e, _⟩ := RepCs.mu _ _ _ g1 p z
            rw [hp] at e
            cases e
          have S2 := S1.same ok sm
          refine hF1 (.ref p) _ own1 (p :: M1) S2 ⟨⟨p, vs, M1, rfl, rfl, upd_same, RepCs.keep ok (same_keeps sm) _ _ _ (fun b hb => upd_ne fun e => np (e ▸ hb)) g1⟩, List.nodup_cons.mpr ⟨np, g2⟩, fun i b hb z => ?_⟩ trivial (st1.trans (Stp.same sm)) ?_
          · rcases List.mem_cons.mp hb with e | hb
            · obtain ⟨o, e', _⟩ := S1.mu z
              rw [e, hp] at e'
              cases e'
            · exact g3 i b hb z
          · intro b hb
            rcases List.mem_cons.mp hb with e | hb
            · refine .inr ?_
              rw [e]
              cases q : H p with
              | none => rfl
              | some o => exact absurd hp (st1.dom p (by rw [q]; simp))
            · exact sr1 b hb
    · exact hF1.elim
end
end DE
end
section
set_option Elab.async false
set_option linter.all false
set_option maxRecDepth 100000
set_option maxHeartbeats 2000000
/-! DE8: items, fields, slices. -/
namespace DE
open PySem L2 PySem.SeqAt

/-- the classes' facts -/
def Wd.Cls (W : Wd) : Prop := ∀ c n, n ∈ W.flds c → L2.Cls W.K (W.cls c) ∧ NoAttr W.K (W.cls c) n

section
variable {W : Wd} {X : Cx} {Wx : WX} {tca tcb tcc tc Ra Rb Rc R : Nat → Prop} {a b c e : Expr} {fa fb fc : Loc → Res Rv} {pos : Pos}
theorem RepCs.at {H : Hp} : ∀ {cs : List C} {vs : List V} {M : List Addr} {j : Nat} {c : C}, RepCs W H cs vs M → cs[j]? = some c → ∃ w Mj M1 M2, vs[j]? = some w ∧ M = M1 ++ (Mj ++ M2) ∧ RepC W H c w Mj
  | [], _, _, _, _, _, e => by simp at e
  | c0 :: cs, _, _, 0, c, h, e => by
    obtain ⟨v, r, N1, N2, rfl, rfl, h3, h4⟩ := h
    simp at e
    subst e
    exact ⟨v, N1, [], N2, by simp, by simp, h3⟩
  | c0 :: cs, _, _, j + 1, c, h, e => by
    obtain ⟨v0, r, N1, N2, rfl, rfl, h3, h4⟩ := h
    simp at e
    obtain ⟨v, Mj, M1, M2, e1, rfl, e3⟩ := RepCs.at h4 e
    exact ⟨v, Mj, N1 ++ M1, M2, by simpa using e1, by simp, e3⟩
def seqLen : C → Option Nat
  | .lst cs => some cs.length
  | .pu (.lst ds) => some ds.length
  | .pu (.tup ds) => some ds.length
  | _ => none
def keysOf : C → Option (List D)
  | .dic ks _ => some ks
  | .pu (.dic ks _) => some ks
  | _ => none
/-- the values that stand in a sequence or a dict -/
def SubAt (W : Wd) (H : Hp) (c : C) (M : List Addr) (j : Nat) (w : V) : Prop := ∀ c', c.sub (.k j) = some c' → ∃ Mj M1 M2, M = M1 ++ (Mj ++ M2) ∧ RepC W H c' w Mj
theorem sub_seq {H : Hp} {c : C} {v : V} {M : List Addr} {n : Nat} (r : RepC W H c v M) (e : seqLen c = some n) : ∃ p vs, v = .ref p ∧ (SqL W.K H p vs ∨ SqT W.K H p vs) ∧ vs.length = n ∧ (ownArg c = true → H p = some (.lst vs)) ∧ ∀ j w, vs[j]? = some w → SubAt W H c M j w := by
  unfold seqLen at e
  split at e
  · cases e
    obtain ⟨p, vs, M', rfl, rfl, h1, h2⟩ := r
    refine ⟨p, vs, rfl, .inl (SqL.of h1), RepCs.length h2, fun _ => h1, fun j w ew c' ec => ?_⟩
    obtain ⟨w', Mj, M1, M2, e1, rfl, e3⟩ := RepCs.at h2 ec
    rw [ew] at e1
    cases e1
    exact ⟨Mj, p :: M1, M2, by simp, e3⟩
  · cases e
    obtain ⟨rfl, p, vs, rfl, h1, h2⟩ := r
    refine ⟨p, vs, rfl, .inl h1.sq, h2.length, (fun z => by cases z), fun j w ew c' ec => ?_⟩
    simp only [C.sub, Option.map_eq_some_iff] at ec
    obtain ⟨d', e1, rfl⟩ := ec
    obtain ⟨w', e2, h3⟩ := RepDs.get h2 e1
    rw [ew] at e2
    cases e2
    exact ⟨[], [], [], rfl, rfl, h3⟩
  · cases e
    obtain ⟨rfl, p, vs, rfl, h1, h2⟩ := r
    refine ⟨p, vs, rfl, .inr (SqT.of h1), h2.length, (fun z => by cases z), fun j w ew c' ec => ?_⟩
    simp only [C.sub, Option.map_eq_some_iff] at ec
    obtain ⟨d', e1, rfl⟩ := ec
    obtain ⟨w', e2, h3⟩ := RepDs.get h2 e1
    rw [ew] at e2
    cases e2
    exact ⟨[], [], [], rfl, rfl, h3⟩
  · cases e
theorem sub_dict {H : Hp} {c : C} {v : V} {M : List Addr} {ks : List D} (r : RepC W H c v M) (e : keysOf c = some ks) : ∃ p kvs, v = .ref p ∧ Rd H p (.dK kvs) ∧ ks = kvs.map (fun p : Key × V => dKey p.1) ∧ (ownArg c = true → H p = some (.dK kvs)) ∧ ∀ j w, (kvs.map (·.2))[j]? = some w → SubAt W H c M j w := by
  unfold keysOf at e
  split at e
  · cases e
    obtain ⟨p, kvs, M', rfl, rfl, h1, h3, h2⟩ := r
    refine ⟨p, kvs, rfl, .inl h1, h3, fun _ => h1, fun j w ew c' ec => ?_⟩
    obtain ⟨w', Mj, M1, M2, e1, rfl, e3⟩ := RepCs.at h2 ec
    rw [ew] at e1
    cases e1
    exact ⟨Mj, p :: M1, M2, by simp, e3⟩
  · cases e
    obtain ⟨rfl, p, o, kvs, rfl, h1, h3, h2⟩ := r
    refine ⟨p, kvs, rfl, .inr ⟨o, h1⟩, h3, (fun z => by cases z), fun j w ew c' ec => ?_⟩
    simp only [C.sub, Option.map_eq_some_iff] at ec
    obtain ⟨d', e1, rfl⟩ := ec
    obtain ⟨w', e2, h4⟩ := RepDs.get h2 e1
    rw [ew] at e2
    cases e2
    exact ⟨[], [], [], rfl, rfl, h4⟩
  · cases e
theorem keyAt_val {k : Key} : ∀ {kvs : List (Key × V)} {n j : Nat}, keyAt (dKey k) (kvs.map (fun p => dKey p.1)) n = some j → n ≤ j ∧ valV kvs k = (kvs.map (·.2))[j - n]?
  | [], n, j, h => by simp [keyAt] at h
  | p :: r, n, j, h => by
    simp only [List.map_cons, keyAt, dkey_eqb] at h
    split at h
    · rename_i e
      cases h
      have e' : p.1 = k := by simpa using e
      refine ⟨Nat.le_refl _, ?_⟩
      rw [valV_pos e']
      simp
    · rename_i e
      have e' : ¬ p.1 = k := by simpa using e
      obtain ⟨h1, h2⟩ := keyAt_val h
      refine ⟨by omega, ?_⟩
      rw [valV_neg e', h2]
      have q : j - n = (j - (n + 1)) + 1 := by omega
      rw [q]
      simp
theorem ix_dict (hu : X.A.units + 1 < cLine) : IxR X (fun x y H Q => ∃ p v, x = .ref p ∧ DGet H p y (some v) ∧ Q v H) := by
  intro value slice pins s σ H x y v u Q I rx ry h hs
  obtain ⟨p, w, rfl, g, q⟩ := h
  cases rx
  exact PyProof.Rows.tail_any (dict_typeIs I g) PySem.F.slot_dict_getitem.lookup (d_getItem hu I g ry fun w' s' I' rw' => ⟨w, H, I', rw', q⟩) hs
/-- v[w] -/
def rIdx (W : Wd) : R2 := fun v w H Q => ∃ c M d j, RepC W H c v M ∧ RepD W H d w ∧ stepAt c d = some j ∧ ∀ z, SubAt W H c M j z → (ownArg c = true → VAt H v [.k j] z) → Q z H
theorem ixs_eq {n : Nat} {i : Int} : DE.ixN n i = L2.ixN n i := rfl
theorem keyAt_lt {x : D} : ∀ {ks : List D} {n j : Nat}, keyAt x ks n = some j → j < n + ks.length
  | [], n, j, h => by simp [keyAt] at h
  | k :: ks, n, j, h => by
    simp only [keyAt] at h
    split at h
    · cases h
      simp
    · have := keyAt_lt h
      simp
      omega
theorem ix_any (hK : X.K = W.K) (hu : X.A.units + 1 < cLine) : IxR X (rIdx W) := by
  intro value slice pins s σ H x y v u Q I rx ry h hs
  obtain ⟨c, M, d, j, rc, rd, e, q⟩ := h
  have seq : ∀ {i : Int} {n : Nat}, seqLen c = some n → y = .int i → DE.ixN n i = some j → wpAny (model X.prog X.w) X.A (PyProof.Rows.subscriptTail value slice v u) (EP X pins σ Q) X.xe s := by
    intro i n hn hy ej
    subst hy
    obtain ⟨p, vs, rfl, hp, rfl, how, hsub⟩ := sub_seq rc hn
    rw [← hK] at hp
    have lt := (ixN_seq ej).2.1
    have hj : vs[j]? = some vs[j] := List.getElem?_eq_getElem lt
    have ha : atI vs i = some vs[j] := by
      unfold atI
      rw [← ixs_eq, ej]
      exact hj
    have qq := q vs[j] (hsub j _ hj) fun o => ⟨p, _, rfl, .inl ⟨vs, how o, hj⟩, rfl⟩
    rcases hp with hp | hp
    · exact ix_list value slice pins s σ H _ _ v u Q I rx ry ⟨p, vs, i, _, rfl, rfl, hp, ha, qq⟩ hs
    · exact ix_tup value slice pins s σ H _ _ v u Q I rx ry ⟨p, vs, i, _, rfl, rfl, hp, ha, qq⟩ hs
  have dct : ∀ {ks : List D}, keysOf c = some ks → flat d = true → keyAt d ks 0 = some j → wpAny (model X.prog X.w) X.A (PyProof.Rows.subscriptTail value slice v u) (EP X pins σ Q) X.xe s := by
    intro ks hn hf hk
    obtain ⟨p, kvs, rfl, hp, rfl, how, hsub⟩ := sub_dict rc hn
    obtain ⟨k, rfl, rfl⟩ := dkey_eq hf rd
    obtain ⟨_, hv⟩ := keyAt_val hk
    simp only [Nat.sub_zero] at hv
    cases hz : (kvs.map (·.2))[j]? with
    | none =>
      exfalso
      have h1 := keyAt_lt hk
      have h2 := List.getElem?_eq_none_iff.mp hz
      simp at h1 h2
      omega
    | some z =>
      rw [hz] at hv
      exact ix_dict hu value slice pins s σ H _ _ v u Q I rx ry ⟨p, z, rfl, .inl ⟨kvs, k, hp, rfl, hv.symm⟩, q z (hsub j z hz) fun o => ⟨p, _, rfl, .inr ⟨kvs, how o, hz⟩, rfl⟩⟩ hs
  unfold stepAt at e
  split at e
  · exact seq rfl rd e
  · exact seq rfl rd e
  · exact seq rfl rd e
  · split at e
    · rename_i hf
      exact dct rfl hf e
    · cases e
  · split at e
    · rename_i hf
      exact dct rfl hf e
    · cases e
  · cases e
/-- e[i] -/
theorem v_idx (ok : W.Ok) (hK : X.K = W.K) (hu : X.A.units + 1 < cLine) {fi : Loc → Res D} (ha : PEv W X Wx tca Ra a fa) (hb : PDv W X Wx tcb b fi) (hR : ∀ i, Ra i → ¬ tcb i) (hs : PlainIx b) :
    PEv W X Wx (fun i => tca i ∨ tcb i) nob (.Subscript a b pos) (fun τ => (fa τ).bind fun x τ1 => (fi τ1).bind fun d τ2 => idxE x d τ2) := PE.imp' (pe_ix (ix_any hK hu) ha hb hs) fun σ H Q h =>
  one_run (fun _ h => .inl h) h fun τ τ1 own own1 x v H1 M1 S1 r1 b1 st1 s1 hF1 => by
    refine ⟨τ1, own1, S1, Fin.step st1 (fun _ h => .inr h) hF1 fun d τ2 w H2 own2 M2 e2 S2 r2 b2 st2 sr2 st2' hF2 => ?_⟩
    have r1' := r1.step ok S1 b1 st2 hR
    obtain ⟨N1, q1⟩ := r1'.rc ok S2
    unfold idxE at hF2
    cases ej : stepAt x.c d with
    | none =>
      rw [ej] at hF2
      exact hF2.elim
    | some j =>
      rw [ej] at hF2
      dsimp only at hF2
      have other : (∃ d', x.c.sub (.k j) = some (.pu d')) → rIdx W v w H2 Q := by
        rintro ⟨d', es⟩
        rw [es] at hF2
        refine ⟨x.c, N1, d, j, q1, r2.2, ej, fun z hz _ => ?_⟩
        obtain ⟨Mj, _, _, _, rz⟩ := hz _ es
        exact refl_of' S2 st2' hF2 ⟨rfl, rz.2⟩ trivial
      cases es : x.c.sub (.k j) with
      | none =>
        rw [es] at hF2
        exact hF2.elim
      | some c' =>
        have own : c' ≠ .un → (∀ d', c' ≠ .pu d') → rIdx W v w H2 Q := by
          intro n1 n2
          cases x with
          | fr c =>
            have hF3 : Fin W Wx (fun i => tca i ∨ tcb i) (RvRep W) (BoIn nob) τ own σ H Q (.ok (.fr c') τ2) := by
              rw [es] at hF2
              cases c' <;> first | exact (n1 rfl).elim | exact (n2 _ rfl).elim | exact hF2
            refine ⟨c, M1, d, j, r1'.1, r2.2, ej, fun z hz _ => ?_⟩
            obtain ⟨Mj, K1, K2, eM, rz⟩ := hz _ es
            have nd := r1'.2.1
            rw [eM] at nd
            obtain ⟨_, nd2, _⟩ := List.nodup_append.mp nd
            obtain ⟨nd3, _, _⟩ := List.nodup_append.mp nd2
            exact hF3 z H2 own2 Mj S2 ⟨rz, nd3, fun i b hb => r1'.2.2 i b (by rw [eM]; simp [hb])⟩ trivial st2' fun b hb => s1 b (by rw [eM]; simp [hb])
          | pu d' =>
            exfalso
            rw [es] at hF2
            cases c' <;> first | exact (n1 rfl).elim | exact (n2 _ rfl).elim | exact hF2
          | ow c =>
            exfalso
            rw [es] at hF2
            cases c' <;> first | exact (n1 rfl).elim | exact (n2 _ rfl).elim | exact hF2
          | bo i ph c =>
            exfalso
            rw [es] at hF2
            cases c' <;> first | exact (n1 rfl).elim | exact (n2 _ rfl).elim | exact hF2
        cases c' with
        | un =>
          rw [es] at hF2
          exact hF2.elim
        | pu d' => exact other ⟨d', es⟩
        | lst _ => exact own (by simp) (by simp)
        | dic _ _ => exact own (by simp) (by simp)
        | obj _ _ _ => exact own (by simp) (by simp)

/-! ### fields -/
theorem getattr_rd {pins : List (Addr × Obj)} {σ : L2.St} {H : Hp} {s : Shared} {p C dx : Addr} {fs : List (Str × V)} {f : Str} {v : V} {A : Around} {E : Value → Shared → Prop} {k : Bool} {Q : Value → Shared → Prop} (I : Inv X pins σ H s) (e : Rd H p (.ins C dx fs)) (c : L2.Cls X.K C) (n : NoAttr X.K C f) (l : fs.lookup f = some v)
    (h : ∀ u s', Inv X pins σ H s' → RelV v u → Q u s') : wpAny (model X.prog X.w) A (getAttr (.ref p) f k) Q E s := by
  obtain ⟨d, z, ne, ob, mA, nn, r, q⟩ := (show ObjOk X.prog X.w H s.heap p (.ins C dx fs) from e.ok I.hok)
  obtain ⟨u, hu, ru⟩ := RelO.some_of (v := v) (o := mA f) (by rw [← l]; exact r f)
  exact get_map I.kIn ⟨ob, nn, ne⟩ (c.get f) c.hd n hu (handed_of ru) (h u _ (I.tok _) ru)
def tFldR (K : PySem.W.Frag) (ta : TE) (f : Str) : TE := fun σ H Q => ta σ H fun x H1 => ∃ a C dx fs v, x = .ref a ∧ Rd H1 a (.ins C dx fs) ∧ L2.Cls K C ∧ NoAttr K C f ∧ fs.lookup f = some v ∧ Q v H1
theorem pe_fldR {f : Str} {ta : TE} (he : PE X e ta) (hb : attributeBase e f X.env (eval e X.env) = eval e X.env) : PE X (.Attribute e f pos) (tFldR X.K ta f) := by
  refine ⟨fun pins s σ H Q I h => ?_⟩
  refine attr_of hb (thn (he.run pins s σ H _ I h) fun u s1 ⟨x, H1, I1, rx, a, C, dx, fs, v, ex, ea, c, n, l, q⟩ => ?_)
  subst ex
  obtain rfl : u = Value.ref a := rx
  exact getattr_rd I1 ea c n l fun u' s2 I2 ru => ⟨v, H1, I2, ru, q⟩
theorem lookN_mem {α : Type} {n : Str} : ∀ {ns : List Str} {cs : List α} {c : α}, lookN n ns cs = some c → n ∈ ns
  | [], _, _, h => by simp [lookN] at h
  | m :: ns, [], _, h => by simp [lookN] at h
  | m :: ns, d :: cs, c, h => by
    unfold lookN at h
    split at h
    · rename_i e
      simp [e]
    · exact List.mem_cons_of_mem _ (lookN_mem h)
theorem fld_at (wc : W.Cls) {H : Hp} {c c' : C} {v : V} {M : List Addr} {f : Str} (r : RepC W H c v M) (e : c.sub (.f f) = some c') : ∃ p C dx fs w Mj M1 M2, v = .ref p ∧ Rd H p (.ins C dx fs) ∧ L2.Cls W.K C ∧ NoAttr W.K C f ∧ fs.lookup f = some w ∧ M = M1 ++ (Mj ++ M2) ∧ RepC W H c' w Mj := by
  cases c with
  | un => exact False.elim r
  | pu d =>
    obtain ⟨rfl, r⟩ := r
    cases d <;> simp only [C.sub, Option.map_eq_some_iff] at e <;> first | (cases e; done) | skip
    obtain ⟨d', e1, rfl⟩ := e
    obtain ⟨p, dx, o, fs, rfl, h1, h3, hf, h2⟩ := r
    obtain ⟨j, j1, _, j3⟩ := lookN_ix e1
    obtain ⟨w, e2, h4⟩ := RepDs.get h2 j1
    obtain ⟨cl, na⟩ := wc _ _ (hf _ (lookN_mem e1))
    exact ⟨p, _, dx, fs, w, [], [], [], rfl, .inr ⟨o, h1⟩, cl, na, j3 h3 e2, rfl, rfl, h4⟩
  | lst cs => simp [C.sub] at e
  | dic ks cs => simp [C.sub] at e
  | obj k ns cs =>
    obtain ⟨p, dx, fs, M', rfl, rfl, h1, h3, hf, h2⟩ := r
    simp only [C.sub] at e
    obtain ⟨j, j1, _, j3⟩ := lookN_ix e
    obtain ⟨w, Mj, M1, M2, e1, rfl, e3⟩ := RepCs.at h2 j1
    obtain ⟨cl, na⟩ := wc _ _ (hf _ (lookN_mem e))
    exact ⟨p, _, dx, fs, w, Mj, p :: M1, M2, rfl, .inl h1, cl, na, j3 h3 e1, by simp, e3⟩
/-- e.f, data -/
theorem v_fld (ok : W.Ok) (wc : W.Cls) (hK : X.K = W.K) {f : Str} (ha : PEv W X Wx tca Ra a fa) (hb : attributeBase a f X.env (eval a X.env) = eval a X.env) : PEv W X Wx tca nob (.Attribute a f pos) (fun τ => (fa τ).bind fun x τ1 => fldE x f τ1) :=
  PE.imp' (pe_fldR ha hb) fun σ H Q h => one_run (fun _ h => h) h fun τ τ2 own own2 x v H2 M1 S2 r1 b1 st s1 hF => by
    obtain ⟨N1, q1⟩ := r1.rc ok S2
    unfold fldE at hF
    cases es : x.c.sub (.f f) with
    | none =>
      rw [es] at hF
      exact hF.elim
    | some c' =>
      rw [es] at hF
      cases c' with
      | pu d' =>
        obtain ⟨p, C, dx, fs, w, Mj, K1, K2, e1, e2, e3, e4, e5, _, rz⟩ := fld_at wc q1 es
        exact ⟨p, C, dx, fs, w, e1, e2, by rw [hK]; exact e3, by rw [hK]; exact e4, e5, refl_of' S2 st hF ⟨rfl, rz.2⟩ trivial⟩
      | _ => exact hF.elim

/-! ### places further down -/
variable {fp : Loc → Res (Nat × List Sp × C)} {i : Nat}
theorem VAt.snoc {H : Hp} : ∀ {ph : List Sp} {v0 v w : V} {p : Sp}, VAt H v0 ph v → VAt H v [p] w → VAt H v0 (ph ++ [p]) w
  | [], v0, v, w, p, h, h' => by
    have e : v = v0 := h
    subst e
    exact h'
  | .k j :: ph, v0, v, w, p, h, h' => by
    obtain ⟨a, u, e, h1, h2⟩ := h
    exact ⟨a, u, e, h1, VAt.snoc h2 h'⟩
  | .f n :: ph, v0, v, w, p, h, h' => by
    obtain ⟨a, C, dx, fs, u, e, h1, h2, h3⟩ := h
    exact ⟨a, C, dx, fs, u, e, h1, h2, VAt.snoc h3 h'⟩
theorem get_snoc : ∀ {ph : List Sp} {c0 c : C} {p : Sp}, c0.get ph = some c → c0.get (ph ++ [p]) = c.sub p
  | [], c0, c, p, h => by
    simp [C.get] at h
    subst h
    simp [C.get]
  | q :: ph, c0, c, p, h => by
    simp only [C.get, Option.bind_eq_some_iff, List.cons_append] at h ⊢
    obtain ⟨c1, h1, h2⟩ := h
    rw [h1]
    simp only [Option.bind_some]
    exact get_snoc h2
theorem one_runP {α β : Type} {Rep : Loc → L2.St → Hp → Own → α → β → List Addr → Prop} {B : α → Prop} {g : Nat × List Sp × C → Loc → Res α} {Q : β → Hp → Prop} {Q' : VK} {σ : L2.St} {H : Hp} (h1 : ∀ i, tca i → tc i)
    (h : tG W Wx tc Rep B (fun τ => (fp τ).bind g) σ H Q)
    (k : ∀ τ τ2 own own2 x v H2 M1, SRep W τ2 σ H2 own2 → PRep W τ2 σ H2 own2 x v M1 → x.1 = i → Stp tc τ own H τ2 own2 H2 → Src tc own H M1 → Fin W Wx tc Rep B τ own σ H Q (g x τ2) → Q' v H2) :
    tG W Wx tca (PRep W) (PRoot i) fp σ H Q' := by
  obtain ⟨τ, own, S, hF⟩ := h
  exact ⟨τ, own, S, Fin.step Stp.refl h1 hF fun x τ1 v H1 own1 M1 e1 S1 r1 b1 st1 sr1 st1' hF1 => k τ τ1 own own1 x v H1 M1 S1 r1 b1 st1' (sr1.mono h1) hF1⟩
theorem rvOf_c (q : Nat × List Sp × C) : (rvOf q).c = q.2.2 := by
  obtain ⟨i, ph, c⟩ := q
  cases c <;> rfl
/-- p.f as a place -/
theorem p_fld (ok : W.Ok) (wc : W.Cls) (hK : X.K = W.K) {f : Str} (ha : PPv W X Wx tc i a fp) (hb : attributeBase a f X.env (eval a X.env) = eval a X.env) :
    PPv W X Wx tc i (.Attribute a f pos) (fun τ => (fp τ).bind fun q τ1 => (optR (q.2.2.sub (.f f)) τ1).bind fun c τ1 => .ok (q.1, q.2.1 ++ [.f f], c) τ1) :=
  PE.imp' (pe_fldR ha hb) fun σ H Q h => one_runP (fun _ h => h) h fun τ τ2 own own2 q v H2 M1 S2 r1 b1 st s1 hF => by
    obtain ⟨N1, q1⟩ := r1.1.rc ok S2
    rw [rvOf_c] at q1
    cases es : q.2.2.sub (.f f) with
    | none =>
      rw [es] at hF
      exact hF.elim
    | some c' =>
      rw [es] at hF
      obtain ⟨p, C, dx, fs, w, Mj, K1, K2, e1, e2, e3, e4, e5, _, rz⟩ := fld_at wc q1 es
      refine ⟨p, C, dx, fs, w, e1, e2, by rw [hK]; exact e3, by rw [hK]; exact e4, e5, hF w H2 own2 [] S2 ⟨?_, fun z => ?_⟩ b1 st fun b hb => by cases hb⟩
      · cases c' with
        | pu d' => exact ⟨rfl, rz.2⟩
        | un => exact False.elim rz
        | _ =>
          obtain ⟨i', ph, c0⟩ := q
          have nb : ownArg c0 = true := by
            cases c0 <;> first | rfl | skip
            rename_i d0
            cases d0 <;> simp [DE.C.sub] at es
            done
          have r0 := r1.1
          rw [rvOf_bo nb] at r0
          obtain ⟨_, vi, g1, g2, g3, g4, g5⟩ := r0
          refine ⟨rfl, vi, g1, VAt.snoc g2 ?_, by rw [get_snoc g3]; exact es, rfl, by simp⟩
          subst e1
          refine ⟨p, C, dx, fs, w, rfl, ?_, e5, rfl⟩
          rcases e2 with e2 | ⟨o, e2⟩
          · exact e2
          · exfalso
            cases c0 with
            | pu d => cases nb
            | obj k ns cs =>
              obtain ⟨p', dx', fs', M', h0, _, h1, _⟩ := q1
              cases h0
              rw [h1] at e2
              cases e2
            | un => exact False.elim q1
            | lst cs => simp [DE.C.sub] at es
            | dic ks cs => simp [DE.C.sub] at es
      · have z' : c' = .un := z
        rw [z'] at rz
        exact rz
end
end DE
end
section
set_option Elab.async false
set_option linter.all false
set_option maxRecDepth 100000
set_option maxHeartbeats 2000000
/-! DE9: places by index, slices, built-ins, isinstance, methods of texts. -/
namespace DE
open PySem L2 PySem.SeqAt

section
variable {W : Wd} {X : Cx} {Wx : WX} {tca tcb tcc tc Ra Rb Rc R : Nat → Prop} {a b c e : Expr} {es : List Expr} {fa fb fc : Loc → Res Rv} {pos : Pos} {fp : Loc → Res (Nat × List Sp × C)} {i : Nat} {fs : Loc → Res (List Rv)}
theorem own_sub {c0 : C} {p : Sp} {c' : C} (h : c0.sub p = some c') (hn : ∀ d, c' ≠ .pu d) : ownArg c0 = true := by
  cases c0 <;> first | rfl | skip
  rename_i d0
  cases d0 <;> cases p <;> simp [C.sub] at h <;> (obtain ⟨x, _, e⟩ := h; exact (hn _ e.symm).elim)
/-- p[i] as a place -/
theorem p_idx (ok : W.Ok) (hK : X.K = W.K) (hu : X.A.units + 1 < cLine) {fi : Loc → Res D} (ha : PPv W X Wx tca i a fp) (hb : PDv W X Wx tcb b fi) (hR : ¬ tcb i) (hs : PlainIx b) :
    PPv W X Wx (fun i => tca i ∨ tcb i) i (.Subscript a b pos) (fun τ => (fp τ).bind fun q τ1 => (fi τ1).bind fun d τ2 => (optR (stepAt q.2.2 d) τ2).bind fun j τ2 => (optR (q.2.2.sub (.k j)) τ2).bind fun c τ2 => .ok (q.1, q.2.1 ++ [.k j], c) τ2) :=
  PE.imp' (pe_ix (ix_any hK hu) ha hb hs) fun σ H Q h => one_runP (i := i) (fun _ h => .inl h) h fun τ τ1 own own1 q v H1 M1 S1 r1 b1 st1 s1 hF1 => by
    refine ⟨τ1, own1, S1, Fin.step st1 (fun _ h => .inr h) hF1 fun d τ2 w H2 own2 M2 e2 S2 r2 b2 st2 sr2 st2' hF2 => ?_⟩
    have r1' := r1.1.step ok S1 (rvOf_in b1) st2 (fun j e => by rw [e]; exact hR)
    obtain ⟨N1, q1⟩ := r1'.rc ok S2
    rw [rvOf_c] at q1
    cases ej : stepAt q.2.2 d with
    | none =>
      rw [ej] at hF2
      exact hF2.elim
    | some j =>
      rw [ej] at hF2
      cases es : q.2.2.sub (.k j) with
      | none =>
        simp only [optR, Res.bind, es] at hF2
        exact hF2.elim
      | some c' =>
        simp only [optR, Res.bind, es] at hF2
        obtain ⟨i', ph, c0⟩ := q
        have fin : ∀ z, (∃ Mj, RepC W H2 c' z Mj) → (ownArg c' = true → VAt H2 v [.k j] z) → Q z H2 := by
          rintro z ⟨Mj, rz⟩ hz
          refine hF2 z H2 own2 [] S2 ⟨?_, fun e => ?_⟩ b1 st2' fun b hb => by cases hb
          · cases c' with
            | pu d' => exact ⟨rfl, rz.2⟩
            | un => exact False.elim rz
            | _ =>
              have nb : ownArg c0 = true := own_sub es (by simp)
              rw [rvOf_bo nb] at r1'
              obtain ⟨_, vi, g1, g2, g3, g4, g5⟩ := r1'
              exact ⟨rfl, vi, g1, VAt.snoc g2 (hz rfl), by rw [get_snoc g3]; exact es, rfl, by simp⟩
          · have z' : c' = .un := e
            rw [z'] at rz
            exact rz
        refine ⟨c0, N1, d, j, q1, r2.2, ej, fun z hz ho => ?_⟩
        obtain ⟨Mj, _, _, _, rz⟩ := hz _ es
        exact fin z ⟨Mj, rz⟩ fun o => ho (own_sub es (ownArg_pu o))
/-! ### slices -/
abbrev POv (W : Wd) (X : Cx) (Wx : WX) (tc : Nat → Prop) (e : Option Expr) (f : Loc → Res (Option Int)) : Prop := PO X e (tG W Wx tc ERep (fun _ => True) f)
theorem PO.imp' {X : Cx} {e : Option Expr} {t t' : TO} (h : PO X e t) (hi : ∀ σ H Q, t' σ H Q → t σ H Q) : PO X e t' := ⟨fun pins s σ H Q I q => h.run pins s σ H Q I (hi σ H Q q)⟩
theorem o_none : POv W X Wx nob none (fun τ => .ok none τ) := PO.imp' po_none fun σ H Q ⟨τ, own, S, hF⟩ => refl_of (a := none) S hF ⟨rfl, rfl⟩ trivial
def intOf (d : D) (τ : Loc) : Res (Option Int) := match d with
  | .int i => .ok (some i) τ
  | _ => .stk
theorem o_some {fi : Loc → Res D} (h : PDv W X Wx tc e fi) : POv W X Wx tc (some e) (fun τ => (fi τ).bind intOf) := PO.imp' (po_some h) fun σ H Q h =>
  a_run (RepA := DRep W) (BA := fun _ => True) (fun _ h => h) h fun τ τ2 own own2 d v H2 M1 S2 r1 b1 st s1 hF => by
    cases d with
    | int i =>
      have q : v = _ := r1.2
      exact ⟨i, q, refl_of' (a := some i) S2 st hF ⟨rfl, rfl⟩ trivial⟩
    | _ => exact hF.elim
theorem cut_eq {α : Type} (xs : List α) (lo hi : Option Int) : cut xs lo hi = (xs.drop (HT.sIx xs.length 0 lo)).take (HT.sIx xs.length xs.length hi - HT.sIx xs.length 0 lo) := rfl
theorem RepDs.cut {H : Hp} {ds : List D} {vs : List V} (h : RepDs W H ds vs) (lo hi : Option Int) : RepDs W H (DE.cut ds lo hi) (cutV vs lo hi) := by
  unfold DE.cut cutV
  rw [h.length]
  exact RepDs.take _ (RepDs.drop _ h)
def rSli (W : Wd) : V → Option Int → Option Int → Hp → VK → Prop := fun v lo hi H Q => ∃ c M z, RepC W H c v M ∧ sliC c lo hi = some z ∧ ∀ w H' M, Same H H' → ZRep W H' z w M → (∀ b ∈ M, H b = none) → Q w H'
theorem sl_any (ok : W.Ok) (hK : X.K = W.K) : SlR X (rSli W) := by
  intro pins s σ H x v vl vu lo hi sl Q I rx hs pl pu h
  obtain ⟨c, M, z, rc, e, q⟩ := h
  unfold sliC at e
  split at e
  · split at e
    · rename_i hl
      cases e
      have e1 : x = _ := rc.2
      subst e1
      exact sl_str pins s σ H _ v vl vu lo hi sl Q I rx hs pl pu ⟨_, rfl, big_line hl, q _ H [] (Same.refl H) ⟨rfl, rfl⟩ (by simp)⟩
    · cases e
  · cases e
    obtain ⟨_, p, vs, rfl, h1, h2⟩ := rc
    refine sl_tupA pins s σ H _ v vl vu lo hi sl Q I rx hs pl pu ⟨p, vs, rfl, SqT.of h1, fun hw => ?_, fun hw p' hp => q _ _ [] (same_new hp) (z_tup (h2.cut lo hi) hp ok) (by simp)⟩
    refine q _ H [] (Same.refl H) ⟨rfl, p, vs, rfl, h1, ?_⟩ (by simp)
    have := h2.cut lo hi
    have e2 : cutV vs lo hi = vs := by
      unfold cutV
      rw [hw.1, hw.2]
      simp
    rw [e2] at this
    exact this
  · obtain ⟨ds, e1, rfl⟩ := Option.map_eq_some_iff.mp e
    obtain ⟨p, vs, rfl, h1, h2⟩ := rep_list e1 rc
    exact sl_list pins s σ H _ v vl vu lo hi sl Q I rx hs pl pu ⟨p, vs, rfl, by rw [hK]; exact h1, fun p' hp => q _ _ [p'] (same_new hp) (z_list (h2.cut lo hi) hp ok) (fresh1 hp)⟩
theorem v_sli (ok : W.Ok) (hK : X.K = W.K) {lo hi : Option Expr} {fl fh : Loc → Res (Option Int)} {p2 : Pos} (ha : PEv W X Wx tca Ra a fa) (hl : POv W X Wx tcb lo fl) (hh : POv W X Wx tcc hi fh) (hR : ∀ i, Ra i → ¬ tcb i) (hR' : ∀ i, Ra i → ¬ tcc i) :
    PEv W X Wx (fun i => tca i ∨ tcb i ∨ tcc i) nob (.Subscript a (.Slice lo hi none p2) pos) (fun τ => (fa τ).bind fun x τ1 => (fl τ1).bind fun l τ2 => (fh τ2).bind fun u τ3 => sliE x l u τ3) :=
  PE.imp' (pe_slice (sl_any ok hK) ha hl hh) fun σ H Q h => one_run (fun _ h => .inl h) h fun τ τ1 own own1 x v H1 M1 S1 r1 b1 st1 s1 hF1 => by
    refine ⟨τ1, own1, S1, Fin.step st1 (fun _ h => .inr (.inl h)) hF1 fun l τ2 l' H2 own2 M2 e2 S2 r2 b2 st2 sr2 st2' hF2 => ?_⟩
    refine ⟨τ2, own2, S2, Fin.step st2' (fun _ h => .inr (.inr h)) hF2 fun u τ3 u' H3 own3 M3 e3 S3 r3 b3 st3 sr3 st3' hF3 => ?_⟩
    rw [r2.2, r3.2]
    obtain ⟨N1, q1⟩ := ((r1.step ok S1 b1 st2 hR).step ok S2 b1 st3 hR').rc ok S3
    unfold sliE at hF3
    cases ez : sliC x.c l u with
    | none =>
      rw [ez] at hF3
      exact hF3.elim
    | some z =>
      rw [ez] at hF3
      exact ⟨x.c, N1, z, q1, ez, fun w H' M sm zr fr => Fin.done ok hF3 S3 st3' sm zr fr⟩
/-- xs[::-1] -/
theorem v_rev (ok : W.Ok) (hK : X.K = W.K) {k : Nat} {p1 p2 p3 : Pos} (ha : PEv W X Wx tca Ra a fa) : PEv W X Wx tca nob (.Subscript a (.Slice none none (some (.UnaryOp .USub (.Constant (.int 1) k p1) p2)) p3) pos) (fun τ => (fa τ).bind fun x τ1 => lift ((listOf x.c).map fun ds => .fr (.lst (ds.reverse.map .pu))) τ1) :=
  PE.imp' (pe_revL ha) fun σ H Q h => one_run (fun _ h => h) h fun τ τ2 own own2 x v H2 M1 S2 r1 b1 st s1 hF => by
    obtain ⟨N1, q1⟩ := r1.rc ok S2
    cases ez : listOf x.c with
    | none =>
      rw [ez] at hF
      exact hF.elim
    | some ds =>
      rw [ez] at hF
      obtain ⟨p, vs, rfl, h1, h2⟩ := rep_list ez q1
      have hr : ∀ {ds : List D} {vs : List V}, RepDs W H2 ds vs → RepDs W H2 ds.reverse vs.reverse := by
        intro ds
        induction ds with
        | nil =>
          intro vs h
          have e : vs = [] := h
          subst e
          exact h
        | cons d ds ih =>
          rintro vs ⟨v, r, rfl, g1, g2⟩
          simp only [List.reverse_cons]
          exact RepDs.append (ih g2) ⟨v, [], rfl, g1, rfl⟩
      exact ⟨p, vs, rfl, by rw [hK]; exact h1, fun p' hp => Fin.done ok hF S2 st (same_new hp) (z_list (hr h2) hp ok) (fresh1 hp)⟩

/-! ### built-ins -/
def RepC1 (W : Wd) (H : Hp) : List C → List V → Prop
  | [], vs => vs = []
  | c :: cs, vs => ∃ v r M, vs = v :: r ∧ RepC W H c v M ∧ RepC1 W H cs r
theorem RvReps.rc1 (ok : W.Ok) {τ : Loc} {own : Own} {σ : L2.St} {H : Hp} (S : SRep W τ σ H own) : ∀ {rs : List Rv} {vs : List V} {M : List Addr}, RvReps W τ σ H own rs vs M → RepC1 W H (rs.map Rv.c) vs
  | [], _, _, r => r.1
  | x :: rs, _, _, r => by
    obtain ⟨v, q, M1, M2, rfl, rfl, h1, h2, h3⟩ := r
    obtain ⟨N, hN⟩ := h1.rc ok S
    exact ⟨v, q, N, rfl, hN, RvReps.rc1 ok S h2⟩
/-- a built-in by what it makes of things that stand there -/
def rBi (W : Wd) (op : List C → Option Rv) : List V → Hp → VK → Prop := fun vs H Q => ∃ cs z, RepC1 W H cs vs ∧ op cs = some z ∧ ∀ w H' M, Same H H' → ZRep W H' z w M → (∀ b ∈ M, H b = none) → Q w H'
theorem bi_of (ok : W.Ok) {op : List C → Option Rv} {σ : L2.St} {H : Hp} {Q : VK} (h : tEv W Wx tc nob (fun τ => (fs τ).bind fun rs τ1 => lift (op (rs.map Rv.c)) τ1) σ H Q) : tCB (rBi W op) (tG W Wx tc (RvReps W) (BoIns R) fs) σ H Q :=
  a_run (fun _ h => h) h fun τ τ2 own own2 rs vs H2 M1 S2 r1 b1 st s1 hF => by
    cases ez : op (rs.map Rv.c) with
    | none =>
      rw [ez] at hF
      exact hF.elim
    | some z =>
      rw [ez] at hF
      exact ⟨_, z, r1.rc1 ok S2, ez, fun w H' M sm zr fr => Fin.done ok hF S2 st sm zr fr⟩
theorem v_biB (ok : W.Ok) {id : String} {x : Str} {p : Pos} {op : List C → Option Rv} (hc : CallR X (.builtin id) (rBi W op)) (hg : Gl X x) (hm : X.mg x = none) (hv : bootBuiltins x = some (.builtin id)) (ha : PAv W X Wx tc R (e :: es) fs) (hn : x ≠ "__name__") (hdb : (x == ("__debug__" : Str)) = false)
    (he : starEach (e :: es) X.env = (false, eval e X.env) :: starEach es X.env) (hpl : (PySem.backTo pos (starEach es X.env)).any (·.1) = false) : PEv W X Wx tc nob (.Call (.Name x p) (e :: es) [] pos) (fun τ => (fs τ).bind fun rs τ1 => lift (op (rs.map Rv.c)) τ1) :=
  PE.imp' (pe_callB hc hg hm hv ha hn hdb he hpl) fun σ H Q h => bi_of ok h
theorem v_biT (ok : W.Ok) {id : String} {x : Str} {p : Pos} {op : List C → Option Rv} (hc : CallR X (.type id) (rBi W op)) (hg : Gl X x) (hm : X.mg x = none) (hv : bootBuiltins x = some (.type id)) (ha : PAv W X Wx tc R (e :: es) fs) (hn : x ≠ "__name__") (hdb : (x == ("__debug__" : Str)) = false)
    (he : starEach (e :: es) X.env = (false, eval e X.env) :: starEach es X.env) (hpl : (PySem.backTo pos (starEach es X.env)).any (·.1) = false) : PEv W X Wx tc nob (.Call (.Name x p) (e :: es) [] pos) (fun τ => (fs τ).bind fun rs τ1 => lift (op (rs.map Rv.c)) τ1) :=
  PE.imp' (pe_callTy hc hg hm hv ha hn hdb he hpl) fun σ H Q h => bi_of ok h
theorem c_len (ok : W.Ok) (hK : X.K = W.K) : CallR X (.builtin "len") (rBi W lenB) := by
  intro pins s σ H xs us Q I rv ⟨cs, z, rc, e, q⟩
  unfold lenB at e
  split at e
  · obtain ⟨v, r, M, rfl, r1, r2⟩ := rc
    have r2' : r = [] := r2
    subst r2'
    obtain ⟨n, e1, e2⟩ := Option.bind_eq_some_iff.mp e
    split at e2
    · rename_i hb
      cases e2
      have fin := q (.int n) H [] (Same.refl H) ⟨rfl, rfl⟩ (by simp)
      refine call_len pins s σ H _ us Q I rv ⟨v, n, rfl, ?_, fin⟩
      unfold lenOf at e1
      split at e1
      · cases e1
        have e2 : v = _ := r1.2
        subst e2
        exact ⟨big_line hb, rfl⟩
      · cases e1
        obtain ⟨_, p, vs, rfl, h1, h2⟩ := r1
        exact .inr ⟨vs, SqT.of h1, h2.length.symm⟩
      · cases e1
        obtain ⟨_, p, vs, rfl, h1, h2⟩ := r1
        exact .inl ⟨vs, by rw [hK]; exact h1.sq, h2.length.symm⟩
      · cases e1
        obtain ⟨p, vs, M', rfl, _, h1, h2⟩ := r1
        exact .inl ⟨vs, SqL.of h1, (RepCs.length h2).symm⟩
      · cases e1
    · cases e2
  · cases e
theorem c_int : CallR X (.type "int") (rBi W intB) := by
  intro pins s σ H xs us Q I rv ⟨cs, z, rc, e, q⟩
  unfold intB at e
  split at e
  · obtain ⟨v, r, M, rfl, r1, r2⟩ := rc
    have r2' : r = [] := r2
    subst r2'
    cases e
    have e2 : v = _ := r1.2
    subst e2
    exact call_int1 pins s σ H _ us Q I rv (.inl ⟨_, rfl, q _ H [] (Same.refl H) ⟨rfl, rfl⟩ (by simp)⟩)
  · obtain ⟨v, r, M, rfl, r1, r2⟩ := rc
    have r2' : r = [] := r2
    subst r2'
    cases e
    have e2 : v = _ := r1.2
    subst e2
    exact call_int1 pins s σ H _ us Q I rv (.inr ⟨_, rfl, q _ H [] (Same.refl H) ⟨rfl, rfl⟩ (by simp)⟩)
  · obtain ⟨v, r, M, rfl, r1, r2⟩ := rc
    have r2' : r = [] := r2
    subst r2'
    split at e
    · rename_i n hn
      split at e
      · rename_i hl
        cases e
        have e2 : v = _ := r1.2
        subst e2
        exact call_int_str pins s σ H _ us Q I rv ⟨_, _, rfl, hn, hl, q _ H [] (Same.refl H) ⟨rfl, rfl⟩ (by simp)⟩
      · cases e
    · cases e
  · cases e
theorem c_str : CallR X (.type "str") (rBi W strB) := by
  intro pins s σ H xs us Q I rv ⟨cs, z, rc, e, q⟩
  unfold strB at e
  split at e
  · obtain ⟨v, r, M, rfl, r1, r2⟩ := rc
    have r2' : r = [] := r2
    subst r2'
    split at e
    · rename_i hl
      cases e
      have e2 : v = _ := r1.2
      subst e2
      refine call_str_int pins s σ H _ us Q I rv ⟨_, rfl, ?_, q _ H [] (Same.refl H) ⟨rfl, rfl⟩ (by simp)⟩
      rename_i i
      by_cases h0 : i.natAbs = 0
      · rw [h0]
        decide
      · have h1 : i.natAbs.log2 < 20 := (Nat.log2_lt h0).mpr (Nat.lt_of_lt_of_le hl (by decide))
        omega
    · cases e
  · obtain ⟨v, r, M, rfl, r1, r2⟩ := rc
    have r2' : r = [] := r2
    subst r2'
    cases e
    have e2 : v = _ := r1.2
    subst e2
    exact SkE.call_str_str pins s σ H _ us Q I rv ⟨_, rfl, q _ H [] (Same.refl H) ⟨rfl, rfl⟩ (by simp)⟩
  · cases e
theorem c_tuple (ok : W.Ok) (hK : X.K = W.K) : CallR X (.type "tuple") (rBi W tupleB) := by
  intro pins s σ H xs us Q I rv ⟨cs, z, rc, e, q⟩
  unfold tupleB at e
  split at e
  · obtain ⟨v, r, M, rfl, r1, r2⟩ := rc
    have r2' : r = [] := r2
    subst r2'
    obtain ⟨ds, e1, rfl⟩ := Option.map_eq_some_iff.mp e
    unfold seqOf at e1
    split at e1
    · cases e1
      obtain ⟨_, p, vs, rfl, h1, h2⟩ := r1
      exact call_tuple_of pins s σ H _ us Q I rv ⟨p, vs, rfl, .inr ⟨SqT.of h1, q _ H [] (Same.refl H) ⟨rfl, p, vs, rfl, h1, h2⟩ (by simp)⟩⟩
    · obtain ⟨p, vs, rfl, h1, h2⟩ := rep_list e1 r1
      exact call_tuple_of pins s σ H _ us Q I rv ⟨p, vs, rfl, .inl ⟨by rw [hK]; exact h1, fun l hl => q _ _ [] (same_new hl) (z_tup h2 hl ok) (by simp)⟩⟩
  · cases e
theorem c_list (ok : W.Ok) (hK : X.K = W.K) : CallR X (.type "list") (rBi W listB) := by
  intro pins s σ H xs us Q I rv ⟨cs, z, rc, e, q⟩
  unfold listB at e
  split at e
  · obtain ⟨v, r, M, rfl, r1, r2⟩ := rc
    have r2' : r = [] := r2
    subst r2'
    obtain ⟨ds, e1, rfl⟩ := Option.map_eq_some_iff.mp e
    obtain ⟨p, vs, rfl, h1, h2⟩ := rep_seq e1 r1
    exact call_list_of pins s σ H _ us Q I rv ⟨p, vs, rfl, by rw [hK]; exact h1, fun l hl => q _ _ [l] (same_new hl) (z_list h2 hl ok) (fresh1 hl)⟩
  · cases e
theorem bools_rep {H : Hp} : ∀ {ds : List D} {vs : List V} {bs : List Bool}, boolsOf ds = some bs → RepDs W H ds vs → vs = bs.map V.bl
  | [], _, bs, e, h => by
    simp [boolsOf] at e
    subst e
    exact h
  | d :: ds, _, bs, e, h => by
    obtain ⟨v, r, rfl, h1, h2⟩ := h
    cases d with
    | bl b =>
      simp only [boolsOf, Option.map_eq_some_iff] at e
      obtain ⟨bs', e1, rfl⟩ := e
      have q : v = _ := h1
      rw [q, bools_rep e1 h2]
      rfl
    | _ => simp [boolsOf] at e
theorem c_all (hK : X.K = W.K) (hc : X.calm = true) : CallR X (.builtin "all") (rBi W allB) := by
  intro pins s σ H xs us Q I rv ⟨cs, z, rc, e, q⟩
  unfold allB at e
  split at e
  · obtain ⟨v, r, M, rfl, r1, r2⟩ := rc
    have r2' : r = [] := r2
    subst r2'
    obtain ⟨ds, e1, e2⟩ := Option.bind_eq_some_iff.mp e
    obtain ⟨bs, e3, rfl⟩ := Option.map_eq_some_iff.mp e2
    obtain ⟨p, vs, rfl, h1, h2⟩ := rep_list e1 r1
    have ev := bools_rep e3 h2
    subst ev
    exact cr_all hc pins s σ H _ us Q I rv ⟨p, bs, rfl, by rw [hK]; exact h1, q _ H [] (Same.refl H) ⟨rfl, rfl⟩ (by simp)⟩
  · cases e
theorem c_any (hK : X.K = W.K) (hc : X.calm = true) : CallR X (.builtin "any") (rBi W anyB) := by
  intro pins s σ H xs us Q I rv ⟨cs, z, rc, e, q⟩
  unfold anyB at e
  split at e
  · obtain ⟨v, r, M, rfl, r1, r2⟩ := rc
    have r2' : r = [] := r2
    subst r2'
    obtain ⟨ds, e1, e2⟩ := Option.bind_eq_some_iff.mp e
    obtain ⟨bs, e3, rfl⟩ := Option.map_eq_some_iff.mp e2
    obtain ⟨p, vs, rfl, h1, h2⟩ := rep_list e1 r1
    have ev := bools_rep e3 h2
    subst ev
    exact cr_any hc pins s σ H _ us Q I rv ⟨p, bs, rfl, by rw [hK]; exact h1, q _ H [] (Same.refl H) ⟨rfl, rfl⟩ (by simp)⟩
  · cases e
theorem c_max (hc : X.calm = true) : CallR X (.builtin "max") (rBi W max2B) := by
  intro pins s σ H xs us Q I rv ⟨cs, z, rc, e, q⟩
  unfold max2B at e
  split at e
  · obtain ⟨v, r, M, rfl, r1, v2, r', M2, rfl, r3, r4⟩ := rc
    have r2' : r' = [] := r4
    subst r2'
    cases e
    have e2 : v = _ := r1.2
    subst e2
    have e3 : v2 = _ := r3.2
    subst e3
    exact call_max2 hc pins s σ H _ us Q I rv ⟨_, _, rfl, q _ H [] (Same.refl H) ⟨rfl, rfl⟩ (by simp)⟩
  · cases e
end
end DE
end
section
set_option Elab.async false
set_option linter.all false
set_option maxRecDepth 100000
set_option maxHeartbeats 2000000
/-! DE10: calls: what goes in, what comes back. -/
namespace DE
open PySem L2

section
variable {W : Wd} {X : Cx} {Wx : WX} {tca tcb tc R Ra Rb : Nat → Prop} {τ τ1 τ2 : Loc} {σ : L2.St} {H H1 H2 : Hp} {own own1 own2 : Own}
theorem RvRep.mv (ok : W.Ok) {x : Rv} {v : V} {M : List Addr} (S : SRep W τ σ H own) (r : RvRep W τ σ H own x v M) (k : Keeps H H1) (h : ∀ i, ∀ b ∈ own i, H1 b = H b) (hM : ∀ b ∈ M, H1 b = H b) : RvRep W τ σ H1 own x v M := by
  cases x with
  | pu d => exact ⟨r.1, RepD.keep ok k _ _ r.2⟩
  | fr c => exact ⟨RepC.keep ok k _ _ _ hM r.1, r.2⟩
  | ow c => exact ⟨RepC.keep ok k _ _ _ hM r.1, r.2⟩
  | bo i ph c =>
    obtain ⟨e0, vi, e1, e2, e3, e4, e5⟩ := r
    refine ⟨e0, vi, e1, ?_, e3, e4, e5⟩
    rcases S.at_ i with ⟨e, _⟩ | ⟨v0, e, r0⟩
    · rw [e] at e3
      cases ph with
      | nil =>
        simp [C.get] at e3
        simp_all
      | cons p ph => simp [C.get, C.sub] at e3
    · rw [e1] at e
      cases e
      exact VAt.keep ok r0 e3 e4 e2 (h i)
theorem RvReps.mv (ok : W.Ok) (S : SRep W τ σ H own) (k : Keeps H H1) (h : ∀ i, ∀ b ∈ own i, H1 b = H b) : ∀ {rs : List Rv} {vs : List V} {M : List Addr}, RvReps W τ σ H own rs vs M → (∀ b ∈ M, H1 b = H b) → RvReps W τ σ H1 own rs vs M
  | [], _, _, r, _ => r
  | x :: rs, _, _, r, hM => by
    obtain ⟨v, q, M1, M2, rfl, rfl, h1, h2, h3⟩ := r
    exact ⟨v, q, M1, M2, rfl, rfl, h1.mv ok S k h fun b hb => hM b (by simp [hb]), RvReps.mv ok S k h h2 fun b hb => hM b (by simp [hb]), h3⟩
theorem RvReps.apart1 : ∀ {rs : List Rv} {vs : List V} {M : List Addr}, RvReps W τ σ H own rs vs M → ∀ b ∈ M, ∀ i, b ∉ own i
  | [], _, _, r, b, hb, i => by
    rw [r.2] at hb
    cases hb
  | x :: rs, _, _, r, b, hb, i => by
    obtain ⟨v, q, M1, M2, rfl, rfl, h1, h2, h3⟩ := r
    rcases List.mem_append.mp hb with hb | hb
    · cases x with
      | pu d =>
        rw [h1.1] at hb
        cases hb
      | fr c => exact h1.2.2 i b hb
      | ow c => exact h1.2.2 i b hb
      | bo j ph c =>
        rw [h1.1] at hb
        cases hb
    · exact RvReps.apart1 h2 b hb i
/-- what is fresh goes as data -/
theorem args_fz (ok : W.Ok) {pins : List (Addr × Obj)} {s : Shared} : ∀ {rs : List Rv} {vs : List V} {M : List Addr} {H1 : Hp}, Inv X pins σ H1 s → SRep W τ1 σ H1 own1 → RvReps W τ1 σ H1 own1 rs vs M → Stp tc τ own H τ1 own1 H1 → Src tc own H M →
    ∃ H2 M2, Inv X pins σ H2 s ∧ SRep W τ1 σ H2 own1 ∧ RvReps W τ1 σ H2 own1 (rs.map fzFr) vs M2 ∧ Stp tc τ own H τ1 own1 H2 ∧ (∀ b ∈ M2, b ∈ M) ∧ Keeps H1 H2 ∧ (∀ b, b ∉ M → H2 b = H1 b)
  | [], vs, M, H1, I, S, r, st, sr => ⟨H1, [], I, S, ⟨r.1, rfl⟩, st, (fun b hb => by cases hb), Keeps.refl _, fun _ _ => rfl⟩
  | x :: rs, _, _, H1, I, S, r, st, sr => by
    obtain ⟨v, q, M1, M2, rfl, rfl, h1, h2, h3⟩ := r
    have sr1 : Src tc own H M1 := fun b hb => sr b (by simp [hb])
    have sr2 : Src tc own H M2 := fun b hb => sr b (by simp [hb])
    have head : ∃ H2 N1, Inv X pins σ H2 s ∧ SRep W τ1 σ H2 own1 ∧ RvRep W τ1 σ H2 own1 (fzFr x) v N1 ∧ Stp tc τ own H τ1 own1 H2 ∧ (∀ b ∈ N1, b ∈ M1) ∧ Keeps H1 H2 ∧ (∀ b, b ∉ M1 → H2 b = H1 b) ∧ ∀ i, ∀ b ∈ own1 i, H2 b = H1 b := by
      cases x with
      | pu d => exact ⟨H1, M1, I, S, h1, st, fun _ h => h, Keeps.refl _, fun _ _ => rfl, fun _ _ _ => rfl⟩
      | ow d => exact ⟨H1, M1, I, S, h1, st, fun _ h => h, Keeps.refl _, fun _ _ => rfl, fun _ _ _ => rfl⟩
      | bo i ph d => exact ⟨H1, M1, I, S, h1, st, fun _ h => h, Keeps.refl _, fun _ _ => rfl, fun _ _ _ => rfl⟩
      | fr c =>
        obtain ⟨H2, I2, S2, rd, st2, k2, o2, _⟩ := freeze_rv ok I S h1 rfl st sr1
        exact ⟨H2, [], I2, S2, ⟨rfl, rd⟩, st2, (fun b hb => by cases hb), k2, o2, fun i b hb => o2 b fun z => h1.2.2 i b z hb⟩
    obtain ⟨H2, N1, I2, S2, r2, st2, n2, k2, o2, w2⟩ := head
    have h2' : RvReps W τ1 σ H2 own1 rs q M2 := h2.mv ok S k2 w2 fun b hb => o2 b fun z => h3 b z hb
    obtain ⟨H3, N2, I3, S3, r3, st3, n3, k3, o3⟩ := args_fz ok I2 S2 h2' st2 sr2
    have w3 : ∀ i, ∀ b ∈ own1 i, H3 b = H2 b := fun i b hb => by
      obtain ⟨o, e, m⟩ := S2.mu hb
      rcases S3.at_ i with ⟨_, e0⟩ | ⟨v0, _, r0⟩
      · rw [e0] at hb
        cases hb
      · by_cases z : b ∈ M2
        · exact ((RvReps.apart1 h2' b z) i hb).elim
        · exact o3 b z
    refine ⟨H3, N1 ++ N2, I3, S3, ⟨v, q, N1, N2, rfl, rfl, r2.mv ok S2 k3 w3 (fun b hb => o3 b (h3 b (n2 b hb))), r3, fun b hb z => h3 b (n2 b hb) (n3 b z)⟩, st3, fun b hb => ?_, k2.trans k3, fun b hb => ?_⟩
    · rcases List.mem_append.mp hb with hb | hb
      · simp [n2 b hb]
      · simp [n3 b hb]
    · have hb' : b ∉ M1 ∧ b ∉ M2 := by simpa using hb
      rw [o3 b hb'.2, o2 b hb'.1]
end
end DE
end
section
set_option Elab.async false
set_option linter.all false
set_option maxRecDepth 100000
set_option maxHeartbeats 4000000
/-! DE11: what a def promises, and how a call's end is the caller's. -/
namespace DE
open PySem L2

def CRep (W : Wd) (_ : Loc) (_ : L2.St) (H : Hp) (own : Own) (c : C) (v : V) (M : List Addr) : Prop := RepC W H c v M ∧ M.Nodup ∧ ∀ i b, b ∈ M → b ∈ own i → False
abbrev allI : Nat → Prop := fun _ => True
/-- the promise: what κc computes -/
def spF (W : Wd) (κc : List C → CRes) : L2.Sp := fun vs H Q E => ∃ as own, vs.length = as.length ∧ (∀ c ∈ as, c ≠ .un) ∧ SRep W as (vs.map some) H own ∧
  Fin W (fun cls d _ H' => E cls d H') allI (CRep W) (fun _ => True) as own (vs.map some) H Q (κc as)

theorem look_set {τ : Loc} {i j : Nat} {c : C} : look (τ.set i c) j = if i = j ∧ i < τ.length then c else look τ j := by
  unfold look
  rw [List.getD_eq_getElem?_getD, List.getD_eq_getElem?_getD, List.getElem?_set]
  by_cases h : i = j
  · subst h
    by_cases h2 : i < τ.length
    · simp [h2]
    · simp [h2]
  · simp [h]
theorem look_lt {τ : Loc} {i : Nat} (h : look τ i ≠ .un) : i < τ.length := by
  refine Classical.byContradiction fun n => h ?_
  unfold look
  rw [List.getD_eq_getElem?_getD, List.getElem?_eq_none (by omega)]
  rfl
theorem roots_mem : ∀ {rs : List Rv} {j i : Nat} {ph : List Sp} {c : C}, rs[j]? = some (.bo i ph c) → i ∈ roots rs
  | [], _, _, _, _, h => by simp at h
  | x :: rs, 0, i, ph, c, h => by
    simp at h
    subst h
    simp [roots]
  | x :: rs, j + 1, i, ph, c, h => by
    simp at h
    have := roots_mem h
    cases x <;> simp [roots, this]
theorem roots_inj : ∀ {rs : List Rv} {j j' i : Nat} {ph ph' : List Sp} {c c' : C}, nodupB (roots rs) = true → rs[j]? = some (.bo i ph c) → rs[j']? = some (.bo i ph' c') → j = j'
  | [], _, _, _, _, _, _, _, _, h, _ => by simp at h
  | x :: rs, 0, 0, i, ph, ph', c, c', n, h, h' => rfl
  | x :: rs, 0, j + 1, i, ph, ph', c, c', n, h, h' => by
    simp at h h'
    subst h
    simp [roots, nodupB] at n
    exact (n.1 (roots_mem h')).elim
  | x :: rs, j + 1, 0, i, ph, ph', c, c', n, h, h' => by
    simp at h h'
    subst h'
    simp [roots, nodupB] at n
    exact (n.1 (roots_mem h)).elim
  | x :: rs, j + 1, j' + 1, i, ph, ph', c, c', n, h, h' => by
    simp at h h'
    have n' : nodupB (roots rs) = true := by
      cases x <;> simp [roots, nodupB] at n <;> first | exact n | exact n.2
    rw [roots_inj n' h h']
theorem mem_roots : ∀ {rs : List Rv} {i : Nat}, i ∈ roots rs → ∃ (j : Nat) (ph : List Sp) (c : C), rs[j]? = some (Rv.bo i ph c)
  | [], _, h => by simp [roots] at h
  | x :: rs, i, h => by
    cases x with
    | bo i' ph c =>
      rcases List.mem_cons.mp h with e | h
      · exact ⟨0, ph, c, by simp [e]⟩
      · obtain ⟨j, ph', c', e⟩ := mem_roots h
        exact ⟨j + 1, ph', c', by simpa using e⟩
    | pu d =>
      obtain ⟨j, ph', c', e⟩ := mem_roots (rs := rs) h
      exact ⟨j + 1, ph', c', by simpa using e⟩
    | fr d =>
      obtain ⟨j, ph', c', e⟩ := mem_roots (rs := rs) h
      exact ⟨j + 1, ph', c', by simpa using e⟩
    | ow d =>
      obtain ⟨j, ph', c', e⟩ := mem_roots (rs := rs) h
      exact ⟨j + 1, ph', c', by simpa using e⟩
theorem back_off : ∀ {rs : List Rv} {os : List C} {τ : Loc} {i : Nat}, i ∉ roots rs → look (backTo rs os τ) i = look τ i
  | [], _, _, _, _ => by unfold backTo; rfl
  | x :: rs, [], _, _, _ => by cases x <;> rfl
  | x :: rs, o :: os, τ, i, h => by
    cases x with
    | bo i' ph c =>
      have h' : i ≠ i' ∧ i ∉ roots rs := by simpa [roots] using h
      show look (backTo rs os _) i = _
      rw [back_off h'.2, look_set, if_neg fun z => h'.1 z.1.symm]
    | pu d => exact back_off (rs := rs) h
    | fr d => exact back_off (rs := rs) h
    | ow d => exact back_off (rs := rs) h
theorem back_at : ∀ {rs : List Rv} {os : List C} {τ : Loc} {j i : Nat} {ph : List Sp} {c o : C}, nodupB (roots rs) = true → rs[j]? = some (.bo i ph c) → os[j]? = some o → i < τ.length → look (backTo rs os τ) i = (look τ i).set ph o
  | [], _, _, _, _, _, _, _, _, h, _, _ => by simp at h
  | x :: rs, [], _, _, _, _, _, _, _, _, h, _ => by simp at h
  | x :: rs, o' :: os, τ, 0, i, ph, c, o, n, h, e, l => by
    simp at h e
    subst h
    subst e
    simp [roots, nodupB] at n
    show look (backTo rs os _) i = _
    rw [back_off n.1, look_set, if_pos ⟨rfl, l⟩]
  | x :: rs, o' :: os, τ, j + 1, i, ph, c, o, n, h, e, l => by
    simp at h e
    cases x with
    | bo i' ph' c' =>
      simp [roots, nodupB] at n
      show look (backTo rs os _) i = _
      have hi : i ≠ i' := fun z => n.1 (z ▸ roots_mem h)
      rw [back_at n.2 h e (by simpa using l), look_set, if_neg fun z => hi z.1.symm]
    | pu d => exact back_at (rs := rs) n h e l
    | fr d => exact back_at (rs := rs) n h e l
    | ow d => exact back_at (rs := rs) n h e l
theorem back_len : ∀ {rs : List Rv} {os : List C} {τ : Loc}, (backTo rs os τ).length = τ.length
  | [], _, _ => by unfold backTo; rfl
  | x :: rs, [], _ => by cases x <;> rfl
  | x :: rs, o :: os, τ => by
    cases x with
    | bo i' ph c =>
      show (backTo rs os _).length = _
      rw [back_len]
      simp
    | pu d => exact back_len (rs := rs)
    | fr d => exact back_len (rs := rs)
    | ow d => exact back_len (rs := rs)
theorem backOk_get : ∀ {rs : List Rv} {os : List C} {j : Nat} {x : Rv}, backOk rs os = true → rs[j]? = some x → ∃ o, os[j]? = some o ∧ o ≠ .un
  | [], _, _, _, _, h => by simp at h
  | y :: rs, [], _, _, h, _ => by cases y <;> cases h
  | y :: rs, o :: os, 0, x, h, e => by
    simp [backOk] at h
    refine ⟨o, by simp, fun z => ?_⟩
    rw [z] at h
    simp [C.isUn] at h
  | y :: rs, o :: os, j + 1, x, h, e => by
    simp [backOk] at h
    simp at e
    obtain ⟨o', e', n⟩ := backOk_get h.2 e
    exact ⟨o', by simpa using e', n⟩

section
variable {W : Wd} {X : Cx} {Wx : WX} {tca tcb tc R Ra Rb : Nat → Prop} {τ τ1 τ2 : Loc} {σ : L2.St} {H H1 H2 : Hp} {own own1 own2 : Own}
/-- the values one by one -/
theorem RvReps.each : ∀ {rs : List Rv} {vs : List V} {M : List Addr}, RvReps W τ σ H own rs vs M → ∃ Ms : Nat → List Addr, (∀ (j : Nat) (x : Rv), rs[j]? = some x → ∃ v, vs[j]? = some v ∧ RvRep W τ σ H own x v (Ms j)) ∧ (∀ j : Nat, rs[j]? = none → Ms j = []) ∧ (∀ j b, b ∈ Ms j → b ∈ M) ∧ ∀ i j b, i ≠ j → b ∈ Ms i → b ∈ Ms j → False
  | [], _, _, r => ⟨fun _ => [], (fun _ _ h => by simp at h), (fun _ _ => rfl), (fun _ _ h => by cases h), (fun _ _ _ _ h => by cases h)⟩
  | x :: rs, _, _, r => by
    obtain ⟨v, q, M1, M2, rfl, rfl, h1, h2, h3⟩ := r
    obtain ⟨Ms, a1, a2, a3, a4⟩ := RvReps.each h2
    refine ⟨fun j => match j with
      | 0 => M1
      | j + 1 => Ms j, fun j y e => ?_, fun j e => ?_, fun j b hb => ?_, fun i j b n hb hc => ?_⟩
    · cases j with
      | zero =>
        simp at e
        subst e
        exact ⟨v, by simp, h1⟩
      | succ j =>
        simp at e
        obtain ⟨u, e1, e2⟩ := a1 j y e
        exact ⟨u, by simpa using e1, e2⟩
    · cases j with
      | zero => simp at e
      | succ j => exact a2 j (by simpa using e)
    · cases j with
      | zero => exact List.mem_append_left _ hb
      | succ j => exact List.mem_append_right _ (a3 j b hb)
    · cases i with
      | zero =>
        cases j with
        | zero => exact n rfl
        | succ j => exact h3 b hb (a3 j b hc)
      | succ i =>
        cases j with
        | zero => exact h3 b hc (a3 i b hb)
        | succ j => exact a4 i j b (fun z => n (by rw [z])) hb hc
theorem RvRep.notUn {x : Rv} {v : V} {M : List Addr} (r : RvRep W τ σ H own x v M) : x.c ≠ .un := by
  cases x with
  | pu d => exact fun z => by cases z
  | fr c =>
    intro z
    have z' : c = .un := z
    subst z'
    exact r.1
  | ow c =>
    intro z
    have z' : c = .un := z
    subst z'
    exact r.1
  | bo i ph c =>
    obtain ⟨_, vi, _, _, _, _, e⟩ := r
    exact e
/-- a lent thing's surroundings -/
def Lent (W : Wd) (σ : L2.St) (H : Hp) (own : Own) (τ : Loc) (rs : List Rv) (vs : List V) (j : Nat) (p : V × List Addr × List Addr × List Addr) : Prop :=
  ∀ i ph c, rs[j]? = some (Rv.bo i ph c) → σ[i]? = some (some p.1) ∧ own i = p.2.1 ++ (p.2.2.1 ++ p.2.2.2) ∧ (∃ v, vs[j]? = some v ∧ RepC W H c v p.2.2.1) ∧
    ∀ H' c' Mc', Keeps H H' → (∀ b, b ∈ p.2.1 ∨ b ∈ p.2.2.2 → H' b = H b) → RepC W H' c' (vs.getD j .non) Mc' → RepC W H' ((look τ i).set ph c') p.1 (p.2.1 ++ (Mc' ++ p.2.2.2))
/-- the caller's slots behind a call; ownC: what the callee's slots own ahead, ownD: behind -/
theorem call_back (ok : W.Ok) {κc : List C → CRes} {rs : List Rv} {vs : List V} {M : List Addr} {Q : VK} (S1 : SRep W τ1 σ H1 own1) (r : RvReps W τ1 σ H1 own1 rs vs M) (nf : ∀ x ∈ rs, ∀ c, x ≠ .fr c)
    (st : Stp tc τ own H τ1 own1 H1) (sr : Src tc own H M) (hR : ∀ i ∈ roots rs, tc i) (hF : Fin W Wx tc (RvRep W) (BoIn nob) τ own σ H Q (callR κc rs τ1)) : spF W κc vs H1 Q (WE Wx σ) := by
  obtain ⟨Ms, m1, m2, m3, m4⟩ := r.each
  unfold callR at hF
  by_cases hn' : ¬ (nodupB (roots rs) = true)
  · rw [if_neg hn'] at hF
    exact hF.elim
  have hn := Classical.not_not.mp hn'
  rw [if_pos hn] at hF
  have len := r.length
  -- the pieces
  obtain ⟨P, hP⟩ := Classical.axiomOfChoice (r := fun j p => Lent W σ H1 own1 τ1 rs vs j p) fun j => by
    cases e : rs[j]? with
    | none => exact ⟨(.non, [], [], []), fun i ph c z => by rw [e] at z; cases z⟩
    | some x =>
      cases x with
      | bo i ph c =>
        obtain ⟨v, ev, rv⟩ := m1 j _ e
        obtain ⟨vi, Mc, N1, N2, e1, e2, e3, e4⟩ := S1.bo ok rv
        refine ⟨(vi, N1, Mc, N2), fun i' ph' c' z => ?_⟩
        rw [e] at z
        cases z
        refine ⟨e1, e2, ⟨v, ev, e3⟩, fun H' c' Mc' k hb rc => e4 H' c' Mc' k hb ?_⟩
        have : vs.getD j .non = v := by rw [List.getD_eq_getElem?_getD, ev]; rfl
        rw [this] at rc
        exact rc
      | pu d => exact ⟨(.non, [], [], []), fun i ph c z => by rw [e] at z; cases z⟩
      | fr d => exact ⟨(.non, [], [], []), fun i ph c z => by rw [e] at z; cases z⟩
      | ow d => exact ⟨(.non, [], [], []), fun i ph c z => by rw [e] at z; cases z⟩
  let ownC : Own := fun j => match rs[j]? with
    | some (.bo _ _ _) => (P j).2.2.1
    | some (.ow _) => Ms j
    | _ => []
  have cbo : ∀ {j i ph c}, rs[j]? = some (Rv.bo i ph c) → ownC j = (P j).2.2.1 := fun {j i ph c} e => by
    show (match rs[j]? with
      | some (.bo _ _ _) => (P j).2.2.1
      | some (.ow _) => Ms j
      | _ => []) = _
    rw [e]
  have cow : ∀ {j c}, rs[j]? = some (Rv.ow c) → ownC j = Ms j := fun {j c} e => by
    show (match rs[j]? with
      | some (.bo _ _ _) => (P j).2.2.1
      | some (.ow _) => Ms j
      | _ => []) = _
    rw [e]
  have cin : ∀ {j b}, b ∈ ownC j → (∃ i ph c, rs[j]? = some (Rv.bo i ph c) ∧ b ∈ (P j).2.2.1 ∧ b ∈ own1 i) ∨ ∃ c, rs[j]? = some (Rv.ow c) ∧ b ∈ Ms j := fun {j b} hb => by
    cases e : rs[j]? with
    | none =>
      exfalso
      have z : ownC j = [] := by
        show (match rs[j]? with
          | some (.bo _ _ _) => (P j).2.2.1
          | some (.ow _) => Ms j
          | _ => []) = _
        rw [e]
      rw [z] at hb
      cases hb
    | some x =>
      cases x with
      | bo i ph c =>
        rw [cbo e] at hb
        exact .inl ⟨i, ph, c, rfl, hb, by rw [(hP j i ph c e).2.1]; simp [hb]⟩
      | ow c =>
        rw [cow e] at hb
        exact .inr ⟨c, rfl, hb⟩
      | pu d =>
        exfalso
        have z : ownC j = [] := by
          show (match rs[j]? with
            | some (.bo _ _ _) => (P j).2.2.1
            | some (.ow _) => Ms j
            | _ => []) = _
          rw [e]
        rw [z] at hb
        cases hb
      | fr c => exact (nf _ (List.mem_of_getElem? e) c rfl).elim
  have apM : ∀ {j b i}, b ∈ Ms j → b ∉ own1 i := fun {j b i} hb => RvReps.apart1 r b (m3 j b hb) i
  have mapg : ∀ {j x}, rs[j]? = some x → look (rs.map Rv.c) j = x.c := fun {j x} e => by
    unfold look
    rw [List.getD_eq_getElem?_getD, List.getElem?_map, e]
    rfl
  have SC : SRep W (rs.map Rv.c) (vs.map some) H1 ownC := by
    refine ⟨fun j => ?_, fun j => ?_, fun i j b n hb hc => ?_, S1.tb, by simp [len]⟩
    · cases e : rs[j]? with
      | none =>
        refine .inl ⟨?_, ?_⟩
        · unfold look
          rw [List.getD_eq_getElem?_getD, List.getElem?_map, e]
          rfl
        · show (match rs[j]? with
            | some (.bo _ _ _) => (P j).2.2.1
            | some (.ow _) => Ms j
            | _ => []) = _
          rw [e]
      | some x =>
        obtain ⟨v, ev, rv⟩ := m1 j x e
        refine .inr ⟨v, by rw [List.getElem?_map, ev]; rfl, ?_⟩
        rw [mapg e]
        cases x with
        | pu d =>
          have z : ownC j = [] := by
            show (match rs[j]? with
              | some (.bo _ _ _) => (P j).2.2.1
              | some (.ow _) => Ms j
              | _ => []) = _
            rw [e]
          rw [z]
          exact ⟨rfl, rv.2⟩
        | fr c => exact (nf _ (List.mem_of_getElem? e) c rfl).elim
        | ow c =>
          rw [cow e]
          exact rv.1
        | bo i ph c =>
          rw [cbo e]
          obtain ⟨_, _, ⟨v', ev', rc⟩, _⟩ := hP j i ph c e
          rw [ev] at ev'
          cases ev'
          exact rc
    · cases e : rs[j]? with
      | none =>
        have z : ownC j = [] := by
          show (match rs[j]? with
            | some (.bo _ _ _) => (P j).2.2.1
            | some (.ow _) => Ms j
            | _ => []) = _
          rw [e]
        rw [z]
        simp
      | some x =>
        cases x with
        | pu d =>
          have z : ownC j = [] := by
            show (match rs[j]? with
              | some (.bo _ _ _) => (P j).2.2.1
              | some (.ow _) => Ms j
              | _ => []) = _
            rw [e]
          rw [z]
          simp
        | fr c => exact (nf _ (List.mem_of_getElem? e) c rfl).elim
        | ow c =>
          rw [cow e]
          obtain ⟨v, ev, rv⟩ := m1 j _ e
          exact rv.2.1
        | bo i ph c =>
          rw [cbo e]
          have nd := S1.nd i
          rw [(hP j i ph c e).2.1] at nd
          exact (List.nodup_append.mp (List.nodup_append.mp nd).2.1).1
    · rcases cin hb with ⟨i1, ph1, c1, e1, b1, o1⟩ | ⟨c1, e1, b1⟩
      · rcases cin hc with ⟨i2, ph2, c2, e2, b2, o2⟩ | ⟨c2, e2, b2⟩
        · by_cases q : i1 = i2
          · subst q
            exact n (roots_inj hn e1 e2)
          · exact S1.dj i1 i2 b q o1 o2
        · exact apM b2 o1
      · rcases cin hc with ⟨i2, ph2, c2, e2, b2, o2⟩ | ⟨c2, e2, b2⟩
        · exact apM b1 o2
        · exact m4 i j b n b1 b2
  have nn : ∀ c ∈ rs.map Rv.c, c ≠ C.un := fun c hc => by
    obtain ⟨x, hx, rfl⟩ := List.mem_map.mp hc
    obtain ⟨j, hj⟩ := List.mem_iff_getElem?.mp hx
    obtain ⟨v, _, rv⟩ := m1 j x hj
    exact rv.notUn
  -- behind the call
  have back : ∀ (os : List C) (H' : Hp) (ownD : Own) (Mr : List Addr), backOk rs os = true → SRep W os (vs.map some) H' ownD → Stp allI (rs.map Rv.c) ownC H1 os ownD H' → Src allI ownC H1 Mr →
      (∀ i b, b ∈ Mr → b ∈ ownD i → False) → ∃ own2, SRep W (backTo rs os τ1) σ H' own2 ∧ Stp tc τ own H (backTo rs os τ1) own2 H' ∧ Src tc own H Mr ∧ (∀ i b, b ∈ Mr → b ∈ own2 i → False) := by
    intro os H' ownD Mr bk SD stD srD djD
    have kk : Keeps H1 H' := stD.keeps SC
    -- where the callee's things come from
    have from1 : ∀ b, ((∃ j, allI j ∧ b ∈ ownC j) ∨ H1 b = none) → (∃ j, tc j ∧ b ∈ own j) ∨ H b = none := fun b hb => by
      rcases hb with ⟨j, _, hb⟩ | hb
      · rcases cin hb with ⟨i, ph, c, e, b1, o1⟩ | ⟨c, e, b1⟩
        · exact st.src i b (hR i (roots_mem e)) o1
        · exact sr b (m3 j b b1)
      · refine .inr ?_
        cases q : H b with
        | none => rfl
        | some o => exact absurd hb (st.dom b (by rw [q]; simp))
    -- what no callee's slot owns stays
    have stay : ∀ b, (∃ o, H1 b = some o ∧ isMu o) → (∀ j, b ∉ ownC j) → H' b = H1 b := fun b hm hj => stD.off hm fun j _ => hj j
    -- around a lent thing
    have off : ∀ {j i ph c}, rs[j]? = some (Rv.bo i ph c) → ∀ b, b ∈ (P j).2.1 ∨ b ∈ (P j).2.2.2 → b ∈ own1 i ∧ ∀ j', b ∉ ownC j' := fun {j i ph c} e b hb => by
      have nd := S1.nd i
      have eo := (hP j i ph c e).2.1
      rw [eo] at nd
      have inI : b ∈ own1 i := by
        rw [eo]
        rcases hb with hb | hb <;> simp [hb]
      refine ⟨inI, fun j' hj' => ?_⟩
      rcases cin hj' with ⟨i', ph', c', e', b', o'⟩ | ⟨c', e', b'⟩
      · by_cases q : i' = i
        · subst q
          have jj := roots_inj hn e' e
          subst jj
          obtain ⟨d1, d2, d3⟩ := List.nodup_append.mp nd
          obtain ⟨d4, d5, d6⟩ := List.nodup_append.mp d2
          rcases hb with hb | hb
          · exact d3 b hb b (by simp [b']) rfl
          · exact d6 b b' b hb rfl
        · exact S1.dj i' i b q o' inI
      · exact apM b' inI
    let own2 : Own := fun i => match (rs.findIdx? fun x => match x with
      | .bo i' _ _ => i' == i
      | _ => false) with
      | some j => (P j).2.1 ++ (ownD j ++ (P j).2.2.2)
      | none => own1 i
    have od : ∀ i, own2 i = (match (rs.findIdx? fun x => match x with
      | .bo i' _ _ => i' == i
      | _ => false) with
      | some j => (P j).2.1 ++ (ownD j ++ (P j).2.2.2)
      | none => own1 i) := fun _ => rfl
    have o2 : ∀ i, (∃ j ph c, rs[j]? = some (Rv.bo i ph c) ∧ own2 i = (P j).2.1 ++ (ownD j ++ (P j).2.2.2)) ∨ (i ∉ roots rs ∧ own2 i = own1 i) := fun i => by
      cases e : (rs.findIdx? fun x => match x with
        | .bo i' _ _ => i' == i
        | _ => false) with
      | none =>
        refine .inr ⟨fun z => ?_, by rw [od, e]⟩
        obtain ⟨j, ph, c, ej⟩ := mem_roots z
        have := List.findIdx?_eq_none_iff.mp e _ (List.mem_of_getElem? ej)
        simp at this
      | some j =>
        obtain ⟨hj, h1, _⟩ := List.findIdx?_eq_some_iff_getElem.mp e
        refine .inl ?_
        have ej : rs[j]? = some rs[j] := List.getElem?_eq_getElem hj
        cases q : rs[j] with
        | bo i' ph c =>
          rw [q] at h1
          have : i' = i := by simpa using h1
          subst this
          exact ⟨j, ph, c, by rw [ej, q], by rw [od, e]⟩
        | pu d => rw [q] at h1; cases h1
        | fr d => rw [q] at h1; cases h1
        | ow d => rw [q] at h1; cases h1
    -- members
    have in2 : ∀ i b, b ∈ own2 i → (∃ j ph c, rs[j]? = some (Rv.bo i ph c) ∧ b ∈ ownD j) ∨ (b ∈ own1 i ∧ ∀ j, b ∉ ownC j) := fun i b hb => by
      rcases o2 i with ⟨j, ph, c, e, q⟩ | ⟨nr, q⟩
      · rw [q] at hb
        rcases List.mem_append.mp hb with hb | hb
        · exact .inr (off e b (.inl hb))
        · rcases List.mem_append.mp hb with hb | hb
          · exact .inl ⟨j, ph, c, e, hb⟩
          · exact .inr (off e b (.inr hb))
      · rw [q] at hb
        refine .inr ⟨hb, fun j hj => ?_⟩
        rcases cin hj with ⟨i', ph', c', e', b', o'⟩ | ⟨c', e', b'⟩
        · by_cases z : i' = i
          · subst z
            exact nr (roots_mem e')
          · exact S1.dj i' i b z o' hb
        · exact apM b' hb
    have dD : ∀ j b, b ∈ ownD j → ∀ i, b ∈ own1 i → (∀ j', b ∉ ownC j') → False := fun j b hb i hi hj => by
      rcases stD.src j b trivial hb with ⟨j', _, z⟩ | z
      · exact hj j' z
      · obtain ⟨o, e, _⟩ := S1.mu hi
        rw [e] at z
        cases z
    refine ⟨own2, ⟨fun i => ?_, fun i => ?_, fun i i' b n hb hc => ?_, SD.tb, by rw [back_len]; exact S1.ln⟩, ⟨fun b o eb nt hb => ?_, fun b h => stD.dom b (st.dom b h), fun i hi => ?_, fun i b hi hb => ?_⟩, fun b hb => from1 b (srD b hb), fun i b hb hc => ?_⟩
    · -- at_
      rcases o2 i with ⟨j, ph, c, e, q⟩ | ⟨nr, q⟩
      · obtain ⟨e1, e2, ⟨v, ev, rc⟩, e4⟩ := hP j i ph c e
        obtain ⟨o, eo, no⟩ := backOk_get bk e
        have hi : i < τ1.length := by
          obtain ⟨v', _, rv⟩ := m1 j _ e
          obtain ⟨_, vi', _, _, g, _, ne⟩ := rv
          refine look_lt fun z => ne ?_
          rw [z] at g
          cases ph with
          | nil => simp [C.get] at g; exact g.symm
          | cons p ph => simp [C.get, C.sub] at g
        refine .inr ⟨(P j).1, e1, ?_⟩
        rw [back_at hn e eo hi, q]
        refine e4 H' o (ownD j) kk (fun b hb => ?_) ?_
        · obtain ⟨g1, g2⟩ := off e b hb
          exact stay b (S1.mu g1) g2
        · have gv : vs.getD j .non = v := by rw [List.getD_eq_getElem?_getD, ev]; rfl
          rw [gv]
          have lo : look os j = o := by
            unfold look
            rw [List.getD_eq_getElem?_getD, eo]
            rfl
          rcases SD.at_ j with ⟨z, _⟩ | ⟨v', ev', rc'⟩
          · rw [lo] at z
            exact (no z).elim
          · rw [List.getElem?_map, ev] at ev'
            cases ev'
            rw [lo] at rc'
            exact rc'
      · rw [back_off nr, q]
        refine (S1.at_ i).imp (fun h => h) fun ⟨v, e, rc⟩ => ⟨v, e, RepC.keep ok kk _ _ _ (fun b hb => ?_) rc⟩
        rcases in2 i b (by rw [q]; exact hb) with ⟨j, ph, c, e, _⟩ | ⟨g1, g2⟩
        · exact (nr (roots_mem e)).elim
        · exact stay b (S1.mu g1) g2
    · -- nodup
      rcases o2 i with ⟨j, ph, c, e, q⟩ | ⟨nr, q⟩
      · rw [q]
        have nd := S1.nd i
        rw [(hP j i ph c e).2.1] at nd
        obtain ⟨d1, d2, d3⟩ := List.nodup_append.mp nd
        obtain ⟨d4, d5, d6⟩ := List.nodup_append.mp d2
        refine List.nodup_append.mpr ⟨d1, List.nodup_append.mpr ⟨SD.nd j, d5, fun a ha b hb z => ?_⟩, fun a ha b hb z => ?_⟩
        · subst z
          obtain ⟨g1, g2⟩ := off e a (.inr hb)
          exact dD j a ha i g1 g2
        · subst z
          rcases List.mem_append.mp hb with hb | hb
          · obtain ⟨g1, g2⟩ := off e a (.inl ha)
            exact dD j a hb i g1 g2
          · exact d3 a ha a (by simp [hb]) rfl
      · rw [q]
        exact S1.nd i
    · -- disjoint
      rcases in2 i b hb with ⟨j, ph, c, e, hj⟩ | ⟨g1, g2⟩
      · rcases in2 i' b hc with ⟨j', ph', c', e', hj'⟩ | ⟨g1', g2'⟩
        · by_cases z : j = j'
          · subst z
            rw [e] at e'
            cases e'
            exact n rfl
          · exact SD.dj j j' b z hj hj'
        · exact dD j b hj i' g1' g2'
      · rcases in2 i' b hc with ⟨j', ph', c', e', hj'⟩ | ⟨g1', g2'⟩
        · exact dD j' b hj' i g1 g2
        · exact S1.dj i i' b n g1 g1'
    · -- frame
      have e1 := st.fr b o eb nt hb
      refine stD.fr b o e1 nt fun j _ hj => ?_
      rcases from1 b (.inl ⟨j, trivial, hj⟩) with ⟨i, hi, z⟩ | z
      · exact hb i hi z
      · rw [eb] at z
        cases z
    · -- untouched
      have nr : i ∉ roots rs := fun z => hi (hR i z)
      rcases o2 i with ⟨j, ph, c, e, q⟩ | ⟨_, q⟩
      · exact (nr (roots_mem e)).elim
      · rw [q, back_off nr]
        exact st.un i hi
    · -- sources
      rcases in2 i b hb with ⟨j, ph, c, e, hj⟩ | ⟨g1, g2⟩
      · exact from1 b (stD.src j b trivial hj)
      · exact st.src i b hi g1
    · -- the result
      rcases in2 i b hc with ⟨j, ph, c, e, hj⟩ | ⟨g1, g2⟩
      · exact djD j b hb hj
      · rcases srD b hb with ⟨j', _, z⟩ | z
        · exact g2 j' z
        · obtain ⟨o, e, _⟩ := S1.mu g1
          rw [e] at z
          cases z
  refine ⟨rs.map Rv.c, ownC, by rw [List.length_map]; exact len, nn, SC, ?_⟩
  cases ek : κc (rs.map Rv.c) with
  | stk =>
    rw [ek] at hF
    exact hF.elim
  | ok c os =>
    rw [ek] at hF
    dsimp only at hF
    by_cases bk' : ¬ (backOk rs os = true)
    · rw [if_neg bk'] at hF
      exact hF.elim
    have bk := Classical.not_not.mp bk'
    rw [if_pos bk] at hF
    intro v H' ownD Mr SD rr _ stD srD
    obtain ⟨own2, S2, st2, sr2, dj2⟩ := back os H' ownD Mr bk SD stD srD rr.2.2
    refine hF v H' own2 Mr S2 ?_ ?_ st2 sr2
    · cases c with
      | un => exact rr.1.elim
      | pu d => exact rr.1
      | lst cs => exact ⟨rr.1, rr.2.1, dj2⟩
      | dic ks cs => exact ⟨rr.1, rr.2.1, dj2⟩
      | obj k ns cs => exact ⟨rr.1, rr.2.1, dj2⟩
    · cases c <;> trivial
  | exc x os =>
    rw [ek] at hF
    dsimp only at hF
    by_cases bk' : ¬ (backOk rs os = true)
    · rw [if_neg bk'] at hF
      exact hF.elim
    have bk := Classical.not_not.mp bk'
    rw [if_pos bk] at hF
    intro cls d H' ownD SD stD xr
    obtain ⟨own2, S2, st2, _, _⟩ := back os H' ownD [] bk SD stD (fun b hb => by cases hb) (fun i b hb => by cases hb)
    exact hF cls d H' own2 S2 st2 xr
end
end DE
end
section
set_option Elab.async false
set_option linter.all false
set_option maxRecDepth 100000
set_option maxHeartbeats 2000000
/-! DE12: f(..), o.m(..), C(..), a held def. -/
namespace DE
open PySem L2

abbrev FnD (X : Cx) (W : Wd) (k : Nat) (f : Addr) (κc : List C → CRes) : Prop := L2.FnR X.prog X.w X.K X.mg X.base (L2.CX X.prog X.w) k f (spF W κc)
section
variable {W : Wd} {X : Cx} {Wx : WX} {tca tcb tc R Ra Rb : Nat → Prop} {k : Nat} {f : Addr} {κc : List C → CRes} {x m : Str} {p pos apos : Pos} {e o : Expr} {es : List Expr} {fo : Loc → Res Rv} {fs : Loc → Res (List Rv)}
theorem run_D {pins : List (Addr × Obj)} {σ : L2.St} {H : Hp} {s : Shared} {Q : VK} {us : List Value} {vs : List V} {sp : L2.Sp} (F : L2.FnR X.prog X.w X.K X.mg X.base (L2.CX X.prog X.w) k f sp) (hr : Room k X.A) (tk : Takes X Wx) (I : Inv X pins σ H s) (r : Vals vs us) (h : sp vs H Q (WE Wx σ)) :
    codeAny (model X.prog X.w) X.A (.call (.ref f) ⟨us, []⟩) (fun r s' => match r with | .ok (.ret v) => EP X pins σ Q v s' | .ok _ => False | .error e => X.xe e s') s := by
  refine codeAny_mono (F X.A X.stack s H us vs Q (WE Wx σ) hr I.env0 r h) fun r s' hq => ?_
  cases r with
  | error e => exact passAt tk σ pins H s e s' I hq
  | ok fl =>
    cases fl with
    | ret u => exact I.after hq
    | next => exact False.elim hq
    | brk => exact False.elim hq
    | cont => exact False.elim hq
theorem run_makeD {C : Addr} {pins : List (Addr × Obj)} {σ : L2.St} {H : Hp} {s : Shared} {Q : VK} {us : List Value} {vs : List V} {sp : L2.Sp} (M : Mk X.K C f) (F : L2.FnR X.prog X.w X.K X.mg X.base (L2.CX X.prog X.w) k f sp) (hr : Room (k + 1) X.A) (tk : Takes X Wx) (I : Inv X pins σ H s) (r : Vals vs us)
    (h : ∀ x dx, H x = Option.none → H dx = Option.none → dx ≠ x → sp (V.ref x :: vs) (upd (upd H dx (.own x)) x (.ins C dx [])) (fun v H2 => v = .non ∧ Q (.ref x) H2) (WE Wx σ)) :
    wpAny (model X.prog X.w) X.A (call (.ref C) us) (EP X pins σ Q) X.xe s := by
  have hq := h (s.heap.objs.size + 1) s.heap.objs.size (I.hok.fresh (Nat.le_succ _)) (I.hok.fresh (Nat.le_refl _)) (Nat.ne_of_lt (Nat.lt_succ_self _))
  have I2 := Inv.made (C := C) I
  have r2 : Vals (V.ref (s.heap.objs.size + 1) :: vs) (Value.ref (s.heap.objs.size + 1) :: us) := .cons rfl r
  refine wpAny_call (make_map (f := f) I.kIn M.makes M.init (beq_iff_eq.mp M.fn) (codeAny_mono (F _ X.stack _ _ (Value.ref (s.heap.objs.size + 1) :: us) _ _ (WE Wx σ) (hr.make C us []) (I2.env0.make C us []) r2 hq) fun r s' hq' => ?_))
  cases r with
  | error e => exact passAt tk σ pins _ _ e s' I2 hq'
  | ok fl =>
    cases fl with
    | ret u =>
      obtain ⟨v, H', I3, rv, ev, q3⟩ := I2.after hq'
      subst ev
      exact ⟨rv, ⟨V.ref (s.heap.objs.size + 1), H', I3, rfl, q3⟩⟩
    | next => exact False.elim hq'
    | brk => exact False.elim hq'
    | cont => exact False.elim hq'
theorem fz_nf : ∀ {rs : List Rv}, ∀ x ∈ rs.map fzFr, ∀ c, x ≠ Rv.fr c := fun {rs} x hx c e => by
  obtain ⟨y, _, rfl⟩ := List.mem_map.mp hx
  cases y <;> simp [fzFr] at e
theorem fz_roots : ∀ {rs : List Rv}, roots (rs.map fzFr) = roots rs
  | [] => rfl
  | r :: rs => by cases r <;> simp [fzFr, roots, fz_roots (rs := rs)]
theorem roots_in {R : Nat → Prop} : ∀ {rs : List Rv}, BoIns R rs → ∀ i ∈ roots rs, R i := fun {rs} b i hi => by
  obtain ⟨j, ph, c, e⟩ := mem_roots hi
  exact b _ (List.mem_of_getElem? e)
/-- a promise that the ghost may still work for -/
def Later (X : Cx) (σ : L2.St) (H : Hp) (P : Hp → Prop) : Prop := ∀ pins s, Inv X pins σ H s → ∃ H', Inv X pins σ H' s ∧ P H'
/-- arguments, ready -/
theorem ready (ok : W.Ok) {τ τ1 : Loc} {own own1 : Own} {σ : L2.St} {H H1 : Hp} {Q : VK} {rs : List Rv} {vs : List V} {M : List Addr} (S1 : SRep W τ1 σ H1 own1) (r : RvReps W τ1 σ H1 own1 rs vs M) (st : Stp tc τ own H τ1 own1 H1) (sr : Src tc own H M)
    (hR : ∀ i ∈ roots rs, tc i) (hF : Fin W Wx tc (RvRep W) (BoIn nob) τ own σ H Q (callR κc (rs.map fzFr) τ1)) : Later X σ H1 fun H2 => spF W κc vs H2 Q (WE Wx σ) := fun pins s I => by
  obtain ⟨H2, M2, I2, S2, r2, st2, n2, _, _⟩ := args_fz ok I S1 r st sr
  exact ⟨H2, I2, call_back ok S2 r2 fz_nf st2 (fun b hb => sr b (n2 b hb)) (by rw [fz_roots]; exact hR) hF⟩
theorem args_k (ok : W.Ok) {σ : L2.St} {H : Hp} {Q : VK} (h1 : ∀ i, tca i → tc i) (hR : ∀ i, R i → tc i) (h : tEv W Wx tc nob (fun τ => (fs τ).bind fun rs τ1 => callR κc (rs.map fzFr) τ1) σ H Q) :
    tG W Wx tca (RvReps W) (BoIns R) fs σ H fun vs H1 => Later X σ H1 fun H2 => spF W κc vs H2 Q (WE Wx σ) :=
  a_run h1 h fun τ τ1 own own1 rs vs H1 M1 S1 r1 b1 st1 sr1 hF1 => ready ok S1 r1 st1 sr1 (fun i hi => hR i (roots_in b1 i hi)) hF1
/-- f(e, ..) -/
theorem v_call (ok : W.Ok) (F : FnD X W k f κc) (hr : Room k X.A) (tk : Takes X Wx) (hg : Gl X x) (hm : X.mg x = some (.ref f)) (hk : PySem.W.keepIn X.K (.ref f) = true) (ha : PAv W X Wx tc R (e :: es) fs) (hdb : (x == ("__debug__" : Str)) = false)
    (he : starEach (e :: es) X.env = (false, eval e X.env) :: starEach es X.env) (hpl : (PySem.backTo pos (starEach es X.env)).any (·.1) = false) :
    PEv W X Wx (fun i => tc i ∨ R i) nob (.Call (.Name x p) (e :: es) [] pos) (fun τ => (fs τ).bind fun rs τ1 => callR κc (rs.map fzFr) τ1) := by
  refine ⟨fun pins s σ H Q I h => ?_⟩
  refine wpAny_Call_Name_kw (ld_glob I hg hm ?_ hdb)
  refine PySem.W.callWith_K (h₀ := X.base) I.ok.mod.kin hk (thn (ha.run pos pins s σ H _ I (args_k (X := X) ok (fun _ h => .inl h) (fun _ h => .inr h) h)) fun us s1 ⟨vs, H1, I1, r, q⟩ => ⟨I1.kIn, ?_⟩) he hpl
  obtain ⟨H2, I2, q2⟩ := q pins s1 I1
  exact wpAny_call (run_D F hr tk I2 r q2)
theorem v_call0 (ok : W.Ok) (F : FnD X W k f κc) (hr : Room k X.A) (tk : Takes X Wx) (hg : Gl X x) (hm : X.mg x = some (.ref f)) (hk : PySem.W.keepIn X.K (.ref f) = true) (hdb : (x == ("__debug__" : Str)) = false) :
    PEv W X Wx nob nob (.Call (.Name x p) [] [] pos) (fun τ => callR κc [] τ) := by
  refine ⟨fun pins s σ H Q I h => ?_⟩
  obtain ⟨τ, own, S, hF⟩ := h
  refine wpAny_Call_Name_kw (ld_glob I hg hm ?_ hdb)
  exact PySem.W.callWith_K0 I.kIn hk (wpAny_call (run_D (us := []) F hr tk I .nil (call_back ok (rs := []) (M := []) S ⟨rfl, rfl⟩ (fun x hx => by cases hx) Stp.refl (fun b hb => by cases hb) (fun i hi => by cases hi) hF)))

/-! ### methods -/
theorem getmeth_rd {pins : List (Addr × Obj)} {σ : L2.St} {H : Hp} {s : Shared} {a C dx g : Addr} {fs : List (Str × V)} {m : Str} {A : Around} {E : Value → Shared → Prop} {pl : Sem Bool} {Q : Value × List Value → Shared → Prop} (I : Inv X pins σ H s) (e : Rd H a (.ins C dx fs)) (c : L2.Cls X.K C) (kk : Meth X.K C m g) (l : fs.lookup m = none)
    (h : Q (.ref g, [.ref a]) s) : wpAny (model X.prog X.w) A (getMethod (.ref a) m pl) Q E s := by
  obtain ⟨d, z, ne, ob, mA, nn, r, q⟩ := (show ObjOk X.prog X.w H s.heap a (.ins C dx fs) from e.ok I.hok)
  have hn : mA m = none := RelO.none_of (by rw [← l]; exact r m)
  exact get_meth I.kIn ⟨ob, nn, ne⟩ (c.get m) kk.at_ kk.fn hn h
/-- a method call's tree -/
def MTree (X : Cx) (o : Expr) (m : Str) (apos pos : Pos) (args : List Expr) : Prop := ∃ pl, eval (.Call (.Attribute o m apos) args [] pos) X.env = (do
      let ov ← eval o X.env
      standAt apos.atName
      let (f, first) ← holding [ov] (getMethod ov m pl)
      callWith pos f first (PySem.backTo pos (starEach args X.env)) (backToKw pos (keywordEach [] X.env)))
theorem mtree_of {args : List Expr} (hbase : attributeBase o m X.env (eval o X.env) = eval o X.env) (hplain : (PySem.backTo pos (starEach args X.env)).all (fun x => !x.1) = true) (hlen : args.length < 30) (hline : (apos.endLine == pos.line) = true) : MTree X o m apos pos args := by
  refine ⟨(do return (← importBound o X.env).getD true), ?_⟩
  have hform : methodCallForm (args.length + ([] : List Keyword).length) (PySem.backTo pos (starEach args X.env)) (backToKw pos (keywordEach [] X.env)) = true := by
    show (_ && _ && _) = true
    rw [hplain]
    have hk : backToKw pos (keywordEach [] X.env) = [] := rfl
    rw [hk]
    simpa using hlen
  have hpos : methodCallPos true o X.env apos pos = pure pos := by unfold methodCallPos; simp [hline]
  rw [arm_eval_Call, hbase]
  unfold methodCall
  rw [hform, hpos]
  rfl
/-- the object's class, by the value -/
def ClsAt (W : Wd) (X : Cx) (H : Hp) (c : Nat) (m : Str) (g : Addr) (v : V) : Prop := ∃ a dx fs, v = .ref a ∧ Rd H a (.ins (W.cls c) dx fs) ∧ L2.Cls X.K (W.cls c) ∧ Meth X.K (W.cls c) m g ∧ fs.lookup m = none
theorem cls_at {H : Hp} {c : Nat} {g : Addr} {y : C} {v : V} {M : List Addr} (r : RepC W H y v M) (e : clsOf y = some c) (cl : L2.Cls X.K (W.cls c)) (mm : Meth X.K (W.cls c) m g) (nf : m ∉ W.flds c) : ClsAt W X H c m g v := by
  have key : ∀ (fs : List (Str × V)) (ns : List Str), ns = fs.map (·.1) → (∀ n ∈ ns, n ∈ W.flds c) → fs.lookup m = none := fun fs ns e h => by
    cases q : fs.lookup m with
    | none => rfl
    | some w =>
      exfalso
      refine nf (h m ?_)
      rw [e]
      have : ∀ (l : List (Str × V)), l.lookup m = some w → m ∈ l.map (·.1) := fun l => by
        induction l with
        | nil => intro z; cases z
        | cons p l ih =>
          intro z
          obtain ⟨p1, p2⟩ := p
          simp only [List.lookup] at z
          split at z
          · rename_i h2
            simp [beq_iff_eq.mp h2]
          · simp [ih z]
      exact this fs q
  cases y with
  | un => cases e
  | pu d =>
    cases d <;> simp only [clsOf] at e <;> first | (cases e; done) | skip
    cases e
    obtain ⟨_, a, dx, ob, fs, rfl, h1, h2, h3, _⟩ := r
    exact ⟨a, dx, fs, rfl, .inr ⟨ob, h1⟩, cl, mm, key fs _ h2 h3⟩
  | lst cs => cases e
  | dic ks cs => cases e
  | obj c' ns cs =>
    cases e
    obtain ⟨a, dx, fs, M', rfl, _, h1, h2, h3, _⟩ := r
    exact ⟨a, dx, fs, rfl, .inl h1, cl, mm, key fs _ h2 h3⟩
end
end DE
end
section
set_option Elab.async false
set_option linter.all false
set_option maxRecDepth 100000
set_option maxHeartbeats 2000000
/-! DE13: o.m(..), C(..), C(*parts), x(..) of a held def, ==. -/
namespace DE
open PySem L2

section
variable {W : Wd} {X : Cx} {Wx : WX} {tca tcb tc R Ra Rb : Nat → Prop} {k : Nat} {f : Addr} {κ : Kx} {κc : List C → CRes} {x m : Str} {p pos apos : Pos} {e o : Expr} {es : List Expr} {fo fa : Loc → Res Rv} {fs : Loc → Res (List Rv)}
/-- the methods, as the row has them -/
def MethOk (X : Cx) (W : Wd) (k : Nat) (κ : Kx) (m : Str) : Prop := ∀ c f, κ.meth c m = some f → L2.Cls X.K (W.cls c) ∧ Meth X.K (W.cls c) m (W.fn f) ∧ m ∉ W.flds c ∧ FnD X W k (W.fn f) (κ.call f)
theorem methF_some {x : Rv} {f : Nat} (h : methF κ m x = some f) : ∃ c, clsOf x.c = some c ∧ κ.meth c m = some f := by
  unfold methF at h
  exact Option.bind_eq_some_iff.mp h
theorem v_meth (ok : W.Ok) (hM : MethOk X W k κ m) (hr : Room k X.A) (tk : Takes X Wx) (ho : PEv W X Wx tca Ra o fo) (ha : PAv W X Wx tcb Rb (e :: es) fs) (hR : ∀ i, Ra i → ¬ tcb i) (mt : MTree X o m apos pos (e :: es))
    (he : starEach (e :: es) X.env = (false, eval e X.env) :: starEach es X.env) (hpl : (PySem.backTo pos (starEach es X.env)).any (·.1) = false) :
    PEv W X Wx (fun i => (tca i ∨ tcb i) ∨ (Ra i ∨ Rb i)) nob (.Call (.Attribute o m apos) (e :: es) [] pos) (fun τ => (fo τ).bind (methE κ m fs)) := by
  refine ⟨fun pins s σ H Q I h => ?_⟩
  obtain ⟨pl, ht⟩ := mt
  refine PySem.W.methodCall_KW (pl := pl) (thn (ho.run pins s σ H _ I (one_run (fun _ h => .inl (.inl h)) h (Q' := fun v H1 => ∃ x τ τ1 own own1 M1 f, SRep W τ1 σ H1 own1 ∧ RvRep W τ1 σ H1 own1 x v M1 ∧ BoIn Ra x ∧ Stp (fun i => (tca i ∨ tcb i) ∨ (Ra i ∨ Rb i)) τ own H τ1 own1 H1 ∧ Src (fun i => (tca i ∨ tcb i) ∨ (Ra i ∨ Rb i)) own H M1 ∧ methF κ m x = some f ∧
      Fin W Wx (fun i => (tca i ∨ tcb i) ∨ (Ra i ∨ Rb i)) (RvRep W) (BoIn nob) τ own σ H Q ((fs τ1).bind fun rs τ1 => doCall κ f (x :: rs) τ1)) fun τ τ1 own own1 x v H1 M1 S1 r1 b1 st sr hF => by
    unfold methE at hF
    cases em : methF κ m x with
    | none =>
      rw [em] at hF
      exact hF.elim
    | some f =>
      rw [em] at hF
      exact ⟨x, τ, τ1, own, own1, M1, f, S1, r1, b1, st, sr, em, hF⟩)) fun u s1 ⟨v, H1, I1, rx, x, τ, τ1, own, own1, M1, f, S1, r1, b1, st, sr, em, hF⟩ => ?_) ht
  obtain ⟨c, ec, ef⟩ := methF_some em
  obtain ⟨cl, mm, nf, F⟩ := hM c f ef
  obtain ⟨N1, q1⟩ := r1.rc ok S1
  obtain ⟨a, dx, gs, rfl, hrd, _, _, l⟩ := cls_at q1 ec cl mm nf
  obtain rfl : u = Value.ref a := rx
  refine getmeth_rd I1 hrd cl mm l ?_
  refine PySem.W.callWith_K (first := [.ref a]) (h₀ := X.base) I.ok.mod.kin mm.kp (thn (ha.run pos pins s1 σ H1 (fun vs H2 => Later X σ H2 fun H3 => spF W (κ.call f) (.ref a :: vs) H3 Q (WE Wx σ)) I1
    ⟨τ1, own1, S1, Fin.step st (fun _ h => .inl (.inr h)) hF fun rs τ2 vs H2 own2 M2 e2 S2 r2 b2 st2 sr2 st2' hF2 => ?_⟩) fun us s2 ⟨vs, H2, I2, r, q2⟩ => ⟨I2.kIn, ?_⟩) he hpl
  · refine ready (rs := x :: rs) (M := M1 ++ M2) ok S2 ⟨.ref a, vs, M1, M2, rfl, rfl, r1.step ok S1 b1 st2 hR, r2, r1.apart sr2⟩ st2' (fun b hb => ?_) (fun i hi => ?_) hF2
    · rcases List.mem_append.mp hb with hb | hb
      · exact sr b hb
      · exact st.src_trans (sr2.mono fun _ h => .inl (.inr h)) b hb
    · refine .inr ?_
      have := roots_in (R := fun i => Ra i ∨ Rb i) (rs := x :: rs) (fun y hy => by
        rcases List.mem_cons.mp hy with z | hy
        · rw [z]
          exact bo_mono (fun _ h => .inl h) b1
        · exact bo_mono (fun _ h => .inr h) (b2 y hy)) i hi
      exact this
  · obtain ⟨H3, I3, q3⟩ := q2 pins s2 I2
    exact wpAny_call (run_D (us := .ref a :: us) (vs := .ref a :: vs) F hr tk I3 (.cons rfl r) q3)
theorem v_meth0 (ok : W.Ok) (hM : MethOk X W k κ m) (hr : Room k X.A) (tk : Takes X Wx) (ho : PEv W X Wx tca Ra o fo) (mt : MTree X o m apos pos []) :
    PEv W X Wx (fun i => tca i ∨ Ra i) nob (.Call (.Attribute o m apos) [] [] pos) (fun τ => (fo τ).bind (methE κ m fun τ => .ok [] τ)) := by
  refine ⟨fun pins s σ H Q I h => ?_⟩
  obtain ⟨pl, ht⟩ := mt
  refine PySem.W.methodCall_KW (pl := pl) (thn (ho.run pins s σ H _ I (one_run (fun _ h => .inl h) h (Q' := fun v H1 => ∃ c f, L2.Cls X.K (W.cls c) ∧ Meth X.K (W.cls c) m (W.fn f) ∧ FnD X W k (W.fn f) (κ.call f) ∧ (∃ a dx gs, v = .ref a ∧ Rd H1 a (.ins (W.cls c) dx gs) ∧ gs.lookup m = none) ∧
      Later X σ H1 fun H3 => spF W (κ.call f) [v] H3 Q (WE Wx σ)) fun τ τ1 own own1 x v H1 M1 S1 r1 b1 st sr hF => by
    unfold methE at hF
    cases em : methF κ m x with
    | none =>
      rw [em] at hF
      exact hF.elim
    | some f =>
      rw [em] at hF
      obtain ⟨c, ec, ef⟩ := methF_some em
      obtain ⟨cl, mm, nf, F⟩ := hM c f ef
      obtain ⟨N1, q1⟩ := r1.rc ok S1
      obtain ⟨a, dx, gs, e1, hrd, _, _, l⟩ := cls_at q1 ec cl mm nf
      refine ⟨c, f, cl, mm, F, ⟨a, dx, gs, e1, hrd, l⟩, ready (rs := [x]) (M := M1) ok S1 ⟨v, [], M1, [], rfl, by simp, r1, ⟨rfl, rfl⟩, fun b _ h => by cases h⟩ st sr (fun i hi => .inr ?_) hF⟩
      exact roots_in (R := Ra) (rs := [x]) (fun y hy => by
        have z := List.mem_singleton.mp hy
        rw [z]
        exact b1) i hi)) fun u s1 ⟨v, H1, I1, rx, c, f, cl, mm, F, ⟨a, dx, gs, e1, hrd, l⟩, q⟩ => ?_) ht
  subst e1
  obtain rfl : u = Value.ref a := rx
  refine getmeth_rd I1 hrd cl mm l ?_
  obtain ⟨H3, I3, q3⟩ := q pins s1 I1
  exact PySem.W.callWith_K0 (first := [.ref a]) I1.kIn mm.kp (wpAny_call (run_D (us := [.ref a]) (vs := [.ref a]) F hr tk I3 (.cons rfl .nil) q3))

/-! ### C(..) -/
theorem spF_make (ok : W.Ok) {c : Nat} {vs : List V} {H : Hp} {Q : VK} {E : XK} (h : spF W (mkOf κc c) vs H Q E) (a dx : Addr) (ha : H a = none) (hd : H dx = none) (ne : dx ≠ a) :
    spF W κc (V.ref a :: vs) (upd (upd H dx (.own a)) a (.ins (W.cls c) dx [])) (fun v H2 => v = .non ∧ Q (.ref a) H2) E := by
  obtain ⟨as, own, hl, nu, S, hF⟩ := h
  have sm : Same H (upd (upd H dx (.own a)) a (.ins (W.cls c) dx [])) := fun b o e => by
    rw [upd_ne, upd_ne]
    · exact e
    · rintro rfl
      rw [hd] at e
      cases e
    · rintro rfl
      rw [ha] at e
      cases e
  have S1 := S.same ok sm
  refine ⟨.obj c [] [] :: as, fun j => match j with
    | 0 => [a]
    | j + 1 => own j, by simp [hl], fun c' hc => ?_, ⟨fun i => ?_, fun i => ?_, fun i j b n hb hc => ?_, S1.tb, by have := S1.ln; simpa using this⟩, ?_⟩
  · rcases List.mem_cons.mp hc with z | hc
    · rw [z]
      exact fun z => by cases z
    · exact nu c' hc
  · cases i with
    | zero => exact .inr ⟨.ref a, rfl, a, dx, [], [], rfl, rfl, upd_same, rfl, (fun n hn => by cases hn), ⟨rfl, rfl⟩⟩
    | succ i => exact S1.at_ i
  · cases i with
    | zero => simp
    | succ i => exact S1.nd i
  · have key : ∀ j b, b ∈ own j → b ≠ a := fun j b hb z => by
      obtain ⟨o, e, _⟩ := S.mu hb
      rw [z, ha] at e
      cases e
    cases i with
    | zero =>
      have hb' : b = a := by simpa using hb
      cases j with
      | zero => exact n rfl
      | succ j => exact key j b hc hb'
    | succ i =>
      cases j with
      | zero => exact key i b hb (by simpa using hc)
      | succ j => exact S1.dj i j b (fun z => n (by rw [z])) hb hc
  · unfold mkOf at hF
    -- how a callee's end is ours
    have stp : ∀ {o : C} {os : List C} {H' : Hp} {ownD : Own}, Stp allI (.obj c [] [] :: as) (fun j => match j with
        | 0 => [a]
        | j + 1 => own j) (upd (upd H dx (.own a)) a (.ins (W.cls c) dx [])) (o :: os) ownD H' → Stp allI as own H os (fun j => ownD (j + 1)) H' ∧ ∀ i b, b ∈ ownD i → (∃ j, allI j ∧ b ∈ own j) ∨ H b = none := fun {o os H' ownD} st => by
      have src : ∀ i b, b ∈ ownD i → (∃ j, allI j ∧ b ∈ own j) ∨ H b = none := fun i b hb => by
        rcases st.src i b trivial hb with ⟨j, _, z⟩ | z
        · cases j with
          | zero =>
            have : b = a := by simpa using z
            rw [this]
            exact .inr ha
          | succ j => exact .inl ⟨j, trivial, z⟩
        · refine .inr ?_
          cases q : H b with
          | none => rfl
          | some o =>
            rw [sm b o q] at z
            cases z
      refine ⟨⟨fun b o e nt hb => st.fr b o (sm b o e) nt fun i _ hi => ?_, fun b hb => st.dom b fun z => ?_, fun i hi => (hi trivial).elim, fun i b _ hb => src (i + 1) b hb⟩, src⟩
      · cases i with
        | zero =>
          have : b = a := by simpa using hi
          rw [this, ha] at e
          cases e
        | succ i => exact hb i trivial hi
      · cases q : H b with
        | none => exact hb q
        | some o =>
          rw [sm b o q] at z
          cases z
    have srep : ∀ {o : C} {os : List C} {H' : Hp} {ownD : Own}, SRep W (o :: os) ((V.ref a :: vs).map some) H' ownD → SRep W os (vs.map some) H' (fun j => ownD (j + 1)) := fun S' =>
      ⟨fun i => S'.at_ (i + 1), fun i => S'.nd (i + 1), fun i j b n => S'.dj (i + 1) (j + 1) b fun z => n (by omega), S'.tb, by have := S'.ln; simpa using this⟩
    cases ek : κc (.obj c [] [] :: as) with
    | stk =>
      rw [ek] at hF
      exact hF.elim
    | ok r os =>
      rw [ek] at hF
      cases r with
      | pu d =>
        cases d with
        | non =>
          cases os with
          | nil => exact hF.elim
          | cons o os =>
            dsimp only at hF
            by_cases hu : o.isUn = true
            · rw [if_pos hu] at hF
              exact hF.elim
            · rw [if_neg hu] at hF
              intro v H' ownD M S' r' _ st' sr'
              obtain ⟨st2, src⟩ := stp st'
              have q : v = _ := r'.1.2
              refine ⟨q, hF (.ref a) H' (fun j => ownD (j + 1)) (ownD 0) (srep S') ⟨?_, S'.nd 0, fun i b hb hc => S'.dj 0 (i + 1) b (by omega) hb hc⟩ trivial st2 fun b hb => src 0 b hb⟩
              rcases S'.at_ 0 with ⟨z, _⟩ | ⟨v0, z, rc⟩
              · have : o = .un := z
                rw [this] at hu
                exact (hu rfl).elim
              · cases z
                exact rc
        | _ => exact hF.elim
      | _ => exact hF.elim
    | exc xn os =>
      rw [ek] at hF
      cases os with
      | nil => exact hF.elim
      | cons o os =>
        intro cls d H' ownD S' st' xr
        exact hF cls d H' _ (srep S') (stp st').1 xr
theorem v_make (ok : W.Ok) {c : Nat} (M : Mk X.K (W.cls c) f) (F : FnD X W k f κc) (hr : Room (k + 1) X.A) (tk : Takes X Wx) (hg : Gl X x) (hm : X.mg x = some (.ref (W.cls c))) (ha : PAv W X Wx tc R (e :: es) fs) (hdb : (x == ("__debug__" : Str)) = false)
    (he : starEach (e :: es) X.env = (false, eval e X.env) :: starEach es X.env) (hpl : (PySem.backTo pos (starEach es X.env)).any (·.1) = false) :
    PEv W X Wx (fun i => tc i ∨ R i) nob (.Call (.Name x p) (e :: es) [] pos) (fun τ => (fs τ).bind fun rs τ1 => callR (mkOf κc c) (rs.map fzFr) τ1) := by
  refine ⟨fun pins s σ H Q I h => ?_⟩
  refine wpAny_Call_Name_kw (ld_glob I hg hm ?_ hdb)
  refine PySem.W.callWith_K (h₀ := X.base) I.ok.mod.kin M.kp (thn (ha.run pos pins s σ H _ I (args_k (X := X) ok (fun _ h => .inl h) (fun _ h => .inr h) h)) fun us s1 ⟨vs, H1, I1, r, q⟩ => ⟨I1.kIn, ?_⟩) he hpl
  obtain ⟨H2, I2, q2⟩ := q pins s1 I1
  exact run_makeD M F hr tk I2 r (spF_make ok q2)
/-- C(*a), a a tuple of data -/
theorem v_makes (ok : W.Ok) {c : Nat} {sp_ : Pos} (M : Mk X.K (W.cls c) f) (F : FnD X W k f κc) (hr : Room (k + 1) X.A) (tk : Takes X Wx) (hg : Gl X x) (hm : X.mg x = some (.ref (W.cls c))) (ha : PDv W X Wx tc e (fun τ => toF (fa τ))) (hdb : (x == ("__debug__" : Str)) = false)
    (hst : starEach [.Starred e sp_] X.env = [(true, eval e X.env)]) :
    PEv W X Wx tc nob (.Call (.Name x p) [.Starred e sp_] [] pos) (fun τ => (toF (fa τ)).bind fun d τ1 => match d with
      | .tup ds => callR (mkOf κc c) ((ds.map Rv.pu).map fzFr) τ1
      | _ => .stk) := by
  refine ⟨fun pins s σ H Q I h => ?_⟩
  refine wpAny_Call_Name_kw (ld_glob I hg hm ?_ hdb)
  refine PySem.W.callWith_S (h₀ := X.base) I.ok.mod.kin M.kp (thn (ha.run pins s σ H (fun v H1 => ∃ a xs, v = V.ref a ∧ SqT X.K H1 a xs ∧ Later X σ H1 fun H2 => spF W (mkOf κc c) xs H2 Q (WE Wx σ)) I (a_run (RepA := DRep W) (BA := fun _ => True) (fun _ h => h) h fun τ τ1 own own1 d v H1 M1 S1 r1 b1 st1 sr1 hF1 => by
    cases d with
    | tup ds =>
      obtain ⟨_, a, vs, e1, e2, e3⟩ := r1
      refine ⟨a, vs, e1, .inl (.inl e2), ready (rs := ds.map Rv.pu) (M := []) ok S1 ?_ st1 (fun b hb => by cases hb) (fun i hi => ?_) hF1⟩
      · clear hF1 e2
        induction ds generalizing vs with
        | nil => exact ⟨e3, rfl⟩
        | cons d ds ih =>
          obtain ⟨v1, r1, rfl, h1, h2⟩ := e3
          exact ⟨v1, r1, [], [], rfl, rfl, ⟨rfl, h1⟩, ih _ h2, fun b hb => by cases hb⟩
      · exfalso
        obtain ⟨j, ph, c', z⟩ := mem_roots hi
        rw [List.getElem?_map] at z
        cases q : ds[j]? with
        | none => rw [q] at z; cases z
        | some d => rw [q] at z; cases z
    | _ => exact hF1.elim)) fun v s1 ⟨y, H1, I1, ry, a, xs, ey, hxs, q⟩ => ?_) hst
  subst ey
  obtain rfl : v = Value.ref a := ry
  refine StX.star_any I1 (.inl hxs) fun us s2 I2 rv => ⟨I2.kIn, ?_⟩
  obtain ⟨H2, I3, q2⟩ := q pins s2 I2
  exact run_makeD M F hr tk I3 rv (spF_make ok q2)

/-! ### x(..), x a local name -/
def Fns (X : Cx) (W : Wd) (k : Nat) (κ : Kx) : Prop := ∀ f, W.isF f = true → FnD X W k (W.fn f) (κ.call f) ∧ PySem.W.keepIn X.K (.ref (W.fn f)) = true
theorem callfE_some {i : Nat} {g : Loc → Res (List Rv)} {τ τ0 : Loc} {own : Own} {σ : L2.St} {H : Hp} {Q : VK} (S : SRep W τ σ H own) (hF : Fin W Wx tc (RvRep W) (BoIn nob) τ0 own σ H Q (callfE κ i g τ)) : ∃ f, W.isF f = true ∧ σ[i]? = some (some (.ref (W.fn f))) ∧ Fin W Wx tc (RvRep W) (BoIn nob) τ0 own σ H Q ((g τ).bind fun rs τ1 => doCall κ f rs τ1) := by
  unfold callfE at hF
  rcases S.at_ i with ⟨e, _⟩ | ⟨v, e, r⟩
  · rw [e] at hF
    exact hF.elim
  · cases hc : look τ i with
    | pu d =>
      rw [hc] at hF r
      cases d with
      | fn f =>
        have q : v = _ := r.2.1
        rw [q] at e
        exact ⟨f, r.2.2, e, hF⟩
      | _ => exact hF.elim
    | _ =>
      rw [hc] at hF
      exact hF.elim
theorem v_callf (ok : W.Ok) {i : Nat} (hF : Fns X W k κ) (hr : Room k X.A) (tk : Takes X Wx) (hN : X.N[i]? = some x) (hv : Vis X.env.scope x) (ha : PAv W X Wx tc R (e :: es) fs) (hdb : (x == ("__debug__" : Str)) = false) (hcd : (x == ("__classdict__" : Str)) = false)
    (he : starEach (e :: es) X.env = (false, eval e X.env) :: starEach es X.env) (hpl : (PySem.backTo pos (starEach es X.env)).any (·.1) = false) :
    PEv W X Wx (fun i => tc i ∨ R i) nob (.Call (.Name x p) (e :: es) [] pos) (callfE κ i fs) := by
  refine ⟨fun pins s σ H Q I h => ?_⟩
  obtain ⟨τ, own, S, hF1⟩ := h
  obtain ⟨f, ff, ef, hF2⟩ := callfE_some S hF1
  refine wpAny_Call_Name_kw (thn ((pe_var (pos := p) hN hv hdb hcd).run pins s σ H (fun v H1 => v = .ref (W.fn f) ∧ H1 = H) I ⟨_, ef, rfl, rfl⟩) fun u s1 ⟨v, H1, I1, r1, q1⟩ => ?_)
  obtain ⟨rfl, rfl⟩ := q1
  cases r1
  refine PySem.W.callWith_K (h₀ := X.base) I.ok.mod.kin (hF f ff).2 (thn (ha.run pos pins s1 σ _ _ I1 (args_k (X := X) (κc := κ.call f) (Q := Q) ok (fun _ h => .inl h) (fun _ h => .inr h) ⟨τ, own, S, hF2⟩)) fun us s2 ⟨vs, H2, I2, r, q⟩ => ⟨I2.kIn, ?_⟩) he hpl
  obtain ⟨H3, I3, q2⟩ := q pins s2 I2
  exact wpAny_call (run_D (hF f ff).1 hr tk I3 r q2)
theorem v_callf0 (ok : W.Ok) {i : Nat} (hF : Fns X W k κ) (hr : Room k X.A) (tk : Takes X Wx) (hN : X.N[i]? = some x) (hv : Vis X.env.scope x) (hdb : (x == ("__debug__" : Str)) = false) (hcd : (x == ("__classdict__" : Str)) = false) :
    PEv W X Wx nob nob (.Call (.Name x p) [] [] pos) (callfE κ i fun τ => .ok [] τ) := by
  refine ⟨fun pins s σ H Q I h => ?_⟩
  obtain ⟨τ, own, S, hF1⟩ := h
  obtain ⟨f, ff, ef, hF2⟩ := callfE_some S hF1
  refine wpAny_Call_Name_kw (thn ((pe_var (pos := p) hN hv hdb hcd).run pins s σ H (fun v H1 => v = .ref (W.fn f) ∧ H1 = H) I ⟨_, ef, rfl, rfl⟩) fun u s1 ⟨v, H1, I1, r1, q1⟩ => ?_)
  obtain ⟨rfl, rfl⟩ := q1
  cases r1
  exact PySem.W.callWith_K0 I1.kIn (hF f ff).2 (wpAny_call (run_D (us := []) (hF f ff).1 hr tk I1 .nil (call_back ok (rs := []) (M := []) S ⟨rfl, rfl⟩ (fun x hx => by cases hx) Stp.refl (fun b hb => by cases hb) (fun i hi => by cases hi) hF2)))

/-! ### a == b, by the own __eq__ -/
theorem spF_bl {vs : List V} {H : Hp} {Q : VK} {E : XK} (h : spF W (blOnly κc) vs H Q E) : spF W κc vs H (fun v H' => ∃ b, v = .bl b ∧ Q v H') E := by
  obtain ⟨as, own, hl, nu, S, hF⟩ := h
  refine ⟨as, own, hl, nu, S, ?_⟩
  unfold blOnly at hF
  cases ek : κc as with
  | stk =>
    rw [ek] at hF
    exact hF.elim
  | exc xn os =>
    rw [ek] at hF
    exact hF
  | ok r os =>
    rw [ek] at hF
    cases r with
    | pu d =>
      cases d with
      | bl b => exact fun v H' own' M S' r' b' st' sr' => ⟨b, r'.1.2, hF v H' own' M S' r' b' st' sr'⟩
      | _ => exact hF.elim
    | _ => exact hF.elim
/-- the own __eq__ of a class, as the row has it -/
def EqOk (X : Cx) (W : Wd) (k : Nat) (κ : Kx) : Prop := ∀ c f, κ.meth c eqName = some f → L2.Cls X.K (W.cls c) ∧ Meth X.K (W.cls c) eqName (W.fn f) ∧ eqName ∉ W.flds c ∧ FnD X W k (W.fn f) (κ.call f) ∧ PySem.W.findIn X.K (.ref (W.cls c)) "__eq__" = some (some (.ref (W.fn f))) ∧ PySem.W.isFn X.K (.ref (W.fn f)) = true
theorem eqo_run (ok : W.Ok) (hE : EqOk X W k κ) (hr : Room k X.A) (tk : Takes X Wx) {tc : Nat → Prop} {τ τ2 : Loc} {own own2 : Own} {σ : L2.St} {H H2 : Hp} {Q : VK} {y z : Rv} {v v' : V} {M1 M2 : List Addr} {u u' : Value} {pins : List (Addr × Obj)} {s : Shared} (I : Inv X pins σ H2 s) (S2 : SRep W τ2 σ H2 own2) (r1 : RvRep W τ2 σ H2 own2 y v M1) (r2 : RvRep W τ2 σ H2 own2 z v' M2) (b1 : BoIn Ra y) (b2 : BoIn Rb z)
    (hR : ∀ i, Ra i ∨ Rb i → tc i) (st : Stp tc τ own H τ2 own2 H2) (s1 : Src tc own H M1) (s2 : Src tc own H M2) (dj : ∀ b ∈ M1, b ∉ M2) (ru : RelV v u) (ru' : RelV v' u') (hF : Fin W Wx tc (RvRep W) (BoIn nob) τ own σ H Q (eqoE κ y z τ2)) :
    wpAny (model X.prog X.w) X.A (compareOp .Eq u u') (EP X pins σ fun v H' => ∃ b, v = .bl b ∧ Q v H') X.xe s := by
  unfold eqoE at hF
  cases em : (sameCls y.c z.c).bind fun c => κ.meth c eqName with
  | none =>
    rw [em] at hF
    exact hF.elim
  | some f =>
    rw [em] at hF
    obtain ⟨c, ec, ef⟩ := Option.bind_eq_some_iff.mp em
    unfold sameCls at ec
    obtain ⟨c', e1, e2⟩ := Option.bind_eq_some_iff.mp ec
    split at e2
    · rename_i e3
      cases e2
      obtain ⟨cl, mm, nf, F, fi, fn⟩ := hE c f ef
      obtain ⟨N1, q1⟩ := r1.rc ok S2
      obtain ⟨N2, q2⟩ := r2.rc ok S2
      obtain ⟨a, dx, gs, rfl, hrd, _, _, _⟩ := cls_at q1 e1 cl mm nf
      obtain ⟨a', dx', gs', rfl, hrd', _, _, _⟩ := cls_at q2 e3 cl mm nf
      have l := ready (X := X) (rs := [y, z]) (M := M1 ++ (M2 ++ [])) (Q := Q) (κc := blOnly (κ.call f)) ok S2 ⟨_, _, M1, M2 ++ [], rfl, rfl, r1, ⟨_, _, M2, [], rfl, rfl, r2, ⟨rfl, rfl⟩, fun b _ h => by cases h⟩, fun b hb hc => dj b hb (by simpa using hc)⟩ st (fun b hb => by
        rcases List.mem_append.mp hb with hb | hb
        · exact s1 b hb
        · exact s2 b (by simpa using hb)) (fun i hi => hR i (roots_in (R := fun i => Ra i ∨ Rb i) (rs := [y, z]) (fun w hw => by
          rcases List.mem_cons.mp hw with z1 | hw
          · rw [z1]
            exact bo_mono (fun _ h => .inl h) b1
          · rw [List.mem_singleton.mp hw]
            exact bo_mono (fun _ h => .inr h) b2) i hi)) hF
      obtain ⟨H3, I3, q3⟩ := l pins s I
      obtain rfl : u = Value.ref a := ru
      obtain rfl : u' = Value.ref a' := ru'
      show wpAny (model X.prog X.w) X.A (richCompare .Eq (.ref a) (.ref a')) _ X.xe s
      obtain ⟨m, hFr⟩ := I.fr
      obtain ⟨d, z', ne, ob, mA, nn, r, q⟩ := (show ObjOk X.prog X.w H2 s.heap a (.ins (W.cls c) dx gs) from hrd.ok I.hok)
      obtain ⟨d', z'', ne', ob', mA', nn', r', q'⟩ := (show ObjOk X.prog X.w H2 s.heap a' (.ins (W.cls c) dx' gs') from hrd'.ok I.hok)
      obtain ⟨od, J, _⟩ := (ObjM.mk ob nn ne).look
      obtain ⟨od', J', _⟩ := (ObjM.mk ob' nn' ne').look
      refine PySem.W.cmp_K (op := .Eq) (tb := .ref (W.cls c)) hr.units0 hFr I.ok.mod.kin J J'.type (by simp [PySem.W.notFirst]) fi fn ?_
      refine wpAny_mono (wpAny_call (run_D (us := [.ref a, .ref a']) (vs := [.ref a, .ref a']) F hr tk I3 (.cons rfl (.cons rfl .nil)) (spF_bl q3))) (fun w s' ⟨v, H', I', rv, b, eb, qb⟩ => ?_) fun _ _ x => x
      subst eb
      cases rv
      exact ⟨.bl b, H', I', rfl, b, rfl, qb⟩
    · cases e2
theorem v_eqo (ok : W.Ok) (hE : EqOk X W k κ) (hr : Room k X.A) (tk : Takes X Wx) {b : Expr} {fb : Loc → Res Rv} (ha : PEv W X Wx tca Ra e fa) (hb : PEv W X Wx tcb Rb b fb) (hR : ∀ i, Ra i → ¬ tcb i) (hm : behindInMarks .Eq b = false) :
    PEv W X Wx (fun i => (tca i ∨ tcb i) ∨ (Ra i ∨ Rb i)) nob (.Compare e [.Eq] [b] pos) (fun τ => (fa τ).bind fun x τ1 => (fb τ1).bind fun y τ2 => eqoE κ x y τ2) := by
  refine ⟨fun pins s σ H Q I h => ?_⟩
  refine wpAny_Compare1 (binT ha hb (R := fun v v' H2 => ∀ s2 u u', Inv X pins σ H2 s2 → RelV v u → RelV v' u' → wpAny (model X.prog X.w) X.A (compareOp .Eq u u') (EP X pins σ fun v H' => ∃ b, v = .bl b ∧ Q v H') X.xe s2) I (two_run ok hR (r := fun v v' H2 (Q' : VK) => ∀ s2 u u', Inv X pins σ H2 s2 → RelV v u → RelV v' u' → wpAny (model X.prog X.w) X.A (compareOp .Eq u u') (EP X pins σ fun v H' => ∃ b, v = .bl b ∧ Q v H') X.xe s2) (Q' := Q) (fun _ h => .inl (.inl h)) (fun _ h => .inl (.inr h)) h
    fun τ τ2 own own2 x y v v' H2 M1 M2 S2 r1 r2 b1 b2 st s1 s2 dj hF s3 u u' I3 ru ru' => eqo_run ok hE hr tk I3 S2 r1 r2 b1 b2 (fun i h => .inr h) st s1 s2 dj ru ru' hF) fun v u s2 x y H2 I2 rx ry q => ?_) hm
  exact wpAny_mono (q s2 v u I2 rx ry) (fun w s' ⟨v, H', I', rv, b, eb, qb⟩ => ⟨v, H', I', rv, qb⟩) fun _ _ x => x
theorem eqoE_shape {y z r : Rv} {τ τ' : Loc} (h : eqoE κ y z τ = .ok r τ') : ∃ b, r = .pu (.bl b) := by
  unfold eqoE at h
  split at h
  · unfold callR at h
    split at h
    · unfold blOnly at h
      split at h
      · rename_i h2
        split at h2
        · split at h
          · cases h2
            cases h
            exact ⟨_, rfl⟩
          · cases h
        · cases h2
        · cases h2
      · split at h <;> cases h
      · cases h
    · cases h
  · cases h
theorem eqo_test {tc : Nat → Prop} {τ τ2 : Loc} {own : Own} {σ : L2.St} {H : Hp} {Q : Bool → Hp → Prop} {y z : Rv} (hF : Fin W Wx tc ERep (fun _ => True) τ own σ H Q ((eqoE κ y z τ2).bind truthE)) :
    Fin W Wx tc (RvRep W) (BoIn nob) τ own σ H (fun v H' => ∃ b, v = .bl b ∧ Q b H') (eqoE κ y z τ2) := by
  cases ee : eqoE κ y z τ2 with
  | stk =>
    rw [ee] at hF
    exact hF
  | exc x τ' =>
    rw [ee] at hF
    exact hF
  | ok r τ' =>
    rw [ee] at hF
    obtain ⟨b, rfl⟩ := eqoE_shape ee
    exact fun v H' own' M S' r' b' st' sr' => ⟨b, r'.2, hF b H' own' [] S' ⟨rfl, rfl⟩ trivial st' fun b hb => by cases hb⟩
theorem t_eqo (ok : W.Ok) (hE : EqOk X W k κ) (hr : Room k X.A) (tk : Takes X Wx) {b : Expr} {fb : Loc → Res Rv} (ha : PEv W X Wx tca Ra e fa) (hb : PEv W X Wx tcb Rb b fb) (hR : ∀ i, Ra i → ¬ tcb i) (hm : behindInMarks .Eq b = false) :
    PTv W X Wx (fun i => (tca i ∨ tcb i) ∨ (Ra i ∨ Rb i)) (.Compare e [.Eq] [b] pos) (fun τ => ((fa τ).bind fun x τ1 => (fb τ1).bind fun y τ2 => eqoE κ x y τ2).bind truthE) := by
  refine ⟨fun pins s σ H Q I h => ?_⟩
  simp only [bind_assoc] at h
  have h2 := two_run ok hR (tca := tca) (Rb := Rb) (r := fun v v' H2 (Q' : VK) => ∀ s2 u u', Inv X pins σ H2 s2 → RelV v u → RelV v' u' → wpAny (model X.prog X.w) X.A (compareOp .Eq u u') (EP X pins σ fun v H' => ∃ b, v = .bl b ∧ Q b H') X.xe s2) (Q' := fun _ _ => True) (fun _ h => .inl (.inl h)) (fun _ h => .inl (.inr h)) h
    fun τ τ2 own own2 x y v v' H2 M1 M2 S2 r1 r2 b1 b2 st s1 s2 dj hF s3 u u' I3 ru ru' => wpAny_mono (eqo_run ok hE hr tk I3 S2 r1 r2 b1 b2 (fun i h => .inr h) st s1 s2 dj ru ru' (eqo_test hF)) (fun w s' ⟨v, H', I', rv, _, _, qb⟩ => ⟨v, H', I', rv, qb⟩) fun _ _ x => x
  refine wpAny_isTrue_Compare1 (thn (ha.run pins s σ H _ I h2) fun v s1 ⟨x, H1, I1, r1, q1⟩ => thn (hb.run pins s1 σ H1 _ I1 q1) fun u s2 ⟨y, H2, I2, r2, q2⟩ =>
    thn (q2 s2 v u I2 r1 r2) fun c s3 ⟨z, H3, I3, r3, k, e, q3⟩ => ?_) hm
  subst e
  cases r3
  exact wpAny_truthy_bool ⟨H3, I3, q3⟩
end
end DE
end
section
set_option Elab.async false
set_option linter.all false
set_option maxRecDepth 100000
set_option maxHeartbeats 2000000
/-! DE14: changing a lent thing; methods of texts and lists. -/
namespace DE
open PySem L2 PySem.SeqAt

section
variable {W : Wd} {X : Cx} {Wx : WX} {tca tcb tc R Ra Rb : Nat → Prop} {o e : Expr} {es : List Expr} {fo fa : Loc → Res Rv} {fs : Loc → Res (List Rv)} {apos pos : Pos}
/-- what was lent is changed: the slots behind -/
theorem put_bo (ok : W.Ok) {τ0 τ : Loc} {own0 own : Own} {σ : L2.St} {H0 H H' : Hp} {i : Nat} {ph : List Sp} {c c' : C} {v : V} {M : List Addr} (S : SRep W τ σ H own) (r : RvRep W τ σ H own (.bo i ph c) v M) (st : Stp tc τ0 own0 H0 τ own H) (hi : tc i) (k : Keeps H H') (tb : LamX.Tabs W.tabs H') (dm : ∀ b, H b ≠ none → H' b ≠ none)
    (hc : ∀ Mc, RepC W H c v Mc → Mc.Nodup → (∀ b ∈ Mc, b ∈ own i) → ∃ Mc', RepC W H' c' v Mc' ∧ Mc'.Nodup ∧ (∀ b, b ∉ Mc → H b ≠ none → H' b = H b) ∧ ∀ b ∈ Mc', b ∈ Mc ∨ ((∀ j, b ∉ own j) ∧ ((∃ j, tc j ∧ b ∈ own0 j) ∨ H0 b = none))) :
    ∃ own', SRep W (τ.set i ((look τ i).set ph c')) σ H' own' ∧ Stp tc τ0 own0 H0 (τ.set i ((look τ i).set ph c')) own' H' := by
  obtain ⟨vi, Mc, M1, M2, e1, e2, e3, e4⟩ := S.bo ok r
  have nd := S.nd i
  rw [e2] at nd
  obtain ⟨d1, d2, d3⟩ := List.nodup_append.mp nd
  obtain ⟨d4, d5, d6⟩ := List.nodup_append.mp d2
  have mcI : ∀ b, b ∈ Mc → b ∈ own i := fun b hb => by rw [e2]; simp [hb]
  obtain ⟨Mc', q1, q2, q3, q4⟩ := hc Mc e3 d4 mcI
  have il : i < τ.length := by
    obtain ⟨_, vi', _, _, g, _, ne⟩ := r
    refine look_lt fun z => ne ?_
    rw [z] at g
    cases ph with
    | nil => simp [C.get] at g; exact g.symm
    | cons p ph => simp [C.get, C.sub] at g
  have inI : ∀ b, b ∈ M1 ∨ b ∈ M2 → b ∈ own i ∧ b ∉ Mc := fun b hb => by
    refine ⟨?_, fun z => ?_⟩
    · rw [e2]
      rcases hb with hb | hb <;> simp [hb]
    · rcases hb with hb | hb
      · exact d3 b hb b (by simp [z]) rfl
      · exact d6 b z b hb rfl
  have ne : ∀ j b, b ∈ own j → H b ≠ none := fun j b hb => by
    obtain ⟨o, e, _⟩ := S.mu hb
    rw [e]
    simp
  have apart : ∀ b ∈ Mc', ∀ j, b ∈ own j → b ∈ Mc := fun b hb j hj => by
    rcases q4 b hb with z | ⟨z, _⟩
    · exact z
    · exact (z j hj).elim
  refine ⟨fun j => if j = i then M1 ++ (Mc' ++ M2) else own j, ⟨fun j => ?_, fun j => ?_, fun j j' b n hb hb' => ?_, tb, by have := S.ln; simpa using this⟩, ⟨fun b o eb nt hb => ?_, fun b h => dm b (st.dom b h), fun j hj => ?_, fun j b hj hb => ?_⟩⟩
  · rw [look_set]
    by_cases e : j = i
    · subst e
      rw [if_pos ⟨rfl, il⟩, if_pos rfl]
      exact .inr ⟨vi, e1, e4 H' c' Mc' k (fun b hb => q3 b (inI b hb).2 (ne j b (inI b hb).1)) q1⟩
    · rw [if_neg fun z => e z.1.symm, if_neg e]
      refine (S.at_ j).imp (fun h => h) fun ⟨w, ew, rw'⟩ => ⟨w, ew, RepC.keep ok k _ _ _ (fun b hb => q3 b (fun z => S.dj j i b e hb (mcI b z)) (ne j b hb)) rw'⟩
  · by_cases e : j = i
    · subst e
      simp only [if_true]
      refine List.nodup_append.mpr ⟨d1, List.nodup_append.mpr ⟨q2, d5, fun a ha b hb z => ?_⟩, fun a ha b hb z => ?_⟩
      · subst z
        obtain ⟨g1, g2⟩ := inI a (.inr hb)
        exact g2 (apart a ha j g1)
      · subst z
        obtain ⟨g1, g2⟩ := inI a (.inl ha)
        rcases List.mem_append.mp hb with hb | hb
        · exact g2 (apart a hb j g1)
        · exact d3 a ha a (by simp [hb]) rfl
    · simp only [if_neg e]
      exact S.nd j
  · have key : ∀ x, b ∈ (if x = i then M1 ++ (Mc' ++ M2) else own x) → (x = i ∧ b ∈ Mc') ∨ b ∈ own x := fun x hx => by
      by_cases e : x = i
      · subst e
        rw [if_pos rfl] at hx
        rcases List.mem_append.mp hx with hx | hx
        · exact .inr (inI b (.inl hx)).1
        · rcases List.mem_append.mp hx with hx | hx
          · exact .inl ⟨rfl, hx⟩
          · exact .inr (inI b (.inr hx)).1
      · rw [if_neg e] at hx
        exact .inr hx
    rcases key j hb with ⟨z, hb⟩ | hb
    · rcases key j' hb' with ⟨z', hb'⟩ | hb'
      · exact n (z.trans z'.symm)
      · refine S.dj i j' b (fun w => n (z.trans w)) (mcI b (apart b hb j' hb')) hb'
    · rcases key j' hb' with ⟨z', hb'⟩ | hb'
      · exact S.dj i j b (fun w => n (w.symm.trans z'.symm)) (mcI b (apart b hb' j hb)) hb
      · exact S.dj j j' b n hb hb'
  · have h1 := st.fr b o eb nt hb
    rw [q3 b (fun z => ?_) (by rw [h1]; simp)]
    · exact h1
    · rcases st.src i b hi (mcI b z) with ⟨j, hj, w⟩ | w
      · exact hb j hj w
      · rw [eb] at w
        cases w
  · have e : j ≠ i := fun z => hj (z ▸ hi)
    rw [if_neg e, look_set, if_neg fun z => e z.1.symm]
    exact st.un j hj
  · by_cases e : j = i
    · subst e
      rw [if_pos rfl] at hb
      rcases List.mem_append.mp hb with hb | hb
      · exact st.src j b hj (inI b (.inl hb)).1
      · rcases List.mem_append.mp hb with hb | hb
        · rcases q4 b hb with z | ⟨_, z⟩
          · exact st.src j b hj (mcI b z)
          · exact z
        · exact st.src j b hj (inI b (.inr hb)).1
    · rw [if_neg e] at hb
      exact st.src j b hj hb

/-! ### lists of owned things -/
theorem RepCs.append {H : Hp} : ∀ {cs ds : List C} {vs us : List V} {M N : List Addr}, RepCs W H cs vs M → RepCs W H ds us N → RepCs W H (cs ++ ds) (vs ++ us) (M ++ N)
  | [], _, _, _, _, _, h, h' => by
    obtain ⟨rfl, rfl⟩ := h
    simpa using h'
  | c :: cs, _, _, _, _, _, h, h' => by
    obtain ⟨v, r, M1, M2, rfl, rfl, h1, h2⟩ := h
    exact ⟨v, r ++ _, M1, M2 ++ _, rfl, by simp, h1, RepCs.append h2 h'⟩
theorem RepCs.split {H : Hp} : ∀ (n : Nat) {cs : List C} {vs : List V} {M : List Addr}, RepCs W H cs vs M → ∃ M1 M2, M = M1 ++ M2 ∧ RepCs W H (cs.take n) (vs.take n) M1 ∧ RepCs W H (cs.drop n) (vs.drop n) M2
  | 0, _, _, M, h => ⟨[], M, by simp, by simpa using ⟨rfl, rfl⟩, by simpa using h⟩
  | n + 1, [], _, _, h => by
    obtain ⟨rfl, rfl⟩ := h
    exact ⟨[], [], by simp, ⟨by simp, rfl⟩, ⟨by simp, rfl⟩⟩
  | n + 1, c :: cs, _, _, h => by
    obtain ⟨v, r, M1, M2, rfl, rfl, h1, h2⟩ := h
    obtain ⟨N1, N2, rfl, q1, q2⟩ := RepCs.split n h2
    exact ⟨M1 ++ N1, N2, by simp, ⟨v, _, M1, N1, by simp, rfl, h1, q1⟩, by simpa using q2⟩
theorem RepCs.erase {H : Hp} : ∀ {j : Nat} {cs : List C} {vs : List V} {M : List Addr} {d : D}, RepCs W H cs vs M → cs[j]? = some (.pu d) → ∃ v, vs[j]? = some v ∧ RepD W H d v ∧ RepCs W H (cs.eraseIdx j) (vs.eraseIdx j) M
  | _, [], _, _, _, _, e => by simp at e
  | 0, c :: cs, _, _, d, h, e => by
    obtain ⟨v, r, M1, M2, rfl, rfl, h1, h2⟩ := h
    simp at e
    subst e
    obtain ⟨rfl, h1⟩ := h1
    exact ⟨v, by simp, h1, by simpa using h2⟩
  | j + 1, c :: cs, _, _, d, h, e => by
    obtain ⟨v, r, M1, M2, rfl, rfl, h1, h2⟩ := h
    simp at e
    obtain ⟨u, e1, e2, e3⟩ := RepCs.erase h2 e
    exact ⟨u, by simpa using e1, e2, ⟨v, _, M1, M2, by simp, rfl, h1, e3⟩⟩
/-- what a list method makes of the list's values and its arguments -/
theorem miL_rep {H : Hp} {m : Mi} {cs as ys : List C} {vs us : List V} {M N : List Addr} {r : Rv} (h : RepCs W H cs vs M) (h' : RepCs W H as us N) (e : miL m cs as = some (r, ys)) :
    ∃ d v ws M', r = .pu d ∧ RepD W H d v ∧ RepCs W H ys ws M' ∧ (∀ b, b ∈ M' ↔ b ∈ M ∨ b ∈ N) ∧ (M.Nodup → N.Nodup → (∀ b ∈ M, b ∉ N) → M'.Nodup) ∧
      ((m = .append ∧ ∃ y, us = [y] ∧ v = .non ∧ ws = vs ++ [y] ∧ vs.length < sizeLine) ∨ (m = .pop ∧ us = [] ∧ vs[vs.length - 1]? = some v ∧ ws = vs.dropLast) ∨
        (m = .popAt ∧ ∃ i k, us = [.int i] ∧ -(2 ^ 63) ≤ i ∧ i < 2 ^ 63 ∧ seqIndex? i vs.length = some k ∧ vs[k]? = some v ∧ ws = vs.eraseIdx k) ∨
        (m = .insert ∧ ∃ i y, us = [.int i, y] ∧ v = .non ∧ 0 ≤ i ∧ i ≤ vs.length ∧ vs.length < sizeLine ∧ ws = vs.take i.toNat ++ [y] ++ vs.drop i.toNat)) := by
  have len := RepCs.length h
  unfold miL at e
  split at e
  · rename_i c
    split at e
    · rename_i hl
      cases e
      obtain ⟨y, r, N1, N2, rfl, rfl, h1, h2⟩ := h'
      obtain ⟨rfl, rfl⟩ := h2
      refine ⟨.non, .non, vs ++ [y], M ++ (N1 ++ []), rfl, rfl, h.append ⟨y, [], N1, [], rfl, rfl, h1, ⟨rfl, rfl⟩⟩, fun b => by simp, fun a b c => ?_, .inl ⟨rfl, y, rfl, rfl, rfl, by rw [len]; exact big_line' hl⟩⟩
      exact List.nodup_append.mpr ⟨a, b, fun x hx y hy z => c x hx (z ▸ hy)⟩
    · cases e
  · split at e
    · rename_i d hd
      cases e
      obtain ⟨rfl, rfl⟩ := h'
      obtain ⟨v, e1, e2, e3⟩ := h.erase hd
      have hl : cs.length - 1 = vs.length - 1 := by rw [len]
      refine ⟨d, v, vs.dropLast, M, rfl, e2, ?_, fun b => by simp, fun a _ _ => a, .inr (.inl ⟨rfl, rfl, by rw [← hl]; exact e1, rfl⟩)⟩
      have z1 : cs.eraseIdx (cs.length - 1) = cs.dropLast := by
        rw [List.dropLast_eq_take, List.eraseIdx_eq_take_drop_succ]
        have : cs.length - 1 + 1 ≥ cs.length := by omega
        rw [List.drop_eq_nil_of_le this, List.append_nil]
      have z2 : vs.eraseIdx (cs.length - 1) = vs.dropLast := by
        rw [hl, List.dropLast_eq_take, List.eraseIdx_eq_take_drop_succ]
        have : vs.length - 1 + 1 ≥ vs.length := by omega
        rw [List.drop_eq_nil_of_le this, List.append_nil]
      rw [z1, z2] at e3
      exact e3
    · cases e
  · rename_i i
    split at e
    · rename_i hbig
      split at e
      · rename_i j hj
        split at e
        · rename_i d hd
          cases e
          obtain ⟨y, r, N1, N2, rfl, rfl, h1, h2⟩ := h'
          obtain ⟨rfl, rfl⟩ := h2
          obtain ⟨rfl, h1⟩ := h1
          have q : y = .int i := h1
          subst q
          obtain ⟨v, e1, e2, e3⟩ := h.erase hd
          have hb : -(2 ^ 63) ≤ i ∧ i < 2 ^ 63 ∧ seqIndex? i vs.length = some j := by
            rw [len]
            unfold big at hbig
            unfold ixN at hj
            unfold seqIndex?
            split at hj
            · split at hj
              · cases hj
                refine ⟨by omega, by omega, ?_⟩
                rename_i h0 h1
                have h2 : i.toNat < cs.length := by omega
                simp [h0, h2, show ¬ i < 0 by omega]
                exact h1
              · cases hj
            · split at hj
              · cases hj
                refine ⟨by omega, by omega, ?_⟩
                rename_i h0 h1
                simp [show i < 0 by omega, show (0 : Int) ≤ i + cs.length by omega, show (i + (cs.length : Int)).toNat < cs.length by omega]
                omega
              · cases hj
          exact ⟨d, v, vs.eraseIdx j, M, rfl, e2, e3, fun b => by simp, fun a _ _ => a, .inr (.inr (.inl ⟨rfl, i, j, rfl, hb.1, hb.2.1, hb.2.2, e1, rfl⟩))⟩
        · cases e
      · cases e
    · cases e
  · rename_i i c
    split at e
    · rename_i hl
      cases e
      obtain ⟨y0, r, N1, N2, rfl, rfl, h1, h2⟩ := h'
      obtain ⟨y, r, N3, N4, rfl, rfl, h3, h4⟩ := h2
      obtain ⟨rfl, rfl⟩ := h4
      obtain ⟨rfl, h1⟩ := h1
      have q : y0 = .int i := h1
      subst q
      obtain ⟨M1, M2, rfl, q1, q2⟩ := h.split i.toNat
      refine ⟨.non, .non, vs.take i.toNat ++ [y] ++ vs.drop i.toNat, (M1 ++ (N3 ++ [])) ++ M2, rfl, rfl, (q1.append (ds := [c]) (us := [y]) (N := N3 ++ []) ⟨y, [], N3, [], rfl, rfl, h3, ⟨rfl, rfl⟩⟩).append q2, fun b => ?_, fun a b c => ?_, .inr (.inr (.inr ⟨rfl, i, y, rfl, rfl, hl.1, by rw [len]; exact hl.2.1, by rw [len]; exact big_line' hl.2.2, rfl⟩))⟩
      · simp
        constructor
        · rintro (h | h | h)
          · exact .inl (.inl h)
          · exact .inr h
          · exact .inl (.inr h)
        · rintro ((h | h) | h)
          · exact .inl h
          · exact .inr (.inr h)
          · exact .inr (.inl h)
      · obtain ⟨a1, a2, a3⟩ := List.nodup_append.mp a
        have b' : N3.Nodup := by simpa using b
        have c' : ∀ x, x ∈ M1 ++ M2 → x ∉ N3 := fun x hx hy => c x hx (by simpa using hy)
        refine List.nodup_append.mpr ⟨List.nodup_append.mpr ⟨a1, by simpa using b', fun x hx y hy z => ?_⟩, a2, fun x hx y hy z => ?_⟩
        · exact c' x (by simp [hx]) (by simpa [z] using hy)
        · subst z
          rcases List.mem_append.mp hx with hx | hx
          · exact a3 x hx x hy rfl
          · exact c' x (by simp [hy]) (by simpa using hx)
    · cases e
  · cases e
end
/-! ### a + b of lists, what they own goes over -/
section
variable {W : Wd} {X : Cx} {Wx : WX} {tca tcb Ra Rb : Nat → Prop} {a b : Expr} {fa fb : Loc → Res Rv} {pos : Pos}
theorem catC_rep {τ : Loc} {σ : L2.St} {H : Hp} {own : Own} (ok : W.Ok) {r : Rv} {cs : List C} {v : V} {M : List Addr} (S : SRep W τ σ H own) (h : RvRep W τ σ H own r v M) (e : catC r = some cs) :
    ∃ a vs N, v = .ref a ∧ SqL W.K H a vs ∧ RepCs W H cs vs N ∧ N.Nodup ∧ (∀ b ∈ N, b ∈ M) ∧ ∀ i b, b ∈ N → b ∈ own i → False := by
  have other : ∀ {r : Rv}, RvRep W τ σ H own r v M → (listOf r.c).map (fun ds => ds.map C.pu) = some cs → ∃ a vs N, v = .ref a ∧ SqL W.K H a vs ∧ RepCs W H cs vs N ∧ N.Nodup ∧ (∀ b ∈ N, b ∈ M) ∧ ∀ i b, b ∈ N → b ∈ own i → False := fun {r} h e => by
    cases el : listOf r.c with
    | none =>
      rw [el] at e
      cases e
    | some ds =>
      rw [el] at e
      have e' := Option.some.inj e
      subst e'
      obtain ⟨N, q⟩ := h.rc ok S
      obtain ⟨a, vs, rfl, h1, h2⟩ := rep_list el q
      exact ⟨a, vs, [], rfl, h1, RepCs.pu h2, List.nodup_nil, (fun b hb => by cases hb), fun i b hb => by cases hb⟩
  unfold catC at e
  split at e
  · cases e
    obtain ⟨⟨a, vs, M', rfl, rfl, h3, h4⟩, nd, no⟩ := h
    exact ⟨a, vs, M', rfl, .inl (.inl h3), h4, (List.nodup_cons.mp nd).2, fun b hb => List.mem_cons_of_mem _ hb, fun i b hb hc => no i b (List.mem_cons_of_mem _ hb) hc⟩
  · exact other h e
theorem v_cat (ok : W.Ok) (hK : X.K = W.K) (ha : PEv W X Wx tca Ra a fa) (hb : PEv W X Wx tcb Rb b fb) (hR : ∀ i, Ra i → ¬ tcb i) :
    PEv W X Wx (fun i => tca i ∨ tcb i) nob (.BinOp a .Add b pos) (fun τ => (fa τ).bind fun x τ1 => (fb τ1).bind fun y τ2 => lift (catE x y) τ2) := PE.imp' (pe_op op_catL ha hb) fun σ H Q h =>
  two_run ok hR (fun _ h => .inl h) (fun _ h => .inr h) h fun τ τ2 own own2 x y v v' H2 M1 M2 S2 r1 r2 b1 b2 st s1 s2 dj hF => by
    unfold catE at hF
    cases ex : catC x with
    | none =>
      rw [ex] at hF
      exact hF.elim
    | some as =>
      cases ey : catC y with
      | none =>
        rw [ex, ey] at hF
        exact hF.elim
      | some bs =>
        rw [ex, ey] at hF
        dsimp only at hF
        by_cases hl : as.length + bs.length ≤ big
        · rw [if_pos hl] at hF
          obtain ⟨a, vs, N1, rfl, h1, q1, n1, m1, o1⟩ := catC_rep ok S2 r1 ex
          obtain ⟨b, us, N2, rfl, h2, q2, n2, m2, o2⟩ := catC_rep ok S2 r2 ey
          refine ⟨a, b, vs, us, rfl, rfl, by rw [hK]; exact h1, by rw [hK]; exact h2, by rw [RepCs.length q1, RepCs.length q2]; exact big_line hl, fun p hp => ?_⟩
          have sm : Same H2 (upd H2 p (.lst (vs ++ us))) := same_new hp
          have q := RepCs.append q1 q2
          have np : p ∉ N1 ++ N2 := fun z => by
            obtain ⟨o, e, _⟩ := RepCs.mu _ _ _ q p z
            rw [hp] at e
            cases e
          have S3 := S2.same ok sm
          refine hF (.ref p) _ own2 (p :: (N1 ++ N2)) S3 ⟨⟨p, vs ++ us, N1 ++ N2, rfl, rfl, upd_same, RepCs.keep ok (same_keeps sm) _ _ _ (fun b hb => upd_ne fun e => np (e ▸ hb)) q⟩, List.nodup_cons.mpr ⟨np, List.nodup_append.mpr ⟨n1, n2, fun x hx y hy e => dj x (m1 x hx) (e ▸ m2 y hy)⟩⟩, fun i b hb z => ?_⟩ trivial (st.trans (Stp.same sm)) ?_
          · rcases List.mem_cons.mp hb with e | hb
            · obtain ⟨o, e', _⟩ := S2.mu z
              rw [e, hp] at e'
              cases e'
            · rcases List.mem_append.mp hb with hb | hb
              · exact o1 i b hb z
              · exact o2 i b hb z
          · intro b hb
            rcases List.mem_cons.mp hb with e | hb
            · refine .inr ?_
              rw [e]
              cases q : H p with
              | none => rfl
              | some o => exact absurd hp (st.dom p (by rw [q]; simp))
            · rcases List.mem_append.mp hb with hb | hb
              · exact s1 b (m1 b hb)
              · exact s2 b (m2 b hb)
        · rw [if_neg hl] at hF
          exact hF.elim
end
end DE
end
section
set_option Elab.async false
set_option linter.all false
set_option maxRecDepth 100000
set_option maxHeartbeats 2000000
/-! DE15: methods of texts and lists as expressions. -/
namespace DE
open PySem L2 PySem.SeqAt

section
variable {W : Wd} {X : Cx} {Wx : WX} {tca tcb tc R Ra Rb : Nat → Prop} {o e : Expr} {es : List Expr} {fo fa : Loc → Res Rv} {fs : Loc → Res (List Rv)} {apos pos cpos : Pos}
/-- what a method's plain reading must give -/
def BmOk (W : Wd) (Wx : WX) (Ra Rb : Nat → Prop) (T : String) (r : V → List V → Hp → VK → Prop) (okb : Rv → Bool) (g : Rv → List Rv → Loc → Res Rv) : Prop :=
  ∀ (tc : Nat → Prop) τ τ2 own own2 x rs v vs σ H H2 M1 M2 Q, SRep W τ2 σ H2 own2 → RvRep W τ2 σ H2 own2 x v M1 → RvReps W τ2 σ H2 own2 rs vs M2 → BoIn Ra x → BoIns Rb rs → (∀ i, Ra i ∨ Rb i → tc i) → Stp tc τ own H τ2 own2 H2 → Src tc own H M1 → Src tc own H M2 → (∀ b ∈ M1, b ∉ M2) → okb x = true →
    Fin W Wx tc (RvRep W) (BoIn nob) τ own σ H Q (g x rs τ2) → r v vs H2 Q
def bmE (okb : Rv → Bool) (g : Rv → List Rv → Loc → Res Rv) (fs : Loc → Res (List Rv)) (x : Rv) (τ1 : Loc) : Res Rv := if okb x then (fs τ1).bind fun rs τ2 => g x rs τ2 else .stk
theorem v_bm (ok : W.Ok) {T id : String} {name : Str} {r : V → List V → Hp → VK → Prop} {okb : Rv → Bool} {g : Rv → List Rv → Loc → Res Rv} (pa : PlainAttrs T) (slot : Slot T name id) (hty : typeOf (.builtin id) = pure (.type "method_descriptor")) (hm : MtR X id r) (ho : PEv W X Wx tca Ra o fo) (ha : PAv W X Wx tcb Rb (e :: es) fs) (hR : ∀ i, Ra i → ¬ tcb i)
    (hbase : attributeBase o name X.env (eval o X.env) = eval o X.env)
    (hfew : ((PySem.backTo cpos (starEach (e :: es) X.env)).all (fun x => !x.1) && (backToKw cpos (keywordEach [] X.env)).all (fun x => x.1.isSome)
      && decide ((e :: es).length + ([] : List Keyword).length + (if ([] : List Keyword).isEmpty then 0 else 1) < 30)) = true)
    (hline : (apos.endLine == cpos.line) = true) (hs : starEach (e :: es) X.env = (false, eval e X.env) :: starEach es X.env) (hplain : (PySem.backTo cpos (starEach es X.env)).any (·.1) = false)
    (hT : ∀ x τ σ H own v M, SRep W τ σ H own → RvRep W τ σ H own x v M → okb x = true → tyV X.K T v H) (hg : BmOk W Wx Ra Rb T r okb g) :
    PEv W X Wx (fun i => (tca i ∨ tcb i) ∨ (Ra i ∨ Rb i)) nob (.Call (.Attribute o name apos) (e :: es) [] cpos) (fun τ => (fo τ).bind (bmE okb g fs)) :=
  PE.imp' (pe_bm pa slot hty hm ho ha hbase hfew hline hs hplain) fun σ H Q h => one_run (fun _ h => .inl (.inl h)) h fun τ τ1 own own1 x v H1 M1 S1 r1 b1 st1 s1 hF => by
    unfold bmE at hF
    by_cases hb : okb x = true
    · rw [if_pos hb] at hF
      refine ⟨hT x _ _ _ _ v M1 S1 r1 hb, τ1, own1, S1, Fin.step st1 (fun _ h => .inl (.inr h)) hF fun rs τ2 vs H2 own2 M2 e2 S2 r2 b2 st2 sr2 st2' hF2 => ?_⟩
      exact hg _ τ τ2 own own2 x rs v vs σ H H2 M1 M2 Q S2 (r1.step ok S1 b1 st2 hR) r2 b1 b2 (fun i h => .inr h) st2' s1 (st1.src_trans (sr2.mono fun _ h => .inl (.inr h))) (r1.apart sr2) hb hF2
    · rw [if_neg hb] at hF
      exact hF.elim
theorem v_bm0 (ok : W.Ok) {T id : String} {name : Str} {r : V → List V → Hp → VK → Prop} {okb : Rv → Bool} {g : Rv → List Rv → Loc → Res Rv} (pa : PlainAttrs T) (slot : Slot T name id) (hty : typeOf (.builtin id) = pure (.type "method_descriptor")) (hm : MtR X id r) (ho : PEv W X Wx tca Ra o fo)
    (hbase : attributeBase o name X.env (eval o X.env) = eval o X.env) (hline : (apos.endLine == cpos.line) = true)
    (hT : ∀ x τ σ H own v M, SRep W τ σ H own → RvRep W τ σ H own x v M → okb x = true → tyV X.K T v H) (hg : BmOk W Wx Ra nob T r okb g) :
    PEv W X Wx (fun i => tca i ∨ Ra i) nob (.Call (.Attribute o name apos) [] [] cpos) (fun τ => (fo τ).bind (bmE okb g fun τ => .ok [] τ)) :=
  PE.imp' (pe_bm0 pa slot hty hm ho hbase hline) fun σ H Q h => one_run (fun _ h => .inl h) h fun τ τ1 own own1 x v H1 M1 S1 r1 b1 st1 s1 hF => by
    unfold bmE at hF
    by_cases hb : okb x = true
    · rw [if_pos hb] at hF
      exact ⟨hT x _ _ _ _ v M1 S1 r1 hb, hg _ τ τ1 own own1 x [] v [] σ H H1 M1 [] Q S1 r1 ⟨rfl, rfl⟩ b1 (fun _ h => by cases h) (fun i h => .inr (h.elim (fun z => z) fun z => z.elim)) st1 s1 (fun b hb => by cases hb) (fun b _ h => by cases h) hb hF⟩
    · rw [if_neg hb] at hF
      exact hF.elim
theorem miE_bm (m : Mi) (g : Loc → Res (List Rv)) : miE m g = bmE (miOk m) (miR m) g := rfl

/-! texts -/
def okS (x : Rv) : Bool := match x with | .pu (.str _) => true | _ => false
theorem okS_some {x : Rv} (h : okS x = true) : ∃ s, x = .pu (.str s) := by
  unfold okS at h
  split at h
  · exact ⟨_, rfl⟩
  · cases h
theorem ty_str (x : Rv) (τ : Loc) (σ : L2.St) (H : Hp) (own : Own) (v : V) (M : List Addr) (S : SRep W τ σ H own) (r : RvRep W τ σ H own x v M) (h : okS x = true) : tyV X.K "str" v H := by
  obtain ⟨s, rfl⟩ := okS_some h
  have q : v = _ := r.2
  subst q
  rfl
theorem strs_rep {H : Hp} : ∀ {ds : List D} {vs : List V} {xs : List Str}, strsOf ds = some xs → RepDs W H ds vs → vs = xs.map V.str
  | [], _, xs, e, h => by
    simp [strsOf] at e
    subst e
    exact h
  | d :: ds, _, xs, e, h => by
    obtain ⟨v, r, rfl, h1, h2⟩ := h
    cases d <;> simp only [strsOf, Option.map_eq_some_iff] at e <;> first | (cases e; done) | skip
    obtain ⟨ys, e1, rfl⟩ := e
    have q : v = _ := h1
    rw [q, strs_rep e1 h2]
    rfl
theorem bm_join (ok : W.Ok) (hK : X.K = W.K) : BmOk W Wx Ra Rb "str" (fun x xs H Q => ∃ a p, ∃ ys : List Str, x = .str a ∧ xs = [.ref p] ∧ (SqL X.K H p (ys.map V.str) ∨ SqT X.K H p (ys.map V.str)) ∧
    (ys.map (·.length)).sum + ys.length * a.length ≤ 16777216 ∧ Q (.str (Txt.join a ys)) H) okS (miR .join) := by
  intro tc τ τ2 own own2 x rs v vs σ H H2 M1 M2 Q S2 r1 r2 b1 b2 hR st s1 s2 dj hb hF
  obtain ⟨a, rfl⟩ := okS_some hb
  have q : v = _ := r1.2
  subst q
  have hF' : Fin W Wx tc (RvRep W) (BoIn nob) τ own σ H Q (joinE (.str a) rs τ2) := hF
  unfold joinE at hF'
  split at hF'
  · rename_i a' r e1
    cases e1
    obtain ⟨y, z, N1, N2, rfl, rfl, h1, h2, _⟩ := r2
    obtain ⟨rfl, rfl⟩ := h2
    obtain ⟨Mc, rc⟩ := h1.rc ok S2
    split at hF'
    · rename_i xs hxs
      obtain ⟨ds, hs, hst⟩ := Option.bind_eq_some_iff.mp hxs
      obtain ⟨p, us, rfl, hp, hd⟩ := rep_seq hs rc
      have e2 := strs_rep hst hd
      subst e2
      split at hF'
      · rename_i hl
        refine ⟨a, p, xs, rfl, rfl, by rw [hK]; exact hp, ?_, refl_of' S2 st hF' ⟨rfl, rfl⟩ trivial⟩
        unfold sumLen at hl
        rw [Nat.mul_comm]
        omega
      · exact hF'.elim
    · exact hF'.elim
  · exact hF'.elim
theorem bm_split (ok : W.Ok) : BmOk W Wx Ra Rb "str" (fun x xs H Q => ∃ a b, x = .str a ∧ xs = [.str b] ∧ (b.length == 0) = false ∧ a.length + 2 ≤ sizeLine ∧ rNewStrs (Txt.split a b) H Q) okS (miR .split) := by
  intro tc τ τ2 own own2 x rs v vs σ H H2 M1 M2 Q S2 r1 r2 b1 b2 hR st s1 s2 dj hb hF
  obtain ⟨a, rfl⟩ := okS_some hb
  have q : v = _ := r1.2
  subst q
  have hF' : Fin W Wx tc (RvRep W) (BoIn nob) τ own σ H Q (splitE (.pu (.str a)) rs τ2) := hF
  unfold splitE at hF'
  simp only [Rv.fz] at hF'
  split at hF'
  · rename_i d ds e1 hds
    cases e1
    obtain ⟨g1, g2, g3, g4⟩ := fz_cs r2 hds
    cases hz : miS .split (.str a) ds with
    | none =>
      rw [hz] at hF'
      exact hF'.elim
    | some z =>
      rw [hz] at hF'
      unfold miS at hz
      split at hz
      · rename_i a' b e1 e2
        split at hz
        · rename_i hl
          cases hz
          cases e2
          -- the one argument
          cases rs with
          | nil => simp [fzAll] at hds
          | cons r rs =>
            cases rs with
            | cons r' rs =>
              simp only [fzAll, Option.bind_eq_some_iff, Option.map_eq_some_iff] at hds
              obtain ⟨_, _, _, ⟨_, _, _, _, rfl⟩, q⟩ := hds
              cases q
            | nil =>
              obtain ⟨y, z, N1, N2, rfl, rfl, h1, h2, _⟩ := r2
              obtain ⟨rfl, rfl⟩ := h2
              simp only [fzAll, Option.bind_eq_some_iff, Option.map_eq_some_iff] at hds
              obtain ⟨d, hd, ds', q1, q2⟩ := hds
              cases q1
              cases q2
              have hy : y = .str b := by
                cases r with
                | pu d' =>
                  cases hd
                  exact h1.2
                | fr c =>
                  simp only [Rv.fz, Option.some.injEq] at hd
                  cases c <;> simp only [C.fz] at hd <;> first | (cases hd; done) | skip
                  subst hd
                  exact h1.1.2
                | ow c => cases hd
                | bo i ph c => cases hd
              subst hy
              refine ⟨a, b, rfl, rfl, by simpa using hl.1, ?_, fun p hp => ?_⟩
              · have := hl.2
                unfold big at this
                rw [sizeLine_eq]
                omega
              · have zr := z_list (W := W) (ds := (Txt.split a b).map D.str) (vs := (Txt.split a b).map V.str) (H := H2) (p := p) (by
                  induction Txt.split a b with
                  | nil => exact rfl
                  | cons w ws ih => exact ⟨_, _, rfl, rfl, ih⟩) hp ok
                have e3 : (((Txt.split a b).map D.str).map C.pu) = (Txt.split a b).map fun x => C.pu (.str x) := by rw [List.map_map]; rfl
                rw [e3] at zr
                exact Fin.done ok hF' S2 st (same_new hp) zr (fresh1 hp)
        · cases hz
      · cases hz
  · exact hF'.elim

/-! lists -/
theorem ty_list (hK : X.K = W.K) {x : Rv} {τ : Loc} {σ : L2.St} {H : Hp} {own : Own} {v : V} {M : List Addr} (ok : W.Ok) (S : SRep W τ σ H own) (r : RvRep W τ σ H own x v M) (h : (∃ ds, listOf x.c = some ds) ∨ ∃ cs, x.c = .lst cs) : tyV X.K "list" v H := by
  obtain ⟨Mc, rc⟩ := r.rc ok S
  rcases h with ⟨ds, h⟩ | ⟨cs, h⟩
  · obtain ⟨a, vs, rfl, hs, _⟩ := rep_list h rc
    exact .inl ⟨rfl, vs, by rw [hK]; exact hs⟩
  · rw [h] at rc
    obtain ⟨a, vs, M', rfl, _, hs, _⟩ := rc
    exact .inl ⟨rfl, vs, .inl (.inl hs)⟩
def okI (x : Rv) : Bool := (listOf x.c).isSome
theorem bm_index (ok : W.Ok) (hK : X.K = W.K) : BmOk W Wx Ra Rb "list" (rIndexD X.K) okI (miR .index) := by
  intro tc τ τ2 own own2 x rs v vs σ H H2 M1 M2 Q S2 r1 r2 b1 b2 hR st s1 s2 dj hb hF
  have hF' : Fin W Wx tc (RvRep W) (BoIn nob) τ own σ H Q (indexE x rs τ2) := hF
  unfold indexE at hF'
  split at hF'
  · rename_i xs d hx hd
    split at hF'
    · rename_i hl
      split at hF'
      · rename_i j hj
        obtain ⟨Mc, rc⟩ := r1.rc ok S2
        obtain ⟨a, us, rfl, hs, hds⟩ := rep_list hx rc
        cases rs with
        | nil => simp [fzAll] at hd
        | cons r rs =>
          cases rs with
          | cons r' rs =>
            simp only [fzAll, Option.bind_eq_some_iff, Option.map_eq_some_iff] at hd
            obtain ⟨_, _, _, ⟨_, _, _, _, rfl⟩, q⟩ := hd
            cases q
          | nil =>
            obtain ⟨y, z, N1, N2, rfl, rfl, h1, h2, _⟩ := r2
            obtain ⟨rfl, rfl⟩ := h2
            obtain ⟨Mr, rr⟩ := h1.rc ok S2
            simp only [fzAll, Option.bind_eq_some_iff, Option.map_eq_some_iff] at hd
            obtain ⟨d', hd1, ds', q1, q2⟩ := hd
            cases q1
            cases q2
            have ed : r.c.fz = d := by
              cases r with
              | pu d' =>
                cases hd1
                rfl
              | fr c =>
                cases hd1
                rfl
              | ow c => cases hd1
              | bo i ph c => cases hd1
            have dy := dpc_of r.c y Mr (by rw [ed]; omega) rr
            rw [ed] at dy
            obtain ⟨hjl, hjt, hjm⟩ := List.findIdx?_eq_some_iff_getElem.mp hj
            have dl : DpAll W.K H2 us (pys xs) := dps_of xs us (by omega) hds
            have pl : ∀ (l : List D) (k : Nat), (pys l)[k]? = (l[k]?).map D.py := fun l => by
              induction l with
              | nil => intro k; rfl
              | cons a l ih =>
                intro k
                cases k with
                | zero => rfl
                | succ k => exact ih k
            have dm : ∀ (l : List D) (k : Nat) (a : D), l[k]? = some a → a.dep ≤ deps l := fun l => by
              induction l with
              | nil => intro k a h; simp at h
              | cons a l ih =>
                intro k b h
                cases k with
                | zero =>
                  simp at h
                  subst h
                  exact Nat.le_max_left _ _
                | succ k => exact Nat.le_trans (ih k b (by simpa using h)) (Nat.le_max_right _ _)
            refine ⟨a, y, d.py, pys xs, j, xs[j].py, rfl, rfl, by rw [hK]; exact .lst hs dl, by rw [hK]; exact dy, ?_, py_shaped (by omega), by rw [pl, List.getElem?_eq_getElem hjl]; rfl, ?_, fun m z' hm hz => ?_, refl_of' S2 st hF' ⟨rfl, rfl⟩ trivial⟩
            · have := py_shaped (d := .lst xs) (by simp [D.dep]; omega)
              exact this
            · rw [← eqb_py _ _ (Nat.le_trans (dm xs j _ (List.getElem?_eq_getElem hjl)) (by omega)) (by omega)]
              exact hjt
            · rw [pl] at hz
              have hml : m < xs.length := by omega
              rw [List.getElem?_eq_getElem hml] at hz
              cases hz
              rw [← eqb_py _ _ (Nat.le_trans (dm xs m _ (List.getElem?_eq_getElem hml)) (by omega)) (by omega)]
              have := hjm m hm
              simpa using this
      · exact hF'.elim
    · exact hF'.elim
  · exact hF'.elim
/-! .. that change it -/
def okB (x : Rv) : Bool := match x with | .bo _ _ (.lst _) => true | _ => false
theorem okB_some {x : Rv} (h : okB x = true) : ∃ i ph cs, x = .bo i ph (.lst cs) := by
  unfold okB at h
  split at h
  · exact ⟨_, _, _, rfl⟩
  · cases h
theorem ty_bo (hK : X.K = W.K) (ok : W.Ok) (x : Rv) (τ : Loc) (σ : L2.St) (H : Hp) (own : Own) (v : V) (M : List Addr) (S : SRep W τ σ H own) (r : RvRep W τ σ H own x v M) (h : okB x = true) : tyV X.K "list" v H := by
  obtain ⟨i, ph, cs, rfl⟩ := okB_some h
  exact ty_list hK ok S r (.inr ⟨cs, rfl⟩)
theorem change_ok (ok : W.Ok) {m : Mi} {tc : Nat → Prop} {τ τ2 : Loc} {own own2 : Own} {x : Rv} {rs : List Rv} {v : V} {vs : List V} {σ : L2.St} {H H2 : Hp} {M1 M2 : List Addr} {Q : VK} (S2 : SRep W τ2 σ H2 own2) (r1 : RvRep W τ2 σ H2 own2 x v M1) (r2 : RvReps W τ2 σ H2 own2 rs vs M2) (b1 : BoIn Ra x) (hR : ∀ i, Ra i ∨ Rb i → tc i) (st : Stp tc τ own H τ2 own2 H2) (s2 : Src tc own H M2)
    (hF : Fin W Wx tc (RvRep W) (BoIn nob) τ own σ H Q (changeE m x rs τ2)) : ∃ a us ws y, v = .ref a ∧ H2 a = some (.lst us) ∧ Q y (upd H2 a (.lst ws)) ∧
      ((m = .append ∧ ∃ w, vs = [w] ∧ y = .non ∧ ws = us ++ [w] ∧ us.length < sizeLine) ∨ (m = .pop ∧ vs = [] ∧ us[us.length - 1]? = some y ∧ ws = us.dropLast) ∨
        (m = .popAt ∧ ∃ i k, vs = [.int i] ∧ -(2 ^ 63) ≤ i ∧ i < 2 ^ 63 ∧ seqIndex? i us.length = some k ∧ us[k]? = some y ∧ ws = us.eraseIdx k) ∨
        (m = .insert ∧ ∃ i w, vs = [.int i, w] ∧ y = .non ∧ 0 ≤ i ∧ i ≤ us.length ∧ us.length < sizeLine ∧ ws = us.take i.toNat ++ [w] ++ us.drop i.toNat)) := by
  unfold changeE at hF
  split at hF
  · rename_i i ph c cs hk
    split at hF
    · rename_i xs hg
      have r1' := r1
      obtain ⟨e0, vi, e1, e2, e3, e4, e5⟩ := r1
      rw [hg] at e3
      cases e3
      split at hF
      · rename_i r ys hm
        obtain ⟨g1, g2, g3⟩ := keep_cs r2 hk
        obtain ⟨vi', Mc, N1, N2, q1, q2, q3, q4⟩ := S2.bo ok r1'
        obtain ⟨a, us, M', rfl, rfl, ha, hc⟩ := q3
        have nd := S2.nd i
        rw [q2] at nd
        obtain ⟨_, nd2, _⟩ := List.nodup_append.mp nd
        obtain ⟨nd3, _, _⟩ := List.nodup_append.mp nd2
        have aI : ∀ b, b ∈ a :: M' → b ∈ own2 i := fun b hb => by rw [q2]; simp only [List.mem_append]; exact .inr (.inl hb)
        obtain ⟨d, y, ws, Mn, rfl, rd, rc, mem, ndn, cases4⟩ := miL_rep hc g1 hm
        have kk : Keeps H2 (upd H2 a (.lst ws)) := upd_keeps ha trivial
        have na : a ∉ Mn := fun z => by
          rcases (mem a).mp z with z | z
          · exact (List.nodup_cons.mp nd3).1 z
          · exact g3 i a z (aI a (by simp))
        obtain ⟨own3, S3, st3⟩ := put_bo ok (c' := .lst ys) (H' := upd H2 a (.lst ws)) S2 r1' st (hR i (.inl b1)) kk (tabs_mu S2.tb fun b o eb nm => by
          rw [upd_ne]
          · exact eb
          · rintro rfl
            rw [ha] at eb
            cases eb
            exact nm trivial) (fun b hb => by
          by_cases z : b = a
          · rw [z, upd_same]
            simp
          · rw [upd_ne z]
            exact hb) fun Mc' rcm ndm inM => by
            obtain ⟨a', us', M'', z1, rfl, ha', hc'⟩ := rcm
            cases z1
            rw [ha] at ha'
            cases ha'
            obtain ⟨d2, y2, ws2, Mn2, z2, rd2, rc2, mem2, ndn2, c2⟩ := miL_rep hc' g1 hm
            have ew : ws2 = ws := by
              rcases cases4 with ⟨k1, w, k2, _, k3, _⟩ | ⟨k1, k2, _, k3⟩ | ⟨k1, i1, n1, k2, _, _, k4, _, k3⟩ | ⟨k1, i1, w1, k2, _, _, _, _, k3⟩ <;>
              rcases c2 with ⟨j1, w', j2, _, j3, _⟩ | ⟨j1, j2, _, j3⟩ | ⟨j1, i2, n2, j2, _, _, j4, _, j3⟩ | ⟨j1, i2, w2, j2, _, _, _, _, j3⟩ <;> simp_all
            subst ew
            refine ⟨a :: Mn2, ⟨a, ws2, Mn2, rfl, rfl, upd_same, RepCs.keep ok kk _ _ _ (fun b hb => upd_ne fun z => ?_) rc2⟩, List.nodup_cons.mpr ⟨?_, ndn2 (List.nodup_cons.mp ndm).2 g2 fun b hb hc => ?_⟩, fun b hb _ => upd_ne fun z => hb (by simp [z]), fun b hb => ?_⟩
            · subst z
              rcases (mem2 b).mp hb with z | z
              · exact (List.nodup_cons.mp ndm).1 z
              · exact g3 i b z (aI b (by simp))
            · intro hb
              rcases (mem2 a).mp hb with z | z
              · exact (List.nodup_cons.mp ndm).1 z
              · exact g3 i a z (aI a (by simp))
            · exact g3 i b hc (inM b (by simp [hb]))
            · rcases List.mem_cons.mp hb with z | hb
              · exact .inl (by simp [z])
              · rcases (mem2 b).mp hb with z | z
                · exact .inl (by simp [z])
                · exact .inr ⟨fun j hj => g3 j b z hj, s2 b z⟩
        refine ⟨a, us, ws, y, rfl, ha, ?_, cases4⟩
        exact hF y _ own3 [] S3 ⟨rfl, RepD.keep ok kk _ _ rd⟩ trivial st3 fun b hb => by cases hb
      · exact hF.elim
    · exact hF.elim
  · exact hF.elim
end
end DE
end
section
set_option Elab.async false
set_option linter.all false
set_option maxRecDepth 100000
set_option maxHeartbeats 2000000
/-! DE16: changing methods; names moved; isinstance; written dicts; constants by name; displays of dicts; f-strings. -/
namespace DE
open PySem L2 PySem.SeqAt PyProof.Rows

section
variable {W : Wd} {X : Cx} {Wx : WX} {tca tcb tc R Ra Rb : Nat → Prop} {o a e : Expr} {es : List Expr} {fo fa : Loc → Res Rv} {fs : Loc → Res (List Rv)} {apos pos cpos p : Pos} {x : Str}
theorem bm_append (ok : W.Ok) : BmOk W Wx Ra Rb "list" rAppend okB (miR .append) := by
  intro tc τ τ2 own own2 x rs v vs σ H H2 M1 M2 Q S2 r1 r2 b1 b2 hR st s1 s2 dj hb hF
  obtain ⟨a, us, ws, y, rfl, ha, q, c4⟩ := change_ok (m := .append) ok S2 r1 r2 b1 hR st s2 hF
  rcases c4 with ⟨_, w, rfl, rfl, rfl, hl⟩ | ⟨k, _⟩ | ⟨k, _⟩ | ⟨k, _⟩
  · exact ⟨a, us, w, rfl, rfl, ha, hl, q⟩
  all_goals cases k
theorem bm_insert (ok : W.Ok) : BmOk W Wx Ra Rb "list" (fun x vs H Q => ∃ (l : Addr) (xs : List V) (i : Int) (y : V), x = .ref l ∧ vs = [.int i, y] ∧ H l = some (.lst xs) ∧ xs.length < sizeLine ∧ 0 ≤ i ∧ i < 2 ^ 63 ∧
    Q .non (upd H l (.lst (xs.take i.toNat ++ [y] ++ xs.drop i.toNat)))) okB (miR .insert) := by
  intro tc τ τ2 own own2 x rs v vs σ H H2 M1 M2 Q S2 r1 r2 b1 b2 hR st s1 s2 dj hb hF
  obtain ⟨a, us, ws, y, rfl, ha, q, c4⟩ := change_ok (m := .insert) ok S2 r1 r2 b1 hR st s2 hF
  rcases c4 with ⟨k, _⟩ | ⟨k, _⟩ | ⟨k, _⟩ | ⟨_, i, w, rfl, rfl, h0, h1, hl, rfl⟩
  · cases k
  · cases k
  · cases k
  · refine ⟨a, us, i, w, rfl, rfl, ha, hl, h0, ?_, q⟩
    rw [sizeLine_eq] at hl
    omega
theorem bm_pop (ok : W.Ok) : BmOk W Wx Ra nob "list" rPop okB (miR .pop) := by
  intro tc τ τ2 own own2 x rs v vs σ H H2 M1 M2 Q S2 r1 r2 b1 b2 hR st s1 s2 dj hb hF
  obtain ⟨a, us, ws, y, rfl, ha, q, c4⟩ := change_ok (m := .pop) (Rb := nob) ok S2 r1 r2 b1 hR st s2 hF
  rcases c4 with ⟨k, _⟩ | ⟨_, rfl, hy, rfl⟩ | ⟨k, _⟩ | ⟨k, _⟩
  · cases k
  · exact ⟨a, us, y, rfl, rfl, ha, hy, q⟩
  · cases k
  · cases k
theorem bm_popAt (ok : W.Ok) : BmOk W Wx Ra Rb "list" rPopAt okB (miR .popAt) := by
  intro tc τ τ2 own own2 x rs v vs σ H H2 M1 M2 Q S2 r1 r2 b1 b2 hR st s1 s2 dj hb hF
  obtain ⟨a, us, ws, y, rfl, ha, q, c4⟩ := change_ok (m := .popAt) ok S2 r1 r2 b1 hR st s2 hF
  rcases c4 with ⟨k, _⟩ | ⟨k, _⟩ | ⟨_, i, k, rfl, h1, h2, h3, h4, rfl⟩ | ⟨k, _⟩
  · cases k
  · cases k
  · exact ⟨a, us, i, k, y, rfl, rfl, ha, h1, h2, h3, h4, q⟩
  · cases k

/-! ### names moved, temporaries, data -/
theorem v_ow (h : PEv W X Wx tc R e fa) : PEv W X Wx tc nob e (fun τ => (fa τ).bind fun r τ1 => match r with
    | .fr c => .ok (.ow c) τ1
    | _ => .stk) := PE.imp' h fun σ H Q h => one_run (fun _ h => h) h fun τ τ1 own own1 x v H1 M1 S1 r1 b1 st s1 hF => by
  cases x with
  | fr c => exact hF v H1 own1 M1 S1 r1 trivial st s1
  | _ => exact hF.elim
theorem v_fz (ok : W.Ok) (h : PEv W X Wx tc R e fa) : PEv W X Wx tc nob e (fun τ => (toF (fa τ)).bind fun d τ1 => .ok (.pu d) τ1) := PE.imp' (pd_of ok h) fun σ H Q h =>
  a_run (RepA := DRep W) (BA := fun _ => True) (fun _ h => h) h fun τ τ1 own own1 d v H1 M1 S1 r1 b1 st s1 hF => hF v H1 own1 M1 S1 r1 trivial st s1
theorem wipe1 {τ : Loc} {i j : Nat} : look (τ.set i .un) j = if i = j then .un else look τ j := by
  rw [look_set]
  by_cases h : i = j
  · subst h
    rw [if_pos rfl]
    by_cases h2 : i < τ.length
    · rw [if_pos ⟨rfl, h2⟩]
    · rw [if_neg fun z => h2 z.2]
      exact Classical.byContradiction fun z => h2 (look_lt z)
  · rw [if_neg fun z => h z.1, if_neg h]
/-- a slot given up -/
theorem SRep.drop {τ : Loc} {own : Own} {σ : L2.St} {H : Hp} (S : SRep W τ σ H own) (i : Nat) : SRep W (τ.set i .un) σ H (fun j => if i = j then [] else own j) :=
  ⟨fun j => by
    rw [wipe1]
    by_cases h : i = j
    · rw [if_pos h, if_pos h]
      exact .inl ⟨rfl, rfl⟩
    · rw [if_neg h, if_neg h]
      exact S.at_ j, fun j => by
    by_cases h : i = j
    · rw [if_pos h]
      simp
    · rw [if_neg h]
      exact S.nd j, fun j k b n hb hc => by
    by_cases h : i = j
    · rw [if_pos h] at hb
      cases hb
    · rw [if_neg h] at hb
      by_cases h' : i = k
      · rw [if_pos h'] at hc
        cases hc
      · rw [if_neg h'] at hc
        exact S.dj j k b n hb hc, S.tb, by have := S.ln; simpa using this⟩
theorem Stp.drop {τ : Loc} {own : Own} {H : Hp} {i : Nat} (h : tc i) : Stp tc τ own H (τ.set i .un) (fun j => if i = j then [] else own j) H :=
  ⟨fun b o e _ _ => e, fun b h => h, fun j hj => by
    have n : ¬ i = j := fun z => hj (z ▸ h)
    rw [if_neg n, wipe1, if_neg n]
    exact ⟨rfl, rfl⟩, fun j b hj hb => by
    by_cases z : i = j
    · rw [if_pos z] at hb
      cases hb
    · rw [if_neg z] at hb
      exact .inl ⟨j, hj, hb⟩⟩
theorem v_mv {i : Nat} (hN : X.N[i]? = some x) (hv : Vis X.env.scope x) (hd : (x == ("__debug__" : Str)) = false) (hcd : (x == ("__classdict__" : Str)) = false) : PEv W X Wx (· = i) nob (.Name x pos) (mvC i) := by
  refine PE.imp' (pe_var hN hv hd hcd) fun σ H Q ⟨τ, own, S, hF⟩ => ?_
  unfold mvC at hF
  rcases S.at_ i with ⟨e, _⟩ | ⟨v, e, r⟩
  · rw [e] at hF
    exact hF.elim
  · refine ⟨v, e, ?_⟩
    have key : ∀ c, look τ i = c → Fin W Wx (· = i) (RvRep W) (BoIn nob) τ own σ H Q (.ok (.fr c) (τ.set i .un)) → Q v H := fun c hc hF => by
      rw [hc] at r
      refine hF v H _ (own i) (S.drop i) ⟨r, S.nd i, fun j b hb hc => ?_⟩ trivial (Stp.drop rfl) fun b hb => .inl ⟨i, rfl, hb⟩
      dsimp only at hc
      by_cases z : i = j
      · rw [if_pos z] at hc
        cases hc
      · rw [if_neg z] at hc
        exact S.dj i j b z hb hc
    cases hc : look τ i with
    | un =>
      rw [hc] at hF
      exact hF.elim
    | pu d =>
      rw [hc] at hF r
      exact hF v H own [] S ⟨rfl, r.2⟩ trivial Stp.refl fun b hb => by cases hb
    | lst cs =>
      rw [hc] at hF
      exact key _ hc hF
    | dic ks cs =>
      rw [hc] at hF
      exact key _ hc hF
    | obj k ns cs =>
      rw [hc] at hF
      exact key _ hc hF

/-! ### constants by name -/
theorem v_glob {d : D} {v : V} {u : Value} (hg : Gl X x) (hm : X.mg x = some u) (r : RelV v u) (hr : ∀ H, RepD W H d v) (hd : (x == ("__debug__" : Str)) = false) : PEv W X Wx nob nob (.Name x pos) (fun τ => .ok (.pu d) τ) :=
  PE.imp' (pe_glob hg hm r hd) fun σ H Q ⟨τ, own, S, hF⟩ => refl_of S hF ⟨rfl, hr H⟩ trivial
theorem v_neg {j : Int} {k : Nat} : PEv W X Wx nob nob (.UnaryOp .USub (.Constant (.int j) k p) pos) (fun τ => .ok (.pu (.int (-j))) τ) :=
  PE.imp' (pe_un un_neg pe_int) fun σ H Q ⟨τ, own, S, hF⟩ => ⟨j, rfl, refl_of S hF ⟨rfl, rfl⟩ trivial⟩

/-! ### isinstance -/
theorem ty_of {H : Hp} {K : PySem.W.Frag} (hK : K = W.K) {c : C} {v : V} {M : List Addr} {n : String} (r : RepC W H c v M) (e : tyN c = some n) : TyX K H v (.type n) := by
  subst hK
  unfold tyN at e
  split at e <;> cases e
  · obtain ⟨_, rfl⟩ := r
    exact .base .non
  · obtain ⟨_, rfl⟩ := r
    exact .base (.bl _)
  · obtain ⟨_, rfl⟩ := r
    exact .base (.int _)
  · obtain ⟨_, rfl⟩ := r
    exact .base (.str _)
  · obtain ⟨_, a, vs, rfl, h, _⟩ := r
    exact .base (.tup h)
  · obtain ⟨_, a, vs, rfl, h, _⟩ := r
    rcases h with ⟨o, h⟩ | ⟨o, its, n, h, hc, _⟩
    · exact .base (.frz h)
    · exact .kList h hc
  · obtain ⟨_, a, o, kvs, rfl, h, _⟩ := r
    exact .fDict h
  · obtain ⟨a, vs, M', rfl, _, h, _⟩ := r
    exact .base (.lst h)
  · obtain ⟨a, vs, M', rfl, _, h, _⟩ := r
    exact .base (.dK h)
def tyName : Ty → String
  | .int => "int"
  | .bool => "bool"
  | .str => "str"
  | .tup => "tuple"
  | .lst => "list"
  | .cls _ => ""
theorem kit_of_ty {t : Ty} {c : C} {n : String} {b : Bool} (e : tyN c = some n) (h : tyB t n = some b) : kitB n (tyName t) = some b := by
  unfold tyN at e
  split at e <;> cases e <;> cases t <;> simp only [tyB] at h <;> first | (cases h; done) | (cases h; decide +kernel)
theorem v_isi (ok : W.Ok) (hK : X.K = W.K) {t : Ty} {T : Str} {p2 : Pos} (ht : ∀ k, t ≠ .cls k) (hg : Gl X "isinstance") (hm : X.mg "isinstance" = none) (hgT : Gl X T) (hmT : X.mg T = none) (hb : bootBuiltins T = some (.type (tyName t))) (hnT : T ≠ "__name__") (hdT : (T == ("__debug__" : Str)) = false) (ha : PEv W X Wx tca Ra a fa)
    (hs : starEach [a, .Name T p2] X.env = (false, eval a X.env) :: starEach [.Name T p2] X.env) :
    PEv W X Wx tca nob (.Call (.Name "isinstance" p) [a, .Name T p2] [] pos) (fun τ => (fa τ).bind fun x τ1 => lift ((typeIs t x.c).map fun b => .pu (.bl b)) τ1) :=
  PE.imp' (pe_callB (call_isi (X := X)) hg hm rfl (pa_cons ha (pa_cons (pe_bltn (v := .ty (tyName t)) hgT hmT hb rfl hnT hdT) pa_nil) hs) (by decide) (by decide) hs) fun σ H Q h => one_run (fun _ h => h) h fun τ τ1 own own1 x v H1 M1 S1 r1 b1 st s1 hF => by
    obtain ⟨N1, q1⟩ := r1.rc ok S1
    cases ez : typeIs t x.c with
    | none =>
      rw [ez] at hF
      exact hF.elim
    | some z =>
      rw [ez] at hF
      have ez' : (tyN x.c).bind (tyB t) = some z := by
        unfold typeIs at ez
        cases t <;> first | exact ez | exact (ht _ rfl).elim
      obtain ⟨n, e1, e2⟩ := Option.bind_eq_some_iff.mp ez'
      exact ⟨v, .ty (tyName t), .type n, .type (tyName t), z, rfl, .ty _, ty_of hK q1 e1, kit_ty (kit_of_ty e1 e2), refl_of' S1 st hF ⟨rfl, rfl⟩ trivial⟩
/-- .. of an own class -/
theorem call_isD {C0 : Addr} (c : C8.InsC X.K C0) : CallR X (.builtin "isinstance") (fun xs H Q => ∃ a dx fs, xs = [.ref a, .ref C0] ∧ Rd H a (.ins C0 dx fs) ∧ Q (.bl true) H) := by
  intro pins s σ H xs us Q I r h
  obtain ⟨a, dx, fs, rfl, ha, q⟩ := h
  obtain ⟨u, w', rfl, ru, rw'⟩ := vals2 r
  cases rw'
  obtain rfl : u = Value.ref a := ru
  obtain ⟨d, z', ne, ob, mA, nn, r, q'⟩ := (show ObjOk X.prog X.w H s.heap a (.ins C0 dx fs) from ha.ok I.hok)
  obtain ⟨od, J, _⟩ := (ObjM.mk ob nn ne).look
  exact PySem.W.kia_one (PySem.W.kitx_own (c.cl.get _) c.cl.hd c.ha c.hn c.htk c.hm) I.kIn J c.me (fun z => nomatch z) fun tk => ⟨.bl true, H, I.tok _, rfl, q⟩
theorem v_isiC (ok : W.Ok) {k : Nat} {T : Str} {p2 : Pos} (c : C8.InsC X.K (W.cls k)) (hg : Gl X "isinstance") (hm : X.mg "isinstance" = none) (hgT : Gl X T) (hmT : X.mg T = some (.ref (W.cls k))) (hdT : (T == ("__debug__" : Str)) = false) (ha : PEv W X Wx tca Ra a fa)
    (hs : starEach [a, .Name T p2] X.env = (false, eval a X.env) :: starEach [.Name T p2] X.env) :
    PEv W X Wx tca nob (.Call (.Name "isinstance" p) [a, .Name T p2] [] pos) (fun τ => (fa τ).bind fun x τ1 => lift ((typeIs (.cls k) x.c).map fun b => .pu (.bl b)) τ1) :=
  PE.imp' (pe_callB (call_isD c) hg hm rfl (pa_cons ha (pa_cons (pe_glob (v := .ref (W.cls k)) hgT hmT rfl hdT) pa_nil) hs) (by decide) (by decide) hs) fun σ H Q h => one_run (fun _ h => h) h fun τ τ1 own own1 x v H1 M1 S1 r1 b1 st s1 hF => by
    obtain ⟨N1, q1⟩ := r1.rc ok S1
    unfold typeIs at hF
    split at hF
    · rename_i k' e
      cases e
      split at hF
      · rename_i ec
        obtain ⟨a, dx, fs, rfl, hrd⟩ : ∃ a dx fs, v = .ref a ∧ Rd H1 a (.ins (W.cls k) dx fs) := by
          cases hc : x.c with
          | obj k2 ns cs =>
            rw [hc] at ec q1
            cases ec
            obtain ⟨a, dx, fs, M', rfl, _, h, _⟩ := q1
            exact ⟨a, dx, fs, rfl, .inl h⟩
          | pu d =>
            rw [hc] at ec q1
            cases d with
            | obj k2 ns ds =>
              cases ec
              obtain ⟨_, a, dx, o, fs, rfl, h, _⟩ := q1
              exact ⟨a, dx, fs, rfl, .inr ⟨o, h⟩⟩
            | _ => cases ec
          | un => rw [hc] at ec; cases ec
          | lst cs => rw [hc] at ec; cases ec
          | dic ks cs => rw [hc] at ec; cases ec
        exact ⟨a, dx, fs, rfl, hrd, refl_of' S1 st hF ⟨rfl, rfl⟩ trivial⟩
      · exact hF.elim
    · rename_i h1
      exact (h1 k rfl).elim
end
end DE
end
section
set_option Elab.async false
set_option linter.all false
set_option maxRecDepth 100000
set_option maxHeartbeats 2000000
/-! DE17: displays of dicts, written dicts, f-strings. -/
namespace DE
open PySem L2 PySem.SeqAt PyProof.Rows

section
variable {W : Wd} {X : Cx} {Wx : WX} {tca tcb tc R Ra Rb : Nat → Prop} {o a e : Expr} {es : List Expr} {fo fa : Loc → Res Rv} {fs : Loc → Res (List Rv)} {apos pos cpos p : Pos} {x : Str}
/-! ### {k: v, ..} -/
/-- the keys, as they are written -/
def KeyIn (X : Cx) (k : Expr) (key : Key) : Prop := PE X k (tC (kV key))
inductive KeysIn (X : Cx) : List (Option Expr) → List Key → Prop where
  | nil : KeysIn X [] []
  | cons {k : Expr} {key : Key} {ks : List (Option Expr)} {keys : List Key} (h : KeyIn X k key) (r : KeysIn X ks keys) : KeysIn X (some k :: ks) (key :: keys)
/-- keys and values, as PPs wants them -/
def PDi (W : Wd) (X : Cx) (Wx : WX) (tc R : Nat → Prop) (pos : Pos) (ks : List (Option Expr)) (keys : List Key) (es : List Expr) (f : Loc → Res (List Rv)) : Prop :=
  ∃ trs, PPs X pos ks es trs ∧ ∀ σ H (Q : List (V × V) → Hp → Prop), tG W Wx tc (RvReps W) (BoIns R) f σ H (fun vs H' => Q ((keys.map kV).zip vs) H') → tPairs trs σ H Q
theorem pdi_nil : PDi W X Wx nob nob pos [] [] [] (fun τ => .ok [] τ) := ⟨[], pps_nil, fun σ H Q ⟨τ, own, S, hF⟩ => refl_of (b := []) S hF ⟨rfl, rfl⟩ fun r hr => by cases hr⟩
theorem pdi_cons (ok : W.Ok) {k : Expr} {key : Key} {ks : List (Option Expr)} {keys : List Key} (hk : KeyIn X k key) (ha : PEv W X Wx tca Ra e fa) (hs : PDi W X Wx tcb Rb pos ks keys es fs) (hR : ∀ i, Ra i → ¬ tcb i) :
    PDi W X Wx (fun i => tca i ∨ tcb i) (fun i => Ra i ∨ Rb i) pos (some k :: ks) (key :: keys) (e :: es) (fun τ => (fa τ).bind fun r τ1 => (fs τ1).bind fun rs τ2 => .ok (r :: rs) τ2) := by
  obtain ⟨trs, hp, ht⟩ := hs
  refine ⟨_, pps_cons hk ha hp, fun σ H Q h => ?_⟩
  show tC (kV key) σ H _
  refine one_run (fun _ h => .inl h) h fun τ τ1 own own1 x v H1 M1 S1 r1 b1 st1 s1 hF1 => ?_
  refine ht σ H1 _ ⟨τ1, own1, S1, Fin.step st1 (fun _ h => .inr h) hF1 fun rs τ2 vs H2 own2 M2 e2 S2 r2 b2 st2 sr2 st2' hF2 => ?_⟩
  refine hF2 (v :: vs) H2 own2 (M1 ++ M2) S2 ⟨v, vs, M1, M2, rfl, rfl, r1.step ok S1 b1 st2 hR, r2, r1.apart sr2⟩ (fun r hr => ?_) st2' ?_
  · rcases List.mem_cons.mp hr with e | hr
    · rw [e]
      exact bo_mono (fun _ h => .inl h) b1
    · exact bo_mono (fun _ h => .inr h) (b2 r hr)
  · intro b hb
    rcases List.mem_append.mp hb with hb | hb
    · exact s1 b hb
    · exact st1.src_trans (sr2.mono fun _ h => .inr h) b hb
theorem key_nodup : ∀ {keys : List Key}, nodupD (keys.map dKey) = true → keys.Nodup
  | [], _ => by simp
  | k :: ks, h => by
    simp only [List.map_cons, nodupD, Bool.and_eq_true, Bool.not_eq_true'] at h
    refine List.nodup_cons.mpr ⟨fun hm => ?_, key_nodup h.2⟩
    have : (ks.map dKey).any (·.eqb (dKey k)) = true := by
      rw [List.any_eq_true]
      exact ⟨dKey k, List.mem_map.mpr ⟨k, hm, rfl⟩, by rw [dkey_eqb]; simp⟩
    rw [h.1] at this
    cases this
theorem putK_new {kvs : List (Key × V)} {k : Key} {v : V} (h : k ∉ kvs.map (·.1)) : putK kvs k v = kvs ++ [(k, v)] := by
  unfold putK
  have : (kvs.any fun kv => kv.1 = k) = false := by
    rw [List.any_eq_false]
    intro p hp
    simp only [decide_eq_true_eq]
    exact fun z => h (List.mem_map.mpr ⟨p, hp, z⟩)
  simp_all
theorem mergeK_new : ∀ {more kvs : List (Key × V)}, ((kvs ++ more).map (·.1)).Nodup → mergeK kvs more = kvs ++ more
  | [], kvs, _ => by
    show kvs = _
    simp
  | p :: more, kvs, h => by
    have h1 : p.1 ∉ kvs.map (·.1) := fun z => by
      rw [List.map_append, List.nodup_append] at h
      exact h.2.2 p.1 z p.1 (by simp) rfl
    show mergeK (putK kvs p.1 p.2) more = _
    rw [putK_new h1, mergeK_new (by simpa using h)]
    simp
theorem zip_kvs : ∀ {keys : List Key} {vs : List V}, (keys.map kV).zip vs = (keys.zip vs).map fun kv => (kV kv.1, kv.2)
  | [], _ => by simp
  | k :: ks, [] => by simp
  | k :: ks, v :: vs => by simp [zip_kvs]
theorem v_dic (ok : W.Ok) {ks : List (Option Expr)} {keys : List Key} (hs : PDi W X Wx tc R pos ks keys es fs) (hall : ks.all (·.isSome) = true) (hl : ks.length = es.length) (h0 : ks ≠ []) (h15 : ks.length ≤ 15) (hkl : keys.length = ks.length) :
    PEv W X Wx tc nob (.Dict ks es pos) (fun τ => (fs τ).bind fun rs τ1 => lift ((keepAll rs).bind fun cs => dicE (keys.map dKey) cs) τ1) := by
  obtain ⟨trs, hp, ht⟩ := hs
  refine PE.imp' (pe_disp hp hall hl h0 h15) fun σ H Q ⟨τ, own, S, hF⟩ p hpn => ?_
  have sm : Same H (upd H p (.dK [])) := same_new hpn
  refine ht σ _ _ ⟨τ, own, S.same ok sm, Fin.step (Stp.same sm) (fun _ h => h) hF fun rs τ2 vs H2 own2 M2 e2 S2 r2 b2 st2 sr2 st2' hF2 => ?_⟩
  have np : ∀ i, p ∉ own i := fun i z => by
    obtain ⟨o, e, _⟩ := S.mu z
    rw [hpn] at e
    cases e
  have hp2 : H2 p = some (.dK []) := st2.fr p _ upd_same (fun _ z => by cases z) fun i _ => np i
  cases ez : keepAll rs with
  | none =>
    rw [ez] at hF2
    exact hF2.elim
  | some cs =>
    rw [ez] at hF2
    simp only [Option.bind_some] at hF2
    unfold dicE at hF2
    split at hF2
    · rename_i hc
      simp only [Bool.and_eq_true, decide_eq_true_eq] at hc
      obtain ⟨⟨⟨f1, f2⟩, f3⟩, f4⟩ := hc
      obtain ⟨g1, g2, g3⟩ := keep_cs r2 ez
      have hlen : keys.length = vs.length := by
        rw [RepCs.length g1, ← f4]
        simp
      have hkv : (keys.zip vs).map (·.1) = keys := List.map_fst_zip (by omega)
      have hvv : (keys.zip vs).map (·.2) = vs := List.map_snd_zip (by omega)
      refine ⟨hp2, keys.zip vs, zip_kvs, by simp; simp at f3; omega, ?_⟩
      have em : mergeK [] (keys.zip vs) = keys.zip vs := by
        have := mergeK_new (kvs := []) (more := keys.zip vs) (by simpa [hkv] using key_nodup f2)
        simpa using this
      rw [em]
      have kk : Keeps H2 (upd H2 p (.dK (keys.zip vs))) := upd_keeps hp2 trivial
      have pM : p ∉ M2 := fun z => by
        rcases sr2 p z with ⟨j, _, z⟩ | z
        · exact np j z
        · rw [upd_same] at z
          cases z
      have po : ∀ i, p ∉ own2 i := fun i z => by
        by_cases q : tc i
        · rcases st2.src i p q z with ⟨j, _, z⟩ | z
          · exact np j z
          · rw [upd_same] at z
            cases z
        · rw [(st2.un i q).1] at z
          exact np i z
      have S3 : SRep W τ2 σ (upd H2 p (.dK (keys.zip vs))) own2 := S2.ext ok kk (fun i b hb => upd_ne fun z => po i (z ▸ hb)) (tabs_mu S2.tb fun b o eb nm => by
        rw [upd_ne]
        · exact eb
        · rintro rfl
          rw [hp2] at eb
          cases eb
          exact nm trivial)
      refine hF2 (.ref p) _ own2 (p :: M2) S3 ⟨⟨p, keys.zip vs, M2, rfl, rfl, upd_same, ?_, ?_⟩, List.nodup_cons.mpr ⟨pM, g2⟩, fun i b hb z => ?_⟩ trivial ⟨fun b o eb nt hb => ?_, fun b h => ?_, st2'.un, st2'.src⟩ fun b hb => ?_
      · have : (keys.zip vs).map (fun p => dKey p.1) = ((keys.zip vs).map (·.1)).map dKey := by rw [List.map_map]; rfl
        rw [this, hkv]
      · rw [hvv]
        exact RepCs.keep ok kk _ _ _ (fun b hb => upd_ne fun z => pM (z ▸ hb)) g1
      · rcases List.mem_cons.mp hb with e | hb
        · exact po i (e ▸ z)
        · exact g3 i b hb z
      · have nb : b ≠ p := fun z => by
          rw [z, hpn] at eb
          cases eb
        rw [upd_ne nb]
        exact st2'.fr b o eb nt hb
      · by_cases q : b = p
        · rw [q, upd_same]
          simp
        · rw [upd_ne q]
          exact st2'.dom b h
      · rcases List.mem_cons.mp hb with e | hb
        · exact .inr (by rw [e]; exact hpn)
        · rcases sr2 b hb with z | z
          · exact .inl z
          · refine .inr ?_
            by_cases q : b = p
            · rw [q]
              exact hpn
            · rw [upd_ne q] at z
              exact z
    · exact hF2.elim
theorem v_dic0 (ok : W.Ok) : PEv W X Wx nob nob (.Dict [] [] pos) (fun τ => .ok (.fr (.dic [] [])) τ) := PE.imp' pe_dnewK fun σ H Q ⟨τ, own, S, hF⟩ p hp =>
  Fin.done (R := nob) ok hF S Stp.refl (same_new hp) (v := .ref p) (M := [p]) ⟨⟨p, [], [], rfl, rfl, upd_same, rfl, ⟨rfl, rfl⟩⟩, by simp⟩ (fresh1 hp)

/-! ### f-strings -/
theorem c_fmt : ∀ {τ : Loc} {σ : L2.St} {H : Hp}, True := trivial
theorem v_fmt (ok : W.Ok) (ha : PEv W X Wx tca Ra e fa) : PEv W X Wx tca nob (.FormattedValue e (-1) none pos) (fun τ => ((fa τ).bind fun r τ1 => .ok [r] τ1).bind fun rs τ1 => lift (fmtB (rs.map Rv.c)) τ1) :=
  PE.imp' (pe_fmt ha) fun σ H Q h => by
    simp only [bind_assoc] at h
    refine one_run (fun _ h => h) h fun τ τ1 own own1 x v H1 M1 S1 r1 b1 st s1 hF => ?_
    obtain ⟨N1, q1⟩ := r1.rc ok S1
    simp only [Res.bind, List.map_cons, List.map_nil] at hF
    cases ez : fmtB [x.c] with
    | none =>
      rw [ez] at hF
      exact hF.elim
    | some z =>
      rw [ez] at hF
      unfold fmtB at ez
      split at ez
      · rename_i i e1
        simp only [List.cons.injEq, and_true] at e1
        rw [e1] at q1
        split at ez
        · rename_i hi
          cases ez
          refine .inr ⟨i, q1.2, ?_, refl_of' S1 st hF ⟨rfl, rfl⟩ trivial⟩
          have : i.natAbs.log2 < 20 := by
            by_cases h0 : i.natAbs = 0
            · rw [h0]
              decide
            · rw [Nat.log2_lt h0]
              omega
          omega
        · cases ez
      · rename_i s e1
        simp only [List.cons.injEq, and_true] at e1
        rw [e1] at q1
        split at ez
        · rename_i hi
          cases ez
          exact .inl ⟨s, q1.2, big_line hi, refl_of' S1 st hF ⟨rfl, rfl⟩ trivial⟩
        · cases ez
      · cases ez
/-- the parts, one behind the other -/
def PJv (W : Wd) (X : Cx) (Wx : WX) (tc : Nat → Prop) (es : List Expr) (f : Str → Loc → Res Str) : Prop :=
  ∃ ts, PJ X es ts ∧ ∀ acc σ H (Q : Str → Hp → Prop), tG W Wx tc ERep (fun _ => True) (f acc) σ H Q → tJs ts acc σ H Q
theorem pj_nil : PJv W X Wx nob [] (fun acc τ => .ok acc τ) := ⟨[], .nil, fun acc σ H Q ⟨τ, own, S, hF⟩ => refl_of (a := acc) S hF ⟨rfl, rfl⟩ trivial⟩
theorem pj_cons (ok : W.Ok) {f : Str → Loc → Res Str} (ha : PEv W X Wx tca Ra e fa) (hs : PJv W X Wx tcb es f) : PJv W X Wx (fun i => tca i ∨ tcb i) (e :: es) (fun acc τ => (toF (fa τ)).bind (jStep acc f)) := by
  obtain ⟨ts, hp, ht⟩ := hs
  refine ⟨_, .cons (pd_of ok ha) hp, fun acc σ H Q h => ?_⟩
  refine a_run (RepA := DRep W) (BA := fun _ => True) (fun _ h => .inl h) h fun τ τ1 own own1 d v H1 M1 S1 r1 b1 st s1 hF => ?_
  unfold jStep at hF
  split at hF
  · rename_i y
    split at hF
    · rename_i hl
      exact ⟨y, r1.2, big_line hl, ht _ σ H1 Q ⟨τ1, own1, S1, Fin.tail st (fun _ h => .inr h) (fun _ h => h) hF⟩⟩
    · exact hF.elim
  · exact hF.elim
theorem v_joined {v1 v2 : Expr} {rest : List Expr} {f : Str → Loc → Res Str} (h : PJv W X Wx tc (v1 :: v2 :: rest) f) : PEv W X Wx tc nob (.JoinedStr (v1 :: v2 :: rest) pos) (fun τ => (f Str.empty τ).bind fun s τ1 => .ok (.pu (.str s)) τ1) := by
  obtain ⟨ts, hp, ht⟩ := h
  refine PE.imp' (pe_joined hp) fun σ H Q h => ht _ σ H _ ?_
  refine a_run (RepA := ERep) (BA := fun _ => True) (fun _ h => h) h fun τ τ1 own own1 d v H1 M1 S1 r1 b1 st s1 hF => ?_
  rw [r1.2]
  exact refl_of' S1 st hF ⟨rfl, rfl⟩ trivial

/-! ### written dicts -/
def ValD : D → Value → Prop
  | .non, v => v = .none
  | .bl b, v => v = .bool b
  | .int i, v => ∃ t, v = .int i t
  | .str s, v => ∃ t, v = .str s t
  | _, _ => False
def ValV : D → V
  | .bl b => .bl b
  | .int i => .int i
  | .str s => .str s
  | _ => .non
theorem val_rel {d : D} {v : Value} (h : ValD d v) : RelV (ValV d) v ∧ ∀ H, RepD W H d (ValV d) := by
  cases d <;> first | exact ⟨h, fun _ => rfl⟩ | exact h.elim
theorem val_rv {d : D} {v : Value} (h : ValD d v) : RelV (ValV d) v := by
  cases d <;> first | exact h | exact h.elim
def Ents : List DictEntry → List D → List D → Prop
  | [], [], [] => True
  | e :: es, .str x :: ks, v :: vs => (∃ t, e.key = .str x t) ∧ ValD v e.val ∧ Ents es ks vs
  | _, _, _ => False
/-- the written dict at a: its keys (texts) and values -/
structure WDict (X : Cx) (a : Addr) (ks vs : List D) : Prop where
  ex : ∃ (es : Array DictEntry) (n : Nat), KDict X.K X.w a es n ∧ Ents es.toList ks vs
  nd : nodupD ks = true
  few : ks.length ≤ 15
theorem ents_find {z : Str} : ∀ {es : List DictEntry} {ks vs : List D} (n : Nat), Ents es ks vs → (((es.find? fun e => Value.isStrOf z e.key).map (·.val)).isSome = ks.any (·.eqb (.str z))) ∧
    ∀ j, keyAt (.str z) ks n = some j → n ≤ j ∧ ∃ u v, (es.find? fun e => Value.isStrOf z e.key).map (·.val) = some u ∧ vs[j - n]? = some v ∧ ValD v u
  | [], [], [], n, _ => ⟨rfl, fun j h => by simp [keyAt] at h⟩
  | e :: es, .str x :: ks, v :: vs, n, h => by
    obtain ⟨⟨t, he⟩, hv, h⟩ := h
    obtain ⟨i1, i2⟩ := ents_find (z := z) (n + 1) h
    have q : Value.isStrOf z e.key = (x == z) := by rw [he] <;> rfl
    have q2 : (D.str x).eqb (.str z) = (x == z) := rfl
    by_cases hx : x = z
    · subst hx
      simp only [beq_self_eq_true] at q q2
      refine ⟨by simp [List.find?_cons, q, q2], fun j hj => ?_⟩
      simp only [keyAt, q2, if_true] at hj
      cases hj
      exact ⟨Nat.le_refl _, e.val, v, by simp [List.find?_cons, q], by simp, hv⟩
    · have hb : (x == z) = false := by simp [hx]
      rw [hb] at q q2
      refine ⟨by simp only [List.find?_cons, q, List.any_cons, q2, Bool.false_or]; exact i1, fun j hj => ?_⟩
      simp only [keyAt, q2] at hj
      obtain ⟨h1, u, w, h2, h3, h4⟩ := i2 j (by simpa using hj)
      refine ⟨by omega, u, w, by simp only [List.find?_cons, q]; exact h2, ?_, h4⟩
      have : j - n = (j - (n + 1)) + 1 := by omega
      rw [this]
      simpa using h3
  | [], _ :: _, _, _, h => by cases h
  | [], [], _ :: _, _, h => by cases h
  | _ :: _, [], _, _, h => by cases h
  | _ :: _, .str _ :: _, [], _, h => by cases h
  | _ :: _, .non :: _, _, _, h => by cases h
  | _ :: _, .bl _ :: _, _, _, h => by cases h
  | _ :: _, .int _ :: _, _, _, h => by cases h
  | _ :: _, .tup _ :: _, _, _, h => by cases h
  | _ :: _, .lst _ :: _, _, _, h => by cases h
  | _ :: _, .dic _ _ :: _, _, _, h => by cases h
  | _ :: _, .obj _ _ _ :: _, _, _, h => by cases h
  | _ :: _, .fn _ :: _, _, _, h => by cases h
  | _ :: _, .clo _ _ :: _, _, _, h => by cases h
theorem findBy_list {z : Str} {es : Array DictEntry} : PySem.findBy Value.isStrOf es z = (es.toList.find? fun e => Value.isStrOf z e.key).map (·.val) := by
  unfold PySem.findBy
  obtain ⟨l⟩ := es
  simp
/-- x in G, x not in G -/
theorem o_inG {g : Addr} {ks vs : List D} (D : WDict X g ks vs) (neg : Bool) : OpR X (compareOp (if neg then .NotIn else .In)) (fun x y H Q => ∃ z : Str, x = .str z ∧ y = .ref g ∧ Q (.bl (if neg then !(ks.any (·.eqb (.str z))) else ks.any (·.eqb (.str z)))) H) := by
  intro pins s σ H x y v u Q I rx ry h
  obtain ⟨z, rfl, rfl, q⟩ := h
  obtain ⟨t, rfl⟩ := rx
  cases ry
  obtain ⟨es, n, KD, he⟩ := D.ex
  have f := (ents_find (z := z) 0 he).1
  rw [← findBy_list] at f
  cases neg with
  | false =>
    refine wpAny_in_of (PySem.strKind_is X.prog X.w z t) KD.low (PySem.W.mapOf_K (prog := X.prog) I.kIn KD.at_ KD.lit) ?_
    rw [f]
    exact ⟨.bl _, H, I.tok _, rfl, q⟩
  | true =>
    refine wpAny_notIn_of (PySem.strKind_is X.prog X.w z t) KD.low (PySem.W.mapOf_K (prog := X.prog) I.kIn KD.at_ KD.lit) ?_
    rw [f]
    exact ⟨.bl _, H, I.tok _, rfl, q⟩
theorem v_inG (ok : W.Ok) {g : Addr} {G : Str} {ks vs : List D} {p2 : Pos} (D : WDict X g ks vs) (neg : Bool) (hg : Gl X G) (hm : X.mg G = some (.ref g)) (hd : (G == ("__debug__" : Str)) = false) (ha : PEv W X Wx tca Ra a fa) (hb : behindInMarks (if neg then .NotIn else .In) (.Name G p2) = false) :
    PEv W X Wx tca nob (.Compare a [if neg then .NotIn else .In] [.Name G p2] pos) (fun τ => (toF (fa τ)).bind fun d τ1 => inGE neg ks d τ1) :=
  PE.imp' (pe_cmpR (o_inG D neg) (pd_of ok ha) (pe_glob (v := .ref g) hg hm rfl hd) hb) fun σ H Q h => a_run (RepA := DRep W) (BA := fun _ => True) (fun _ h => h) h fun τ τ1 own own1 d v H1 M1 S1 r1 b1 st s1 hF => by
    unfold inGE at hF
    split at hF
    · rename_i z
      exact ⟨z, r1.2, rfl, refl_of' S1 st hF ⟨rfl, rfl⟩ trivial⟩
    · exact hF.elim
theorem t_inG (ok : W.Ok) {g : Addr} {G : Str} {ks vs : List D} {p2 : Pos} (D : WDict X g ks vs) (neg : Bool) (hg : Gl X G) (hm : X.mg G = some (.ref g)) (hd : (G == ("__debug__" : Str)) = false) (ha : PEv W X Wx tca Ra a fa) (hb : behindInMarks (if neg then .NotIn else .In) (.Name G p2) = false) :
    PTv W X Wx tca (.Compare a [if neg then .NotIn else .In] [.Name G p2] pos) (fun τ => ((toF (fa τ)).bind fun d τ1 => inGE neg ks d τ1).bind truthE) :=
  PT.imp' (pt_cmpR (o_inG D neg) (pd_of ok ha) (pe_glob (v := .ref g) hg hm rfl hd) hb) fun σ H Q h => by
    simp only [bind_assoc] at h
    refine a_run (RepA := DRep W) (BA := fun _ => True) (fun _ h => h) h fun τ τ1 own own1 d v H1 M1 S1 r1 b1 st s1 hF => ?_
    unfold inGE at hF
    split at hF
    · rename_i z
      refine ⟨z, r1.2, rfl, _, rfl, ?_⟩
      have hF2 : Fin W Wx tca ERep (fun _ => True) τ own σ H Q (.ok (if neg then !(ks.any (·.eqb (.str z))) else ks.any (·.eqb (.str z))) τ1) := hF
      exact refl_of' (Rep := ERep) (B := fun _ => True) (Wx := Wx) (Q := Q) (a := (if neg then !(ks.any (·.eqb (.str z))) else ks.any (·.eqb (.str z)))) S1 st hF2 ⟨rfl, rfl⟩ trivial
    · exact hF.elim
/-- G[x] -/
theorem ix_G {g : Addr} {ks vs : List D} (D : WDict X g ks vs) : IxR X (fun x y H Q => ∃ (z : Str) (j : Nat), x = .ref g ∧ y = .str z ∧ keyAt (.str z) ks 0 = some j ∧ ∀ d, vs[j]? = some d → Q (ValV d) H) := by
  intro value slice pins s σ H x y v u Q I rx ry h hs
  obtain ⟨z, j, rfl, rfl, hj, q⟩ := h
  cases rx
  obtain ⟨t, rfl⟩ := ry
  obtain ⟨es, n, KD, he⟩ := D.ex
  obtain ⟨_, w, d, f1, f2, f3⟩ := (ents_find (z := z) 0 he).2 j hj
  rw [← findBy_list] at f1
  refine PyProof.Rows.tail_any (kd_type KD I) PySem.F.slot_dict_getitem.lookup ?_ hs
  refine wpAny_getItem_of (PySem.strKind_is X.prog X.w z t) (PySem.W.mapOf_K (prog := X.prog) I.kIn KD.at_ KD.lit) f1 ?_
  exact ⟨_, H, I.tok _, val_rv f3, q d (by simpa using f2)⟩
theorem v_idxG (ok : W.Ok) {g : Addr} {G : Str} {ks vs : List D} {p2 : Pos} (D : WDict X g ks vs) (hg : Gl X G) (hm : X.mg G = some (.ref g)) (hd : (G == ("__debug__" : Str)) = false) (ha : PEv W X Wx tca Ra a fa) (hs : PlainIx a) (hv : ∀ d ∈ vs, ∀ H, RepD W H d (ValV d)) :
    PEv W X Wx tca nob (.Subscript (.Name G p2) a pos) (fun τ => (toF (fa τ)).bind fun d τ1 => idxGE ks vs d τ1) :=
  PE.imp' (pe_ix (ix_G D) (pe_glob (v := .ref g) hg hm rfl hd) (pd_of ok ha) hs) fun σ H Q h => a_run (RepA := DRep W) (BA := fun _ => True) (fun _ h => h) h fun τ τ1 own own1 d v H1 M1 S1 r1 b1 st s1 hF => by
    unfold idxGE at hF
    split at hF
    · rename_i z
      split at hF
      · rename_i j hj
        split at hF
        · rename_i d' hd'
          refine ⟨z, j, rfl, r1.2, hj, fun d'' h'' => ?_⟩
          rw [hd'] at h''
          cases h''
          exact refl_of' S1 st hF ⟨rfl, hv _ (List.mem_of_getElem? hd') _⟩ trivial
        · exact hF.elim
      · exact hF.elim
    · exact hF.elim
/-- dict(G) -/
theorem ents_dict {prog : Program} {w : World} : ∀ {es : List DictEntry} {ks vs : List D}, Ents es ks vs → ∃ kvs : List (Key × V), ∃ us : List (Key × Value), ks = kvs.map (fun p => dKey p.1) ∧ (∀ W : Wd, ∀ H, RepDs W H vs (kvs.map (·.2))) ∧ KV kvs us ∧ Pairs (mixKind prog w) es us
  | [], [], [], _ => ⟨[], [], rfl, fun _ _ => rfl, .nil, .nil⟩
  | e :: es, .str x :: ks, v :: vs, h => by
    obtain ⟨⟨t, he⟩, hv, h⟩ := h
    obtain ⟨kvs, us, h1, h2, h3, h4⟩ := ents_dict (prog := prog) (w := w) h
    refine ⟨(.inr x, ValV v) :: kvs, (.inr x, e.val) :: us, by rw [h1] <;> rfl, fun W H => ⟨_, _, rfl, (val_rel (W := W) hv).2 H, h2 W H⟩, .cons ⟨rfl, val_rv hv⟩ h3, .cons (by rw [he]; exact mixKind_str prog w x t) rfl h4⟩
  | [], _ :: _, _, h => by cases h
  | [], [], _ :: _, h => by cases h
  | _ :: _, [], _, h => by cases h
  | _ :: _, .str _ :: _, [], h => by cases h
  | _ :: _, .non :: _, _, h => by cases h
  | _ :: _, .bl _ :: _, _, h => by cases h
  | _ :: _, .int _ :: _, _, h => by cases h
  | _ :: _, .tup _ :: _, _, h => by cases h
  | _ :: _, .lst _ :: _, _, h => by cases h
  | _ :: _, .dic _ _ :: _, _, h => by cases h
  | _ :: _, .obj _ _ _ :: _, _, h => by cases h
  | _ :: _, .fn _ :: _, _, h => by cases h
  | _ :: _, .clo _ _ :: _, _, h => by cases h
theorem call_dictG {g : Addr} {ks vs : List D} (D : WDict X g ks vs) : CallR X (.type "dict") (fun xs H Q => xs = [.ref g] ∧ ∀ p kvs, H p = none → ks = List.map (fun p : Key × V => dKey p.1) kvs → (∀ W : Wd, ∀ H, RepDs W H vs (kvs.map (·.2))) → Q (.ref p) (upd H p (.dK kvs))) := by
  intro pins s σ H xs us Q I r q
  obtain ⟨ex, q⟩ := q
  subst ex
  obtain ⟨u, eu, rx⟩ := vals1 r
  subst eu
  cases rx
  obtain ⟨es, n, KD, he⟩ := D.ex
  obtain ⟨kvs, vs', h1, h2, rel, hp⟩ := ents_dict (prog := X.prog) (w := X.w) he
  have hn : (vs'.map (·.1)).Nodup := by
    have : vs'.map (·.1) = kvs.map (·.1) := rel.keys.symm
    rw [this]
    have nd := D.nd
    rw [h1] at nd
    have e2 : kvs.map (fun p => dKey p.1) = (kvs.map (·.1)).map dKey := by rw [List.map_map]; rfl
    rw [e2] at nd
    exact key_nodup nd
  have dd : s.heap.DictOf (mixKind X.prog X.w) g vs' := ⟨_, es, n, I.kIn _ _ KD.at_, ⟨rfl, rfl, rfl⟩, rfl, fun e he => by
    obtain ⟨x, t, e1, e2⟩ := KD.lit.all e (Array.mem_toList_iff.mpr he)
    exact ⟨.inr x, by rw [e1]; exact mixKind_str X.prog X.w x t, e2⟩, hp, hn⟩
  have z : vs'.length ≤ sizeLine := by
    rw [← rel.length]
    have e3 := D.few
    rw [h1, List.length_map] at e3
    rw [sizeLine_eq]
    omega
  have hz : kvs.length ≤ sizeLine := by rw [rel.length]; exact z
  refine kt_call_dict KD.low dd z fun h' d' hs => ?_
  have hm : (s.heap.objs.size == sysModules) = false := beq_eq_false_iff_ne.mpr (Nat.ne_of_gt I.big)
  exact ⟨.ref s.heap.objs.size, upd H s.heap.objs.size (.dK kvs), I.laid (t' := s.toks) (fun b u e => (hs.2 b (Nat.ne_of_lt (Heap.lt_size e))).trans (Heap.get?_push_of_some _ e)) (Nat.le_refl _)
    (show ObjOk X.prog X.w _ _ _ (.dK kvs) from ⟨hz, hm, vs', rel, d'⟩), rfl, q _ kvs (I.hok.fresh (Nat.le_refl _)) h1 h2⟩
theorem v_kd (ok : W.Ok) {g : Addr} {G : Str} {ks vs : List D} {p2 : Pos} (D : WDict X g ks vs) (hgd : Gl X "dict") (hmd : X.mg "dict" = none) (hg : Gl X G) (hm : X.mg G = some (.ref g)) (hd : (G == ("__debug__" : Str)) = false) (hs : starEach [.Name G p2] X.env = (false, eval (.Name G p2) X.env) :: starEach [] X.env) :
    PEv W X Wx nob nob (.Call (.Name "dict" p) [.Name G p2] [] pos) (fun τ => .ok (.fr (.dic ks (vs.map .pu))) τ) :=
  PE.imp' (pe_callTy (call_dictG D) hgd hmd rfl (pa_cons (pe_glob (v := .ref g) hg hm rfl hd) pa_nil hs) (by decide) (by decide) hs rfl) fun σ H Q ⟨τ, own, S, hF⟩ => ⟨rfl, fun p kvs hp h1 h2 =>
    Fin.done (R := nob) ok hF S Stp.refl (same_new hp) (v := .ref p) (M := [p]) ⟨⟨p, kvs, [], rfl, rfl, upd_same, h1, RepCs.pu (h2 W _)⟩, by simp⟩ (fresh1 hp)⟩
end
end DE
end
section
set_option Elab.async false
set_option linter.all false
set_option maxRecDepth 100000
set_option maxHeartbeats 2000000
/-! DE18: statements' ends; targets. -/
namespace DE
open PySem L2 PySem.SeqAt PyProof.Rows

/-- what a statement may have changed: tc the slots whose things may have, ag those that may hold another value -/
def StpS (tc ag : Nat → Prop) (τ : Loc) (own : Own) (σ : L2.St) (H : Hp) (τ' : Loc) (own' : Own) (σ' : L2.St) (H' : Hp) : Prop := Stp tc τ own H τ' own' H' ∧ σ'.length = σ.length ∧ ∀ i, ¬ ag i → σ'[i]? = σ[i]?
section
variable {W : Wd} {X : Cx} {Wx : WX} {tc tc' ag ag' tca tcb aga agb R : Nat → Prop} {τ τ1 τ2 : Loc} {own own1 own2 : Own} {σ σ1 σ2 : L2.St} {H H1 H2 : Hp} {e : Expr} {es : List Expr} {pos : Pos}
theorem StpS.refl : StpS tc ag τ own σ H τ own σ H := ⟨Stp.refl, rfl, fun _ _ => rfl⟩
theorem StpS.trans (x : StpS tc ag τ own σ H τ1 own1 σ1 H1) (y : StpS tc ag τ1 own1 σ1 H1 τ2 own2 σ2 H2) : StpS tc ag τ own σ H τ2 own2 σ2 H2 := ⟨x.1.trans y.1, y.2.1.trans x.2.1, fun i h => (y.2.2 i h).trans (x.2.2 i h)⟩
theorem StpS.mono (x : StpS tc ag τ own σ H τ1 own1 σ1 H1) (h : ∀ i, tc i → tc' i) (h' : ∀ i, ag i → ag' i) : StpS tc' ag' τ own σ H τ1 own1 σ1 H1 := ⟨x.1.mono h, x.2.1, fun i n => x.2.2 i fun z => n (h' i z)⟩
theorem StpS.of (x : Stp tc τ own H τ1 own1 H1) : StpS tc ag τ own σ H τ1 own1 σ H1 := ⟨x, rfl, fun _ _ => rfl⟩
/-- a slot stored to -/
theorem SRep.put (S : SRep W τ σ H own) {i : Nat} {c : C} {v : V} {M : List Addr} (r : RepC W H c v M) (nd : M.Nodup) (dj : ∀ j b, b ∈ M → b ∈ own j → False) : SRep W (τ.set i c) (σ.set i (some v)) H (fun j => if j = i then (if i < τ.length then M else []) else own j) := by
  refine ⟨fun j => ?_, fun j => ?_, fun j k b n hb hc => ?_, S.tb, by have := S.ln; simpa using this⟩
  · try dsimp only
    rw [look_set]
    by_cases h : j = i
    · subst h
      rw [if_pos rfl]
      by_cases l : j < τ.length
      · rw [if_pos ⟨rfl, l⟩, if_pos l]
        exact .inr ⟨v, by rw [List.getElem?_set_self (Nat.lt_of_lt_of_le l S.ln)], r⟩
      · rw [if_neg fun z => l z.2, if_neg l]
        refine .inl ⟨?_, rfl⟩
        exact Classical.byContradiction fun z => l (look_lt z)
    · rw [if_neg fun z => h z.1.symm, if_neg h]
      refine (S.at_ j).imp (fun h => h) fun ⟨w, e, r⟩ => ⟨w, by rw [List.getElem?_set_ne fun z => h z.symm]; exact e, r⟩
  · try dsimp only
    by_cases h : j = i
    · rw [if_pos h]
      split
      · exact nd
      · simp
    · rw [if_neg h]
      exact S.nd j
  · try dsimp only at hb hc
    by_cases h : j = i
    · rw [if_pos h] at hb
      by_cases h' : k = i
      · exact n (h.trans h'.symm)
      · rw [if_neg h'] at hc
        split at hb
        · exact dj k b hb hc
        · cases hb
    · rw [if_neg h] at hb
      by_cases h' : k = i
      · rw [if_pos h'] at hc
        split at hc
        · exact dj j b hc hb
        · cases hc
      · rw [if_neg h'] at hc
        exact S.dj j k b n hb hc
theorem Stp.put {τ0 : Loc} {own0 : Own} {H0 : Hp} (st : Stp tc τ0 own0 H0 τ own H) {i : Nat} {c : C} {M : List Addr} (hi : tc i) (sr : Src tc own0 H0 M) : Stp tc τ0 own0 H0 (τ.set i c) (fun j => if j = i then (if i < τ.length then M else []) else own j) H :=
  ⟨st.fr, st.dom, fun j hj => by
    have n : j ≠ i := fun z => hj (z ▸ hi)
    try dsimp only
    rw [if_neg n, look_set, if_neg fun z => n z.1.symm]
    exact st.un j hj, fun j b hj hb => by
    try dsimp only at hb
    by_cases h : j = i
    · rw [if_pos h] at hb
      split at hb
      · exact sr b hb
      · cases hb
    · rw [if_neg h] at hb
      exact st.src j b hj hb⟩
theorem set_off {σ : L2.St} {i : Nat} {v : Option V} : (σ.set i v).length = σ.length ∧ ∀ j, ¬ j = i → (σ.set i v)[j]? = σ[j]? := ⟨by simp, fun j h => List.getElem?_set_ne fun z => h z.symm⟩

/-! ### targets -/
mutual
def Tg.nm : Tg → Nat → Prop
  | .n i, j => j = i
  | .t ts, j => ts.nm j
  | .f _ _, _ => False
def Tgs.nm : Tgs → Nat → Prop
  | .nil, _ => False
  | .cons t ts, j => t.nm j ∨ ts.nm j
end
mutual
def Tg.tc : Tg → Nat → Prop
  | .n i, j => j = i
  | .t ts, j => ts.tc j
  | .f i _, j => j = i
def Tgs.tc : Tgs → Nat → Prop
  | .nil, _ => False
  | .cons t ts, j => t.tc j ∨ ts.tc j
end
def gTv (W : Wd) (t : Tg) : TG := fun v σ H Q => ∃ τ own d τ', SRep W τ σ H own ∧ RepD W H d v ∧ asgT t d τ = some τ' ∧ ∀ σ' H' own', SRep W τ' σ' H' own' → StpS t.tc t.nm τ own σ H τ' own' σ' H' → Q σ' H'
def gTsv (W : Wd) (t : Tgs) : TGs := fun vs σ H Q => ∃ τ own ds τ', SRep W τ σ H own ∧ RepDs W H ds vs ∧ asgTs t ds τ = some τ' ∧ ∀ σ' H' own', SRep W τ' σ' H' own' → StpS t.tc t.nm τ own σ H τ' own' σ' H' → Q σ' H'
abbrev PGv (W : Wd) (X : Cx) (e : Expr) (t : Tg) : Prop := PG X e (gTv W t)
abbrev PGsv (W : Wd) (X : Cx) (es : List Expr) (t : Tgs) : Prop := PGs X es (gTsv W t)
theorem PG.imp' {g g' : TG} (h : PG X e g) (hi : ∀ v σ H Q, g' v σ H Q → g v σ H Q) : PG X e g' := ⟨fun pins s σ H v u Q I r q => h.run pins s σ H v u Q I r (hi v σ H Q q)⟩
theorem PGs.imp' {g g' : TGs} (h : PGs X es g) (hi : ∀ v σ H Q, g' v σ H Q → g v σ H Q) : PGs X es g' := ⟨fun pins s σ H v u Q I r q => h.run pins s σ H v u Q I r (hi v σ H Q q)⟩
theorem g_n {i : Nat} {x : Str} (hN : X.N.Nodup) (hi : X.N[i]? = some x) (hx : L2.Loc X.env.scope x) (hf : X.fn x = true ∨ X.env.scope.names.lookup x = some .local) : PGv W X (.Name x pos) (.n i) :=
  PG.imp' (pg_name hN hi hx hf) fun v σ H Q ⟨τ, own, d, τ', S, r, e, k⟩ => by
    simp only [asgT, Option.some.injEq] at e
    subst e
    exact k _ H _ (S.put (i := i) (c := .pu d) (M := []) ⟨rfl, r⟩ (by simp) (fun j b hb => by cases hb)) ⟨Stp.put Stp.refl rfl (fun b hb => by cases hb), (set_off).1, (set_off).2⟩
theorem g_nil : PGsv W X [] .nil := PGs.imp' pgs_nil fun v σ H Q ⟨τ, own, ds, τ', S, r, e, k⟩ => by
  cases ds with
  | nil =>
    simp only [asgTs, Option.some.injEq] at e
    subst e
    exact ⟨r, k _ _ _ S StpS.refl⟩
  | cons d ds => simp [asgTs] at e
theorem g_cons (ok : W.Ok) {t : Tg} {ts : Tgs} (h1 : PGv W X e t) (h2 : PGsv W X es ts) (hs : (assignEach (e :: es) X.env).map (·.2) = assign e X.env :: (assignEach es X.env).map (·.2)) : PGsv W X (e :: es) (.cons t ts) :=
  PGs.imp' (pgs_cons h1 h2 hs) fun v σ H Q ⟨τ, own, ds, τ', S, r, e, k⟩ => by
    cases ds with
    | nil => simp [asgTs] at e
    | cons d ds =>
      obtain ⟨v, vs, rfl, r1, r2⟩ := r
      simp only [asgTs, Option.bind_eq_some_iff] at e
      obtain ⟨τ1, e1, e2⟩ := e
      refine ⟨v, vs, rfl, τ, own, d, τ1, S, r1, e1, fun σ1 H1 own1 S1 st1 => ⟨τ1, own1, ds, τ', S1, RepDs.keep ok (st1.1.keeps S) _ _ r2, e2, fun σ2 H2 own2 S2 st2 => k σ2 H2 own2 S2 ((st1.mono (fun _ h => .inl h) fun _ h => .inl h).trans (st2.mono (fun _ h => .inr h) fun _ h => .inr h))⟩⟩
def Tgs.len : Tgs → Nat
  | .nil => 0
  | .cons _ ts => ts.len + 1
theorem asgTs_size : ∀ {ts : Tgs} {ds : List D} {τ τ' : Loc}, asgTs ts ds τ = some τ' → ds.length = ts.len
  | .nil, [], _, _, _ => rfl
  | .nil, _ :: _, _, _, h => by simp [asgTs] at h
  | .cons _ _, [], _, _, h => by simp [asgTs] at h
  | .cons t ts, d :: ds, _, _, h => by
    simp only [asgTs, Option.bind_eq_some_iff] at h
    obtain ⟨_, _, h2⟩ := h
    simp [Tgs.len, asgTs_size h2]
theorem g_t {ts : Tgs} {k : Nat} (hc : X.calm = true) (h : PGsv W X es ts) (hn : (assignEach es X.env).length = ts.len) (hst : (assignEach es X.env).findIdx? (·.1) = none) : PGv W X (.Tuple es k pos) (.t ts) :=
  PG.imp' (pg_tup hc h hn hst) fun v σ H Q ⟨τ, own, d, τ', S, r, e, k⟩ => by
    cases d with
    | tup ds =>
      simp only [asgT] at e
      obtain ⟨a, vs, rfl, h1, h2⟩ := r
      exact ⟨a, vs, rfl, .inl (.inl h1), by rw [RepDs.length h2, asgTs_size e], τ, own, ds, τ', S, h2, e, k⟩
    | _ => simp [asgT] at e
/-! fields -/
theorem putN_map {f : Str} {y : V} {c : C} : ∀ {fs : List (Str × V)} {cs : List C}, fs.length = cs.length → (putN f c (fs.map (·.1)) cs).1 = (putF f y fs).map (·.1)
  | [], [], _ => rfl
  | [], _ :: _, h => by simp at h
  | _ :: _, [], h => by simp at h
  | p :: fs, d :: cs, h => by
    obtain ⟨p1, p2⟩ := p
    have ih := putN_map (f := f) (y := y) (c := c) (fs := fs) (cs := cs) (by simpa using h)
    simp only [List.map_cons, putN]
    by_cases e : p1 = f
    · subst e
      simp [putF]
    · simp only [if_neg e, List.map_cons, ih]
      simp [putF, e]
theorem putN_rep {f : Str} {y : V} {c : C} {Mc : List Addr} (rc : RepC W H c y Mc) (ndc : Mc.Nodup) : ∀ {fs : List (Str × V)} {cs : List C} {M : List Addr}, RepCs W H cs (fs.map (·.2)) M → M.Nodup → (∀ b ∈ M, b ∉ Mc) →
    ∃ M', RepCs W H (putN f c (fs.map (·.1)) cs).2 ((putF f y fs).map (·.2)) M' ∧ M'.Nodup ∧ ∀ b ∈ M', b ∈ M ∨ b ∈ Mc
  | [], [], M, r, nd, dj => ⟨Mc, ⟨y, [], Mc, [], rfl, by simp, rc, ⟨rfl, rfl⟩⟩, ndc, fun b hb => .inr hb⟩
  | [], d :: cs, M, r, nd, dj => by
    obtain ⟨v, q, M1, M2, e, _⟩ := r
    cases e
  | p :: fs, [], M, r, nd, dj => by
    obtain ⟨e, _⟩ := r
    cases e
  | p :: fs, d :: cs, M, r, nd, dj => by
    obtain ⟨p1, p2⟩ := p
    obtain ⟨v, q, M1, M2, e, rfl, h1, h2⟩ := r
    simp only [List.map_cons, List.cons.injEq] at e
    obtain ⟨rfl, rfl⟩ := e
    obtain ⟨n1, n2, n3⟩ := List.nodup_append.mp nd
    by_cases e : p1 = f
    · subst e
      simp only [List.map_cons, putN, putF, if_true]
      refine ⟨Mc ++ M2, ⟨y, _, Mc, M2, rfl, rfl, rc, h2⟩, List.nodup_append.mpr ⟨ndc, n2, fun a ha b hb z => dj b (by simp [hb]) (z ▸ ha)⟩, fun b hb => ?_⟩
      rcases List.mem_append.mp hb with hb | hb
      · exact .inr hb
      · exact .inl (by simp [hb])
    · obtain ⟨M', q1, q2, q3⟩ := putN_rep rc ndc h2 n2 fun b hb => dj b (by simp [hb])
      simp only [List.map_cons, putN, putF, if_neg e]
      refine ⟨M1 ++ M', ⟨p2, _, M1, M', rfl, rfl, h1, q1⟩, List.nodup_append.mpr ⟨n1, q2, fun a ha b hb z => ?_⟩, fun b hb => ?_⟩
      · subst z
        rcases q3 a hb with hb | hb
        · exact n3 a ha a hb rfl
        · exact dj a (by simp [ha]) hb
      · rcases List.mem_append.mp hb with hb | hb
        · exact .inl (by simp [hb])
        · rcases q3 b hb with hb | hb
          · exact .inl (by simp [hb])
          · exact .inr hb
/-- a field of what is lent is stored to -/
theorem fld_put (ok : W.Ok) {τ0 : Loc} {own0 : Own} {H0 : Hp} {i : Nat} {ph : List Sp} {k : Nat} {ns : List Str} {cs : List C} {v y : V} {M Mc : List Addr} {f : Str} {c : C} (S : SRep W τ σ H own) (r : RvRep W τ σ H own (.bo i ph (.obj k ns cs)) v M) (st : Stp tc τ0 own0 H0 τ own H) (hi : tc i)
    (rc : RepC W H c y Mc) (ndc : Mc.Nodup) (djc : ∀ j b, b ∈ Mc → b ∈ own j → False) (sr : Src tc own0 H0 Mc) (hf : ∀ k, f ∈ W.flds k) (hl : cs.length < 900) :
    ∃ a dx fs, v = .ref a ∧ H a = some (.ins (W.cls k) dx fs) ∧ fs.length < 1000 ∧ ∃ own', SRep W (τ.set i ((look τ i).set ph (.obj k (putN f c ns cs).1 (putN f c ns cs).2))) σ (upd H a (.ins (W.cls k) dx (putF f y fs))) own' ∧
      Stp tc τ0 own0 H0 (τ.set i ((look τ i).set ph (.obj k (putN f c ns cs).1 (putN f c ns cs).2))) own' (upd H a (.ins (W.cls k) dx (putF f y fs))) := by
  obtain ⟨vi, Mo, N1, N2, q1, q2, q3, q4⟩ := S.bo ok r
  obtain ⟨a, dx, fs, M', rfl, rfl, ha, hns, hfl, hcs⟩ := q3
  have lf : fs.length = cs.length := by have := RepCs.length hcs; simpa using this
  refine ⟨a, dx, fs, rfl, ha, by omega, ?_⟩
  have kk : Keeps H (upd H a (.ins (W.cls k) dx (putF f y fs))) := upd_keeps ha trivial
  refine put_bo ok S r st hi kk (tabs_mu S.tb fun b o eb nm => ?_) (fun b hb => ?_) fun Mx rx ndx inx => ?_
  · rw [upd_ne]
    · exact eb
    · rintro rfl
      rw [ha] at eb
      cases eb
      exact nm trivial
  · by_cases z : b = a
    · rw [z, upd_same]
      simp
    · rw [upd_ne z]
      exact hb
  · obtain ⟨a', dx', fs', Mx', e1, rfl, ha', hns', hfl', hcs'⟩ := rx
    cases e1
    rw [ha] at ha'
    cases ha'
    obtain ⟨na, ndx'⟩ := List.nodup_cons.mp ndx
    obtain ⟨Mn, g1, g2, g3⟩ := putN_rep (f := f) rc ndc hcs' ndx' fun b hb hc => djc i b hc (inx b (by simp [hb]))
    have aM : a ∉ Mn := fun z => by
      rcases g3 a z with z | z
      · exact na z
      · exact djc i a z (inx a (by simp))
    refine ⟨a :: Mn, ⟨a, dx, putF f y fs, Mn, rfl, rfl, upd_same, ?_, fun n hn => ?_, ?_⟩, List.nodup_cons.mpr ⟨aM, g2⟩, fun b hb _ => upd_ne fun z => hb (by simp [z]), fun b hb => ?_⟩
    · rw [hns]
      exact putN_map lf
    · rw [hns, putN_map (y := y) lf] at hn
      obtain ⟨p, hp, rfl⟩ := List.mem_map.mp hn
      have : ∀ l : List (Str × V), p ∈ putF f y l → p.1 = f ∨ p.1 ∈ l.map (·.1) := fun l => by
        induction l with
        | nil =>
          intro h
          have : p = (f, y) := by simpa [putF] using h
          rw [this]
          exact .inl rfl
        | cons q l ih =>
          obtain ⟨q1, q2⟩ := q
          intro h
          simp only [putF] at h
          split at h
          · rename_i e
            rcases List.mem_cons.mp h with h | h
            · rw [h]
              exact .inl e
            · exact .inr (List.mem_map.mpr ⟨p, by simp [h], rfl⟩)
          · rcases List.mem_cons.mp h with h | h
            · rw [h]
              exact .inr (by simp)
            · rcases ih h with h | h
              · exact .inl h
              · exact .inr (by simp only [List.map_cons, List.mem_cons]; exact .inr h)
      rcases this fs hp with h | h
      · rw [h]
        exact hf k
      · exact hfl p.1 (by rw [hns]; exact h)
    · rw [hns]
      exact RepCs.keep ok kk _ _ _ (fun b hb => upd_ne fun z => aM (z ▸ hb)) g1
    · rcases List.mem_cons.mp hb with z | hb
      · exact .inl (by simp [z])
      · rcases g3 b hb with z | z
        · exact .inl (by simp [z])
        · exact .inr ⟨fun j hj => djc j b z hj, sr b z⟩
/-- self.f as a target -/
theorem g_f (ok : W.Ok) (wc : W.Cls) (hK : X.K = W.K) {i : Nat} {x : Str} {f : Str} {p2 : Pos} (hN : X.N[i]? = some x) (hv : Vis X.env.scope x) (hd : (x == ("__debug__" : Str)) = false) (hcd : (x == ("__classdict__" : Str)) = false) (hf : ∀ k, f ∈ W.flds k) : PGv W X (.Attribute (.Name x p2) f pos) (.f i f) := by
  refine ⟨fun pins s σ H v u Q I ru ⟨τ, own, d, τ', S, r, e, k⟩ => ?_⟩
  simp only [asgT] at e
  cases hc : look τ i with
  | obj kk ns cs =>
    rw [hc] at e
    simp only [Option.ite_none_right_eq_some, Option.some.injEq] at e
    obtain ⟨hl, rfl⟩ := e
    rcases S.at_ i with ⟨z, _⟩ | ⟨vi, ei, ri⟩
    · rw [hc] at z
      cases z
    · have rb : RvRep W τ σ H own (.bo i [] (.obj kk ns cs)) vi [] := ⟨rfl, vi, ei, rfl, by simp [C.get, hc], rfl, by simp⟩
      obtain ⟨a, dx, fs, rfl, ha, hl2, own', S', st'⟩ := fld_put (tc := fun j => j = i) (f := f) (c := .pu d) (y := v) (Mc := []) ok S rb Stp.refl rfl ⟨rfl, r⟩ (by simp) (fun j b hb => by cases hb) (fun b hb => by cases hb) hf hl
      refine PySem.W.kas_attr (thn ((pe_var (pos := p2) hN hv hd hcd).run pins s σ H (fun v' H1 => v' = V.ref a ∧ H1 = H) I ⟨_, ei, rfl, rfl⟩) fun ov s1 ⟨v', H1, I1, r1, e1, e2⟩ => ?_)
      subst e1 e2
      obtain rfl : ov = Value.ref a := r1
      obtain ⟨cl, na⟩ := wc kk f (hf kk)
      refine setattr_ok I1 ha (by rw [hK]; exact cl) (by rw [hK]; exact na) hl2 ru fun s3 I3 => ⟨σ, _, I3, k σ _ own' ?_ ⟨?_, rfl, fun _ _ => rfl⟩⟩
      · simpa [C.set] using S'
      · have e5 : (Tg.f i f).tc = fun j => j = i := rfl
        rw [e5]
        simpa [C.set] using st'
  | _ =>
    rw [hc] at e
    simp at e
end
end DE
end
section
set_option Elab.async false
set_option linter.all false
set_option maxRecDepth 100000
set_option maxHeartbeats 2000000
/-! DE19: zip of a tuple and a text, enumerate of a tuple. -/
namespace DE
open PySem L2 PySem.SeqAt PyProof.Rows

/-- zip of the tuple at a and the text x -/
def Izt (K : PySem.W.Frag) (a : Addr) (x : Str) : It :=
  ⟨fun i H => ∃ xs : List V, SqT K H a xs ∧ i < xs.length ∧ i < x.cps.size, fun i H v H' => ∃ T y c, v = .ref T ∧ H T = none ∧ H' = upd H T (.tup [y, .str ⟨#[c]⟩]) ∧ (∀ xs, SqT K H a xs → xs[i]? = some y) ∧ x.cps[i]? = some c,
    fun i H => ∃ xs : List V, SqT K H a xs ∧ i = min xs.length x.cps.size⟩
theorem turn_zt {P : Program} {w : World} {K : PySem.W.Frag} {elts : List Expr} {kk : Nat} {tpos : Pos} {a z TI TO i1 i2 : Addr} {x : Str} {t : Tok} (S : ZipSep2 z TI TO i1 i2 [i1, a] [i2]) (hne : a ≠ i1) :
    Turn P w K (.Tuple elts kk tpos) (Izt K a x) [z, TI, TO, i1, i2] z (fun i h => IsZip h z TI TO .none ∧ IsTupOf2 h TI (.ref i1) (.ref i2) ∧ (∃ x y, IsTupOf2 h TO x y) ∧ h.IsTupleIter i1 a i ∧ h.IsStrIter i2 (strIterType x) x t i) where
  mem := by simp
  obj := fun i h st c hc => by
    obtain ⟨hz, hTI, ⟨x, y, hTO⟩, ⟨o1, e1, _, d1⟩, ⟨o2, e2, _, d2⟩⟩ := st
    have e' : c = z ∨ c = TI ∨ c = TO ∨ c = i1 ∨ c = i2 := by simpa using hc
    rcases e' with q | q | q | q | q
    · rw [q]; exact ⟨_, hz, fun v q => nomatch q⟩
    · rw [q]; exact ⟨_, hTI, fun v q => nomatch q⟩
    · rw [q]; exact ⟨_, hTO, fun v q => nomatch q⟩
    · rw [q]; exact ⟨o1, e1, fun v q => by rw [d1] at q; cases q⟩
    · rw [q]; exact ⟨o2, e2, fun v q => by rw [d2] at q; cases q⟩
  keep := fun i h h' st k => by
    obtain ⟨hz, hTI, ⟨x, y, hTO⟩, h1, ⟨o2, e2, r2⟩⟩ := st
    exact ⟨k z (by simp) _ hz, k TI (by simp) _ hTI, ⟨x, y, k TO (by simp) _ hTO⟩, h1.at fun o q => k i1 (by simp) o q, ⟨o2, k i2 (by simp) _ e2, r2⟩⟩
  item := by
    intro X hP hw hK hc i pins s σ H E I hf st hg
    subst hP hw hK
    obtain ⟨xs, hq, hx1, hx2⟩ := hg
    obtain ⟨its, rv, p, _⟩ := I.tuple hq
    have hh := I.ok.hd hc
    have D1 := Draws.tuple (prog := X.prog) (w := X.w) (A := X.A.in1) hh i1 a hne its.toArray
    have D2 := Draws.text (prog := X.prog) (w := X.w) (A := X.A.in1) hh i2 x t
    have W := GoesN.zip2 (elts := elts) (x1 := kk) (pos := tpos) S D1 D2
    have hl := rv.length
    obtain ⟨s1, s2, s3, s4, s5⟩ := st
    refine W.goes i s _ E (by simp; omega) ⟨s1, s2, s3, ⟨s4, p⟩, s5⟩ fun v h' tk hY st' hk htk => ?_
    obtain ⟨T, xv, yv, rfl, hT, hx, ⟨c, u, hcx, rfl⟩, hTt⟩ := hY
    obtain ⟨s1', s2', s3', ⟨s4', _⟩, s5'⟩ := st'
    have hxv : its[i]? = some xv := by simpa using hx
    obtain ⟨y, hy, ry⟩ : ∃ y, xs[i]? = some y ∧ RelV y xv := by
      have h1 : xs[i]? = some xs[i] := by simp [hx1]
      obtain ⟨u', hu', ru'⟩ := rv.get h1
      rw [hxv] at hu'
      cases hu'
      exact ⟨_, h1, ru'⟩
    have new : ObjOk X.prog X.w (upd H T (.tup [y, .str ⟨#[c]⟩])) h' T (.tup [y, .str ⟨#[c]⟩]) := by
      obtain ⟨o, ho, hoc, n, hod⟩ := hTt
      exact ⟨by show 2 ≤ sizeLine; decide, [xv, .str ⟨#[c]⟩ u], .cons ry (.cons ⟨_, rfl⟩ .nil), ⟨o, ho, hoc, n, hod⟩⟩
    have I1 : Inv X pins σ (upd H T (.tup [y, .str ⟨#[c]⟩])) { s with heap := h', toks := tk } := I.turnedNew (ch := [z, TI, TO, i1, i2]) (fun b o hb q => hk b o (fun q' => hb (by
      have e' : b = z ∨ b = TO ∨ b = i1 ∨ b = i2 := by simpa using q'
      rcases e' with q | q | q | q <;> simp [q])) q) hf hT new
    refine ⟨.ref T, _, I1, rfl, ⟨T, y, c, rfl, I.hok.fresh hT, rfl, fun l hl => by rw [I.tuple_inj hl hq]; exact hy, hcx⟩, ⟨s1', s2', s3', s4', s5'⟩, fun b hb => ?_⟩
    have hlt : b < s.heap.objs.size := by
      have e' : b = z ∨ b = TI ∨ b = TO ∨ b = i1 ∨ b = i2 := by simpa using hb
      obtain ⟨xx, yy, s3⟩ := s3
      rcases e' with q | q | q | q | q
      · rw [q]; exact Heap.lt_size s1
      · rw [q]; exact Heap.lt_size s2
      · rw [q]; exact Heap.lt_size s3
      · rw [q]; obtain ⟨_, e1, _⟩ := s4; exact Heap.lt_size e1
      · rw [q]; obtain ⟨_, e1, _⟩ := s5; exact Heap.lt_size e1
    rw [upd_ne (Nat.ne_of_lt (Nat.lt_of_lt_of_le hlt hT))]
    exact (hf b hb).1
  done := by
    intro X hP hw hK hc i pins s σ H E I hf st hg
    subst hP hw hK
    obtain ⟨xs, hq, hx⟩ := hg
    obtain ⟨its, rv, p, _⟩ := I.tuple hq
    have hh := I.ok.hd hc
    have hl := rv.length
    have D1 := Draws.tuple (prog := X.prog) (w := X.w) (A := X.A.in1) hh i1 a hne its.toArray
    have D2 := Draws.text (prog := X.prog) (w := X.w) (A := X.A.in1) hh i2 x t
    have W := GoesN.zip2 (elts := elts) (x1 := kk) (pos := tpos) S D1 D2
    obtain ⟨s1, s2, s3, s4, s5⟩ := st
    have hi : i = min its.toArray.size x.cps.size := by simp; omega
    subst hi
    exact W.stops s (fun s1 => Inv X pins σ H s1) E ⟨s1, s2, s3, ⟨s4, p⟩, s5⟩ fun h' tk hk htk => I.turnedL (ch := [z, TI, TO, i1, i2]) (fun b o hb q => hk b o (fun q' => hb (by
      have e' : b = z ∨ b = TO ∨ b = i1 ∨ b = i2 := by simpa using q'
      rcases e' with q | q | q | q <;> simp [q])) q) hf
  self := fun A i s Q E st h => wpAny_pyIter_zip st.1 h
def iZt (K : PySem.W.Frag) (ta : TA) : TI := fun σ H R => ta σ H fun vs H1 => ∃ a x, vs = [.ref a, .str x] ∧ (∃ xs, SqT K H1 a xs) ∧ R (Izt K a x) H1
theorem pi_zt {X : Cx} {e e2 : Expr} {ta : TA} {p pos tpos : Pos} {elts : List Expr} {kk : Nat} (hg : Gl X "zip") (hm : X.mg "zip" = none) (ha : PA X [e, e2] ta)
    (hs : starEach [e, e2] X.env = (false, eval e X.env) :: starEach [e2] X.env) (hpl : (PySem.backTo pos (starEach [e2] X.env)).any (·.1) = false) :
    PI X (.Tuple elts kk tpos) (.Call (.Name "zip" p) [e, e2] [] pos) (iZt X.K ta) := by
  refine ⟨fun pins s σ H R I h => ?_⟩
  refine Call_ (ld_blt I hg hm PyProof.Rows.boot_zip (PyProof.Rows.callWith_type1 (thn (ha.run pos pins s σ H _ I h) fun us s1 ⟨vs, H1, I1, r1, q1⟩ => ?_) hs hpl))
  obtain ⟨a, x, ex, ⟨xs, hqx⟩, q⟩ := q1
  subst ex
  cases r1 with
  | cons r rr =>
    cases rr with
    | cons r' rr =>
      cases rr
      cases r
      obtain ⟨t, rfl⟩ := r'
      obtain ⟨its, rv, p1, _⟩ := I1.tuple hqx
      have p1' : s1.heap.IsTuple a its.toArray := p1
      have la : a < s1.heap.objs.size := by obtain ⟨o, e1, _⟩ := p1'; exact Heap.lt_size e1
      refine zip_begins2 (begins_tuple a its.toArray) (begins_text x t) p1' trivial fun h' hz hTI hTO h1 h2 hsz hk => wpAny_pyIter_zip hz ?_
      have I2 : Inv X pins σ H1 { s1 with heap := h' } := I1.kept (t' := s1.toks) hk
      refine ⟨s1.heap.objs.size + 4, [s1.heap.objs.size + 4, s1.heap.objs.size + 2, s1.heap.objs.size + 3, s1.heap.objs.size, s1.heap.objs.size + 1], _, _, H1, rfl, I2, turn_zt (x := x) (t := t) (zip_sep2 (fp1 := [a]) (fp2 := []) (fun b hb => by
        have : b = a := by simpa using hb
        rw [this]; exact la) (fun b hb => by cases hb)) (Nat.ne_of_lt la), ⟨hz, hTI, ⟨_, _, hTO⟩, ⟨_, h1, rfl, rfl⟩, ⟨_, h2, rfl, rfl⟩⟩, fun c hcm => ?_, q⟩
      have e' : c = s1.heap.objs.size + 4 ∨ c = s1.heap.objs.size + 2 ∨ c = s1.heap.objs.size + 3 ∨ c = s1.heap.objs.size ∨ c = s1.heap.objs.size + 1 := by simpa using hcm
      have hle : s1.heap.objs.size ≤ c := by
        rcases e' with z | z | z | z | z
        · rw [z]; exact Nat.le_add_right _ _
        · rw [z]; exact Nat.le_add_right _ _
        · rw [z]; exact Nat.le_add_right _ _
        · rw [z]; exact Nat.le_refl _
        · rw [z]; exact Nat.le_add_right _ _
      exact I1.fpOk hle (I1.hok.fresh hle)
theorem walk_zt {K : PySem.W.Frag} {a : Addr} {x : Str} {xs : List V} : Walk (Izt K a x) (min xs.length x.cps.size) (fun H => SqT K H a xs) (YPair (fun i => xs[i]?) (fun i => x.cps[i]?.map fun c => .str ⟨#[c]⟩)) := by
  refine ⟨fun i _ hi q => ⟨xs, q, by omega, by omega⟩, fun _ q => ⟨xs, q, rfl⟩, fun i H v H' _ q y => ?_⟩
  obtain ⟨T, y, c, h1, h2, h3, h4, h5⟩ := y
  exact ⟨T, y, .str ⟨#[c]⟩, h1, h2, h3, h4 xs q, by show Option.map _ x.cps[i]? = _; rw [h5] <;> rfl⟩

/-! ### enumerate of a tuple -/
theorem meets_enumB {v : Value} {o : Obj} {H : Heap → Prop} (B : Begins v o H) :
    Meets (Builtin.«enumerate.__new__» ⟨[.type "enumerate", v], []⟩) (fun _ R s => H s.heap ∧
      R (.ok (.ret (.ref (s.heap.push o).objs.size))) { s with heap := (s.heap.push o).push { cls := .type "enumerate", data := .fields #[.none, .bool false, .ref s.heap.objs.size, rawInt 0, .none, .none] } }) :=
  .of_wp fun prog w A R s h => by
    obtain ⟨hp, g, d, tk, os⟩ := s; obtain ⟨h1, h⟩ := h
    have hsub := sub_enumerate
    have q1 : ∀ {A' : Around} {E : Value → Shared → Prop} {Q : Value → Shared → Prop}, Q (.ref hp.objs.size) ⟨hp.push o, g, d, tk, os⟩ → wpAny (model prog w) A' (pyIter v) Q E ⟨hp, g, d, tk, os⟩ :=
      fun q => B.iter prog w _ _ ⟨hp, g, d, tk, os⟩ _ h1 q
    wp_walk using q1
    refine wpAny_stack_any fun st => wpAny_pure ?_
    split
    · rename_i c _ _ _ _ _
      cases (c == Value.type "enumerate")
      · wp_walk using q1
        exact ⟨_, rfl, h⟩
      · wp_walk using q1
        exact ⟨_, rfl, h⟩
    · wp_walk using q1
      exact ⟨_, rfl, h⟩
theorem enumB {prog : Program} {w : World} {A : Around} {E : Value → Shared → Prop} {s : Shared} {v : Value} {o : Obj} {H : Heap → Prop} {Q : Value → Shared → Prop} (B : Begins v o H) (h1 : H s.heap)
    (h : ∀ h', IsEnum h' (s.heap.objs.size + 1) s.heap.objs.size 0 .none → h'.get? s.heap.objs.size = some o → h'.objs.size = s.heap.objs.size + 2 →
      (∀ b o, s.heap.get? b = some o → h'.get? b = some o) → Q (.ref (s.heap.objs.size + 1)) { s with heap := h' }) :
    wpAny (model prog w) A (call (.type "enumerate") [v]) Q E s := by
  refine callType_new F.called_enumerate (by decide) (F.typeCall_enumerate_1 _) (F.newCall_enumerate_1 _) (fun obj => F.args_object_init_2 obj _) F.entry_enumerate_new
    (meets_enumB B) ⟨h1, ?_⟩
  have hz : (s.heap.push o).objs.size = s.heap.objs.size + 1 := Heap.size_push ..
  show _ ∧ _
  rw [hz]
  have he : IsEnum ((s.heap.push o).push { cls := .type "enumerate", data := .fields #[.none, .bool false, .ref s.heap.objs.size, rawInt 0, .none, .none] }) (s.heap.objs.size + 1) s.heap.objs.size 0 .none := by
    have := Heap.get?_push_size (s.heap.push o) (o := { cls := .type "enumerate", data := .fields #[.none, .bool false, .ref s.heap.objs.size, rawInt 0, .none, .none] }) rfl
    rw [hz] at this; exact this
  refine ⟨⟨_, he, rfl⟩, h _ he (Heap.get?_push_of_some _ (Heap.get?_push_size _ B.free)) (by rw [Heap.size_push, hz]) fun b o x => Heap.get?_push_of_some _ (Heap.get?_push_of_some _ x)⟩
def Iet (K : PySem.W.Frag) (a : Addr) : It :=
  ⟨fun i H => ∃ xs : List V, SqT K H a xs ∧ i < xs.length, fun i H v H' => ∃ T y, v = .ref T ∧ H T = none ∧ H' = upd H T (.tup [.int (i : Nat), y]) ∧ (∀ xs, SqT K H a xs → xs[i]? = some y),
    fun i H => ∃ xs : List V, SqT K H a xs ∧ i = xs.length⟩
theorem turn_et {P : Program} {w : World} {K : PySem.W.Frag} {elts : List Expr} {kk : Nat} {tpos : Pos} {a e it : Addr} (hei : e ≠ it) (hea : e ≠ a) (hne : a ≠ it) :
    Turn P w K (.Tuple elts kk tpos) (Iet K a) [e, it] e (fun i h => (∃ old, IsEnum h e it (0 + ((i : Nat) : Int)) old) ∧ h.IsTupleIter it a i) where
  mem := by simp
  obj := fun i h st b hb => by
    obtain ⟨⟨old, he⟩, ⟨o, ho, hc, hd⟩⟩ := st
    have e' : b = e ∨ b = it := by simpa using hb
    rcases e' with z | z
    · rw [z]; exact ⟨_, he, fun v q => nomatch q⟩
    · rw [z]; exact ⟨o, ho, fun v q => by rw [hd] at q; cases q⟩
  keep := fun i h h' st k => let ⟨⟨old, he⟩, hi⟩ := st; ⟨⟨old, k e (by simp) _ he⟩, hi.at fun o q => k it (by simp) o q⟩
  item := by
    intro X hP hw hK hc i pins s σ H E I hf st hg
    subst hP hw hK
    obtain ⟨xs, hq, hx1⟩ := hg
    obtain ⟨its, rv, p, _⟩ := I.tuple hq
    have D1 := Draws.tuple (prog := X.prog) (w := X.w) (A := X.A.in1) (I.ok.hd hc) it a hne its.toArray
    have W := GoesN.enumFrom (elts := elts) (x1 := kk) (pos := tpos) 0 D1 e hei (by simp [hei, hea]) (by simp)
    have hl := rv.length
    obtain ⟨s1, s2⟩ := st
    refine W.goes i s _ E (by simp; omega) ⟨s1, s2, p⟩ fun v h' tk hY st' hk htk => ?_
    obtain ⟨T, t, xv, rfl, hT, hx, hTt⟩ := hY
    obtain ⟨s1', s2', _⟩ := st'
    have hxv : its[i]? = some xv := by simpa using hx
    obtain ⟨y, hy, ry⟩ : ∃ y, xs[i]? = some y ∧ RelV y xv := by
      have h1 : xs[i]? = some xs[i] := by simp [hx1]
      obtain ⟨u', hu', ru'⟩ := rv.get h1
      rw [hxv] at hu'
      cases hu'
      exact ⟨_, h1, ru'⟩
    have new : ObjOk X.prog X.w (upd H T (.tup [.int (i : Nat), y])) h' T (.tup [.int (i : Nat), y]) := by
      obtain ⟨o, ho, hoc, n, hod⟩ := hTt
      exact ⟨by show 2 ≤ sizeLine; decide, [.int (0 + (i : Int)) t, xv], .cons ⟨t, by simp⟩ (.cons ry .nil), ⟨o, ho, hoc, n, hod⟩⟩
    have I1 : Inv X pins σ (upd H T (.tup [.int (i : Nat), y])) { s with heap := h', toks := tk } := I.turnedNew (ch := [e, it]) (fun b o hb q => hk b o hb q) hf hT new
    refine ⟨.ref T, _, I1, rfl, ⟨T, y, rfl, I.hok.fresh hT, rfl, fun l hl => by rw [I.tuple_inj hl hq]; exact hy⟩, ⟨s1', s2'⟩, fun b hb => ?_⟩
    have hlt : b < s.heap.objs.size := by
      have e' : b = e ∨ b = it := by simpa using hb
      obtain ⟨old, s1⟩ := s1
      rcases e' with q | q
      · rw [q]; exact Heap.lt_size s1
      · rw [q]; obtain ⟨_, e1, _⟩ := s2; exact Heap.lt_size e1
    rw [upd_ne (Nat.ne_of_lt (Nat.lt_of_lt_of_le hlt hT))]
    exact (hf b hb).1
  done := by
    intro X hP hw hK hc i pins s σ H E I hf st hg
    subst hP hw hK
    obtain ⟨xs, hq, hx⟩ := hg
    obtain ⟨its, rv, p, _⟩ := I.tuple hq
    have hl := rv.length
    have D1 := Draws.tuple (prog := X.prog) (w := X.w) (A := X.A.in1) (I.ok.hd hc) it a hne its.toArray
    have W := GoesN.enumFrom (elts := elts) (x1 := kk) (pos := tpos) 0 D1 e hei (by simp [hei, hea]) (by simp)
    obtain ⟨s1, s2⟩ := st
    have hi : i = its.toArray.size := by simp; omega
    subst hi
    exact W.stops s (fun s1 => Inv X pins σ H s1) E ⟨s1, s2, p⟩ fun h' tk hk htk => I.turnedL (ch := [e, it]) (fun b o hb q => hk b o hb q) hf
  self := fun A i s Q E st h => let ⟨⟨_, he⟩, _⟩ := st; wpAny_pyIter_enum he h
def iEt (K : PySem.W.Frag) (ta : TA) : TI := fun σ H R => ta σ H fun vs H1 => ∃ a, vs = [.ref a] ∧ (∃ xs, SqT K H1 a xs) ∧ R (Iet K a) H1
theorem pi_et {X : Cx} {e : Expr} {ta : TA} {p pos tpos : Pos} {elts : List Expr} {kk : Nat} (hg : Gl X "enumerate") (hm : X.mg "enumerate" = none) (ha : PA X [e] ta) (hs : starEach [e] X.env = [(false, eval e X.env)]) :
    PI X (.Tuple elts kk tpos) (.Call (.Name "enumerate" p) [e] [] pos) (iEt X.K ta) := by
  refine ⟨fun pins s σ H R I h => ?_⟩
  refine Call_ (ld_blt I hg hm boot_enumerate (PyProof.Rows.callWith_type1 (thn (ha.run pos pins s σ H _ I h) fun us s1 ⟨vs, H1, I1, r1, q1⟩ => ?_) hs rfl))
  obtain ⟨a, ex, ⟨xs, hq⟩, q⟩ := q1
  subst ex
  cases r1 with
  | cons r rr =>
    cases rr
    cases r
    obtain ⟨its, rv, p', hz⟩ := I1.tuple hq
    have p1' : s1.heap.IsTuple a its.toArray := p'
    have la : a < s1.heap.objs.size := by obtain ⟨o, e1, _⟩ := p1'; exact Heap.lt_size e1
    refine enumB (begins_tuple a its.toArray) p1' fun h' he hit hsz hk => wpAny_pyIter_enum he ?_
    have I2 : Inv X pins σ H1 { s1 with heap := h' } := I1.kept (t' := s1.toks) hk
    refine ⟨s1.heap.objs.size + 1, [s1.heap.objs.size + 1, s1.heap.objs.size], _, _, H1, rfl, I2, turn_et (a := a) (e := s1.heap.objs.size + 1) (it := s1.heap.objs.size) (Nat.succ_ne_self _) (Nat.ne_of_gt (Nat.lt_succ_of_lt la)) (Nat.ne_of_lt la), ⟨⟨.none, he⟩, ⟨_, hit, rfl, rfl⟩⟩, fun b hb => ?_, q⟩
    have e' : b = s1.heap.objs.size + 1 ∨ b = s1.heap.objs.size := by simpa using hb
    have hle : s1.heap.objs.size ≤ b := by
      rcases e' with z | z
      · rw [z]; exact Nat.le_add_right _ _
      · rw [z]; exact Nat.le_refl _
    exact I1.fpOk hle (I1.hok.fresh hle)
theorem walk_et {K : PySem.W.Frag} {a : Addr} {xs : List V} : Walk (Iet K a) xs.length (fun H => SqT K H a xs) (YPair (fun i => some (.int (i : Nat))) (fun i => xs[i]?)) := by
  refine ⟨fun i _ hi q => ⟨xs, q, hi⟩, fun _ q => ⟨xs, q, rfl⟩, fun i H v H' _ q y => ?_⟩
  obtain ⟨T, y, h1, h2, h3, h4⟩ := y
  exact ⟨T, .int (i : Nat), y, h1, h2, h3, rfl, h4 xs q⟩
end DE
end
section
set_option Elab.async false
set_option linter.all false
set_option maxRecDepth 100000
set_option maxHeartbeats 2000000
/-! DE20: what a for walks. -/
namespace DE
open PySem L2 PySem.SeqAt PyProof.Rows

/-- J gives the items, one after another, while nothing of A changes -/
def Wlk (W : Wd) (items : List D) (A : List Addr) (H0 : Hp) (J : It) : Prop := ∃ G Y, Walk J items.length G Y ∧ (∀ H, Keeps H0 H → (∀ b ∈ A, H b = H0 b) → G H) ∧
  ∀ i H x H', i < items.length → Keeps H0 H → (∀ b ∈ A, H b = H0 b) → Y i H x H' → Same H H' ∧ (∃ d, items[i]? = some d ∧ RepD W H' d x) ∧ ∀ b o, H' b = some o → isMu o → H b = some o
def FinI (W : Wd) (Wx : WX) (tc R : Nat → Prop) (τ : Loc) (own : Own) (σ : L2.St) (H : Hp) (Rr : It → Hp → Prop) : Res (List D) → Prop
  | .ok items τ' => ∀ J H' own' A, SRep W τ' σ H' own' → Stp tc τ own H τ' own' H' → Wlk W items A H' J → (∀ b ∈ A, (∃ o, H' b = some o ∧ isMu o) ∧ ((∃ i, R i ∧ b ∈ own' i) ∨ ∀ i, b ∉ own' i)) → Rr J H'
  | .exc x τ' => ∀ cls d H' own', SRep W τ' σ H' own' → Stp tc τ own H τ' own' H' → ExRep W H' x cls d → Wx cls d σ H'
  | .stk => False
def tIv (W : Wd) (Wx : WX) (tc R : Nat → Prop) (f : Loc → Res (List D)) : TI := fun σ H Rr => ∃ τ own, SRep W τ σ H own ∧ FinI W Wx tc R τ own σ H Rr (f τ)
abbrev PIv (W : Wd) (X : Cx) (Wx : WX) (tc R : Nat → Prop) (tg e : Expr) (f : Loc → Res (List D)) : Prop := PI X tg e (tIv W Wx tc R f)
section
variable {W : Wd} {X : Cx} {Wx : WX} {tc tca tcb Ra Rb R : Nat → Prop} {e a b tg : Expr} {fa fb : Loc → Res Rv} {p pos tpos : Pos} {elts : List Expr} {kk : Nat}
theorem PI.imp' {t t' : TI} (h : PI X tg e t) (hi : ∀ σ H Q, t' σ H Q → t σ H Q) : PI X tg e t' := ⟨fun pins s σ H Q I q => h.run pins s σ H Q I (hi σ H Q q)⟩
/-- the plumbing of one operand, to a walk -/
theorem one_runI {α β : Type} {RepA : Loc → L2.St → Hp → Own → α → β → List Addr → Prop} {BA : α → Prop} {f : Loc → Res α} {g : α → Loc → Res (List D)} {Q : It → Hp → Prop} {Q' : β → Hp → Prop} {σ : L2.St} {H : Hp} (h1 : ∀ i, tca i → tc i)
    (h : tIv W Wx tc R (fun τ => (f τ).bind g) σ H Q)
    (k : ∀ τ τ2 own own2 x v H2 M1, SRep W τ2 σ H2 own2 → RepA τ2 σ H2 own2 x v M1 → BA x → Stp tc τ own H τ2 own2 H2 → Src tc own H M1 → FinI W Wx tc R τ own σ H Q (g x τ2) → Q' v H2) :
    tG W Wx tca RepA BA f σ H Q' := by
  obtain ⟨τ, own, S, hF⟩ := h
  replace hF : FinI W Wx tc R τ own σ H Q ((f τ).bind g) := hF
  refine ⟨τ, own, S, ?_⟩
  cases ef : f τ with
  | stk =>
    rw [ef] at hF
    exact hF
  | exc x τ' =>
    rw [ef] at hF
    exact fun cls d H' own' S' st' xr => hF cls d H' own' S' (st'.mono h1) xr
  | ok x τ' =>
    rw [ef] at hF
    exact fun v H' own' M S' r' b' st' sr' => k τ τ' own own' x v H' M S' r' b' (st'.mono h1) (sr'.mono h1) hF
/-! ### lists, tuples, texts, dicts -/
/-- what stands at v is walked -/
def PIt (W : Wd) (v : V) (H : Hp) (R : It → Hp → Prop) : Prop :=
  (∃ a, v = .ref a ∧ (∃ xs, SqL W.K H a xs) ∧ R (Itl W.K a) H) ∨ (∃ a, v = .ref a ∧ (∃ xs, SqT W.K H a xs) ∧ R (Itt W.K a) H) ∨ (∃ x, v = .str x ∧ R (Its x) H) ∨ ∃ d o kvs, v = .ref d ∧ H d = some (.frz o (.dK kvs)) ∧ R (Itk d o kvs) H
theorem pi_it (hK : X.K = W.K) {te : TE} (he : PE X e te) : PI X tg e (fun σ H R => te σ H fun v H1 => PIt W v H1 R) := by
  refine ⟨fun pins s σ H R I h => ?_⟩
  refine thn (he.run pins s σ H _ I h) fun u s1 ⟨x, H1, I1, r1, q1⟩ => ?_
  rcases q1 with ⟨a, rfl, ⟨xs, hq⟩, q⟩ | ⟨a, rfl, ⟨xs, hq⟩, q⟩ | ⟨x, rfl, q⟩ | ⟨d, o, kvs, rfl, hd, q⟩
  · cases r1
    rw [← hK] at hq q
    obtain ⟨its, rv, p, hz⟩ := I1.list hq
    refine wpAny_pyIter_list p.isList ?_
    refine ⟨s1.heap.objs.size, [s1.heap.objs.size], _, _, H1, rfl, I1.kept (t' := s1.toks) fun b o e => Heap.get?_push_of_some _ e, turn_list a _, ⟨_, Heap.get?_push_size _ rfl, rfl, rfl⟩, fun b hb => ?_, q⟩
    have e : b = s1.heap.objs.size := by simpa using hb
    subst e
    exact I1.fpOk (Nat.le_refl _) (I1.hok.fresh (Nat.le_refl _))
  · cases r1
    rw [← hK] at hq q
    obtain ⟨its, rv, p, hz⟩ := I1.tuple hq
    refine wpAny_pyIter_tuple (show s1.heap.IsTuple a its.toArray from p) ?_
    refine ⟨s1.heap.objs.size, [s1.heap.objs.size], _, _, H1, rfl, I1.kept (t' := s1.toks) fun b o e => Heap.get?_push_of_some _ e, turn_tuple a _, ⟨_, Heap.get?_push_size _ rfl, rfl, rfl⟩, fun b hb => ?_, q⟩
    have e : b = s1.heap.objs.size := by simpa using hb
    subst e
    exact I1.fpOk (Nat.le_refl _) (I1.hok.fresh (Nat.le_refl _))
  · obtain ⟨t, rfl⟩ := r1
    cases ha : x.cps.all (· < 128)
    · exact wpAny_pyIter_wide ha (pi_one (tk := s1.toks) I1 _ (turn_str _ x t "str_iterator" (.inr rfl)) ⟨_, Heap.get?_push_size _ rfl, rfl, rfl⟩ q)
    · exact wpAny_pyIter_ascii ha (pi_one (tk := s1.toks) I1 _ (turn_str _ x t "str_ascii_iterator" (.inl rfl)) ⟨_, Heap.get?_push_size _ rfl, rfl, rfl⟩ q)
  · obtain rfl : u = Value.ref d := r1
    obtain ⟨hs, hgd, hx, es, ep, vs, hdt, hsz, kv, hm⟩ := I1.frzK hd
    refine iter_keys hs hgd hx hdt (pi_one (tk := s1.toks) I1 _ (turn_keys _ hdt) ⟨_, Heap.get?_push_size _ rfl, rfl, ?_⟩ q)
    rw [hsz] <;> rfl
theorem same_refl (H : Hp) : Same H H := fun _ _ h => h
theorem wlk_at {items : List D} {A : List Addr} {H0 : Hp} {J : It} {vs : List V} {G : Hp → Prop} (ok : W.Ok) (hw : Walk J vs.length G (YAt vs)) (hr : RepDs W H0 items vs) (hG : ∀ H, Keeps H0 H → (∀ b ∈ A, H b = H0 b) → G H) : Wlk W items A H0 J := by
  refine ⟨G, YAt vs, by rw [← RepDs.length hr]; exact hw, hG, fun i H x H' hi k hA y => ?_⟩
  obtain ⟨rfl, hx⟩ := y
  refine ⟨same_refl _, ⟨items[i], by simp [hi], ?_⟩, fun b o h _ => h⟩
  obtain ⟨v, e1, e2⟩ := RepDs.get hr (j := i) (d := items[i]) (by simp [hi])
  rw [hx] at e1
  cases e1
  exact RepD.keep ok k _ _ e2
theorem i_l (ok : W.Ok) (hK : X.K = W.K) (ha : PEv W X Wx tc R e fa) : PIv W X Wx tc R tg e (fun τ => (fa τ).bind fun r τ1 => optR (itemsOf r.c) τ1) :=
  PI.imp' (pi_it hK ha) fun σ H Q h => one_runI (RepA := RvRep W) (BA := BoIn R) (fun _ h => h) h fun τ τ1 own own1 r v H1 M1 S1 r1 b1 st1 s1 hF => by
    cases ei : itemsOf r.c with
    | none =>
      rw [ei] at hF
      exact hF.elim
    | some items =>
      rw [ei] at hF
      have hF' : ∀ J A, Wlk W items A H1 J → (∀ b ∈ A, (∃ o, H1 b = some o ∧ isMu o) ∧ ((∃ i, R i ∧ b ∈ own1 i) ∨ ∀ i, b ∉ own1 i)) → Q J H1 := fun J A w hA => hF J H1 own1 A S1 st1 w hA
      -- a list of its own
      have own_list : ∀ cs : List C, r.c = .lst cs → ∃ a vs, v = .ref a ∧ H1 a = some (.lst vs) ∧ ((∃ i, R i ∧ a ∈ own1 i) ∨ ∀ i, a ∉ own1 i) ∧ ∀ ds, pures cs = some ds → RepDs W H1 ds vs := fun cs hc => by
        cases r with
        | pu d => cases hc
        | fr c =>
          have hc' : c = .lst cs := hc
          subst hc'
          obtain ⟨⟨a, vs, M', rfl, rfl, h3, h4⟩, _, dj⟩ := r1
          exact ⟨a, vs, rfl, h3, .inr fun i z => dj i a (by simp) z, fun ds e => RepCs.pures e h4⟩
        | ow c =>
          have hc' : c = .lst cs := hc
          subst hc'
          obtain ⟨⟨a, vs, M', rfl, rfl, h3, h4⟩, _, dj⟩ := r1
          exact ⟨a, vs, rfl, h3, .inr fun i z => dj i a (by simp) z, fun ds e => RepCs.pures e h4⟩
        | bo i ph c =>
          have hc' : c = .lst cs := hc
          subst hc'
          obtain ⟨vi, Mc, N1, N2, e1, e2, ⟨a, vs, M', rfl, rfl, h3, h4⟩, _⟩ := S1.bo ok r1
          exact ⟨a, vs, rfl, h3, .inl ⟨i, b1, by rw [e2]; simp⟩, fun ds e => RepCs.pures e h4⟩
      obtain ⟨N1, q1⟩ := r1.rc ok S1
      cases hc : r.c with
      | un => rw [hc] at q1; exact q1.elim
      | obj k ns cs => rw [hc] at ei; simp [itemsOf, seqOf, listOf] at ei
      | dic ks cs => rw [hc] at ei; simp [itemsOf, seqOf, listOf] at ei
      | lst cs =>
        rw [hc] at ei
        obtain ⟨a, vs, rfl, h3, hA, hp⟩ := own_list cs hc
        simp only [itemsOf, seqOf, listOf] at ei
        refine .inl ⟨a, rfl, ⟨vs, .inl (.inl h3)⟩, hF' _ [a] (wlk_at ok walk_list (hp items ei) fun H k hb => .inl (.inl ?_)) fun b hb => ?_⟩
        · rw [hb a (by simp)]
          exact h3
        · have e : b = a := by simpa using hb
          subst e
          exact ⟨⟨_, h3, trivial⟩, hA⟩
      | pu d =>
        rw [hc] at ei q1
        obtain ⟨_, q1⟩ := q1
        cases d with
        | tup ds =>
          simp only [itemsOf, seqOf, Option.some.injEq] at ei
          subst ei
          obtain ⟨a, vs, rfl, h1, h2⟩ := q1
          exact .inr (.inl ⟨a, rfl, ⟨vs, .inl (.inl h1)⟩, hF' _ [] (wlk_at ok walk_tup h2 fun H k hb => .inl (.inl (k.tup _ _ h1))) fun b hb => by cases hb⟩)
        | lst ds =>
          simp only [itemsOf, seqOf, listOf, Option.some.injEq] at ei
          subst ei
          obtain ⟨a, vs, rfl, h1, h2⟩ := q1
          exact .inl ⟨a, rfl, ⟨vs, h1.sq⟩, hF' _ [] (wlk_at ok walk_list h2 fun H k hb => (h1.keep k).sq) fun b hb => by cases hb⟩
        | str s =>
          simp only [itemsOf, Option.some.injEq] at ei
          subst ei
          have qv : v = _ := q1
          subst qv
          refine .inr (.inr (.inl ⟨s, rfl, hF' _ [] ⟨_, _, by simpa [signs] using walk_str, fun _ _ _ => trivial, fun i H x H' hi k hA y => ?_⟩ fun b hb => by cases hb⟩))
          obtain ⟨rfl, c, h1, rfl⟩ := y
          exact ⟨same_refl _, ⟨.str ⟨#[c]⟩, by simp [signs, h1], rfl⟩, fun b o h _ => h⟩
        | dic ks vs =>
          simp only [itemsOf, Option.ite_none_right_eq_some, Option.some.injEq] at ei
          obtain ⟨hf, rfl⟩ := ei
          obtain ⟨a, o, kvs, rfl, h1, h2, h3⟩ := q1
          refine .inr (.inr (.inr ⟨a, o, kvs, rfl, h1, hF' _ [] ⟨_, _, by rw [h2, List.length_map]; exact walk_keys, fun H k _ => k.frz _ _ _ h1, fun i H x H' hi k hA y => ?_⟩ fun b hb => by cases hb⟩))
          obtain ⟨rfl, kk, vv, e1, rfl⟩ := y
          refine ⟨same_refl _, ⟨dKey kk, by rw [h2, List.getElem?_map, e1]; rfl, ?_⟩, fun b o h _ => h⟩
          cases kk <;> exact rfl
        | _ => simp [itemsOf, seqOf, listOf] at ei
/-! ### range -/
theorem i_rng (hg : Gl X "range") (hm : X.mg "range" = none) {fd : Loc → Res D} (ha : PDv W X Wx tc a fd) (hs : starEach [a] X.env = [(false, eval a X.env)]) :
    PIv W X Wx tc nob tg (.Call (.Name "range" p) [a] [] pos) (fun τ => (fd τ).bind rng1E) :=
  PI.imp' (pi_range1 hg hm (pa_cons ha pa_nil hs) hs) fun σ H Q h => one_runI (RepA := DRep W) (BA := fun _ => True) (fun _ h => h) h fun τ τ1 own own1 d v H1 M1 S1 r1 b1 st1 s1 hF => by
    unfold rng1E at hF
    split at hF
    · rename_i j
      unfold rngOf at hF
      split at hF
      · rename_i hj
        have q : v = _ := r1.2
        subst q
        refine ⟨j, rfl, by omega, by omega, hF _ H1 own1 [] S1 st1 ⟨fun _ => True, YFn fun i => .int (0 + (i : Nat)), ?_, fun _ _ _ => trivial, fun i H x H' hi k hA y => ?_⟩ fun b hb => by cases hb⟩
        · have : (((List.range (j - 0).toNat).map fun (k : Nat) => D.int (0 + (k : Int)))).length = j.toNat := by simp
          rw [this]
          exact walk_range
        · obtain ⟨rfl, rfl⟩ := y
          have hi' : i < (j - 0).toNat := by simpa using hi
          exact ⟨same_refl _, ⟨.int (0 + i), by simp [List.getElem?_range (show i < j.toNat by omega)], rfl⟩, fun b o h _ => h⟩
      · exact hF.elim
    · exact hF.elim
theorem i_rng2 (hg : Gl X "range") (hm : X.mg "range" = none) {fd fe : Loc → Res D} (ha : PDv W X Wx tca a fd) (hb : PDv W X Wx tcb b fe) (ok : W.Ok) (hs : starEach [a, b] X.env = [(false, eval a X.env), (false, eval b X.env)]) (hs2 : starEach [b] X.env = [(false, eval b X.env)]) :
    PIv W X Wx (fun i => tca i ∨ tcb i) nob tg (.Call (.Name "range" p) [a, b] [] pos) (fun τ => (fd τ).bind fun d τ1 => (fe τ1).bind fun e τ2 => rng2E d e τ2) :=
  PI.imp' (pi_range2 hg hm (pa_cons ha (pa_cons hb pa_nil hs2) (by rw [hs, hs2])) hs hs2) fun σ H Q h => one_runI (RepA := DRep W) (BA := fun _ => True) (fun _ h => .inl h) h fun τ τ1 own own1 d v H1 M1 S1 r1 b1 st1 s1 hF => by
    show tDv W Wx tcb fe σ H1 _
    refine ⟨τ1, own1, S1, ?_⟩
    cases ef : fe τ1 with
    | stk =>
      rw [ef] at hF
      exact hF
    | exc x τ' =>
      rw [ef] at hF
      exact fun cls dd H' own' S' st' xr => hF cls dd H' own' S' (st1.trans (st'.mono fun _ h => .inr h)) xr
    | ok e2 τ2 =>
      rw [ef] at hF
      intro v2 H2 own2 M2 S2 r2 _ st2 sr2
      have hF' : FinI W Wx (fun i => tca i ∨ tcb i) nob τ own σ H Q (rng2E d e2 τ2) := hF
      unfold rng2E at hF'
      split at hF'
      · rename_i i j
        unfold rngOf at hF'
        split at hF'
        · rename_i hj
          have q : v = _ := r1.2
          subst q
          have q : v2 = _ := r2.2
          subst q
          refine ⟨i, j, rfl, ⟨by omega, by omega, by omega, by omega⟩, hF' _ H2 own2 [] S2 (st1.trans (st2.mono fun _ h => .inr h)) ⟨fun _ => True, YFn fun k => .int (i + (k : Nat)), ?_, fun _ _ _ => trivial, fun k H x H' hi kk hA y => ?_⟩ fun b hb => by cases hb⟩
          · have : (((List.range (j - i).toNat).map fun (k : Nat) => D.int (i + (k : Int)))).length = (j - i).toNat := by simp
            rw [this]
            exact walk_range
          · obtain ⟨rfl, rfl⟩ := y
            have hi' : k < (j - i).toNat := by simpa using hi
            exact ⟨same_refl _, ⟨.int (i + k), by simp [List.getElem?_range hi'], rfl⟩, fun b o h _ => h⟩
        · exact hF'.elim
      · exact hF'.elim
end
end DE
end
section
set_option Elab.async false
set_option linter.all false
set_option maxRecDepth 100000
set_option maxHeartbeats 2000000
/-! DE21: enumerate, zip as sources. -/
namespace DE
open PySem L2 PySem.SeqAt PyProof.Rows

section
variable {W : Wd} {X : Cx} {Wx : WX} {tc tca tcb Ra Rb R : Nat → Prop} {e a b tg : Expr} {fa fb : Loc → Res Rv} {p pos tpos : Pos} {elts : List Expr} {kk : Nat}
/-- enumerate(e), e a list or a tuple -/
theorem pi_en {ta : TA} (hg : Gl X "enumerate") (hm : X.mg "enumerate" = none) (ha : PA X [e] ta) (hs : starEach [e] X.env = [(false, eval e X.env)]) :
    PI X (.Tuple elts kk tpos) (.Call (.Name "enumerate" p) [e] [] pos) (fun σ H R => ta σ H fun vs H1 => ∃ a, vs = [.ref a] ∧ (((∃ xs, SqL X.K H1 a xs) ∧ R (Ite X.K a) H1) ∨ ((∃ xs, SqT X.K H1 a xs) ∧ R (Iet X.K a) H1))) := by
  refine ⟨fun pins s σ H R I h => ?_⟩
  refine Call_ (ld_blt I hg hm boot_enumerate (PyProof.Rows.callWith_type1 (thn (ha.run pos pins s σ H _ I h) fun us s1 ⟨vs, H1, I1, r1, q1⟩ => ?_) hs rfl))
  obtain ⟨a, ex, q1⟩ := q1
  subst ex
  cases r1 with
  | cons r rr =>
    cases rr
    cases r
    rcases q1 with ⟨⟨xs, hq⟩, q⟩ | ⟨⟨xs, hq⟩, q⟩
    · obtain ⟨its, rv, p', hz⟩ := I1.list hq
      refine call_enumerate_list p'.isList fun h' he hit hsz hk => wpAny_pyIter_enum he ?_
      have I2 : Inv X pins σ H1 { s1 with heap := h' } := I1.kept (t' := s1.toks) hk
      refine ⟨s1.heap.objs.size + 1, [s1.heap.objs.size + 1, s1.heap.objs.size], _, _, H1, rfl, I2, turn_enum a (s1.heap.objs.size + 1) s1.heap.objs.size, ⟨⟨.none, he⟩, hit, Nat.succ_ne_self _⟩, fun b hb => ?_, q⟩
      have e' : b = s1.heap.objs.size + 1 ∨ b = s1.heap.objs.size := by simpa using hb
      have hle : s1.heap.objs.size ≤ b := by
        rcases e' with z | z
        · rw [z]; exact Nat.le_add_right _ _
        · rw [z]; exact Nat.le_refl _
      exact I1.fpOk hle (I1.hok.fresh hle)
    · obtain ⟨its, rv, p', hz⟩ := I1.tuple hq
      have p1' : s1.heap.IsTuple a its.toArray := p'
      have la : a < s1.heap.objs.size := by obtain ⟨o, e1, _⟩ := p1'; exact Heap.lt_size e1
      refine enumB (begins_tuple a its.toArray) p1' fun h' he hit hsz hk => wpAny_pyIter_enum he ?_
      have I2 : Inv X pins σ H1 { s1 with heap := h' } := I1.kept (t' := s1.toks) hk
      refine ⟨s1.heap.objs.size + 1, [s1.heap.objs.size + 1, s1.heap.objs.size], _, _, H1, rfl, I2, turn_et (a := a) (e := s1.heap.objs.size + 1) (it := s1.heap.objs.size) (Nat.succ_ne_self _) (Nat.ne_of_gt (Nat.lt_succ_of_lt la)) (Nat.ne_of_lt la), ⟨⟨.none, he⟩, ⟨_, hit, rfl, rfl⟩⟩, fun b hb => ?_, q⟩
      have e' : b = s1.heap.objs.size + 1 ∨ b = s1.heap.objs.size := by simpa using hb
      have hle : s1.heap.objs.size ≤ b := by
        rcases e' with z | z
        · rw [z]; exact Nat.le_add_right _ _
        · rw [z]; exact Nat.le_refl _
      exact I1.fpOk hle (I1.hok.fresh hle)
theorem enumOf_len : ∀ (ds : List D) (k : Nat), (enumOf ds k).length = ds.length
  | [], _ => rfl
  | d :: ds, k => by simp [enumOf, enumOf_len ds]
theorem enumOf_get : ∀ {ds : List D} {k i : Nat} {d : D}, ds[i]? = some d → (enumOf ds k)[i]? = some (.tup [.int ((k + i : Nat) : Int), d])
  | [], _, _, _, h => by simp at h
  | d :: ds, k, 0, d', h => by
    simp at h
    subst h
    simp [enumOf]
  | d :: ds, k, i + 1, d', h => by
    simp at h
    simp only [enumOf, List.getElem?_cons_succ]
    rw [enumOf_get h]
    congr 4
    omega
theorem zipOf_len : ∀ (as bs : List D), (zipOf as bs).length = min as.length bs.length
  | [], bs => by cases bs <;> simp [zipOf]
  | a :: as, [] => by simp [zipOf]
  | a :: as, b :: bs => by simp [zipOf, zipOf_len as bs]
theorem zipOf_get : ∀ {as bs : List D} {i : Nat} {a b : D}, as[i]? = some a → bs[i]? = some b → (zipOf as bs)[i]? = some (.tup [a, b])
  | [], _, _, _, _, h, _ => by simp at h
  | _ :: _, [], _, _, _, _, h => by simp at h
  | a :: as, b :: bs, 0, _, _, h, h' => by
    simp at h h'
    subst h h'
    simp [zipOf]
  | a :: as, b :: bs, i + 1, _, _, h, h' => by
    simp at h h'
    simpa [zipOf] using zipOf_get h h'
theorem pair_new (ok : W.Ok) {H0 H H' : Hp} {T : Addr} {x y : V} {d e : D} (k : Keeps H0 H) (hT : H T = none) (e1 : H' = upd H T (.tup [x, y])) (rx : RepD W H0 d x) (ry : RepD W H0 e y) : Same H H' ∧ RepD W H' (.tup [d, e]) (.ref T) ∧ ∀ b o, H' b = some o → isMu o → H b = some o := by
  subst e1
  have sm : Same H (upd H T (.tup [x, y])) := same_new hT
  have k2 := k.trans (same_keeps sm)
  refine ⟨sm, ⟨T, [x, y], rfl, upd_same, ⟨x, [y], rfl, RepD.keep ok k2 _ _ rx, ⟨y, [], rfl, RepD.keep ok k2 _ _ ry, rfl⟩⟩⟩, fun b o eb m => ?_⟩
  by_cases q : b = T
  · rw [q, upd_same] at eb
    cases eb
    exact m.elim
  · rw [upd_ne q] at eb
    exact eb
theorem i_enum (ok : W.Ok) (hK : X.K = W.K) (hg : Gl X "enumerate") (hm : X.mg "enumerate" = none) (ha : PEv W X Wx tc R e fa) (hs : starEach [e] X.env = [(false, eval e X.env)]) :
    PIv W X Wx tc R (.Tuple elts kk tpos) (.Call (.Name "enumerate" p) [e] [] pos) (fun τ => (fa τ).bind fun r τ1 => optR ((seqOf r.c).map fun ds => enumOf ds 0) τ1) :=
  PI.imp' (pi_en hg hm (pa_cons ha pa_nil hs) hs) fun σ H Q h => one_runI (RepA := RvRep W) (BA := BoIn R) (fun _ h => h) h fun τ τ1 own own1 r v H1 M1 S1 r1 b1 st1 s1 hF => by
    show ∃ a, [v] = [V.ref a] ∧ _
    cases ei : seqOf r.c with
    | none =>
      rw [ei] at hF
      exact hF.elim
    | some items =>
      rw [ei] at hF
      have hF' : ∀ J A, Wlk W (enumOf items 0) A H1 J → (∀ b ∈ A, (∃ o, H1 b = some o ∧ isMu o) ∧ ((∃ i, R i ∧ b ∈ own1 i) ∨ ∀ i, b ∉ own1 i)) → Q J H1 := fun J A w hA => hF J H1 own1 A S1 st1 w hA
      have own_list : ∀ cs : List C, r.c = .lst cs → ∃ a vs, v = .ref a ∧ H1 a = some (.lst vs) ∧ ((∃ i, R i ∧ a ∈ own1 i) ∨ ∀ i, a ∉ own1 i) ∧ ∀ ds, pures cs = some ds → RepDs W H1 ds vs := fun cs hc => by
        cases r with
        | pu d => cases hc
        | fr c =>
          have hc' : c = .lst cs := hc
          subst hc'
          obtain ⟨⟨a, vs, M', rfl, rfl, h3, h4⟩, _, dj⟩ := r1
          exact ⟨a, vs, rfl, h3, .inr fun i z => dj i a (by simp) z, fun ds e => RepCs.pures e h4⟩
        | ow c =>
          have hc' : c = .lst cs := hc
          subst hc'
          obtain ⟨⟨a, vs, M', rfl, rfl, h3, h4⟩, _, dj⟩ := r1
          exact ⟨a, vs, rfl, h3, .inr fun i z => dj i a (by simp) z, fun ds e => RepCs.pures e h4⟩
        | bo i ph c =>
          have hc' : c = .lst cs := hc
          subst hc'
          obtain ⟨vi, Mc, N1, N2, e1, e2, ⟨a, vs, M', rfl, rfl, h3, h4⟩, _⟩ := S1.bo ok r1
          exact ⟨a, vs, rfl, h3, .inl ⟨i, b1, by rw [e2]; simp⟩, fun ds e => RepCs.pures e h4⟩
      have fin : ∀ (J : It) (A : List Addr) (G : Hp → Prop) (vs : List V), RepDs W H1 items vs → Walk J vs.length G (YPair (fun i => some (.int (i : Nat))) (fun i => vs[i]?)) → (∀ H, Keeps H1 H → (∀ b ∈ A, H b = H1 b) → G H) → Wlk W (enumOf items 0) A H1 J := fun J A G vs hd hw hG => by
        refine ⟨G, _, by rw [enumOf_len, ← RepDs.length hd]; exact hw, hG, fun i H x H' hi k hA y => ?_⟩
        obtain ⟨T, u, w, rfl, hT, rfl, hu, hw'⟩ := y
        cases hu
        rw [enumOf_len] at hi
        obtain ⟨w2, e1, e2⟩ := RepDs.get hd (j := i) (d := items[i]) (by simp [hi])
        replace hw' : vs[i]? = some w := hw'
        rw [hw'] at e1
        cases e1
        obtain ⟨q1, q2, q3⟩ := pair_new ok (d := .int (i : Nat)) (x := .int (i : Nat)) k hT rfl rfl e2
        refine ⟨q1, ⟨_, enumOf_get (d := items[i]) (by simp [hi]), ?_⟩, q3⟩
        simpa using q2
      obtain ⟨N1, q1⟩ := r1.rc ok S1
      cases hc : r.c with
      | un => rw [hc] at q1; exact q1.elim
      | obj k ns cs => rw [hc] at ei; simp [seqOf, listOf] at ei
      | dic ks cs => rw [hc] at ei; simp [seqOf, listOf] at ei
      | lst cs =>
        rw [hc] at ei
        obtain ⟨a, vs, rfl, h3, hA, hp⟩ := own_list cs hc
        simp only [seqOf, listOf] at ei
        refine ⟨a, rfl, .inl ⟨⟨vs, by rw [hK]; exact .inl (.inl h3)⟩, ?_⟩⟩
        rw [hK]
        refine hF' _ [a] (fin _ _ _ vs (hp items ei) walk_enum fun H k hb => .inl (.inl ?_)) fun b hb => ?_
        · rw [hb a (by simp)]
          exact h3
        · have e : b = a := by simpa using hb
          subst e
          exact ⟨⟨_, h3, trivial⟩, hA⟩
      | pu d =>
        rw [hc] at ei q1
        obtain ⟨_, q1⟩ := q1
        cases d with
        | tup ds =>
          simp only [seqOf, Option.some.injEq] at ei
          subst ei
          obtain ⟨a, vs, rfl, h1, h2⟩ := q1
          refine ⟨a, rfl, .inr ⟨⟨vs, .inl (.inl h1)⟩, ?_⟩⟩
          rw [hK]
          exact hF' _ [] (fin _ _ _ vs h2 walk_et fun H k hb => .inl (.inl (k.tup _ _ h1))) fun b hb => by cases hb
        | lst ds =>
          simp only [seqOf, listOf, Option.some.injEq] at ei
          subst ei
          obtain ⟨a, vs, rfl, h1, h2⟩ := q1
          refine ⟨a, rfl, .inl ⟨⟨vs, by rw [hK]; exact h1.sq⟩, ?_⟩⟩
          rw [hK]
          exact hF' _ [] (fin _ _ _ vs h2 walk_enum fun H k hb => (h1.keep k).sq) fun b hb => by cases hb
        | _ => simp [seqOf, listOf] at ei
/-- zip(a, b), a tuple and a text -/
theorem i_zip (ok : W.Ok) (hK : X.K = W.K) (hg : Gl X "zip") (hm : X.mg "zip" = none) (ha : PEv W X Wx tca Ra a fa) (hb : PEv W X Wx tcb Rb b fb) (hR : ∀ i, Ra i → ¬ tcb i) (hs : starEach [a, b] X.env = (false, eval a X.env) :: starEach [b] X.env) (hs2 : starEach [b] X.env = (false, eval b X.env) :: starEach [] X.env) (hpl : (PySem.backTo pos (starEach [b] X.env)).any (·.1) = false) :
    PIv W X Wx (fun i => tca i ∨ tcb i) nob (.Tuple elts kk tpos) (.Call (.Name "zip" p) [a, b] [] pos) (fun τ => (fa τ).bind fun r τ1 => (fb τ1).bind fun q τ2 => zipE r q τ2) :=
  PI.imp' (pi_zt hg hm (pa_cons ha (pa_cons hb pa_nil hs2) hs) hs hpl) fun σ H Q h => one_runI (RepA := RvRep W) (BA := BoIn Ra) (fun _ h => .inl h) h fun τ τ1 own own1 r v H1 M1 S1 r1 b1 st1 s1 hF => by
    show tEv W Wx tcb Rb fb σ H1 _
    refine ⟨τ1, own1, S1, ?_⟩
    cases ef : fb τ1 with
    | stk =>
      rw [ef] at hF
      exact hF
    | exc x τ' =>
      rw [ef] at hF
      exact fun cls dd H' own' S' st' xr => hF cls dd H' own' S' (st1.trans (st'.mono fun _ h => .inr h)) xr
    | ok q τ2 =>
      rw [ef] at hF
      intro v2 H2 own2 M2 S2 r2 b2 st2 sr2
      have hF' : FinI W Wx (fun i => tca i ∨ tcb i) nob τ own σ H Q (zipE r q τ2) := hF
      unfold zipE at hF'
      split at hF'
      · rename_i ds s e1 e2
        obtain ⟨N1, g1⟩ := (r1.step ok S1 b1 st2 hR).rc ok S2
        obtain ⟨N2, g2⟩ := r2.rc ok S2
        rw [e1] at g1
        rw [e2] at g2
        obtain ⟨_, a', vs, rfl, h1, h2⟩ := g1
        have q : v2 = _ := g2.2
        subst q
        refine ⟨a', s, rfl, ⟨vs, .inl (.inl h1)⟩, ?_⟩
        rw [hK]
        refine hF' _ H2 own2 [] S2 (st1.trans (st2.mono fun _ h => .inr h)) ⟨fun H => SqT W.K H a' vs, YPair (fun i => vs[i]?) (fun i => s.cps[i]?.map fun c => .str ⟨#[c]⟩), ?_, fun H k _ => .inl (.inl (k.tup _ _ h1)), fun i H x H' hi k hA y => ?_⟩ fun b hb => by cases hb
        · rw [zipOf_len, ← RepDs.length h2]
          have : (signs s).length = s.cps.size := by simp [signs]
          rw [this]
          exact walk_zt
        · obtain ⟨T, u, w, rfl, hT, rfl, hu, hw⟩ := y
          have hi' : i < ds.length ∧ i < (signs s).length := by
            rw [zipOf_len] at hi
            omega
          obtain ⟨u2, e3, e4⟩ := RepDs.get h2 (j := i) (d := ds[i]) (by simp [hi'.1])
          replace hu : vs[i]? = some u := hu
          rw [hu] at e3
          cases e3
          obtain ⟨c, hc, rfl⟩ := Option.map_eq_some_iff.mp hw
          obtain ⟨q1, q2, q3⟩ := pair_new ok (d := ds[i]) (e := .str ⟨#[c]⟩) (y := .str ⟨#[c]⟩) k hT rfl e4 rfl
          exact ⟨q1, ⟨_, zipOf_get (a := ds[i]) (b := .str ⟨#[c]⟩) (by simp [hi'.1]) (by simp [signs, hc]), q2⟩, q3⟩
      · exact hF'.elim
end
end DE
end
section
set_option Elab.async false
set_option linter.all false
set_option maxRecDepth 100000
set_option maxHeartbeats 4000000
/-! DE22: comprehensions. -/
namespace DE
open PySem L2 PySem.SeqAt PyProof.Rows

theorem foldl_len {f : Loc → Nat → Loc} (hf : ∀ τ i, (f τ i).length = τ.length) : ∀ (ws : List Nat) (τ : Loc), (ws.foldl f τ).length = τ.length
  | [], τ => rfl
  | w :: ws, τ => by simp only [List.foldl_cons]; rw [foldl_len hf ws, hf]
theorem wipe_len (ws : List Nat) (τ : Loc) : (wipe ws τ).length = τ.length := foldl_len (fun τ i => by simp) ws τ
theorem back_len2 (ws : List Nat) (τ0 τ : Loc) : (back ws τ0 τ).length = τ.length := foldl_len (fun τ i => by simp) ws τ
theorem wipe_look {i : Nat} : ∀ (ws : List Nat) (τ : Loc), look (wipe ws τ) i = if i ∈ ws then .un else look τ i
  | [], τ => by simp [wipe]
  | w :: ws, τ => by
    have ih := wipe_look (i := i) ws (τ.set w .un)
    show look (wipe ws (τ.set w .un)) i = _
    rw [ih, wipe1]
    by_cases h : i ∈ ws
    · simp [h]
    · by_cases h2 : w = i
      · subst h2
        simp [h]
      · have : i ≠ w := fun z => h2 z.symm
        simp [h, h2, this]
theorem back_look {i : Nat} {τ0 : Loc} : ∀ (ws : List Nat) (τ : Loc), look (back ws τ0 τ) i = if i ∈ ws ∧ i < τ.length then look τ0 i else look τ i
  | [], τ => by simp [back]
  | w :: ws, τ => by
    have ih := back_look (i := i) (τ0 := τ0) ws (τ.set w (look τ0 w))
    show look (back ws τ0 (τ.set w (look τ0 w))) i = _
    rw [ih, look_set]
    by_cases h : i ∈ ws
    · by_cases l : i < τ.length
      · simp [h, l]
      · simp [h, l]
        intro z z2
        exact (l (z ▸ z2)).elim
    · by_cases h2 : w = i
      · subst h2
        simp [h]
      · have : i ≠ w := fun z => h2 z.symm
        simp [h, h2, this]
theorem wipe_eq_of {σ σ' : L2.St} : ∀ {vs : List Nat}, σ'.length = σ.length → (∀ i, i ∉ vs → σ'[i]? = σ[i]?) → L2.wipe σ' vs = L2.wipe σ vs := fun {vs} hl h => by
  have key : ∀ (τ : L2.St) (i : Nat), (L2.wipe τ vs)[i]? = if i ∈ vs then (if i < τ.length then some none else none) else τ[i]? := fun τ i => by
    clear h hl
    induction vs with
    | nil => simp [L2.wipe]
    | cons v vs ih =>
      unfold L2.wipe
      by_cases e : v = i
      · subst e
        rw [List.getElem?_set]
        simp [L2.wipe_length]
      · rw [List.getElem?_set_ne e, ih]
        have : i ≠ v := fun z => e z.symm
        simp [this]
  apply List.ext_getElem?
  intro i
  rw [key σ' i, key σ i, hl]
  by_cases e : i ∈ vs
  · simp [e]
  · simp [e, h i e]
theorem wipe_eq_get {σ σ' : L2.St} {vs : List Nat} (h : L2.wipe σ' vs = L2.wipe σ vs) {i : Nat} (hi : i ∉ vs) : σ'[i]? = σ[i]? := by
  rw [← L2.wipe_out hi, h, L2.wipe_out hi]
section
variable {W : Wd} {X : Cx} {Wx : WX} {tc tca tcb tcI tct tce R : Nat → Prop}
abbrev WF : WX := fun _ _ _ _ => False
theorem SRep.wiped {τ : Loc} {own : Own} {σ σ0 : L2.St} {H : Hp} (S : SRep W τ σ H own) (ws : List Nat) (h : L2.wipe σ ws = L2.wipe σ0 ws) : SRep W (wipe ws τ) (L2.wipe σ0 ws) H (fun i => if i ∈ ws then [] else own i) := by
  refine ⟨fun i => ?_, fun i => ?_, fun i j b n hb hc => ?_, S.tb, ?_⟩
  · try dsimp only
    rw [wipe_look]
    by_cases e : i ∈ ws
    · rw [if_pos e, if_pos e]
      exact .inl ⟨rfl, rfl⟩
    · rw [if_neg e, if_neg e, L2.wipe_out e, ← wipe_eq_get h e]
      exact S.at_ i
  · try dsimp only
    by_cases e : i ∈ ws
    · rw [if_pos e]
      simp
    · rw [if_neg e]
      exact S.nd i
  · try dsimp only at hb hc
    by_cases e : i ∈ ws
    · rw [if_pos e] at hb
      cases hb
    · rw [if_neg e] at hb
      by_cases e' : j ∈ ws
      · rw [if_pos e'] at hc
        cases hc
      · rw [if_neg e'] at hc
        exact S.dj i j b n hb hc
  · have h1 := S.ln
    have h2 : (L2.wipe σ ws).length = (L2.wipe σ0 ws).length := by rw [h]
    rw [L2.wipe_length, L2.wipe_length] at h2
    rw [wipe_len, L2.wipe_length, ← h2]
    exact h1
theorem Stp.wiped {τ : Loc} {own : Own} {H : Hp} {ws : List Nat} (h : ∀ i ∈ ws, tc i) : Stp tc τ own H (wipe ws τ) (fun i => if i ∈ ws then [] else own i) H :=
  ⟨fun b o e _ _ => e, fun b h => h, fun i hi => by
    have n : i ∉ ws := fun z => hi (h i z)
    try dsimp only
    rw [if_neg n, wipe_look, if_neg n]
    exact ⟨rfl, rfl⟩, fun i b hi hb => by
    try dsimp only at hb
    by_cases e : i ∈ ws
    · rw [if_pos e] at hb
      cases hb
    · rw [if_neg e] at hb
      exact .inl ⟨i, hi, hb⟩⟩
/-- back at the slots that stood ahead -/
theorem SRep.backed (ok : W.Ok) {τ1 τ : Loc} {own1 own : Own} {σ σn : L2.St} {H1 H : Hp} {ws : List Nat} (S1 : SRep W τ1 σ H1 own1) (S : SRep W τ σn H own) (h : L2.wipe σn ws = L2.wipe σ ws) (k : Keeps H1 H) (hf : freeO ws τ1 = true) : SRep W (back ws τ1 τ) σ H (fun i => if i ∈ ws then [] else own i) := by
  refine ⟨fun i => ?_, fun i => ?_, fun i j b n hb hc => ?_, S.tb, ?_⟩
  · try dsimp only
    rw [back_look]
    by_cases e : i ∈ ws
    · rw [if_pos e]
      by_cases l : i < τ.length
      · rw [if_pos ⟨e, l⟩]
        have hfi := List.all_eq_true.mp hf i e
        rcases S1.at_ i with ⟨z, _⟩ | ⟨v, e1, r1⟩
        · exact .inl ⟨z, rfl⟩
        · cases hc : look τ1 i with
          | un => exact .inl ⟨rfl, rfl⟩
          | pu d =>
            rw [hc] at r1
            exact .inr ⟨v, e1, rfl, RepD.keep ok k _ _ r1.2⟩
          | lst cs => rw [hc] at hfi; cases hfi
          | dic ks cs => rw [hc] at hfi; cases hfi
          | obj kk ns cs => rw [hc] at hfi; cases hfi
      · rw [if_neg fun z => l z.2]
        refine .inl ⟨?_, rfl⟩
        exact Classical.byContradiction fun z => l (look_lt z)
    · rw [if_neg e, if_neg fun z => e z.1, ← wipe_eq_get h e]
      exact S.at_ i
  · try dsimp only
    by_cases e : i ∈ ws
    · rw [if_pos e]
      simp
    · rw [if_neg e]
      exact S.nd i
  · try dsimp only at hb hc
    by_cases e : i ∈ ws
    · rw [if_pos e] at hb
      cases hb
    · rw [if_neg e] at hb
      by_cases e' : j ∈ ws
      · rw [if_pos e'] at hc
        cases hc
      · rw [if_neg e'] at hc
        exact S.dj i j b n hb hc
  · have h1 := S.ln
    have h2 : (L2.wipe σn ws).length = (L2.wipe σ ws).length := by rw [h]
    rw [L2.wipe_length, L2.wipe_length] at h2
    rw [back_len2, ← h2]
    exact h1
theorem Stp.backed {τ0 τ1 τ : Loc} {own0 own : Own} {H0 H : Hp} {ws : List Nat} (st : Stp tc τ0 own0 H0 τ own H) (h : ∀ i ∈ ws, tc i) : Stp tc τ0 own0 H0 (back ws τ1 τ) (fun i => if i ∈ ws then [] else own i) H :=
  ⟨st.fr, st.dom, fun i hi => by
    have n : i ∉ ws := fun z => hi (h i z)
    try dsimp only
    rw [if_neg n, back_look, if_neg fun z => n z.1]
    exact st.un i hi, fun i b hi hb => by
    try dsimp only at hb
    by_cases e : i ∈ ws
    · rw [if_pos e] at hb
      cases hb
    · rw [if_neg e] at hb
      exact st.src i b hi hb⟩
theorem lcLoop_cons {α : Type} {f : D → Loc → Res (Option α)} {d : D} {ds : List D} {τ τn : Loc} {as : List α} (h : lcLoop f (d :: ds) τ = .ok as τn) : ∃ o τ1 rest, f d τ = .ok o τ1 ∧ lcLoop f ds τ1 = .ok rest τn ∧ as = o.toList ++ rest := by
  simp only [lcLoop] at h
  cases e : f d τ with
  | exc x τ' => rw [e] at h; cases h
  | stk => rw [e] at h; cases h
  | ok o τ1 =>
    rw [e] at h
    simp only [Res.bind] at h
    cases e2 : lcLoop f ds τ1 with
    | exc x τ' => rw [e2] at h; cases h
    | stk => rw [e2] at h; cases h
    | ok rest τ2 =>
      rw [e2] at h
      cases o with
      | none =>
        cases h
        exact ⟨none, τ1, _, rfl, e2, rfl⟩
      | some a =>
        cases h
        exact ⟨some a, τ1, _, rfl, e2, rfl⟩
/-- a comprehension's reading -/
theorem lc_te (ok : W.Ok) {ws : List Nat} {tg : Tg} {fi : Loc → Res (List D)} {ft : Loc → Res Bool} {fe : Loc → Res D} {σ : L2.St} {H : Hp} {Q : VK} (hw : ∀ j, tg.tc j → j ∈ ws) (hw' : ∀ j, tg.nm j → j ∈ ws) (hR : ∀ i, R i → ¬ (tct i ∨ tce i ∨ i ∈ ws))
    (h : tEv W Wx (fun i => tcI i ∨ tct i ∨ tce i ∨ i ∈ ws) nob (fun τ => (fi τ).bind fun items τ1 => putBack ws τ1 (lcLoop (lcTurn ws tg ft fe) items τ1)) σ H Q) :
    tLc (tIv W Wx tcI R fi) (gTv W tg) (tBv W WF tct ft) (tDv W WF tce fe) ws σ H Q := by
  obtain ⟨τ, own, S, hF⟩ := h
  replace hF : Fin W Wx (fun i => tcI i ∨ tct i ∨ tce i ∨ i ∈ ws) (RvRep W) (BoIn nob) τ own σ H Q ((fi τ).bind fun items τ1 => putBack ws τ1 (lcLoop (lcTurn ws tg ft fe) items τ1)) := hF
  refine ⟨τ, own, S, ?_⟩
  cases ef : fi τ with
  | stk =>
    rw [ef] at hF
    exact hF
  | exc x τ' =>
    rw [ef] at hF
    exact fun cls dd H' own' S' st' xr => hF cls dd H' own' S' (st'.mono fun _ h => .inl h) xr
  | ok items τ1 =>
    rw [ef] at hF
    intro J H1 own1 A S1 st1 wk hA L hL
    replace hF : Fin W Wx (fun i => tcI i ∨ tct i ∨ tce i ∨ i ∈ ws) (RvRep W) (BoIn nob) τ own σ H Q (putBack ws τ1 (lcLoop (lcTurn ws tg ft fe) items τ1)) := hF
    unfold putBack at hF
    by_cases hfr' : ¬ (freeO ws τ1 = true)
    · rw [if_neg hfr'] at hF
      exact hF.elim
    have hfr := Classical.not_not.mp hfr'
    rw [if_pos hfr] at hF
    cases el : lcLoop (lcTurn ws tg ft fe) items τ1 with
    | stk => rw [el] at hF; exact hF.elim
    | exc x τ' => rw [el] at hF; exact hF.elim
    | ok ds τn =>
      rw [el] at hF
      simp only [noX, Res.bind] at hF
      by_cases hb' : ¬ (ds.length ≤ big)
      · rw [if_neg hb'] at hF
        exact hF.elim
      have hb := Classical.not_not.mp hb'
      rw [if_pos hb] at hF
      obtain ⟨G, Y, wkk, hG, hY⟩ := wk
      -- the slots that the turns may touch
      let tL : Nat → Prop := fun i => tct i ∨ tce i ∨ i ∈ ws
      have smL : Same H1 (upd H1 L (.lst [])) := same_new hL
      have nL : ∀ i, L ∉ own1 i := fun i z => by
        obtain ⟨o, e, _⟩ := S1.mu z
        rw [hL] at e
        cases e
      have S1L := S1.same ok smL
      -- the invariant
      let Pv : Nat → Hp → Prop := fun i H2 => ∃ τi owni σi acc vs rest, SRep W τi σi H2 owni ∧ L2.wipe σi ws = L2.wipe σ ws ∧ Stp tL τ1 own1 H1 τi owni H2 ∧ H2 L = some (.lst vs) ∧ RepDs W H2 acc vs ∧ (∀ j, L ∉ owni j) ∧
        lcLoop (lcTurn ws tg ft fe) (items.drop i) τi = .ok rest τn ∧ ds = acc ++ rest
      have stay : ∀ {H2 : Hp} {τi owni}, Stp tL τ1 own1 H1 τi owni H2 → H2 L ≠ none → Keeps H1 H2 ∧ ∀ b ∈ A, H2 b = H1 b := fun {H2 τi owni} st _ => by
        refine ⟨st.keeps S1, fun b hb => ?_⟩
        obtain ⟨⟨o, eb, mo⟩, hb2⟩ := hA b hb
        rw [eb]
        refine st.fr b o eb (mu_tbl mo) fun j hj hbj => ?_
        rcases hb2 with ⟨i, hi, hbi⟩ | hb2
        · by_cases z : i = j
          · subst z
            exact hR i hi hj
          · exact S1.dj i j b z hbi hbj
        · exact hb2 j hbj
      refine lc_it wkk Pv ⟨τ1, own1, σ, [], [], ds, S1L, rfl, Stp.same smL, upd_same, rfl, nL, by simpa using el, rfl⟩ (fun i H2 hi ⟨τi, owni, σi, acc, vs, rest, Si, ew, sti, eL, ra, nLi, er, ed⟩ => ?_) (fun i x H2 H3 hi ⟨τi, owni, σi, acc, vs, rest, Si, ew, sti, eL, ra, nLi, er, ed⟩ y => ?_) (fun H2 ⟨τi, owni, σi, acc, vs, rest, Si, ew, sti, eL, ra, nLi, er, ed⟩ => ?_)
      · obtain ⟨k1, k2⟩ := stay sti (by rw [eL]; simp)
        exact hG H2 k1 k2
      · -- a turn
        obtain ⟨k1, k2⟩ := stay sti (by rw [eL]; simp)
        obtain ⟨sm3, ⟨d, ed1, rd⟩, nomu⟩ := hY i H2 x H3 hi k1 k2 y
        have hdrop : items.drop i = d :: items.drop (i + 1) := by
          rw [List.drop_eq_getElem_cons hi]
          have : items[i]? = some items[i] := by simp [hi]
          rw [this] at ed1
          cases ed1
          rfl
        rw [hdrop] at er
        obtain ⟨oo, τj, rest', ef1, er', erest⟩ := lcLoop_cons er
        unfold lcTurn at ef1
        cases ea : asgT tg d (wipe ws τi) with
        | none =>
          rw [ea] at ef1
          cases ef1
        | some τa =>
          rw [ea] at ef1
          simp only [optR, Res.bind] at ef1
          have Si3 := Si.same ok sm3
          have st3 : Stp tL τ1 own1 H1 τi owni H3 := sti.trans (Stp.same sm3)
          have Sw := Si3.wiped ws ew
          have stw : Stp tL τ1 own1 H1 (wipe ws τi) (fun i => if i ∈ ws then [] else owni i) H3 := st3.trans (Stp.wiped fun i hi => .inr (.inr hi))
          have eL3 : H3 L = some (.lst vs) := sm3 L _ eL
          have ra3 : RepDs W H3 acc vs := RepDs.keep ok (same_keeps sm3) _ _ ra
          have nLw : ∀ j, L ∉ (fun i => if i ∈ ws then [] else owni i : Own) j := fun j z => by
            dsimp only at z
            by_cases e : j ∈ ws
            · rw [if_pos e] at z
              cases z
            · rw [if_neg e] at z
              exact nLi j z
          refine ⟨wipe ws τi, _, d, τa, Sw, rd, ea, fun σ4 H4 own4 S4 st4 => ?_⟩
          have ew4 : L2.wipe σ4 ws = L2.wipe σ ws := by
            have e1 : L2.wipe σ4 ws = L2.wipe (L2.wipe σ ws) ws := wipe_eq_of st4.2.1 fun i hi => st4.2.2 i fun z => hi (hw' i z)
            rw [e1]
            exact wipe_eq_of (by rw [L2.wipe_length]) fun i hi => L2.wipe_out hi
          have stp4 : Stp tL τ1 own1 H1 τa own4 H4 := stw.trans (st4.1.mono fun j hj => .inr (.inr (hw j hj)))
          have offL : ∀ {τp τq : Loc} {op oq : Own} {Ha Hb : L2.Hp} {tc : Nat → Prop} {vs : List V}, Stp tc τp op Ha τq oq Hb → Ha L = some (.lst vs) → (∀ j, L ∉ op j) → Hb L = some (.lst vs) ∧ ∀ j, L ∉ oq j := fun {τp τq op oq Ha Hb tc vs} st e n =>
            ⟨st.fr L _ e (fun ps z => by cases z) fun j _ => n j, st.apart ⟨_, e, trivial⟩ n⟩
          obtain ⟨eL4, nL4⟩ := offL st4.1 eL3 nLw
          have ra4 : RepDs W H4 acc vs := RepDs.keep ok (st4.1.keeps Sw) _ _ ra3
          refine ⟨ew4, ?_⟩
          -- the tests
          refine ⟨τa, own4, S4, ?_⟩
          cases et : ft τa with
          | stk => rw [et] at ef1; cases ef1
          | exc xx τ' => rw [et] at ef1; cases ef1
          | ok b τb =>
            rw [et] at ef1
            simp only [Res.bind] at ef1
            intro b' H5 own5 M5 S5 r5 _ st5 _
            have eb : b' = b := r5.2
            subst eb
            obtain ⟨eL5, nL5⟩ := offL st5 eL4 nL4
            have ra5 : RepDs W H5 acc vs := RepDs.keep ok (st5.keeps S4) _ _ ra4
            have stp5 : Stp tL τ1 own1 H1 τb own5 H5 := stp4.trans (st5.mono fun j hj => .inl hj)
            cases b' with
            | false =>
              simp only [if_false, Bool.false_eq_true] at ef1 ⊢
              cases ef1
              exact ⟨τj, own5, σ4, acc, vs, rest', S5, ew4, stp5, eL5, ra5, nL5, er', by rw [ed, erest]; rfl⟩
            | true =>
              simp only [if_true] at ef1 ⊢
              refine ⟨τb, own5, S5, ?_⟩
              cases ee : fe τb with
              | stk => rw [ee] at ef1; cases ef1
              | exc xx τ' => rw [ee] at ef1; cases ef1
              | ok y τc =>
                rw [ee] at ef1
                simp only [Res.bind] at ef1
                cases ef1
                intro v H6 own6 M6 S6 r6 _ st6 _
                obtain ⟨eL6, nL6⟩ := offL st6 eL5 nL5
                have ra6 : RepDs W H6 acc vs := RepDs.keep ok (st6.keeps S5) _ _ ra5
                have stp6 : Stp tL τ1 own1 H1 τj own6 H6 := stp5.trans (st6.mono fun j hj => .inr (.inl hj))
                have kk : Keeps H6 (upd H6 L (.lst (vs ++ [v]))) := upd_keeps eL6 trivial
                refine ⟨vs, eL6, ?_, τj, own6, σ4, acc ++ [y], vs ++ [v], rest', S6.ext ok kk (fun j b hb => upd_ne fun z => nL6 j (z ▸ hb)) (tabs_mu S6.tb fun b o eb nm => ?_), ew4, ?_, upd_same, RepDs.append (RepDs.keep ok kk _ _ ra6) ⟨v, [], rfl, RepD.keep ok kk _ _ r6.2, rfl⟩, nL6, er', by rw [ed, erest]; simp⟩
                · have l1 := RepDs.length ra6
                  rw [l1]
                  refine big_line' ?_
                  rw [ed, erest] at hb
                  simp at hb
                  omega
                · rw [upd_ne]
                  · exact eb
                  · rintro rfl
                    rw [eL6] at eb
                    cases eb
                    exact nm trivial
                · refine ⟨fun b o eb nt hbb => ?_, fun b hbb => ?_, stp6.un, fun j b hj hbb => ?_⟩
                  · have z : b ≠ L := fun z => by
                      rw [z, hL] at eb
                      cases eb
                    rw [upd_ne z]
                    exact stp6.fr b o eb nt hbb
                  · by_cases z : b = L
                    · rw [z, upd_same]
                      simp
                    · rw [upd_ne z]
                      exact stp6.dom b hbb
                  · exact stp6.src j b hj hbb
      · -- the end
        rw [List.drop_length] at er
        cases er
        rw [List.append_nil] at ed
        subst ed
        obtain ⟨k1, k2⟩ := stay sti (by rw [eL]; simp)
        refine hF (.ref L) H2 _ [L] (SRep.backed ok S1 Si ew k1 hfr) ⟨⟨L, vs, [], rfl, rfl, eL, RepCs.pu ra⟩, by simp, fun i b hb hc => ?_⟩ trivial (((st1.mono fun _ h => .inl h).trans (sti.mono fun _ h => .inr h)).backed fun i hi => .inr (.inr (.inr hi))) fun b hb => ?_
        · have e : b = L := by simpa using hb
          subst e
          try dsimp only at hc
          by_cases e : i ∈ ws
          · rw [if_pos e] at hc
            cases hc
          · rw [if_neg e] at hc
            exact nLi i hc
        · have e : b = L := by simpa using hb
          subst e
          refine .inr ?_
          cases q : H b with
          | none => rfl
          | some o => exact absurd hL (st1.dom b (by rw [q]; simp))
/-! tests -/
abbrev PTsv (W : Wd) (X : Cx) (Wx : WX) (tc : Nat → Prop) (ifs : List Expr) (f : Loc → Res Bool) : Prop := PTs X ifs (tBv W Wx tc f)
theorem PTs.imp' {ifs : List Expr} {t t' : TT} (h : PTs X ifs t) (hi : ∀ σ H Q, t' σ H Q → t σ H Q) : PTs X ifs t' := ⟨fun pins s σ H Q I q => h.run pins s σ H Q I (hi σ H Q q)⟩
theorem ts_yes : PTsv W X Wx nob [] (fun τ => .ok true τ) := PTs.imp' pts_nil fun σ H Q ⟨τ, own, S, hF⟩ => refl_of (a := true) S hF ⟨rfl, rfl⟩ trivial
theorem ts_one {c : Expr} {f : Loc → Res Bool} (h : PTv W X Wx tc c f) : PTsv W X Wx tc [c] f := pts_one h
/-- [e for tg in it if t] -/
theorem v_lc (ok : W.Ok) {elt tge iter : Expr} {ifs : List Expr} {scope : Scope} {ownp : List (Str × Nat)} {pos : Pos} {tg : Tg} {fi : Loc → Res (List D)} {ft : Loc → Res Bool} {fe : Loc → Res D} (hc : X.calm = true) (hN : X.N.Nodup) (hi : PIv W X Wx tcI R tge iter fi) (bk : BlkOk X.N X.env.scope scope ownp)
    (hg : ∀ (s : Shared) (H : Hp) (C : Addr) (cl : List (Str × Addr)) (fp : List Addr), PGv W (X.blk s H scope (compEnvC scope cl C X.env) fp) tge tg) (ht : ∀ (s : Shared) (H : Hp) (C : Addr) (cl : List (Str × Addr)) (fp : List Addr), PTsv W (X.blk s H scope (compEnvC scope cl C X.env) fp) WF tct ifs ft)
    (he : ∀ (s : Shared) (H : Hp) (C : Addr) (cl : List (Str × Addr)) (fp : List Addr), PDv W (X.blk s H scope (compEnvC scope cl C X.env) fp) WF tce elt fe) (hs : ∀ x, foldedSetIterable iter X.env x = pure x)
    (hw : ∀ j, tg.tc j → j ∈ ownp.map (·.2)) (hw' : ∀ j, tg.nm j → j ∈ ownp.map (·.2)) (hR : ∀ i, R i → ¬ (tct i ∨ tce i ∨ i ∈ ownp.map (·.2))) :
    PEv W X Wx (fun i => tcI i ∨ tct i ∨ tce i ∨ i ∈ ownp.map (·.2)) nob (.ListComp elt [⟨tge, iter, ifs, 0⟩] scope pos) (fun τ => (fi τ).bind fun items τ1 => putBack (ownp.map (·.2)) τ1 (lcLoop (lcTurn (ownp.map (·.2)) tg ft fe) items τ1)) :=
  PE.imp' (pe_lc hc hN hi bk hg ht he hs) fun σ H Q h => lc_te ok hw hw' hR h
end
end DE
end
section
set_option Elab.async false
set_option linter.all false
set_option maxRecDepth 100000
set_option maxHeartbeats 2000000
/-! DE23: statements. -/
namespace DE
open PySem L2 PySem.SeqAt PyProof.Rows

def FinS (W : Wd) (Wx : WX) (tc ag : Nat → Prop) (D : Ends) (τ : Loc) (own : Own) (σ : L2.St) (H : Hp) : SRes → Prop
  | .nx τ' => ∀ σ' H' own', SRep W τ' σ' H' own' → StpS tc ag τ own σ H τ' own' σ' H' → D.nx σ' H'
  | .brk τ' => ∀ σ' H' own', SRep W τ' σ' H' own' → StpS tc ag τ own σ H τ' own' σ' H' → D.bk σ' H'
  | .cont τ' => ∀ σ' H' own', SRep W τ' σ' H' own' → StpS tc ag τ own σ H τ' own' σ' H' → D.ct σ' H'
  | .ret c τ' => ∀ v σ' H' own' M, SRep W τ' σ' H' own' → CRep W τ' σ' H' own' c v M → StpS tc ag τ own σ H τ' own' σ' H' → Src tc own H M → D.rt v H'
  | .exc x τ' => ∀ cls d σ' H' own', SRep W τ' σ' H' own' → StpS tc ag τ own σ H τ' own' σ' H' → ExRep W H' x cls d → Wx cls d σ' H'
  | .stk => False
def tSv (W : Wd) (Wx : WX) (tc ag : Nat → Prop) (f : Loc → SRes) : TS := fun D σ H => ∃ τ own, SRep W τ σ H own ∧ FinS W Wx tc ag D τ own σ H (f τ)
abbrev PSv (W : Wd) (X : Cx) (Wx : WX) (tc ag : Nat → Prop) (s : Stmt) (f : Loc → SRes) : Prop := PS X s (tSv W Wx tc ag f)
abbrev PSsv (W : Wd) (X : Cx) (Wx : WX) (tc ag : Nat → Prop) (ss : List Stmt) (f : Loc → SRes) : Prop := PSs X ss (tSv W Wx tc ag f)
section
variable {W : Wd} {X : Cx} {Wx : WX} {tc tc' ag ag' tca tcb tcc aga agb R Ra Rb : Nat → Prop} {τ τ1 : Loc} {own own1 : Own} {σ σ1 : L2.St} {H H1 : Hp} {D : Ends} {e o : Expr} {fe : Loc → Res Rv} {pos pos' tpos p2 : Pos} {i : Nat} {x : Str} {st : Stmt} {ss sa sb : List Stmt} {f g fa fb : Loc → SRes}
theorem FinS.tail {r : SRes} (s : StpS tc ag τ own σ H τ1 own1 σ1 H1) (h : ∀ i, tcb i → tc i) (h' : ∀ i, agb i → ag i) (hF : FinS W Wx tc ag D τ own σ H r) : FinS W Wx tcb agb D τ1 own1 σ1 H1 r := by
  cases r with
  | nx τ' => exact fun σ' H' own' S st => hF σ' H' own' S (s.trans (st.mono h h'))
  | brk τ' => exact fun σ' H' own' S st => hF σ' H' own' S (s.trans (st.mono h h'))
  | cont τ' => exact fun σ' H' own' S st => hF σ' H' own' S (s.trans (st.mono h h'))
  | ret c τ' => exact fun v σ' H' own' M S r st sr => hF v σ' H' own' M S r (s.trans (st.mono h h')) (s.1.src_trans (sr.mono h))
  | exc x τ' => exact fun cls d σ' H' own' S st xr => hF cls d σ' H' own' S (s.trans (st.mono h h')) xr
  | stk => exact hF
theorem FinS.mono {r : SRes} (h : ∀ i, tcb i → tc i) (h' : ∀ i, agb i → ag i) (hF : FinS W Wx tc ag D τ own σ H r) : FinS W Wx tcb agb D τ own σ H r := FinS.tail StpS.refl h h' hF
/-- run an expression first -/
theorem s_run {α β : Type} {RepA : Loc → L2.St → Hp → Own → α → β → List Addr → Prop} {BA : α → Prop} {f : Loc → Res α} {g : α → Loc → SRes} {Q' : β → Hp → Prop} (h1 : ∀ i, tca i → tc i) (h : tSv W Wx tc ag (fun τ => .of (f τ) g) D σ H)
    (k : ∀ τ τ1 own own1 x v H1 M1, SRep W τ1 σ H1 own1 → RepA τ1 σ H1 own1 x v M1 → BA x → Stp tc τ own H τ1 own1 H1 → Src tc own H M1 → FinS W Wx tc ag D τ own σ H (g x τ1) → Q' v H1) : tG W Wx tca RepA BA f σ H Q' := by
  obtain ⟨τ, own, S, hF⟩ := h
  replace hF : FinS W Wx tc ag D τ own σ H (.of (f τ) g) := hF
  refine ⟨τ, own, S, ?_⟩
  cases ef : f τ with
  | stk =>
    rw [ef] at hF
    exact hF
  | exc x τ' =>
    rw [ef] at hF
    exact fun cls d H' own' S' st' xr => hF cls d σ H' own' S' (.of (st'.mono h1)) xr
  | ok x τ' =>
    rw [ef] at hF
    exact fun v H' own' M S' r' b' st' sr' => k τ τ' own own' x v H' M S' r' b' (st'.mono h1) (sr'.mono h1) hF
/-- .. behind what ran already -/
theorem s_run2 {α β : Type} {RepA : Loc → L2.St → Hp → Own → α → β → List Addr → Prop} {BA : α → Prop} {f : Loc → Res α} {g : α → Loc → SRes} {Q' : β → Hp → Prop} (h1 : ∀ i, tca i → tc i) (S1 : SRep W τ1 σ H1 own1) (st1 : Stp tc τ own H τ1 own1 H1) (hF : FinS W Wx tc ag D τ own σ H (.of (f τ1) g))
    (k : ∀ τ2 own2 x v H2 M2, SRep W τ2 σ H2 own2 → RepA τ2 σ H2 own2 x v M2 → BA x → Stp tca τ1 own1 H1 τ2 own2 H2 → Src tca own1 H1 M2 → Stp tc τ own H τ2 own2 H2 → Src tc own H M2 → FinS W Wx tc ag D τ own σ H (g x τ2) → Q' v H2) : tG W Wx tca RepA BA f σ H1 Q' := by
  refine ⟨τ1, own1, S1, ?_⟩
  cases ef : f τ1 with
  | stk =>
    rw [ef] at hF
    exact hF
  | exc x τ' =>
    rw [ef] at hF
    exact fun cls d H' own' S' st' xr => hF cls d σ H' own' S' (.of (st1.trans (st'.mono h1))) xr
  | ok x τ' =>
    rw [ef] at hF
    exact fun v H' own' M S' r' b' st' sr' => k τ' own' x v H' M S' r' b' st' sr' (st1.trans (st'.mono h1)) (st1.src_trans (sr'.mono h1)) hF
theorem ss_nil : PSsv W X Wx nob nob [] (fun τ => .nx τ) := PSs.imp' pss_nil fun D σ H ⟨τ, own, S, hF⟩ => hF σ H own S StpS.refl
theorem ss_cons (h1 : PSv W X Wx tca aga st f) (h2 : PSsv W X Wx tcb agb ss g) : PSsv W X Wx (fun i => tca i ∨ tcb i) (fun i => aga i ∨ agb i) (st :: ss) (fun τ => (f τ).seq g) :=
  PSs.imp' (pss_cons h1 h2) fun D σ H ⟨τ, own, S, hF⟩ => ⟨τ, own, S, by
    replace hF : FinS W Wx (fun i => tca i ∨ tcb i) (fun i => aga i ∨ agb i) D τ own σ H ((f τ).seq g) := hF
    cases ef : f τ with
    | nx τ' =>
      rw [ef] at hF
      exact fun σ' H' own' S' st' => ⟨τ', own', S', FinS.tail (st'.mono (fun _ h => .inl h) fun _ h => .inl h) (fun _ h => .inr h) (fun _ h => .inr h) hF⟩
    | brk τ' =>
      rw [ef] at hF
      exact FinS.mono (fun _ h => .inl h) (fun _ h => .inl h) (D := D) hF
    | cont τ' =>
      rw [ef] at hF
      exact FinS.mono (fun _ h => .inl h) (fun _ h => .inl h) (D := D) hF
    | ret c τ' =>
      rw [ef] at hF
      exact FinS.mono (fun _ h => .inl h) (fun _ h => .inl h) (D := D) hF
    | exc x τ' =>
      rw [ef] at hF
      exact FinS.mono (fun _ h => .inl h) (fun _ h => .inl h) (D := D) hF
    | stk =>
      rw [ef] at hF
      exact hF⟩
/-- a slot's thing is data from here -/
def fzS (i : Nat) (τ : Loc) : SRes := match look τ i with
  | .un => .stk
  | c => .nx (τ.set i (.pu c.fz))
theorem ss_fz (ok : W.Ok) (h : PSsv W X Wx tcb agb ss g) : PSsv W X Wx (fun j => j = i ∨ tcb j) agb ss (fun τ => (fzS i τ).seq g) := by
  refine ⟨fun pins s σ H D I ⟨τ, own, S, hF⟩ => ?_⟩
  replace hF : FinS W Wx (fun j => j = i ∨ tcb j) agb D τ own σ H ((fzS i τ).seq g) := hF
  rcases S.at_ i with ⟨e, _⟩ | ⟨v, e, r⟩
  · unfold fzS at hF
    rw [e] at hF
    exact hF.elim
  · have hF' : FinS W Wx (fun j => j = i ∨ tcb j) agb D τ own σ H (g (τ.set i (.pu (look τ i).fz))) := by
      unfold fzS at hF
      cases hc : look τ i with
      | un => rw [hc] at r; exact r.elim
      | _ =>
        rw [hc] at hF
        exact hF
    obtain ⟨H2, I2, rd, kk, off, dm⟩ := freeze ok (look τ i) v (own i) H I r (S.nd i)
    have il : i < τ.length := look_lt fun z => by rw [z] at r; exact r
    refine h.run pins s σ H2 D I2 ⟨τ.set i (.pu (look τ i).fz), fun j => if j = i then [] else own j, ⟨fun j => ?_, fun j => ?_, fun j k b n hb hc => ?_, tabs_mu S.tb fun b o eb nm => ?_, by have := S.ln; simpa using this⟩, FinS.tail ⟨⟨fun b o eb nt hb => ?_, dm, fun j hj => ?_, fun j b hj hb => ?_⟩, rfl, fun _ _ => rfl⟩ (fun _ h => .inr h) (fun _ h => h) hF'⟩
    · try dsimp only
      rw [look_set]
      by_cases z : j = i
      · subst z
        rw [if_pos ⟨rfl, il⟩, if_pos rfl]
        exact .inr ⟨v, e, rfl, rd⟩
      · rw [if_neg fun w => z w.1.symm, if_neg z]
        refine (S.at_ j).imp (fun h => h) fun ⟨w, e1, r1⟩ => ⟨w, e1, RepC.keep ok kk _ _ _ (fun b hb => off b fun hi => S.dj j i b z hb hi) r1⟩
    · try dsimp only
      by_cases z : j = i
      · rw [if_pos z]
        simp
      · rw [if_neg z]
        exact S.nd j
    · try dsimp only at hb hc
      by_cases z : j = i
      · rw [if_pos z] at hb
        cases hb
      · rw [if_neg z] at hb
        by_cases z' : k = i
        · rw [if_pos z'] at hc
          cases hc
        · rw [if_neg z'] at hc
          exact S.dj j k b n hb hc
    · by_cases hb : b ∈ own i
      · obtain ⟨o', e', m⟩ := S.mu hb
        rw [eb] at e'
        cases e'
        exact (nm m).elim
      · rw [off b hb]
        exact eb
    · rw [off b (hb i (.inl rfl))]
      exact eb
    · have z : j ≠ i := fun w => hj (.inl w)
      try dsimp only
      rw [if_neg z, look_set, if_neg fun w => z w.1.symm]
      exact ⟨rfl, rfl⟩
    · try dsimp only at hb
      by_cases z : j = i
      · rw [if_pos z] at hb
        cases hb
      · rw [if_neg z] at hb
        exact .inl ⟨j, hj, hb⟩
/-- a slot's thing is not needed any more -/
theorem ss_kill (h : PSsv W X Wx tcb agb ss g) : PSsv W X Wx (fun j => j = i ∨ tcb j) agb ss (fun τ => SRes.seq (.nx (τ.set i .un)) g) := by
  refine ⟨fun pins s σ H D I ⟨τ, own, S, hF⟩ => ?_⟩
  exact h.run pins s σ H D I ⟨_, _, S.drop i, FinS.tail (.of (Stp.drop (.inl rfl))) (fun _ h => .inr h) (fun _ h => h) hF⟩
/-! ### simple ones -/
theorem s_pass : PSv W X Wx nob nob (.Pass pos) (fun τ => .nx τ) := PS.imp' ps_pass fun D σ H ⟨τ, own, S, hF⟩ => hF σ H own S StpS.refl
theorem s_doc {y : Str} {j : Nat} : PSv W X Wx nob nob (.Expr (.Constant (.str y) j pos) pos') (fun τ => .nx τ) := PS.imp' ps_doc fun D σ H ⟨τ, own, S, hF⟩ => hF σ H own S StpS.refl
theorem s_brk : PSv W X Wx nob nob (.Break pos) (fun τ => .brk τ) := PS.imp' ps_break fun D σ H ⟨τ, own, S, hF⟩ => hF σ H own S StpS.refl
theorem s_cont : PSv W X Wx nob nob (.Continue pos) (fun τ => .cont τ) := PS.imp' ps_continue fun D σ H ⟨τ, own, S, hF⟩ => hF σ H own S StpS.refl
theorem keep_rep {r : Rv} {c : C} {v : V} {M : List Addr} (h : RvRep W τ σ H own r v M) (e : r.keep = some c) : RepC W H c v M ∧ M.Nodup ∧ ∀ j b, b ∈ M → b ∈ own j → False := by
  cases r with
  | pu d =>
    cases e
    have z := h.1
    subst z
    exact ⟨⟨rfl, h.2⟩, by simp, fun j b hb => by cases hb⟩
  | fr c' =>
    cases e
    exact ⟨h.1, h.2.1, h.2.2⟩
  | ow c => cases e
  | bo i ph c => cases e
theorem s_asg {e : Expr} (hN : X.N.Nodup) (hi : X.N[i]? = some x) (hx : L2.Loc X.env.scope x) (hf : X.fn x = true ∨ X.env.scope.names.lookup x = some .local) (he : PEv W X Wx tc R e fe) (hs : swapsWith e (some (.Name x pos')) pos.line X.env = pure false) :
    PSv W X Wx (fun j => tc j ∨ j = i) (· = i) (.Assign [.Name x pos'] e pos) (fun τ => .of (fe τ) fun r τ1 => .of (optR r.keep τ1) fun c τ1 => .nx (τ1.set i c)) :=
  PS.imp' (ps_set hN hi hx he hs hf) fun D σ H h => s_run (fun _ h => .inl h) h fun τ τ1 own own1 r v H1 M1 S1 r1 b1 st1 s1 hF => by
    cases ek : r.keep with
    | none =>
      rw [ek] at hF
      exact hF.elim
    | some c =>
      rw [ek] at hF
      obtain ⟨q1, q2, q3⟩ := keep_rep r1 ek
      exact hF _ H1 _ (S1.put q1 q2 q3) ⟨st1.put (.inr rfl) s1, set_off.1, set_off.2⟩
theorem s_asgT (ok : W.Ok) {tge e : Expr} {tg : Tg} (he : PEv W X Wx tc R e fe) (hg : PGv W X tge tg) (hs : swapsWithSole [tge] e pos.line X.env = pure false) (hw : swappedStores [tge] e X.env = pure none) (h1 : (assignEach [tge] X.env).map (·.2) = [assign tge X.env]) :
    PSv W X Wx (fun j => tc j ∨ tg.tc j) tg.nm (.Assign [tge] e pos) (fun τ => .of (toF (fe τ)) fun d τ1 => .of (optR (asgT tg d τ1) τ1) fun τ2 _ => .nx τ2) :=
  PS.imp' (ps_asg (pd_of ok he) hg hs hw h1) fun D σ H h => s_run (RepA := DRep W) (BA := fun _ => True) (fun _ h => .inl h) h fun τ τ1 own own1 d v H1 M1 S1 r1 b1 st1 s1 hF => by
    cases ek : asgT tg d τ1 with
    | none =>
      rw [ek] at hF
      exact hF.elim
    | some τ2 =>
      rw [ek] at hF
      exact ⟨τ1, own1, d, τ2, S1, r1.2, ek, fun σ' H' own' S' st' => hF σ' H' own' S' ((StpS.of st1).trans (st'.mono (fun _ h => .inr h) fun _ h => h))⟩
theorem s_ex {e : Expr} (he : PEv W X Wx tc R e fe) (hs : swapsWith e none pos.line X.env = pure false) : PSv W X Wx tc nob (.Expr e pos) (fun τ => .of (fe τ) fun _ τ1 => .nx τ1) :=
  PS.imp' (ps_expr he hs) fun D σ H h => s_run (fun _ h => h) h fun τ τ1 own own1 r v H1 M1 S1 r1 b1 st1 s1 hF => hF σ H1 own1 S1 (.of st1)
theorem s_ret {e : Expr} (he : PEv W X Wx tc R e fe) : PSv W X Wx tc nob (.Return (some e) pos) (fun τ => .of (fe τ) fun r τ1 => .of (optR r.keep τ1) fun c τ1 => .ret c τ1) :=
  PS.imp' (ps_ret he) fun D σ H h => s_run (fun _ h => h) h fun τ τ1 own own1 r v H1 M1 S1 r1 b1 st1 s1 hF => by
    cases ek : r.keep with
    | none =>
      rw [ek] at hF
      exact hF.elim
    | some c =>
      rw [ek] at hF
      exact hF v σ H1 own1 M1 S1 (keep_rep r1 ek) (.of st1) s1
theorem s_retN : PSv W X Wx nob nob (.Return none pos) (fun τ => .ret (.pu .non) τ) := PS.imp' ps_retN fun D σ H ⟨τ, own, S, hF⟩ => hF .non σ H own [] S ⟨⟨rfl, rfl⟩, by simp, fun i b hb => by cases hb⟩ StpS.refl fun b hb => by cases hb
theorem s_ife {c : Expr} {ft : Loc → Res Bool} (hc : PTv W X Wx tcc c ft) (ha : PSsv W X Wx tca aga sa fa) (hb : PSsv W X Wx tcb agb sb fb) :
    PSv W X Wx (fun i => tcc i ∨ tca i ∨ tcb i) (fun i => aga i ∨ agb i) (.If c sa sb pos) (fun τ => .of (ft τ) fun c τ1 => if c then fa τ1 else fb τ1) :=
  PS.imp' (ps_if hc ha hb) fun D σ H h => s_run (RepA := ERep) (BA := fun _ => True) (fun _ h => .inl h) h fun τ τ1 own own1 b v H1 M1 S1 r1 b1 st1 s1 hF => by
    have e : v = b := r1.2
    subst e
    cases v with
    | true => exact ⟨τ1, own1, S1, FinS.tail (.of st1) (fun _ h => .inr (.inl h)) (fun _ h => .inl h) hF⟩
    | false => exact ⟨τ1, own1, S1, FinS.tail (.of st1) (fun _ h => .inr (.inr h)) (fun _ h => .inr h) hF⟩
theorem s_aug (ok : W.Ok) {e : Expr} (hN : X.N.Nodup) (hi : X.N[i]? = some x) (hx : L2.Loc X.env.scope x) (hf : X.fn x = true ∨ X.env.scope.names.lookup x = some .local) (he : PEv W X Wx tc R e fe) :
    PSv W X Wx (fun j => tc j ∨ j = i) (· = i) (.AugAssign (.Name x pos') .Add e pos) (fun τ => match look τ i with
      | .pu (.int a) => .of (toF (fe τ)) fun d τ1 => (match d with
        | .int b => .nx (τ1.set i (.pu (.int (a + b))))
        | _ => .stk)
      | _ => .stk) :=
  PS.imp' (ps_aug hN hi hx (pd_of ok he) ip_add hf) fun D σ H ⟨τ, own, S, hF⟩ => by
    dsimp only at hF
    split at hF
    · rename_i a hl
      rcases S.at_ i with ⟨z, _⟩ | ⟨v, e1, r⟩
      · rw [hl] at z
        cases z
      · rw [hl] at r
        have q : v = _ := r.2
        subst q
        refine ⟨_, e1, s_run2 (tc := fun j => tc j ∨ j = i) (RepA := DRep W) (BA := fun _ => True) (fun _ h => .inl h) S Stp.refl hF fun τ2 own2 d v2 H2 M2 S2 r2 b2 _ _ st2 sr2 hF2 => ?_⟩
        split at hF2
        · rename_i b
          have q : v2 = _ := r2.2
          subst q
          exact ⟨a, b, rfl, rfl, hF2 _ H2 _ (S2.put (i := i) (c := .pu (.int (a + b))) (v := .int (a + b)) (M := []) ⟨rfl, rfl⟩ (by simp) fun j b hb => by cases hb) ⟨st2.put (.inr rfl) (fun b hb => by cases hb), set_off.1, set_off.2⟩⟩
        · exact hF2.elim
    · exact hF.elim
/-! ### fields -/
theorem rvOf_bo' {q : Nat × List Sp × C} {k : Nat} {ns : List Str} {cs : List C} (h : q.2.2 = .obj k ns cs) : rvOf q = .bo q.1 q.2.1 (.obj k ns cs) := by
  obtain ⟨a, b, c⟩ := q
  have h' : c = .obj k ns cs := h
  subst h'
  rfl
theorem s_setF (ok : W.Ok) (wc : W.Cls) (hK : X.K = W.K) {e o : Expr} {f : Str} {fp : Loc → Res (Nat × List Sp × C)} (he : PEv W X Wx tca R e fe) (ho : PPv W X Wx tcb i o fp) (hs : swapsWith e (some (.Attribute o f pos')) pos.line X.env = pure false) (hf : ∀ k, f ∈ W.flds k) :
    PSv W X Wx (fun j => tca j ∨ tcb j ∨ j = i) nob (.Assign [.Attribute o f pos'] e pos) (fun τ => .of (fe τ) fun r τ1 => .of (optR r.keep τ1) fun c τ1 => .of (fp τ1) fun q τ2 => .of (optR (setF q.2.2 f c) τ2) fun y τ2 => .nx (setP q y τ2)) :=
  PS.imp' (ps_fld ho he hs) fun D σ H h => s_run (fun _ h => .inl h) h fun τ τ1 own own1 r v H1 M1 S1 r1 b1 st1 s1 hF => by
    cases ek : r.keep with
    | none =>
      rw [ek] at hF
      exact hF.elim
    | some c =>
      rw [ek] at hF
      obtain ⟨k1, k2, k3⟩ := keep_rep r1 ek
      -- as a fresh thing over the place's reading
      have rfr : RvRep W τ1 σ H1 own1 (.fr c) v M1 := ⟨k1, k2, k3⟩
      refine s_run2 (RepA := PRep W) (BA := PRoot i) (fun _ h => .inr (.inl h)) S1 st1 hF fun τ2 own2 q x H2 M2 S2 r2 b2 stb srb st2 sr2 hF2 => ?_
      have rfr2 := rfr.step ok S1 (R := nob) trivial stb (fun _ h => h.elim)
      cases es : setF q.2.2 f c with
      | none =>
        rw [es] at hF2
        exact hF2.elim
      | some y =>
        rw [es] at hF2
        unfold setF at es
        split at es
        · rename_i kk ns cs hq
          split at es
          · rename_i hl
            cases es
            have hb : q.1 = i := b2
            have rb := r2.1
            rw [rvOf_bo' hq] at rb
            obtain ⟨a, dx, fs, rfl, ha, hl2, own3, S3, st3⟩ := fld_put (tc := fun j => tca j ∨ tcb j ∨ j = i) (f := f) ok S2 rb st2 (.inr (.inr hb)) rfr2.1 rfr2.2.1 rfr2.2.2 s1 hf hl
            obtain ⟨cl, na⟩ := wc kk f (hf kk)
            exact ⟨a, _, dx, fs, rfl, ha, by rw [hK]; exact cl, by rw [hK]; exact na, hl2, hF2 σ _ own3 S3 (.of st3)⟩
          · cases es
        · cases es
end
end DE
end
section
set_option Elab.async false
set_option linter.all false
set_option maxRecDepth 100000
set_option maxHeartbeats 2000000
/-! DE24: x[k] = e; p.f += e. -/
namespace DE
open PySem L2 PySem.SeqAt PyProof.Rows

section
variable {W : Wd} {X : Cx} {Wx : WX} {tc tc' ag ag' tca tcb tcc aga agb R Ra Rb : Nat → Prop} {τ τ1 : Loc} {own own1 : Own} {σ σ1 : L2.St} {H H1 : Hp} {D : Ends} {e o k : Expr} {fe : Loc → Res Rv} {pos pos' tpos p2 : Pos} {i : Nat} {x : Str}
theorem RepCs.put {H : Hp} {c : C} {y : V} {Mc : List Addr} (rc : RepC W H c y Mc) (ndc : Mc.Nodup) : ∀ {cs : List C} {vs : List V} {M : List Addr} {j : Nat}, RepCs W H cs vs M → M.Nodup → (∀ b ∈ M, b ∉ Mc) → j < cs.length →
    ∃ M', RepCs W H (cs.set j c) (vs.set j y) M' ∧ M'.Nodup ∧ ∀ b ∈ M', b ∈ M ∨ b ∈ Mc
  | [], _, _, _, _, _, _, h => by simp at h
  | d :: cs, _, _, 0, r, nd, dj, _ => by
    obtain ⟨v, q, M1, M2, rfl, rfl, h1, h2⟩ := r
    obtain ⟨n1, n2, n3⟩ := List.nodup_append.mp nd
    refine ⟨Mc ++ M2, ⟨y, q, Mc, M2, rfl, rfl, rc, h2⟩, List.nodup_append.mpr ⟨ndc, n2, fun a ha b hb z => dj b (by simp [hb]) (z ▸ ha)⟩, fun b hb => ?_⟩
    rcases List.mem_append.mp hb with hb | hb
    · exact .inr hb
    · exact .inl (by simp [hb])
  | d :: cs, _, _, j + 1, r, nd, dj, hj => by
    obtain ⟨v, q, M1, M2, rfl, rfl, h1, h2⟩ := r
    obtain ⟨n1, n2, n3⟩ := List.nodup_append.mp nd
    obtain ⟨M', q1, q2, q3⟩ := RepCs.put rc ndc h2 n2 (fun b hb => dj b (by simp [hb])) (show j < cs.length by simpa using hj)
    refine ⟨M1 ++ M', ⟨v, _, M1, M', rfl, rfl, h1, q1⟩, List.nodup_append.mpr ⟨n1, q2, fun a ha b hb z => ?_⟩, fun b hb => ?_⟩
    · subst z
      rcases q3 a hb with hb | hb
      · exact n3 a ha a hb rfl
      · exact dj a (by simp [ha]) hb
    · rcases List.mem_append.mp hb with hb | hb
      · exact .inl (by simp [hb])
      · rcases q3 b hb with hb | hb
        · exact .inl (by simp [hb])
        · exact .inr hb
theorem RepCs.snoc {H : Hp} {c : C} {y : V} {Mc : List Addr} (rc : RepC W H c y Mc) (ndc : Mc.Nodup) {cs : List C} {vs : List V} {M : List Addr} (r : RepCs W H cs vs M) (nd : M.Nodup) (dj : ∀ b ∈ M, b ∉ Mc) :
    ∃ M', RepCs W H (cs ++ [c]) (vs ++ [y]) M' ∧ M'.Nodup ∧ ∀ b ∈ M', b ∈ M ∨ b ∈ Mc :=
  ⟨M ++ (Mc ++ []), r.append ⟨y, [], Mc, [], rfl, rfl, rc, ⟨rfl, rfl⟩⟩, List.nodup_append.mpr ⟨nd, by simpa using ndc, fun a ha b hb z => dj a ha (by simpa [z] using hb)⟩, fun b hb => by
    rcases List.mem_append.mp hb with hb | hb
    · exact .inl hb
    · exact .inr (by simpa using hb)⟩
/-- the keys and values of a dict with an item put in -/
theorem putK_rep {kvs : List (Key × V)} {k : Key} {y : V} : (∃ j, keyAt (dKey k) (kvs.map (fun p => dKey p.1)) 0 = some j ∧ j < kvs.length ∧ (putK kvs k y).map (fun p => dKey p.1) = kvs.map (fun p => dKey p.1) ∧ ((kvs.map (·.1)).Nodup → (putK kvs k y).map (·.2) = (kvs.map (·.2)).set j y)) ∨
    (keyAt (dKey k) (kvs.map (fun p => dKey p.1)) 0 = none ∧ putK kvs k y = kvs ++ [(k, y)]) := by
  cases e : keyAt (dKey k) (kvs.map (fun p => dKey p.1)) 0 with
  | none =>
    refine .inr ⟨rfl, putK_new fun hm => ?_⟩
    have key : ∀ (l : List (Key × V)) (n : Nat), k ∈ l.map (·.1) → keyAt (dKey k) (l.map (fun p => dKey p.1)) n ≠ none := fun l => by
      induction l with
      | nil => intro n h; simp at h
      | cons p l ih =>
        intro n h
        simp only [List.map_cons, keyAt, dkey_eqb]
        by_cases z : p.1 = k
        · simp [z]
        · simp only [z, decide_false, Bool.false_eq_true, if_false]
          refine ih (n + 1) ?_
          rcases List.mem_cons.mp h with h | h
          · exact (z h.symm).elim
          · exact h
    exact key kvs 0 hm e
  | some j =>
    refine .inl ⟨j, rfl, ?_, ?_, fun nd => ?_⟩
    · have := keyAt_lt e
      simpa using this
    · have hp : (putK kvs k y).map (·.1) = kvs.map (·.1) := by
        have hk : (kvs.any fun kv => kv.1 = k) = true := by
          have key : ∀ (l : List (Key × V)) (n j : Nat), keyAt (dKey k) (l.map (fun p => dKey p.1)) n = some j → (l.any fun kv => kv.1 = k) = true := fun l => by
            induction l with
            | nil => intro n j h; simp [keyAt] at h
            | cons p l ih =>
              intro n j h
              simp only [List.map_cons, keyAt, dkey_eqb] at h
              by_cases z : p.1 = k
              · simp [z]
              · simp only [z, decide_false, Bool.false_eq_true, if_false] at h
                simp only [List.any_cons, ih _ _ h, Bool.or_true]
          exact key kvs 0 j e
        unfold putK
        simp only [hk, if_true, List.map_map]
        apply List.map_congr_left
        intro p hp
        by_cases z : p.1 = k <;> simp [z]
      have : (putK kvs k y).map (fun p => dKey p.1) = ((putK kvs k y).map (·.1)).map dKey := by rw [List.map_map]; rfl
      rw [this, hp, List.map_map]
      rfl
    · have key : ∀ (l : List (Key × V)) (n j : Nat), (l.map (·.1)).Nodup → keyAt (dKey k) (l.map (fun p => dKey p.1)) n = some j → (l.map fun kv => if kv.1 = k then (kv.1, y) else kv).map (·.2) = (l.map (·.2)).set (j - n) y := fun l => by
        induction l with
        | nil => intro n j _ h; simp [keyAt] at h
        | cons p l ih =>
          intro n j nd h
          simp only [List.map_cons, keyAt, dkey_eqb] at h
          have nd' := List.nodup_cons.mp nd
          by_cases z : p.1 = k
          · simp only [z, decide_true, if_true] at h
            cases h
            simp only [List.map_cons, z, if_true, Nat.sub_self, List.set_cons_zero]
            congr 1
            rw [List.map_map]
            apply List.map_congr_left
            intro q hq
            have : q.1 ≠ k := fun w => nd'.1 (by show p.1 ∈ _; rw [z, ← w]; exact List.mem_map.mpr ⟨q, hq, rfl⟩)
            simp [this]
          · simp only [z, decide_false, Bool.false_eq_true, if_false] at h
            have h1 := (keyAt_val h).1
            have e2 : j - n = (j - (n + 1)) + 1 := by omega
            simp only [List.map_cons, z, if_false, e2, List.set_cons_succ]
            rw [ih (n + 1) j nd'.2 h]
      have hk : (kvs.any fun kv => kv.1 = k) = true := by
        have key : ∀ (l : List (Key × V)) (n j : Nat), keyAt (dKey k) (l.map (fun p => dKey p.1)) n = some j → (l.any fun kv => kv.1 = k) = true := fun l => by
          induction l with
          | nil => intro n j h; simp [keyAt] at h
          | cons p l ih =>
            intro n j h
            simp only [List.map_cons, keyAt, dkey_eqb] at h
            by_cases z : p.1 = k
            · simp [z]
            · simp only [z, decide_false, Bool.false_eq_true, if_false] at h
              simp only [List.any_cons, ih _ _ h, Bool.or_true]
        exact key kvs 0 j e
      unfold putK
      simp only [hk, if_true]
      have := key kvs 0 j nd e
      simpa using this
/-- x[k] = v, a list or a dict -/
theorem ps_setx {td ty tv : TE} {value : Expr} (hu : X.A.units + 1 < cLine) (ho : PE X o td) (hi : PE X k ty) (hv : PE X value tv) (hs : swapsWith value (some (.Subscript o k pos')) pos.line X.env = pure false) :
    PS X (.Assign [.Subscript o k pos'] value pos) (fun D σ H => tv σ H fun v H1 => td σ H1 fun x H2 => ty σ H2 fun y H3 => (∃ a H4, x = .ref a ∧ DPut H3 a y v H4 ∧ D.nx σ H4) ∨ rSetL x y v H3 fun H4 => D.nx σ H4) := by
  refine ⟨fun pins s σ H D I h => ?_⟩
  refine wpAny_Assign_Subscript (thn (hv.run pins s σ H _ I h) fun r s1 ⟨v, H1, I1, rv, q1⟩ => thn (ho.run pins s1 σ H1 _ I1 q1) fun u s2 ⟨x, H2, I2, rx, q2⟩ => thn (hi.run pins s2 σ H2 _ I2 q2) fun iv s3 ⟨y, H3, I3, ry, q3⟩ => ?_) hs
  rcases q3 with ⟨a, H4, ex, g, q3⟩ | q3
  · subst ex
    obtain rfl : u = Value.ref a := rx
    exact d_setItem hu I3 g ry rv fun s4 I4 => ⟨σ, H4, I4, q3⟩
  · exact wpAny_mono (set_list pins s3 σ H3 x y v u iv r _ I3 rx ry rv q3) (fun _ s' ⟨H', I', q⟩ => ⟨σ, H', I', q⟩) fun _ _ z => z
/-- what is put into a lent list or dict -/
theorem set_put (ok : W.Ok) {τ0 : Loc} {own0 : Own} {H0 : Hp} {i : Nat} {ph : List Sp} {c0 c1 c : C} {v y w : V} {M Mc : List Addr} {d : DE.D} (S : SRep W τ σ H own) (r : RvRep W τ σ H own (.bo i ph c0) v M) (st : Stp tc τ0 own0 H0 τ own H) (hi : tc i)
    (rc : RepC W H c y Mc) (ndc : Mc.Nodup) (djc : ∀ j b, b ∈ Mc → b ∈ own j → False) (sr : Src tc own0 H0 Mc) (rd : RepD W H d w) (e : setX c0 d c = some c1) :
    ∃ a u, v = .ref a ∧ ((DPut H a w y (upd H a u)) ∨ rSetL v w y H fun H4 => H4 = upd H a u) ∧ ∃ own', SRep W (τ.set i ((look τ i).set ph c1)) σ (upd H a u) own' ∧ Stp tc τ0 own0 H0 (τ.set i ((look τ i).set ph c1)) own' (upd H a u) := by
  obtain ⟨vi, Mo, N1, N2, q1, q2, q3, q4⟩ := S.bo ok r
  -- the common part
  have fin : ∀ (a : Addr) (u0 u : HO), H a = some u0 → isMu u0 → (∀ Mx, RepC W H c0 v Mx → Mx.Nodup → (∀ b ∈ Mx, b ∈ own i) → ∃ M1 Mn, Mx = a :: M1 ∧ a ∉ Mn ∧ Mn.Nodup ∧ (∀ b ∈ Mn, b ∈ M1 ∨ b ∈ Mc) ∧ ∀ kk : Keeps H (upd H a u), RepC W (upd H a u) c1 v (a :: Mn)) →
      ∃ own', SRep W (τ.set i ((look τ i).set ph c1)) σ (upd H a u) own' ∧ Stp tc τ0 own0 H0 (τ.set i ((look τ i).set ph c1)) own' (upd H a u) := fun a u0 u ha mu hh => by
    have kk : Keeps H (upd H a u) := upd_keeps ha mu
    refine put_bo ok S r st hi kk (tabs_mu S.tb fun b o eb nm => ?_) (fun b hb => ?_) fun Mx rx ndx inx => ?_
    · rw [upd_ne]
      · exact eb
      · rintro rfl
        rw [ha] at eb
        cases eb
        exact nm mu
    · by_cases z : b = a
      · rw [z, upd_same]
        simp
      · rw [upd_ne z]
        exact hb
    · obtain ⟨M1, Mn, rfl, g1, g2, g3, g4⟩ := hh Mx rx ndx inx
      refine ⟨a :: Mn, g4 kk, List.nodup_cons.mpr ⟨g1, g2⟩, fun b hb _ => upd_ne fun z => hb (by simp [z]), fun b hb => ?_⟩
      rcases List.mem_cons.mp hb with z | hb
      · exact .inl (by simp [z])
      · rcases g3 b hb with z | z
        · exact .inl (by simp [z])
        · exact .inr ⟨fun j hj => djc j b z hj, sr b z⟩
  unfold setX at e
  split at e
  · rename_i cs j
    obtain ⟨n, hn, rfl⟩ := Option.map_eq_some_iff.mp e
    obtain ⟨a, vs, M', rfl, rfl, ha, hcs⟩ := q3
    have lv := RepCs.length hcs
    have hnl : n < cs.length := by
      unfold ixN at hn
      split at hn
      · split at hn
        · cases hn
          omega
        · cases hn
      · split at hn
        · cases hn
          omega
        · cases hn
    have qw : w = .int j := rd
    subst qw
    refine ⟨a, .lst (vs.set n y), rfl, .inr ⟨a, vs, j, n, rfl, rfl, ha, by rw [lv, ← ixs_eq]; exact hn, rfl⟩, fin a _ _ ha trivial fun Mx rx ndx inx => ?_⟩
    obtain ⟨a', vs', Mx', e1, rfl, ha', hcs'⟩ := rx
    cases e1
    rw [ha] at ha'
    cases ha'
    obtain ⟨na, ndx'⟩ := List.nodup_cons.mp ndx
    obtain ⟨Mn, g1, g2, g3⟩ := RepCs.put rc ndc hcs' ndx' (fun b hb hc => djc i b hc (inx b (by simp [hb]))) hnl
    have aM : a ∉ Mn := fun z => by
      rcases g3 a z with z | z
      · exact na z
      · exact djc i a z (inx a (by simp))
    exact ⟨Mx', Mn, rfl, aM, g2, g3, fun kk => ⟨a, _, Mn, rfl, rfl, upd_same, RepCs.keep ok kk _ _ _ (fun b hb => upd_ne fun z => aM (z ▸ hb)) g1⟩⟩
  · split at e
    · rename_i hf
      cases e
      obtain ⟨a, kvs, M', rfl, rfl, ha, hks, hcs⟩ := q3
      have lv := RepCs.length hcs
      obtain ⟨key, rfl, rfl⟩ := dkey_eq hf.1 rd
      have nd : (kvs.map (·.1)).Nodup := by
        have h2 := hf.2.1
        rw [hks] at h2
        have e2 : kvs.map (fun p => dKey p.1) = (kvs.map (·.1)).map dKey := by rw [List.map_map]; rfl
        rw [e2] at h2
        exact key_nodup h2
      refine ⟨a, .dK (putK kvs key y), rfl, .inl (.inl ⟨kvs, key, ha, rfl, big_line' (by have := hf.2.2; simp at lv; omega), rfl⟩), fin a _ _ ha trivial fun Mx rx ndx inx => ?_⟩
      obtain ⟨a', kvs', Mx', e1, rfl, ha', _, hcs'⟩ := rx
      cases e1
      rw [ha] at ha'
      cases ha'
      obtain ⟨na, ndx'⟩ := List.nodup_cons.mp ndx
      have dj' : ∀ b ∈ Mx', b ∉ Mc := fun b hb hc => djc i b hc (inx b (by simp [hb]))
      rcases putK_rep (kvs := kvs) (k := key) (y := y) with ⟨j, hj, hjl, h1, h2⟩ | ⟨hj, h1⟩
      · obtain ⟨Mn, g1, g2, g3⟩ := RepCs.put (j := j) rc ndc hcs' ndx' dj' (by have l2 := RepCs.length hcs'; simp at l2; omega)
        have aM : a ∉ Mn := fun z => by
          rcases g3 a z with z | z
          · exact na z
          · exact djc i a z (inx a (by simp))
        refine ⟨Mx', Mn, rfl, aM, g2, g3, fun kk => ⟨a, _, Mn, rfl, rfl, upd_same, ?_, ?_⟩⟩
        · unfold dPut
          rw [hks, hj]
          exact h1.symm
        · unfold dPut
          rw [hks, hj, h2 nd]
          exact RepCs.keep ok kk _ _ _ (fun b hb => upd_ne fun z => aM (z ▸ hb)) g1
      · obtain ⟨Mn, g1, g2, g3⟩ := RepCs.snoc rc ndc hcs' ndx' dj'
        have aM : a ∉ Mn := fun z => by
          rcases g3 a z with z | z
          · exact na z
          · exact djc i a z (inx a (by simp))
        refine ⟨Mx', Mn, rfl, aM, g2, g3, fun kk => ⟨a, _, Mn, rfl, rfl, upd_same, ?_, ?_⟩⟩
        · unfold dPut
          rw [hks, hj, h1]
          simp
        · unfold dPut
          rw [hks, hj]
          have e9 : (putK kvs key y).map (·.2) = kvs.map (·.2) ++ [y] := by rw [h1]; simp
          rw [e9]
          exact RepCs.keep ok kk _ _ _ (fun b hb => upd_ne fun z => aM (z ▸ hb)) g1
    · cases e
  · cases e
theorem s_setX (ok : W.Ok) (hu : X.A.units + 1 < cLine) {e o k : Expr} {fp : Loc → Res (Nat × List Sp × C)} {fk : Loc → Res DE.D} (he : PEv W X Wx tca R e fe) (ho : PPv W X Wx tcb i o fp) (hk : PDv W X Wx tcc k fk) (hR : ¬ tcc i) (hs : swapsWith e (some (.Subscript o k pos')) pos.line X.env = pure false) :
    PSv W X Wx (fun j => tca j ∨ tcb j ∨ tcc j ∨ j = i) nob (.Assign [.Subscript o k pos'] e pos) (fun τ => .of (fe τ) fun r τ1 => .of (optR r.keep τ1) fun c τ1 => .of (fp τ1) fun q τ2 => .of (fk τ2) fun d τ3 => .of (optR (setX q.2.2 d c) τ3) fun y τ3 => .nx (setP q y τ3)) :=
  PS.imp' (ps_setx hu ho hk he hs) fun D σ H h => s_run (fun _ h => .inl h) h fun τ τ1 own own1 r v H1 M1 S1 r1 b1 st1 s1 hF => by
    cases ek : r.keep with
    | none =>
      rw [ek] at hF
      exact hF.elim
    | some c =>
      rw [ek] at hF
      obtain ⟨k1, k2, k3⟩ := keep_rep r1 ek
      have rfr : RvRep W τ1 σ H1 own1 (.fr c) v M1 := ⟨k1, k2, k3⟩
      refine s_run2 (RepA := PRep W) (BA := PRoot i) (fun _ h => .inr (.inl h)) S1 st1 hF fun τ2 own2 q x H2 M2 S2 r2 b2 stb srb st2 sr2 hF2 => ?_
      have rfr2 := rfr.step ok S1 (R := nob) trivial stb (fun _ h => h.elim)
      refine s_run2 (RepA := DRep W) (BA := fun _ => True) (fun _ h => .inr (.inr (.inl h))) S2 st2 hF2 fun τ3 own3 d w H3 M3 S3 r3 b3 stc src st3 sr3 hF3 => ?_
      have rfr3 := rfr2.step ok S2 (R := nob) trivial stc (fun _ h => h.elim)
      have hb : q.1 = i := b2
      have r2' := r2.1.step ok S2 (R := fun j => j = i) (rvOf_in hb) stc (fun j hj => by rw [hj]; exact hR)
      cases es : setX q.2.2 d c with
      | none =>
        rw [es] at hF3
        exact hF3.elim
      | some y =>
        rw [es] at hF3
        have hbo : rvOf q = .bo q.1 q.2.1 q.2.2 := by
          obtain ⟨qa, qb, qc⟩ := q
          cases qc <;> first | rfl | (simp [setX] at es)
        rw [hbo] at r2'
        obtain ⟨a, u, rfl, hput, own4, S4, st4⟩ := set_put (tc := fun j => tca j ∨ tcb j ∨ tcc j ∨ j = i) ok S3 r2' st3 (.inr (.inr (.inr hb))) rfr3.1 rfr3.2.1 rfr3.2.2 s1 r3.2 es
        have q := hF3 σ _ own4 S4 (.of st4)
        rcases hput with hput | hput
        · exact .inl ⟨a, _, rfl, hput, q⟩
        · obtain ⟨p', xs, k', j', h1, h2, h3, h4, h5⟩ := hput
          exact .inr ⟨p', xs, k', j', h1, h2, h3, h4, by rw [h5]; exact q⟩
end
end DE
end
section
set_option Elab.async false
set_option linter.all false
set_option maxRecDepth 100000
set_option maxHeartbeats 2000000
/-! DE25: loops. -/
namespace DE
open PySem L2 PySem.SeqAt PyProof.Rows

section
variable {W : Wd} {X : Cx} {Wx : WX} {tc tc' ag ag' tcI tca tcb tcc aga agb R Ra Rb : Nat → Prop} {iter tge c : Expr} {fi : Loc → Res (List D)} {ft : Loc → Res Bool} {fb : Loc → SRes} {pos : Pos} {body : List Stmt} {tg : Tg}
def forTurn (tg : Tg) (fb : Loc → SRes) (d : D) (τ : Loc) : SRes := .of (optR (asgT tg d τ) τ) fun τ' _ => fb τ'
/-- a walk first -/
theorem s_runI {g : List D → Loc → SRes} {Q : It → Hp → Prop} {D : Ends} {σ : L2.St} {H : Hp} (h1 : ∀ i, tca i → tc i) (h : tSv W Wx tc ag (fun τ => .of (fi τ) g) D σ H)
    (k : ∀ τ τ1 own own1 items J H1 A, SRep W τ1 σ H1 own1 → Stp tc τ own H τ1 own1 H1 → Wlk W items A H1 J → (∀ b ∈ A, (∃ o, H1 b = some o ∧ isMu o) ∧ ((∃ i, R i ∧ b ∈ own1 i) ∨ ∀ i, b ∉ own1 i)) → FinS W Wx tc ag D τ own σ H (g items τ1) → Q J H1) : tIv W Wx tca R fi σ H Q := by
  obtain ⟨τ, own, S, hF⟩ := h
  replace hF : FinS W Wx tc ag D τ own σ H (.of (fi τ) g) := hF
  refine ⟨τ, own, S, ?_⟩
  cases ef : fi τ with
  | stk =>
    rw [ef] at hF
    exact hF
  | exc x τ' =>
    rw [ef] at hF
    exact fun cls d H' own' S' st' xr => hF cls d σ H' own' S' (.of (st'.mono h1)) xr
  | ok items τ' =>
    rw [ef] at hF
    exact fun J H' own' A S' st' w hA => k τ τ' own own' items J H' A S' (st'.mono h1) w hA hF
theorem s_for (ok : W.Ok) (hp : PassesOwn (model X.prog X.w) X.A X.env X.xe) (hc : X.calm = true) (hi : PIv W X Wx tcI R tge iter fi) (hg : PGv W X tge tg) (hb : PSsv W X Wx tcb agb body fb) (hs : ∀ x, foldedSetIterable iter X.env x = pure x) (hR : ∀ i, R i → ¬ (tg.tc i ∨ tcb i)) :
    PSv W X Wx (fun i => tcI i ∨ tg.tc i ∨ tcb i) (fun i => tg.nm i ∨ agb i) (.For tge iter body [] pos) (fun τ => .of (fi τ) fun items τ1 => forLoop (forTurn tg fb) items τ1) :=
  PS.imp' (ps_for hp hc hi hg hb hs) fun D σ H h => s_runI (fun _ h => .inl h) h fun τ τ1 own own1 items J H1 A S1 st1 wk hA hF => by
    obtain ⟨G, Y, wkk, hG, hY⟩ := wk
    let tL : Nat → Prop := fun i => tg.tc i ∨ tcb i
    let aL : Nat → Prop := fun i => tg.nm i ∨ agb i
    let Pv : Nat → L2.St → Hp → Prop := fun i σ2 H2 => ∃ τi owni, SRep W τi σ2 H2 owni ∧ StpS tL aL τ1 own1 σ H1 τi owni σ2 H2 ∧ FinS W Wx (fun i => tcI i ∨ tg.tc i ∨ tcb i) aL D τ own σ H (forLoop (forTurn tg fb) (items.drop i) τi)
    have whole : ∀ {τi owni σ2 H2}, StpS tL aL τ1 own1 σ H1 τi owni σ2 H2 → StpS (fun i => tcI i ∨ tg.tc i ∨ tcb i) aL τ own σ H τi owni σ2 H2 := fun st => (StpS.of st1).trans (st.mono (fun _ h => .inr h) fun _ h => h)
    have stay : ∀ {τi owni σ2 H2}, StpS tL aL τ1 own1 σ H1 τi owni σ2 H2 → Keeps H1 H2 ∧ ∀ b ∈ A, H2 b = H1 b := fun {τi owni σ2 H2} st => by
      refine ⟨st.1.keeps S1, fun b hb => ?_⟩
      obtain ⟨⟨o, eb, mo⟩, hb2⟩ := hA b hb
      rw [eb]
      refine st.1.fr b o eb (mu_tbl mo) fun j hj hbj => ?_
      rcases hb2 with ⟨i, hi, hbi⟩ | hb2
      · by_cases z : i = j
        · subst z
          exact hR i hi hj
        · exact S1.dj i j b z hbi hbj
      · exact hb2 j hbj
    refine for_it wkk Pv ⟨τ1, own1, S1, StpS.refl, hF⟩ (fun i σ2 H2 hi ⟨τi, owni, Si, sti, hFi⟩ => ?_) (fun i x σ2 H2 H3 hi ⟨τi, owni, Si, sti, hFi⟩ y => ?_) (fun σ2 H2 ⟨τi, owni, Si, sti, hFi⟩ => ?_)
    · obtain ⟨k1, k2⟩ := stay sti
      exact hG H2 k1 k2
    · obtain ⟨k1, k2⟩ := stay sti
      obtain ⟨sm3, ⟨d, ed1, rd⟩, _⟩ := hY i H2 x H3 hi k1 k2 y
      have hdrop : items.drop i = d :: items.drop (i + 1) := by
        rw [List.drop_eq_getElem_cons hi]
        have : items[i]? = some items[i] := by simp [hi]
        rw [this] at ed1
        cases ed1
        rfl
      rw [hdrop] at hFi
      simp only [forLoop] at hFi
      unfold forTurn at hFi
      cases ea : asgT tg d τi with
      | none =>
        rw [ea] at hFi
        exact hFi.elim
      | some τa =>
        rw [ea] at hFi
        simp only [optR, SRes.of] at hFi
        have Si3 := Si.same ok sm3
        have st3 : StpS tL aL τ1 own1 σ H1 τi owni σ2 H3 := sti.trans (.of (Stp.same sm3))
        refine ⟨τi, owni, d, τa, Si3, rd, ea, fun σ4 H4 own4 S4 st4 => ⟨τa, own4, S4, ?_⟩⟩
        have stp4 : StpS tL aL τ1 own1 σ H1 τa own4 σ4 H4 := st3.trans (st4.mono (fun _ h => .inl h) fun _ h => .inl h)
        have up : ∀ {τb ownb σ5 H5}, StpS tcb agb τa own4 σ4 H4 τb ownb σ5 H5 → StpS tL aL τ1 own1 σ H1 τb ownb σ5 H5 := fun st => stp4.trans (st.mono (fun _ h => .inr h) fun _ h => .inr h)
        cases eb : fb τa with
        | stk =>
          rw [eb] at hFi
          exact hFi
        | nx τb =>
          rw [eb] at hFi
          exact fun σ5 H5 own5 S5 st5 => ⟨τb, own5, S5, up st5, hFi⟩
        | cont τb =>
          rw [eb] at hFi
          exact fun σ5 H5 own5 S5 st5 => ⟨τb, own5, S5, up st5, hFi⟩
        | brk τb =>
          rw [eb] at hFi
          exact fun σ5 H5 own5 S5 st5 => hFi σ5 H5 own5 S5 (whole (up st5))
        | ret cc τb =>
          rw [eb] at hFi
          exact fun v σ5 H5 own5 M S5 r5 st5 sr5 => hFi v σ5 H5 own5 M S5 r5 (whole (up st5)) ((whole stp4).1.src_trans (sr5.mono fun _ h => .inr (.inr h)))
        | exc x τb =>
          rw [eb] at hFi
          exact fun cls dd σ5 H5 own5 S5 st5 xr => hFi cls dd σ5 H5 own5 S5 (whole (up st5)) xr
    · rw [List.drop_length] at hFi
      exact hFi σ2 H2 owni Si (whole sti)
theorem s_while (ok : W.Ok) {n : Nat} (hp : PassesOwn (model X.prog X.w) X.A X.env X.xe) (hc : PTv W X Wx tcc c ft) (hb : PSsv W X Wx tcb agb body fb) :
    PSv W X Wx (fun i => tcc i ∨ tcb i) agb (.While c body [] pos) (whileLoop ft fb n) :=
  PS.imp' (ps_while hp hc hb) fun D σ H ⟨τ, own, S, hF⟩ => by
    refine ⟨fun m σ2 H2 => ∃ τi owni, SRep W τi σ2 H2 owni ∧ StpS (fun i => tcc i ∨ tcb i) agb τ own σ H τi owni σ2 H2 ∧ FinS W Wx (fun i => tcc i ∨ tcb i) agb D τ own σ H (whileLoop ft fb m τi), ⟨n, τ, own, S, StpS.refl, hF⟩, fun m σ2 H2 ⟨τi, owni, Si, sti, hFi⟩ => ?_⟩
    cases m with
    | zero => exact hFi.elim
    | succ m =>
      simp only [whileLoop] at hFi
      refine ⟨τi, owni, Si, ?_⟩
      cases et : ft τi with
      | stk =>
        rw [et] at hFi
        exact hFi
      | exc x τ' =>
        rw [et] at hFi
        exact fun cls dd H' own' S' st' xr => hFi cls dd σ2 H' own' S' (sti.trans (.of (st'.mono fun _ h => .inl h))) xr
      | ok b τb =>
        rw [et] at hFi
        intro b' H5 own5 M5 S5 r5 _ st5 _
        have eb : b' = b := r5.2
        subst eb
        have stp5 := sti.trans (StpS.of (ag := agb) (σ := σ2) (st5.mono fun _ h => .inl h))
        cases b' with
        | false => exact hFi σ2 H5 own5 S5 stp5
        | true =>
          refine ⟨fun σ6 H6 => ∃ τi owni, SRep W τi σ6 H6 owni ∧ StpS (fun i => tcc i ∨ tcb i) agb τ own σ H τi owni σ6 H6 ∧ FinS W Wx (fun i => tcc i ∨ tcb i) agb D τ own σ H (whileLoop ft fb m τi), fun σ' H' q => ⟨m, Nat.lt_succ_self m, q⟩, τb, own5, S5, ?_⟩
          have up : ∀ {τc ownc σ6 H6}, StpS tcb agb τb own5 σ2 H5 τc ownc σ6 H6 → StpS (fun i => tcc i ∨ tcb i) agb τ own σ H τc ownc σ6 H6 := fun st => stp5.trans (st.mono (fun _ h => .inr h) fun _ h => h)
          simp only [SRes.of, if_true] at hFi
          cases eb : fb τb with
          | stk =>
            rw [eb] at hFi
            exact hFi
          | nx τc =>
            rw [eb] at hFi
            exact fun σ6 H6 own6 S6 st6 => ⟨τc, own6, S6, up st6, hFi⟩
          | cont τc =>
            rw [eb] at hFi
            exact fun σ6 H6 own6 S6 st6 => ⟨τc, own6, S6, up st6, hFi⟩
          | brk τc =>
            rw [eb] at hFi
            exact fun σ6 H6 own6 S6 st6 => hFi σ6 H6 own6 S6 (up st6)
          | ret cc τc =>
            rw [eb] at hFi
            exact fun v σ6 H6 own6 M S6 r6 st6 sr6 => hFi v σ6 H6 own6 M S6 r6 (up st6) (stp5.1.src_trans (sr6.mono fun _ h => .inr h))
          | exc x τc =>
            rw [eb] at hFi
            exact fun cls dd σ6 H6 own6 S6 st6 xr => hFi cls dd σ6 H6 own6 S6 (up st6) xr
end
end DE
end
section
set_option Elab.async false
set_option linter.all false
set_option maxRecDepth 100000
set_option maxHeartbeats 2000000
/-! DE26: a def keeps its promise. -/
namespace DE
open PySem L2 PySem.SeqAt PyProof.Rows

theorem mask_look {i : Nat} : ∀ {as : List C} {τ : Loc}, look (maskO as τ) i = if i < as.length ∧ i < τ.length then (if ownArg (look as i) then look τ i else look as i) else .un
  | [], τ => by
    have : maskO [] τ = [] := by unfold maskO; rfl
    rw [this]
    simp [look]
  | c :: cs, [] => by
    have : maskO (c :: cs) [] = [] := by unfold maskO; rfl
    rw [this]
    simp [look]
  | c :: cs, o :: os => by
    cases i with
    | zero => simp [maskO, look]
    | succ i =>
      have ih := mask_look (i := i) (as := cs) (τ := os)
      have e1 : look (maskO (c :: cs) (o :: os)) (i + 1) = look (maskO cs os) i := by simp [maskO, look]
      have e2 : look (c :: cs) (i + 1) = look cs i := by simp [look]
      have e3 : look (o :: os) (i + 1) = look os i := by simp [look]
      rw [e1, e2, e3, ih]
      simp
theorem mask_len : ∀ {as : List C} {τ : Loc}, (maskO as τ).length ≤ as.length
  | [], τ => by
    have : maskO [] τ = [] := by unfold maskO; rfl
    rw [this]
    simp
  | c :: cs, [] => by
    have : maskO (c :: cs) [] = [] := by unfold maskO; rfl
    rw [this]
    simp
  | c :: cs, o :: os => by
    simp only [maskO, List.length_cons]
    have := mask_len (as := cs) (τ := os)
    omega
theorem ioOk_at {io : List Nat} : ∀ {as : List C} {n i : Nat}, ioOk io as n = true → ownArg (look as i) = true → i < as.length → n + i ∈ io
  | [], _, _, _, _, h => by simp at h
  | c :: cs, n, 0, h, o, _ => by
    simp only [ioOk, Bool.and_eq_true, Bool.or_eq_true, Bool.not_eq_true'] at h
    have o' : ownArg c = true := by simpa [look] using o
    rcases h.1 with z | z
    · rw [o'] at z
      cases z
    · simpa using z
  | c :: cs, n, i + 1, h, o, hl => by
    simp only [ioOk, Bool.and_eq_true] at h
    have := ioOk_at (i := i) h.2 (by simpa [look] using o) (by simpa using hl)
    have e : n + (i + 1) = n + 1 + i := by omega
    rw [e]
    exact this
section
variable {W : Wd}
theorem df_body (ok : W.Ok) {X : Cx} {κ : Kx} {d : Df} {N : List Str} {vs : List V} {H : Hp} {Q : VK} {E : XK} {tc ag : Nat → Prop} {sts : List Stmt} (hn : N.length = d.ns) (hnp : d.np ≤ d.ns) (hio : ∀ i ∈ d.io, ¬ ag i)
    (hb : PSsv W X (fun cls d _ H' => E cls d H') tc ag sts (exs κ d.body)) (h : spF W (runDf κ d) vs H Q E) : ∃ t, PSs X sts t ∧ t { nx := fun _ H' => Q .non H', rt := Q } (start N vs) H := by
  refine ⟨_, hb, ?_⟩
  obtain ⟨as, own, hl, nu, S, hF⟩ := h
  unfold runDf at hF
  by_cases hc' : ¬ ((as.length == d.np && ioOk d.io as 0) = true)
  · rw [if_neg hc'] at hF
    exact hF.elim
  have hc := Classical.not_not.mp hc'
  rw [if_pos hc] at hF
  simp only [Bool.and_eq_true, beq_iff_eq] at hc
  obtain ⟨hla, hioa⟩ := hc
  -- the slots at the entry
  have lk : ∀ i, look (as ++ List.replicate (d.ns - d.np) C.un) i = look as i := fun i => by
    unfold look
    rw [List.getD_eq_getElem?_getD, List.getD_eq_getElem?_getD]
    by_cases z : i < as.length
    · rw [List.getElem?_append_left z]
    · rw [List.getElem?_append_right (by omega), List.getElem?_eq_none (show as.length ≤ i by omega)]
      cases q : (List.replicate (d.ns - d.np) C.un)[i - as.length]? with
      | none => rfl
      | some y =>
        have := List.mem_of_getElem? q
        rw [List.mem_replicate] at this
        rw [this.2]
        rfl
  have own0 : ∀ i, ¬ i < as.length → own i = [] := fun i hi => by
    rcases S.at_ i with ⟨_, z⟩ | ⟨v, z, _⟩
    · exact z
    · rw [List.getElem?_map, List.getElem?_eq_none (by omega)] at z
      cases z
  have S0 : SRep W (as ++ List.replicate (d.ns - d.np) C.un) (start N vs) H own := by
    refine ⟨fun i => ?_, S.nd, S.dj, S.tb, ?_⟩
    · rw [lk]
      refine (S.at_ i).imp (fun h => h) fun ⟨v, e, r⟩ => ⟨v, ?_, r⟩
      unfold L2.start
      rw [List.getElem?_append_left]
      · exact e
      · exact (List.getElem?_eq_some_iff.mp e).1
    · unfold L2.start
      simp
      omega
  refine ⟨_, own, S0, ?_⟩
  -- behind the body
  have back : ∀ {τ' : Loc} {σ' : L2.St} {H' : Hp} {own' : Own}, SRep W τ' σ' H' own' → StpS tc ag (as ++ List.replicate (d.ns - d.np) C.un) own (start N vs) H τ' own' σ' H' →
      ∃ own2, SRep W (maskO as τ') (vs.map some) H' own2 ∧ Stp allI as own H (maskO as τ') own2 H' ∧ ∀ i b, b ∈ own2 i → b ∈ own' i := fun {τ' σ' H' own'} S' st => by
    have kk : Keeps H H' := st.1.keeps S0
    refine ⟨fun i => if ownArg (look as i) = true ∧ i < as.length then own' i else [], ⟨fun i => ?_, fun i => ?_, fun i j b n hb hc => ?_, S'.tb, ?_⟩, ⟨fun b o eb nt hb => st.1.fr b o eb nt fun i _ hi => hb i trivial hi, st.1.dom, fun i hi => (hi trivial).elim, fun i b _ hb => ?_⟩, fun i b hb => ?_⟩
    · try dsimp only
      rw [mask_look]
      by_cases z : i < as.length ∧ i < τ'.length
      · rw [if_pos z]
        by_cases o : ownArg (look as i) = true
        · rw [if_pos o, if_pos ⟨o, z.1⟩]
          have hi : i ∈ d.io := by simpa using ioOk_at hioa o z.1
          refine (S'.at_ i).imp (fun h => h) fun ⟨v, e, r⟩ => ⟨v, ?_, r⟩
          rw [st.2.2 i (hio i hi)] at e
          unfold L2.start at e
          rw [List.getElem?_append_left (by simp; omega)] at e
          exact e
        · rw [if_neg o, if_neg fun w => o w.1]
          rcases S.at_ i with ⟨q, _⟩ | ⟨v, e, r⟩
          · exact .inl ⟨q, rfl⟩
          · refine .inr ⟨v, e, ?_⟩
            cases hc : look as i with
            | pu dd =>
              rw [hc] at r
              exact ⟨rfl, RepD.keep ok kk _ _ r.2⟩
            | un => rw [hc] at r; exact r.elim
            | _ => rw [hc] at o; exact (o rfl).elim
      · rw [if_neg z]
        refine .inl ⟨rfl, ?_⟩
        by_cases o : ownArg (look as i) = true ∧ i < as.length
        · rw [if_pos o]
          rcases S'.at_ i with ⟨_, q⟩ | ⟨v, _, r⟩
          · exact q
          · exfalso
            have : look τ' i = .un := by
              unfold look
              rw [List.getD_eq_getElem?_getD, List.getElem?_eq_none (by omega)]
              rfl
            rw [this] at r
            exact r
        · rw [if_neg o]
    · try dsimp only
      by_cases o : ownArg (look as i) = true ∧ i < as.length
      · rw [if_pos o]
        exact S'.nd i
      · rw [if_neg o]
        simp
    · try dsimp only at hb hc
      by_cases o : ownArg (look as i) = true ∧ i < as.length
      · rw [if_pos o] at hb
        by_cases o' : ownArg (look as j) = true ∧ j < as.length
        · rw [if_pos o'] at hc
          exact S'.dj i j b n hb hc
        · rw [if_neg o'] at hc
          cases hc
      · rw [if_neg o] at hb
        cases hb
    · have := mask_len (as := as) (τ := τ')
      simp
      omega
    · try dsimp only at hb
      by_cases o : ownArg (look as i) = true ∧ i < as.length
      · rw [if_pos o] at hb
        exact (st.1.mono (tc' := allI) fun _ _ => trivial).src i b trivial hb
      · rw [if_neg o] at hb
        cases hb
    · try dsimp only at hb
      by_cases o : ownArg (look as i) = true ∧ i < as.length
      · rw [if_pos o] at hb
        exact hb
      · rw [if_neg o] at hb
        cases hb
  cases eb : exs κ d.body (as ++ List.replicate (d.ns - d.np) C.un) with
  | stk =>
    rw [eb] at hF
    exact hF.elim
  | brk τ' =>
    rw [eb] at hF
    exact hF.elim
  | cont τ' =>
    rw [eb] at hF
    exact hF.elim
  | nx τ' =>
    rw [eb] at hF
    intro σ' H' own' S' st
    obtain ⟨own2, S2, st2, _⟩ := back S' st
    exact hF .non H' own2 [] S2 ⟨⟨rfl, rfl⟩, by simp, fun i b hb => by cases hb⟩ trivial st2 fun b hb => by cases hb
  | ret c τ' =>
    rw [eb] at hF
    intro v σ' H' own' M S' r st sr
    obtain ⟨own2, S2, st2, sub⟩ := back S' st
    exact hF v H' own2 M S2 ⟨r.1, r.2.1, fun i b hb hc => r.2.2 i b hb (sub i b hc)⟩ trivial st2 (sr.mono fun _ _ => trivial)
  | exc x τ' =>
    rw [eb] at hF
    intro cls dd σ' H' own' S' st xr
    obtain ⟨own2, S2, st2, _⟩ := back S' st
    exact hF cls dd H' own2 S2 st2 xr
/-- a def of the row keeps its promise -/
theorem df_ok (ok : W.Ok) {P : Program} {w : World} {mg : Str → Option Value} {base : Heap} {x qual : Str} {st : Stmt} {f : Addr} {fd : FuncData} {N ps : List Str} {k : Nat} {κ : Kx} {d : Df} (F : Fun W.K x qual st f fd) (Sc : FnScope N ps (defScope st)) (hps : ps.length = d.np) (hn : N.length = d.ns) (hnp : d.np ≤ d.ns)
    (hb : ∀ (cdv : Value) (A : Around) (outer : List Env) (s : Shared) (H : Hp) (E : XK), Room k (A.deeper (envOfC qual (defScope st) s.heap.objs.size f cdv)) →
      ∃ tc ag, (∀ i ∈ d.io, ¬ ag i) ∧ PSsv W (cxOf (L2.CX P w) P w W.K mg base N qual (defScope st) f cdv A outer s H E) (fun cls d _ H' => E cls d H') tc ag (defBody st) (exs κ d.body)) :
    FnOk P w W.K mg base (L2.CX P w) (k + 1) f fd ps (spF W (runDf κ d)) := by
  refine Fun.okX F Sc (fun vs H Q E h => ?_) fun cdv A outer s H vs Q E hr h => ?_
  · obtain ⟨as, own, hl, _, _, hF⟩ := h
    unfold runDf at hF
    by_cases hc : (as.length == d.np && ioOk d.io as 0) = true
    · simp only [Bool.and_eq_true, beq_iff_eq] at hc
      omega
    · rw [if_neg hc] at hF
      exact hF.elim
  · obtain ⟨tc, ag, hio, hbb⟩ := hb cdv A outer s H E hr
    exact df_body ok hn hnp hio hbb h
end
end DE
end
section
set_option Elab.async false
set_option linter.all false
set_option maxRecDepth 100000
set_option maxHeartbeats 2000000
/-! DE27: raise. -/
namespace DE
open PySem L2 PySem.SeqAt PyProof.Rows

/-- the __init__ of an exception's class with the fields fs -/
def spX (C : Addr) (fs : List Str) : L2.Sp := fun vs H Q _ => ∃ a ys, vs = .ref a :: ys ∧ ys.length = fs.length ∧ H a = some (exo a C none) ∧ ∀ d H2, H d = none → d ≠ a → H2 a = some (exo a C (some d)) → H2 d = some (exd d ((fs.zip ys).reverse)) → (∀ b, b ≠ a → b ≠ d → H2 b = H b) → Q .non H2
section
variable {K : PySem.W.Frag} {C f : Addr} {w : World} {P : Program} {mg : Str → Option Value} {base : Heap}
theorem init1 {x qual self n1 f1 : Str} {st : Stmt} {fd : FuncData} {k : Nat} {p1 p2 p3 p4 : Pos} (F : Fun K x qual st f fd) (S : FnScope [self, n1] [self, n1] (defScope st)) (hb : defBody st = [.Assign [.Attribute (.Name self p1) f1 p2] (.Name n1 p3) p4]) (T : OexC K C) (h1 : PySem.W.findIn K (.ref C) f1 = some none)
    (v0 : Vis (defScope st) self) (v1 : Vis (defScope st) n1) (d0 : (self == ("__debug__" : Str)) = false) (c0 : (self == ("__classdict__" : Str)) = false) (d1 : (n1 == ("__debug__" : Str)) = false) (c1 : (n1 == ("__classdict__" : Str)) = false) :
    FnOk P w K mg base (L2.CX P w) (k + 1) f fd [self, n1] (spX C [f1]) := by
  refine Fun.okX F S (fun vs H Q E h => ?_) fun cdv A outer s H vs Q E hr h => ?_
  · obtain ⟨a, ys, rfl, hl, _⟩ := h
    simpa using hl
  · obtain ⟨a, ys, rfl, hl, ha, q⟩ := h
    match ys, hl with
    | [y1], _ =>
      refine ⟨_, by rw [hb]; exact pss_one (ps_ost (pe_var (i := 0) rfl v0 d0 c0) (pe_var (i := 1) rfl v1 d1 c1)), ?_⟩
      refine ⟨y1, rfl, .ref a, rfl, a, C, rfl, T, h1, .inl ⟨ha, fun dx hd hne => ?_⟩⟩
      exact q dx _ hd hne upd_same (by rw [upd_ne hne, upd_same]; rfl) fun b hb hb' => by rw [upd_ne hb, upd_ne hb']
theorem init2 {x qual self n1 n2 f1 f2 : Str} {st : Stmt} {fd : FuncData} {k : Nat} {p1 p2 p3 p4 p5 p6 p7 p8 : Pos} (F : Fun K x qual st f fd) (S : FnScope [self, n1, n2] [self, n1, n2] (defScope st)) (hb : defBody st = [.Assign [.Attribute (.Name self p1) f1 p2] (.Name n1 p3) p4, .Assign [.Attribute (.Name self p5) f2 p6] (.Name n2 p7) p8]) (T : OexC K C) (h1 : PySem.W.findIn K (.ref C) f1 = some none) (h2 : PySem.W.findIn K (.ref C) f2 = some none)
    (v0 : Vis (defScope st) self) (v1 : Vis (defScope st) n1) (v2 : Vis (defScope st) n2) (d0 : (self == ("__debug__" : Str)) = false) (c0 : (self == ("__classdict__" : Str)) = false) (d1 : (n1 == ("__debug__" : Str)) = false) (c1 : (n1 == ("__classdict__" : Str)) = false) (d2 : (n2 == ("__debug__" : Str)) = false) (c2 : (n2 == ("__classdict__" : Str)) = false) :
    FnOk P w K mg base (L2.CX P w) (k + 1) f fd [self, n1, n2] (spX C [f1, f2]) := by
  refine Fun.okX F S (fun vs H Q E h => ?_) fun cdv A outer s H vs Q E hr h => ?_
  · obtain ⟨a, ys, rfl, hl, _⟩ := h
    simpa using hl
  · obtain ⟨a, ys, rfl, hl, ha, q⟩ := h
    match ys, hl with
    | [y1, y2], _ =>
      refine ⟨_, by rw [hb]; exact pss_cons (ps_ost (pe_var (i := 0) rfl v0 d0 c0) (pe_var (i := 1) rfl v1 d1 c1)) (pss_one (ps_ost (pe_var (i := 0) rfl v0 d0 c0) (pe_var (i := 2) rfl v2 d2 c2))), ?_⟩
      refine ⟨y1, rfl, .ref a, rfl, a, C, rfl, T, h1, .inl ⟨ha, fun dx hd hne => ?_⟩⟩
      refine ⟨y2, rfl, .ref a, rfl, a, C, rfl, T, h2, .inr ⟨dx, [(f1, y1)], upd_same, by rw [upd_ne hne, upd_same], by simp, ?_⟩⟩
      exact q dx _ hd hne (by rw [upd_ne hne.symm, upd_same]) (by rw [upd_same] <;> rfl) fun b hb hb' => by rw [upd_ne hb', upd_ne hb, upd_ne hb']
end
section
variable {W : Wd} {X : Cx} {Wx : WX} {tc R : Nat → Prop} {e : Expr} {es : List Expr} {fs : Loc → Res (List Rv)} {p pos pos' : Pos} {x : Str}
theorem RepDs.rev {H : Hp} : ∀ {ds : List D} {vs : List V}, RepDs W H ds vs → RepDs W H ds.reverse vs.reverse
  | [], vs, h => by
    have e : vs = [] := h
    subst e
    exact rfl
  | d :: ds, _, h => by
    obtain ⟨v, r, rfl, h1, h2⟩ := h
    rw [List.reverse_cons, List.reverse_cons]
    exact RepDs.append (RepDs.rev h2) ⟨v, [], rfl, h1, rfl⟩
/-- raise X(e, ..), X with an own __init__ -/
theorem s_raise (ok : W.Ok) {n : Nat} {fI : Addr} {k : Nat} {fd : FuncData} {ps flds : List Str} (hc : X.calm = true) (tk : Takes X Wx) (T : OexC X.K (W.xcls n)) (iC : PySem.W.findIn X.K (.ref (W.xcls n)) "__init__" = some (some (.ref fI))) (tI : PySem.W.typeIn X.K (.ref fI) = some (.type "function"))
    (F1 : FnOk X.prog X.w X.K X.mg X.base (L2.CX X.prog X.w) k fI fd ps (spX (W.xcls n) flds)) (hxf : W.xfl n = flds) (hr : Room (k + 1) X.A) (hb : Binds X.K fd ps []) (hg : Gl X x) (hm : X.mg x = some (.ref (W.xcls n))) (ha : PAv W X Wx tc R (e :: es) fs)
    (hdb : (x == ("__debug__" : Str)) = false) (he : starEach (e :: es) X.env = (false, eval e X.env) :: starEach es X.env) (hpl : (PySem.backTo pos' (starEach es X.env)).any (·.1) = false) (hfl : flds.length ≤ 1000) :
    PSv W X Wx tc nob (.Raise (some (.Call (.Name x p) (e :: es) [] pos')) none pos) (fun τ => .of (fs τ) fun rs τ1 => .of (optR (fzAll rs) τ1) fun ds τ1 => raiseE flds.length n ds τ1) :=
  PS.imp' (ps_raise hc tk (pmk_oex T iC tI F1 hr hb .nil passL hg hm (a_data ok ha) hdb he hpl)) fun D σ H h => by
    have h' : tSv W Wx tc nob (fun τ => .of ((fs τ).bind fun rs τ => optR (fzAll rs) τ) fun ds τ1 => raiseE flds.length n ds τ1) D σ H := by
      obtain ⟨τ, own, S, hF⟩ := h
      refine ⟨τ, own, S, ?_⟩
      revert hF
      dsimp only
      cases fs τ with
      | stk => exact fun h => h
      | exc x τ' => exact fun h => h
      | ok rs τ' => exact fun h => h
    refine s_run (RepA := DReps W) (BA := fun _ => True) (fun _ h => h) h' fun τ τ1 own own1 ds vs H1 M1 S1 r1 b1 st1 s1 hF => ?_
    unfold raiseE at hF
    split at hF
    · rename_i hl
      have lv := RepDs.length r1.2
      refine ⟨by omega, fun a han => ?_⟩
      rw [List.append_nil]
      refine ⟨a, vs, rfl, by omega, upd_same, fun d H2 hd hne h1 h2 h3 => ⟨rfl, d, _, h1, h2, ?_, ?_⟩⟩
      · rw [upd_ne hne] at hd
        exact hd
      · rw [upd_ne hne] at hd
        have sm : Same H1 (upd (del H2 a) d (.xd (flds.zip vs).reverse)) := fun b o eb => by
          have nb : b ≠ d := fun z => by
            rw [z, hd] at eb
            cases eb
          have na : b ≠ a := fun z => by
            rw [z, han] at eb
            cases eb
          rw [upd_ne nb, del_ne na, h3 b na nb, upd_ne na]
          exact eb
        refine hF _ _ σ _ own1 (S1.same ok sm) (.of (st1.trans (Stp.same sm))) ⟨rfl, fun _ => ⟨d, _, rfl, upd_same, by rw [hxf, List.map_reverse, List.map_fst_zip (by omega)], ?_⟩⟩
        have e1 : ((flds.zip vs).reverse).map (·.2) = vs.reverse := by
          rw [List.map_reverse, List.map_snd_zip (by omega)]
        rw [e1]
        exact (RepDs.keep ok (same_keeps sm) _ _ r1.2).rev
    · exact hF.elim
/-- X(), X an own class without an own __init__ -/
theorem pmk_own0 {C : Addr} {bmB : List Value} {B newId initId : String} (F : ExcBaseFacts B newId initId bmB) (q : PySem.W.excIn X.K C bmB newId = true) (gC : X.mg x = some (.ref C)) (kC : PySem.W.keepIn X.K (.ref C) = true) (r : Raises X (.ref C)) (hg : Gl X x)
    (hdb : (x == ("__debug__" : Str)) = false) : PMk X (.Call (.Name x p) [] [] pos) (fun _ H Q => Q (.ref C) none H) := by
  intro pins s σ H Q I h
  refine wpAny_Call_Name_kw (ld_glob I hg gC ?_ hdb)
  refine PySem.W.callWith_K0 I.kIn kC ?_
  show wpAny _ _ (call (.ref C) []) _ _ _
  obtain ⟨bm, N, nm, qn, bs, hdct, sn, sub, ab, col, dd, k0, k1, k2, k3, k5, mN, hC, hN, hni, T⟩ := exc_obj I.kIn q
  refine wpAny_call_exc_subT F T hC hN hni (fun h' e hm => ?_) (by show 0 ≤ sizeLine; exact Nat.zero_le _)
  exact mk_of I hm r h (I.hok.gone hm.new)
theorem s_raise0 (ok : W.Ok) {n : Nat} {bmB : List Value} {B newId initId : String} (hc : X.calm = true) (tk : Takes X Wx) (F : ExcBaseFacts B newId initId bmB) (q : PySem.W.excIn X.K (W.xcls n) bmB newId = true) (gC : X.mg x = some (.ref (W.xcls n))) (kC : PySem.W.keepIn X.K (.ref (W.xcls n)) = true) (r : Raises X (.ref (W.xcls n))) (hg : Gl X x)
    (hdb : (x == ("__debug__" : Str)) = false) : PSv W X Wx nob nob (.Raise (some (.Call (.Name x p) [] [] pos')) none pos) (fun τ => .exc ⟨n, []⟩ τ) :=
  PS.imp' (ps_raise hc tk (pmk_own0 F q gC kC r hg hdb)) fun D σ H ⟨τ, own, S, hF⟩ => hF _ _ σ H own S StpS.refl ⟨rfl, fun h => (h rfl).elim⟩
theorem s_par (ok : W.Ok) {i j : Nat} {x y : Str} {a b : Expr} {px py pt : Pos} {kt k2 pt2} (hc : X.calm = true) (hN : X.N.Nodup) (hi : X.N[i]? = some x) (hj : X.N[j]? = some y) (hij : i ≠ j)
    (hx : X.env.scope.names.lookup x = some .local) (hy : X.env.scope.names.lookup y = some .local) (ha : PAv W X Wx tc R [a, b] fs)
    (hw : swappedStores [.Tuple [.Name x px, .Name y py] kt pt] (.Tuple [a, b] k2 pt2) X.env = pure (some [x, y])) :
    PSv W X Wx (fun z => tc z ∨ z = i ∨ z = j) (fun z => z = i ∨ z = j) (.Assign [.Tuple [.Name x px, .Name y py] kt pt] (.Tuple [a, b] k2 pt2) pos) (fun τ => .of (fs τ) fun rs τ1 => .of (optR (fzAll rs) τ1) fun ds τ1 => parE i j ds τ1) :=
  PS.imp' (ps_par hc hN hi hj hij hx hy (a_data ok ha) hw) fun D σ H h => by
    have h' : tSv W Wx (fun z => tc z ∨ z = i ∨ z = j) (fun z => z = i ∨ z = j) (fun τ => .of ((fs τ).bind fun rs τ => optR (fzAll rs) τ) fun ds τ1 => parE i j ds τ1) D σ H := by
      obtain ⟨τ, own, S, hF⟩ := h
      refine ⟨τ, own, S, ?_⟩
      revert hF
      dsimp only
      cases fs τ with
      | stk => exact fun h => h
      | exc x τ' => exact fun h => h
      | ok rs τ' => exact fun h => h
    refine s_run (RepA := DReps W) (BA := fun _ => True) (fun _ h => .inl h) h' fun τ τ1 own own1 ds vs H1 M1 S1 r1 b1 st1 s1 hF => ?_
    unfold parE at hF
    split at hF
    · rename_i d e
      obtain ⟨v, r, ev, rv, w, q, ew, rw', eq⟩ := r1.2
      subst ev ew
      have eq' : q = [] := eq
      subst eq'
      have Sa := S1.put (i := i) (c := .pu d) (v := v) (M := []) ⟨rfl, rv⟩ (by simp) fun j b hb => by cases hb
      have Sb := Sa.put (i := j) (c := .pu e) (v := w) (M := []) ⟨rfl, rw'⟩ (by simp) fun j b hb => by cases hb
      have sa := Stp.put (c := .pu d) (M := []) st1 (i := i) (.inr (.inl rfl)) (fun b hb => by cases hb)
      have sb := Stp.put (c := .pu e) (M := []) sa (i := j) (.inr (.inr rfl)) (fun b hb => by cases hb)
      refine ⟨v, w, rfl, hF _ H1 _ Sb ⟨sb, ?_, fun z hz => ?_⟩⟩
      · simp
      · rw [List.getElem?_set_ne fun q => hz (.inr q.symm), List.getElem?_set_ne fun q => hz (.inl q.symm)]
    · exact hF.elim
end
end DE
end
section
set_option Elab.async false
set_option linter.all false
set_option maxRecDepth 100000
set_option maxHeartbeats 2000000
/-! DE28: try with one except clause; p.f += e. -/
namespace DE
open PySem L2 PySem.SeqAt PyProof.Rows

section
variable {W : Wd} {X : Cx} {Wx : WX} {tc ag tca tcb aga agb R Ra : Nat → Prop} {body suite : List Stmt} {b₀ : Stmt} {fb : Loc → SRes} {x : Str} {np pos pos' tpos : Pos} {c : Nat} {h : Hd} {sub : Nat → Nat → Bool}
def tryE (sub : Nat → Nat → Bool) (c : Nat) (h : Hd) (r : SRes) : SRes := match r with
  | .exc x τ1 => if sub x.x c then hdRun x.ds h τ1 else .exc x τ1
  | r => r
/-- what an except suite owes -/
def tHd (W : Wd) (tc ag : Nat → Prop) (h : Hd) (cls : Value) (d : Option Addr) : TS := fun D σ H => ∃ τ own x, SRep W τ σ H own ∧ ExRep W H x cls d ∧ FinS W WF tc ag D τ own σ H (hdRun x.ds h τ)
theorem hd_noexc {ds : List D} {h : Hd} {τ τ' : Loc} {x : Exn} : hdRun ds h τ ≠ .exc x τ' := by
  unfold hdRun
  split
  · split <;> exact fun z => by cases z
  · split
    · split <;> exact fun z => by cases z
    · exact fun z => by cases z
  · exact fun z => by cases z
theorem s_try (hs : X.stack = X.env :: X.outer) (hf : X.env.frame = some X.env.locals) (hc : Names X x (.ref (W.xcls c))) (tk : Takes X Wx) (hsub : ∀ a, PySem.W.exmOne X.K (.ref (W.xcls a)) (.ref (W.xcls c)) = some (sub a c))
    (hb : ∀ (Wy : WX) (pn : List (Addr × Obj)) (xe : Value → Shared → Prop), Takes (X.tr pn xe) Wy → PassesOwn (model X.prog X.w) X.A X.env xe → PSsv W (X.tr pn xe) Wy tca aga body fb)
    (hsu : ∀ (a : Addr) (oe : Obj) (cls : Value) (d : Option Addr) (pn : List (Addr × Obj)), Zc cls d oe → (∃ vs, oe.data = .fields vs) → PSs (X.suite a ((a, oe) :: pn)) (b₀ :: suite) (tHd W tcb agb h cls d)) :
    PSv W X Wx (fun i => tca i ∨ tcb i) (fun i => aga i ∨ agb i) (.Try body [.ExceptHandler (some (.Name x np)) none (b₀ :: suite) pos'] [] [] pos) (fun τ => tryE sub c h (fb τ)) :=
  PS.imp' (ps_try_only (tb := fun Wy => tSv W Wy tca aga fb) (ts := fun a cls d => tHd W tcb agb h cls d) hs hf hc tk hb hsu) fun D σ H ⟨τ, own, S, hF⟩ => by
    refine ⟨τ, own, S, ?_⟩
    replace hF : FinS W Wx (fun i => tca i ∨ tcb i) (fun i => aga i ∨ agb i) D τ own σ H (tryE sub c h (fb τ)) := hF
    cases ef : fb τ with
    | stk =>
      rw [ef] at hF
      exact hF
    | nx τ' =>
      rw [ef] at hF
      exact FinS.mono (r := .nx τ') (fun _ h => .inl h) (fun _ h => .inl h) hF
    | brk τ' =>
      rw [ef] at hF
      exact FinS.mono (r := .brk τ') (fun _ h => .inl h) (fun _ h => .inl h) hF
    | cont τ' =>
      rw [ef] at hF
      exact FinS.mono (r := .cont τ') (fun _ h => .inl h) (fun _ h => .inl h) hF
    | ret cc τ' =>
      rw [ef] at hF
      exact FinS.mono (Wx := Wx) (r := .ret cc τ') (fun _ h => .inl h) (fun _ h => .inl h) hF
    | exc xn τ' =>
      rw [ef] at hF
      intro cls d σ' H' own' S' st' xr
      have st2 : StpS (fun i => tca i ∨ tcb i) (fun i => aga i ∨ agb i) τ own σ H τ' own' σ' H' := st'.mono (fun _ h => .inl h) fun _ h => .inl h
      refine ⟨sub xn.x c, by rw [xr.1]; exact hsub _, fun hy a ha => ?_, fun hn => ?_⟩
      · simp only [tryE, hy, if_true] at hF
        refine ⟨τ', own', xn, S', xr, ?_⟩
        cases eh : hdRun xn.ds h τ' with
        | exc z τ2 => exact (hd_noexc eh).elim
        | stk =>
          rw [eh] at hF
          exact hF
        | nx τ2 =>
          rw [eh] at hF
          exact FinS.tail (Wx := Wx) (r := .nx τ2) st2 (fun _ h => .inr h) (fun _ h => .inr h) hF
        | brk τ2 =>
          rw [eh] at hF
          exact FinS.tail (Wx := Wx) (r := .brk τ2) st2 (fun _ h => .inr h) (fun _ h => .inr h) hF
        | cont τ2 =>
          rw [eh] at hF
          exact FinS.tail (Wx := Wx) (r := .cont τ2) st2 (fun _ h => .inr h) (fun _ h => .inr h) hF
        | ret cc τ2 =>
          rw [eh] at hF
          exact FinS.tail (Wx := Wx) (r := .ret cc τ2) st2 (fun _ h => .inr h) (fun _ h => .inr h) hF
      · simp only [tryE, hn, Bool.false_eq_true, if_false] at hF
        exact hF cls d σ' H' own' S' st2 xr
/-- a suite that stores a constant -/
theorem hd_asg {Y : Cx} {e : Expr} {i : Nat} {y : Str} {d : D} {cls : Value} {dd : Option Addr} {p2 : Pos} (hN : Y.N.Nodup) (hi : Y.N[i]? = some y) (hx : L2.Loc Y.env.scope y) (hf : Y.fn y = true ∨ Y.env.scope.names.lookup y = some .local) (he : PEv W Y WF nob nob e (fun τ => .ok (.pu d) τ)) (hs : swapsWith e (some (.Name y p2)) pos.line Y.env = pure false) :
    PSs Y [.Assign [.Name y p2] e pos] (tHd W (· = i) (· = i) (.asg i (.k d)) cls dd) :=
  PSs.imp' (pss_one (s_asg hN hi hx hf he hs)) fun D σ H ⟨τ, own, x, S, xr, hF⟩ => ⟨τ, own, S, FinS.mono (r := .nx (τ.set i (.pu d))) (fun j h => h.elim (fun z => z.elim) fun z => z) (fun _ h => h) hF⟩

/-! ### p.f += e -/
theorem s_augF (ok : W.Ok) (wc : W.Cls) (hK : X.K = W.K) {e o : Expr} {f : Str} {i : Nat} {fe : Loc → Res Rv} {fp : Loc → Res (Nat × List Sp × C)} (ho : PPv W X Wx tca i o fp) (he : PEv W X Wx tcb R e fe) (hR : ¬ tcb i) (hf : ∀ k, f ∈ W.flds k) :
    PSv W X Wx (fun j => tca j ∨ tcb j ∨ j = i) nob (.AugAssign (.Attribute o f tpos) .Add e pos) (fun τ => .of (fp τ) fun q τ1 => .of (optR (augI q.2.2 f) τ1) fun a τ1 => .of (toF (fe τ1)) fun d τ2 => (match d with
      | .int b => .of (optR (setF q.2.2 f (.pu (.int (a + b)))) τ2) fun y τ2 => .nx (setP q y τ2)
      | _ => .stk)) :=
  PS.imp' (ps_fldaug ho (pd_of ok he) in_add) fun D σ H h => s_run (RepA := PRep W) (BA := PRoot i) (fun _ h => .inl h) h fun τ τ1 own own1 q v H1 M1 S1 r1 b1 st1 s1 hF => by
    have hb : q.1 = i := b1
    cases ea : augI q.2.2 f with
    | none =>
      rw [ea] at hF
      exact hF.elim
    | some a =>
      rw [ea] at hF
      replace hF : FinS W Wx (fun j => tca j ∨ tcb j ∨ j = i) nob D τ own σ H (.of (toF (fe τ1)) fun d τ2 => (match d with
        | .int b => .of (optR (setF q.2.2 f (.pu (.int (a + b)))) τ2) fun y τ2 => .nx (setP q y τ2)
        | _ => .stk)) := hF
      cases hq : q.2.2 with
      | obj kk ns cs =>
        have hsub : lookN f ns cs = some (.pu (.int a)) := by
          rw [hq] at ea
          simp only [augI] at ea
          split at ea
          · rename_i a' h
            cases ea
            exact h
          · cases ea
        have rb := r1.1
        rw [rvOf_bo' hq] at rb
        obtain ⟨vi, Mo, N1, N2, g1, g2, g3, g4⟩ := S1.bo ok rb
        obtain ⟨p, dx, fs, M', rfl, rfl, hp, hns, hfl, hcs⟩ := g3
        obtain ⟨j, j1, _, j3⟩ := lookN_ix hsub
        obtain ⟨w, Mj, K1, K2, w1, _, w3⟩ := RepCs.at hcs j1
        have qw : w = _ := w3.2
        subst qw
        obtain ⟨cl, na⟩ := wc kk f (hf kk)
        refine ⟨p, _, dx, fs, .int a, rfl, hp, by rw [hK]; exact cl, by rw [hK]; exact na, j3 hns w1, ?_⟩
        refine s_run2 (RepA := DRep W) (BA := fun _ => True) (fun _ h => .inr (.inl h)) S1 st1 hF fun τ2 own2 d v2 H2 M2 S2 r2 b2 stc src st2 sr2 hF2 => ?_
        have rb2 := rb.step ok S1 (R := fun j => j = i) hb stc (fun j hj => by rw [hj]; exact hR)
        split at hF2
        · rename_i b
          have q2 : v2 = _ := r2.2
          subst q2
          refine ⟨a, b, rfl, rfl, ?_⟩
          cases es : setF q.2.2 f (.pu (.int (a + b))) with
          | none =>
            rw [es] at hF2
            exact hF2.elim
          | some y =>
            rw [es] at hF2
            unfold setF at es
            rw [hq] at es
            simp only [Option.ite_none_right_eq_some, Option.some.injEq] at es
            obtain ⟨hl, rfl⟩ := es
            obtain ⟨p', dx', fs', e1, hp', hl', own3, S3, st3⟩ := fld_put (tc := fun j => tca j ∨ tcb j ∨ j = i) (f := f) (c := .pu (.int (a + b))) (y := .int (a + b)) (Mc := []) ok S2 rb2 st2 (.inr (.inr hb)) ⟨rfl, rfl⟩ (by simp) (fun j b hb => by cases hb) (fun b hb => by cases hb) hf hl
            cases e1
            exact ⟨dx', fs', hp', hl', hF2 σ _ own3 S3 (.of st3)⟩
        · exact hF2.elim
      | _ =>
        rw [hq] at ea
        simp [augI] at ea
end
end DE
end
section
set_option Elab.async false
set_option linter.all false
set_option maxRecDepth 100000
set_option maxHeartbeats 2000000
/-! DE29: try .. except X as e. -/
namespace DE
open PySem L2 PySem.SeqAt PyProof.Rows

section
variable {W : Wd} {X : Cx} {Wx : WX} {tc ag tca tcb aga agb R Ra : Nat → Prop} {body suite : List Stmt} {b₀ : Stmt} {fb : Loc → SRes} {x n : Str} {np pos pos' tpos : Pos} {c i : Nat} {h : Hd} {sub : Nat → Nat → Bool}
def tryA (sub : Nat → Nat → Bool) (c i : Nat) (h : Hd) (r : SRes) : SRes := match r with
  | .exc x τ1 => if sub x.x c then (if x.x = c then hdAs i x.ds h τ1 else .stk) else .exc x τ1
  | r => r
theorem hd_cases {ds : List D} {h : Hd} {τ : Loc} : (∃ τ', hdRun ds h τ = .nx τ') ∨ hdRun ds h τ = .stk := by
  unfold hdRun
  split
  · split
    · exact .inl ⟨_, rfl⟩
    · exact .inr rfl
  · split
    · split
      · exact .inl ⟨_, rfl⟩
      · exact .inr rfl
    · exact .inr rfl
  · exact .inr rfl
/-- what a suite behind `as e` owes: e at slot i -/
def tHdA (W : Wd) (tc ag : Nat → Prop) (i c : Nat) (h : Hd) (a : Addr) (cls : Value) (d : Option Addr) : TS := fun D σ H => ∃ τ own x, SRep W τ σ H own ∧ σ[i]? = some (some (.ref a)) ∧ ExRep W H x cls d ∧ x.x = c ∧ FinS W WF tc ag D τ own σ H (hdRun x.ds h τ)
theorem isUn_eq {c : C} (h : c.isUn = true) : c = .un := by
  cases c <;> first | rfl | cases h
/-- a free slot may hold anything -/
theorem SRep.free {τ : Loc} {own : Own} {σ : L2.St} {H : Hp} {i : Nat} {y : Option V} (S : SRep W τ σ H own) (h : look τ i = .un) : SRep W τ (σ.set i y) H own :=
  ⟨fun j => by
    by_cases e : j = i
    · subst e
      refine .inl ⟨h, ?_⟩
      rcases S.at_ j with ⟨_, z⟩ | ⟨v, _, r⟩
      · exact z
      · rw [h] at r
        exact r.elim
    · refine (S.at_ j).imp (fun h => h) fun ⟨v, e1, r⟩ => ⟨v, by rw [List.getElem?_set_ne fun z => e z.symm]; exact e1, r⟩, S.nd, S.dj, S.tb, by have := S.ln; simpa using this⟩
theorem s_tryA (hs : X.stack = X.env :: X.outer) (hf : X.env.frame = some X.env.locals) (hN : X.N.Nodup) (hi : X.N[i]? = some n) (hln : X.env.kindOf n = some .local) (hc : Names X x (.ref (W.xcls c))) (tk : Takes X Wx) (hsub : ∀ a, PySem.W.exmOne X.K (.ref (W.xcls a)) (.ref (W.xcls c)) = some (sub a c)) (hni : ¬ tcb i)
    (hb : ∀ (Wy : WX) (pn : List (Addr × Obj)) (xe : Value → Shared → Prop), Takes (X.tr pn xe) Wy → PassesOwn (model X.prog X.w) X.A X.env xe → PSsv W (X.tr pn xe) Wy tca aga body fb)
    (hsu : ∀ (a : Addr) (oe : Obj) (cls : Value) (d : Option Addr) (pn : List (Addr × Obj)), Zc cls d oe → (∃ vs, oe.data = .fields vs) → PSs (X.suite a ((a, oe) :: pn)) (b₀ :: suite) (tHdA W tcb agb i c h a cls d)) :
    PSv W X Wx (fun j => tca j ∨ tcb j) (fun j => aga j ∨ agb j ∨ j = i) (.Try body [.ExceptHandler (some (.Name x np)) (some n) (b₀ :: suite) pos'] [] [] pos) (fun τ => tryA sub c i h (fb τ)) :=
  PS.imp' (ps_try_as (tb := fun Wy => tSv W Wy tca aga fb) (ts := fun a cls d => tHdA W tcb agb i c h a cls d) hs hf hN hi hln hc tk hb hsu) fun D σ H ⟨τ, own, S, hF⟩ => by
    refine ⟨τ, own, S, ?_⟩
    replace hF : FinS W Wx (fun j => tca j ∨ tcb j) (fun j => aga j ∨ agb j ∨ j = i) D τ own σ H (tryA sub c i h (fb τ)) := hF
    cases ef : fb τ with
    | stk =>
      rw [ef] at hF
      exact hF
    | nx τ' =>
      rw [ef] at hF
      exact FinS.mono (r := .nx τ') (fun _ h => .inl h) (fun _ h => .inl h) hF
    | brk τ' =>
      rw [ef] at hF
      exact FinS.mono (r := .brk τ') (fun _ h => .inl h) (fun _ h => .inl h) hF
    | cont τ' =>
      rw [ef] at hF
      exact FinS.mono (r := .cont τ') (fun _ h => .inl h) (fun _ h => .inl h) hF
    | ret cc τ' =>
      rw [ef] at hF
      exact FinS.mono (Wx := Wx) (r := .ret cc τ') (fun _ h => .inl h) (fun _ h => .inl h) hF
    | exc xn τ' =>
      rw [ef] at hF
      intro cls d σ' H' own' S' st' xr
      have st2 : StpS (fun j => tca j ∨ tcb j) (fun j => aga j ∨ agb j ∨ j = i) τ own σ H τ' own' σ' H' := st'.mono (fun _ h => .inl h) fun _ h => .inl h
      refine ⟨sub xn.x c, by rw [xr.1]; exact hsub _, fun hy a ha => ?_, fun hn => ?_⟩
      · simp only [tryA, hy, if_true] at hF
        by_cases hxc' : ¬ (xn.x = c)
        · rw [if_neg hxc'] at hF
          exact hF.elim
        have hxc := Classical.not_not.mp hxc'
        rw [if_pos hxc] at hF
        unfold hdAs at hF
        by_cases hfree : (decide (i < τ'.length) && (look τ' i).isUn) = true
        · rw [if_pos hfree] at hF
          simp only [Bool.and_eq_true, decide_eq_true_eq] at hfree
          obtain ⟨hil, hu⟩ := hfree
          have hun := isUn_eq hu
          refine ⟨τ', own', xn, S'.free hun, List.getElem?_set_self (Nat.lt_of_lt_of_le hil S'.ln), xr, hxc, ?_⟩
          rcases hd_cases (ds := xn.ds) (h := h) (τ := τ') with ⟨τ2, eh⟩ | eh
          · rw [eh] at hF ⊢
            intro σ3 H3 own3 S3 st3
            have q := st3.1.un i hni
            refine hF (σ3.set i none) H3 own3 (S3.free (by rw [q.2]; exact hun)) (st2.trans ⟨st3.1.mono fun _ h => .inr h, by rw [List.length_set, st3.2.1, List.length_set], fun j hj => ?_⟩)
            have hji : j ≠ i := fun z => hj (.inr (.inr z))
            rw [List.getElem?_set_ne fun z => hji z.symm, st3.2.2 j fun z => hj (.inr (.inl z)), List.getElem?_set_ne fun z => hji z.symm]
          · rw [eh] at hF
            exact hF.elim
        · rw [if_neg hfree] at hF
          exact hF.elim
      · simp only [tryA, hn, Bool.false_eq_true, if_false] at hF
        exact hF cls d σ' H' own' S' st2 xr
end
end DE
end
section
set_option Elab.async false
set_option linter.all false
set_option maxRecDepth 100000
set_option maxHeartbeats 2000000
/-! DE30: x = [..] on one line. -/
namespace DE
open PySem L2 PySem.SeqAt PyProof.Rows

section
variable {W : Wd} {X : Cx} {Wx : WX} {tcI tct tce R : Nat → Prop}
theorem s_setLc (ok : W.Ok) {i : Nat} {y : Str} {py pos spos : Pos} {elt tge iter : Expr} {ifs : List Expr} {scope : Scope} {ownp : List (Str × Nat)} {tg : Tg} {fi : Loc → Res (List D)} {ft : Loc → Res Bool} {fe : Loc → Res D} (hc : X.calm = true) (hN : X.N.Nodup) (hy : X.N[i]? = some y) (hyl : X.env.scope.names.lookup y = some .local)
    (hsw : swapsWith (.ListComp elt [⟨tge, iter, ifs, 0⟩] scope pos) (some (.Name y py)) spos.line X.env = pure true) (hi : PIv W X Wx tcI R tge iter fi) (bk : BlkOk X.N X.env.scope scope ownp)
    (hg : ∀ (s : Shared) (H : Hp) (C : Addr) (cl : List (Str × Addr)) (fp : List Addr), PGv W (X.blk s H scope (compEnvC scope cl C X.env) fp) tge tg) (ht : ∀ (s : Shared) (H : Hp) (C : Addr) (cl : List (Str × Addr)) (fp : List Addr), PTsv W (X.blk s H scope (compEnvC scope cl C X.env) fp) WF tct ifs ft)
    (he : ∀ (s : Shared) (H : Hp) (C : Addr) (cl : List (Str × Addr)) (fp : List Addr), PDv W (X.blk s H scope (compEnvC scope cl C X.env) fp) WF tce elt fe) (hs : ∀ x, foldedSetIterable iter X.env x = pure x)
    (hw : ∀ j, tg.tc j → j ∈ ownp.map (·.2)) (hw' : ∀ j, tg.nm j → j ∈ ownp.map (·.2)) (hR : ∀ i, R i → ¬ (tct i ∨ tce i ∨ i ∈ ownp.map (·.2))) :
    PSv W X Wx (fun j => (tcI j ∨ tct j ∨ tce j ∨ j ∈ ownp.map (·.2)) ∨ j = i) (· = i) (.Assign [.Name y py] (.ListComp elt [⟨tge, iter, ifs, 0⟩] scope pos) spos)
      (fun τ => .of ((fi τ).bind fun items τ1 => putBack (ownp.map (·.2)) τ1 (lcLoop (lcTurn (ownp.map (·.2)) tg ft fe) items τ1)) fun r τ1 => .of (optR r.keep τ1) fun c τ1 => .nx (τ1.set i c)) :=
  PS.imp' (ps_setLc hc hN hy hyl hsw hi bk hg ht he hs) fun D σ H h => lc_te (Wx := Wx) ok hw hw' hR (s_run (RepA := RvRep W) (BA := BoIn nob) (fun _ h => .inl h) h fun τ τ1 own own1 r v H1 M1 S1 r1 b1 st1 s1 hF => by
    cases ek : r.keep with
    | none =>
      rw [ek] at hF
      exact hF.elim
    | some c =>
      rw [ek] at hF
      obtain ⟨q1, q2, q3⟩ := keep_rep r1 ek
      exact hF _ H1 _ (S1.put q1 q2 q3) ⟨st1.put (.inr rfl) s1, set_off.1, set_off.2⟩)
end
end DE
end
section
set_option Elab.async false
set_option linter.all false
set_option maxRecDepth 100000
set_option maxHeartbeats 2000000
/-! DE31: suites that read the exception. -/
namespace DE
open PySem L2 PySem.SeqAt PyProof.Rows

theorem lookup_at {n : Str} {v : V} : ∀ {l : List (Str × V)} {j : Nat}, (l.map (·.1)).Nodup → l[j]? = some (n, v) → l.lookup n = some v
  | [], _, _, h => by simp at h
  | p :: l, 0, _, h => by
    simp at h
    subst h
    simp [List.lookup]
  | p :: l, j + 1, nd, h => by
    simp at h
    obtain ⟨p1, p2⟩ := p
    have nd' := List.nodup_cons.mp nd
    have ne : (n == p1) = false := by
      simp only [beq_eq_false_iff_ne, ne_eq]
      intro z
      exact nd'.1 (List.mem_map.mpr ⟨(n, v), List.mem_of_getElem? h, z⟩)
    simp only [List.lookup, ne]
    exact lookup_at nd'.2 h
section
variable {W : Wd} {X : Cx} {a : Addr} {oe : Obj} {cls : Value} {d : Option Addr} {pn : List (Addr × Obj)} {i c : Nat} {e : Expr} {es : List Expr} {pos p2 : Pos} {n : Str}
/-- the exception's field -/
theorem xfield {H : Hp} {x : Exn} (xr : ExRep W H x cls d) {f : Nat} {dv : D} (hn : (W.xfl x.x)[f]? = some n) (hd : x.ds[f]? = some dv) (nd : (W.xfl x.x).Nodup) : ∃ dd fs v, d = some dd ∧ H dd = some (.xd fs) ∧ fs.lookup n = some v ∧ RepD W H dv v := by
  have hne : x.ds ≠ [] := fun z => by
    rw [z] at hd
    simp at hd
  obtain ⟨dd, fs, e1, e2, e3, e4⟩ := xr.2 hne
  have l1 := RepDs.length e4
  have l2 : fs.length = (W.xfl x.x).length := by
    have := congrArg List.length e3
    simpa using this
  have lf : f < x.ds.length := (List.getElem?_eq_some_iff.mp hd).1
  simp at l1
  have hj : x.ds.length - 1 - f < x.ds.reverse.length := by simp; omega
  have hd2 : x.ds.reverse[x.ds.length - 1 - f]? = some dv := by
    rw [List.getElem?_reverse (by omega)]
    have : x.ds.length - 1 - (x.ds.length - 1 - f) = f := by omega
    rw [this]
    exact hd
  obtain ⟨v, h1, h2⟩ := RepDs.get e4 hd2
  have hn2 : (fs.map (·.1))[x.ds.length - 1 - f]? = some n := by
    rw [e3, List.getElem?_reverse (by omega)]
    have : (W.xfl x.x).length - 1 - (x.ds.length - 1 - f) = f := by omega
    rw [this]
    exact hn
  have hp : fs[x.ds.length - 1 - f]? = some (n, v) := by
    rw [List.getElem?_map] at h1 hn2
    cases q : fs[x.ds.length - 1 - f]? with
    | none => rw [q] at h1; cases h1
    | some p =>
      rw [q] at h1 hn2
      cases h1
      cases hn2
      rfl
  exact ⟨dd, fs, v, e1, e2, lookup_at (by rw [e3]; unfold List.Nodup; rw [List.pairwise_reverse]; exact List.Pairwise.imp (fun h => h.symm) nd) hp, h2⟩
def heR (o : Option D) (τ : Loc) : Res Rv := match o with
  | some d => .ok (.pu d) τ
  | none => .stk
/-- an expression of a suite: what is told of the exception -/
def tXe (W : Wd) (i c : Nat) (a : Addr) (cls : Value) (d : Option Addr) (he : He) : TE := fun σ H Q => ∃ τ own x, SRep W τ σ H own ∧ σ[i]? = some (some (.ref a)) ∧ ExRep W H x cls d ∧ x.x = c ∧ Fin W WF nob (RvRep W) (BoIn nob) τ own σ H Q (heR (he.val x.ds) τ)
theorem x_k {Y : Cx} {dv : D} (h : PEv W Y WF nob nob e (fun τ => .ok (.pu dv) τ)) : PE Y e (tXe W i c a cls d (.k dv)) := PE.imp' h fun σ H Q ⟨τ, own, x, S, _, _, _, hF⟩ => ⟨τ, own, S, hF⟩
theorem x_xf {f : Nat} {y : Str} (T : XfC X.K (W.xcls c)) (hno : PySem.W.findIn X.K (.ref (W.xcls c)) n = some none) (hz : Zc cls d oe) (hf : ∃ vs, oe.data = .fields vs) (hN : X.N[i]? = some y) (hv : Vis X.env.scope y) (hd : (y == ("__debug__" : Str)) = false) (hcd : (y == ("__classdict__" : Str)) = false)
    (hb : attributeBase (.Name y p2) n X.env (eval (.Name y p2) X.env) = eval (.Name y p2) X.env) (hn : (W.xfl c)[f]? = some n) (nd : (W.xfl c).Nodup) : PE (X.suite a ((a, oe) :: pn)) (.Attribute (.Name y p2) n pos) (tXe W i c a cls d (.xf f)) :=
  PE.imp' (pe_xf T hno hz hf (pe_var (X := X.suite a ((a, oe) :: pn)) (i := i) hN hv hd hcd) hb) fun σ H Q ⟨τ, own, x, S, hs, xr, hc, hF⟩ => by
    subst hc
    simp only [He.val] at hF
    cases hd : x.ds[f]? with
    | none =>
      rw [hd] at hF
      exact hF.elim
    | some dv =>
      rw [hd] at hF
      obtain ⟨dd, fs, v, e1, e2, e3, e4⟩ := xfield xr hn hd nd
      exact ⟨.ref a, hs, rfl, xr.1, dd, fs, v, e1, e2, e3, refl_of S hF ⟨rfl, e4⟩ trivial⟩
/-- several -/
def tXes (W : Wd) (i c : Nat) (a : Addr) (cls : Value) (d : Option Addr) (hs : List He) : TA := fun σ H Q => ∃ τ own x, SRep W τ σ H own ∧ σ[i]? = some (some (.ref a)) ∧ ExRep W H x cls d ∧ x.x = c ∧ Fin W WF nob (DReps W) (fun _ => True) τ own σ H Q (optR (He.vals x.ds hs) τ)
theorem ExRep.keep (ok : W.Ok) {τ τ' : Loc} {own own' : Own} {σ : L2.St} {H H' : Hp} {x : Exn} (S : SRep W τ σ H own) (xr : ExRep W H x cls d) (st : Stp nob τ own H τ' own' H') : ExRep W H' x cls d :=
  ⟨xr.1, fun h => by
    obtain ⟨dd, fs, e1, e2, e3, e4⟩ := xr.2 h
    exact ⟨dd, fs, e1, st.fr dd _ e2 (fun _ z => by cases z) (fun i hi => hi.elim), e3, RepDs.keep ok (st.keeps S) _ _ e4⟩⟩
theorem xs_nil {Y : Cx} : PA Y [] (tXes W i c a cls d []) := PA.imp' pa_nil fun σ H Q ⟨τ, own, x, S, _, _, _, hF⟩ => refl_of (b := []) S hF ⟨rfl, rfl⟩ trivial
theorem xs_cons (ok : W.Ok) {Y : Cx} {h : He} {hs : List He} (h1 : PE Y e (tXe W i c a cls d h)) (h2 : PA Y es (tXes W i c a cls d hs)) (he : starEach (e :: es) Y.env = (false, eval e Y.env) :: starEach es Y.env) : PA Y (e :: es) (tXes W i c a cls d (h :: hs)) :=
  PA.imp' (pa_cons h1 h2 he) fun σ H Q ⟨τ, own, x, S, hs, xr, hc, hF⟩ => by
    refine ⟨τ, own, x, S, hs, xr, hc, ?_⟩
    simp only [He.vals] at hF
    cases e1 : h.val x.ds with
    | none =>
      rw [e1] at hF
      exact hF.elim
    | some d1 =>
      rw [e1] at hF
      simp only [heR]
      intro v H' own' M S' r' _ st' sr'
      refine ⟨τ, own', x, S', hs, ExRep.keep ok S xr st', hc, ?_⟩
      simp only [Option.bind_some] at hF
      cases e2 : He.vals x.ds _ with
      | none =>
        rw [e2] at hF
        exact hF.elim
      | some ds =>
        rw [e2] at hF
        simp only [optR] at hF ⊢
        intro vs H2 own2 M2 S2 r2 _ st2 sr2
        exact hF (v :: vs) H2 own2 [] S2 ⟨rfl, v, vs, rfl, RepD.keep ok (st2.keeps S') _ _ r'.2, r2.2⟩ trivial (st'.trans st2) fun b hb => by cases hb
theorem x_tup (ok : W.Ok) {Y : Cx} {hs : List He} {x1 : Nat} (h : PA Y es (tXes W i c a cls d hs)) (hl : hs.length ≤ 1000) : PE Y (.Tuple es x1 pos) (tXe W i c a cls d (.tup hs)) :=
  PE.imp' (pe_tup h) fun σ H Q ⟨τ, own, x, S, hs', xr, hc, hF⟩ => by
    refine ⟨τ, own, x, S, hs', xr, hc, ?_⟩
    simp only [He.val] at hF
    cases e1 : He.vals x.ds hs with
    | none =>
      rw [e1] at hF
      exact hF.elim
    | some ds =>
      rw [e1] at hF
      simp only [Option.map_some, heR, optR] at hF ⊢
      intro vs H' own' M S' r' _ st' sr'
      have len : ∀ (l : List He) (ds : List D) (xs : List D), He.vals xs l = some ds → ds.length = l.length := fun l => by
        induction l with
        | nil =>
          intro ds xs e
          simp only [He.vals, Option.some.injEq] at e
          subst e
          rfl
        | cons h l ih =>
          intro ds xs e
          simp only [He.vals, Option.bind_eq_some_iff, Option.map_eq_some_iff] at e
          obtain ⟨d1, _, d2, e2, rfl⟩ := e
          simp [ih d2 xs e2]
      refine ⟨?_, fun p hp => Fin.done ok hF S' st' (same_new hp) (z_tup r'.2 hp ok) (by simp)⟩
      rw [RepDs.length r'.2, len hs ds _ e1]
      exact Nat.le_trans hl (by decide)
/-- the suite y = e -/
theorem hd_asgA {Y : Cx} {j : Nat} {y : Str} {he : He} (hN : Y.N.Nodup) (hi : Y.N[j]? = some y) (hx : L2.Loc Y.env.scope y) (hf : Y.fn y = true ∨ Y.env.scope.names.lookup y = some .local) (h : PE Y e (tXe W i c a cls d he)) (hs : swapsWith e (some (.Name y p2)) pos.line Y.env = pure false) :
    PSs Y [.Assign [.Name y p2] e pos] (tHdA W (· = j) (· = j) i c (.asg j he) a cls d) :=
  PSs.imp' (pss_one (ps_set hN hi hx h hs hf)) fun D σ H ⟨τ, own, x, S, hs', xr, hc, hF⟩ => by
    refine ⟨τ, own, x, S, hs', xr, hc, ?_⟩
    simp only [hdRun] at hF
    cases e1 : he.val x.ds with
    | none =>
      rw [e1] at hF
      exact hF.elim
    | some dv =>
      rw [e1] at hF
      simp only [heR]
      intro v H' own' M S' r' _ st' sr'
      exact hF _ H' _ (S'.put (i := j) (c := .pu dv) (M := []) ⟨rfl, r'.2⟩ (by simp) fun k b hb => by cases hb) ⟨Stp.put (st'.mono fun _ h => h.elim) rfl (fun b hb => by cases hb), set_off.1, set_off.2⟩
end
end DE
end
section
set_option Elab.async false
set_option linter.all false
set_option maxRecDepth 100000
set_option maxHeartbeats 2000000
/-! DE32: list(d), d a dict. -/
namespace DE
open PySem L2 PySem.SeqAt PyProof.Rows

section
variable {W : Wd} {X : Cx}
theorem keys_rep {H : Hp} : ∀ (kvs : List (Key × V)), RepDs W H (kvs.map fun p => dKey p.1) (kvs.map fun p => kV p.1)
  | [] => rfl
  | (k, v) :: kvs => by
    refine ⟨kV k, _, rfl, ?_, keys_rep kvs⟩
    cases k with
    | inl i => exact (show V.int i = V.int i from rfl)
    | inr x => exact (show V.str x = V.str x from rfl)
theorem c_listD (ok : W.Ok) (hc : X.calm = true) : CallR X (.type "list") (rBi W listDB) := by
  intro pins s σ H xs us Q I r ⟨cs, z, rc, e, q⟩
  unfold listDB at e
  split at e
  · rename_i ks vs
    cases e
    obtain ⟨v, r1, M, rfl, h1, h2⟩ := rc
    have e2 : r1 = [] := h2
    subst e2
    obtain ⟨_, a, o, kvs, rfl, ha, hks, _⟩ := h1
    refine call_listD hc pins s σ H _ us Q I r ⟨a, kvs, rfl, .inr ⟨o, ha⟩, fun p hp => q (.ref p) _ [p] (same_new hp) ?_ (fresh1 hp)⟩
    have := z_list (W := W) (ds := kvs.map fun p => dKey p.1) (H := H) (p := p) (keys_rep kvs) hp ok
    rw [hks]
    exact this
  · rename_i ks cs
    cases e
    obtain ⟨v, r1, M, rfl, h1, h2⟩ := rc
    have e2 : r1 = [] := h2
    subst e2
    obtain ⟨a, kvs, M', rfl, _, ha, hks, _⟩ := h1
    refine call_listD hc pins s σ H _ us Q I r ⟨a, kvs, rfl, .inl ha, fun p hp => q (.ref p) _ [p] (same_new hp) ?_ (fresh1 hp)⟩
    have := z_list (W := W) (ds := kvs.map fun p => dKey p.1) (H := H) (p := p) (keys_rep kvs) hp ok
    rw [hks]
    exact this
  · cases e
end
end DE
end
section
set_option Elab.async false
set_option linter.all false
/-! DE33: the evaluator's equations, as the soundness lemmas have them. -/
namespace DE
variable (κ : Kx)
theorem ev_k (d : D) : ev κ (.k d) = fun τ => .ok (.pu d) τ := by funext τ; rw [ev]
theorem ev_rd (p : P) : ev κ (.rd p) = fun τ => (evP κ p τ).bind rdC := by funext τ; rw [ev]
theorem ev_mv (i : Nat) : ev κ (.mv i) = mvC i := by funext τ; rw [ev]
theorem ev_kd (ks vs : List D) : ev κ (.kd ks vs) = fun τ => .ok (.fr (.dic ks (vs.map .pu))) τ := by funext τ; rw [ev]
theorem ev_inG (neg : Bool) (a : E) (ks : List D) : ev κ (.inG neg a ks) = fun τ => (toF (ev κ a τ)).bind fun d τ1 => inGE neg ks d τ1 := by funext τ; rw [ev]
theorem ev_idxG (a : E) (ks vs : List D) : ev κ (.idxG a ks vs) = fun τ => (toF (ev κ a τ)).bind fun d τ1 => idxGE ks vs d τ1 := by funext τ; rw [ev]
theorem ev_bin (o : Bop) (a b : E) : ev κ (.bin o a b) = fun τ => (ev κ a τ).bind fun x τ1 => (ev κ b τ1).bind fun y τ2 => lift (binop o x.c y.c) τ2 := by funext τ; rw [ev]
theorem ev_cmp (o : Cop) (a b : E) : ev κ (.cmp o a b) = fun τ => (ev κ a τ).bind fun x τ1 => (ev κ b τ1).bind fun y τ2 => lift ((cmpop o x.c y.c).map fun b => .pu (.bl b)) τ2 := by funext τ; rw [ev]
theorem ev_eqo (a b : E) : ev κ (.eqo a b) = fun τ => (ev κ a τ).bind fun x τ1 => (ev κ b τ1).bind fun y τ2 => eqoE κ x y τ2 := by funext τ; rw [ev]
theorem ev_isN (a : E) : ev κ (.isN a) = fun τ => (ev κ a τ).bind fun x τ1 => lift ((isNone x).map fun b => .pu (.bl b)) τ1 := by funext τ; rw [ev]
theorem ev_isntN (a : E) : ev κ (.isntN a) = fun τ => (ev κ a τ).bind fun x τ1 => lift ((isNone x).map fun b => .pu (.bl (!b))) τ1 := by funext τ; rw [ev]
theorem ev_and (a b : E) : ev κ (.and a b) = fun τ => (ev κ a τ).bind (andE (ev κ b)) := by funext τ; rw [ev] <;> rfl
theorem ev_or (a b : E) : ev κ (.or a b) = fun τ => (ev κ a τ).bind (orE (ev κ b)) := by funext τ; rw [ev] <;> rfl
theorem ev_not (a : E) : ev κ (.not a) = fun τ => (ev κ a τ).bind notE := by funext τ; rw [ev] <;> rfl
theorem ev_ife (t : T) (a b : E) : ev κ (.ife t a b) = fun τ => (evT κ t τ).bind fun c τ1 => if c then ev κ a τ1 else ev κ b τ1 := by funext τ; rw [ev]
theorem ev_tup (es : Es) : ev κ (.tup es) = fun τ => (evs κ es τ).bind fun rs τ1 => lift (tupE rs) τ1 := by funext τ; rw [ev]
theorem ev_lst (es : Es) : ev κ (.lst es) = fun τ => (evs κ es τ).bind fun rs τ1 => lift (lstE rs) τ1 := by funext τ; rw [ev]
theorem ev_dic (ks : List D) (es : Es) : ev κ (.dic ks es) = fun τ => (evs κ es τ).bind fun rs τ1 => lift ((keepAll rs).bind fun cs => dicE ks cs) τ1 := by funext τ; rw [ev]
theorem ev_idx (a i : E) : ev κ (.idx a i) = fun τ => (ev κ a τ).bind fun x τ1 => (toF (ev κ i τ1)).bind fun d τ2 => idxE x d τ2 := by funext τ; rw [ev]
theorem ev_fld (a : E) (f : PySem.Str) : ev κ (.fld a f) = fun τ => (ev κ a τ).bind fun x τ1 => fldE x f τ1 := by funext τ; rw [ev]
theorem ev_sli (a : E) (l h : Eo) : ev κ (.sli a l h) = fun τ => (ev κ a τ).bind fun x τ1 => (evO κ l τ1).bind fun l τ2 => (evO κ h τ2).bind fun u τ3 => sliE x l u τ3 := by funext τ; rw [ev]
theorem ev_lc (ws : List Nat) (tg : Tg) (it : I) (t : T) (e : E) : ev κ (.lc ws tg it t e) = fun τ => (evI κ it τ).bind fun items τ1 => putBack ws τ1 (lcLoop (lcTurn ws tg (evT κ t) fun τ => toF (ev κ e τ)) items τ1) := by funext τ; rw [ev]
theorem ev_call (f : Nat) (es : Es) : ev κ (.call f es) = fun τ => (evs κ es τ).bind fun rs τ1 => callR (κ.call f) (rs.map fzFr) τ1 := by funext τ; rw [ev] <;> rfl
theorem ev_make (c : Nat) (es : Es) : ev κ (.make c es) = fun τ => (evs κ es τ).bind fun rs τ1 => callR (mkOf (κ.call (κ.init c)) c) (rs.map fzFr) τ1 := by funext τ; rw [ev] <;> rfl
theorem ev_meth (m : PySem.Str) (o : E) (es : Es) : ev κ (.meth m o es) = fun τ => (ev κ o τ).bind (methE κ m (evs κ es)) := by funext τ; rw [ev]
theorem ev_isi (a : E) (t : Ty) : ev κ (.isi a t) = fun τ => (ev κ a τ).bind fun x τ1 => lift ((typeIs t x.c).map fun b => .pu (.bl b)) τ1 := by funext τ; rw [ev]
theorem ev_bi (b : Bi) (es : Es) : ev κ (.bi b es) = fun τ => (evs κ es τ).bind fun rs τ1 => lift (bi b (rs.map Rv.c)) τ1 := by funext τ; rw [ev]
theorem ev_mi (m : Mi) (o : E) (es : Es) : ev κ (.mi m o es) = fun τ => (ev κ o τ).bind (bmE (miOk m) (miR m) (evs κ es)) := by funext τ; rw [ev] <;> rfl
theorem ev_fz (e : E) : ev κ (.fz e) = fun τ => (toF (ev κ e τ)).bind fun d τ1 => .ok (.pu d) τ1 := by funext τ; rw [ev]
theorem evs_nil : evs κ .nil = fun τ => .ok [] τ := by funext τ; rw [evs]
theorem evs_cons (e : E) (es : Es) : evs κ (.cons e es) = fun τ => (ev κ e τ).bind fun r τ1 => (evs κ es τ1).bind fun rs τ2 => .ok (r :: rs) τ2 := by funext τ; rw [evs]
theorem evT_yes : evT κ .yes = fun τ => .ok true τ := by funext τ; rw [evT]
theorem evT_e (a : E) : evT κ (.e a) = fun τ => (ev κ a τ).bind truthE := by funext τ; rw [evT]
theorem evT_and (a b : T) : evT κ (.and a b) = fun τ => (evT κ a τ).bind (andT (evT κ b)) := by funext τ; rw [evT] <;> rfl
theorem evT_or (a b : T) : evT κ (.or a b) = fun τ => (evT κ a τ).bind (orT (evT κ b)) := by funext τ; rw [evT] <;> rfl
theorem evT_not (a : T) : evT κ (.not a) = fun τ => (evT κ a τ).bind fun c τ1 => .ok (!c) τ1 := by funext τ; rw [evT]
theorem ex_asg (i : Nat) (e : E) : ex κ (.asg i e) = fun τ => .of (ev κ e τ) fun r τ1 => .of (optR r.keep τ1) fun c τ1 => .nx (τ1.set i c) := by funext τ; rw [ex]
theorem ex_par (i j : Nat) (as : Es) : ex κ (.par i j as) = fun τ => .of (evs κ as τ) fun rs τ1 => .of (optR (fzAll rs) τ1) fun ds τ1 => parE i j ds τ1 := by funext τ; rw [ex]
theorem ex_asgT (tg : Tg) (e : E) : ex κ (.asgT tg e) = fun τ => .of (toF (ev κ e τ)) fun d τ1 => .of (optR (asgT tg d τ1) τ1) fun τ2 _ => .nx τ2 := by funext τ; rw [ex]
theorem ex_ife (t : T) (a b : Ss) : ex κ (.ife t a b) = fun τ => .of (evT κ t τ) fun c τ1 => if c then exs κ a τ1 else exs κ b τ1 := by funext τ; rw [ex]
theorem ex_ret (e : E) : ex κ (.ret e) = fun τ => .of (ev κ e τ) fun r τ1 => .of (optR r.keep τ1) fun c τ1 => .ret c τ1 := by funext τ; rw [ex]
theorem ex_for (tg : Tg) (it : I) (b : Ss) : ex κ (.for tg it b) = fun τ => .of (evI κ it τ) fun items τ1 => forLoop (forTurn tg (exs κ b)) items τ1 := by funext τ; rw [ex] <;> rfl
theorem ex_while (t : T) (b : Ss) : ex κ (.while t b) = whileLoop (evT κ t) (exs κ b) κ.fuel := by funext τ; rw [ex]
theorem exs_nil : exs κ .nil = fun τ => .nx τ := by funext τ; rw [exs]
theorem exs_cons (s : S) (ss : Ss) : exs κ (.cons s ss) = fun τ => (ex κ s τ).seq (exs κ ss) := by funext τ; rw [exs]
theorem ex_try (b : Ss) (c : Nat) (h : Hd) : ex κ (.try b (.cons c h .nil)) = fun τ => tryE κ.sub c h (exs κ b τ) := by
  funext τ
  rw [ex]
  cases exs κ b τ <;> rfl
theorem ex_tryA (b : Ss) (c i : Nat) (h : Hd) : ex κ (.try b (.as c i h .nil)) = fun τ => tryA κ.sub c i h (exs κ b τ) := by
  funext τ
  rw [ex]
  cases exs κ b τ <;> rfl
end DE
end
section
set_option Elab.async false
set_option linter.all false
/-! DE34: more of the evaluator's equations. -/
namespace DE
variable (κ : Kx)
theorem ev_chain (o o' : Cop) (a b c : E) : ev κ (.chain o o' a b c) = fun τ => (ev κ a τ).bind fun x τ1 => (ev κ b τ1).bind fun y τ2 => (optR (cmpop o x.c y.c) τ2).bind fun t τ2 =>
    if t then (ev κ c τ2).bind fun z τ3 => lift ((cmpop o' y.c z.c).map fun b => .pu (.bl b)) τ3 else .ok (.pu (.bl false)) τ2 := by funext τ; rw [ev]
theorem ev_rev (a : E) : ev κ (.rev a) = fun τ => (ev κ a τ).bind fun x τ1 => lift ((listOf x.c).map fun ds => .fr (.lst (ds.reverse.map .pu))) τ1 := by funext τ; rw [ev]
theorem ev_fstr (es : Es) : ev κ (.fstr es) = fun τ => (evJ κ es PySem.Str.empty τ).bind fun s τ1 => .ok (.pu (.str s)) τ1 := by funext τ; rw [ev]
theorem evJ_nil : evJ κ .nil = fun acc τ => .ok acc τ := by funext acc τ; rw [evJ]
theorem evJ_cons (e : E) (es : Es) : evJ κ (.cons e es) = fun acc τ => (toF (ev κ e τ)).bind (jStep acc (evJ κ es)) := by funext acc τ; rw [evJ]
theorem evO_no : evO κ .no = fun τ => .ok none τ := by funext τ; rw [evO]
theorem evO_so (e : E) : evO κ (.so e) = fun τ => (toF (ev κ e τ)).bind intOf := by funext τ; rw [evO] <;> rfl
theorem evP_v (i : Nat) : evP κ (.v i) = vF i := by funext τ; rw [evP] <;> rfl
theorem evP_f (p : P) (n : PySem.Str) : evP κ (.f p n) = fun τ => (evP κ p τ).bind fun q τ1 => (optR (q.2.2.sub (.f n)) τ1).bind fun c τ1 => .ok (q.1, q.2.1 ++ [.f n], c) τ1 := by funext τ; rw [evP]
theorem evP_x (p : P) (i : E) : evP κ (.x p i) = fun τ => (evP κ p τ).bind fun q τ1 => (toF (ev κ i τ1)).bind fun d τ2 => (optR (stepAt q.2.2 d) τ2).bind fun j τ2 => (optR (q.2.2.sub (.k j)) τ2).bind fun c τ2 => .ok (q.1, q.2.1 ++ [.k j], c) τ2 := by funext τ; rw [evP]
theorem evI_l (e : E) : evI κ (.l e) = fun τ => (ev κ e τ).bind fun r τ1 => optR (itemsOf r.c) τ1 := by funext τ; rw [evI]
theorem evI_rng (a : E) : evI κ (.rng a) = fun τ => (toF (ev κ a τ)).bind rng1E := by funext τ; rw [evI]
theorem evI_rng2 (a b : E) : evI κ (.rng2 a b) = fun τ => (toF (ev κ a τ)).bind fun d τ1 => (toF (ev κ b τ1)).bind fun e τ2 => rng2E d e τ2 := by funext τ; rw [evI]
theorem evI_enum (e : E) : evI κ (.enum e) = fun τ => (ev κ e τ).bind fun r τ1 => optR ((seqOf r.c).map fun ds => enumOf ds 0) τ1 := by funext τ; rw [evI]
theorem evI_zip (a b : E) : evI κ (.zip a b) = fun τ => (ev κ a τ).bind fun r τ1 => (ev κ b τ1).bind fun q τ2 => zipE r q τ2 := by funext τ; rw [evI]
theorem ex_setF (p : P) (f : PySem.Str) (e : E) : ex κ (.setF p f e) = fun τ => .of (ev κ e τ) fun r τ1 => .of (optR r.keep τ1) fun c τ1 => .of (evP κ p τ1) fun q τ2 => .of (optR (setF q.2.2 f c) τ2) fun y τ2 => .nx (setP q y τ2) := by funext τ; rw [ex]
theorem ex_setX (p : P) (i e : E) : ex κ (.setX p i e) = fun τ => .of (ev κ e τ) fun r τ1 => .of (optR r.keep τ1) fun c τ1 => .of (evP κ p τ1) fun q τ2 => .of (toF (ev κ i τ2)) fun k τ3 => .of (optR (setX q.2.2 k c) τ3) fun y τ3 => .nx (setP q y τ3) := by funext τ; rw [ex]
theorem ex_ex (e : E) : ex κ (.ex e) = fun τ => .of (ev κ e τ) fun _ τ1 => .nx τ1 := by funext τ; rw [ex]
theorem ex_retN : ex κ .retN = fun τ => .ret (.pu .non) τ := by funext τ; rw [ex]
theorem ex_raise (x : Nat) (es : Es) : ex κ (.raise x es) = fun τ => .of (evs κ es τ) fun rs τ1 => .of (optR (fzAll rs) τ1) fun ds τ1 => raiseE (κ.xar x) x ds τ1 := by funext τ; rw [ex]
theorem ex_fz (i : Nat) : ex κ (.fz i) = fzS i := by funext τ; rw [ex] <;> rfl
theorem ex_kill (i : Nat) : ex κ (.kill i) = fun τ => .nx (τ.set i .un) := by funext τ; rw [ex]
theorem ev_callf (i : Nat) (es : Es) : ev κ (.callf i es) = callfE κ i (evs κ es) := by funext τ; rw [ev]
theorem ev_callc (i : Nat) (es : Es) : ev κ (.callc i es) = callcE κ i (evs κ es) := by funext τ; rw [ev]
theorem ev_calll (f : Nat) (es : Es) (l : Nat) (is : List Nat) : ev κ (.calll f es l is) = fun τ => (evL κ is es τ).bind fun q τ1 => lamCall (κ.call f) l q.1 q.2 τ1 := by funext τ; rw [ev]
theorem ev_methl (m : PySem.Str) (o : E) (l : Nat) (is : List Nat) : ev κ (.methl m o l is) = fun τ => (toF (ev κ o τ)).bind (methlE κ m l is) := by funext τ; rw [ev]
theorem evL_nil (is : List Nat) : evL κ is .nil = fun τ => (capE is τ).bind fun ws τ1 => .ok ([], ws) τ1 := by funext τ; rw [evL]
theorem evL_cons (is : List Nat) (e : E) (es : Es) : evL κ is (.cons e es) = fun τ => (toF (ev κ e τ)).bind fun d τ1 => (evL κ is es τ1).bind fun p τ2 => .ok (d :: p.1, p.2) τ2 := by funext τ; rw [evL]
theorem ev_makes (c : Nat) (a : E) : ev κ (.makes c a) = fun τ => (toF (ev κ a τ)).bind fun d τ1 => match d with
    | .tup ds => callR (mkOf (κ.call (κ.init c)) c) ((ds.map Rv.pu).map fzFr) τ1
    | _ => .stk := by funext τ; rw [ev] <;> rfl
theorem ev_ow (e : E) : ev κ (.ow e) = fun τ => (ev κ e τ).bind fun r τ1 => match r with
    | .fr c => .ok (.ow c) τ1
    | _ => .stk := by funext τ; rw [ev] <;> rfl
theorem ev_cat (a b : E) : ev κ (.cat a b) = fun τ => (ev κ a τ).bind fun x τ1 => (ev κ b τ1).bind fun y τ2 => lift (catE x y) τ2 := by funext τ; rw [ev]
theorem ex_aug (i : Nat) (e : E) : ex κ (.aug i e) = fun τ => match look τ i with
    | .pu (.int a) => .of (toF (ev κ e τ)) fun d τ1 => (match d with
      | .int b => .nx (τ1.set i (.pu (.int (a + b))))
      | _ => .stk)
    | _ => .stk := by funext τ; rw [ex] <;> rfl
theorem ex_augF (p : P) (f : PySem.Str) (e : E) : ex κ (.augF p f e) = fun τ => .of (evP κ p τ) fun q τ1 => .of (optR (augI q.2.2 f) τ1) fun a τ1 => .of (toF (ev κ e τ1)) fun d τ2 => (match d with
      | .int b => .of (optR (setF q.2.2 f (.pu (.int (a + b)))) τ2) fun y τ2 => .nx (setP q y τ2)
      | _ => .stk) := by funext τ; rw [ex] <;> rfl
theorem ex_pass : ex κ .pass = fun τ => .nx τ := by funext τ; rw [ex]
theorem ex_brk : ex κ .brk = fun τ => .brk τ := by funext τ; rw [ex]
theorem ex_cont : ex κ .cont = fun τ => .cont τ := by funext τ; rw [ex]
end DE
end
section
set_option Elab.async false
set_option linter.all false
set_option maxRecDepth 100000
set_option maxHeartbeats 2000000
/-! DE35: cells shown to a callee, hidden again; data without closures. -/
namespace DE
open PySem L2

/-- a thing of which its object tells all -/
def AnyO : HO := .ext fun _ => True
abbrev Zs := List (Addr × Obj)
def shw (zs : Zs) (H : Hp) : Hp := fun b => match zs.lookup b with
  | some o => some (.frz o AnyO)
  | none => H b
def hid (zs : Zs) (H : Hp) : Hp := fun b => match zs.lookup b with
  | some _ => none
  | none => H b
/-- they are tracked -/
def ZF (zs : Zs) (H : Hp) : Prop := ∀ b o, zs.lookup b = some o → H b = some (.frz o AnyO)
/-- they are not -/
def ZN (zs : Zs) (H : Hp) : Prop := ∀ b o, zs.lookup b = some o → H b = none
section
variable {zs : Zs} {H H' : Hp} {b : Addr} {o : Obj} {u : HO}
theorem shw_at (e : zs.lookup b = some o) : shw zs H b = some (.frz o AnyO) := by unfold shw; rw [e]
theorem shw_of (e : zs.lookup b = none) : shw zs H b = H b := by unfold shw; rw [e]
theorem hid_at (e : zs.lookup b = some o) : hid zs H b = none := by unfold hid; rw [e]
theorem hid_of (e : zs.lookup b = none) : hid zs H b = H b := by unfold hid; rw [e]
theorem ZN.out (n : ZN zs H) (e : H b = some u) : zs.lookup b = none := by
  cases q : zs.lookup b with
  | none => rfl
  | some o =>
    rw [n b o q] at e
    cases e
theorem ZF.out (n : ZF zs H) (e : H b = some u) (h : ∀ o, u ≠ .frz o AnyO) : zs.lookup b = none := by
  cases q : zs.lookup b with
  | none => rfl
  | some o =>
    rw [n b o q] at e
    cases e
    exact (h o rfl).elim
theorem ZF.outN (n : ZF zs H) (e : H b = none) : zs.lookup b = none := by
  cases q : zs.lookup b with
  | none => rfl
  | some o =>
    rw [n b o q] at e
    cases e
theorem ZN.shw (n : ZN zs H) (e : H b = some u) : shw zs H b = some u := by rw [shw_of (n.out e)]; exact e
theorem shw_F : ZF zs (shw zs H) := fun _ _ e => shw_at e
theorem hid_N : ZN zs (hid zs H) := fun _ _ e => hid_at e
theorem anyO_ne {φ : Heap → Prop} (h : (HO.ext φ) = .frz o u) : False := by cases h
end
section
variable {P : Program} {w : World} {zs : Zs} {H H' : Hp} {h h' : Heap} {fs : List Addr}
theorem hok_shw (x : HOk P w H h) (n : ZN zs H) (g : ∀ b o, zs.lookup b = some o → h.get? b = some o) : HOk P w (shw zs H) h := fun b u e => by
  cases q : zs.lookup b with
  | some o =>
    rw [shw_at q] at e
    cases e
    exact ⟨g b o q, trivial, ⟨o, g b o q⟩, fun _ _ _ _ => trivial⟩
  | none =>
    rw [shw_of q] at e
    exact (x b u e).stay (fun _ _ _ r => r) (fun c r => n.shw r) fun c xs r => n.shw r
theorem hok_hid (x : HOk P w H h) (n : ZF zs H) : HOk P w (hid zs H) h := fun b u e => by
  cases q : zs.lookup b with
  | some o =>
    rw [hid_at q] at e
    cases e
  | none =>
    rw [hid_of q] at e
    refine (x b u e).stay (fun _ _ _ r => r) (fun c r => ?_) fun c xs r => ?_
    · rw [hid_of (n.out r fun _ z => by cases z)]
      exact r
    · rw [hid_of (n.out r fun _ z => by cases z)]
      exact r
/-- a callee that saw them tracked -/
theorem un_hid (u : Un fs [] (shw zs H) H' h h') (n : ZN zs H) (g : ∀ b o, zs.lookup b = some o → h.get? b = some o) (ok : HOk P w H' h') : Un fs [] H (hid zs H') h h' := by
  have f : ZF zs H' := fun b o e => u.frzs b o AnyO (shw_at e)
  have key : ∀ b v, H b = some v → ∀ v', H' b = some v' → hid zs H' b = some v' := fun b v e v' e' => by
    rw [hid_of (n.out e)]
    exact e'
  have same : ∀ b o o', zs.lookup b = some o' → h.get? b = some o → h'.get? b = some o := fun b o o' q e => by
    rw [g b o' q] at e
    cases e
    exact (ok b _ (f b _ q)).1
  refine ⟨fun b o e1 e2 e3 e4 => ?_, fun b o e1 e2 e3 e4 => ?_, fun b o e1 e2 e4 => ?_, fun b o e1 e4 => u.there b o e1 e4, fun b xs e => key b _ e _ (u.tups b xs (n.shw e)), fun b o v e => key b _ e _ (u.frzs b o v (n.shw e)), fun b ps e => ?_⟩
  · cases q : zs.lookup b with
    | none => exact u.keep b o e1 (by rw [shw_of q]; exact e2) e3 e4
    | some o' => exact same b o o' q e1
  · cases q : zs.lookup b with
    | none => exact u.slot b o e1 (by rw [shw_of q]; exact e2) e3 e4
    | some o' => exact ⟨o.slots, same b o o' q e1⟩
  · cases q : zs.lookup b with
    | none =>
      rw [hid_of q]
      exact u.free b o e1 (by rw [shw_of q]; exact e2) e4
    | some o' => exact hid_at q
  · obtain ⟨m, e'⟩ := u.tbls b ps (n.shw e)
    exact ⟨m, key b _ e _ e'⟩
/-- a callee that had them hidden -/
theorem un_shw (u : Un fs [] (hid zs H) H' h h') (n : ZF zs H) (g : ∀ b o, zs.lookup b = some o → h.get? b = some o ∧ b ∉ fs) : Un fs [] H (shw zs H') h h' ∧ ZN zs H' ∧ ∀ b o, zs.lookup b = some o → h'.get? b = some o := by
  have f : ZN zs H' := fun b o e => u.free b o (g b o e).1 (hid_at e) (by simp)
  have g' : ∀ b o, zs.lookup b = some o → h'.get? b = some o := fun b o e => u.keep b o (g b o e).1 (hid_at e) (g b o e).2 (by simp)
  have key : ∀ b v, zs.lookup b = none → H' b = some v → shw zs H' b = some v := fun b v e e' => by
    rw [shw_of e]
    exact e'
  have low : ∀ b v, zs.lookup b = none → H b = some v → hid zs H b = some v := fun b v e e' => by
    rw [hid_of e]
    exact e'
  refine ⟨⟨fun b o e1 e2 e3 e4 => u.keep b o e1 (by rw [hid_of (n.outN e2)]; exact e2) e3 e4, fun b o e1 e2 e3 e4 => u.slot b o e1 (by rw [hid_of (n.outN e2)]; exact e2) e3 e4, fun b o e1 e2 e4 => ?_, fun b o e1 e4 => u.there b o e1 e4, fun b xs e => ?_, fun b o v e => ?_, fun b ps e => ?_⟩, f, g'⟩
  · have q := n.outN e2
    rw [shw_of q]
    exact u.free b o e1 (by rw [hid_of q]; exact e2) e4
  · have q := n.out e fun _ z => by cases z
    exact key b _ q (u.tups b xs (low b _ q e))
  · cases q : zs.lookup b with
    | none => exact key b _ q (u.frzs b o v (low b _ q e))
    | some o' =>
      rw [n b o' q] at e
      rw [shw_at q]
      exact e
  · have q := n.out e fun _ z => by cases z
    obtain ⟨m, e'⟩ := u.tbls b ps (low b _ q e)
    exact ⟨m, key b _ q e'⟩
end
section
variable {P : Program} {w : World} {K : PySem.W.Frag} {mg : Str → Option Value} {base : Heap} {A : Around} {outer : List Env} {s s' : Shared} {H : Hp} {zs : Zs} {Q : VK} {E : XK} {u : Value}
theorem env0_shw (e : Env0 P w K mg base A outer s H) (n : ZN zs H) (g : ∀ b o, zs.lookup b = some o → s.heap.get? b = some o ∧ base.get? b = none ∧ b ∉ frs outer) : Env0 P w K mg base A outer s (shw zs H) := by
  have out : ∀ b, (∃ o, base.get? b = some o) ∨ b ∈ frs outer → zs.lookup b = none := fun b hb => by
    cases q : zs.lookup b with
    | none => rfl
    | some o =>
      obtain ⟨_, g2, g3⟩ := g b o q
      rcases hb with ⟨o', z⟩ | z
      · rw [g2] at z
        cases z
      · exact (g3 z).elim
  exact ⟨e.frames, e.mod, fun b o eb => ⟨(e.bs b o eb).1, by rw [shw_of (out b (.inl ⟨o, eb⟩))]; exact (e.bs b o eb).2⟩, e.bsz, e.funs, fun b hb => by rw [shw_of (out b (.inr hb))]; exact e.frf b hb, hok_shw e.hok n fun b o q => (g b o q).1, e.bare⟩
theorem env0_hid (e : Env0 P w K mg base A outer s H) (n : ZF zs H) : Env0 P w K mg base A outer s (hid zs H) := by
  have low : ∀ b, H b = none → hid zs H b = none := fun b q => by
    rw [hid_of (n.outN q)]
    exact q
  exact ⟨e.frames, e.mod, fun b o eb => ⟨(e.bs b o eb).1, low b (e.bs b o eb).2⟩, e.bsz, e.funs, fun b hb => low b (e.frf b hb), hok_hid e.hok n, e.bare⟩
/-- the end of a call that saw them -/
theorem ce_hid (n : ZN zs H) (g : ∀ b o, zs.lookup b = some o → s.heap.get? b = some o) (h : CE outer P w (shw zs H) s (fun v H' => ZF zs H' → Q v (hid zs H')) u s') : CE outer P w H s Q u s' := by
  obtain ⟨v, H', os, bare, un, hok, r, q⟩ := h
  have f : ZF zs H' := fun b o e => un.frzs b o AnyO (shw_at e)
  exact ⟨v, hid zs H', os, bare, un_hid un n g hok, hok_hid hok f, r, q f⟩
theorem ce_shw (n : ZF zs H) (g : ∀ b o, zs.lookup b = some o → s.heap.get? b = some o ∧ b ∉ frs outer) (h : CE outer P w (hid zs H) s (fun v H' => ZN zs H' → Q v (shw zs H')) u s') : CE outer P w H s Q u s' := by
  obtain ⟨v, H', os, bare, un, hok, r, q⟩ := h
  obtain ⟨u2, f, g'⟩ := un_shw un n g
  exact ⟨v, shw zs H', os, bare, u2, hok_shw hok f g', r, q f⟩
/-- .. where an exception left it -/
theorem cx_hid (n : ZN zs H) (g : ∀ b o, zs.lookup b = some o → s.heap.get? b = some o ∧ b ∉ frs outer) (h : L2.CX P w outer (shw zs H) s (fun c d H' => ZF zs H' → E c d (hid zs H')) u s') : L2.CX P w outer H s E u s' := by
  obtain ⟨a, B, H', cls, d, e, fl, hok, ub, na, os, bare, q⟩ := h
  have f : ZF zs H' := fun b o e => ub.frzs b o AnyO (shw_at e)
  have key : ∀ b v, H b = some v → ∀ v', H' b = some v' → hid zs H' b = some v' := fun b v e v' e' => by
    rw [hid_of (n.out e)]
    exact e'
  refine ⟨a, B, hid zs H', cls, d, e, fl, hok_hid hok f, ⟨fun b o e1 e2 e3 => ?_, ub.slot, fun b o e1 e2 => ?_, ub.there, fun b xs e => key b _ e _ (ub.tups b xs (n.shw e)), fun b o v e => key b _ e _ (ub.frzs b o v (n.shw e)), fun b ps e => ?_⟩, ?_, os, bare, q f⟩
  · cases q : zs.lookup b with
    | none => exact ub.keep b o e1 (by rw [shw_of q]; exact e2) e3
    | some o' =>
      rw [(g b o' q).1] at e1
      cases e1
      exact (hok b _ (f b _ q)).1
  · cases q : zs.lookup b with
    | none =>
      rw [hid_of q]
      exact ub.free b o e1 (by rw [shw_of q]; exact e2)
    | some o' => exact hid_at q
  · obtain ⟨m, e'⟩ := ub.tbls b ps (n.shw e)
    exact ⟨m, key b _ e _ e'⟩
  · rw [hid_of (f.outN na)]
    exact na
end

/-! ### data without closures -/
/-- the same, closures apart -/
def Wd.w0 (W : Wd) : Wd := { W with clo := fun _ _ _ _ => False }
/-- what is read of data: tuples and locked things that are no mere objects -/
def Sub0 (H H' : Hp) : Prop := (∀ b xs, H b = some (.tup xs) → H' b = some (.tup xs)) ∧ ∀ b o u, H b = some (.frz o u) → (∀ φ, u ≠ .ext φ) → H' b = some (.frz o u)
theorem FzL.sub {K : PySem.W.Frag} {H H' : Hp} {a : Addr} {xs : List V} (k : Sub0 H H') (h : FzL K H a xs) : FzL K H' a xs := by
  rcases h with ⟨o, h⟩ | h
  · exact .inl ⟨o, k.2 _ _ _ h fun _ z => by cases z⟩
  · exact .inr h
mutual
/-- V W: two words that differ in their closures at most -/
theorem RepD.sub {W V : Wd} (eK : V.K = W.K) (ec : V.cls = W.cls) (ef : V.fn = W.fn) (eF : V.isF = W.isF) (el : V.flds = W.flds) {H H' : Hp} (k : Sub0 H H') : ∀ (d : D) (v : L2.V), d.noClo = true → RepD W H d v → RepD V H' d v
  | .non, _, _, h => h
  | .bl _, _, _, h => h
  | .int _, _, _, h => h
  | .str _, _, _, h => h
  | .tup ds, v, n, h => by
    obtain ⟨a, vs, e, h1, h2⟩ := h
    exact ⟨a, vs, e, k.1 _ _ h1, RepDs.sub eK ec ef eF el k ds vs (by simpa [D.noClo] using n) h2⟩
  | .lst ds, v, n, h => by
    obtain ⟨a, vs, e, h1, h2⟩ := h
    exact ⟨a, vs, e, by rw [eK]; exact h1.sub k, RepDs.sub eK ec ef eF el k ds vs (by simpa [D.noClo] using n) h2⟩
  | .dic ks ds, v, n, h => by
    obtain ⟨a, o, kvs, e, h1, h2, h3⟩ := h
    exact ⟨a, o, kvs, e, k.2 _ _ _ h1 (fun _ z => by cases z), h2, RepDs.sub eK ec ef eF el k ds _ (by simpa [D.noClo] using n) h3⟩
  | .obj c ns ds, v, n, h => by
    obtain ⟨a, dx, o, fs, e, h1, h2, hf, h3⟩ := h
    exact ⟨a, dx, o, fs, e, by rw [ec]; exact k.2 _ _ _ h1 (fun _ z => by cases z), h2, by rw [el]; exact hf, RepDs.sub eK ec ef eF el k ds _ (by simpa [D.noClo] using n) h3⟩
  | .fn f, v, _, h => by
    show v = .ref (V.fn f) ∧ V.isF f = true
    rw [ef, eF]
    exact h
  | .clo l ws, _, n, _ => by simp [D.noClo] at n
theorem RepDs.sub {W V : Wd} (eK : V.K = W.K) (ec : V.cls = W.cls) (ef : V.fn = W.fn) (eF : V.isF = W.isF) (el : V.flds = W.flds) {H H' : Hp} (k : Sub0 H H') : ∀ (ds : List D) (vs : List L2.V), noClos ds = true → RepDs W H ds vs → RepDs V H' ds vs
  | [], _, _, h => h
  | d :: ds, vs, n, h => by
    obtain ⟨v, r, e, h1, h2⟩ := h
    simp only [noClos, Bool.and_eq_true] at n
    exact ⟨v, r, e, RepD.sub eK ec ef eF el k d v n.1 h1, RepDs.sub eK ec ef eF el k ds r n.2 h2⟩
end
theorem sub0_hid {zs : Zs} {H : Hp} (n : ZF zs H) : Sub0 H (hid zs H) :=
  ⟨fun b xs e => by rw [hid_of (n.out e fun _ z => by cases z)]; exact e, fun b o u e h => by
    rw [hid_of (n.out e fun o' z => ?_)]
    · exact e
    · cases z
      exact h _ rfl⟩
theorem sub0_keep {H H' : Hp} (k : Keeps H H') : Sub0 H H' := ⟨k.tup, fun b o u e _ => k.frz b o u e⟩
theorem keeps_shw {zs : Zs} {H : Hp} (n : ZN zs H) : Keeps H (shw zs H) := ⟨fun _ _ e => n.shw e, fun _ _ _ e => n.shw e, fun _ _ e => n.shw e⟩
mutual
theorem RepC.hid {W : Wd} {zs : Zs} {H : Hp} (n : ZF zs H) : ∀ (c : C) (v : L2.V) (M : List Addr), c.noClo = true → RepC W H c v M → RepC W (DE.hid zs H) c v M
  | .un, _, _, _, h => h
  | .pu d, v, M, nc, h => ⟨h.1, RepD.sub rfl rfl rfl rfl rfl (sub0_hid n) d v (by simpa [C.noClo] using nc) h.2⟩
  | .lst cs, v, M, nc, h => by
    obtain ⟨a, vs, M', h1, h2, h3, h4⟩ := h
    exact ⟨a, vs, M', h1, h2, by rw [hid_of (n.out h3 fun _ z => by cases z)]; exact h3, RepCs.hid n cs vs M' (by simpa [C.noClo] using nc) h4⟩
  | .dic ks cs, v, M, nc, h => by
    obtain ⟨a, kvs, M', h1, h2, h3, h4, h5⟩ := h
    exact ⟨a, kvs, M', h1, h2, by rw [hid_of (n.out h3 fun _ z => by cases z)]; exact h3, h4, RepCs.hid n cs _ M' (by simpa [C.noClo] using nc) h5⟩
  | .obj c ns cs, v, M, nc, h => by
    obtain ⟨a, dx, fs, M', h1, h2, h3, h4, hf, h5⟩ := h
    exact ⟨a, dx, fs, M', h1, h2, by rw [hid_of (n.out h3 fun _ z => by cases z)]; exact h3, h4, hf, RepCs.hid n cs _ M' (by simpa [C.noClo] using nc) h5⟩
theorem RepCs.hid {W : Wd} {zs : Zs} {H : Hp} (n : ZF zs H) : ∀ (cs : List C) (vs : List L2.V) (M : List Addr), noCloC cs = true → RepCs W H cs vs M → RepCs W (DE.hid zs H) cs vs M
  | [], _, _, _, h => h
  | c :: cs, vs, M, nc, h => by
    obtain ⟨v, r, M1, M2, h1, h2, h3, h4⟩ := h
    simp only [noCloC, Bool.and_eq_true] at nc
    exact ⟨v, r, M1, M2, h1, h2, RepC.hid n c v M1 nc.1 h3, RepCs.hid n cs r M2 nc.2 h4⟩
end
end DE
end
section
set_option Elab.async false
set_option linter.all false
set_option maxRecDepth 100000
set_option maxHeartbeats 2000000
/-! DE36: a lambda made, handed to a def. -/
namespace DE
open PySem L2

/-- the words of a lambda: captured names in order, where they stand in its maker's frame -/
structure LamI where
  qual : Str
  params : Arguments
  body : Expr
  scope : Scope
  fr : List Str
  is : List Nat
abbrev laObj (L : LamI) (cl : List (Str × Addr)) (pm ctv : Value) (c' : Addr) : Obj := PySem.W.kla_obj "<lambda>" L.qual L.params L.body L.scope cl pm c' ctv
section
variable {X : Cx} {pins : List (Addr × Obj)} {σ : L2.St} {H : Hp} {s : Shared}
theorem inv_lam {o : Obj} {t' : Nat} {h' : Heap} (hfr : o.isFreed = false) (I : Inv X pins σ H { s with heap := h', toks := t' }) : Inv X pins σ (upd H h'.objs.size (.frz o AnyO)) { s with heap := h'.push o, toks := t' } := by
  have e : (h'.push o).get? h'.objs.size = some o := Heap.get?_push_size _ hfr
  exact I.laid (a := h'.objs.size) (t' := t') (fun b u e => Heap.get?_push_of_some _ e) (Nat.le_refl _) ⟨e, trivial, ⟨o, e⟩, fun _ _ _ _ => trivial⟩
theorem lam_new {T : List (Addr × Str)} {c P : Addr} {L : LamI} {pos : Pos} {E : Value → Shared → Prop} {Q : Value → Shared → Prop} (I : Inv X pins σ H s) (TB : LamX.TabB X.base X.mg c P) (hcode : X.env.code = .ref c) (hq : X.env.qual ++ "<lambda>" = L.qual)
    (hm : (P, L.qual) ∈ T) (hu : ∀ p ∈ T, p.1 = P → p.2 = L.qual) (hT : LamX.Tabs T H) (hdef : defaultsOf L.params X.env = ([], [])) (hfree : ∀ y ∈ L.scope.names, y.2 = .free → ∃ c, X.env.cells.lookup y.1 = some c)
    (h : ∀ (f c' : Addr) (pm ctv : Value) (H1 : Hp) (s' : Shared), Inv X pins σ H1 s' → LamX.ExtN H H1 → (∀ b, H b ≠ none → H1 b ≠ none) → LamX.Tabs T H1 → H1 f = some (.frz (laObj L (cloFrom X.env.cells L.scope.names []) pm ctv c') AnyO) → H1 c' = some (LamX.CodeO c' L.qual) → Q (.ref f) s') :
    wpAny (model X.prog X.w) X.A (eval (.Lambda L.params L.body L.scope pos) X.env) Q E s := by
  obtain ⟨ps, hP, ht, ha⟩ := hT _ hm
  refine PySem.W.kla_eval hdef ?_
  rw [hq]
  have hbl : s.heap.BuiltinsAt X.mg P := TB.bm.keeps I.bk
  have hPo : s.heap.get? P = some { cls := .none, data := .fields ps } := I.hok P _ hP
  -- the object itself is tracked, behind whatever the table did
  have fin : ∀ (c' : Addr) (pm ctv : Value) (H1 : Hp) (h' : Heap) (t' : Nat), Inv X pins σ H1 { s with heap := h', toks := t' } → LamX.ExtN H H1 → (∀ b, H b ≠ none → H1 b ≠ none) → LamX.Tabs T H1 → H1 c' = some (LamX.CodeO c' L.qual) →
      Q (.ref h'.objs.size) { s with heap := h'.push (laObj L (cloFrom X.env.cells L.scope.names []) pm ctv c'), toks := t' } := fun c' pm ctv H1 h' t' J eN dm T1 hc' => by
    have nF : H1 h'.objs.size = none := J.hok.fresh (Nat.le_refl _)
    have old : ∀ b o, H1 b = some o → upd H1 h'.objs.size (.frz (laObj L (cloFrom X.env.cells L.scope.names []) pm ctv c') AnyO) b = some o := fun b o e => by
      rw [upd_ne (ne_of_none e nF)]
      exact e
    refine h _ c' pm ctv _ _ (inv_lam rfl J) (fun b o e n => old _ _ (eN b o e n)) (fun b hb z => ?_) (T1.ext old) upd_same (old _ _ hc')
    cases q : H1 b with
    | none => exact dm b hb q
    | some o =>
      rw [old _ _ q] at z
      cases z
  cases hc : codeAmong pos ps.toList with
  | none =>
    refine PySem.W.kla_makeFunction (mg := X.mg) (c := c) (P := P) (ps := ps) (closure_ok hfree) I.ok.glob (I.mod.glob.keeps I.bk) hcode (TB.code.keeps I.bk) hPo ht hc TB.gP hbl fun c' ctv h' tk hx hge hlt hrec htb => ?_
    obtain ⟨c2, oc, vs, t, e2, hoc, hd, hv⟩ := hrec
    cases e2
    have nC : H c' = none := I.hok.fresh hge
    have I1 := LamX.inv_table (t' := tk) (more := #[rawInt pos.line, rawInt pos.col, .ref c']) (h' := h') I hP (fun b o hb e => hx b o hb e) htb hge ⟨oc, vs, t, hoc, hd, hv⟩
    have hE : LamX.ExtN H (upd (upd H P (.tbl (ps ++ #[rawInt pos.line, rawInt pos.col, .ref c']))) c' (LamX.CodeO c' L.qual)) := fun b o e n => by
      have n1 : b ≠ P := fun z => by
        rw [z, hP] at e
        exact n ps (Option.some.inj e).symm
      rw [upd_ne (ne_of_none e nC), upd_ne n1]
      exact e
    have eL : (ps ++ #[rawInt pos.line, rawInt pos.col, .ref c']).toList = ps.toList ++ [rawInt pos.line, rawInt pos.col, .ref c'] := by simp
    refine fin c' _ ctv _ h' tk I1 hE (fun b hb z => ?_) (fun p hp => ?_) upd_same
    · by_cases e1 : b = c'
      · rw [e1] at hb
        exact hb nC
      · rw [upd_ne e1] at z
        by_cases e2 : b = P
        · rw [e2, upd_same] at z
          cases z
        · rw [upd_ne e2] at z
          exact hb z
    · by_cases hb : p.1 = P
      · rw [hu p hp hb, hb]
        refine ⟨_, by rw [upd_ne (ne_of_none hP nC), upd_same], by rw [eL]; exact PySem.TriplesOk_snoc _ _ _ _ ht, fun p' cv hcv => ?_⟩
        rw [eL] at hcv
        rcases LamX.among_app _ ht hcv with z | z
        · obtain ⟨c0, e1, e2⟩ := ha p' cv z
          exact ⟨c0, e1, hE _ _ e2 LamX.codeO_ne⟩
        · exact ⟨c', z, upd_same⟩
      · obtain ⟨qs, a1, a2, a3⟩ := hT p hp
        refine ⟨qs, by rw [upd_ne (ne_of_none a1 nC), upd_ne hb]; exact a1, a2, fun p' cv hcv => ?_⟩
        obtain ⟨c0, e1, e2⟩ := a3 p' cv hcv
        exact ⟨c0, e1, hE _ _ e2 LamX.codeO_ne⟩
  | some cv =>
    obtain ⟨c', e, hco⟩ := ha pos cv hc
    subst e
    refine PySem.W.kla_makeFunctionHit (mg := X.mg) (c := c) (P := P) (ps := ps) (closure_ok hfree) I.ok.glob (I.mod.glob.keeps I.bk) hcode (TB.code.keeps I.bk) hPo ht hc hbl fun ctv h' tk hx hsz => ?_
    exact fin c' _ ctv H h' tk (I.kept hx) (LamX.ExtN.refl H) (fun _ h => h) hT hco
end

/-! ### what it is in its maker -/
def LaV (W : Wd) (X : Cx) (L : LamI) (_ : Loc) (σ : L2.St) (H : Hp) (_ : Own) (ws : List D) (v : V) (M : List Addr) : Prop :=
  M = [] ∧ noClos ws = true ∧ ∃ (f c' : Addr) (pm ctv : Value) (us : List V), v = .ref f ∧ H f = some (.frz (laObj L (cloFrom X.env.cells L.scope.names []) pm ctv c') AnyO) ∧ H c' = some (LamX.CodeO c' L.qual) ∧ RepDs W H ws us ∧ L.is.map (fun i => σ[i]?) = us.map fun u => some (some u)
def LaRep (W : Wd) (X : Cx) (L : LamI) (τ : Loc) (σ : L2.St) (H : Hp) (own : Own) (p : List D × List D) (vs : List V) (M : List Addr) : Prop :=
  M = [] ∧ ∃ ud v, vs = ud ++ [v] ∧ RepDs W H p.1 ud ∧ LaV W X L τ σ H own p.2 v []
section
variable {W : Wd} {X : Cx} {Wx : WX} {tca tcb tc R Ra Rb : Nat → Prop} {k : Nat} {f : Addr} {κ : Kx} {κc : List C → CRes} {x m : Str} {p pos apos : Pos} {e o : Expr} {es : List Expr} {fo fa : Loc → Res Rv} {L : LamI}
theorem caps_rep {τ : Loc} {σ : L2.St} {H : Hp} {own : Own} (S : SRep W τ σ H own) : ∀ {is : List Nat} {ws : List D}, pures (is.map (look τ)) = some ws → ∃ us, RepDs W H ws us ∧ is.map (fun i => σ[i]?) = us.map fun u => some (some u)
  | [], ws, e => by
    simp [pures] at e
    subst e
    exact ⟨[], rfl, rfl⟩
  | i :: is, ws, e => by
    cases hc : look τ i with
    | pu d =>
      simp only [List.map_cons, hc, pures, Option.map_eq_some_iff] at e
      obtain ⟨ws', e1, rfl⟩ := e
      obtain ⟨us, r1, r2⟩ := caps_rep S e1
      rcases S.at_ i with ⟨z, _⟩ | ⟨v, ev, r⟩
      · rw [hc] at z
        cases z
      · rw [hc] at r
        exact ⟨v :: us, ⟨v, us, rfl, r.2, r1⟩, by simp [ev, r2]⟩
    | _ => simp [hc, pures] at e
theorem srep_extN (ok : W.Ok) {τ : Loc} {σ : L2.St} {H H1 : Hp} {own : Own} (S : SRep W τ σ H own) (e : LamX.ExtN H H1) (t : LamX.Tabs W.tabs H1) : SRep W τ σ H1 own :=
  S.ext ok ⟨fun b xs h => e b _ h (fun _ z => by cases z), fun b o u h => e b _ h (fun _ z => by cases z), fun b φ h => e b _ h (fun _ z => by cases z)⟩ (fun i b hb => by
    obtain ⟨o, h1, h2⟩ := S.mu hb
    rw [h1]
    exact e b o h1 (mu_tbl h2)) t
theorem stp_extN {τ : Loc} {H H1 : Hp} {own : Own} (e : LamX.ExtN H H1) (d : ∀ b, H b ≠ none → H1 b ≠ none) : Stp tc τ own H τ own H1 :=
  ⟨fun b o h n _ => e b o h n, d, fun _ _ => ⟨rfl, rfl⟩, fun i b hi hb => .inl ⟨i, hi, hb⟩⟩
/-- what a lambda's making asks -/
structure LamAt (X : Cx) (W : Wd) (L : LamI) : Prop where
  tab : ∃ c P, LamX.TabB X.base X.mg c P ∧ X.env.code = .ref c ∧ (P, L.qual) ∈ W.tabs ∧ ∀ p ∈ W.tabs, p.1 = P → p.2 = L.qual
  q : X.env.qual ++ "<lambda>" = L.qual
  df : defaultsOf L.params X.env = ([], [])
  free : ∀ y ∈ L.scope.names, y.2 = .free → X.env.scope.names.lookup y.1 = some .cell
  frs : ∀ y ∈ L.scope.names, y.2 = .free → y.1 ∈ L.fr
  frk : ∀ y ∈ L.fr, (y, NameKind.free) ∈ L.scope.names
  at_ : L.is.map (fun i => X.N[i]?) = L.fr.map some
  fn : ∀ y, X.fn y = true
theorem LamAt.has (h : LamAt X W L) (ok : X.Ok) : ∀ y ∈ L.scope.names, y.2 = .free → ∃ c, X.env.cells.lookup y.1 = some c := fun y hy e => ok.has _ (.inl (h.free y hy e))
theorem v_lam (ok : W.Ok) (hL : LamAt X W L) : PE X (.Lambda L.params L.body L.scope pos) (tG W Wx nob (LaV W X L) (fun _ => True) (capE L.is)) := by
  refine ⟨fun pins s σ H Q I ⟨τ, own, S, hF⟩ => ?_⟩
  obtain ⟨c, P, tb, hcode, hm, hu⟩ := hL.tab
  refine lam_new I tb hcode hL.q hm hu S.tb hL.df (hL.has I.ok) fun f c' pm ctv H1 s' I1 eN dm T1 hf hc => ⟨.ref f, H1, I1, rfl, ?_⟩
  unfold capE at hF
  cases ep : pures (L.is.map (look τ)) with
  | none =>
    rw [ep] at hF
    exact hF.elim
  | some ws =>
    rw [ep] at hF
    dsimp only at hF
    by_cases nc : noClos ws = true
    · rw [if_pos nc] at hF
      obtain ⟨us, r1, r2⟩ := caps_rep S ep
      have S1 := srep_extN ok S eN T1
      have st := stp_extN (tc := nob) (τ := τ) (own := own) eN dm
      exact hF (.ref f) H1 own [] S1 ⟨rfl, nc, f, c', pm, ctv, us, rfl, hf, hc, RepDs.keep ok (st.keeps S) _ _ r1, r2⟩ trivial st fun b hb => by cases hb
    · rw [if_neg nc] at hF
      exact hF.elim
abbrev PLv (W : Wd) (X : Cx) (Wx : WX) (L : LamI) (tc : Nat → Prop) (es : List Expr) (f : Loc → Res (List D × List D)) : Prop := PA X es (tG W Wx tc (LaRep W X L) (fun _ => True) f)
theorem pl_last (h : PE X e (tG W Wx tc (LaV W X L) (fun _ => True) fl)) (hs : starEach [e] X.env = (false, eval e X.env) :: starEach [] X.env) : PLv W X Wx L tc [e] (fun τ => (fl τ).bind fun ws τ1 => .ok ([], ws) τ1) :=
  PA.imp' (pa_cons h pa_nil hs) fun σ H Q h => a_run (fun _ h => h) h fun τ τ1 own own1 ws v H1 M1 S1 r1 b1 st1 sr1 hF1 => by
    have e0 := r1.1
    subst e0
    exact hF1 [v] H1 own1 [] S1 ⟨rfl, [], v, rfl, rfl, r1⟩ trivial st1 fun b hb => by cases hb
theorem pl_cons (ok : W.Ok) {fl : Loc → Res (List D × List D)} (ha : PEv W X Wx tca Ra e fa) (hr : PLv W X Wx L tcb es fl) (hs : starEach (e :: es) X.env = (false, eval e X.env) :: starEach es X.env) :
    PLv W X Wx L (fun i => tca i ∨ tcb i) (e :: es) (fun τ => (toF (fa τ)).bind fun d τ1 => (fl τ1).bind fun p τ2 => .ok (d :: p.1, p.2) τ2) :=
  PA.imp' (pa_cons (pd_of ok ha) hr hs) fun σ H Q ⟨τ, own, S, hF⟩ => by
    refine ⟨τ, own, S, Fin.step Stp.refl (fun _ h => .inl h) hF fun d τ1 v H1 own1 M1 e1 S1 r1 b1 st1 sr1 st1' hF1 => ?_⟩
    refine ⟨τ1, own1, S1, Fin.step st1' (fun _ h => .inr h) hF1 fun q τ2 vs H2 own2 M2 e2 S2 r2 b2 st2 sr2 st2' hF2 => ?_⟩
    obtain ⟨e0, ud, u, rfl, rd, rl⟩ := r2
    exact hF2 (v :: (ud ++ [u])) H2 own2 [] S2 ⟨rfl, v :: ud, u, rfl, ⟨v, ud, rfl, RepD.keep ok (st2.keeps S1) _ _ r1.2, rd⟩, rl⟩ trivial st2' fun b hb => by cases hb
end
end DE
end
section
set_option Elab.async false
set_option linter.all false
set_option maxRecDepth 100000
set_option maxHeartbeats 2000000
/-! DE37: a def that got a lambda. -/
namespace DE
open PySem L2

/-- what stands in the captured cells -/
structure CellsZ (cl : List (Str × Addr)) (fr : List Str) (us : List V) (zs : Zs) : Prop where
  len : us.length = fr.length
  all : ∀ y c, cl.lookup y = some c → ∃ (o : Obj) (v : Option Value), zs.lookup c = some o ∧ o.data = .cell v
  inj : ∀ x y c, cl.lookup x = some c → cl.lookup y = some c → x = y
  has : ∀ (i : Nat) (y : Str), fr[i]? = some y → ∃ c, cl.lookup y = some c ∧ ∀ v, us[i]? = some v → ∃ (u : Value) (o : Obj), RelV v u ∧ zs.lookup c = some o ∧ o.data = .cell (some u)
/-- a closure, its cells shown -/
def CloAt (W : Wd) (L : LamI) (ws : List D) (v : V) (H : Hp) : Prop := noClos ws = true ∧ ∃ (f c' : Addr) (cl : List (Str × Addr)) (pm ctv : Value) (us : List V) (zs : Zs),
  v = .ref f ∧ H f = some (.frz (laObj L cl pm ctv c') AnyO) ∧ H c' = some (LamX.CodeO c' L.qual) ∧ RepDs W H ws us ∧ CellsZ cl L.fr us zs ∧ ZF zs H
/-- the row's closures -/
def Wd.Lam (W : Wd) (lams : Nat → Option LamI) : Prop := W.clo = fun l ws v H => ∃ L, lams l = some L ∧ CloAt W.w0 L ws v H
theorem w0_ok {W : Wd} : W.w0.Ok := fun _ _ _ _ _ _ h => h
theorem clo_keep {W : Wd} (ok : W.Ok) {L : LamI} {ws : List D} {v : V} {H H' : Hp} (k : Keeps H H') (h : CloAt W L ws v H) : CloAt W L ws v H' := by
  obtain ⟨n, f, c', cl, pm, ctv, us, zs, h1, h2, h3, h4, h5, h6⟩ := h
  exact ⟨n, f, c', cl, pm, ctv, us, zs, h1, k.frz _ _ _ h2, k.ext _ _ h3, RepDs.keep ok k _ _ h4, h5, fun b o e => k.frz _ _ _ (h6 b o e)⟩
theorem wd_ok {W : Wd} {lams : Nat → Option LamI} (h : W.Lam lams) : W.Ok := fun l ws v H H' k q => by
  rw [h] at q ⊢
  obtain ⟨L, e, q⟩ := q
  exact ⟨L, e, clo_keep w0_ok k q⟩
theorem tabs_hid {T : List (Addr × Str)} {zs : Zs} {H : Hp} (t : LamX.Tabs T H) (n : ZF zs H) : LamX.Tabs T (hid zs H) := fun p hp => by
  obtain ⟨ps, h1, h2, h3⟩ := t p hp
  refine ⟨ps, by rw [hid_of (n.out h1 fun _ z => by cases z)]; exact h1, h2, fun pos cv hc => ?_⟩
  obtain ⟨c, e1, e2⟩ := h3 pos cv hc
  exact ⟨c, e1, by rw [hid_of (n.out e2 fun _ z => by unfold LamX.CodeO at z; cases z)]; exact e2⟩
theorem noClos_all : ∀ {ds : List D}, noClos ds = ds.all D.noClo
  | [] => by simp [noClos]
  | d :: ds => by simp [noClos, noClos_all (ds := ds)]
theorem noClos_rev {ds : List D} (h : noClos ds = true) : noClos ds.reverse = true := by
  rw [noClos_all] at h ⊢
  simpa using h
theorem noClos_app {a b : List D} : noClos (a ++ b) = (noClos a && noClos b) := by simp [noClos_all]
theorem srep_pure {W : Wd} {H : Hp} {ds : List D} {vs : List V} (r : RepDs W H ds vs) (t : LamX.Tabs W.tabs H) : SRep W (ds.map .pu) (vs.map some) H (fun _ => []) := by
  refine ⟨fun i => ?_, fun _ => List.nodup_nil, (fun _ _ _ _ h => by cases h), t, by simp [RepDs.length r]⟩
  cases e : ds[i]? with
  | none =>
    refine .inl ⟨?_, rfl⟩
    unfold look
    rw [List.getD_eq_getElem?_getD, List.getElem?_map, e]
    rfl
  | some d =>
    obtain ⟨v, e1, r1⟩ := r.get e
    refine .inr ⟨v, by rw [List.getElem?_map, e1]; rfl, ?_⟩
    have : look (ds.map C.pu) i = .pu d := by
      unfold look
      rw [List.getD_eq_getElem?_getD, List.getElem?_map, e]
      rfl
    rw [this]
    exact ⟨rfl, r1⟩
/-! ### the maker's cells -/
def zsOf (h : Heap) (cl : List (Str × Addr)) : Zs := cl.filterMap fun p => (h.get? p.2).map fun o => (p.2, o)
theorem zs_some {h : Heap} {b : Addr} {o : Obj} : ∀ {cl : List (Str × Addr)}, (zsOf h cl).lookup b = some o → h.get? b = some o ∧ ∃ y, (y, b) ∈ cl
  | [], e => by cases e
  | (y, c) :: cl, e => by
    unfold zsOf at e
    rw [List.filterMap_cons] at e
    cases q : h.get? c with
    | none =>
      simp only [q, Option.map_none] at e
      obtain ⟨a, z, hz⟩ := zs_some (cl := cl) e
      exact ⟨a, z, List.mem_cons_of_mem _ hz⟩
    | some o' =>
      simp only [q, Option.map_some] at e
      simp only [List.lookup] at e
      by_cases hb : b = c
      · subst hb
        simp at e
        subst e
        exact ⟨q, y, List.mem_cons_self⟩
      · have : (b == c) = false := by simpa using hb
        rw [this] at e
        obtain ⟨a, z, hz⟩ := zs_some (cl := cl) e
        exact ⟨a, z, List.mem_cons_of_mem _ hz⟩
theorem zs_has {h : Heap} {b : Addr} {o : Obj} (e : h.get? b = some o) : ∀ {cl : List (Str × Addr)} {y : Str}, (y, b) ∈ cl → (zsOf h cl).lookup b = some o
  | (z, c) :: cl, y, hm => by
    unfold zsOf
    rw [List.filterMap_cons]
    by_cases hb : b = c
    · subst hb
      simp [e, List.lookup]
    · have hm' : (y, b) ∈ cl := by
        rcases List.mem_cons.mp hm with q | q
        · cases q
          exact (hb rfl).elim
        · exact q
      cases q : h.get? c with
      | none => exact zs_has e hm'
      | some o' =>
        have : (b == c) = false := by simpa using hb
        simp only [Option.map_some, List.lookup, this]
        exact zs_has e hm'
section
variable {W : Wd} {X : Cx} {Wx : WX} {tca tcb tc R Ra Rb : Nat → Prop} {k : Nat} {f : Addr} {κ : Kx} {κc : List C → CRes} {x m : Str} {p pos apos : Pos} {e o : Expr} {es : List Expr} {fo fa : Loc → Res Rv} {L : LamI}
theorem maker_cells {pins : List (Addr × Obj)} {σ : L2.St} {H : Hp} {s : Shared} (I : Inv X pins σ H s) (hL : LamAt X W L) : (∀ b o, (zsOf s.heap (cloFrom X.env.cells L.scope.names [])).lookup b = some o → H b = none ∧ s.heap.get? b = some o ∧ X.base.get? b = none ∧ b ∉ frs X.stack) ∧
    ∀ {us : List V}, L.is.map (fun i => σ[i]?) = us.map (fun u => some (some u)) → CellsZ (cloFrom X.env.cells L.scope.names []) L.fr us (zsOf s.heap (cloFrom X.env.cells L.scope.names [])) := by
  have hf := hL.has I.ok
  have cm : ∀ y c, (y, c) ∈ cloFrom X.env.cells L.scope.names [] → X.env.cells.lookup y = some c := fun y c hy => by
    rcases cloFrom_mem hy with hm | ⟨h1, h2⟩
    · cases hm
    · obtain ⟨c1, hc⟩ := hf _ h1 rfl
      have hc : X.env.cells.lookup y = some c1 := hc
      have e2 : c = c1 := by
        rw [h2, hc] <;> rfl
      rw [e2]
      exact hc
  refine ⟨fun b o q => ?_, fun {us} hus => ⟨?_, fun y c hy => ?_, fun y z c h1 h2 => I.ok.inj y z c (cm _ _ (PySem.mem_of_lookup h1)) (cm _ _ (PySem.mem_of_lookup h2)), fun i y hy => ?_⟩⟩
  · obtain ⟨q1, y, hy⟩ := zs_some q
    have hc := cm y b hy
    have ab := I.ok.cab y b (hL.fn y) hc
    have nb : ∀ {h : Heap} {o : Obj}, h.objs.size ≤ X.s_0.heap.objs.size → h.get? b = some o → False := fun h1 h2 => absurd (Heap.lt_size h2) (Nat.not_lt.mpr (Nat.le_trans h1 ab))
    refine ⟨I.freeC y b hc, q1, ?_, fun hb => ?_⟩
    · cases z : X.base.get? b with
      | none => rfl
      | some o' => exact (nb I.ok.bsz z).elim
    · rcases List.mem_cons.mp (I.stkSub b hb) with z | z
      · exact I.cne y b hc z
      · obtain ⟨_, o', ho, _⟩ := I.ok.funs.mem z
        exact nb (Nat.le_refl _) ho
  · have h1 := congrArg List.length hus
    have h2 := congrArg List.length hL.at_
    simp only [List.length_map] at h1 h2
    omega
  · have hm := PySem.mem_of_lookup hy
    obtain ⟨v, o, ho, hd⟩ := I.cell y c (cm _ _ hm)
    exact ⟨o, v, zs_has ho hm, hd⟩
  · obtain ⟨c, hc⟩ := hf (y, .free) (hL.frk y (List.mem_of_getElem? hy)) rfl
    have hl := NdefX.clo_has hf (hL.frk y (List.mem_of_getElem? hy)) hc
    refine ⟨c, hl, fun v hv => ?_⟩
    have h1 := congrArg (fun l => l[i]?) hus
    have h2 := congrArg (fun l => l[i]?) hL.at_
    simp only [List.getElem?_map, hv, hy, Option.map_some] at h1 h2
    cases hi : L.is[i]? with
    | none =>
      rw [hi] at h1
      cases h1
    | some j =>
      rw [hi] at h1 h2
      simp only [Option.map_some, Option.some.injEq] at h1 h2
      obtain ⟨mm, hn, hlk⟩ := I.loc
      have hk : X.env.scope.names.lookup y = some .cell := hL.free (y, .free) (hL.frk y (List.mem_of_getElem? hy)) rfl
      obtain ⟨u, ru, q⟩ := hlk j y v h2 h1 (.inr (.inl hk))
      rcases q with ⟨q, _⟩ | ⟨_, c', ec, o, ho, hd⟩
      · have q' : X.env.scope.names.lookup y = some .local := q
        rw [hk] at q'
        cases q'
      · have : c' = c := by
          have hc' : X.env.cells.lookup y = some c := hc
          rw [hc'] at ec
          exact (Option.some.inj ec).symm
        subst this
        exact ⟨u, o, ru, zs_has ho (PySem.mem_of_lookup hl), hd⟩
/-! ### the call -/
theorem run_lam (ok : W.Ok) {lams : Nat → Option LamI} {l : Nat} (hW : W.Lam lams) (hl : lams l = some L) (hL : LamAt X W L) (F : FnD X W k f κc) (hr : Room k X.A) (tk : Takes X Wx) {pins : List (Addr × Obj)} {σ : L2.St} {H H1 : Hp} {s1 : Shared} {τ τ1 : Loc} {own own1 : Own} {Q : VK} {us : List Value} {vs : List V} {q : List D × List D}
    (I1 : Inv X pins σ H1 s1) (r : Vals vs us) (S1 : SRep W τ1 σ H1 own1) (la : LaRep W X L τ1 σ H1 own1 q vs []) (st : Stp tc τ own H τ1 own1 H1) (hF : Fin W Wx tc (RvRep W) (BoIn nob) τ own σ H Q (lamCall κc l q.1 q.2 τ1)) :
    codeAny (model X.prog X.w) X.A (.call (.ref f) ⟨us, []⟩) (fun r s' => match r with | .ok (.ret v) => EP X pins σ Q v s' | .ok _ => False | .error e => X.xe e s') s1 := by
  obtain ⟨_, ud, v, rfl, rd, _, nc, g, c', pm, ctv, uv, rfl, hg, hc', rw_, hat⟩ := la
  obtain ⟨zc, zk⟩ := maker_cells I1 hL
  have cz := zk hat
  obtain ⟨zs, ez⟩ : ∃ zs, zsOf s1.heap (cloFrom X.env.cells L.scope.names []) = zs := ⟨_, rfl⟩
  rw [ez] at zc cz
  have n : ZN zs H1 := fun b o e => (zc b o e).1
  have e0 := env0_shw I1.env0 n fun b o e => (zc b o e).2
  have ks := keeps_shw n
  have sp : spF W κc (ud ++ [.ref g]) (shw zs H1) (fun v H' => ZF zs H' → Q v (hid zs H')) (fun c d H' => ZF zs H' → Wx c d σ (hid zs H')) := by
    have rep : RepDs W (shw zs H1) (q.1 ++ [.clo l q.2]) (ud ++ [.ref g]) := (RepDs.keep ok ks _ _ rd).append ⟨.ref g, [], rfl, by
      show W.clo l q.2 (.ref g) (shw zs H1)
      rw [hW]
      exact ⟨L, hl, nc, g, c', _, pm, ctv, uv, zs, rfl, n.shw hg, n.shw hc', RepDs.sub (W := W) (V := W.w0) rfl rfl rfl rfl rfl (sub0_keep ks) _ _ nc rw_, cz, shw_F⟩, rfl⟩
    have SC := srep_pure rep (S1.tb.ext fun b o e => n.shw e)
    refine ⟨_, _, ?_, ?_, SC, ?_⟩
    · rw [List.length_map]
      exact RepDs.length rep
    · intro c hc
      obtain ⟨d, _, rfl⟩ := List.mem_map.mp hc
      exact fun z => by cases z
    · have em : (q.1 ++ [D.clo l q.2]).map C.pu = q.1.map C.pu ++ [.pu (.clo l q.2)] := by simp
      unfold lamCall at hF
      rw [← em] at hF
      -- behind the call
      have back : ∀ {H' : Hp} {ownD : Own} {os : List C}, SRep W os ((ud ++ [V.ref g]).map some) H' ownD → Stp allI ((q.1 ++ [D.clo l q.2]).map C.pu) (fun _ => []) (shw zs H1) os ownD H' → ZF zs H' →
          (∀ b o, H1 b = some o → (∀ ps, o ≠ .tbl ps) → hid zs H' b = some o) ∧ SRep W τ1 σ (hid zs H') own1 ∧ Stp tc τ own H τ1 own1 (hid zs H') := fun {H' ownD os} SD stD zf => by
        have fr : ∀ b o, H1 b = some o → (∀ ps, o ≠ .tbl ps) → hid zs H' b = some o := fun b o e nt => by
          rw [hid_of (n.out e)]
          exact stD.fr b o (n.shw e) nt fun _ _ hb => by cases hb
        refine ⟨fr, srep_extN ok S1 fr (tabs_hid SD.tb zf), st.trans (stp_extN fr fun b hb z => ?_)⟩
        cases e : H1 b with
        | none => exact hb e
        | some o =>
          rw [hid_of (n.out e)] at z
          exact stD.dom b (by rw [n.shw e]; simp) z
      cases ek : κc ((q.1 ++ [D.clo l q.2]).map C.pu) with
      | stk =>
        rw [ek] at hF
        exact hF.elim
      | ok c os =>
        rw [ek] at hF
        dsimp only at hF
        by_cases nc' : c.noClo = true
        · rw [if_pos nc'] at hF
          intro v H' ownD M SD rr _ stD srD zf
          obtain ⟨fr, S2, st2⟩ := back SD stD zf
          have nw : ∀ b ∈ M, H1 b = none := fun b hb => by
            rcases srD b hb with ⟨_, _, z⟩ | z
            · cases z
            · cases e : H1 b with
              | none => rfl
              | some o =>
                rw [n.shw e] at z
                cases z
          have dj : ∀ i b, b ∈ M → b ∈ own1 i → False := fun i b hb hi => by
            obtain ⟨o, e, _⟩ := S1.mu hi
            rw [nw b hb] at e
            cases e
          refine hF v (hid zs H') own1 M S2 ?_ ?_ st2 fun b hb => .inr ?_
          · have rc := RepC.hid zf c v M nc' rr.1
            cases c with
            | un => exact rc.elim
            | pu d => exact rc
            | lst cs => exact ⟨rc, rr.2.1, dj⟩
            | dic ks cs => exact ⟨rc, rr.2.1, dj⟩
            | obj k ns cs => exact ⟨rc, rr.2.1, dj⟩
          · cases c <;> trivial
          · cases e : H b with
            | none => rfl
            | some o => exact absurd (nw b hb) (st.dom b (by rw [e]; simp))
        · rw [if_neg nc'] at hF
          exact hF.elim
      | exc xn os =>
        rw [ek] at hF
        dsimp only at hF
        by_cases nc' : noClos xn.ds = true
        · rw [if_pos nc'] at hF
          intro cls d H' ownD SD stD xr zf
          obtain ⟨fr, S2, st2⟩ := back SD stD zf
          refine hF cls d (hid zs H') own1 S2 st2 ⟨xr.1, fun hn => ?_⟩
          obtain ⟨dd, fs, h1, h2, h3, h4⟩ := xr.2 hn
          exact ⟨dd, fs, h1, by rw [hid_of (zf.out h2 fun _ z => by cases z)]; exact h2, h3, RepDs.sub rfl rfl rfl rfl rfl (sub0_hid zf) _ _ (noClos_rev nc') h4⟩
        · rw [if_neg nc'] at hF
          exact hF.elim
  refine codeAny_mono (F X.A X.stack s1 (shw zs H1) us _ _ _ hr e0 r sp) fun r s' hq => ?_
  cases r with
  | error e => exact passAt tk σ pins H1 s1 e s' I1 (cx_hid n (fun b o e => ⟨(zc b o e).2.1, (zc b o e).2.2.2⟩) hq)
  | ok fl =>
    cases fl with
    | ret u => exact I1.after (ce_hid n (fun b o e => (zc b o e).2.1) hq)
    | next => exact False.elim hq
    | brk => exact False.elim hq
    | cont => exact False.elim hq
/-- f(.., lambda ..) -/
theorem v_calll (ok : W.Ok) {lams : Nat → Option LamI} {l : Nat} {fl : Loc → Res (List D × List D)} (hW : W.Lam lams) (hl : lams l = some L) (hL : LamAt X W L) (F : FnD X W k f κc) (hr : Room k X.A) (tk : Takes X Wx) (hg : Gl X x) (hm : X.mg x = some (.ref f)) (hk : PySem.W.keepIn X.K (.ref f) = true)
    (ha : PLv W X Wx L tc (e :: es) fl) (hdb : (x == ("__debug__" : Str)) = false) (he : starEach (e :: es) X.env = (false, eval e X.env) :: starEach es X.env) (hpl : (PySem.backTo pos (starEach es X.env)).any (·.1) = false) :
    PEv W X Wx tc nob (.Call (.Name x p) (e :: es) [] pos) (fun τ => (fl τ).bind fun q τ1 => lamCall κc l q.1 q.2 τ1) := by
  refine ⟨fun pins s σ H Q I h => ?_⟩
  refine wpAny_Call_Name_kw (ld_glob I hg hm ?_ hdb)
  refine PySem.W.callWith_K (h₀ := X.base) I.ok.mod.kin hk (thn (ha.run pos pins s σ H (fun vs H1 => ∃ τ τ1 own own1 q, SRep W τ1 σ H1 own1 ∧ LaRep W X L τ1 σ H1 own1 q vs [] ∧ Stp tc τ own H τ1 own1 H1 ∧ Fin W Wx tc (RvRep W) (BoIn nob) τ own σ H Q (lamCall κc l q.1 q.2 τ1)) I
    (a_run (fun _ h => h) h fun τ τ1 own own1 q vs H1 M1 S1 r1 b1 st1 sr1 hF1 => ⟨τ, τ1, own, own1, q, S1, ⟨rfl, r1.2⟩, st1, hF1⟩)) fun us s1 ⟨vs, H1, I1, r, τ, τ1, own, own1, q, S1, r1, st1, hF1⟩ => ⟨I1.kIn, ?_⟩) he hpl
  exact wpAny_call (run_lam ok hW hl hL F hr tk I1 r S1 r1 st1 hF1)
end
end DE
end
section
set_option Elab.async false
set_option linter.all false
set_option maxRecDepth 100000
set_option maxHeartbeats 2000000
/-! DE38: o.m(lambda ..); a lambda called by the def that holds it. -/
namespace DE
open PySem L2

section
variable {W : Wd} {X : Cx} {Wx : WX} {tca tcb tc R Ra Rb : Nat → Prop} {k : Nat} {f : Addr} {κ : Kx} {κc : List C → CRes} {x m : Str} {p pos apos : Pos} {e o : Expr} {es : List Expr} {fo fa : Loc → Res Rv} {fs : Loc → Res (List Rv)} {L : LamI}
theorem v_methl (ok : W.Ok) {lams : Nat → Option LamI} {l : Nat} (hW : W.Lam lams) (hll : lams l = some L) (hL : LamAt X W L) (hM : MethOk X W k κ m) (hr : Room k X.A) (tk : Takes X Wx) (ho : PEv W X Wx tc R o fo) (hl : e = .Lambda L.params L.body L.scope p) (mt : MTree X o m apos pos [e])
    (he : starEach [e] X.env = (false, eval e X.env) :: starEach [] X.env) (hpl : (PySem.backTo pos (starEach [] X.env)).any (·.1) = false) :
    PEv W X Wx tc nob (.Call (.Attribute o m apos) [e] [] pos) (fun τ => (toF (fo τ)).bind (methlE κ m l L.is)) := by
  subst hl
  refine ⟨fun pins s σ H Q I h => ?_⟩
  obtain ⟨pl, ht⟩ := mt
  have ho' := pd_of ok ho
  refine PySem.W.methodCall_KW (pl := pl) (thn (ho'.run pins s σ H (fun v H1 => ∃ d τ τ1 own own1 f, SRep W τ1 σ H1 own1 ∧ RepD W H1 d v ∧ Stp tc τ own H τ1 own1 H1 ∧ methF κ m (.pu d) = some f ∧
      Fin W Wx tc (RvRep W) (BoIn nob) τ own σ H Q ((capE L.is τ1).bind fun ws τ2 => lamCall (κ.call f) l [d] ws τ2)) I (a_run (fun _ h => h) h fun τ τ1 own own1 d v H1 M1 S1 r1 b1 st sr hF => by
    unfold methlE at hF
    cases em : methF κ m (.pu d) with
    | none =>
      rw [em] at hF
      exact hF.elim
    | some f =>
      rw [em] at hF
      exact ⟨d, τ, τ1, own, own1, f, S1, r1.2, st, em, hF⟩)) fun u s1 ⟨v, H1, I1, rx, d, τ, τ1, own, own1, f, S1, r1, st, em, hF⟩ => ?_) ht
  obtain ⟨c, ec, ef⟩ := methF_some em
  obtain ⟨cl, mm, nf, F⟩ := hM c f ef
  obtain ⟨a, dx, gs, rfl, hrd, _, _, lk⟩ := cls_at (W := W) (y := .pu d) (M := []) ⟨rfl, r1⟩ ec cl mm nf
  obtain rfl : u = Value.ref a := rx
  refine getmeth_rd I1 hrd cl mm lk ?_
  have hlast : PLv W X Wx L nob _ _ := pl_last (Wx := Wx) (tc := nob) (v_lam (pos := p) ok hL) he
  refine PySem.W.callWith_K (first := [.ref a]) (h₀ := X.base) I.ok.mod.kin mm.kp (thn (hlast.run pos pins s1 σ H1 (fun vs H2 => ∃ τ2 own2 ws, SRep W τ2 σ H2 own2 ∧ LaRep W X L τ2 σ H2 own2 ([d], ws) (.ref a :: vs) [] ∧ Stp tc τ own H τ2 own2 H2 ∧ Fin W Wx tc (RvRep W) (BoIn nob) τ own σ H Q (lamCall (κ.call f) l [d] ws τ2)) I1 ?_) fun us s2 ⟨vs, H2, I2, r, τ2, own2, ws, S2, r2, st2, hF2⟩ => ⟨I2.kIn, ?_⟩) he hpl
  · refine ⟨τ1, own1, S1, ?_⟩
    have hF' : Fin W Wx tc (RvRep W) (BoIn nob) τ own σ H Q (((capE L.is τ1).bind fun ws τ1 => .ok (([] : List D), ws) τ1).bind fun q τ2 => lamCall (κ.call f) l [d] q.2 τ2) := by
      rw [bind_assoc]
      exact hF
    refine Fin.step st (fun _ h => h.elim) hF' fun q τ2 vs H2 own2 M2 e2 S2 r2 b2 st2 sr2 st2' hF2 => ?_
    obtain ⟨_, ud, v, rfl, rd, rl⟩ := r2
    have q1 : q.1 = [] := by
      dsimp only at e2
      cases ec : capE L.is τ1 with
      | ok ws τw =>
        rw [ec] at e2
        have e3 : Res.ok (([] : List D), ws) τw = Res.ok q τ2 := e2
        cases e3
        rfl
      | exc _ _ =>
        rw [ec] at e2
        have e3 : (Res.exc _ _ : Res (List D × List D)) = Res.ok q τ2 := e2
        cases e3
      | stk =>
        rw [ec] at e2
        have e3 : (Res.stk : Res (List D × List D)) = Res.ok q τ2 := e2
        cases e3
    rw [q1] at rd
    have z : ud = [] := rd
    subst z
    exact ⟨τ2, own2, q.2, S2, ⟨rfl, [.ref a], v, rfl, ⟨.ref a, [], rfl, RepD.keep ok (st2.keeps S1) _ _ r1, rfl⟩, rl⟩, st2', hF2⟩
  · exact wpAny_call (run_lam (us := .ref a :: us) (vs := .ref a :: vs) ok hW hll hL F hr tk I2 (.cons rfl r) S2 r2 st2 hF2)

/-! ### a lambda's own run -/
/-- what a lambda promises where it is called -/
def LamR (P : Program) (w : World) (K : PySem.W.Frag) (mg : Str → Option Value) (base : Heap) (W : Wd) (k : Nat) (L : LamI) (κc : List C → CRes) : Prop :=
  ∀ (A : Around) (outer : List Env) (s : Shared) (H : Hp) (f c' : Addr) (cl : List (Str × Addr)) (pm ctv : Value) (ws : List D) (us : List V) (zs : Zs) (av : List Value) (vs : List V) (ds : List D) (d : D) (os : List C) (Q : VK), Room k A → Env0 P w K mg base A outer s H →
    H f = some (.frz (laObj L cl pm ctv c') AnyO) → H c' = some (LamX.CodeO c' L.qual) → RepDs W H ws us → CellsZ cl L.fr us zs → ZF zs H → LamX.Tabs W.tabs H → noClos ws = true → Vals vs av → RepDs W H ds vs → noClos ds = true → κc (ds.map C.pu ++ ws.map C.pu) = .ok (.pu d) os →
    (∀ v H', RepD W H' d v → LamX.ExtN H H' → (∀ b, H b ≠ none → H' b ≠ none) → LamX.Tabs W.tabs H' → Q v H') → codeAny (model P w) A (.call (.ref f) ⟨av, []⟩) (CR (L2.CX P w) outer P w H s Q (fun _ _ _ => False)) s
def lamDf (n : Nat) (b : E) : Df := ⟨n, n, .cons (.ret b) .nil, []⟩
theorem lamDf_ok {n : Nat} {b : E} {as : List C} {d : D} {os : List C} (h : runDf κ (lamDf n b) as = .ok (.pu d) os) : as.length = n ∧ ∃ r τ, ev κ b as = .ok r τ ∧ r.keep = some (.pu d) := by
  unfold runDf at h
  split at h
  · rename_i hc
    simp only [Bool.and_eq_true, beq_iff_eq, lamDf] at hc
    have e0 : (lamDf n b).ns - (lamDf n b).np = 0 := by simp [lamDf]
    rw [e0] at h
    simp only [List.replicate_zero, List.append_nil] at h
    have e1 : exs κ (lamDf n b).body as = SRes.of (ev κ b as) fun r τ1 => SRes.of (optR r.keep τ1) fun c τ1 => .ret c τ1 := by
      show exs κ (.cons (.ret b) .nil) as = _
      rw [exs_cons, ex_ret]
      dsimp only
      generalize ev κ b as = z
      cases z with
      | ok r τ =>
        cases hk : r.keep with
        | none => simp only [SRes.of, hk, optR, SRes.seq]
        | some c => simp only [SRes.of, hk, optR, SRes.seq]
      | exc _ _ => rfl
      | stk => rfl
    rw [e1] at h
    refine ⟨hc.1, ?_⟩
    cases ee : ev κ b as with
    | ok r τ =>
      rw [ee] at h
      cases ek : r.keep with
      | none =>
        simp only [SRes.of, ek, optR] at h
        cases h
      | some c =>
        simp only [SRes.of, ek, optR] at h
        cases h
        exact ⟨r, τ, rfl, ek⟩
    | exc _ _ =>
      rw [ee] at h
      cases h
    | stk =>
      rw [ee] at h
      cases h
  · cases h
theorem lam_ok (ok : W.Ok) {P : Program} {w : World} {K : PySem.W.Frag} {mg : Str → Option Value} {base : Heap} {k n : Nat} {ps : List Str} {b : E} (S : NdefX.NScope (ps ++ L.fr) ps L.fr L.scope) (hn : ps.length + L.fr.length = n)
    (hbind : ∀ (cl : List (Str × Addr)) (pm cv ctv : Value) (us : List Value), us.length = ps.length → bindArgs (PySem.W.kla_fn "<lambda>" L.qual L.params L.body L.scope cl pm cv ctv) ⟨us, []⟩ = pure (ps.zip us))
    (hb : ∀ (A : Around) (outer : List Env) (s : Shared) (H : Hp) (E : XK) (F : NdefX.NF) (f : Addr), F.scope = L.scope → Room k (A.deeper (NdefX.envF F f s.heap.objs.size)) → ∃ tc R, PEv W (NdefX.ncx (L2.CX P w) P w K mg base (ps ++ L.fr) F f A outer s H E) (fun cls d _ H' => E cls d H') tc R L.body (ev κ b)) :
    LamR P w K mg base W (k + 1) L (runDf κ (lamDf n b)) := by
  intro A outer s H f c' cl pm ctv ws us zs av vs ds d os Q hr e0 hf hc rw_ cz zf tb nw rv rd nd hrun hQ
  obtain ⟨hlen, r, τr, hev, hkp⟩ := lamDf_ok hrun
  have l1 := RepDs.length rw_
  have l2 := RepDs.length rd
  have l3 := cz.len
  simp only [List.length_append, List.length_map] at hlen
  have lvs : vs.length = ps.length := by omega
  have lim : s.heap.NoLimit := e0.mod.nolimit.keeps fun b o e => (e0.bs b o e).1
  have ho := (e0.hok f _ hf).1
  have zg : ∀ b o, zs.lookup b = some o → s.heap.get? b = some o ∧ b ∉ frs outer := fun b o e => ⟨(e0.hok b _ (zf b o e)).1, fun hb => by
    have z := zf b o e
    rw [e0.frf b hb] at z
    cases z⟩
  obtain ⟨F, eF⟩ : ∃ F : NdefX.NF, F = ⟨"<lambda>", L.qual, L.params, [], L.scope, cl, c'⟩ := ⟨_, rfl⟩
  have es : F.scope = L.scope := by rw [eF]
  refine PySem.W.kla_callFunE hr.depth ho rfl S.co S.gen rfl (NdefX.codeO_at e0.hok hc) ?_
  rw [hbind cl pm (.ref c') ctv av (by rw [← rv.length]; exact lvs)]
  refine wpAny_pure (wpAny_newFunctionEnv S.nocell (fun ⟨n, _⟩ hy => S.par n (List.of_mem_zip hy).1) (fun h₁ hns hsb => ⟨lim.fresh _ hsb, ?_⟩) S.kind)
  have env : PySem.W.envX L.qual L.scope s.heap.objs.size f (.ref c') cl = NdefX.envF F f s.heap.objs.size := by rw [eF]
  show codeAny _ _ (.expr L.body (PySem.W.envX L.qual L.scope s.heap.objs.size f (.ref c') cl)) _ _
  rw [env]
  have kp : ∀ b o, s.heap.get? b = some o → h₁.get? b = some o := fun b o e => hsb.extBut b o (Nat.ne_of_lt (Heap.lt_size e)) (Heap.get?_push_of_some _ e)
  have e0' := env0_hid e0 zf
  have CA : NdefX.CellsAt F.cl L.fr (us.map some) s.heap (hid zs H) := by
    rw [eF]
    refine ⟨by simpa using l3, fun y c hy => ?_, cz.inj, fun i y hy => ?_⟩
    · obtain ⟨o, v, h1, h2⟩ := cz.all y c hy
      exact ⟨hid_at h1, v, o, (zg c o h1).1, h2⟩
    · obtain ⟨c, h1, h2⟩ := cz.has i y hy
      refine ⟨c, h1, fun v hv => ?_⟩
      rw [List.getElem?_map] at hv
      cases e : us[i]? with
      | none =>
        rw [e] at hv
        cases hv
      | some v' =>
        rw [e] at hv
        cases hv
        obtain ⟨u, o, h3, h4, h5⟩ := h2 v e
        exact ⟨u, h3, o, (zg c o h4).1, h5⟩
  have I := NdefX.inv_startN (CX := L2.CX P w) (F := F) (f := f) (E := fun _ _ _ => False) (tk := s.toks + (ps.zip av).length) (by rw [es]; exact S) hr.hd e0' lvs rv CA hns kp
  obtain ⟨tc, R, hbody⟩ := hb A outer s (hid zs H) (fun _ _ _ => False) F f es (hr.deeper _)
  have z0 := sub0_hid zf
  have rep : RepDs W (hid zs H) (ds ++ ws) (vs ++ us) := (RepDs.sub rfl rfl rfl rfl rfl z0 _ _ nd rd).append (RepDs.sub rfl rfl rfl rfl rfl z0 _ _ nw rw_)
  have S0 := srep_pure rep (tabs_hid tb zf)
  have est : (vs ++ us).map some = NdefX.startF (ps ++ L.fr) vs (us.map some) := by
    unfold NdefX.startF
    have : (ps ++ L.fr).length - vs.length - (us.map some).length = 0 := by
      simp
      omega
    rw [this]
    simp
  rw [est] at S0
  have em : (ds ++ ws).map C.pu = ds.map C.pu ++ ws.map C.pu := by simp
  refine PySem.W.kla_codeExpr (wpAny_mono (hbody.run [] _ _ (hid zs H) (fun v H' => ZN zs H' → Q v (shw zs H')) I ⟨_, _, S0, ?_⟩) (fun v s' hq => ?_) fun e s' hq => ?_)
  · rw [em, hev]
    intro v H' own' M S' rr _ st' _ zn
    have fr : LamX.ExtN H (shw zs H') := fun b o e nt => by
      cases q : zs.lookup b with
      | some o' =>
        rw [zf b o' q] at e
        rw [shw_at q]
        exact e
      | none =>
        rw [shw_of q]
        exact st'.fr b o (by rw [hid_of q]; exact e) nt fun _ _ hb => by cases hb
    refine hQ v (shw zs H') ?_ fr (fun b hb z => ?_) (S'.tb.ext fun b o e => zn.shw e)
    · have rd' : RepD W H' d v := by
        cases r with
        | pu d' =>
          simp [Rv.keep] at hkp
          rw [← hkp]
          exact rr.2
        | fr c =>
          simp [Rv.keep] at hkp
          rw [hkp] at rr
          exact rr.1.2
        | ow c => cases hkp
        | bo i ph c => cases hkp
      exact RepD.keep ok (keeps_shw zn) _ _ rd'
    · cases q : zs.lookup b with
      | some o' =>
        rw [shw_at q] at z
        cases z
      | none =>
        rw [shw_of q] at z
        exact st'.dom b (by rw [hid_of q]; exact hb) z
  · obtain ⟨v', H', J, rv', q⟩ := hq
    exact ce_shw zf zg ⟨v', H', J.os, J.bare, J.base, J.hok, rv', q⟩
  · refine wpAny_mono hq (fun _ s'' hx => ?_) fun _ s'' hx => ?_
    · obtain ⟨_, _, _, _, _, _, _, _, _, _, _, _, z⟩ := hx
      exact z.elim
    · obtain ⟨_, _, _, _, _, _, _, _, _, _, _, _, z⟩ := hx
      exact z.elim
end
end DE
end
section
set_option Elab.async false
set_option linter.all false
set_option maxRecDepth 100000
set_option maxHeartbeats 2000000
/-! DE39: x(..), x a name that holds a closure. -/
namespace DE
open PySem L2

section
variable {W : Wd} {X : Cx} {Wx : WX} {tca tcb tc R Ra Rb : Nat → Prop} {k : Nat} {f : Addr} {κ : Kx} {κc : List C → CRes} {x m : Str} {p pos apos : Pos} {e o : Expr} {es : List Expr} {fo fa : Loc → Res Rv} {fs : Loc → Res (List Rv)} {L : LamI}
def Lams (X : Cx) (W : Wd) (k : Nat) (κ : Kx) (lams : Nat → Option LamI) : Prop := ∀ l L, lams l = some L → LamR X.prog X.w X.K X.mg X.base W k L (κ.call l)
theorem callcE_some {i : Nat} {g : Loc → Res (List Rv)} {τ τ0 : Loc} {own : Own} {σ : L2.St} {H : Hp} {Q : VK} (S : SRep W τ σ H own) (hF : Fin W Wx tc (RvRep W) (BoIn nob) τ0 own σ H Q (callcE κ i g τ)) :
    ∃ l ws v, σ[i]? = some (some v) ∧ W.clo l ws v H ∧ Fin W Wx tc (RvRep W) (BoIn nob) τ0 own σ H Q (((g τ).bind fun rs τ => optR (fzAll rs) τ).bind (clE (κ.call l) ws)) := by
  unfold callcE at hF
  rcases S.at_ i with ⟨e, _⟩ | ⟨v, e, r⟩
  · rw [e] at hF
    exact hF.elim
  · cases hc : look τ i with
    | pu d =>
      rw [hc] at hF r
      cases d with
      | clo l ws => exact ⟨l, ws, v, e, r.2, hF⟩
      | _ => exact hF.elim
    | _ =>
      rw [hc] at hF
      exact hF.elim
theorem v_callc (ok : W.Ok) {lams : Nat → Option LamI} {i : Nat} (hW : W.Lam lams) (hL : Lams X W k κ lams) (hr : Room k X.A) (hN : X.N[i]? = some x) (hv : Vis X.env.scope x) (ha : PAv W X Wx tc R (e :: es) fs) (hdb : (x == ("__debug__" : Str)) = false) (hcd : (x == ("__classdict__" : Str)) = false)
    (he : starEach (e :: es) X.env = (false, eval e X.env) :: starEach es X.env) (hpl : (PySem.backTo pos (starEach es X.env)).any (·.1) = false) :
    PEv W X Wx tc nob (.Call (.Name x p) (e :: es) [] pos) (callcE κ i fs) := by
  refine ⟨fun pins s σ H Q I h => ?_⟩
  obtain ⟨τ, own, S, hF1⟩ := h
  obtain ⟨l, ws, v0, ev0, hclo, hF2⟩ := callcE_some S hF1
  rw [hW] at hclo
  obtain ⟨L, hl, nw, g, c', cl, pm, ctv, us, zs, rfl, hg, hc, rw_, cz, zf⟩ := hclo
  refine wpAny_Call_Name_kw (thn ((pe_var (pos := p) hN hv hdb hcd).run pins s σ H (fun v H1 => v = .ref g ∧ H1 = H) I ⟨_, ev0, rfl, rfl⟩) fun u s1 ⟨v, H1, I1, r1, q1⟩ => ?_)
  obtain ⟨rfl, rfl⟩ := q1
  cases r1
  have fnat : ∀ {H2 : Hp} {s2 : Shared}, Inv X pins σ H2 s2 → H2 g = some (.frz (laObj L cl pm ctv c') AnyO) → PySem.W.FnAt g s2.heap := fun {H2 s2} J e => ⟨_, _, _, _, (J.hok g _ e).1⟩
  refine PySem.W.callWith_F (fnat I1 hg) (thn ((a_data ok ha).run pos pins s1 σ _ (fun vs H2 => ∃ τ' own' τ2 own2 ds, SRep W τ' σ H1 own' ∧ SRep W τ2 σ H2 own2 ∧ RepDs W H2 ds vs ∧ Stp tc τ' own' H1 τ2 own2 H2 ∧ Fin W Wx tc (RvRep W) (BoIn nob) τ' own' σ H1 Q (clE (κ.call l) ws ds τ2)) I1
    ⟨τ, own, S, Fin.step Stp.refl (fun _ h => h) hF2 fun ds τ2 vs H2 own2 M2 e2 S2 r2 b2 st2 sr2 st2' hF3 => ⟨τ, own, τ2, own2, ds, S, S2, r2.2, st2', hF3⟩⟩) fun av s2 ⟨vs, H2, I2, r, τ', own', τ2, own2, ds, S0, S2, r2, st2, hF3⟩ => ?_) he hpl
  have ks := st2.keeps S0
  have hg2 := ks.frz _ _ _ hg
  refine ⟨fnat I2 hg2, ?_⟩
  unfold clE at hF3
  by_cases nd : noClos ds = true
  · rw [if_pos nd] at hF3
    cases ek : κ.call l (ds.map C.pu ++ ws.map C.pu) with
    | stk =>
      rw [ek] at hF3
      exact hF3.elim
    | exc _ _ =>
      rw [ek] at hF3
      exact hF3.elim
    | ok c os =>
      rw [ek] at hF3
      cases c with
      | pu d =>
        dsimp only at hF3
        have sub : Sub0 H1 H2 := sub0_keep ks
        refine wpAny_call (codeAny_mono (hL l L hl X.A X.stack s2 H2 g c' cl pm ctv ws us zs av vs ds d os Q hr I2.env0 hg2 (ks.ext _ _ hc) (RepDs.sub (W := W.w0) (V := W) rfl rfl rfl rfl rfl sub _ _ nw rw_) cz (fun b o e => ks.frz _ _ _ (zf b o e)) S2.tb nw r r2 nd ek fun v H' rd eN dm tb => ?_) fun r s' hq => ?_)
        · have S3 := srep_extN ok S2 eN tb
          exact hF3 v H' own2 [] S3 ⟨rfl, rd⟩ trivial (st2.trans (stp_extN eN dm)) fun b hb => by cases hb
        · cases r with
          | error e =>
            obtain ⟨_, _, _, _, _, _, _, _, _, _, _, _, z⟩ := hq
            exact z.elim
          | ok fl =>
            cases fl with
            | ret u => exact I2.after hq
            | next => exact False.elim hq
            | brk => exact False.elim hq
            | cont => exact False.elim hq
      | _ => exact hF3.elim
  · rw [if_neg nd] at hF3
    exact hF3.elim
end
end DE
end
section
set_option Elab.async false
set_option linter.all false
set_option maxRecDepth 100000
set_option maxHeartbeats 2000000
/-! DE40: syntax: what the rules ask of a piece of text, by its form. -/
namespace DE
open PySem L2

def notStar : Expr → Bool
  | .Starred _ _ => false
  | _ => true
theorem star_cons {e : Expr} {es : List Expr} {env : Env} (h : notStar e = true) : starEach (e :: es) env = (false, eval e env) :: starEach es env := by
  cases e <;> first | rfl | cases h
theorem star_none {env : Env} {pos : Pos} : ∀ {es : List Expr}, es.all notStar = true → (PySem.backTo pos (starEach es env)).any (·.1) = false
  | [], _ => rfl
  | e :: es, h => by
    simp only [List.all_cons, Bool.and_eq_true] at h
    rw [star_cons h.1]
    have ih := star_none (env := env) (pos := pos) h.2
    show (false || (PySem.backTo pos (starEach es env)).any (·.1)) = false
    rw [ih]
    rfl
theorem star_all {env : Env} {pos : Pos} : ∀ {es : List Expr}, es.all notStar = true → (PySem.backTo pos (starEach es env)).all (fun x => !x.1) = true
  | [], _ => rfl
  | e :: es, h => by
    simp only [List.all_cons, Bool.and_eq_true] at h
    rw [star_cons h.1]
    have ih := star_all (env := env) (pos := pos) h.2
    show (!false && (PySem.backTo pos (starEach es env)).all (fun x => !x.1)) = true
    rw [ih]
    rfl
def notSup : Expr → Bool
  | .Call (.Name _ _) [] [] _ => false
  | _ => true
theorem base_of {o : Expr} {a : Str} {env : Env} {w : Sem Value} (h : notSup o = true) : attributeBase o a env w = w := by
  unfold attributeBase
  split
  · cases h
  · rfl
/-- an expression that is a test by its truth alone -/
def plainT : Expr → Bool
  | .UnaryOp _ _ _ => false
  | .BoolOp _ _ _ => false
  | .IfExp _ _ _ _ => false
  | .Compare _ _ _ _ => false
  | _ => true
theorem test_of {e : Expr} {env : Env} (h : plainT e = true) : ∀ whole, isTrue e env whole = (do let v ← whole; standAt e.pos; holding [v] (truthy v)) := fun whole => by
  cases e <;> first | rfl | cases h
def notSlice : Expr → Bool
  | .Slice _ _ _ _ => false
  | _ => true
theorem plain_of {e : Expr} (h : notSlice e = true) : PlainIx e := fun o i => by
  cases e <;> first | rfl | cases h
def notSet : Expr → Bool
  | .Set _ _ _ => false
  | _ => true
theorem marks_of {op : CmpOp} {e : Expr} (h : notSet e = true) : behindInMarks op e = false := by
  cases e <;> first | rfl | cases h
theorem fold_of {e : Expr} {env : Env} (h : notSet e = true) : ∀ x, foldedSetIterable e env x = pure x := fun x => by
  cases e <;> first | rfl | cases h
def notComp : Expr → Bool
  | .ListComp _ _ _ _ => false
  | .SetComp _ _ _ _ => false
  | .DictComp _ _ _ _ _ => false
  | _ => true
theorem swap_of {e : Expr} {t : Option Expr} {n : Nat} {env : Env} (h : notComp e = true) : swapsWith e t n env = pure false := by
  cases e <;> first | rfl | cases h
def notName : Expr → Bool
  | .Name _ _ => false
  | _ => true
theorem swap_ns {e t : Expr} {n : Nat} {env : Env} (h : notName t = true) : swapsWith e (some t) n env = pure false := by
  cases e <;> first | rfl | (cases t <;> first | rfl | cases h)
def notTup : Expr → Bool
  | .Tuple _ _ _ => false
  | _ => true
theorem stores_of {t e : Expr} {env : Env} (h : notTup e = true) : swappedStores [t] e env = pure none := by
  cases t <;> cases e <;> first | rfl | cases h
/-- x, y = .., .. by two stores -/
def parB (sc : Scope) (x : Str) (px : Pos) (y : Str) (py : Pos) (a b : Expr) : Bool := (match sc.kind with | .function => true | _ => false) && decide (sc.names.lookup x = some .local) && decide (sc.names.lookup y = some .local) && (px.line == py.line) && !decide (x = y) && notStar a && notStar b &&
  !([a, b].all (foldedForSure 8)) && !([a, b].all (constantsAlone 8))
theorem assign_one {t : Expr} {es : List Expr} {env : Env} (h : notStar t = true) : assignEach (t :: es) env = (false, assign t env) :: assignEach es env := by
  cases t <;> first | rfl | cases h
theorem assign_none {env : Env} : ∀ {es : List Expr}, es.all notStar = true → (assignEach es env).findIdx? (·.1) = none ∧ (assignEach es env).length = es.length
  | [], _ => ⟨rfl, rfl⟩
  | e :: es, h => by
    simp only [List.all_cons, Bool.and_eq_true] at h
    obtain ⟨i1, i2⟩ := assign_none (env := env) h.2
    rw [assign_one h.1]
    refine ⟨?_, by simp [i2]⟩
    rw [List.findIdx?_cons]
    simp [i1]

theorem par_of {env : Env} {x y : Str} {px py pt pt2 : Pos} {kt k2} {a b : Expr} (h : parB env.scope x px y py a b = true) : env.scope.names.lookup x = some .local ∧ env.scope.names.lookup y = some .local ∧
    swappedStores [.Tuple [.Name x px, .Name y py] kt pt] (.Tuple [a, b] k2 pt2) env = pure (some [x, y]) := by
  simp only [parB, Bool.and_eq_true, Bool.not_eq_true', decide_eq_true_eq, decide_eq_false_iff_not, beq_iff_eq] at h
  obtain ⟨⟨⟨⟨⟨⟨⟨⟨h1, h2⟩, h3⟩, h4⟩, h5⟩, h6⟩, h7⟩, h8⟩, h9⟩ := h
  refine ⟨h2, h3, ?_⟩
  have k1 : env.blockKind = .function := by
    have e : env.scope.kind = .function := by
      split at h1
      · assumption
      · cases h1
    unfold Env.blockKind
    rw [e]
    rfl
  have k2' : env.kindOf x = some .local := h2
  have k3 : env.kindOf y = some .local := h3
  have st : ([a, b].any fun | .Starred .. => true | _ => false) = false := by
    cases b <;> first | (cases h7; done) | (cases a <;> first | rfl | (cases h6; done))
  have nm : ([x, y].eraseDups.length != [x, y].length) = false := by
    have : (y == x) = false := by simpa using fun e => h5 e.symm
    simp [List.eraseDups_cons, this, List.filter]
  unfold swappedStores
  simp only [List.head?_cons, Option.map_some, Option.getD_some, List.filterMap_cons, List.filterMap_nil, k1, k2', k3, h8, h9, st, List.length_cons, List.length_nil, Expr.pos, h4]
  simp
  simp only [List.any_cons, List.any_nil, Bool.or_false, Bool.or_eq_false_iff] at st
  exact (if_neg fun z => z.elim (fun z => Bool.noConfusion (st.1.symm.trans z)) fun z => Bool.noConfusion (st.2.symm.trans z)).trans (if_pos (by simpa using nm))

/-! ### more may have changed -/
section
variable {W : Wd} {X : Cx} {Wx : WX} {tc tc' R R' ag ag' : Nat → Prop} {e : Expr} {es : List Expr}
theorem PEv.mono {f : Loc → Res Rv} (h : PEv W X Wx tc R e f) (h1 : ∀ i, tc i → tc' i) (h2 : ∀ i, R i → R' i) : PEv W X Wx tc' R' e f := PE.imp' h fun σ H Q ⟨τ, own, S, hF⟩ => ⟨τ, own, S, Fin.tail Stp.refl h1 (fun r b => bo_mono h2 b) hF⟩
theorem PDv.mono {f : Loc → Res D} (h : PDv W X Wx tc e f) (h1 : ∀ i, tc i → tc' i) : PDv W X Wx tc' e f := PE.imp' h fun σ H Q ⟨τ, own, S, hF⟩ => ⟨τ, own, S, Fin.tail Stp.refl h1 (fun r b => b) hF⟩
theorem PTv.mono {f : Loc → Res Bool} (h : PTv W X Wx tc e f) (h1 : ∀ i, tc i → tc' i) : PTv W X Wx tc' e f := PT.imp' h fun σ H Q ⟨τ, own, S, hF⟩ => ⟨τ, own, S, Fin.tail Stp.refl h1 (fun r b => b) hF⟩
theorem PWv.mono {f : Loc → Res Bool} (h : PWv W X Wx tc e f) (h1 : ∀ i, tc i → tc' i) : PWv W X Wx tc' e f := PW.imp' h fun σ H Q ⟨τ, own, S, hF⟩ => ⟨τ, own, S, Fin.tail Stp.refl h1 (fun r b => b) hF⟩
theorem PAv.mono {f : Loc → Res (List Rv)} (h : PAv W X Wx tc R es f) (h1 : ∀ i, tc i → tc' i) (h2 : ∀ i, R i → R' i) : PAv W X Wx tc' R' es f := PA.imp' h fun σ H Q ⟨τ, own, S, hF⟩ => ⟨τ, own, S, Fin.tail Stp.refl h1 (fun r b x hx => bo_mono h2 (b x hx)) hF⟩
theorem PLv.mono {L : LamI} {f : Loc → Res (List D × List D)} (h : PLv W X Wx L tc es f) (h1 : ∀ i, tc i → tc' i) : PLv W X Wx L tc' es f := PA.imp' h fun σ H Q ⟨τ, own, S, hF⟩ => ⟨τ, own, S, Fin.tail Stp.refl h1 (fun r b => b) hF⟩
theorem PPv.mono {i : Nat} {f : Loc → Res (Nat × List Sp × C)} (h : PPv W X Wx tc i e f) (h1 : ∀ i, tc i → tc' i) : PPv W X Wx tc' i e f := PE.imp' h fun σ H Q ⟨τ, own, S, hF⟩ => ⟨τ, own, S, Fin.tail Stp.refl h1 (fun r b => b) hF⟩
theorem POv.mono {o : Option Expr} {f : Loc → Res (Option Int)} (h : POv W X Wx tc o f) (h1 : ∀ i, tc i → tc' i) : POv W X Wx tc' o f := PO.imp' h fun σ H Q ⟨τ, own, S, hF⟩ => ⟨τ, own, S, Fin.tail Stp.refl h1 (fun r b => b) hF⟩
theorem PIv.mono {tg : Expr} {f : Loc → Res (List D)} (h : PIv W X Wx tc R tg e f) (h1 : ∀ i, tc i → tc' i) (h2 : ∀ i, R i → R' i) : PIv W X Wx tc' R' tg e f := PI.imp' h fun σ H Q ⟨τ, own, S, hF⟩ => ⟨τ, own, S, by
  revert hF
  cases f τ with
  | ok items τ1 => exact fun hF J H1 own1 A S1 st hw hA => hF J H1 own1 A S1 (st.mono h1) hw fun b hb => ⟨(hA b hb).1, (hA b hb).2.imp (fun ⟨i, hi, z⟩ => ⟨i, h2 i hi, z⟩) fun z => z⟩
  | exc x τ1 => exact fun hF cls d H' own' S' st xr => hF cls d H' own' S' (st.mono h1) xr
  | stk => exact fun hF => hF⟩
theorem PSv.mono {s : Stmt} {f : Loc → SRes} (h : PSv W X Wx tc ag s f) (h1 : ∀ i, tc i → tc' i) (h2 : ∀ i, ag i → ag' i) : PSv W X Wx tc' ag' s f := PS.imp' h fun D σ H ⟨τ, own, S, hF⟩ => ⟨τ, own, S, FinS.mono h1 h2 hF⟩
theorem PSsv.mono {ss : List Stmt} {f : Loc → SRes} (h : PSsv W X Wx tc ag ss f) (h1 : ∀ i, tc i → tc' i) (h2 : ∀ i, ag i → ag' i) : PSsv W X Wx tc' ag' ss f := PSs.imp' h fun D σ H ⟨τ, own, S, hF⟩ => ⟨τ, own, S, FinS.mono h1 h2 hF⟩
end
/-! ### operators -/
def opIs : Bop → Operator → Bool
  | .add, .Add | .sub, .Sub | .mul, .Mult | .fdiv, .FloorDiv | .mod, .Mod | .pow, .Pow => true
  | _, _ => false
def cmIs : Cop → CmpOp → Bool
  | .eq, .Eq | .ne, .NotEq | .lt, .Lt | .le, .LtE | .gt, .Gt | .ge, .GtE | .isin, .In | .notin, .NotIn => true
  | _, _ => false
section
variable {W : Wd} {X : Cx}
theorem op_of (ok : W.Ok) (hK : X.K = W.K) {o : Bop} {op : Operator} (h : opIs o op = true) : OpR X (binaryOp op) (rTwo W (binop o)) := by
  cases o <;> cases op <;> first | cases h | skip
  · exact o_add ok hK
  · exact o_sub
  · exact o_mul ok hK
  · exact o_fdiv
  · exact o_mod
  · exact o_pow
theorem cm_of (hK : X.K = W.K) (hu : X.A.units + 65 < cLine) {o : Cop} {op : CmpOp} (h : cmIs o op = true) : OpR X (compareOp op) (rCmp W (cmpop o)) := by
  have e1 : (fun a b => (inC a b).map (ng false)) = inC := by
    funext a b
    cases inC a b <;> rfl
  cases o <;> cases op <;> first | cases h | skip
  · exact o_eq hK (by omega)
  · exact o_ne hK (by omega)
  · exact o_int op_lt
  · exact o_int op_le
  · exact o_int op_gt
  · exact o_int op_ge
  · have q := o_isin hK hu false
    rw [e1] at q
    exact q
  · exact o_isin hK hu true
end
end DE
end
section
set_option Elab.async false
set_option linter.all false
set_option maxRecDepth 100000
set_option maxHeartbeats 4000000
/-! DE41: the look at an expression's text: it is what the small language says. -/
namespace DE
open PySem L2

/-- what a name of the module stands for -/
inductive GI where
  | free | fn (f : Nat) | cls (c : Nat) | exc (c : Nat) (own : Bool) | dict (ks vs : List D) | dat (d : D)
structure Gm where
  N : List Str
  gl : List (Str × GI)
  fl : List Str
  lams : Nat → Option LamI
def glb (Γ : Gm) (sc : Scope) (x : Str) : Option GI := if decide (sc.names.lookup x = some .globalImplicit) && !(x == ("__debug__" : Str)) then Γ.gl.lookup x else none
/-- the slot i is the name x, of the def or captured -/
def slotB (Γ : Gm) (sc : Scope) (i : Nat) (x : Str) : Bool := decide (Γ.N[i]? = some x) && (match sc.names.lookup x with | some .local => true | some .cell => true | some .free => true | _ => false) && !(x == ("__debug__" : Str)) && !(x == ("__classdict__" : Str))
/-- .. that may be stored -/
def storB (Γ : Gm) (sc : Scope) (fa : Bool) (i : Nat) (x : Str) : Bool := decide (Γ.N[i]? = some x) && (match sc.names.lookup x with | some .local => true | some .cell => fa | _ => false)
def flatB : D → D → Bool
  | .non, .non => true
  | .bl a, .bl b => a == b
  | .int a, .int b => decide (a = b)
  | .str a, .str b => decide (a = b)
  | _, _ => false
theorem flatB_eq {a b : D} (h : flatB a b = true) : a = b := by
  cases a <;> cases b <;> simp [flatB] at h <;> first | rfl | (rw [h])
def flatsB : List D → List D → Bool
  | [], [] => true
  | a :: as, b :: bs => flatB a b && flatsB as bs
  | _, _ => false
theorem flatsB_eq : ∀ {a b : List D}, flatsB a b = true → a = b
  | [], [], _ => rfl
  | [], _ :: _, h => by cases h
  | _ :: _, [], h => by cases h
  | a :: as, b :: bs, h => by
    simp only [flatsB, Bool.and_eq_true] at h
    rw [flatB_eq h.1, flatsB_eq h.2]
def disj (a b : List Nat) : Bool := a.all fun i => !b.contains i
theorem disj_ok {a b : List Nat} (h : disj a b = true) : ∀ i, i ∈ a → ¬ i ∈ b := fun i hi hb => by
  have := List.all_eq_true.mp h i hi
  simp [hb] at this
/-! ### which slots -/
def rootP : P → Nat
  | .v i => i
  | .f p _ => rootP p
  | .x p _ => rootP p
mutual
def rE : E → List Nat
  | .rd p => [rootP p]
  | .and _ b => rE b
  | .or _ b => rE b
  | .ife _ a b => rE a ++ rE b
  | _ => []
def rEs : Es → List Nat
  | .nil => []
  | .cons e es => rE e ++ rEs es
end
def rI : I → List Nat
  | .l e => rE e
  | .enum e => rE e
  | _ => []
mutual
def tcE : E → List Nat
  | .k _ => []
  | .rd p => tcP p
  | .mv i => [i]
  | .kd _ _ => []
  | .inG _ a _ => tcE a
  | .idxG i _ _ => tcE i
  | .bin _ a b => tcE a ++ tcE b
  | .cmp _ a b => tcE a ++ tcE b
  | .eqo a b => (tcE a ++ tcE b) ++ (rE a ++ rE b)
  | .chain _ _ a b c => tcE a ++ (tcE b ++ tcE c)
  | .isN a => tcE a
  | .isntN a => tcE a
  | .and a b => tcE a ++ tcE b
  | .or a b => tcE a ++ tcE b
  | .not a => tcE a
  | .ife t a b => tcT t ++ (tcE a ++ tcE b)
  | .tup es => tcEs es
  | .lst es => tcEs es
  | .dic _ vs => tcEs vs
  | .idx a i => tcE a ++ tcE i
  | .fld a _ => tcE a
  | .sli a lo hi => tcE a ++ (tcO lo ++ tcO hi)
  | .rev a => tcE a
  | .lc own _ it t e => tcI it ++ (tcT t ++ (tcE e ++ own))
  | .dc own _ it t k v => tcI it ++ (tcT t ++ (tcE k ++ (tcE v ++ own)))
  | .call _ as => tcEs as ++ rEs as
  | .callf _ as => tcEs as ++ rEs as
  | .callc _ as => tcEs as
  | .calll _ as _ _ => tcEs as
  | .methl _ o _ _ => tcE o
  | .make _ as => tcEs as ++ rEs as
  | .makes _ a => tcE a
  | .meth _ o as => (tcE o ++ tcEs as) ++ (rE o ++ rEs as)
  | .isi a _ => tcE a
  | .bi _ as => tcEs as
  | .mi _ o as => (tcE o ++ tcEs as) ++ (rE o ++ rEs as)
  | .fstr es => tcEs es
  | .fz e => tcE e
  | .ow e => tcE e
  | .cat a b => tcE a ++ tcE b
def tcEs : Es → List Nat
  | .nil => []
  | .cons e es => tcE e ++ tcEs es
def tcO : Eo → List Nat
  | .no => []
  | .so e => tcE e
def tcP : P → List Nat
  | .v _ => []
  | .f p _ => tcP p
  | .x p i => tcP p ++ tcE i
def tcI : I → List Nat
  | .l e => tcE e
  | .rng a => tcE a
  | .rng2 a b => tcE a ++ tcE b
  | .enum e => tcE e
  | .zip a b => tcE a ++ tcE b
def tcT : T → List Nat
  | .yes => []
  | .e a => tcE a
  | .and a b => tcT a ++ tcT b
  | .or a b => tcT a ++ tcT b
  | .not a => tcT a
end
def Es.isNil : Es → Bool
  | .nil => true
  | _ => false
mutual
def tgL : Tg → List Nat
  | .n i => [i]
  | .t ts => tgLs ts
  | .f i _ => [i]
def tgLs : Tgs → List Nat
  | .nil => []
  | .cons t ts => tgL t ++ tgLs ts
end
mutual
def nmL : Tg → List Nat
  | .n i => [i]
  | .t ts => nmLs ts
  | .f _ _ => []
def nmLs : Tgs → List Nat
  | .nil => []
  | .cons t ts => nmL t ++ nmLs ts
end
/-! ### the look -/
def biT : Bi → Option (Str × String × Bool)
  | .len => some ("len", "len", false)
  | .int => some ("int", "int", true)
  | .str => some ("str", "str", true)
  | .tuple => some ("tuple", "tuple", true)
  | .list => some ("list", "list", true)
  | .listD => some ("list", "list", true)
  | .all => some ("all", "all", false)
  | .any => some ("any", "any", false)
  | .max2 => some ("max", "max", false)
  | .fmt => none
def miT : Mi → Str × Bool × Bool
  | .append => ("append", true, false)
  | .insert => ("insert", true, false)
  | .pop => ("pop", false, true)
  | .popAt => ("pop", true, false)
  | .split => ("split", true, false)
  | .join => ("join", true, false)
  | .index => ("index", true, false)
def isCmpE : E → Bool
  | .cmp _ _ _ => true
  | .chain _ _ _ _ _ => true
  | .eqo _ _ => true
  | .isN _ => true
  | .isntN _ => true
  | .inG _ _ _ => true
  | _ => false
def isComp : Expr → Bool
  | .Compare _ _ _ _ => true
  | _ => false
def isFree (Γ : Gm) (sc : Scope) (x : Str) : Bool := match glb Γ sc x with
  | some .free => true
  | _ => false
def methFree (Γ : Gm) (m : Str) : Bool := !Γ.fl.contains m
section
variable (Γ : Gm)
mutual
def ckTg (sc : Scope) (fa : Bool) : Tg → Expr → Bool
  | .n i, e => match e with
    | .Name x _ => storB Γ sc fa i x
    | _ => false
  | .t ts, e => match e with
    | .Tuple es _ _ => es.all notStar && decide (es.length = ts.len) && ckTgs sc fa ts es
    | _ => false
  | .f i f, e => match e with
    | .Attribute (.Name x _) g _ => decide (f = g) && slotB Γ sc i x && Γ.fl.contains f
    | _ => false
def ckTgs (sc : Scope) (fa : Bool) : Tgs → List Expr → Bool
  | .nil, es => es.isEmpty
  | .cons t ts, es => match es with
    | e :: es => notStar e && ckTg sc fa t e && ckTgs sc fa ts es
    | [] => false
end
mutual
def ckE (sc : Scope) : E → Expr → Bool
  | .k d, e => match e with
    | .Constant .none _ _ => flatB d .non
    | .Constant (.bool b) _ _ => flatB d (.bl b)
    | .Constant (.int i) _ _ => flatB d (.int i)
    | .Constant (.str s) _ _ => flatB d (.str s)
    | .UnaryOp .USub (.Constant (.int i) _ _) _ => flatB d (.int (-i))
    | .Name x _ => (match glb Γ sc x with
      | some (.dat d') => flatB d d'
      | some (.fn f) => (match d with
        | .fn g => decide (f = g)
        | _ => false)
      | _ => false)
    | _ => false
  | .rd p, e => ckP sc p e
  | .mv i, e => match e with
    | .Name x _ => slotB Γ sc i x
    | _ => false
  | .kd ks vs, e => match e with
    | .Call (.Name d _) [.Name g _] [] _ => decide (d = ("dict" : Str)) && isFree Γ sc "dict" && (match glb Γ sc g with
      | some (.dict ks' vs') => flatsB ks ks' && flatsB vs vs'
      | _ => false)
    | _ => false
  | .inG neg a ks, e => match e with
    | .Compare x [op] [.Name g _] _ => (match op, neg with
      | .In, false => true
      | .NotIn, true => true
      | _, _ => false) && (match glb Γ sc g with
      | some (.dict ks' _) => flatsB ks ks'
      | _ => false) && ckE sc a x
    | _ => false
  | .idxG a ks vs, e => match e with
    | .Subscript (.Name g _) x _ => notSlice x && (match glb Γ sc g with
      | some (.dict ks' vs') => flatsB ks ks' && flatsB vs vs'
      | _ => false) && ckE sc a x
    | _ => false
  | .bin o a b, e => match e with
    | .BinOp x op y _ => opIs o op && ckE sc a x && ckE sc b y && disj (rE a) (tcE b)
    | _ => false
  | .cmp o a b, e => match e with
    | .Compare x [op] [y] _ => cmIs o op && notSet y && ckE sc a x && ckE sc b y && disj (rE a) (tcE b)
    | _ => false
  | .eqo a b, e => match e with
    | .Compare x [.Eq] [y] _ => notSet y && ckE sc a x && ckE sc b y && disj (rE a) (tcE b)
    | _ => false
  | .chain o o' a b c, e => match e with
    | .Compare x [op, op'] [y, z] _ => cmIs o op && cmIs o' op' && notSet z && ckE sc a x && ckE sc b y && ckE sc c z && disj (rE a) (tcE b) && disj (rE b) (tcE c)
    | _ => false
  | .isN a, e => match e with
    | .Compare x [.Is] [.Constant .none _ _] _ => ckE sc a x
    | _ => false
  | .isntN a, e => match e with
    | .Compare x [.IsNot] [.Constant .none _ _] _ => ckE sc a x
    | _ => false
  | .and a b, e => match e with
    | .BoolOp .And [x, y] _ => ckE sc a x && ckE sc b y
    | .BoolOp .And (x :: y :: z :: r) pos => ckE sc a x && ckE sc b (.BoolOp .And (y :: z :: r) pos)
    | _ => false
  | .or a b, e => match e with
    | .BoolOp .Or [x, y] _ => ckE sc a x && ckE sc b y
    | .BoolOp .Or (x :: y :: z :: r) pos => ckE sc a x && ckE sc b (.BoolOp .Or (y :: z :: r) pos)
    | _ => false
  | .not a, e => match e with
    | .UnaryOp .Not x _ => ckE sc a x
    | _ => false
  | .ife t a b, e => match e with
    | .IfExp c x y _ => ckT sc t c && ckE sc a x && ckE sc b y
    | _ => false
  | .tup es, e => match e with
    | .Tuple xs _ _ => ckEs sc es xs
    | _ => false
  | .lst es, e => match e with
    | .List xs _ => ckEs sc es xs
    | _ => false
  | .dic ks vs, e => match e with
    | .Dict ks' xs _ => if ks'.isEmpty then ks.isEmpty && xs.isEmpty && vs.isNil else decide (ks'.length ≤ 15) && ckDi sc ks vs ks' xs
    | _ => false
  | .idx a i, e => match e with
    | .Subscript x y _ => notSlice y && ckE sc a x && ckE sc i y && disj (rE a) (tcE i)
    | _ => false
  | .fld a f, e => match e with
    | .Attribute x g _ => decide (f = g) && notSup x && ckE sc a x
    | _ => false
  | .sli a lo hi, e => match e with
    | .Subscript x (.Slice l h none _) _ => ckE sc a x && ckO sc lo l && ckO sc hi h && disj (rE a) (tcO lo) && disj (rE a) (tcO hi)
    | _ => false
  | .rev a, e => match e with
    | .Subscript x (.Slice none none (some (.UnaryOp .USub (.Constant (.int 1) _ _) _)) _) _ => ckE sc a x
    | _ => false
  | .lc own tg it t a, e => match e with
    | .ListComp elt [⟨tge, iter, ifs, 0⟩] scope _ => blkC Γ.N sc scope (own.map fun i => (Γ.N.getD i Str.empty, i)) && ckI sc it tge iter && notSet iter && ckTg Γ (relS scope sc) false tg tge && (match ifs with
      | [] => (match t with
        | .yes => true
        | _ => false)
      | [c] => ckT (relS scope sc) t c
      | _ => false) && ckE (relS scope sc) a elt && (tgL tg).all own.contains && (nmL tg).all own.contains && disj (rI it) (tcT t ++ (tcE a ++ own))
    | _ => false
  | .dc _ _ _ _ _ _, _ => false
  | .call f as, e => match e with
    | .Call (.Name x _) xs [] _ => (match glb Γ sc x with
      | some (.fn g) => decide (f = g)
      | _ => false) && ckEs sc as xs
    | _ => false
  | .callf i as, e => match e with
    | .Call (.Name x _) xs [] _ => slotB Γ sc i x && ckEs sc as xs
    | _ => false
  | .callc i as, e => match e with
    | .Call (.Name x _) xs [] _ => slotB Γ sc i x && !xs.isEmpty && ckEs sc as xs
    | _ => false
  | .calll _ _ _ _, _ => false
  | .methl _ _ _ _, _ => false
  | .make c as, e => match e with
    | .Call (.Name x _) xs [] _ => (match glb Γ sc x with
      | some (.cls g) => decide (c = g)
      | _ => false) && !xs.isEmpty && ckEs sc as xs
    | _ => false
  | .makes c a, e => match e with
    | .Call (.Name x _) [.Starred y _] [] _ => (match glb Γ sc x with
      | some (.cls g) => decide (c = g)
      | _ => false) && ckE sc a y
    | _ => false
  | .meth m o as, e => match e with
    | .Call (.Attribute y n ap) xs [] pos => decide (m = n) && notSup y && decide (xs.length < 30) && (ap.endLine == pos.line) && ckE sc o y && ckEs sc as xs && disj (rE o) (tcEs as)
    | _ => false
  | .isi a t, e => match e with
    | .Call (.Name f _) [x, .Name T _] [] _ => decide (f = ("isinstance" : Str)) && isFree Γ sc "isinstance" && notStar x && ckE sc a x && (match t with
      | .cls c => (match glb Γ sc T with
        | some (.cls g) => decide (c = g)
        | _ => false)
      | .int => decide (T = ("int" : Str)) && isFree Γ sc T
      | .bool => decide (T = ("bool" : Str)) && isFree Γ sc T
      | .str => decide (T = ("str" : Str)) && isFree Γ sc T
      | .tup => decide (T = ("tuple" : Str)) && isFree Γ sc T
      | .lst => decide (T = ("list" : Str)) && isFree Γ sc T)
    | _ => false
  | .bi b as, e => match e with
    | .Call (.Name x _) xs [] _ => (match biT b with
      | some r => decide (x = r.1)
      | none => false) && isFree Γ sc x && !xs.isEmpty && ckEs sc as xs
    | .FormattedValue x (-1) none _ => (match b with
      | .fmt => true
      | _ => false) && ckEs sc as [x]
    | _ => false
  | .mi m o as, e => match e with
    | .Call (.Attribute y n ap) xs [] pos => decide ((miT m).1 = n) && ((miT m).2.2 == xs.isEmpty) && notSup y && decide (xs.length < 29) && (ap.endLine == pos.line) && ckE sc o y && ckEs sc as xs && disj (rE o) (tcEs as)
    | _ => false
  | .fstr es, e => match e with
    | .JoinedStr (x :: y :: r) _ => ckEs sc es (x :: y :: r)
    | _ => false
  | .fz a, e => ckE sc a e
  | .ow a, e => ckE sc a e
  | .cat a b, e => match e with
    | .BinOp x .Add y _ => ckE sc a x && ckE sc b y && disj (rE a) (tcE b)
    | _ => false
def ckEs (sc : Scope) : Es → List Expr → Bool
  | .nil, xs => xs.isEmpty
  | .cons e es, xs => match xs with
    | x :: xs => notStar x && ckE sc e x && ckEs sc es xs && disj (rE e) (tcEs es)
    | [] => false
def ckDi (sc : Scope) : List D → Es → List (Option Expr) → List Expr → Bool
  | ks, .nil, ks', xs => ks.isEmpty && ks'.isEmpty && xs.isEmpty
  | ks, .cons a as, ks', xs => match ks, ks', xs with
    | k :: ks, some (.Constant (.str s) _ _) :: ks', x :: xs => flatB k (.str s) && ckE sc a x && ckDi sc ks as ks' xs && disj (rE a) (tcEs as)
    | k :: ks, some (.Constant (.int i) _ _) :: ks', x :: xs => flatB k (.int i) && ckE sc a x && ckDi sc ks as ks' xs && disj (rE a) (tcEs as)
    | _, _, _ => false
def ckO (sc : Scope) : Eo → Option Expr → Bool
  | .no, e => e.isNone
  | .so a, e => match e with
    | some x => ckE sc a x
    | none => false
def ckP (sc : Scope) : P → Expr → Bool
  | .v i, e => match e with
    | .Name x _ => slotB Γ sc i x
    | _ => false
  | .f p f, e => match e with
    | .Attribute x g _ => decide (f = g) && notSup x && ckP sc p x
    | _ => false
  | .x p i, e => match e with
    | .Subscript x y _ => notSlice y && ckP sc p x && ckE sc i y && !(tcE i).contains (rootP p)
    | _ => false
def ckI (sc : Scope) : I → Expr → Expr → Bool
  | .l a, _, e => ckE sc a e
  | .rng a, _, e => match e with
    | .Call (.Name f _) [x] [] _ => decide (f = ("range" : Str)) && isFree Γ sc "range" && notStar x && ckE sc a x
    | _ => false
  | .rng2 a b, _, e => match e with
    | .Call (.Name f _) [x, y] [] _ => decide (f = ("range" : Str)) && isFree Γ sc "range" && notStar x && notStar y && ckE sc a x && ckE sc b y
    | _ => false
  | .enum a, tg, e => match tg, e with
    | .Tuple _ _ _, .Call (.Name f _) [x] [] _ => decide (f = ("enumerate" : Str)) && isFree Γ sc "enumerate" && notStar x && ckE sc a x
    | _, _ => false
  | .zip a b, tg, e => match tg, e with
    | .Tuple _ _ _, .Call (.Name f _) [x, y] [] _ => decide (f = ("zip" : Str)) && isFree Γ sc "zip" && notStar x && notStar y && ckE sc a x && ckE sc b y && disj (rE a) (tcE b)
    | _, _ => false
def ckT (sc : Scope) : T → Expr → Bool
  | .yes, _ => false
  | .e a, e => ((isCmpE a && isComp e) || plainT e) && ckE sc a e
  | .and a b, e => match e with
    | .BoolOp .And [x, y] _ => ckT sc a x && ckT sc b y
    | .BoolOp .And (x :: y :: z :: r) pos => ckT sc a x && ckT sc b (.BoolOp .And (y :: z :: r) pos)
    | _ => false
  | .or a b, e => match e with
    | .BoolOp .Or [x, y] _ => ckT sc a x && ckT sc b y
    | .BoolOp .Or (x :: y :: z :: r) pos => ckT sc a x && ckT sc b (.BoolOp .Or (y :: z :: r) pos)
    | _ => false
  | .not a, e => match e with
    | .UnaryOp .Not x _ => ckT sc a x
    | _ => false
end
end
end DE
end
section
set_option Elab.async false
set_option linter.all false
set_option maxRecDepth 100000
set_option maxHeartbeats 8000000
/-! DE42: what the look has seen, the rules give: expressions. -/
namespace DE
open PySem L2

/-- what the module's names are -/
def GOk (W : Wd) (κ : Kx) (k : Nat) (X : Cx) (x : Str) : GI → Prop
  | .free => X.mg x = none
  | .fn f => X.mg x = some (.ref (W.fn f)) ∧ PySem.W.keepIn X.K (.ref (W.fn f)) = true ∧ FnD X W k (W.fn f) (κ.call f) ∧ W.isF f = true
  | .cls c => X.mg x = some (.ref (W.cls c)) ∧ (∃ g, Mk X.K (W.cls c) g ∧ FnD X W k g (κ.call (κ.init c))) ∧ C8.InsC X.K (W.cls c)
  | .exc c own => X.mg x = some (.ref (W.xcls c)) ∧ (∀ a, PySem.W.exmOne X.K (.ref (W.xcls a)) (.ref (W.xcls c)) = some (κ.sub a c)) ∧ XfC X.K (W.xcls c) ∧ (W.xfl c).Nodup ∧ (∀ n ∈ W.xfl c, PySem.W.findIn X.K (.ref (W.xcls c)) n = some none) ∧ (if own = true then ∃ (fI : Addr) (fd : FuncData) (ps : List Str),
      OexC X.K (W.xcls c) ∧ PySem.W.findIn X.K (.ref (W.xcls c)) "__init__" = some (some (.ref fI)) ∧ PySem.W.typeIn X.K (.ref fI) = some (.type "function") ∧ FnOk X.prog X.w X.K X.mg X.base (L2.CX X.prog X.w) k fI fd ps (spX (W.xcls c) (W.xfl c)) ∧ Binds X.K fd ps [] ∧ (W.xfl c).length ≤ 1000 ∧ κ.xar c = (W.xfl c).length
    else ∃ (bmB : List Value) (B newId initId : String), ExcBaseFacts B newId initId bmB ∧ PySem.W.excIn X.K (W.xcls c) bmB newId = true ∧ PySem.W.keepIn X.K (.ref (W.xcls c)) = true ∧ Raises X (.ref (W.xcls c)) ∧ κ.xar c = 0)
  | .dict ks vs => ∃ g, X.mg x = some (.ref g) ∧ WDict X g ks vs ∧ ∀ d ∈ vs, ∀ H, RepD W H d (ValV d)
  | .dat d => ∃ u, X.mg x = some u ∧ RelV (ValV d) u ∧ ∀ H, RepD W H d (ValV d)
structure Gk (W : Wd) (κ : Kx) (k : Nat) (Γ : Gm) (X : Cx) : Prop where
  gl : ∀ x g, Γ.gl.lookup x = some g → GOk W κ k X x g
  meth : ∀ m, MethOk X W k κ m
  eq : EqOk X W k κ
  fns : Fns X W k κ
  lamW : W.Lam Γ.lams
  lams : Lams X W k κ Γ.lams
  fl : ∀ f, Γ.fl.contains f = true → ∀ c, f ∈ W.flds c
structure Ck (W : Wd) (κ : Kx) (k : Nat) (Γ : Gm) (sc : Scope) (fa : Bool) (X : Cx) (Wx : WX) : Prop where
  N : X.N = Γ.N
  nd : Γ.N.Nodup
  sc_ : X.env.scope = sc
  K : X.K = W.K
  ok : W.Ok
  wc : W.Cls
  room : Room (k + 1) X.A
  calm : X.calm = true
  tk : Takes X Wx
  fn_ : fa = true → ∀ y, X.fn y = true
  g : Gk W κ k Γ X
section
variable {W : Wd} {κ : Kx} {k : Nat} {Γ : Gm} {sc : Scope} {fa : Bool} {X : Cx} {Wx : WX} {x : Str} {i : Nat}
theorem Gk.cast {Y : Cx} (h : Gk W κ k Γ X) (e1 : Y.prog = X.prog) (e2 : Y.w = X.w) (e3 : Y.K = X.K) (e4 : Y.mg = X.mg) (e5 : Y.base = X.base) : Gk W κ k Γ Y := by
  cases X
  cases Y
  dsimp only at e1 e2 e3 e4 e5
  subst e1 e2 e3 e4 e5
  refine ⟨fun x g e => ?_, h.meth, h.eq, h.fns, h.lamW, h.lams, h.fl⟩
  have q := h.gl x g e
  cases g with
  | dict ks vs =>
    obtain ⟨a, h1, h2, h3⟩ := q
    exact ⟨a, h1, ⟨h2.ex, h2.nd, h2.few⟩, h3⟩
  | _ => exact q
theorem Ck.blk (h : Ck W κ k Γ sc fa X Wx) (s : Shared) (H : Hp) (scope : Scope) (C : Addr) (cl : List (Str × Addr)) (fp : List Addr) : Ck W κ k Γ (relS scope sc) false (X.blk s H scope (compEnvC scope cl C X.env) fp) WF :=
  ⟨h.N, h.nd, by rw [← h.sc_]; rfl, h.K, h.ok, h.wc, h.room, h.calm, LamX.takes0, (fun z => by cases z), h.g.cast rfl rfl rfl rfl rfl⟩
theorem Ck.hr (h : Ck W κ k Γ sc fa X Wx) : Room k X.A := h.room.mono (by omega)
theorem Ck.u65 (h : Ck W κ k Γ sc fa X Wx) : X.A.units + 65 < cLine := by
  have := h.room.un
  omega
theorem Ck.u64 (h : Ck W κ k Γ sc fa X Wx) : X.A.units + 64 < cLine := by
  have := h.room.un
  omega
theorem Ck.u1 (h : Ck W κ k Γ sc fa X Wx) : X.A.units + 1 < cLine := by
  have := h.room.un
  omega
theorem Ck.glb (h : Ck W κ k Γ sc fa X Wx) {g : GI} (e : glb Γ sc x = some g) : Gl X x ∧ (x == ("__debug__" : Str)) = false ∧ GOk W κ k X x g := by
  unfold DE.glb at e
  split at e
  · rename_i hc
    simp only [Bool.and_eq_true, decide_eq_true_eq, Bool.not_eq_true'] at hc
    refine ⟨?_, hc.2, h.g.gl x g e⟩
    show X.env.scope.names.lookup x = _
    rw [h.sc_]
    exact hc.1
  · cases e
theorem Ck.free (h : Ck W κ k Γ sc fa X Wx) (e : isFree Γ sc x = true) : Gl X x ∧ (x == ("__debug__" : Str)) = false ∧ X.mg x = none := by
  unfold isFree at e
  split at e
  · rename_i q
    exact h.glb q
  · cases e
theorem Ck.slot (h : Ck W κ k Γ sc fa X Wx) (e : slotB Γ sc i x = true) : X.N[i]? = some x ∧ Vis X.env.scope x ∧ (x == ("__debug__" : Str)) = false ∧ (x == ("__classdict__" : Str)) = false := by
  unfold slotB at e
  simp only [Bool.and_eq_true, decide_eq_true_eq, Bool.not_eq_true'] at e
  obtain ⟨⟨⟨e1, e2⟩, e3⟩, e4⟩ := e
  refine ⟨by rw [h.N]; exact e1, ?_, e3, e4⟩
  rw [h.sc_]
  split at e2 <;> first | exact .inl (by assumption) | exact .inr (.inl (by assumption)) | exact .inr (.inr (by assumption)) | cases e2
theorem Ck.stor (h : Ck W κ k Γ sc fa X Wx) (e : storB Γ sc fa i x = true) : X.N[i]? = some x ∧ L2.Loc X.env.scope x ∧ (X.fn x = true ∨ X.env.scope.names.lookup x = some .local) := by
  unfold storB at e
  simp only [Bool.and_eq_true, decide_eq_true_eq] at e
  obtain ⟨e1, e2⟩ := e
  rw [h.sc_, h.N]
  split at e2
  · rename_i q
    exact ⟨e1, .inl q, .inr q⟩
  · rename_i q
    exact ⟨e1, .inr q, .inl (h.fn_ e2 x)⟩
  · cases e2
theorem app2 {a b : List Nat} : ∀ i, (i ∈ a ∨ i ∈ b) → i ∈ a ++ b := fun i h => List.mem_append.mpr h
theorem app3 {a b c : List Nat} : ∀ i, (i ∈ a ∨ i ∈ b ∨ i ∈ c) → i ∈ a ++ (b ++ c) := fun i h => by simpa using h
theorem app4 {a b c d : List Nat} : ∀ i, (i ∈ a ∨ i ∈ b ∨ i ∈ c ∨ i ∈ d) → i ∈ a ++ (b ++ (c ++ d)) := fun i h => by simpa using h
theorem app22 {a b c d : List Nat} : ∀ i, ((i ∈ a ∨ i ∈ b) ∨ (i ∈ c ∨ i ∈ d)) → i ∈ (a ++ b) ++ (c ++ d) := fun i h => by simp only [List.mem_append]; exact h
theorem noI {R : Nat → Prop} : ∀ i, nob i → R i := fun i h => h.elim
theorem idI {R : Nat → Prop} : ∀ i, R i → R i := fun i h => h
mutual
theorem tg_tc : ∀ (t : Tg) (i : Nat), t.tc i → i ∈ tgL t
  | .n i, j, h => by
    have h' : j = i := h
    simp [tgL, h']
  | .t ts, j, h => by simpa [tgL] using tgs_tc ts j h
  | .f i _, j, h => by
    have h' : j = i := h
    simp [tgL, h']
theorem tgs_tc : ∀ (t : Tgs) (i : Nat), t.tc i → i ∈ tgLs t
  | .nil, j, h => h.elim
  | .cons t ts, j, h => by
    rcases h with h | h
    · simp [tgLs, tg_tc t j h]
    · simp [tgLs, tgs_tc ts j h]
end
mutual
theorem tg_nm : ∀ (t : Tg) (i : Nat), t.nm i → i ∈ nmL t
  | .n i, j, h => by
    have h' : j = i := h
    simp [nmL, h']
  | .t ts, j, h => by simpa [nmL] using tgs_nm ts j h
  | .f i _, j, h => h.elim
theorem tgs_nm : ∀ (t : Tgs) (i : Nat), t.nm i → i ∈ nmLs t
  | .nil, j, h => h.elim
  | .cons t ts, j, h => by
    rcases h with h | h
    · simp [nmLs, tg_nm t j h]
    · simp [nmLs, tgs_nm ts j h]
end
mutual
theorem snd_Tg : ∀ (t : Tg) (e : Expr), ckTg Γ sc fa t e = true → Ck W κ k Γ sc fa X Wx → PGv W X e t
  | .n i, e, h, c => by
    simp only [ckTg] at h
    split at h
    · obtain ⟨h1, h2, h3⟩ := c.stor h
      exact g_n (by rw [c.N]; exact c.nd) h1 h2 h3
    · cases h
  | .t ts, e, h, c => by
    simp only [ckTg] at h
    split at h
    · simp only [Bool.and_eq_true, decide_eq_true_eq] at h
      obtain ⟨⟨h1, h2⟩, h3⟩ := h
      obtain ⟨a1, a2⟩ := assign_none (env := X.env) h1
      exact g_t c.calm (snd_Tgs ts _ h3 c) (by rw [a2]; exact h2) a1
    · cases h
  | .f i f, e, h, c => by
    simp only [ckTg] at h
    split at h
    · simp only [Bool.and_eq_true, decide_eq_true_eq] at h
      obtain ⟨⟨h1, h2⟩, h3⟩ := h
      subst h1
      obtain ⟨s1, s2, s3, s4⟩ := c.slot h2
      exact g_f c.ok c.wc c.K s1 s2 s3 s4 (c.g.fl _ h3)
    · cases h
theorem snd_Tgs : ∀ (t : Tgs) (es : List Expr), ckTgs Γ sc fa t es = true → Ck W κ k Γ sc fa X Wx → PGsv W X es t
  | .nil, es, h, c => by
    simp only [ckTgs, List.isEmpty_iff] at h
    subst h
    exact g_nil
  | .cons t ts, es, h, c => by
    simp only [ckTgs] at h
    split at h
    · simp only [Bool.and_eq_true] at h
      obtain ⟨⟨h1, h2⟩, h3⟩ := h
      exact g_cons c.ok (snd_Tg t _ h2 c) (snd_Tgs ts _ h3 c) (by rw [assign_one h1]; rfl)
    · cases h
end
end
end DE
end
section
set_option Elab.async false
set_option linter.all false
set_option maxRecDepth 100000
set_option maxHeartbeats 16000000
/-! DE43: .. the soundness of an expression's look. -/
namespace DE
open PySem L2
section
variable {W : Wd} {κ : Kx} {k : Nat} {Γ : Gm}
theorem own_snd {N : List Str} {own : List Nat} : (own.map fun i => (N.getD i Str.empty, i)).map (·.2) = own := by
  induction own with
  | nil => rfl
  | cons i own ih => rw [List.map_cons, List.map_cons, ih]
theorem bi_ok {X : Cx} {b : Bi} {r : Str × String × Bool} (ok : W.Ok) (hK : X.K = W.K) (hc : X.calm = true) (e : biT b = some r) : r.1 ≠ "__name__" ∧ (if r.2.2 then CallR X (.type r.2.1) (rBi W (bi b)) ∧ bootBuiltins r.1 = some (.type r.2.1) else CallR X (.builtin r.2.1) (rBi W (bi b)) ∧ bootBuiltins r.1 = some (.builtin r.2.1)) := by
  cases b <;> simp only [biT, Option.some.injEq] at e <;> first | (subst e) | cases e
  · exact ⟨by decide, c_len ok hK, by decide +kernel⟩
  · exact ⟨by decide, c_int, by decide +kernel⟩
  · exact ⟨by decide, c_str, by decide +kernel⟩
  · exact ⟨by decide, c_tuple ok hK, by decide +kernel⟩
  · exact ⟨by decide, c_list ok hK, by decide +kernel⟩
  · exact ⟨by decide, c_listD ok hc, by decide +kernel⟩
  · exact ⟨by decide, c_all hK hc, by decide +kernel⟩
  · exact ⟨by decide, c_any hK hc, by decide +kernel⟩
  · exact ⟨by decide, c_max hc, by decide +kernel⟩
theorem mi_ok {X : Cx} {Wx : WX} {tca tcb Ra Rb : Nat → Prop} {m : Mi} {o e : Expr} {es : List Expr} {fo : Loc → Res Rv} {fs : Loc → Res (List Rv)} {apos cpos : Pos} (ok : W.Ok) (hK : X.K = W.K) (hu : X.A.units + 65 < cLine) (ho : PEv W X Wx tca Ra o fo) (ha : PAv W X Wx tcb Rb (e :: es) fs) (hR : ∀ i, Ra i → ¬ tcb i) (hsup : notSup o = true)
    (hall : (e :: es).all notStar = true) (hlen : (e :: es).length < 29) (hline : (apos.endLine == cpos.line) = true) (hm : (miT m).2.1 = true) :
    PEv W X Wx (fun i => (tca i ∨ tcb i) ∨ (Ra i ∨ Rb i)) nob (.Call (.Attribute o (miT m).1 apos) (e :: es) [] cpos) (fun τ => (fo τ).bind (bmE (miOk m) (miR m) fs)) := by
  have hall' := hall
  simp only [List.all_cons, Bool.and_eq_true] at hall'
  have h1 := star_cons (env := X.env) (es := es) hall'.1
  have h2 := star_none (env := X.env) (pos := cpos) hall'.2
  have h3 : ((PySem.backTo cpos (starEach (e :: es) X.env)).all (fun x => !x.1) && (backToKw cpos (keywordEach [] X.env)).all (fun x => x.1.isSome) && decide ((e :: es).length + ([] : List Keyword).length + (if ([] : List Keyword).isEmpty then 0 else 1) < 30)) = true := by
    rw [star_all hall]
    have : decide ((e :: es).length + ([] : List Keyword).length + (if ([] : List Keyword).isEmpty then 0 else 1) < 30) = true := by
      simp only [decide_eq_true_eq]
      simp at hlen ⊢
      omega
    rw [this]
    rfl
  cases m <;> first | cases hm | skip
  · exact v_bm ok PySem.F.plainAttrs_list PySem.F.slot_list_append PySem.F.type_list_append mt_append ho ha hR (base_of hsup) h3 hline h1 h2 (ty_bo hK ok) (bm_append ok)
  · exact v_bm ok PySem.F.plainAttrs_list PySem.F.slot_list_insert PySem.F.type_list_insert mt_insert ho ha hR (base_of hsup) h3 hline h1 h2 (ty_bo hK ok) (bm_insert ok)
  · exact v_bm ok PySem.F.plainAttrs_list PySem.F.slot_list_pop PySem.F.type_list_pop mt_popAt ho ha hR (base_of hsup) h3 hline h1 h2 (ty_bo hK ok) (bm_popAt ok)
  · exact v_bm ok PySem.F.plainAttrs_str PySem.F.slot_str_split PySem.F.type_str_split mt_split ho ha hR (base_of hsup) h3 hline h1 h2 ty_str (bm_split ok)
  · exact v_bm ok PySem.F.plainAttrs_str PySem.F.slot_str_join PySem.F.type_str_join mt_join ho ha hR (base_of hsup) h3 hline h1 h2 ty_str (bm_join ok hK)
  · exact v_bm ok PySem.F.plainAttrs_list PySem.F.slot_list_index PySem.F.type_list_index (mt_indexD hu) ho ha hR (base_of hsup) h3 hline h1 h2 (fun x τ σ H own v M S r h => ty_list hK ok S r (.inl (Option.isSome_iff_exists.mp h))) (bm_index ok hK)
theorem mi_pop {X : Cx} {Wx : WX} {tca Ra : Nat → Prop} {m : Mi} {o : Expr} {fo : Loc → Res Rv} {apos cpos : Pos} (ok : W.Ok) (hK : X.K = W.K) (ho : PEv W X Wx tca Ra o fo) (hsup : notSup o = true) (hline : (apos.endLine == cpos.line) = true) (hm : (miT m).2.2 = true) :
    PEv W X Wx (fun i => tca i ∨ Ra i) nob (.Call (.Attribute o (miT m).1 apos) [] [] cpos) (fun τ => (fo τ).bind (bmE (miOk m) (miR m) fun τ => .ok [] τ)) := by
  cases m <;> first | cases hm | skip
  exact v_bm0 ok PySem.F.plainAttrs_list PySem.F.slot_list_pop PySem.F.type_list_pop mt_pop ho (base_of hsup) hline (ty_bo hK ok) (bm_pop ok)
end
end DE
end
section
set_option Elab.async false
set_option linter.all false
set_option maxRecDepth 100000
set_option maxHeartbeats 16000000
/-! DE44: .. case by case. -/
namespace DE
open PySem L2
section
variable {W : Wd} {κ : Kx} {k : Nat} {Γ : Gm}
abbrev mm (l : List Nat) : Nat → Prop := fun i => i ∈ l
theorem ts_of {X : Cx} {Wx : WX} {t : T} {ifs : List Expr} (h : match ifs with
    | [] => t = .yes
    | [c] => PTv W X Wx (mm (tcT t)) c (evT κ t)
    | _ => False) : PTsv W X Wx (mm (tcT t)) ifs (evT κ t) := by
  split at h
  · subst h
    rw [evT_yes]
    exact PTs.imp' pts_nil fun σ H Q ⟨τ, own, S, hF⟩ => refl_of (a := true) S hF ⟨rfl, rfl⟩ trivial
  · exact ts_one h
  · exact h.elim
theorem noFmt {X : Cx} {Wx : WX} {a : E} {x : Expr} {pos : Pos} (ok : W.Ok) (h : PEv W X Wx (mm (tcE a)) (mm (rE a)) x (ev κ a)) : PEv W X Wx (mm (tcE (.bi .fmt (.cons a .nil)))) (mm (rE (.bi .fmt (.cons a .nil)))) (.FormattedValue x (-1) none pos) (ev κ (.bi .fmt (.cons a .nil))) := by
  rw [ev_bi]
  have q := v_fmt (pos := pos) ok h
  have e : (fun τ => ((ev κ a τ).bind fun r τ1 => Res.ok [r] τ1).bind fun rs τ1 => lift (fmtB (rs.map Rv.c)) τ1) = fun τ => (evs κ (.cons a .nil) τ).bind fun rs τ1 => lift (bi .fmt (rs.map Rv.c)) τ1 := by
    funext τ
    rw [evs_cons, evs_nil]
    dsimp only
    generalize ev κ a τ = z
    cases z <;> rfl
  rw [← e]
  exact q.mono (fun i h => by simp [tcE, tcEs]; exact h) noI
theorem ckEs_star {sc : Scope} : ∀ {a : Es} {xs : List Expr}, ckEs Γ sc a xs = true → xs.all notStar = true
  | .nil, xs, h => by
    simp only [ckEs, List.isEmpty_iff] at h
    subst h
    rfl
  | .cons a as, xs, h => by
    simp only [ckEs] at h
    split at h
    · simp only [Bool.and_eq_true] at h
      simp only [List.all_cons, h.1.1.1, ckEs_star h.1.2, Bool.and_self]
    · cases h
theorem ckT_e {sc : Scope} {a : E} {e : Expr} (h : ckT Γ sc (.e a) e = true) : (plainT e = true ∧ ckE Γ sc a e = true) ∨ ∃ x op y pos, e = .Compare x op y pos ∧ ckE Γ sc a e = true ∧ isCmpE a = true := by
  rw [ckT] at h
  simp only [Bool.and_eq_true, Bool.or_eq_true] at h
  obtain ⟨h1 | h1, h2⟩ := h
  · cases e <;> first | exact .inr ⟨_, _, _, _, rfl, h2, h1.1⟩ | cases h1.2
  · exact .inl ⟨h1, h2⟩
/-! comparisons as tests -/
theorem tt_cmp {sc : Scope} {fa : Bool} {X : Cx} {Wx : WX} {o : Cop} {a b : E} {x : Expr} {op : List CmpOp} {y : List Expr} {pos : Pos} (c : Ck W κ k Γ sc fa X Wx) (h : ckE Γ sc (.cmp o a b) (.Compare x op y pos) = true)
    (ia : ∀ z, ckE Γ sc a z = true → PEv W X Wx (mm (tcE a)) (mm (rE a)) z (ev κ a))
    (ib : ∀ z, ckE Γ sc b z = true → PEv W X Wx (mm (tcE b)) (mm (rE b)) z (ev κ b)) :
    PTv W X Wx (mm (tcE (.cmp o a b))) (.Compare x op y pos) (fun τ => (ev κ (.cmp o a b) τ).bind truthE) := by
  rw [ev_cmp]
  simp only [ckE] at h
  split at h
  · rename_i z
    cases z
    simp only [Bool.and_eq_true] at h
    obtain ⟨⟨⟨⟨h1, h5⟩, h2⟩, h3⟩, h4⟩ := h
    exact (t_cmp c.ok (cm_of c.K c.u65 h1) (ia _ h2) (ib _ h3) (disj_ok h4) (marks_of h5)).mono app2
  · cases h
theorem tt_chain {sc : Scope} {fa : Bool} {X : Cx} {Wx : WX} {o o' : Cop} {a b d : E} {x : Expr} {op : List CmpOp} {y : List Expr} {pos : Pos} (c : Ck W κ k Γ sc fa X Wx) (h : ckE Γ sc (.chain o o' a b d) (.Compare x op y pos) = true)
    (ia : ∀ z, ckE Γ sc a z = true → PEv W X Wx (mm (tcE a)) (mm (rE a)) z (ev κ a))
    (ib : ∀ z, ckE Γ sc b z = true → PEv W X Wx (mm (tcE b)) (mm (rE b)) z (ev κ b))
    (ic : ∀ z, ckE Γ sc d z = true → PEv W X Wx (mm (tcE d)) (mm (rE d)) z (ev κ d)) :
    PTv W X Wx (mm (tcE (.chain o o' a b d))) (.Compare x op y pos) (fun τ => (ev κ (.chain o o' a b d) τ).bind truthE) := by
  rw [ev_chain]
  simp only [ckE] at h
  split at h
  · rename_i z
    cases z
    simp only [Bool.and_eq_true] at h
    obtain ⟨⟨⟨⟨⟨⟨⟨h1, h2⟩, h3⟩, h4⟩, h5⟩, h6⟩, h7⟩, h8⟩ := h
    exact (t_chain c.ok (cm_of c.K c.u65 h1) (cm_of c.K c.u65 h2) (ia _ h4) (ib _ h5) (ic _ h6) (disj_ok h7) (disj_ok h8) (marks_of h3)).mono app3
  · cases h
theorem tt_eqo {sc : Scope} {fa : Bool} {X : Cx} {Wx : WX} {a b : E} {x : Expr} {op : List CmpOp} {y : List Expr} {pos : Pos} (c : Ck W κ k Γ sc fa X Wx) (h : ckE Γ sc (.eqo a b) (.Compare x op y pos) = true)
    (ia : ∀ z, ckE Γ sc a z = true → PEv W X Wx (mm (tcE a)) (mm (rE a)) z (ev κ a))
    (ib : ∀ z, ckE Γ sc b z = true → PEv W X Wx (mm (tcE b)) (mm (rE b)) z (ev κ b)) :
    PTv W X Wx (mm (tcE (.eqo a b))) (.Compare x op y pos) (fun τ => (ev κ (.eqo a b) τ).bind truthE) := by
  rw [ev_eqo]
  simp only [ckE] at h
  split at h
  · rename_i z
    cases z
    simp only [Bool.and_eq_true] at h
    obtain ⟨⟨⟨h5, h2⟩, h3⟩, h4⟩ := h
    exact (t_eqo c.ok c.g.eq c.hr c.tk (ia _ h2) (ib _ h3) (disj_ok h4) (marks_of h5)).mono app22
  · cases h
theorem tt_isN {sc : Scope} {fa : Bool} {X : Cx} {Wx : WX} {a : E} {x : Expr} {op : List CmpOp} {y : List Expr} {pos : Pos} (c : Ck W κ k Γ sc fa X Wx) (h : ckE Γ sc (.isN a) (.Compare x op y pos) = true)
    (ia : ∀ z, ckE Γ sc a z = true → PEv W X Wx (mm (tcE a)) (mm (rE a)) z (ev κ a)) :
    PTv W X Wx (mm (tcE (.isN a))) (.Compare x op y pos) (fun τ => (ev κ (.isN a) τ).bind truthE) := by
  rw [ev_isN]
  simp only [ckE] at h
  split at h
  · rename_i z
    cases z
    exact (t_isN c.ok (ia _ h)).mono idI
  · cases h
theorem tt_isntN {sc : Scope} {fa : Bool} {X : Cx} {Wx : WX} {a : E} {x : Expr} {op : List CmpOp} {y : List Expr} {pos : Pos} (c : Ck W κ k Γ sc fa X Wx) (h : ckE Γ sc (.isntN a) (.Compare x op y pos) = true)
    (ia : ∀ z, ckE Γ sc a z = true → PEv W X Wx (mm (tcE a)) (mm (rE a)) z (ev κ a)) :
    PTv W X Wx (mm (tcE (.isntN a))) (.Compare x op y pos) (fun τ => (ev κ (.isntN a) τ).bind truthE) := by
  rw [ev_isntN]
  simp only [ckE] at h
  split at h
  · rename_i z
    cases z
    exact (t_isntN c.ok (ia _ h)).mono idI
  · cases h
theorem tt_inG {sc : Scope} {fa : Bool} {X : Cx} {Wx : WX} {neg : Bool} {a : E} {ks : List D} {x : Expr} {op : List CmpOp} {y : List Expr} {pos : Pos} (c : Ck W κ k Γ sc fa X Wx) (h : ckE Γ sc (.inG neg a ks) (.Compare x op y pos) = true)
    (ia : ∀ z, ckE Γ sc a z = true → PEv W X Wx (mm (tcE a)) (mm (rE a)) z (ev κ a)) :
    PTv W X Wx (mm (tcE (.inG neg a ks))) (.Compare x op y pos) (fun τ => (ev κ (.inG neg a ks) τ).bind truthE) := by
  rw [ev_inG]
  simp only [ckE] at h
  split at h
  · rename_i x' op' g p1 p2 z
    cases z
    simp only [Bool.and_eq_true] at h
    obtain ⟨⟨h1, h2⟩, h3⟩ := h
    split at h2
    · rename_i q
      obtain ⟨g1, g2, b, g3, g4, g5⟩ := c.glb q
      rw [flatsB_eq h2]
      have i1 := ia _ h3
      have hk : ∀ op', behindInMarks op' (.Name g p1) = false := fun op' => rfl
      cases op' <;> cases neg <;> first | cases h1 | skip
      · exact (t_inG c.ok g4 false g1 g3 g2 i1 (hk _)).mono idI
      · exact (t_inG c.ok g4 true g1 g3 g2 i1 (hk _)).mono idI
    · cases h2
  · cases h
mutual
theorem snd_E : ∀ (a : E) (e : Expr) (sc : Scope) (fa : Bool) (X : Cx) (Wx : WX), ckE Γ sc a e = true → Ck W κ k Γ sc fa X Wx → PEv W X Wx (mm (tcE a)) (mm (rE a)) e (ev κ a)
  | .k d, e, sc, fa, X, Wx, h, c => by
    rw [ev_k]
    simp only [ckE] at h
    split at h
    · rw [flatB_eq h]
      exact v_non.mono noI noI
    · rw [flatB_eq h]
      exact v_bl.mono noI noI
    · rw [flatB_eq h]
      exact v_int.mono noI noI
    · rw [flatB_eq h]
      exact v_str.mono noI noI
    · rw [flatB_eq h]
      exact v_neg.mono noI noI
    · split at h
      · rename_i q
        obtain ⟨h1, h2, u, h3, h4, h5⟩ := c.glb q
        rw [flatB_eq h]
        exact (v_glob h1 h3 h4 h5 h2).mono noI noI
      · rename_i q
        obtain ⟨h1, h2, h3, h4, h5, h6⟩ := c.glb q
        split at h
        · simp only [decide_eq_true_eq] at h
          subst h
          rename_i f _
          exact (v_glob (d := .fn f) (v := .ref (W.fn f)) h1 h3 rfl (fun H => ⟨rfl, h6⟩) h2).mono noI noI
        · cases h
      · cases h
    · cases h
  | .rd p, e, sc, fa, X, Wx, h, c => by
    rw [ev_rd]
    exact (v_rd (snd_P p e sc fa X Wx h c)).mono idI fun i h => by simpa [rE, mm] using h
  | .mv i, e, sc, fa, X, Wx, h, c => by
    rw [ev_mv]
    simp only [ckE] at h
    split at h
    · obtain ⟨s1, s2, s3, s4⟩ := c.slot h
      exact (v_mv s1 s2 s3 s4).mono (fun j h => by simpa [tcE, mm] using h) noI
    · cases h
  | .kd ks vs, e, sc, fa, X, Wx, h, c => by
    rw [ev_kd]
    simp only [ckE] at h
    split at h
    · simp only [Bool.and_eq_true, decide_eq_true_eq] at h
      obtain ⟨⟨h1, h2⟩, h3⟩ := h
      subst h1
      split at h3
      · rename_i q
        simp only [Bool.and_eq_true] at h3
        obtain ⟨g1, g2, a, g3, g4, g5⟩ := c.glb q
        obtain ⟨f1, f2, f3⟩ := c.free h2
        rw [flatsB_eq h3.1, flatsB_eq h3.2]
        exact (v_kd c.ok g4 f1 f3 g1 g3 g2 rfl).mono noI noI
      · cases h3
    · cases h
  | .inG neg a ks, e, sc, fa, X, Wx, h, c => by
    rw [ev_inG]
    simp only [ckE] at h
    split at h
    · rename_i x op g p1 p2
      simp only [Bool.and_eq_true] at h
      obtain ⟨⟨h1, h2⟩, h3⟩ := h
      split at h2
      · rename_i q
        obtain ⟨g1, g2, b, g3, g4, g5⟩ := c.glb q
        rw [flatsB_eq h2]
        have ih := snd_E a x sc fa X Wx h3 c
        have hm : ∀ op', behindInMarks op' (.Name g p1) = false := fun op' => rfl
        cases op <;> cases neg <;> first | cases h1 | skip
        · exact (v_inG c.ok g4 false g1 g3 g2 ih (hm _)).mono idI noI
        · exact (v_inG c.ok g4 true g1 g3 g2 ih (hm _)).mono idI noI
      · cases h2
    · cases h
  | .idxG a ks vs, e, sc, fa, X, Wx, h, c => by
    rw [ev_idxG]
    simp only [ckE] at h
    split at h
    · simp only [Bool.and_eq_true] at h
      obtain ⟨⟨h1, h2⟩, h3⟩ := h
      split at h2
      · rename_i q
        simp only [Bool.and_eq_true] at h2
        obtain ⟨g1, g2, b, g3, g4, g5⟩ := c.glb q
        rw [flatsB_eq h2.1, flatsB_eq h2.2]
        exact (v_idxG c.ok g4 g1 g3 g2 (snd_E a _ sc fa X Wx h3 c) (plain_of h1) g5).mono idI noI
      · cases h2
    · cases h
  | .bin o a b, e, sc, fa, X, Wx, h, c => by
    rw [ev_bin]
    simp only [ckE] at h
    split at h
    · simp only [Bool.and_eq_true] at h
      obtain ⟨⟨⟨h1, h2⟩, h3⟩, h4⟩ := h
      exact (v_bin c.ok (op_of c.ok c.K h1) (snd_E a _ sc fa X Wx h2 c) (snd_E b _ sc fa X Wx h3 c) (disj_ok h4)).mono app2 noI
    · cases h
  | .cmp o a b, e, sc, fa, X, Wx, h, c => by
    rw [ev_cmp]
    simp only [ckE] at h
    split at h
    · simp only [Bool.and_eq_true] at h
      obtain ⟨⟨⟨⟨h1, h5⟩, h2⟩, h3⟩, h4⟩ := h
      exact (v_cmp c.ok (cm_of c.K c.u65 h1) (snd_E a _ sc fa X Wx h2 c) (snd_E b _ sc fa X Wx h3 c) (disj_ok h4) (marks_of h5)).mono app2 noI
    · cases h
  | .eqo a b, e, sc, fa, X, Wx, h, c => by
    rw [ev_eqo]
    simp only [ckE] at h
    split at h
    · simp only [Bool.and_eq_true] at h
      obtain ⟨⟨⟨h5, h2⟩, h3⟩, h4⟩ := h
      exact (v_eqo c.ok c.g.eq c.hr c.tk (snd_E a _ sc fa X Wx h2 c) (snd_E b _ sc fa X Wx h3 c) (disj_ok h4) (marks_of h5)).mono app22 noI
    · cases h
  | .chain o o' a b d, e, sc, fa, X, Wx, h, c => by
    rw [ev_chain]
    simp only [ckE] at h
    split at h
    · simp only [Bool.and_eq_true] at h
      obtain ⟨⟨⟨⟨⟨⟨⟨h1, h2⟩, h3⟩, h4⟩, h5⟩, h6⟩, h7⟩, h8⟩ := h
      exact (v_chain c.ok (cm_of c.K c.u65 h1) (cm_of c.K c.u65 h2) (snd_E a _ sc fa X Wx h4 c) (snd_E b _ sc fa X Wx h5 c) (snd_E d _ sc fa X Wx h6 c) (disj_ok h7) (disj_ok h8) (marks_of h3)).mono app3 noI
    · cases h
  | .isN a, e, sc, fa, X, Wx, h, c => by
    rw [ev_isN]
    simp only [ckE] at h
    split at h
    · exact (v_isN c.ok (snd_E a _ sc fa X Wx h c)).mono idI noI
    · cases h
  | .isntN a, e, sc, fa, X, Wx, h, c => by
    rw [ev_isntN]
    simp only [ckE] at h
    split at h
    · exact (v_isntN c.ok (snd_E a _ sc fa X Wx h c)).mono idI noI
    · cases h
  | .and a b, e, sc, fa, X, Wx, h, c => by
    rw [ev_and]
    simp only [ckE] at h
    split at h
    · simp only [Bool.and_eq_true] at h
      exact (v_and (snd_E a _ sc fa X Wx h.1 c) (v_one (snd_E b _ sc fa X Wx h.2 c))).mono app2 idI
    · simp only [Bool.and_eq_true] at h
      exact (v_and (snd_E a _ sc fa X Wx h.1 c) (snd_E b _ sc fa X Wx h.2 c)).mono app2 idI
    · cases h
  | .or a b, e, sc, fa, X, Wx, h, c => by
    rw [ev_or]
    simp only [ckE] at h
    split at h
    · simp only [Bool.and_eq_true] at h
      exact (v_or (snd_E a _ sc fa X Wx h.1 c) (v_one (snd_E b _ sc fa X Wx h.2 c))).mono app2 idI
    · simp only [Bool.and_eq_true] at h
      exact (v_or (snd_E a _ sc fa X Wx h.1 c) (snd_E b _ sc fa X Wx h.2 c)).mono app2 idI
    · cases h
  | .not a, e, sc, fa, X, Wx, h, c => by
    rw [ev_not]
    simp only [ckE] at h
    split at h
    · exact (v_not (snd_E a _ sc fa X Wx h c)).mono idI noI
    · cases h
  | .ife t a b, e, sc, fa, X, Wx, h, c => by
    rw [ev_ife]
    simp only [ckE] at h
    split at h
    · simp only [Bool.and_eq_true] at h
      obtain ⟨⟨h1, h2⟩, h3⟩ := h
      exact (v_ife (snd_T t _ sc fa X Wx h1 c).1 (snd_E a _ sc fa X Wx h2 c) (snd_E b _ sc fa X Wx h3 c)).mono app3 app2
    · cases h
  | .tup es, e, sc, fa, X, Wx, h, c => by
    rw [ev_tup]
    simp only [ckE] at h
    split at h
    · exact (v_tup c.ok (snd_Es es _ sc fa X Wx h c)).mono idI noI
    · cases h
  | .lst es, e, sc, fa, X, Wx, h, c => by
    rw [ev_lst]
    simp only [ckE] at h
    split at h
    · exact (v_lst c.ok (snd_Es es _ sc fa X Wx h c)).mono idI noI
    · cases h
  | .dic ks vs, e, sc, fa, X, Wx, h, c => by
    rw [ev_dic]
    simp only [ckE] at h
    split at h
    · split at h
      · rename_i he
        simp only [Bool.and_eq_true, List.isEmpty_iff] at h he
        obtain ⟨⟨h1, h2⟩, h3⟩ := h
        subst h1 he h2
        cases vs with
        | cons _ _ => cases h3
        | nil =>
          have e0 : (fun τ => (evs κ .nil τ).bind fun rs τ1 => lift ((keepAll rs).bind fun cs => dicE [] cs) τ1) = fun τ => Res.ok (Rv.fr (C.dic [] [])) τ := by
            funext τ
            rw [evs_nil]
            rfl
          rw [e0]
          exact (v_dic0 c.ok).mono noI noI
      · rename_i he
        simp only [Bool.and_eq_true, decide_eq_true_eq] at h
        obtain ⟨keys, hp, h1, h2, h3, h4⟩ := snd_Di vs ks _ _ _ sc fa X Wx h.2 c
        rw [← h1]
        exact (v_dic c.ok hp h2 h3 (fun z => by rw [z] at he; exact he rfl) h.1 h4).mono idI noI
    · cases h
  | .idx a i, e, sc, fa, X, Wx, h, c => by
    rw [ev_idx]
    simp only [ckE] at h
    split at h
    · simp only [Bool.and_eq_true] at h
      obtain ⟨⟨⟨h1, h2⟩, h3⟩, h4⟩ := h
      exact (v_idx c.ok c.K c.u1 (snd_E a _ sc fa X Wx h2 c) (pd_of c.ok (snd_E i _ sc fa X Wx h3 c)) (disj_ok h4) (plain_of h1)).mono app2 noI
    · cases h
  | .fld a f, e, sc, fa, X, Wx, h, c => by
    rw [ev_fld]
    simp only [ckE] at h
    split at h
    · simp only [Bool.and_eq_true, decide_eq_true_eq] at h
      obtain ⟨⟨h1, h2⟩, h3⟩ := h
      subst h1
      exact (v_fld c.ok c.wc c.K (snd_E a _ sc fa X Wx h3 c) (base_of h2)).mono idI noI
    · cases h
  | .sli a lo hi, e, sc, fa, X, Wx, h, c => by
    rw [ev_sli]
    simp only [ckE] at h
    split at h
    · simp only [Bool.and_eq_true] at h
      obtain ⟨⟨⟨⟨h1, h2⟩, h3⟩, h4⟩, h5⟩ := h
      exact (v_sli c.ok c.K (snd_E a _ sc fa X Wx h1 c) (snd_O lo _ sc fa X Wx h2 c) (snd_O hi _ sc fa X Wx h3 c) (disj_ok h4) (disj_ok h5)).mono app3 noI
    · cases h
  | .rev a, e, sc, fa, X, Wx, h, c => by
    rw [ev_rev]
    simp only [ckE] at h
    split at h
    · exact (v_rev c.ok c.K (snd_E a _ sc fa X Wx h c)).mono idI noI
    · cases h
  | .lc own tg it t a, e, sc, fa, X, Wx, h, c => by
    rw [ev_lc]
    simp only [ckE] at h
    split at h
    · rename_i elt tge iter ifs scope pos
      simp only [Bool.and_eq_true] at h
      obtain ⟨⟨⟨⟨⟨⟨⟨⟨h1, h2⟩, h3⟩, h4⟩, h5⟩, h6⟩, h7⟩, h8⟩, h9⟩ := h
      have q := v_lc (W := W) (Wx := Wx) (X := X) (tct := mm (tcT t)) (ft := evT κ t) (ifs := ifs) (elt := elt) (pos := pos) (iter := iter) (tge := tge) (tg := tg) (scope := scope) (ownp := own.map fun i => (Γ.N.getD i Str.empty, i)) c.ok c.calm (by rw [c.N]; exact c.nd) (snd_I it tge iter sc fa X Wx h2 c) (by rw [c.N, c.sc_]; exact blkOk_by h1)
        (fun s H C cl fp => snd_Tg tg tge h4 (c.blk s H scope C cl fp)) (fun s H C cl fp => ts_of (by
          split at h5
          · split at h5
            · rfl
            · cases h5
          · exact (snd_T t _ _ _ _ _ h5 (c.blk s H scope C cl fp)).1
          · cases h5)) (fun s H C cl fp => pd_of c.ok (snd_E a elt _ _ _ _ h6 (c.blk s H scope C cl fp))) (fold_of h3)
        (fun j hj => by rw [own_snd]; simpa using List.all_eq_true.mp h7 j (tg_tc tg j hj)) (fun j hj => by rw [own_snd]; simpa using List.all_eq_true.mp h8 j (tg_nm tg j hj)) (fun i hi z => by
          rw [own_snd] at z
          exact disj_ok h9 i hi (app3 i z))
      rw [own_snd] at q
      exact q.mono app4 noI
    · cases h
  | .dc _ _ _ _ _ _, e, sc, fa, X, Wx, h, c => by
    simp only [ckE] at h
    cases h
  | .call f as, e, sc, fa, X, Wx, h, c => by
    rw [ev_call]
    simp only [ckE] at h
    split at h
    · rename_i x p1 xs pos
      simp only [Bool.and_eq_true] at h
      obtain ⟨h1, h2⟩ := h
      split at h1
      · rename_i q
        simp only [decide_eq_true_eq] at h1
        subst h1
        obtain ⟨g1, g2, g3, g4, g5, g6⟩ := c.glb q
        have ih := snd_Es as xs sc fa X Wx h2 c
        have hst := ckEs_star h2
        cases xs with
        | nil =>
          cases as with
          | nil =>
            have e0 : (fun τ => (evs κ .nil τ).bind fun rs τ1 => callR (κ.call f) (rs.map fzFr) τ1) = fun τ => callR (κ.call f) [] τ := by
              funext τ
              rw [evs_nil]
              rfl
            rw [e0]
            exact (v_call0 c.ok g5 c.hr c.tk g1 g3 g4 g2).mono noI noI
          | cons _ _ => simp [ckEs] at h2
        | cons y ys =>
          simp only [List.all_cons, Bool.and_eq_true] at hst
          exact (v_call c.ok g5 c.hr c.tk g1 g3 g4 ih g2 (star_cons hst.1) (star_none hst.2)).mono app2 noI
      · cases h1
    · cases h
  | .callf i as, e, sc, fa, X, Wx, h, c => by
    rw [ev_callf]
    simp only [ckE] at h
    split at h
    · rename_i x p1 xs pos
      simp only [Bool.and_eq_true] at h
      obtain ⟨h1, h2⟩ := h
      obtain ⟨s1, s2, s3, s4⟩ := c.slot h1
      have ih := snd_Es as xs sc fa X Wx h2 c
      have hst := ckEs_star h2
      cases xs with
      | nil =>
        cases as with
        | nil =>
          rw [evs_nil]
          exact (v_callf0 c.ok c.g.fns c.hr c.tk s1 s2 s3 s4).mono noI noI
        | cons _ _ => simp [ckEs] at h2
      | cons y ys =>
        simp only [List.all_cons, Bool.and_eq_true] at hst
        exact (v_callf c.ok c.g.fns c.hr c.tk s1 s2 ih s3 s4 (star_cons hst.1) (star_none hst.2)).mono app2 noI
    · cases h
  | .callc i as, e, sc, fa, X, Wx, h, c => by
    rw [ev_callc]
    simp only [ckE] at h
    split at h
    · rename_i x p1 xs pos
      simp only [Bool.and_eq_true] at h
      obtain ⟨⟨h1, h3⟩, h2⟩ := h
      obtain ⟨s1, s2, s3, s4⟩ := c.slot h1
      have ih := snd_Es as xs sc fa X Wx h2 c
      have hst := ckEs_star h2
      cases xs with
      | nil => cases h3
      | cons y ys =>
        simp only [List.all_cons, Bool.and_eq_true] at hst
        exact (v_callc c.ok c.g.lamW c.g.lams c.hr s1 s2 ih s3 s4 (star_cons hst.1) (star_none hst.2)).mono idI noI
    · cases h
  | .calll _ _ _ _, e, sc, fa, X, Wx, h, c => by
    simp only [ckE] at h
    cases h
  | .methl _ _ _ _, e, sc, fa, X, Wx, h, c => by
    simp only [ckE] at h
    cases h
  | .make m as, e, sc, fa, X, Wx, h, c => by
    rw [ev_make]
    simp only [ckE] at h
    split at h
    · rename_i x p1 xs pos
      simp only [Bool.and_eq_true] at h
      obtain ⟨⟨h1, h3⟩, h2⟩ := h
      split at h1
      · rename_i q
        simp only [decide_eq_true_eq] at h1
        subst h1
        obtain ⟨g1, g2, g3, ⟨g, g4, g5⟩, _⟩ := c.glb q
        have ih := snd_Es as xs sc fa X Wx h2 c
        have hst := ckEs_star h2
        cases xs with
        | nil => cases h3
        | cons y ys =>
          simp only [List.all_cons, Bool.and_eq_true] at hst
          exact (v_make c.ok g4 g5 c.room c.tk g1 g3 ih g2 (star_cons hst.1) (star_none hst.2)).mono app2 noI
      · cases h1
    · cases h
  | .makes m a, e, sc, fa, X, Wx, h, c => by
    rw [ev_makes]
    simp only [ckE] at h
    split at h
    · simp only [Bool.and_eq_true] at h
      obtain ⟨h1, h2⟩ := h
      split at h1
      · rename_i q
        simp only [decide_eq_true_eq] at h1
        subst h1
        obtain ⟨g1, g2, g3, ⟨g, g4, g5⟩, _⟩ := c.glb q
        exact (v_makes c.ok g4 g5 c.room c.tk g1 g3 (pd_of c.ok (snd_E a _ sc fa X Wx h2 c)) g2 rfl).mono idI noI
      · cases h1
    · cases h
  | .meth m o as, e, sc, fa, X, Wx, h, c => by
    rw [ev_meth]
    simp only [ckE] at h
    split at h
    · rename_i y n ap xs pos
      simp only [Bool.and_eq_true, decide_eq_true_eq] at h
      obtain ⟨⟨⟨⟨⟨⟨h1, h2⟩, h3⟩, h4⟩, h5⟩, h6⟩, h7⟩ := h
      subst h1
      have iho := snd_E o y sc fa X Wx h5 c
      have ih := snd_Es as xs sc fa X Wx h6 c
      have hst := ckEs_star h6
      have mt := mtree_of (X := X) (o := y) (m := m) (apos := ap) (pos := pos) (args := xs) (base_of h2) (star_all hst) h3 h4
      cases xs with
      | nil =>
        cases as with
        | nil =>
          rw [evs_nil]
          exact (v_meth0 c.ok (c.g.meth m) c.hr c.tk iho mt).mono (fun i h => by
            simp only [tcE, tcEs, rEs, mm, List.mem_append] at h ⊢
            rcases h with h | h
            · exact .inl (.inl h)
            · exact .inr (.inl h)) noI
        | cons _ _ => simp [ckEs] at h6
      | cons z zs =>
        simp only [List.all_cons, Bool.and_eq_true] at hst
        exact (v_meth c.ok (c.g.meth m) c.hr c.tk iho ih (disj_ok h7) mt (star_cons hst.1) (star_none hst.2)).mono app22 noI
    · cases h
  | .isi a t, e, sc, fa, X, Wx, h, c => by
    rw [ev_isi]
    simp only [ckE] at h
    split at h
    · simp only [Bool.and_eq_true, decide_eq_true_eq] at h
      obtain ⟨⟨⟨⟨h1, h2⟩, h3⟩, h4⟩, h5⟩ := h
      subst h1
      obtain ⟨f1, f2, f3⟩ := c.free h2
      have ih := snd_E a _ sc fa X Wx h4 c
      cases t with
      | cls n =>
        dsimp only at h5
        split at h5
        · rename_i q
          simp only [decide_eq_true_eq] at h5
          subst h5
          obtain ⟨g1, g2, g3, _, g4⟩ := c.glb q
          exact (v_isiC c.ok g4 f1 f3 g1 g3 g2 ih (star_cons h3)).mono idI noI
        · cases h5
      | _ =>
        simp only [Bool.and_eq_true, decide_eq_true_eq] at h5
        obtain ⟨e1, e2⟩ := h5
        subst e1
        obtain ⟨t1, t2, t3⟩ := c.free e2
        exact (v_isi c.ok c.K (fun z q => by cases q) f1 f3 t1 t3 (by decide +kernel) (by decide) t2 ih (star_cons h3)).mono idI noI
    · cases h
  | .bi b as, e, sc, fa, X, Wx, h, c => by
    simp only [ckE] at h
    split at h
    · rename_i x p1 xs pos
      rw [ev_bi]
      simp only [Bool.and_eq_true] at h
      obtain ⟨⟨⟨h1, h2⟩, h3⟩, h4⟩ := h
      obtain ⟨f1, f2, f3⟩ := c.free h2
      have ih := snd_Es as xs sc fa X Wx h4 c
      have hst := ckEs_star h4
      split at h1
      · rename_i r er
        simp only [decide_eq_true_eq] at h1
        subst h1
        obtain ⟨b1, b2⟩ := bi_ok c.ok c.K c.calm er
        cases xs with
        | nil => cases h3
        | cons y ys =>
          simp only [List.all_cons, Bool.and_eq_true] at hst
          split at b2
          · exact (v_biT c.ok b2.1 f1 f3 b2.2 ih b1 f2 (star_cons hst.1) (star_none hst.2)).mono idI noI
          · exact (v_biB c.ok b2.1 f1 f3 b2.2 ih b1 f2 (star_cons hst.1) (star_none hst.2)).mono idI noI
      · cases h1
    · rename_i x p1
      simp only [Bool.and_eq_true] at h
      obtain ⟨h1, h2⟩ := h
      cases b <;> first | cases h1 | skip
      obtain ⟨a, e0, ih⟩ := snd_F as x sc fa X Wx h2 c
      subst e0
      exact noFmt c.ok ih
    · cases h
  | .mi m o as, e, sc, fa, X, Wx, h, c => by
    rw [ev_mi]
    simp only [ckE] at h
    split at h
    · rename_i y n ap xs pos
      simp only [Bool.and_eq_true, decide_eq_true_eq] at h
      obtain ⟨⟨⟨⟨⟨⟨⟨h1, h2⟩, h3⟩, h4⟩, h5⟩, h6⟩, h7⟩, h8⟩ := h
      subst h1
      have iho := snd_E o y sc fa X Wx h6 c
      have ih := snd_Es as xs sc fa X Wx h7 c
      have hst := ckEs_star h7
      cases xs with
      | nil =>
        cases as with
        | nil =>
          rw [evs_nil]
          exact (mi_pop c.ok c.K iho h3 h5 (by simpa using h2)).mono (fun i h => by
            simp only [tcE, tcEs, rEs, mm, List.mem_append] at h ⊢
            rcases h with h | h
            · exact .inl (.inl h)
            · exact .inr (.inl h)) noI
        | cons _ _ => simp [ckEs] at h7
      | cons z zs =>
        exact (mi_ok c.ok c.K c.u65 iho ih (disj_ok h8) h3 hst h4 h5 (by cases m <;> first | rfl | (simp [miT] at h2))).mono app22 noI
    · cases h
  | .fstr es, e, sc, fa, X, Wx, h, c => by
    rw [ev_fstr]
    simp only [ckE] at h
    split at h
    · exact (v_joined (snd_J es _ sc fa X Wx h c)).mono idI noI
    · cases h
  | .fz a, e, sc, fa, X, Wx, h, c => by
    rw [ev_fz]
    simp only [ckE] at h
    exact (v_fz c.ok (snd_E a e sc fa X Wx h c)).mono idI noI
  | .ow a, e, sc, fa, X, Wx, h, c => by
    rw [ev_ow]
    simp only [ckE] at h
    exact (v_ow (snd_E a e sc fa X Wx h c)).mono idI noI
  | .cat a b, e, sc, fa, X, Wx, h, c => by
    rw [ev_cat]
    simp only [ckE] at h
    split at h
    · simp only [Bool.and_eq_true] at h
      obtain ⟨⟨h2, h3⟩, h4⟩ := h
      exact (v_cat c.ok c.K (snd_E a _ sc fa X Wx h2 c) (snd_E b _ sc fa X Wx h3 c) (disj_ok h4)).mono app2 noI
    · cases h
theorem snd_Es : ∀ (a : Es) (es : List Expr) (sc : Scope) (fa : Bool) (X : Cx) (Wx : WX), ckEs Γ sc a es = true → Ck W κ k Γ sc fa X Wx → PAv W X Wx (mm (tcEs a)) (mm (rEs a)) es (evs κ a)
  | .nil, es, sc, fa, X, Wx, h, c => by
    rw [evs_nil]
    simp only [ckEs, List.isEmpty_iff] at h
    subst h
    exact a_nil.mono noI noI
  | .cons a as, es, sc, fa, X, Wx, h, c => by
    rw [evs_cons]
    simp only [ckEs] at h
    split at h
    · simp only [Bool.and_eq_true] at h
      obtain ⟨⟨⟨h1, h2⟩, h3⟩, h4⟩ := h
      exact (a_cons c.ok (snd_E a _ sc fa X Wx h2 c) (snd_Es as _ sc fa X Wx h3 c) (disj_ok h4) (star_cons h1)).mono app2 app2
    · cases h
theorem snd_F : ∀ (a : Es) (x : Expr) (sc : Scope) (fa : Bool) (X : Cx) (Wx : WX), ckEs Γ sc a [x] = true → Ck W κ k Γ sc fa X Wx → ∃ a', a = .cons a' .nil ∧ PEv W X Wx (mm (tcE a')) (mm (rE a')) x (ev κ a')
  | .nil, x, sc, fa, X, Wx, h, c => by
    simp [ckEs] at h
  | .cons a as, x, sc, fa, X, Wx, h, c => by
    simp only [ckEs, Bool.and_eq_true] at h
    obtain ⟨⟨⟨h1, h2⟩, h3⟩, h4⟩ := h
    have e : as = .nil := by
      cases as with
      | nil => rfl
      | cons _ _ => simp [ckEs] at h3
    exact ⟨a, by rw [e], snd_E a x sc fa X Wx h2 c⟩
theorem snd_Di : ∀ (a : Es) (ks : List D) (ks' : List (Option Expr)) (es : List Expr) (pos : Pos) (sc : Scope) (fa : Bool) (X : Cx) (Wx : WX), ckDi Γ sc ks a ks' es = true → Ck W κ k Γ sc fa X Wx →
    ∃ keys : List Key, PDi W X Wx (mm (tcEs a)) (mm (rEs a)) pos ks' keys es (evs κ a) ∧ keys.map dKey = ks ∧ ks'.all (·.isSome) = true ∧ ks'.length = es.length ∧ keys.length = ks'.length
  | .nil, ks, ks', es, pos, sc, fa, X, Wx, h, c => by
    simp only [ckDi, Bool.and_eq_true, List.isEmpty_iff] at h
    obtain ⟨⟨h1, h2⟩, h3⟩ := h
    subst h1 h2 h3
    refine ⟨[], ?_, rfl, rfl, rfl, rfl⟩
    rw [evs_nil]
    obtain ⟨ts, t1, t2⟩ := pdi_nil (W := W) (X := X) (Wx := Wx) (pos := pos)
    exact ⟨ts, t1, fun σ H Q ⟨τ, own, S, hF⟩ => t2 σ H Q ⟨τ, own, S, Fin.tail Stp.refl noI (fun r b x hx => bo_mono noI (b x hx)) hF⟩⟩
  | .cons a as, ks, ks', es, pos, sc, fa, X, Wx, h, c => by
    rw [evs_cons]
    simp only [ckDi] at h
    split at h
    · simp only [Bool.and_eq_true] at h
      obtain ⟨⟨⟨h1, h2⟩, h3⟩, h4⟩ := h
      obtain ⟨keys, hp, e1, e2, e3, e4⟩ := snd_Di as _ _ _ pos sc fa X Wx h3 c
      rename_i s _ _ _ _ _
      obtain ⟨ts, t1, t2⟩ := pdi_cons (key := .inr s) c.ok pe_str (snd_E a _ sc fa X Wx h2 c) hp (disj_ok h4)
      refine ⟨.inr s :: keys, ⟨ts, t1, fun σ H Q ⟨τ, own, S, hF⟩ => t2 σ H Q ⟨τ, own, S, Fin.tail Stp.refl app2 (fun r b x hx => bo_mono app2 (b x hx)) hF⟩⟩, ?_, by simpa using e2, by simpa using e3, by simpa using e4⟩
      rw [List.map_cons, e1, flatB_eq h1]
      rfl
    · simp only [Bool.and_eq_true] at h
      obtain ⟨⟨⟨h1, h2⟩, h3⟩, h4⟩ := h
      obtain ⟨keys, hp, e1, e2, e3, e4⟩ := snd_Di as _ _ _ pos sc fa X Wx h3 c
      rename_i s _ _ _ _ _
      obtain ⟨ts, t1, t2⟩ := pdi_cons (key := .inl s) c.ok pe_int (snd_E a _ sc fa X Wx h2 c) hp (disj_ok h4)
      refine ⟨.inl s :: keys, ⟨ts, t1, fun σ H Q ⟨τ, own, S, hF⟩ => t2 σ H Q ⟨τ, own, S, Fin.tail Stp.refl app2 (fun r b x hx => bo_mono app2 (b x hx)) hF⟩⟩, ?_, by simpa using e2, by simpa using e3, by simpa using e4⟩
      rw [List.map_cons, e1, flatB_eq h1]
      rfl
    · cases h
theorem snd_J : ∀ (a : Es) (es : List Expr) (sc : Scope) (fa : Bool) (X : Cx) (Wx : WX), ckEs Γ sc a es = true → Ck W κ k Γ sc fa X Wx → PJv W X Wx (mm (tcEs a)) es (evJ κ a)
  | .nil, es, sc, fa, X, Wx, h, c => by
    rw [evJ_nil]
    simp only [ckEs, List.isEmpty_iff] at h
    subst h
    obtain ⟨ts, t1, t2⟩ := pj_nil (W := W) (X := X) (Wx := Wx)
    exact ⟨ts, t1, fun acc σ H Q ⟨τ, own, S, hF⟩ => t2 acc σ H Q ⟨τ, own, S, Fin.tail Stp.refl noI (fun r b => b) hF⟩⟩
  | .cons a as, es, sc, fa, X, Wx, h, c => by
    rw [evJ_cons]
    simp only [ckEs] at h
    split at h
    · simp only [Bool.and_eq_true] at h
      obtain ⟨⟨⟨h1, h2⟩, h3⟩, h4⟩ := h
      obtain ⟨ts, t1, t2⟩ := pj_cons c.ok (snd_E a _ sc fa X Wx h2 c) (snd_J as _ sc fa X Wx h3 c)
      exact ⟨ts, t1, fun acc σ H Q ⟨τ, own, S, hF⟩ => t2 acc σ H Q ⟨τ, own, S, Fin.tail Stp.refl app2 (fun r b => b) hF⟩⟩
    · cases h
theorem snd_O : ∀ (a : Eo) (e : Option Expr) (sc : Scope) (fa : Bool) (X : Cx) (Wx : WX), ckO Γ sc a e = true → Ck W κ k Γ sc fa X Wx → POv W X Wx (mm (tcO a)) e (evO κ a)
  | .no, e, sc, fa, X, Wx, h, c => by
    rw [evO_no]
    simp only [ckO, Option.isNone_iff_eq_none] at h
    subst h
    exact o_none.mono noI
  | .so a, e, sc, fa, X, Wx, h, c => by
    rw [evO_so]
    simp only [ckO] at h
    split at h
    · exact (o_some (pd_of c.ok (snd_E a _ sc fa X Wx h c))).mono idI
    · cases h
theorem snd_P : ∀ (a : P) (e : Expr) (sc : Scope) (fa : Bool) (X : Cx) (Wx : WX), ckP Γ sc a e = true → Ck W κ k Γ sc fa X Wx → PPv W X Wx (mm (tcP a)) (rootP a) e (evP κ a)
  | .v i, e, sc, fa, X, Wx, h, c => by
    rw [evP_v]
    simp only [ckP] at h
    split at h
    · obtain ⟨s1, s2, s3, s4⟩ := c.slot h
      exact (p_var s1 s2 s3 s4).mono noI
    · cases h
  | .f p f, e, sc, fa, X, Wx, h, c => by
    rw [evP_f]
    simp only [ckP] at h
    split at h
    · simp only [Bool.and_eq_true, decide_eq_true_eq] at h
      obtain ⟨⟨h1, h2⟩, h3⟩ := h
      subst h1
      exact (p_fld c.ok c.wc c.K (snd_P p _ sc fa X Wx h3 c) (base_of h2)).mono idI
    · cases h
  | .x p i, e, sc, fa, X, Wx, h, c => by
    rw [evP_x]
    simp only [ckP] at h
    split at h
    · simp only [Bool.and_eq_true, Bool.not_eq_true'] at h
      obtain ⟨⟨⟨h1, h2⟩, h3⟩, h4⟩ := h
      exact (p_idx c.ok c.K c.u1 (snd_P p _ sc fa X Wx h2 c) (pd_of c.ok (snd_E i _ sc fa X Wx h3 c)) (fun z => by
        have z' : rootP p ∈ tcE i := z
        simp [z'] at h4) (plain_of h1)).mono app2
    · cases h
theorem snd_I : ∀ (a : I) (tg e : Expr) (sc : Scope) (fa : Bool) (X : Cx) (Wx : WX), ckI Γ sc a tg e = true → Ck W κ k Γ sc fa X Wx → PIv W X Wx (mm (tcI a)) (mm (rI a)) tg e (evI κ a)
  | .l a, tg, e, sc, fa, X, Wx, h, c => by
    rw [evI_l]
    simp only [ckI] at h
    exact (i_l c.ok c.K (snd_E a e sc fa X Wx h c)).mono idI idI
  | .rng a, tg, e, sc, fa, X, Wx, h, c => by
    rw [evI_rng]
    simp only [ckI] at h
    split at h
    · simp only [Bool.and_eq_true, decide_eq_true_eq] at h
      obtain ⟨⟨⟨h1, h2⟩, h3⟩, h4⟩ := h
      subst h1
      obtain ⟨f1, f2, f3⟩ := c.free h2
      exact (i_rng f1 f3 (pd_of c.ok (snd_E a _ sc fa X Wx h4 c)) (star_cons h3)).mono idI noI
    · cases h
  | .rng2 a b, tg, e, sc, fa, X, Wx, h, c => by
    rw [evI_rng2]
    simp only [ckI] at h
    split at h
    · simp only [Bool.and_eq_true, decide_eq_true_eq] at h
      obtain ⟨⟨⟨⟨⟨h1, h2⟩, h3⟩, h4⟩, h5⟩, h6⟩ := h
      subst h1
      obtain ⟨f1, f2, f3⟩ := c.free h2
      exact (i_rng2 f1 f3 (pd_of c.ok (snd_E a _ sc fa X Wx h5 c)) (pd_of c.ok (snd_E b _ sc fa X Wx h6 c)) c.ok (by rw [star_cons h3, star_cons h4]; rfl) (by rw [star_cons h4]; rfl)).mono app2 noI
    · cases h
  | .enum a, tg, e, sc, fa, X, Wx, h, c => by
    rw [evI_enum]
    simp only [ckI] at h
    split at h
    · simp only [Bool.and_eq_true, decide_eq_true_eq] at h
      obtain ⟨⟨⟨h1, h2⟩, h3⟩, h4⟩ := h
      subst h1
      obtain ⟨f1, f2, f3⟩ := c.free h2
      exact (i_enum c.ok c.K f1 f3 (snd_E a _ sc fa X Wx h4 c) (star_cons h3)).mono idI idI
    · cases h
  | .zip a b, tg, e, sc, fa, X, Wx, h, c => by
    rw [evI_zip]
    simp only [ckI] at h
    split at h
    · simp only [Bool.and_eq_true, decide_eq_true_eq] at h
      obtain ⟨⟨⟨⟨⟨⟨h1, h2⟩, h3⟩, h4⟩, h5⟩, h6⟩, h7⟩ := h
      subst h1
      obtain ⟨f1, f2, f3⟩ := c.free h2
      exact (i_zip c.ok c.K f1 f3 (snd_E a _ sc fa X Wx h5 c) (snd_E b _ sc fa X Wx h6 c) (disj_ok h7) (star_cons h3) (star_cons h4) (by rw [star_cons h4]; rfl)).mono app2 noI
    · cases h
theorem snd_T : ∀ (a : T) (e : Expr) (sc : Scope) (fa : Bool) (X : Cx) (Wx : WX), ckT Γ sc a e = true → Ck W κ k Γ sc fa X Wx → PTv W X Wx (mm (tcT a)) e (evT κ a) ∧ ∀ op l pos, e = .BoolOp op l pos → PWv W X Wx (mm (tcT a)) e (evT κ a)
  | .yes, e, sc, fa, X, Wx, h, c => by
    simp only [ckT] at h
    cases h
  | .e (.cmp o a b), e, sc, fa, X, Wx, h, c => by
    rw [evT_e]
    rcases ckT_e h with ⟨q1, q2⟩ | ⟨x, op, y, pos, q1, q2, _⟩
    · exact ⟨t_truth c.ok c.K (snd_E (.cmp o a b) e sc fa X Wx q2 c) (test_of q1), fun op l pos z => by rw [z] at q1; cases q1⟩
    · subst q1
      exact ⟨tt_cmp c q2 (fun z hz => snd_E a z sc fa X Wx hz c) (fun z hz => snd_E b z sc fa X Wx hz c), fun _ _ _ z => by cases z⟩
  | .e (.eqo a b), e, sc, fa, X, Wx, h, c => by
    rw [evT_e]
    rcases ckT_e h with ⟨q1, q2⟩ | ⟨x, op, y, pos, q1, q2, _⟩
    · exact ⟨t_truth c.ok c.K (snd_E (.eqo a b) e sc fa X Wx q2 c) (test_of q1), fun op l pos z => by rw [z] at q1; cases q1⟩
    · subst q1
      exact ⟨tt_eqo c q2 (fun z hz => snd_E a z sc fa X Wx hz c) (fun z hz => snd_E b z sc fa X Wx hz c), fun _ _ _ z => by cases z⟩
  | .e (.isN a), e, sc, fa, X, Wx, h, c => by
    rw [evT_e]
    rcases ckT_e h with ⟨q1, q2⟩ | ⟨x, op, y, pos, q1, q2, _⟩
    · exact ⟨t_truth c.ok c.K (snd_E (.isN a) e sc fa X Wx q2 c) (test_of q1), fun op l pos z => by rw [z] at q1; cases q1⟩
    · subst q1
      exact ⟨tt_isN c q2 (fun z hz => snd_E a z sc fa X Wx hz c), fun _ _ _ z => by cases z⟩
  | .e (.isntN a), e, sc, fa, X, Wx, h, c => by
    rw [evT_e]
    rcases ckT_e h with ⟨q1, q2⟩ | ⟨x, op, y, pos, q1, q2, _⟩
    · exact ⟨t_truth c.ok c.K (snd_E (.isntN a) e sc fa X Wx q2 c) (test_of q1), fun op l pos z => by rw [z] at q1; cases q1⟩
    · subst q1
      exact ⟨tt_isntN c q2 (fun z hz => snd_E a z sc fa X Wx hz c), fun _ _ _ z => by cases z⟩
  | .e (.inG neg a ks), e, sc, fa, X, Wx, h, c => by
    rw [evT_e]
    rcases ckT_e h with ⟨q1, q2⟩ | ⟨x, op, y, pos, q1, q2, _⟩
    · exact ⟨t_truth c.ok c.K (snd_E (.inG neg a ks) e sc fa X Wx q2 c) (test_of q1), fun op l pos z => by rw [z] at q1; cases q1⟩
    · subst q1
      exact ⟨tt_inG c q2 (fun z hz => snd_E a z sc fa X Wx hz c), fun _ _ _ z => by cases z⟩
  | .e (.k d), e, sc, fa, X, Wx, h, c => by
    rw [evT_e]
    rcases ckT_e h with ⟨q1, q2⟩ | ⟨x, op, y, pos, q1, q2, q3⟩
    · exact ⟨t_truth c.ok c.K (snd_E (.k d) e sc fa X Wx q2 c) (test_of q1), fun op l pos z => by rw [z] at q1; cases q1⟩
    · cases q3
  | .e (.rd p), e, sc, fa, X, Wx, h, c => by
    rw [evT_e]
    rcases ckT_e h with ⟨q1, q2⟩ | ⟨x, op, y, pos, q1, q2, q3⟩
    · exact ⟨t_truth c.ok c.K (snd_E (.rd p) e sc fa X Wx q2 c) (test_of q1), fun op l pos z => by rw [z] at q1; cases q1⟩
    · cases q3
  | .e (.mv i), e, sc, fa, X, Wx, h, c => by
    rw [evT_e]
    rcases ckT_e h with ⟨q1, q2⟩ | ⟨x, op, y, pos, q1, q2, q3⟩
    · exact ⟨t_truth c.ok c.K (snd_E (.mv i) e sc fa X Wx q2 c) (test_of q1), fun op l pos z => by rw [z] at q1; cases q1⟩
    · cases q3
  | .e (.kd ks vs), e, sc, fa, X, Wx, h, c => by
    rw [evT_e]
    rcases ckT_e h with ⟨q1, q2⟩ | ⟨x, op, y, pos, q1, q2, q3⟩
    · exact ⟨t_truth c.ok c.K (snd_E (.kd ks vs) e sc fa X Wx q2 c) (test_of q1), fun op l pos z => by rw [z] at q1; cases q1⟩
    · cases q3
  | .e (.idxG i ks vs), e, sc, fa, X, Wx, h, c => by
    rw [evT_e]
    rcases ckT_e h with ⟨q1, q2⟩ | ⟨x, op, y, pos, q1, q2, q3⟩
    · exact ⟨t_truth c.ok c.K (snd_E (.idxG i ks vs) e sc fa X Wx q2 c) (test_of q1), fun op l pos z => by rw [z] at q1; cases q1⟩
    · cases q3
  | .e (.bin o a b), e, sc, fa, X, Wx, h, c => by
    rw [evT_e]
    rcases ckT_e h with ⟨q1, q2⟩ | ⟨x, op, y, pos, q1, q2, q3⟩
    · exact ⟨t_truth c.ok c.K (snd_E (.bin o a b) e sc fa X Wx q2 c) (test_of q1), fun op l pos z => by rw [z] at q1; cases q1⟩
    · cases q3
  | .e (.chain o o' a b d), e, sc, fa, X, Wx, h, c => by
    rw [evT_e]
    rcases ckT_e h with ⟨q1, q2⟩ | ⟨x, op, y, pos, q1, q2, q3⟩
    · exact ⟨t_truth c.ok c.K (snd_E (.chain o o' a b d) e sc fa X Wx q2 c) (test_of q1), fun op l pos z => by rw [z] at q1; cases q1⟩
    · subst q1
      exact ⟨tt_chain c q2 (fun z hz => snd_E a z sc fa X Wx hz c) (fun z hz => snd_E b z sc fa X Wx hz c) (fun z hz => snd_E d z sc fa X Wx hz c), fun _ _ _ z => by cases z⟩
  | .e (.and a b), e, sc, fa, X, Wx, h, c => by
    rw [evT_e]
    rcases ckT_e h with ⟨q1, q2⟩ | ⟨x, op, y, pos, q1, q2, q3⟩
    · exact ⟨t_truth c.ok c.K (snd_E (.and a b) e sc fa X Wx q2 c) (test_of q1), fun op l pos z => by rw [z] at q1; cases q1⟩
    · cases q3
  | .e (.or a b), e, sc, fa, X, Wx, h, c => by
    rw [evT_e]
    rcases ckT_e h with ⟨q1, q2⟩ | ⟨x, op, y, pos, q1, q2, q3⟩
    · exact ⟨t_truth c.ok c.K (snd_E (.or a b) e sc fa X Wx q2 c) (test_of q1), fun op l pos z => by rw [z] at q1; cases q1⟩
    · cases q3
  | .e (.not a), e, sc, fa, X, Wx, h, c => by
    rw [evT_e]
    rcases ckT_e h with ⟨q1, q2⟩ | ⟨x, op, y, pos, q1, q2, q3⟩
    · exact ⟨t_truth c.ok c.K (snd_E (.not a) e sc fa X Wx q2 c) (test_of q1), fun op l pos z => by rw [z] at q1; cases q1⟩
    · cases q3
  | .e (.ife t a b), e, sc, fa, X, Wx, h, c => by
    rw [evT_e]
    rcases ckT_e h with ⟨q1, q2⟩ | ⟨x, op, y, pos, q1, q2, q3⟩
    · exact ⟨t_truth c.ok c.K (snd_E (.ife t a b) e sc fa X Wx q2 c) (test_of q1), fun op l pos z => by rw [z] at q1; cases q1⟩
    · cases q3
  | .e (.tup es), e, sc, fa, X, Wx, h, c => by
    rw [evT_e]
    rcases ckT_e h with ⟨q1, q2⟩ | ⟨x, op, y, pos, q1, q2, q3⟩
    · exact ⟨t_truth c.ok c.K (snd_E (.tup es) e sc fa X Wx q2 c) (test_of q1), fun op l pos z => by rw [z] at q1; cases q1⟩
    · cases q3
  | .e (.lst es), e, sc, fa, X, Wx, h, c => by
    rw [evT_e]
    rcases ckT_e h with ⟨q1, q2⟩ | ⟨x, op, y, pos, q1, q2, q3⟩
    · exact ⟨t_truth c.ok c.K (snd_E (.lst es) e sc fa X Wx q2 c) (test_of q1), fun op l pos z => by rw [z] at q1; cases q1⟩
    · cases q3
  | .e (.dic ks vs), e, sc, fa, X, Wx, h, c => by
    rw [evT_e]
    rcases ckT_e h with ⟨q1, q2⟩ | ⟨x, op, y, pos, q1, q2, q3⟩
    · exact ⟨t_truth c.ok c.K (snd_E (.dic ks vs) e sc fa X Wx q2 c) (test_of q1), fun op l pos z => by rw [z] at q1; cases q1⟩
    · cases q3
  | .e (.idx a i), e, sc, fa, X, Wx, h, c => by
    rw [evT_e]
    rcases ckT_e h with ⟨q1, q2⟩ | ⟨x, op, y, pos, q1, q2, q3⟩
    · exact ⟨t_truth c.ok c.K (snd_E (.idx a i) e sc fa X Wx q2 c) (test_of q1), fun op l pos z => by rw [z] at q1; cases q1⟩
    · cases q3
  | .e (.fld a f), e, sc, fa, X, Wx, h, c => by
    rw [evT_e]
    rcases ckT_e h with ⟨q1, q2⟩ | ⟨x, op, y, pos, q1, q2, q3⟩
    · exact ⟨t_truth c.ok c.K (snd_E (.fld a f) e sc fa X Wx q2 c) (test_of q1), fun op l pos z => by rw [z] at q1; cases q1⟩
    · cases q3
  | .e (.sli a lo hi), e, sc, fa, X, Wx, h, c => by
    rw [evT_e]
    rcases ckT_e h with ⟨q1, q2⟩ | ⟨x, op, y, pos, q1, q2, q3⟩
    · exact ⟨t_truth c.ok c.K (snd_E (.sli a lo hi) e sc fa X Wx q2 c) (test_of q1), fun op l pos z => by rw [z] at q1; cases q1⟩
    · cases q3
  | .e (.rev a), e, sc, fa, X, Wx, h, c => by
    rw [evT_e]
    rcases ckT_e h with ⟨q1, q2⟩ | ⟨x, op, y, pos, q1, q2, q3⟩
    · exact ⟨t_truth c.ok c.K (snd_E (.rev a) e sc fa X Wx q2 c) (test_of q1), fun op l pos z => by rw [z] at q1; cases q1⟩
    · cases q3
  | .e (.lc own tg it t a), e, sc, fa, X, Wx, h, c => by
    rw [evT_e]
    rcases ckT_e h with ⟨q1, q2⟩ | ⟨x, op, y, pos, q1, q2, q3⟩
    · exact ⟨t_truth c.ok c.K (snd_E (.lc own tg it t a) e sc fa X Wx q2 c) (test_of q1), fun op l pos z => by rw [z] at q1; cases q1⟩
    · cases q3
  | .e (.dc own tg it t a b), e, sc, fa, X, Wx, h, c => by
    rw [evT_e]
    rcases ckT_e h with ⟨q1, q2⟩ | ⟨x, op, y, pos, q1, q2, q3⟩
    · exact ⟨t_truth c.ok c.K (snd_E (.dc own tg it t a b) e sc fa X Wx q2 c) (test_of q1), fun op l pos z => by rw [z] at q1; cases q1⟩
    · cases q3
  | .e (.call f as), e, sc, fa, X, Wx, h, c => by
    rw [evT_e]
    rcases ckT_e h with ⟨q1, q2⟩ | ⟨x, op, y, pos, q1, q2, q3⟩
    · exact ⟨t_truth c.ok c.K (snd_E (.call f as) e sc fa X Wx q2 c) (test_of q1), fun op l pos z => by rw [z] at q1; cases q1⟩
    · cases q3
  | .e (.callf i as), e, sc, fa, X, Wx, h, c => by
    rw [evT_e]
    rcases ckT_e h with ⟨q1, q2⟩ | ⟨x, op, y, pos, q1, q2, q3⟩
    · exact ⟨t_truth c.ok c.K (snd_E (.callf i as) e sc fa X Wx q2 c) (test_of q1), fun op l pos z => by rw [z] at q1; cases q1⟩
    · cases q3
  | .e (.callc i as), e, sc, fa, X, Wx, h, c => by
    rw [evT_e]
    rcases ckT_e h with ⟨q1, q2⟩ | ⟨x, op, y, pos, q1, q2, q3⟩
    · exact ⟨t_truth c.ok c.K (snd_E (.callc i as) e sc fa X Wx q2 c) (test_of q1), fun op l pos z => by rw [z] at q1; cases q1⟩
    · cases q3
  | .e (.calll f as l is), e, sc, fa, X, Wx, h, c => by
    rw [evT_e]
    rcases ckT_e h with ⟨q1, q2⟩ | ⟨x, op, y, pos, q1, q2, q3⟩
    · exact ⟨t_truth c.ok c.K (snd_E (.calll f as l is) e sc fa X Wx q2 c) (test_of q1), fun op l pos z => by rw [z] at q1; cases q1⟩
    · cases q3
  | .e (.methl m o l is), e, sc, fa, X, Wx, h, c => by
    rw [evT_e]
    rcases ckT_e h with ⟨q1, q2⟩ | ⟨x, op, y, pos, q1, q2, q3⟩
    · exact ⟨t_truth c.ok c.K (snd_E (.methl m o l is) e sc fa X Wx q2 c) (test_of q1), fun op l pos z => by rw [z] at q1; cases q1⟩
    · cases q3
  | .e (.make n as), e, sc, fa, X, Wx, h, c => by
    rw [evT_e]
    rcases ckT_e h with ⟨q1, q2⟩ | ⟨x, op, y, pos, q1, q2, q3⟩
    · exact ⟨t_truth c.ok c.K (snd_E (.make n as) e sc fa X Wx q2 c) (test_of q1), fun op l pos z => by rw [z] at q1; cases q1⟩
    · cases q3
  | .e (.makes n a), e, sc, fa, X, Wx, h, c => by
    rw [evT_e]
    rcases ckT_e h with ⟨q1, q2⟩ | ⟨x, op, y, pos, q1, q2, q3⟩
    · exact ⟨t_truth c.ok c.K (snd_E (.makes n a) e sc fa X Wx q2 c) (test_of q1), fun op l pos z => by rw [z] at q1; cases q1⟩
    · cases q3
  | .e (.meth m o as), e, sc, fa, X, Wx, h, c => by
    rw [evT_e]
    rcases ckT_e h with ⟨q1, q2⟩ | ⟨x, op, y, pos, q1, q2, q3⟩
    · exact ⟨t_truth c.ok c.K (snd_E (.meth m o as) e sc fa X Wx q2 c) (test_of q1), fun op l pos z => by rw [z] at q1; cases q1⟩
    · cases q3
  | .e (.isi a t), e, sc, fa, X, Wx, h, c => by
    rw [evT_e]
    rcases ckT_e h with ⟨q1, q2⟩ | ⟨x, op, y, pos, q1, q2, q3⟩
    · exact ⟨t_truth c.ok c.K (snd_E (.isi a t) e sc fa X Wx q2 c) (test_of q1), fun op l pos z => by rw [z] at q1; cases q1⟩
    · cases q3
  | .e (.bi b as), e, sc, fa, X, Wx, h, c => by
    rw [evT_e]
    rcases ckT_e h with ⟨q1, q2⟩ | ⟨x, op, y, pos, q1, q2, q3⟩
    · exact ⟨t_truth c.ok c.K (snd_E (.bi b as) e sc fa X Wx q2 c) (test_of q1), fun op l pos z => by rw [z] at q1; cases q1⟩
    · cases q3
  | .e (.mi m o as), e, sc, fa, X, Wx, h, c => by
    rw [evT_e]
    rcases ckT_e h with ⟨q1, q2⟩ | ⟨x, op, y, pos, q1, q2, q3⟩
    · exact ⟨t_truth c.ok c.K (snd_E (.mi m o as) e sc fa X Wx q2 c) (test_of q1), fun op l pos z => by rw [z] at q1; cases q1⟩
    · cases q3
  | .e (.fstr es), e, sc, fa, X, Wx, h, c => by
    rw [evT_e]
    rcases ckT_e h with ⟨q1, q2⟩ | ⟨x, op, y, pos, q1, q2, q3⟩
    · exact ⟨t_truth c.ok c.K (snd_E (.fstr es) e sc fa X Wx q2 c) (test_of q1), fun op l pos z => by rw [z] at q1; cases q1⟩
    · cases q3
  | .e (.fz a), e, sc, fa, X, Wx, h, c => by
    rw [evT_e]
    rcases ckT_e h with ⟨q1, q2⟩ | ⟨x, op, y, pos, q1, q2, q3⟩
    · exact ⟨t_truth c.ok c.K (snd_E (.fz a) e sc fa X Wx q2 c) (test_of q1), fun op l pos z => by rw [z] at q1; cases q1⟩
    · cases q3
  | .e (.ow a), e, sc, fa, X, Wx, h, c => by
    rw [evT_e]
    rcases ckT_e h with ⟨q1, q2⟩ | ⟨x, op, y, pos, q1, q2, q3⟩
    · exact ⟨t_truth c.ok c.K (snd_E (.ow a) e sc fa X Wx q2 c) (test_of q1), fun op l pos z => by rw [z] at q1; cases q1⟩
    · cases q3
  | .e (.cat a b), e, sc, fa, X, Wx, h, c => by
    rw [evT_e]
    rcases ckT_e h with ⟨q1, q2⟩ | ⟨x, op, y, pos, q1, q2, q3⟩
    · exact ⟨t_truth c.ok c.K (snd_E (.cat a b) e sc fa X Wx q2 c) (test_of q1), fun op l pos z => by rw [z] at q1; cases q1⟩
    · cases q3
  | .and a b, e, sc, fa, X, Wx, h, c => by
    rw [evT_and]
    simp only [ckT] at h
    split at h
    · simp only [Bool.and_eq_true] at h
      rename_i x y pos
      have q := (t_and (pos := pos) (snd_T a _ sc fa X Wx h.1 c).1 (t_and1 (snd_T b _ sc fa X Wx h.2 c).1)).mono (tc' := mm (tcT (.and a b))) app2
      exact ⟨q.pt, fun _ _ _ _ => q⟩
    · simp only [Bool.and_eq_true] at h
      have q := (t_and (snd_T a _ sc fa X Wx h.1 c).1 ((snd_T b _ sc fa X Wx h.2 c).2 _ _ _ rfl)).mono (tc' := mm (tcT (.and a b))) app2
      exact ⟨q.pt, fun _ _ _ _ => q⟩
    · cases h
  | .or a b, e, sc, fa, X, Wx, h, c => by
    rw [evT_or]
    simp only [ckT] at h
    split at h
    · simp only [Bool.and_eq_true] at h
      rename_i x y pos
      have q := (t_or (pos := pos) (snd_T a _ sc fa X Wx h.1 c).1 (t_or1 (snd_T b _ sc fa X Wx h.2 c).1)).mono (tc' := mm (tcT (.or a b))) app2
      exact ⟨q.pt, fun _ _ _ _ => q⟩
    · simp only [Bool.and_eq_true] at h
      have q := (t_or (snd_T a _ sc fa X Wx h.1 c).1 ((snd_T b _ sc fa X Wx h.2 c).2 _ _ _ rfl)).mono (tc' := mm (tcT (.or a b))) app2
      exact ⟨q.pt, fun _ _ _ _ => q⟩
    · cases h
  | .not a, e, sc, fa, X, Wx, h, c => by
    rw [evT_not]
    simp only [ckT] at h
    split at h
    · exact ⟨(t_not (snd_T a _ sc fa X Wx h c).1).mono idI, fun _ _ _ z => by cases z⟩
    · cases h
end
end
end DE
end
section
set_option Elab.async false
set_option linter.all false
set_option maxRecDepth 100000
set_option maxHeartbeats 16000000
/-! DE45: the look at statements. -/
namespace DE
open PySem L2

/-- where a lambda stands -/
structure LaSite where
  l : Nat
  is : List Nat
  params : Arguments
  body : Expr
  scope : Scope
def laL (l : Nat) (is : List Nat) : List Expr → List LaSite
  | [] => []
  | [e] => (match e with
    | .Lambda p b s _ => [⟨l, is, p, b, s⟩]
    | _ => [])
  | _ :: es => laL l is es
def laX : E → Expr → List LaSite
  | .calll _ _ l is, e => (match e with
    | .Call _ xs _ _ => laL l is xs
    | _ => [])
  | .methl _ _ l is, e => (match e with
    | .Call _ xs _ _ => laL l is xs
    | _ => [])
  | .fz a, e => laX a e
  | _, _ => []
mutual
def laS : S → Stmt → List LaSite
  | .asg _ e, .Assign _ v _ => laX e v
  | .ex e, .Expr v _ => laX e v
  | .ret e, .Return (some v) _ => laX e v
  | .ife _ a b, .If _ x y _ => laSs a x ++ laSs b y
  | .for _ _ b, .For _ _ x _ _ => laSs b x
  | .while _ b, .While _ x _ _ => laSs b x
  | .try b _, .Try x _ _ _ _ => laSs b x
  | _, _ => []
def laSs : Ss → List Stmt → List LaSite
  | .nil, _ => []
  | .cons s ss, sts => (match s with
    | .fz _ => laSs ss sts
    | .kill _ => laSs ss sts
    | _ => (match sts with
      | st :: sts => laS s st ++ laSs ss sts
      | [] => []))
end
/-! ### which slots -/
def hdTc : Hd → List Nat
  | .asg i _ => [i]
  | .setX p _ _ => [rootP p]
def hdAg : Hd → List Nat
  | .asg i _ => [i]
  | .setX _ _ _ => []
def hsTc : Hs → List Nat
  | .nil => []
  | .cons _ h hs => hdTc h ++ hsTc hs
  | .as _ _ h hs => hdTc h ++ hsTc hs
def hsAg : Hs → List Nat
  | .nil => []
  | .cons _ h hs => hdAg h ++ hsAg hs
  | .as _ i h hs => hdAg h ++ ([i] ++ hsAg hs)
mutual
def tcS : S → List Nat
  | .asg i e => tcE e ++ [i]
  | .asgT tg e => tcE e ++ tgL tg
  | .par i j as => tcEs as ++ [i, j]
  | .setF p _ e => tcE e ++ (tcP p ++ [rootP p])
  | .setX p i e => tcE e ++ (tcP p ++ (tcE i ++ [rootP p]))
  | .aug i e => tcE e ++ [i]
  | .augF p _ e => tcP p ++ (tcE e ++ [rootP p])
  | .ex e => tcE e
  | .ife t a b => tcT t ++ (tcSs a ++ tcSs b)
  | .for tg it b => tcI it ++ (tgL tg ++ tcSs b)
  | .while t b => tcT t ++ tcSs b
  | .ret e => tcE e
  | .retN => []
  | .raise _ as => tcEs as
  | .try b hs => tcSs b ++ hsTc hs
  | .pass => []
  | .brk => []
  | .cont => []
  | .fz i => [i]
  | .kill i => [i]
def tcSs : Ss → List Nat
  | .nil => []
  | .cons s ss => tcS s ++ tcSs ss
end
mutual
def agS : S → List Nat
  | .asg i _ => [i]
  | .asgT tg _ => nmL tg
  | .par i j _ => [i, j]
  | .aug i _ => [i]
  | .ife _ a b => agSs a ++ agSs b
  | .for tg _ b => nmL tg ++ agSs b
  | .while _ b => agSs b
  | .try b hs => agSs b ++ hsAg hs
  | _ => []
def agSs : Ss → List Nat
  | .nil => []
  | .cons s ss => agS s ++ agSs ss
end
/-! ### the look -/
def constB (d : D) (e : Expr) : Bool := match e with
  | .Constant .none _ _ => flatB d .non
  | .Constant (.bool b) _ _ => flatB d (.bl b)
  | .Constant (.int i) _ _ => flatB d (.int i)
  | .Constant (.str s) _ _ => flatB d (.str s)
  | .UnaryOp .USub (.Constant (.int i) _ _) _ => flatB d (.int (-i))
  | _ => false
section
variable (Γ : Gm)
/-- a lambda as the last of the arguments -/
def ckL (sc : Scope) : Es → List Expr → Bool
  | .nil, xs => (match xs with
    | [.Lambda _ _ _ _] => true
    | _ => false)
  | .cons a as, xs => (match xs with
    | x :: xs => notStar x && ckE Γ sc a x && ckL sc as xs
    | [] => false)
def ckX (sc : Scope) : E → Expr → Bool
  | .calll f as _ _, e => match e with
    | .Call (.Name x _) xs [] _ => (match glb Γ sc x with
      | some (.fn g) => decide (f = g)
      | _ => false) && ckL Γ sc as xs
    | _ => false
  | .methl m o _ _, e => match e with
    | .Call (.Attribute y n ap) [.Lambda _ _ _ _] [] pos => decide (m = n) && notSup y && (ap.endLine == pos.line) && ckE Γ sc o y
    | _ => false
  | .fz a, e => ckX sc a e
  | a, e => ckE Γ sc a e
/-- x = [..] on one line -/
def lcB (sc : Scope) (e : E) (y : Str) (py : Pos) (v : Expr) : Bool := match e, v with
  | .lc _ _ _ _ _, .ListComp _ [⟨_, _, _, 0⟩] scope pos => decide (sc.kind = .function) && decide (sc.names.lookup y = some .local) && (py.line == pos.line) && !(scope.names.any fun (n, k) => n == y && (k == .local || k == .cell))
  | _, _ => false
def ckHe : He → Expr → Bool
  | .k d, e => constB d e
  | _, _ => false
/-- an except suite -/
def ckHd (sc : Scope) (fa : Bool) : Hd → List Stmt → Bool
  | .asg i h, sts => match sts with
    | [.Assign [.Name y _] e _] => storB Γ sc fa i y && notComp e && ckHe h e
    | _ => false
  | .setX _ _ _, _ => false
/-- what an except suite with a name may store -/
def ckHx (sc : Scope) (i c : Nat) (xfl : Nat → List Str) : He → Expr → Bool
  | .k d, e => constB d e
  | .xf f, e => match e with
    | .Attribute (.Name y _) n _ => slotB Γ sc i y && decide ((xfl c)[f]? = some n)
    | _ => false
  | _, _ => false
def ckHxs (sc : Scope) (i c : Nat) (xfl : Nat → List Str) : List He → List Expr → Bool
  | [], es => es.isEmpty
  | h :: hs, es => match es with
    | e :: es => notStar e && ckHx Γ sc i c xfl h e && ckHxs sc i c xfl hs es
    | [] => false
def ckHdA (sc : Scope) (fa : Bool) (i c : Nat) (xfl : Nat → List Str) : Hd → List Stmt → Bool
  | .asg j h, sts => match sts with
    | [.Assign [.Name y _] e _] => storB Γ sc fa j y && notComp e && !(j == i) && (match h, e with
      | .tup hs, .Tuple es _ _ => decide (hs.length ≤ 1000) && ckHxs Γ sc i c xfl hs es
      | h, e => ckHx Γ sc i c xfl h e)
    | _ => false
  | .setX _ _ _, _ => false
variable (xfl : Nat → List Str)
mutual
def ckS (sc : Scope) (fa : Bool) : S → Stmt → Bool
  | .asg i e, st => match st with
    | .Assign [.Name y py] v pos => (lcB sc e y py v && ckE Γ sc e v && decide (Γ.N[i]? = some y)) || (storB Γ sc fa i y && ckX Γ sc e v && (notComp v || !decide (sc.names.lookup y = some .local)))
    | _ => false
  | .asgT tg e, st => match st with
    | .Assign [t] v _ => notStar t && ckTg Γ sc fa tg t && ckE Γ sc e v && notTup v && notComp v
    | _ => false
  | .par i j as, st => match st with
    | .Assign [.Tuple [.Name x px, .Name y py] _ _] (.Tuple [a, b] _ _) _ => parB sc x px y py a b && decide (Γ.N[i]? = some x) && decide (Γ.N[j]? = some y) && !(i == j) && ckEs Γ sc as [a, b]
    | _ => false
  | .setF p f e, st => match st with
    | .Assign [.Attribute o g _] v _ => decide (f = g) && ckE Γ sc e v && ckP Γ sc p o && Γ.fl.contains f
    | _ => false
  | .setX p i e, st => match st with
    | .Assign [.Subscript o k _] v _ => ckE Γ sc e v && ckP Γ sc p o && ckE Γ sc i k && !(tcE i).contains (rootP p)
    | _ => false
  | .aug i e, st => match st with
    | .AugAssign (.Name y _) .Add v _ => storB Γ sc fa i y && ckE Γ sc e v
    | _ => false
  | .augF p f e, st => match st with
    | .AugAssign (.Attribute o g _) .Add v _ => decide (f = g) && ckE Γ sc e v && ckP Γ sc p o && Γ.fl.contains f && !(tcE e).contains (rootP p)
    | _ => false
  | .ex e, st => match st with
    | .Expr v _ => ckX Γ sc e v && notComp v
    | _ => false
  | .ife t a b, st => match st with
    | .If c x y _ => ckT Γ sc t c && ckSs sc fa a x && ckSs sc fa b y
    | _ => false
  | .for tg it b, st => match st with
    | .For t i x [] _ => ckTg Γ sc fa tg t && ckI Γ sc it t i && notSet i && ckSs sc fa b x && disj (rI it) (tgL tg ++ tcSs b)
    | _ => false
  | .while t b, st => match st with
    | .While c x [] _ => ckT Γ sc t c && ckSs sc fa b x
    | _ => false
  | .ret e, st => match st with
    | .Return (some v) _ => ckX Γ sc e v
    | _ => false
  | .retN, st => match st with
    | .Return none _ => true
    | _ => false
  | .raise n as, st => match st with
    | .Raise (some (.Call (.Name x _) xs [] _)) none _ => (match glb Γ sc x with
      | some (.exc m own) => decide (n = m) && (if own then !xs.isEmpty else xs.isEmpty)
      | _ => false) && ckEs Γ sc as xs
    | _ => false
  | .try b hs, st => match hs, st with
    | .cons c h .nil, .Try x [.ExceptHandler (some (.Name y _)) none su _] [] [] _ => (match glb Γ sc y with
      | some (.exc m _) => decide (c = m)
      | _ => false) && ckSs sc fa b x && ckHd Γ sc fa h su
    | .as c i h .nil, .Try x [.ExceptHandler (some (.Name y _)) (some n) su _] [] [] _ => (match glb Γ sc y with
      | some (.exc m _) => decide (c = m)
      | _ => false) && decide (Γ.N[i]? = some n) && decide (sc.names.lookup n = some .local) && ckSs sc fa b x && ckHdA Γ sc fa i c xfl h su
    | _, _ => false
  | .pass, st => match st with
    | .Pass _ => true
    | _ => false
  | .brk, st => match st with
    | .Break _ => true
    | _ => false
  | .cont, st => match st with
    | .Continue _ => true
    | _ => false
  | .fz _, _ => false
  | .kill _, _ => false
def ckSs (sc : Scope) (fa : Bool) : Ss → List Stmt → Bool
  | .nil, sts => sts.isEmpty
  | .cons s ss, sts => (match s with
    | .fz _ => ckSs sc fa ss sts
    | .kill _ => ckSs sc fa ss sts
    | _ => (match sts with
      | st :: sts => ckS sc fa s st && ckSs sc fa ss sts
      | [] => false))
end
end
end DE
end
section
set_option Elab.async false
set_option linter.all false
set_option maxRecDepth 100000
set_option maxHeartbeats 16000000
/-! DE46: .. the soundness of a statement's look. -/
namespace DE
open PySem L2
section
variable {W : Wd} {κ : Kx} {k : Nat} {Γ : Gm} {xfl : Nat → List Str} {sc : Scope} {fa : Bool}
structure Cs (W : Wd) (κ : Kx) (k : Nat) (Γ : Gm) (xfl : Nat → List Str) (sc : Scope) (fa : Bool) (X : Cx) (Wx : WX) : Prop where
  c : Ck W κ k Γ sc fa X Wx
  pass : PassesOwn (model X.prog X.w) X.A X.env X.xe
  st : X.stack = X.env :: X.outer
  fr : X.env.frame = some X.env.locals
  xf : xfl = W.xfl
theorem Cs.tr {X : Cx} {Wx Wy : WX} {pn : List (Addr × Obj)} {xe : Value → Shared → Prop} (h : Cs W κ k Γ xfl sc fa X Wx) (tk : Takes (X.tr pn xe) Wy) (ps : PassesOwn (model X.prog X.w) X.A X.env xe) : Cs W κ k Γ xfl sc fa (X.tr pn xe) Wy :=
  ⟨⟨h.c.N, h.c.nd, h.c.sc_, h.c.K, h.c.ok, h.c.wc, h.c.room, h.c.calm, tk, h.c.fn_, h.c.g.cast rfl rfl rfl rfl rfl⟩, ps, h.st, h.fr, h.xf⟩
def LaOk (W : Wd) (Γ : Gm) (X : Cx) (q : LaSite) : Prop := ∃ L : LamI, Γ.lams q.l = some L ∧ L.params = q.params ∧ L.body = q.body ∧ L.scope = q.scope ∧ L.is = q.is ∧ LamAt X W L
theorem LaOk.tr {X : Cx} {pn : List (Addr × Obj)} {xe : Value → Shared → Prop} {q : LaSite} (h : LaOk W Γ X q) : LaOk W Γ (X.tr pn xe) q := by
  obtain ⟨L, h1, h2, h3, h4, h5, h6⟩ := h
  exact ⟨L, h1, h2, h3, h4, h5, ⟨h6.tab, h6.q, h6.df, h6.free, h6.frs, h6.frk, h6.at_, h6.fn⟩⟩
theorem k_any {Y : Cx} {Wx : WX} {d : D} {e : Expr} (h : constB d e = true) : PEv W Y Wx nob nob e (fun τ => .ok (.pu d) τ) := by
  unfold constB at h
  split at h
  · rw [flatB_eq h]
    exact v_non
  · rw [flatB_eq h]
    exact v_bl
  · rw [flatB_eq h]
    exact v_int
  · rw [flatB_eq h]
    exact v_str
  · rw [flatB_eq h]
    exact v_neg
  · cases h
theorem snd_L {X : Cx} {Wx : WX} {l : Nat} {is : List Nat} (c : Ck W κ k Γ sc fa X Wx) : ∀ (as : Es) (xs : List Expr), ckL Γ sc as xs = true → (∀ q ∈ laL l is xs, LaOk W Γ X q) →
    ∃ L, Γ.lams l = some L ∧ LamAt X W L ∧ L.is = is ∧ PLv W X Wx L (mm (tcEs as)) xs (evL κ is as)
  | .nil, xs, h, hq => by
    simp only [ckL] at h
    split at h
    · rename_i p b s pos
      obtain ⟨L, h1, h2, h3, h4, h5, h6⟩ := hq ⟨l, is, p, b, s⟩ (by simp [laL])
      dsimp only at h1 h2 h3 h4 h5
      refine ⟨L, h1, h6, h5, ?_⟩
      subst h2 h3 h4 h5
      rw [evL_nil]
      exact (pl_last (v_lam (pos := pos) c.ok h6) rfl).mono noI
    · cases h
  | .cons a as, xs, h, hq => by
    simp only [ckL] at h
    split at h
    · rename_i x xs
      simp only [Bool.and_eq_true] at h
      obtain ⟨⟨h1, h2⟩, h3⟩ := h
      have hq' : ∀ q ∈ laL l is xs, LaOk W Γ X q := fun q hm => hq q (by
        cases xs with
        | nil => cases hm
        | cons y ys => exact hm)
      obtain ⟨L, g1, g2, g3, g4⟩ := snd_L c as xs h3 hq'
      refine ⟨L, g1, g2, g3, ?_⟩
      rw [evL_cons]
      exact (pl_cons c.ok (snd_E a x sc fa X Wx h2 c) g4 (star_cons h1)).mono app2
    · cases h
theorem ckL_star : ∀ {as : Es} {xs : List Expr}, ckL Γ sc as xs = true → xs.all notStar = true ∧ xs ≠ []
  | .nil, xs, h => by
    simp only [ckL] at h
    split at h
    · exact ⟨rfl, by simp⟩
    · cases h
  | .cons a as, xs, h => by
    simp only [ckL] at h
    split at h
    · simp only [Bool.and_eq_true] at h
      exact ⟨by simp only [List.all_cons, h.1.1, (ckL_star h.2).1, Bool.and_self], by simp⟩
    · cases h
theorem snd_X {X : Cx} {Wx : WX} (c : Ck W κ k Γ sc fa X Wx) : ∀ (a : E) (e : Expr), ckX Γ sc a e = true → (∀ q ∈ laX a e, LaOk W Γ X q) → PEv W X Wx (mm (tcE a)) (mm (rE a)) e (ev κ a)
  | .calll f as l is, e, h, hq => by
    simp only [ckX] at h
    split at h
    · rename_i x p1 xs pos
      simp only [Bool.and_eq_true] at h
      obtain ⟨h1, h2⟩ := h
      split at h1
      · rename_i q
        simp only [decide_eq_true_eq] at h1
        subst h1
        obtain ⟨g1, g2, g3, g4, g5, g6⟩ := c.glb q
        obtain ⟨L, l1, l2, l3, l4⟩ := snd_L (l := l) (is := is) c as xs h2 hq
        obtain ⟨s1, s2⟩ := ckL_star h2
        rw [ev_calll]
        cases xs with
        | nil => exact (s2 rfl).elim
        | cons y ys =>
          simp only [List.all_cons, Bool.and_eq_true] at s1
          exact (v_calll c.ok c.g.lamW l1 l2 g5 c.hr c.tk g1 g3 g4 l4 g2 (star_cons s1.1) (star_none s1.2)).mono idI noI
      · cases h1
    · cases h
  | .methl m o l is, e, h, hq => by
    simp only [ckX] at h
    split at h
    · rename_i y n ap p b s lp pos
      simp only [Bool.and_eq_true, decide_eq_true_eq] at h
      obtain ⟨⟨⟨h1, h2⟩, h3⟩, h4⟩ := h
      subst h1
      obtain ⟨L, l1, l2, l3, l4, l5, l6⟩ := hq ⟨l, is, p, b, s⟩ (by simp [laX, laL])
      dsimp only at l1 l2 l3 l4 l5
      subst l2 l3 l4 l5
      rw [ev_methl]
      exact (v_methl c.ok c.g.lamW l1 l6 (c.g.meth m) c.hr c.tk (snd_E o y sc fa X Wx h4 c) rfl (mtree_of (base_of h2) rfl (by simp) h3) rfl rfl).mono idI noI
    · cases h
  | .fz a, e, h, hq => by
    simp only [ckX] at h
    rw [ev_fz]
    exact (v_fz c.ok (snd_X c a e h hq)).mono idI noI
  | .k d, e, h, _ => snd_E _ _ _ _ _ _ (by simpa [ckX] using h) c
  | .rd d, e, h, _ => snd_E _ _ _ _ _ _ (by simpa [ckX] using h) c
  | .mv _, e, h, _ => snd_E _ _ _ _ _ _ (by simpa [ckX] using h) c
  | .kd _ _, e, h, _ => snd_E _ _ _ _ _ _ (by simpa [ckX] using h) c
  | .inG _ _ _, e, h, _ => snd_E _ _ _ _ _ _ (by simpa [ckX] using h) c
  | .idxG _ _ _, e, h, _ => snd_E _ _ _ _ _ _ (by simpa [ckX] using h) c
  | .bin _ _ _, e, h, _ => snd_E _ _ _ _ _ _ (by simpa [ckX] using h) c
  | .cmp _ _ _, e, h, _ => snd_E _ _ _ _ _ _ (by simpa [ckX] using h) c
  | .eqo _ _, e, h, _ => snd_E _ _ _ _ _ _ (by simpa [ckX] using h) c
  | .chain _ _ _ _ _, e, h, _ => snd_E _ _ _ _ _ _ (by simpa [ckX] using h) c
  | .isN _, e, h, _ => snd_E _ _ _ _ _ _ (by simpa [ckX] using h) c
  | .isntN _, e, h, _ => snd_E _ _ _ _ _ _ (by simpa [ckX] using h) c
  | .and _ _, e, h, _ => snd_E _ _ _ _ _ _ (by simpa [ckX] using h) c
  | .or _ _, e, h, _ => snd_E _ _ _ _ _ _ (by simpa [ckX] using h) c
  | .not _, e, h, _ => snd_E _ _ _ _ _ _ (by simpa [ckX] using h) c
  | .ife _ _ _, e, h, _ => snd_E _ _ _ _ _ _ (by simpa [ckX] using h) c
  | .tup _, e, h, _ => snd_E _ _ _ _ _ _ (by simpa [ckX] using h) c
  | .lst _, e, h, _ => snd_E _ _ _ _ _ _ (by simpa [ckX] using h) c
  | .dic _ _, e, h, _ => snd_E _ _ _ _ _ _ (by simpa [ckX] using h) c
  | .idx _ _, e, h, _ => snd_E _ _ _ _ _ _ (by simpa [ckX] using h) c
  | .fld _ _, e, h, _ => snd_E _ _ _ _ _ _ (by simpa [ckX] using h) c
  | .sli _ _ _, e, h, _ => snd_E _ _ _ _ _ _ (by simpa [ckX] using h) c
  | .rev _, e, h, _ => snd_E _ _ _ _ _ _ (by simpa [ckX] using h) c
  | .lc _ _ _ _ _, e, h, _ => snd_E _ _ _ _ _ _ (by simpa [ckX] using h) c
  | .dc _ _ _ _ _ _, e, h, _ => snd_E _ _ _ _ _ _ (by simpa [ckX] using h) c
  | .call _ _, e, h, _ => snd_E _ _ _ _ _ _ (by simpa [ckX] using h) c
  | .callf _ _, e, h, _ => snd_E _ _ _ _ _ _ (by simpa [ckX] using h) c
  | .callc _ _, e, h, _ => snd_E _ _ _ _ _ _ (by simpa [ckX] using h) c
  | .make _ _, e, h, _ => snd_E _ _ _ _ _ _ (by simpa [ckX] using h) c
  | .makes _ _, e, h, _ => snd_E _ _ _ _ _ _ (by simpa [ckX] using h) c
  | .meth _ _ _, e, h, _ => snd_E _ _ _ _ _ _ (by simpa [ckX] using h) c
  | .isi _ _, e, h, _ => snd_E _ _ _ _ _ _ (by simpa [ckX] using h) c
  | .bi _ _, e, h, _ => snd_E _ _ _ _ _ _ (by simpa [ckX] using h) c
  | .mi _ _ _, e, h, _ => snd_E _ _ _ _ _ _ (by simpa [ckX] using h) c
  | .fstr _, e, h, _ => snd_E _ _ _ _ _ _ (by simpa [ckX] using h) c
  | .cat _ _, e, h, _ => snd_E _ _ _ _ _ _ (by simpa [ckX] using h) c
  | .ow _, e, h, _ => snd_E _ _ _ _ _ _ (by simpa [ckX] using h) c
theorem sw_cell {e : Expr} {y : Str} {py : Pos} {n : Nat} {env : Env} (h : ¬ env.scope.names.lookup y = some .local) : swapsWith e (some (.Name y py)) n env = pure false := by
  have hk : (env.kindOf y == some .local) = false := by
    have : ¬ env.kindOf y = some .local := h
    simpa using this
  cases e <;> first | rfl | (unfold swapsWith; simp only [hk, Bool.and_false, Bool.false_and]; done) | (unfold swapsWith; simp only [hk, Bool.and_false, Bool.false_and]; rfl)
/-- except suites -/
theorem hd_of {Y : Cx} {h : Hd} {sts : List Stmt} {cls : Value} {dd : Option Addr} (hN : Y.N = Γ.N) (nd : Γ.N.Nodup) (hsc : Y.env.scope = sc) (hfn : fa = true → ∀ y, Y.fn y = true) (hc : ckHd Γ sc fa h sts = true) : PSs Y sts (tHd W (mm (hdTc h)) (mm (hdAg h)) h cls dd) ∧ ∃ b₀ r, sts = b₀ :: r := by
  cases h with
  | setX _ _ _ => cases hc
  | asg i he =>
    unfold ckHd at hc
    dsimp only at hc
    split at hc
    · rename_i y p2 e pos
      simp only [Bool.and_eq_true] at hc
      obtain ⟨⟨h1, h2⟩, h3⟩ := hc
      cases he <;> simp only [ckHe] at h3 <;> first | cases h3 | skip
      unfold storB at h1
      simp only [Bool.and_eq_true, decide_eq_true_eq] at h1
      have hx : L2.Loc Y.env.scope y ∧ (Y.fn y = true ∨ Y.env.scope.names.lookup y = some .local) := by
        rw [hsc]
        obtain ⟨_, h1⟩ := h1
        split at h1
        · rename_i q
          exact ⟨.inl q, .inr q⟩
        · rename_i q
          exact ⟨.inr q, .inl (hfn h1 y)⟩
        · cases h1
      have q := hd_asg (W := W) (cls := cls) (dd := dd) (pos := pos) (p2 := p2) (by rw [hN]; exact nd) (by rw [hN]; exact h1.1) hx.1 hx.2 (k_any h3) (swap_of h2)
      refine ⟨PSs.imp' q fun D σ H ⟨τ, own, x, S, xr, hF⟩ => ⟨τ, own, x, S, xr, FinS.mono (fun j hj => by simpa [hdTc, mm] using hj) (fun j hj => by simpa [hdAg, mm] using hj) hF⟩, _, _, rfl⟩
    · cases hc
end
end DE
end
section
set_option Elab.async false
set_option linter.all false
set_option maxRecDepth 100000
set_option maxHeartbeats 16000000
/-! DE47: .. statement by statement. -/
namespace DE
open PySem L2
section
variable {W : Wd} {κ : Kx} {k : Nat} {Γ : Gm} {xfl : Nat → List Str} {sc : Scope} {fa : Bool}
/-- what is known of an exception's class in a suite -/
structure XcOk (W : Wd) (X : Cx) (c : Nat) : Prop where
  xf : XfC X.K (W.xcls c)
  nd : (W.xfl c).Nodup
  no : ∀ n ∈ W.xfl c, PySem.W.findIn X.K (.ref (W.xcls c)) n = some none
theorem x_of {X : Cx} {Wx : WX} {i c : Nat} {a : Addr} {oe : Obj} {cls : Value} {d : Option Addr} {pn : List (Addr × Obj)} (C : Ck W κ k Γ sc fa X Wx) (xo : XcOk W X c) (hxf : xfl = W.xfl) (hz : Zc cls d oe) (hf : ∃ vs, oe.data = .fields vs) :
    ∀ {h : He} {e : Expr}, ckHx Γ sc i c xfl h e = true → PE (X.suite a ((a, oe) :: pn)) e (tXe W i c a cls d h) := fun {h e} q => by
  cases h with
  | k dv => exact x_k (k_any q)
  | xf f =>
    simp only [ckHx] at q
    split at q
    · simp only [Bool.and_eq_true, decide_eq_true_eq] at q
      obtain ⟨s1, s2, s3, s4⟩ := C.slot q.1
      have q2 := q.2
      rw [hxf] at q2
      exact x_xf xo.xf (xo.no _ (List.mem_of_getElem? q2)) hz hf s1 s2 s3 s4 (base_of rfl) q2 xo.nd
    · cases q
  | tup hs => simp [ckHx] at q
  | lst hs => simp [ckHx] at q
theorem xs_of {X : Cx} {Wx : WX} {i c : Nat} {a : Addr} {oe : Obj} {cls : Value} {d : Option Addr} {pn : List (Addr × Obj)} (C : Ck W κ k Γ sc fa X Wx) (xo : XcOk W X c) (hxf : xfl = W.xfl) (hz : Zc cls d oe) (hf : ∃ vs, oe.data = .fields vs) :
    ∀ {hs : List He} {es : List Expr}, ckHxs Γ sc i c xfl hs es = true → PA (X.suite a ((a, oe) :: pn)) es (tXes W i c a cls d hs)
  | [], es, q => by
    simp only [ckHxs, List.isEmpty_iff] at q
    subst q
    exact xs_nil
  | h :: hs, es, q => by
    simp only [ckHxs] at q
    split at q
    · simp only [Bool.and_eq_true] at q
      exact xs_cons C.ok (x_of C xo hxf hz hf q.1.2) (xs_of C xo hxf hz hf q.2) (star_cons q.1.1)
    · cases q
theorem hdA_of {X : Cx} {Wx : WX} {i c : Nat} {a : Addr} {oe : Obj} {cls : Value} {d : Option Addr} {pn : List (Addr × Obj)} {h : Hd} {sts : List Stmt} (C : Ck W κ k Γ sc fa X Wx) (xo : XcOk W X c) (hxf : xfl = W.xfl) (hz : Zc cls d oe) (hf : ∃ vs, oe.data = .fields vs) (hc : ckHdA Γ sc fa i c xfl h sts = true) :
    PSs (X.suite a ((a, oe) :: pn)) sts (tHdA W (mm (hdTc h)) (mm (hdAg h)) i c h a cls d) := by
  cases h with
  | setX _ _ _ => cases hc
  | asg j he =>
    unfold ckHdA at hc
    dsimp only at hc
    split at hc
    · rename_i y p2 e pos
      simp only [Bool.and_eq_true] at hc
      obtain ⟨⟨⟨h1, h2⟩, h4⟩, h3⟩ := hc
      obtain ⟨s1, s2, s3⟩ := C.stor h1
      have key : PE (X.suite a ((a, oe) :: pn)) e (tXe W i c a cls d he) := by
        split at h3
        · simp only [Bool.and_eq_true, decide_eq_true_eq] at h3
          exact x_tup C.ok (xs_of C xo hxf hz hf h3.2) h3.1
        · exact x_of C xo hxf hz hf h3
      have q := hd_asgA (W := W) (Y := X.suite a ((a, oe) :: pn)) (i := i) (c := c) (a := a) (cls := cls) (d := d) (pos := pos) (p2 := p2) (j := j) (by rw [show (X.suite a ((a, oe) :: pn)).N = Γ.N from C.N]; exact C.nd) s1 s2 s3 key (swap_of h2)
      exact PSs.imp' q fun D σ H ⟨τ, own, x, S, e1, xr, ex, hF⟩ => ⟨τ, own, x, S, e1, xr, ex, FinS.mono (fun j hj => by simpa [hdTc, mm] using hj) (fun j hj => by simpa [hdAg, mm] using hj) hF⟩
    · cases hc
theorem hdA_ne {i c : Nat} {h : Hd} {sts : List Stmt} (hc : ckHdA Γ sc fa i c xfl h sts = true) : (∃ b₀ r, sts = b₀ :: r) ∧ ¬ i ∈ hdTc h := by
  cases h with
  | setX _ _ _ => cases hc
  | asg j he =>
    unfold ckHdA at hc
    dsimp only at hc
    split at hc
    · simp only [Bool.and_eq_true] at hc
      obtain ⟨⟨⟨h1, h2⟩, h4⟩, h3⟩ := hc
      refine ⟨⟨_, _, rfl⟩, fun z => ?_⟩
      have z' : i = j := by simpa [hdTc] using z
      subst z'
      simp at h4
    · cases hc
mutual
theorem snd_S : ∀ (s : S) (st : Stmt) (X : Cx) (Wx : WX), ckS Γ xfl sc fa s st = true → Cs W κ k Γ xfl sc fa X Wx → (∀ q ∈ laS s st, LaOk W Γ X q) → PSv W X Wx (mm (tcS s)) (mm (agS s)) st (ex κ s)
  | .asg i e, st, X, Wx, h, c, hq => by
    simp only [ckS] at h
    split at h
    · rename_i y py v pos
      simp only [Bool.or_eq_true] at h
      rcases h with h | h
      · simp only [Bool.and_eq_true, decide_eq_true_eq] at h
        obtain ⟨⟨h1, h2⟩, h3⟩ := h
        unfold lcB at h1
        split at h1
        · rename_i own tg it t a elt tge iter ifs scope pos2
          simp only [Bool.and_eq_true, decide_eq_true_eq, Bool.not_eq_true'] at h1
          obtain ⟨⟨⟨g1, g2⟩, g3⟩, g4⟩ := h1
          rw [ex_asg, ev_lc]
          simp only [ckE, Bool.and_eq_true] at h2
          obtain ⟨⟨⟨⟨⟨⟨⟨⟨h1, h2⟩, h3'⟩, h4⟩, h5⟩, h6⟩, h7⟩, h8⟩, h9⟩ := h2
          have C := c.c
          have q := s_setLc (W := W) (Wx := Wx) (X := X) (i := i) (y := y) (py := py) (spos := pos) (tct := mm (tcT t)) (ft := evT κ t) (ifs := ifs) (elt := elt) (pos := pos2) (iter := iter) (tge := tge) (tg := tg) (scope := scope) (ownp := own.map fun i => (Γ.N.getD i Str.empty, i)) C.ok C.calm (by rw [C.N]; exact C.nd) (by rw [C.N]; exact h3) (by rw [C.sc_]; exact g2)
            (sw_true (by rw [C.sc_]; exact g1) (by rw [C.sc_]; exact g2) g3 g4) (snd_I it tge iter sc fa X Wx h2 C) (by rw [C.N, C.sc_]; exact blkOk_by h1)
            (fun s H D cl fp => snd_Tg tg tge h4 (C.blk s H scope D cl fp)) (fun s H D cl fp => ts_of (by
              split at h5
              · split at h5
                · rfl
                · cases h5
              · exact (snd_T t _ _ _ _ _ h5 (C.blk s H scope D cl fp)).1
              · cases h5)) (fun s H D cl fp => pd_of C.ok (snd_E a elt _ _ _ _ h6 (C.blk s H scope D cl fp))) (fold_of h3')
            (fun j hj => by rw [own_snd]; simpa using List.all_eq_true.mp h7 j (tg_tc tg j hj)) (fun j hj => by rw [own_snd]; simpa using List.all_eq_true.mp h8 j (tg_nm tg j hj)) (fun i hi z => by
              rw [own_snd] at z
              exact disj_ok h9 i hi (app3 i z))
          rw [own_snd] at q
          exact q.mono (fun j hj => by
            simp only [tcS, tcE, mm, List.mem_append, List.mem_singleton] at hj ⊢
            exact hj) fun j hj => by simpa [agS, mm] using hj
        · cases h1
      · simp only [Bool.and_eq_true] at h
        obtain ⟨⟨h1, h2⟩, h3⟩ := h
        obtain ⟨s1, s2, s3⟩ := c.c.stor h1
        rw [ex_asg]
        refine (s_asg (by rw [c.c.N]; exact c.c.nd) s1 s2 s3 (snd_X c.c e v h2 hq) ?_).mono (fun j hj => by
          simp only [tcS, mm, List.mem_append, List.mem_singleton] at hj ⊢
          exact hj) fun j hj => by simpa [agS, mm] using hj
        simp only [Bool.or_eq_true, Bool.not_eq_true', decide_eq_false_iff_not] at h3
        rcases h3 with h3 | h3
        · exact swap_of h3
        · exact sw_cell (by rw [c.c.sc_]; exact h3)
    · cases h
  | .asgT tg e, st, X, Wx, h, c, hq => by
    simp only [ckS] at h
    split at h
    · simp only [Bool.and_eq_true] at h
      obtain ⟨⟨⟨⟨h1, h2⟩, h3⟩, h4⟩, h5⟩ := h
      rw [ex_asgT]
      exact (s_asgT c.c.ok (snd_E e _ sc fa X Wx h3 c.c) (snd_Tg tg _ h2 c.c) (swap_of h5) (stores_of h4) (by rw [assign_one h1]; rfl)).mono (fun j hj => by
        simp only [tcS, mm, List.mem_append] at hj ⊢
        exact hj.imp id (tg_tc tg j)) (tg_nm tg)
    · cases h
  | .par i j as, st, X, Wx, h, c, hq => by
    simp only [ckS] at h
    split at h
    · rename_i x px y py kt pt a b k2 pt2 pos
      simp only [Bool.and_eq_true, decide_eq_true_eq, Bool.not_eq_true', beq_eq_false_iff_ne] at h
      obtain ⟨⟨⟨⟨h1, h2⟩, h3⟩, h4⟩, h5⟩ := h
      rw [ex_par]
      obtain ⟨p1, p2, p3⟩ := par_of (env := X.env) (kt := kt) (pt := pt) (k2 := k2) (pt2 := pt2) (by rw [c.c.sc_]; exact h1)
      exact (s_par c.c.ok c.c.calm (by rw [c.c.N]; exact c.c.nd) (by rw [c.c.N]; exact h2) (by rw [c.c.N]; exact h3) h4 p1 p2 (snd_Es as _ sc fa X Wx h5 c.c) p3).mono (fun z hz => by
        simp only [tcS, mm, List.mem_append, List.mem_cons, List.not_mem_nil, or_false] at hz ⊢
        exact hz) (fun z hz => by
        simp only [agS, mm, List.mem_cons, List.not_mem_nil, or_false] at hz ⊢
        exact hz)
    · cases h
  | .setF p f e, st, X, Wx, h, c, hq => by
    simp only [ckS] at h
    split at h
    · simp only [Bool.and_eq_true, decide_eq_true_eq] at h
      obtain ⟨⟨⟨h1, h2⟩, h3⟩, h4⟩ := h
      subst h1
      rw [ex_setF]
      exact (s_setF c.c.ok c.c.wc c.c.K (snd_E e _ sc fa X Wx h2 c.c) (snd_P p _ sc fa X Wx h3 c.c) (swap_ns rfl) (c.c.g.fl _ h4)).mono (fun j hj => by
        simp only [tcS, mm, List.mem_append, List.mem_singleton] at hj ⊢
        exact hj) noI
    · cases h
  | .setX p i e, st, X, Wx, h, c, hq => by
    simp only [ckS] at h
    split at h
    · simp only [Bool.and_eq_true, Bool.not_eq_true'] at h
      obtain ⟨⟨⟨h2, h3⟩, h4⟩, h5⟩ := h
      rw [ex_setX]
      exact (s_setX c.c.ok c.c.u1 (snd_E e _ sc fa X Wx h2 c.c) (snd_P p _ sc fa X Wx h3 c.c) (pd_of c.c.ok (snd_E i _ sc fa X Wx h4 c.c)) (fun z => by
        have z' : rootP p ∈ tcE i := z
        simp [z'] at h5) (swap_ns rfl)).mono (fun j hj => by
        simp only [tcS, mm, List.mem_append, List.mem_singleton] at hj ⊢
        exact hj) noI
    · cases h
  | .aug i e, st, X, Wx, h, c, hq => by
    simp only [ckS] at h
    split at h
    · simp only [Bool.and_eq_true] at h
      obtain ⟨s1, s2, s3⟩ := c.c.stor h.1
      rw [ex_aug]
      exact (s_aug c.c.ok (by rw [c.c.N]; exact c.c.nd) s1 s2 s3 (snd_E e _ sc fa X Wx h.2 c.c)).mono (fun j hj => by
        simp only [tcS, mm, List.mem_append, List.mem_singleton] at hj ⊢
        exact hj) fun j hj => by simpa [agS, mm] using hj
    · cases h
  | .augF p f e, st, X, Wx, h, c, hq => by
    simp only [ckS] at h
    split at h
    · simp only [Bool.and_eq_true, decide_eq_true_eq, Bool.not_eq_true'] at h
      obtain ⟨⟨⟨⟨h1, h2⟩, h3⟩, h4⟩, h5⟩ := h
      subst h1
      rw [ex_augF]
      exact (s_augF c.c.ok c.c.wc c.c.K (snd_P p _ sc fa X Wx h3 c.c) (snd_E e _ sc fa X Wx h2 c.c) (fun z => by
        have z' : rootP p ∈ tcE e := z
        simp [z'] at h5) (c.c.g.fl _ h4)).mono (fun j hj => by
        simp only [tcS, mm, List.mem_append, List.mem_singleton] at hj ⊢
        exact hj) noI
    · cases h
  | .ex e, st, X, Wx, h, c, hq => by
    simp only [ckS] at h
    split at h
    · simp only [Bool.and_eq_true] at h
      rw [ex_ex]
      exact (s_ex (snd_X c.c e _ h.1 hq) (swap_of h.2)).mono idI noI
    · cases h
  | .ife t a b, st, X, Wx, h, c, hq => by
    simp only [ckS] at h
    split at h
    · simp only [Bool.and_eq_true] at h
      obtain ⟨⟨h1, h2⟩, h3⟩ := h
      rw [ex_ife]
      exact (s_ife (snd_T t _ sc fa X Wx h1 c.c).1 (snd_Ss a _ X Wx h2 c fun q z => hq q (by simp [laS, z])) (snd_Ss b _ X Wx h3 c fun q z => hq q (by simp [laS, z]))).mono app3 app2
    · cases h
  | .for tg it b, st, X, Wx, h, c, hq => by
    simp only [ckS] at h
    split at h
    · simp only [Bool.and_eq_true] at h
      obtain ⟨⟨⟨⟨h1, h2⟩, h3⟩, h4⟩, h5⟩ := h
      rw [ex_for]
      exact (s_for c.c.ok c.pass c.c.calm (snd_I it _ _ sc fa X Wx h2 c.c) (snd_Tg tg _ h1 c.c) (snd_Ss b _ X Wx h4 c fun q z => hq q (by simpa [laS] using z)) (fold_of h3) (fun i hi z => disj_ok h5 i hi (by
        rcases z with z | z
        · exact List.mem_append_left _ (tg_tc tg i z)
        · exact List.mem_append_right _ z))).mono (fun j hj => by
        simp only [tcS, mm, List.mem_append] at hj ⊢
        exact hj.imp id fun z => z.imp (tg_tc tg j) id) (fun j hj => by
        simp only [agS, mm, List.mem_append] at hj ⊢
        exact hj.imp (tg_nm tg j) id)
    · cases h
  | .while t b, st, X, Wx, h, c, hq => by
    simp only [ckS] at h
    split at h
    · simp only [Bool.and_eq_true] at h
      rw [ex_while]
      exact (s_while c.c.ok c.pass (snd_T t _ sc fa X Wx h.1 c.c).1 (snd_Ss b _ X Wx h.2 c fun q z => hq q (by simpa [laS] using z))).mono app2 idI
    · cases h
  | .ret e, st, X, Wx, h, c, hq => by
    simp only [ckS] at h
    split at h
    · rw [ex_ret]
      exact (s_ret (snd_X c.c e _ h hq)).mono idI noI
    · cases h
  | .retN, st, X, Wx, h, c, hq => by
    simp only [ckS] at h
    split at h
    · rw [ex_retN]
      exact s_retN.mono noI noI
    · cases h
  | .raise n as, st, X, Wx, h, c, hq => by
    simp only [ckS] at h
    split at h
    · rename_i x p xs pos' pos
      simp only [Bool.and_eq_true] at h
      obtain ⟨h1, h2⟩ := h
      split at h1
      · rename_i m own e
        simp only [Bool.and_eq_true, decide_eq_true_eq] at h1
        obtain ⟨h1, h3⟩ := h1
        subst h1
        obtain ⟨g1, g2, g3, g4, g5, g6, g7, g8⟩ := c.c.glb e
        rw [ex_raise]
        cases own with
        | true =>
          simp only [if_true] at g8 h3
          obtain ⟨fI, fd, ps, r1, r2, r3, r4, r5, r6, r7⟩ := g8
          have ih := snd_Es as xs sc fa X Wx h2 c.c
          have hst := ckEs_star h2
          rw [r7]
          cases xs with
          | nil => cases h3
          | cons y ys =>
            simp only [List.all_cons, Bool.and_eq_true] at hst
            exact (s_raise c.c.ok c.c.calm c.c.tk r1 r2 r3 r4 rfl c.c.room r5 g1 g3 ih g2 (star_cons hst.1) (star_none hst.2) r6).mono idI noI
        | false =>
          simp only [Bool.false_eq_true, if_false] at g8 h3
          obtain ⟨bmB, B, n1, n2, r1, r2, r3, r4, r5⟩ := g8
          have e1 : xs = [] := by simpa using h3
          subst e1
          cases as with
          | cons _ _ => simp [ckEs] at h2
          | nil =>
            rw [evs_nil, r5]
            have q := s_raise0 (W := W) (X := X) (Wx := Wx) (p := p) (pos := pos) (pos' := pos') c.c.ok c.c.calm c.c.tk r1 r2 g3 r3 r4 g1 g2
            exact q.mono noI noI
      · cases h1
    · cases h
  | .try b hs, st, X, Wx, h, c, hq => by
    simp only [ckS] at h
    split at h
    · rename_i n hd x y p su p2 p3
      simp only [Bool.and_eq_true] at h
      obtain ⟨⟨h1, h2⟩, h3⟩ := h
      split at h1
      · rename_i m own e
        simp only [decide_eq_true_eq] at h1
        subst h1
        obtain ⟨g1, g2, g3, g4, g5, g6, g7, g8⟩ := c.c.glb e
        rw [ex_try]
        obtain ⟨_, b₀, r, e2⟩ := hd_of (W := W) (Y := X) (cls := .none) (dd := none) c.c.N c.c.nd c.c.sc_ c.c.fn_ h3
        subst e2
        exact (s_try (W := W) (X := X) (Wx := Wx) c.st c.fr ⟨g1, g2, .inl g3⟩ c.c.tk g4 (fun Wy pn xe tk ps => snd_Ss b _ (X.tr pn xe) Wy h2 (c.tr tk ps) fun q z => (hq q (by simpa [laS] using z)).tr)
          (fun a oe cls d pn _ _ => (hd_of (Y := X.suite a ((a, oe) :: pn)) c.c.N c.c.nd c.c.sc_ c.c.fn_ h3).1)).mono (fun j hj => by
          simp only [tcS, hsTc, mm, List.mem_append, List.append_nil] at hj ⊢
          exact hj) (fun j hj => by
          simp only [agS, hsAg, mm, List.mem_append, List.append_nil] at hj ⊢
          exact hj)
      · cases h1
    · rename_i n i hd x y p nm su p2 p3
      simp only [Bool.and_eq_true, decide_eq_true_eq] at h
      obtain ⟨⟨⟨⟨h1, h4⟩, h5⟩, h2⟩, h3⟩ := h
      split at h1
      · rename_i m own e
        simp only [decide_eq_true_eq] at h1
        subst h1
        obtain ⟨g1, g2, g3, g4, g5, g6, g7, g8⟩ := c.c.glb e
        rw [ex_tryA]
        obtain ⟨⟨b₀, r, e2⟩, hni⟩ := hdA_ne h3
        subst e2
        exact (s_tryA (W := W) (X := X) (Wx := Wx) c.st c.fr (by rw [c.c.N]; exact c.c.nd) (by rw [c.c.N]; exact h4) (by show X.env.scope.names.lookup nm = _; rw [c.c.sc_]; exact h5) ⟨g1, g2, .inl g3⟩ c.c.tk g4 hni (fun Wy pn xe tk ps => snd_Ss b _ (X.tr pn xe) Wy h2 (c.tr tk ps) fun q z => (hq q (by simpa [laS] using z)).tr)
          (fun a oe cls d pn hz hf => hdA_of c.c ⟨g5, g6, g7⟩ c.xf hz hf h3)).mono (fun j hj => by
          simp only [tcS, hsTc, mm, List.mem_append, List.append_nil] at hj ⊢
          exact hj) (fun j hj => by
          simp only [agS, hsAg, mm, List.mem_append, List.append_nil, List.mem_singleton] at hj ⊢
          exact hj)
      · cases h1
    · cases h
  | .pass, st, X, Wx, h, c, hq => by
    simp only [ckS] at h
    split at h
    · rw [ex_pass]
      exact s_pass.mono noI noI
    · cases h
  | .brk, st, X, Wx, h, c, hq => by
    simp only [ckS] at h
    split at h
    · rw [ex_brk]
      exact s_brk.mono noI noI
    · cases h
  | .cont, st, X, Wx, h, c, hq => by
    simp only [ckS] at h
    split at h
    · rw [ex_cont]
      exact s_cont.mono noI noI
    · cases h
  | .fz _, st, X, Wx, h, c, hq => by
    simp only [ckS] at h
    cases h
  | .kill _, st, X, Wx, h, c, hq => by
    simp only [ckS] at h
    cases h
theorem snd_Ss : ∀ (s : Ss) (sts : List Stmt) (X : Cx) (Wx : WX), ckSs Γ xfl sc fa s sts = true → Cs W κ k Γ xfl sc fa X Wx → (∀ q ∈ laSs s sts, LaOk W Γ X q) → PSsv W X Wx (mm (tcSs s)) (mm (agSs s)) sts (exs κ s)
  | .nil, sts, X, Wx, h, c, hq => by
    simp only [ckSs, List.isEmpty_iff] at h
    subst h
    rw [exs_nil]
    exact ss_nil.mono noI noI
  | .cons s ss, sts, X, Wx, h, c, hq => by
    rw [exs_cons]
    simp only [ckSs] at h
    simp only [laSs] at hq
    split at h
    · rename_i i
      rw [ex_fz]
      exact (ss_fz c.c.ok (snd_Ss ss sts X Wx h c hq)).mono (fun j hj => by
        simp only [tcSs, tcS, mm, List.mem_append, List.mem_singleton] at hj ⊢
        exact hj) fun j hj => by simpa [agSs, agS, mm] using hj
    · rename_i i
      rw [ex_kill]
      exact (ss_kill (snd_Ss ss sts X Wx h c hq)).mono (fun j hj => by
        simp only [tcSs, tcS, mm, List.mem_append, List.mem_singleton] at hj ⊢
        exact hj) fun j hj => by simpa [agSs, agS, mm] using hj
    · rename_i n1 n2
      split at h
      · rename_i st sts
        simp only [Bool.and_eq_true] at h
        exact (ss_cons (snd_S s st X Wx h.1 c fun q z => hq q (by
          split
          · exact (n1 _ rfl).elim
          · exact (n2 _ rfl).elim
          · exact List.mem_append_left _ z)) (snd_Ss ss sts X Wx h.2 c fun q z => hq q (by
          split
          · exact (n1 _ rfl).elim
          · exact (n2 _ rfl).elim
          · exact List.mem_append_right _ z))).mono app2 app2
      · cases h
end
end
end DE
end
section
set_option Elab.async false
set_option linter.all false
set_option maxRecDepth 100000
set_option maxHeartbeats 4000000
/-! DE48: a def by its look. -/
namespace DE
open PySem L2
theorem zip_none : ∀ {ps : List Str} {us : List Value} {n : Str}, us.length = ps.length → n ∈ ps → ((ps.zip us).lookup n).isNone = false
  | [], _, _, _, h => by cases h
  | p :: ps, [], _, hl, _ => by cases hl
  | p :: ps, u :: us, n, hl, h => by
    rw [List.zip_cons_cons]
    by_cases e : n = p
    · subst e
      simp [List.lookup]
    · have e' : (n == p) = false := by simpa using e
      simp only [List.lookup, e']
      rcases List.mem_cons.mp h with z | z
      · exact (e z).elim
      · exact zip_none (by simpa using hl) z
theorem zip_binds : ∀ {ps : List Str} {us : List Value}, ps.Nodup → us.length = ps.length → ps.filterMap (fun n => ((ps.zip us).lookup n).map (n, ·)) = ps.zip us := fun {ps us} nd hl => by
  have key : ∀ (qs : List Str) (ws : List Value) (pre : List (Str × Value)), qs.Nodup → ws.length = qs.length → (∀ p ∈ pre, p.1 ∉ qs) → qs.filterMap (fun n => ((pre ++ qs.zip ws).lookup n).map (n, ·)) = qs.zip ws := fun qs => by
    induction qs with
    | nil => intros; rfl
    | cons q qs ih =>
      intro ws pre nd hl hp
      cases ws with
      | nil => cases hl
      | cons w ws =>
        have nd' := List.nodup_cons.mp nd
        have e1 : (pre ++ (q :: qs).zip (w :: ws)).lookup q = some w := by
          rw [List.lookup_append]
          have : pre.lookup q = none := by
            cases z : pre.lookup q with
            | none => rfl
            | some v => exact (hp (q, v) (PySem.mem_of_lookup z) List.mem_cons_self).elim
          rw [this]
          simp [List.lookup]
        rw [List.filterMap_cons, e1]
        simp only [Option.map_some, List.zip_cons_cons]
        have := ih ws (pre ++ [(q, w)]) nd'.2 (by simpa using hl) (fun p hm => by
          rcases List.mem_append.mp hm with z | z
          · exact fun h => hp p z (List.mem_cons_of_mem _ h)
          · have : p = (q, w) := by simpa using z
            rw [this]
            exact nd'.1)
        rw [List.append_assoc] at this
        rw [show [(q, w)] ++ qs.zip ws = (q, w) :: qs.zip ws from rfl] at this
        rw [this]
  exact key ps us [] nd hl (fun p h => by cases h)
theorem bind_plain {args : List Arg} {ps : List Str} (h : args.map (·.arg) = ps) (nd : ps.Nodup) {fd : FuncData} (hp : fd.params = ⟨[], args, none, [], [], none, []⟩) (hd : fd.defaults = .none) {us : List Value} (hl : us.length = ps.length) : bindArgs fd ⟨us, []⟩ = pure (ps.zip us) := by
  have e1 : seqItems? Value.none = pure none := rfl
  unfold bindArgs
  rw [hp, hd, e1]
  simp only [List.map_nil, List.nil_append, h]
  have e2 : ¬ (us.length > ps.length) := by omega
  have e3 : (ps.take ps.length).filter (fun n => ((ps.zip us).lookup n).isNone) = [] := by
    rw [List.take_length, List.filter_eq_nil_iff]
    intro n hn
    rw [zip_none hl hn]
    simp
  simp [e2, e3, zip_binds nd hl]
  intro x hx hn
  have q := zip_none hl hx
  cases z : (ps.zip us).lookup x with
  | none =>
    rw [z] at q
    cases q
  | some v => exact (hn v (PySem.mem_of_lookup z)).elim

/-! ### the look at a def -/
/-- plain positional parameters -/
def argsB (ps : List Str) (a : Arguments) : Bool := a.posonlyargs.isEmpty && a.vararg.isNone && a.kwonlyargs.isEmpty && a.kw_defaults.isEmpty && a.kwarg.isNone && a.defaults.isEmpty && decide (a.args.map (·.arg) = ps)
theorem argsB_ok {ps : List Str} {a : Arguments} (h : argsB ps a = true) : a = ⟨[], a.args, none, [], [], none, []⟩ ∧ a.args.map (·.arg) = ps := by
  obtain ⟨p1, p2, p3, p4, p5, p6, p7⟩ := a
  simp only [argsB, Bool.and_eq_true, List.isEmpty_iff, Option.isNone_iff_eq_none, decide_eq_true_eq] at h
  obtain ⟨⟨⟨⟨⟨⟨h1, h2⟩, h3⟩, h4⟩, h5⟩, h6⟩, h7⟩ := h
  subst h1 h2 h3 h4 h5 h6
  exact ⟨rfl, h7⟩
def nodupS : List Str → Bool
  | [] => true
  | x :: xs => xs.all (fun y => !decide (x = y)) && nodupS xs
theorem nodupS_ok : ∀ {xs : List Str}, nodupS xs = true → xs.Nodup
  | [], _ => List.nodup_nil
  | x :: xs, h => by
    simp only [nodupS, Bool.and_eq_true, List.all_eq_true, Bool.not_eq_true', decide_eq_false_iff_not] at h
    exact List.nodup_cons.mpr ⟨fun z => h.1 x z rfl, nodupS_ok h.2⟩
def scB (N ps : List Str) (sc : Scope) : Bool := (match sc.kind with | .function => true | _ => false) && !sc.isCoroutine && !sc.isGenerator && nodupS N && decide (N.take ps.length = ps) && ps.all (fun x => match sc.names.lookup x with | some .local => true | some .cell => true | _ => false) && sc.names.all fun y => match y.2 with | .free => false | _ => true
theorem scB_ok {N ps : List Str} {sc : Scope} (h : scB N ps sc = true) : FnScope N ps sc := by
  unfold scB at h
  simp only [Bool.and_eq_true, Bool.not_eq_true', decide_eq_true_eq, List.all_eq_true] at h
  obtain ⟨⟨⟨⟨⟨⟨h1, h2⟩, h3⟩, h4⟩, h5⟩, h6⟩, h7⟩ := h
  refine ⟨?_, h2, h3, nodupS_ok h4, h5, fun x hx => ?_, fun y hy z => ?_⟩
  · split at h1
    · assumption
    · cases h1
  · have q := h6 x hx
    split at q <;> first | exact .inl (by assumption) | exact .inr (by assumption) | cases q
  · have q := h7 y hy
    rw [z] at q
    cases q
theorem FunD.to {K : PySem.W.Frag} {x qual : Str} {st : Stmt} {f : Addr} {fd : FuncData} (F : FunD K x qual (defArgs st) (defBody st) (defScope st) [] [] f fd) : Fun K x qual st f fd := by
  obtain ⟨oc, od, dV, kV, doc, pm, an, cdv, ct, osl, e, lk, hcd, hD, hK⟩ := F.ex
  rcases hD with ⟨_, rfl⟩ | ⟨z, _⟩
  · exact ⟨⟨oc, od, kV, doc, pm, an, cdv, ct, osl, e, lk, hcd⟩, F.kp⟩
  · exact (z rfl).elim
theorem fun_binds {K : PySem.W.Frag} {x qual : Str} {st : Stmt} {f : Addr} {fd : FuncData} {ps : List Str} (F : Fun K x qual st f fd) (h : argsB ps (defArgs st) = true) (nd : ps.Nodup) : Binds K fd ps [] :=
  F.binds fun kV doc pm an cdv ct us hl => bind_plain (argsB_ok h).2 nd (argsB_ok h).1 rfl hl
/-- a def's data -/
structure DefI where
  x : Str
  qual : Str
  N : List Str
  ps : List Str
  d : Df
def ckD (Γ : List Str → Gm) (xfl : Nat → List Str) (I : DefI) (st : Stmt) : Bool := scB I.N I.ps (defScope st) && argsB I.ps (defArgs st) && decide (I.N.length = I.d.ns) && decide (I.ps.length = I.d.np) && decide (I.d.np ≤ I.d.ns) && disj I.d.io (agSs I.d.body) && ckSs (Γ I.N) xfl (defScope st) true I.d.body (defBody st)
section
variable {W : Wd} {κ : Kx} {k : Nat} {Γ : List Str → Gm} {xfl : Nat → List Str} {P : Program} {w : World} {mg : Str → Option Value} {base : Heap}
/-- the words of the module, whatever def runs -/
def Mk0 (W : Wd) (κ : Kx) (k : Nat) (Γ : Gm) (P : Program) (w : World) (mg : Str → Option Value) (base : Heap) : Prop := ∀ X : Cx, X.prog = P → X.w = w → X.K = W.K → X.mg = mg → X.base = base → Gk W κ k Γ X
theorem dd_ok (hW : W.Lam (Γ []).lams) (wc : W.Cls) (hΓ : ∀ N, (Γ N).N = N) (hxf : xfl = W.xfl) {I : DefI} {st : Stmt} {f : Addr} {fd : FuncData} (F : Fun W.K I.x I.qual st f fd) (hc : ckD Γ xfl I st = true) (hG : Mk0 W κ k (Γ I.N) P w mg base)
    (hL : ∀ (cdv : Value) (A : Around) (outer : List Env) (s : Shared) (H : Hp) (E : XK), ∀ q ∈ laSs I.d.body (defBody st), LaOk W (Γ I.N) (cxOf (L2.CX P w) P w W.K mg base I.N I.qual (defScope st) f cdv A outer s H E) q) :
    FnOk P w W.K mg base (L2.CX P w) (k + 2) f fd I.ps (spF W (runDf κ I.d)) ∧ Binds W.K fd I.ps [] := by
  simp only [ckD, Bool.and_eq_true, decide_eq_true_eq] at hc
  obtain ⟨⟨⟨⟨⟨⟨h1, h2⟩, h3⟩, h4⟩, h5⟩, h6⟩, h7⟩ := hc
  have S := scB_ok h1
  have ok := wd_ok hW
  have ndp : I.ps.Nodup := by
    rw [← S.pre]
    exact S.nd.sublist (List.take_sublist _ _)
  refine ⟨df_ok ok F S h4 h3 h5 fun cdv A outer s H E hr => ?_, fun_binds F h2 ndp⟩
  refine ⟨mm (tcSs I.d.body), mm (agSs I.d.body), fun i hi => disj_ok h6 i hi, ?_⟩
  have tk : Takes (cxOf (L2.CX P w) P w W.K mg base I.N I.qual (defScope st) f cdv A outer s H E) (fun cls d _ H' => E cls d H') := takes_of rfl rfl rfl rfl
  have C : Ck W κ k (Γ I.N) (defScope st) true (cxOf (L2.CX P w) P w W.K mg base I.N I.qual (defScope st) f cdv A outer s H E) (fun cls d _ H' => E cls d H') :=
    ⟨(hΓ _).symm, by rw [hΓ]; exact S.nd, rfl, rfl, ok, wc, hr, rfl, tk, fun _ _ => rfl, hG _ rfl rfl rfl rfl rfl⟩
  exact snd_Ss I.d.body (defBody st) _ _ h7 ⟨C, passes_of rfl, rfl, rfl, hxf⟩ (hL cdv A outer s H E)
end
end DE
end
section
set_option Elab.async false
set_option linter.all false
set_option maxRecDepth 100000
set_option maxHeartbeats 4000000
/-! DE49: a program's data; what is read of its top. -/
namespace DE
open PySem L2

structure DfE where
  at_ : Str × Option Str
  I : DefI
  st : Stmt
/-- an exception's class -/
structure XcE where
  x : Str
  flds : List Str
  own : Bool
  st : Stmt
structure LmE where
  l : Nat
  maker : Nat
  ps : List Str
  fr : List Str
  b : E
structure ClE where
  x : Str
  init : Option Nat
  meths : List (Str × Nat)
structure PrI where
  dfs : List (Option DfE)
  cls : List (Option ClE)
  xcs : List (Option XcE)
  frees : List Str
  dicts : List (Str × List D × List D)
  dats : List (Str × D)
  fl : List Str
  lms : List LmE
  mks : List Nat
  dc : Str
  dx : Str
  top : Option Nat
  fuel : Nat
namespace PrI
variable (R : PrI)
def dat (f : Nat) : Option DfE := match R.dfs[f]? with
  | some o => o
  | none => none
def clt (c : Nat) : Option ClE := match R.cls[c]? with
  | some o => o
  | none => none
def xct (c : Nat) : Option XcE := match R.xcs[c]? with
  | some o => o
  | none => none
def lat (l : Nat) : Option LmE := R.lms.find? fun e => e.l == l
/-- which exceptions a clause catches -/
def sub (a c : Nat) : Bool := (a == c) || (R.top == some c && (R.xct a).isSome)
def pg : Pg where
  df := fun f => match R.dat f with
    | some e => some e.I.d
    | none => (R.lat f).map fun e => lamDf (e.ps.length + e.fr.length) e.b
  meth := fun c m => (R.clt c).bind fun e => e.meths.lookup m
  init := fun c => match R.clt c with
    | some e => e.init.getD 100000
    | none => 100000
  sub := R.sub
  xar := fun c => match R.xct c with
    | some e => e.flds.length
    | none => 0
  fuel := R.fuel
def laQ (f : Nat) : Str := match R.dat f with
  | some m => (m.I.qual ++ ".<locals>.") ++ "<lambda>"
  | none => Str.empty
def sites (f : Nat) : List LaSite := match R.dat f with
  | some m => laSs m.I.d.body (defBody m.st)
  | none => []
def lams (l : Nat) : Option LamI := (R.lat l).bind fun e => ((R.sites e.maker).find? fun q => q.l == l).map fun q => ⟨R.laQ e.maker, q.params, q.body, q.scope, e.fr, q.is⟩
def glD (f : Nat) : List (Option DfE) → List (Str × GI)
  | [] => []
  | o :: r => (match o with
    | some e => (match e.at_.2 with
      | none => [(e.at_.1, GI.fn f)]
      | some _ => [])
    | none => []) ++ glD (f + 1) r
def glC (f : Nat) : List (Option ClE) → List (Str × GI)
  | [] => []
  | o :: r => (match o with
    | some e => (match e.init with
      | some _ => [(e.x, GI.cls f)]
      | none => [])
    | none => []) ++ glC (f + 1) r
def glX (f : Nat) : List (Option XcE) → List (Str × GI)
  | [] => []
  | o :: r => (match o with
    | some e => [(e.x, GI.exc f e.own)]
    | none => []) ++ glX (f + 1) r
def gl : List (Str × GI) := glD 0 R.dfs ++ (glC 0 R.cls ++ (glX 0 R.xcs ++ (R.frees.map (fun x => (x, GI.free)) ++ (R.dicts.map (fun q => (q.1, GI.dict q.2.1 q.2.2)) ++ R.dats.map fun q => (q.1, GI.dat q.2)))))
def gm (N : List Str) : Gm := ⟨N, R.gl, R.fl, R.lams⟩
def xfl (c : Nat) : List Str := match R.xct c with
  | some e => e.flds
  | none => []
def cnm (c : Nat) : Str := match R.clt c with
  | some e => e.x
  | none => R.dc
def xnm (c : Nat) : Str := match R.xct c with
  | some e => e.x
  | none => R.dx
def fat (f : Nat) : Str × Option Str := match R.dat f with
  | some e => e.at_
  | none => (R.dc, some "__init__")
def tf : List (Str × Option Str) := R.mks.map R.fat
/-- the words, closures apart -/
def wd0 (K : PySem.W.Frag) : Wd where
  K := K
  cls := fun c => He.ga K (R.cnm c)
  xcls := fun c => He.ga K (R.xnm c)
  fn := fun f => He.fAd K (R.fat f)
  isF := fun f => (R.dat f).isSome
  flds := fun _ => R.fl
  tabs := R.mks.map fun f => ((He.cT K (R.fat f)).2, R.laQ f)
  clo := fun _ _ _ _ => False
  xfl := R.xfl
def wd (K : PySem.W.Frag) : Wd := { R.wd0 K with clo := fun l ws v H => ∃ L, R.lams l = some L ∧ CloAt (R.wd0 K) L ws v H }
theorem wd_lam (K : PySem.W.Frag) : (R.wd K).Lam R.lams := rfl
end PrI
/-! ### looks at K -/
def insB (K : PySem.W.Frag) (C : Addr) : Bool := decide (PySem.W.findIn K (.ref C) "__class__" = some (some (.builtin "object.__class__"))) && (decide (PySem.W.specialIn K (.builtin "object.__class__") "__get__" = some (some (.builtin "getset_descriptor.__get__"))) &&
  (decide (PySem.W.takesIn K (.builtin "object.__class__") = some true) && (decide (PySem.W.mroIn K C (.type "object") = some true) && decide (PySem.W.kitOne K (.ref C) (.ref C) = some true))))
theorem insB_ok {K : PySem.W.Frag} {C : Addr} (c : L2.Cls K C) (h : insB K C = true) : C8.InsC K C := by
  simp only [insB, Bool.and_eq_true, decide_eq_true_eq] at h
  exact ⟨c, h.1, h.2.1, h.2.2.1, h.2.2.2.1, h.2.2.2.2⟩
def oexB (K : PySem.W.Frag) (C : Addr) : Bool := (match K.lookup C with
  | some ⟨.type t, _, .cls cd, sl⟩ => decide (t = "type") && (match cd.mro, sl.toList with
    | .ref C' :: bm, [_, _, _, _, some (.builtin n), _] => (C' == C) && (n == "ValueError.__new__") && !cd.hasDel && cd.hasDict && PySem.HandSPX.refsVE bm
    | _, _ => false)
  | _ => false) && decide (PySem.W.findIn K (.ref C) "__setattr__" = some (some (.builtin "object.__setattr__")))
theorem oexB_ok {K : PySem.W.Frag} {C : Addr} (h : oexB K C = true) (h1 : PySem.W.subIn K (.ref C) (.type "BaseException") = some true) (h2 : PySem.W.typeIn K (.ref C) = some (.type "type")) (h3 : PySem.W.keepIn K (.ref C) = true) : OexC K C := by
  simp only [oexB, Bool.and_eq_true, decide_eq_true_eq] at h
  refine ⟨?_, h.2, h1, h2, h3⟩
  obtain ⟨h, _⟩ := h
  split at h
  · rename_i t dd cd sl ho
    simp only [Bool.and_eq_true, decide_eq_true_eq] at h
    obtain ⟨e0, h⟩ := h
    subst e0
    split at h
    · rename_i C' bm k0 k1 k2 k3 n k5 hm hs
      simp only [Bool.and_eq_true, beq_iff_eq, Bool.not_eq_true'] at h
      obtain ⟨⟨⟨⟨rfl, rfl⟩, hdel⟩, hd⟩, hr⟩ := h
      obtain ⟨nm, bs, mro, ns, qn, hdd, sn, sub, ab, col, del⟩ := cd
      dsimp only at hm hdel hd
      subst hm hdel hd
      have hsl : sl = #[k0, k1, k2, k3, some (.builtin "ValueError.__new__"), k5] := by
        apply Array.ext'
        rw [hs]
      subst hsl
      exact ⟨_, _, _, _, _, _, _, _, _, _, _, _, _, _, _, ho, hr⟩
    · cases h
  · cases h
def valB (d : D) (v : Value) : Bool := match d, v with
  | .non, .none => true
  | .bl a, .bool b => a == b
  | .int a, .int b _ => decide (a = b)
  | .str a, .str b _ => decide (a = b)
  | _, _ => false
theorem valB_ok {d : D} {v : Value} (h : valB d v = true) : ValD d v := by
  unfold valB at h
  split at h
  · rfl
  · rw [beq_iff_eq] at h
    rw [h]
    rfl
  · simp only [decide_eq_true_eq] at h
    subst h
    exact ⟨_, rfl⟩
  · simp only [decide_eq_true_eq] at h
    subst h
    exact ⟨_, rfl⟩
  · cases h
def entsB : List DictEntry → List D → List D → Bool
  | [], [], [] => true
  | e :: es, k :: ks, v :: vs => (match k, e.key with
    | .str x, .str y _ => decide (x = y)
    | _, _ => false) && valB v e.val && entsB es ks vs
  | _, _, _ => false
theorem entsB_ok : ∀ {es : List DictEntry} {ks vs : List D}, entsB es ks vs = true → Ents es ks vs
  | [], [], [], _ => trivial
  | [], [], _ :: _, h => by cases h
  | [], _ :: _, _, h => by cases h
  | _ :: _, [], _, h => by cases h
  | _ :: _, _ :: _, [], h => by cases h
  | e :: es, k :: ks, v :: vs, h => by
    simp only [entsB, Bool.and_eq_true] at h
    obtain ⟨⟨h1, h2⟩, h3⟩ := h
    split at h1
    · rename_i x y t ht
      simp only [decide_eq_true_eq] at h1
      subst h1
      exact ⟨⟨t, ht⟩, valB_ok h2, entsB_ok h3⟩
    · cases h1
def dicB (K : PySem.W.Frag) (q : Str × List D × List D) : Bool := (match K.lookup (He.ga K q.1) with
  | some ⟨_, _, .dict es _, _⟩ => entsB es.toList q.2.1 q.2.2
  | _ => false) && nodupD q.2.1 && decide (q.2.1.length ≤ 15)
theorem dicB_ok {K : PySem.W.Frag} {q : Str × List D × List D} {X : Cx} (hK : X.K = K) {es : Array DictEntry} {n : Nat} (kd : KDict K X.w (He.ga K q.1) es n) (h : dicB K q = true) : WDict X (He.ga K q.1) q.2.1 q.2.2 := by
  simp only [dicB, Bool.and_eq_true, decide_eq_true_eq] at h
  obtain ⟨⟨h1, h2⟩, h3⟩ := h
  rw [kd.at_] at h1
  subst hK
  exact ⟨⟨es, n, kd, entsB_ok h1⟩, h2, h3⟩
theorem ents_vals {W : Wd} {H : Hp} : ∀ (vs : List D) {es : List DictEntry} {ks : List D}, Ents es ks vs → ∀ d ∈ vs, RepD W H d (ValV d)
  | [], _, _, _, d, hd => by cases hd
  | v :: vs, [], [], h, _, _ => h.elim
  | v :: vs, [], _ :: _, h, _, _ => h.elim
  | v :: vs, _ :: _, [], h, _, _ => h.elim
  | v :: vs, e :: es, k :: ks, h, d, hd => by
    have h23 : ValD v e.val ∧ Ents es ks vs := by
      cases k <;> first | exact ⟨h.2.1, h.2.2⟩ | exact h.elim
    rcases List.mem_cons.mp hd with z | z
    · rw [z]
      exact (val_rel h23.1).2 H
    · exact ents_vals vs h23.2 d z
def datB (K : PySem.W.Frag) (q : Str × D) : Bool := match PySem.W.nsIn K mainGlobals q.1 with
  | some (some u) => valB q.2 u
  | _ => false
/-! ### an exception's own __init__ -/
def visB (sc : Scope) (x : Str) : Bool := (match sc.names.lookup x with | some .local => true | some .cell => true | some .free => true | _ => false) && !(x == ("__debug__" : Str)) && !(x == ("__classdict__" : Str))
theorem visB_ok {sc : Scope} {x : Str} (h : visB sc x = true) : Vis sc x ∧ (x == ("__debug__" : Str)) = false ∧ (x == ("__classdict__" : Str)) = false := by
  simp only [visB, Bool.and_eq_true, Bool.not_eq_true'] at h
  refine ⟨?_, h.1.2, h.2⟩
  have e2 := h.1.1
  split at e2 <;> first | exact .inl (by assumption) | exact .inr (.inl (by assumption)) | exact .inr (.inr (by assumption)) | cases e2
def xiB (fl : List Str) (st : Stmt) : Bool := match fl, defBody st with
  | [f1], [.Assign [.Attribute (.Name s _) g _] (.Name n _) _] => decide (f1 = g) && scB [s, n] [s, n] (defScope st) && argsB [s, n] (defArgs st) && visB (defScope st) s && visB (defScope st) n
  | [f1, f2], [.Assign [.Attribute (.Name s _) g1 _] (.Name n1 _) _, .Assign [.Attribute (.Name s' _) g2 _] (.Name n2 _) _] => decide (f1 = g1) && decide (f2 = g2) && decide (s = s') && scB [s, n1, n2] [s, n1, n2] (defScope st) && argsB [s, n1, n2] (defArgs st) && visB (defScope st) s && visB (defScope st) n1 && visB (defScope st) n2
  | _, _ => false
theorem xi_ok {K : PySem.W.Frag} {P : Program} {w : World} {mg : Str → Option Value} {base : Heap} {x qual : Str} {st : Stmt} {f C : Addr} {fd : FuncData} {fl : List Str} (F : Fun K x qual st f fd) (T : OexC K C) (hno : ∀ n ∈ fl, PySem.W.findIn K (.ref C) n = some none) (h : xiB fl st = true) :
    ∃ ps, (∀ k, FnOk P w K mg base (L2.CX P w) (k + 1) f fd ps (spX C fl)) ∧ Binds K fd ps [] := by
  unfold xiB at h
  split at h
  · rename_i f1 s p1 g p2 n p3 p4 hb
    simp only [Bool.and_eq_true, decide_eq_true_eq] at h
    obtain ⟨⟨⟨⟨h1, h2⟩, h3⟩, h4⟩, h5⟩ := h
    subst h1
    obtain ⟨a1, a2, a3⟩ := visB_ok h4
    obtain ⟨b1, b2, b3⟩ := visB_ok h5
    have S := scB_ok h2
    exact ⟨[s, n], fun k => init1 F S hb T (hno _ (by simp)) a1 b1 a2 a3 b2 b3, fun_binds F h3 S.nd⟩
  · rename_i f1 f2 s p1 g1 p2 n1 p3 p4 s' p5 g2 p6 n2 p7 p8 hb
    simp only [Bool.and_eq_true, decide_eq_true_eq] at h
    obtain ⟨⟨⟨⟨⟨⟨⟨h1, h2⟩, h3⟩, h4⟩, h5⟩, h6⟩, h7⟩, h8⟩ := h
    subst h1 h2 h3
    obtain ⟨a1, a2, a3⟩ := visB_ok h6
    obtain ⟨b1, b2, b3⟩ := visB_ok h7
    obtain ⟨c1, c2, c3⟩ := visB_ok h8
    have S := scB_ok h4
    exact ⟨[s, n1, n2], fun k => init2 F S hb T (hno _ (by simp)) (hno _ (by simp)) a1 b1 c1 a2 a3 b2 b3 c2 c3, fun_binds F h5 S.nd⟩
  · cases h
end DE
end
section
set_option Elab.async false
set_option linter.all false
set_option maxRecDepth 100000
set_option maxHeartbeats 4000000
/-! DE50: what the top's facts give a program: every def keeps its promise. -/
namespace DE
open PySem L2
namespace PrI
variable (R : PrI)
/-! ### the facts asked for -/
def faD : Option DfE → List He.Fa
  | some e => (match e.at_.2 with
    | none => [.glo e.at_.1]
    | some _ => [])
  | none => []
def faC (fl : List Str) : Option ClE → List He.Fa
  | some e => [.glo e.x, .cls e.x] ++ ((match e.init with
    | some _ => [.mkr e.x]
    | none => []) ++ (fl.map (fun f => .noat e.x f) ++ e.meths.map fun q => .meth e.x q.1))
  | none => []
def faX : Option XcE → List He.Fa
  | some e => [.glo e.x] ++ (e.flds.map (fun f => .noat e.x f) ++ (if e.own then [.keep e.x, .meth e.x "__init__"] else [.exc e.x]))
  | none => []
def fa : List He.Fa := R.dfs.flatMap faD ++ (R.cls.flatMap (faC R.fl) ++ (R.xcs.flatMap faX ++ (R.frees.map He.Fa.free ++ (R.dicts.map (fun q => He.Fa.glo q.1) ++ ([.cls R.dc] ++ R.fl.map fun f => .noat R.dc f)))))
def dD : Option DfE → List He.DefD
  | some e => [⟨e.at_, e.I.x, e.I.qual, defArgs e.st, defBody e.st, defScope e.st, [], []⟩]
  | none => []
def dX : Option XcE → List He.DefD
  | some e => if e.own then [⟨(e.x, some "__init__"), "__init__", e.x ++ ".__init__", defArgs e.st, defBody e.st, defScope e.st, [], []⟩] else []
  | none => []
def fns : List He.DefD := R.dfs.flatMap dD ++ R.xcs.flatMap dX
def strsD : List D → List Str
  | [] => []
  | .str s :: ds => s :: strsD ds
  | _ :: ds => strsD ds
def tsL : List He.Tab := R.dicts.map fun q => ((fun K => He.ga K q.1), strsD q.2.1)
def exC (K : PySem.W.Frag) : Option ClE → Bool
  | some e => (match e.init with
    | some _ => insB K (He.ga K e.x)
    | none => true)
  | none => true
def exX (K : PySem.W.Frag) : Option XcE → Bool
  | some e => xfB K (He.ga K e.x) && (!e.own || (oexB K (He.ga K e.x) && decide (PySem.W.typeIn K (.ref (He.ga K e.x)) = some (.type "type"))))
  | none => true
def exM (K : PySem.W.Frag) : Bool := (List.range R.xcs.length).all fun c => match R.xct c with
  | some ec => decide (PySem.W.exmOne K (.ref (He.ga K R.dx)) (.ref (He.ga K ec.x)) = some false) && (List.range R.xcs.length).all fun a => decide (PySem.W.exmOne K (.ref (He.ga K (R.xnm a))) (.ref (He.ga K ec.x)) = some (R.sub a c))
  | none => true
def exT (K : PySem.W.Frag) : Bool := R.mks.all fun f => R.mks.all fun g => !decide ((He.cT K (R.fat f)).2 = (He.cT K (R.fat g)).2) || decide (R.laQ f = R.laQ g)
def ex (K : PySem.W.Frag) : Bool := R.cls.all (exC K) && (R.xcs.all (exX K) && (R.exM K && (R.exT K && (R.dicts.all (dicB K) && R.dats.all (datB K)))))
/-! ### the look at the text -/
def nodupN : List Nat → Bool
  | [] => true
  | x :: xs => xs.all (fun y => !(x == y)) && nodupN xs
def freeK : NameKind → Bool
  | .free => true
  | _ => false
def cellK : Option NameKind → Bool
  | some .cell => true
  | _ => false
def siteB (f : Nat) (e : DfE) (q : LaSite) : Bool := match R.lat q.l with
  | some le => (le.maker == f) && argsB le.ps q.params && q.scope.names.all (fun y => !freeK y.2 || (cellK ((defScope e.st).names.lookup y.1) && le.fr.contains y.1)) && le.fr.all (fun y => q.scope.names.any fun z => decide (z.1 = y) && freeK z.2) && decide (q.is.map (fun i => e.I.N[i]?) = le.fr.map some) && R.mks.contains f &&
    NdefX.nscB (le.ps ++ le.fr) le.ps le.fr q.scope && ckE (R.gm (le.ps ++ le.fr)) q.scope le.b q.body && (R.dat q.l).isNone
  | none => false
def okD (f : Nat) : Bool := match R.dat f with
  | some e => ckD R.gm R.xfl e.I e.st && nodupN ((R.sites f).map (·.l)) && (R.sites f).all (R.siteB f e)
  | none => true
def okC : Option ClE → Bool
  | some e => e.meths.all (fun q => !R.fl.contains q.1 && match R.dat q.2 with
    | some d => decide (d.at_ = (e.x, some q.1))
    | none => false) && (match e.init with
      | some f => (match R.dat f with
        | some d => decide (d.at_ = (e.x, some ("__init__" : Str)))
        | none => false)
      | none => true)
  | none => true
def okX : Option XcE → Bool
  | some e => nodupS e.flds && (if e.own then xiB e.flds e.st && decide (e.flds.length ≤ 1000) else e.flds.isEmpty)
  | none => true
def ok : Bool := (List.range R.dfs.length).all R.okD && (R.cls.all R.okC && R.xcs.all okX)
/-! ### lookups -/
theorem dat_lt {f : Nat} {e : DfE} (h : R.dat f = some e) : f < R.dfs.length ∧ some e ∈ R.dfs := by
  unfold dat at h
  cases q : R.dfs[f]? with
  | none =>
    rw [q] at h
    cases h
  | some o =>
    rw [q] at h
    dsimp only at h
    subst h
    exact ⟨(List.getElem?_eq_some_iff.mp q).1, List.mem_of_getElem? q⟩
theorem clt_mem {f : Nat} {e : ClE} (h : R.clt f = some e) : some e ∈ R.cls := by
  unfold clt at h
  cases q : R.cls[f]? with
  | none =>
    rw [q] at h
    cases h
  | some o =>
    rw [q] at h
    dsimp only at h
    subst h
    exact List.mem_of_getElem? q
theorem xct_mem {f : Nat} {e : XcE} (h : R.xct f = some e) : f < R.xcs.length ∧ some e ∈ R.xcs := by
  unfold xct at h
  cases q : R.xcs[f]? with
  | none =>
    rw [q] at h
    cases h
  | some o =>
    rw [q] at h
    dsimp only at h
    subst h
    exact ⟨(List.getElem?_eq_some_iff.mp q).1, List.mem_of_getElem? q⟩
theorem lat_l {l : Nat} {e : LmE} (h : R.lat l = some e) : e.l = l := by
  have := List.find?_some h
  simpa using this
theorem glD_mem : ∀ {l : List (Option DfE)} {f : Nat} {x : Str} {g : GI}, (x, g) ∈ glD f l → ∃ j e, l[j]? = some (some e) ∧ e.at_ = (x, none) ∧ g = .fn (f + j)
  | [], f, x, g, h => by cases h
  | o :: r, f, x, g, h => by
    rcases List.mem_append.mp h with z | z
    · cases o with
      | none => cases z
      | some e =>
        obtain ⟨⟨a, b⟩, I, st⟩ := e
        cases b with
        | some m => cases z
        | none =>
          have z' : (x, g) = (a, GI.fn f) := by simpa using z
          cases z'
          exact ⟨0, _, rfl, rfl, rfl⟩
    · obtain ⟨j, e, h1, h2, h3⟩ := glD_mem z
      exact ⟨j + 1, e, by simpa using h1, h2, by rw [h3]; congr 1; omega⟩
theorem glC_mem : ∀ {l : List (Option ClE)} {f : Nat} {x : Str} {g : GI}, (x, g) ∈ glC f l → ∃ j e i, l[j]? = some (some e) ∧ e.x = x ∧ e.init = some i ∧ g = .cls (f + j)
  | [], f, x, g, h => by cases h
  | o :: r, f, x, g, h => by
    rcases List.mem_append.mp h with z | z
    · cases o with
      | none => cases z
      | some e =>
        cases hi : e.init with
        | none => simp [hi] at z
        | some i =>
          simp only [hi] at z
          have z' : (x, g) = (e.x, GI.cls f) := by simpa using z
          cases z'
          exact ⟨0, _, i, rfl, rfl, hi, rfl⟩
    · obtain ⟨j, e, i, h1, h2, h3, h4⟩ := glC_mem z
      exact ⟨j + 1, e, i, by simpa using h1, h2, h3, by rw [h4]; congr 1; omega⟩
theorem glX_mem : ∀ {l : List (Option XcE)} {f : Nat} {x : Str} {g : GI}, (x, g) ∈ glX f l → ∃ j e, l[j]? = some (some e) ∧ e.x = x ∧ g = .exc (f + j) e.own
  | [], f, x, g, h => by cases h
  | o :: r, f, x, g, h => by
    rcases List.mem_append.mp h with z | z
    · cases o with
      | none => cases z
      | some e =>
        have z' : (x, g) = (e.x, GI.exc f e.own) := by simpa using z
        cases z'
        exact ⟨0, _, rfl, rfl, rfl⟩
    · obtain ⟨j, e, h1, h2, h4⟩ := glX_mem z
      exact ⟨j + 1, e, by simpa using h1, h2, by rw [h4]; congr 1; omega⟩
theorem nodupN_find : ∀ {qs : List LaSite} {q : LaSite}, nodupN (qs.map (·.l)) = true → q ∈ qs → qs.find? (fun z => z.l == q.l) = some q
  | [], q, _, h => by cases h
  | p :: qs, q, n, h => by
    simp only [List.map_cons, nodupN, Bool.and_eq_true, List.all_eq_true, Bool.not_eq_true', beq_eq_false_iff_ne] at n
    rcases List.mem_cons.mp h with z | z
    · subst z
      simp [List.find?]
    · have : p.l ≠ q.l := n.1 q.l (List.mem_map.mpr ⟨q, z, rfl⟩)
      rw [List.find?_cons_of_neg (by simpa using this)]
      exact nodupN_find n.2 z
end PrI
end DE
end
section
set_option Elab.async false
set_option linter.all false
set_option maxRecDepth 100000
set_option maxHeartbeats 4000000
/-! DE51: .. every def keeps its promise. -/
namespace DE
open PySem L2 PySem.SeqAt PyProof.Rows
/-- a def's code, as K has it -/
def CodeV (K : PySem.W.Frag) (f : Addr) (qual : Str) (cdv : Value) : Prop := ∃ (oc : Value) (od : Option Addr) (fd : FuncData) (osl : Array (Option Value)), K.lookup f = some ⟨oc, od, .func fd, osl⟩ ∧ fd.code = cdv ∧ PySem.W.codeIn K cdv qual = true
section
variable {W : Wd} {κ : Kx} {k : Nat} {Γ : List Str → Gm} {xfl : Nat → List Str} {P : Program} {w : World} {mg : Str → Option Value} {base : Heap}
theorem df_okC (ok : W.Ok) {x qual : Str} {st : Stmt} {f : Addr} {fd : FuncData} {N ps : List Str} {d : Df} (F : Fun W.K x qual st f fd) (Sc : FnScope N ps (defScope st)) (hps : ps.length = d.np) (hn : N.length = d.ns) (hnp : d.np ≤ d.ns)
    (hb : ∀ (cdv : Value) (A : Around) (outer : List Env) (s : Shared) (H : Hp) (E : XK), CodeV W.K f qual cdv → Room k (A.deeper (envOfC qual (defScope st) s.heap.objs.size f cdv)) →
      ∃ tc ag, (∀ i ∈ d.io, ¬ ag i) ∧ PSsv W (cxOf (L2.CX P w) P w W.K mg base N qual (defScope st) f cdv A outer s H E) (fun cls d _ H' => E cls d H') tc ag (defBody st) (exs κ d.body)) :
    FnOk P w W.K mg base (L2.CX P w) (k + 1) f fd ps (spF W (runDf κ d)) := by
  obtain ⟨oc, od, kV, doc, pm, an, cdv, ct, osl, rfl, lk, hcd⟩ := F.ex
  refine fn_of lk hcd Sc (fun vs H Q E h => ?_) fun A outer s H vs Q E hr h => ?_
  · obtain ⟨as, own, hl, _, _, hF⟩ := h
    unfold runDf at hF
    by_cases hc : (as.length == d.np && ioOk d.io as 0) = true
    · simp only [Bool.and_eq_true, beq_iff_eq] at hc
      omega
    · rw [if_neg hc] at hF
      exact hF.elim
  · obtain ⟨tc, ag, hio, hbb⟩ := hb cdv A outer s H E ⟨_, _, _, _, lk, rfl, hcd⟩ hr
    exact df_body ok hn hnp hio hbb h
theorem dd_okC (hW : W.Lam (Γ []).lams) (wc : W.Cls) (hΓ : ∀ N, (Γ N).N = N) (hxf : xfl = W.xfl) {I : DefI} {st : Stmt} {f : Addr} {fd : FuncData} (F : Fun W.K I.x I.qual st f fd) (hc : ckD Γ xfl I st = true) (hG : Mk0 W κ k (Γ I.N) P w mg base)
    (hL : ∀ (cdv : Value) (A : Around) (outer : List Env) (s : Shared) (H : Hp) (E : XK), CodeV W.K f I.qual cdv → ∀ q ∈ laSs I.d.body (defBody st), LaOk W (Γ I.N) (cxOf (L2.CX P w) P w W.K mg base I.N I.qual (defScope st) f cdv A outer s H E) q) :
    FnOk P w W.K mg base (L2.CX P w) (k + 2) f fd I.ps (spF W (runDf κ I.d)) ∧ Binds W.K fd I.ps [] := by
  simp only [ckD, Bool.and_eq_true, decide_eq_true_eq] at hc
  obtain ⟨⟨⟨⟨⟨⟨h1, h2⟩, h3⟩, h4⟩, h5⟩, h6⟩, h7⟩ := hc
  have S := scB_ok h1
  have ok := wd_ok hW
  have ndp : I.ps.Nodup := by
    rw [← S.pre]
    exact S.nd.sublist (List.take_sublist _ _)
  refine ⟨df_okC ok F S h4 h3 h5 fun cdv A outer s H E hcv hr => ?_, fun_binds F h2 ndp⟩
  refine ⟨mm (tcSs I.d.body), mm (agSs I.d.body), fun i hi => disj_ok h6 i hi, ?_⟩
  have tk : Takes (cxOf (L2.CX P w) P w W.K mg base I.N I.qual (defScope st) f cdv A outer s H E) (fun cls d _ H' => E cls d H') := takes_of rfl rfl rfl rfl
  have C : Ck W κ k (Γ I.N) (defScope st) true (cxOf (L2.CX P w) P w W.K mg base I.N I.qual (defScope st) f cdv A outer s H E) (fun cls d _ H' => E cls d H') :=
    ⟨(hΓ _).symm, by rw [hΓ]; exact S.nd, rfl, rfl, ok, wc, hr, rfl, tk, fun _ _ => rfl, hG _ rfl rfl rfl rfl rfl⟩
  exact snd_Ss I.d.body (defBody st) _ _ h7 ⟨C, passes_of rfl, rfl, rfl, hxf⟩ (hL cdv A outer s H E hcv)
end
namespace PrI
section
variable {R : PrI} {K : PySem.W.Frag} {P : Program} {w : World} {mg : Str → Option Value} {base h : Heap}
/-- what is known where the law's def is called -/
structure Kn (R : PrI) (K : PySem.W.Frag) (w : World) (mg : Str → Option Value) (base h : Heap) : Prop where
  kin : K.In base
  gl : base.Ns mainGlobals mg
  tb : ∀ p ∈ R.tf.map (He.cT K), LamX.TabB base mg p.1 p.2
  sx : He.SaysX R.fa R.fns R.tsL R.tf R.ex w h K
  ok : R.ok = true
namespace Kn
theorem fact (n : Kn R K w mg base h) {f : He.Fa} (m : f ∈ R.fa) : f.ok K = true := n.sx.t.d.facts m
theorem exs (n : Kn R K w mg base h) : R.cls.all (exC K) = true ∧ R.xcs.all (exX K) = true ∧ R.exM K = true ∧ R.exT K = true ∧ R.dicts.all (dicB K) = true ∧ R.dats.all (datB K) = true := by
  have e := n.sx.more
  simp only [PrI.ex, Bool.and_eq_true] at e
  exact e
theorem oks (n : Kn R K w mg base h) : (List.range R.dfs.length).all R.okD = true ∧ R.cls.all R.okC = true ∧ R.xcs.all PrI.okX = true := by
  have e := n.ok
  simp only [PrI.ok, Bool.and_eq_true] at e
  exact e
theorem okD_ (n : Kn R K w mg base h) {f : Nat} {e : DfE} (he : R.dat f = some e) : ckD R.gm R.xfl e.I e.st = true ∧ nodupN ((R.sites f).map (·.l)) = true ∧ (R.sites f).all (R.siteB f e) = true := by
  have z := List.all_eq_true.mp n.oks.1 f (List.mem_range.mpr (R.dat_lt he).1)
  unfold PrI.okD at z
  rw [he] at z
  simp only [Bool.and_eq_true] at z
  exact ⟨z.1.1, z.1.2, z.2⟩
/-- a def's function object -/
theorem fun_ (n : Kn R K w mg base h) {f : Nat} {e : DfE} (he : R.dat f = some e) : ∃ fd, Fun K e.I.x e.I.qual e.st ((R.wd K).fn f) fd := by
  have m : (⟨e.at_, e.I.x, e.I.qual, defArgs e.st, defBody e.st, defScope e.st, [], []⟩ : He.DefD) ∈ R.fns := by
    refine List.mem_append.mpr (.inl (List.mem_flatMap.mpr ⟨_, (R.dat_lt he).2, ?_⟩))
    simp [dD]
  obtain ⟨fd, F⟩ := n.sx.t.d.defs m
  refine ⟨fd, ?_⟩
  have e1 : (R.wd K).fn f = He.fAd K e.at_ := by
    show He.fAd K (R.fat f) = _
    unfold fat
    rw [he]
  rw [e1]
  exact FunD.to F
theorem keep (n : Kn R K w mg base h) {f : Nat} {e : DfE} (he : R.dat f = some e) : PySem.W.keepIn K (.ref ((R.wd K).fn f)) = true := by
  obtain ⟨fd, F⟩ := n.fun_ he
  exact F.kp
theorem mem_fl (n : Kn R K w mg base h) {f : Str} (hf : f ∈ R.fl) : True := trivial
theorem clsF (n : Kn R K w mg base h) {c : Nat} {e : ClE} (he : R.clt c = some e) {f : He.Fa} (m : f ∈ faC R.fl (some e)) : f.ok K = true :=
  n.fact (List.mem_append.mpr (.inr (List.mem_append.mpr (.inl (List.mem_flatMap.mpr ⟨_, R.clt_mem he, m⟩)))))
theorem excF (n : Kn R K w mg base h) {c : Nat} {e : XcE} (he : R.xct c = some e) {f : He.Fa} (m : f ∈ faX (some e)) : f.ok K = true :=
  n.fact (List.mem_append.mpr (.inr (List.mem_append.mpr (.inr (List.mem_append.mpr (.inl (List.mem_flatMap.mpr ⟨_, (R.xct_mem he).2, m⟩)))))))
theorem defF (n : Kn R K w mg base h) {f : Nat} {e : DfE} (he : R.dat f = some e) {x : Str} (e1 : e.at_ = (x, none)) : (He.Fa.glo x).ok K = true :=
  n.fact (List.mem_append.mpr (.inl (List.mem_flatMap.mpr ⟨_, (R.dat_lt he).2, by simp [faD, e1]⟩)))
theorem wcls (n : Kn R K w mg base h) : (R.wd K).Cls := by
  intro c f hf
  have hf' : f ∈ R.fl := hf
  show L2.Cls K (He.ga K (R.cnm c)) ∧ NoAttr K (He.ga K (R.cnm c)) f
  cases q : R.clt c with
  | some e =>
    have e1 : R.cnm c = e.x := by
      unfold cnm
      rw [q]
    rw [e1]
    refine ⟨He.cls_ok (n.clsF q (by simp [faC])), He.noat_ok (n.clsF q (?_ : He.Fa.noat e.x f ∈ _))⟩
    simp only [faC, List.mem_append, List.mem_map]
    exact .inr (.inr (.inl ⟨f, hf', rfl⟩))
  | none =>
    have e1 : R.cnm c = R.dc := by
      unfold cnm
      rw [q]
    rw [e1]
    refine ⟨He.cls_ok (n.fact ?_), He.noat_ok (n.fact (?_ : He.Fa.noat R.dc f ∈ _))⟩
    · simp [fa]
    · simp only [fa, List.mem_append, List.mem_map]
      exact .inr (.inr (.inr (.inr (.inr (.inr ⟨f, hf', rfl⟩)))))
theorem glo_ (n : Kn R K w mg base h) {x : Str} (c : (He.Fa.glo x).ok K = true) : mg x = some (.ref (He.ga K x)) := He.glo_ok n.kin n.gl c
/-- a site's lambda -/
theorem site_ (n : Kn R K w mg base h) {l : Nat} {L : LamI} (hl : R.lams l = some L) : ∃ e m q, R.lat l = some e ∧ R.dat e.maker = some m ∧ q ∈ R.sites e.maker ∧ q.l = l ∧ R.siteB e.maker m q = true ∧ L = ⟨R.laQ e.maker, q.params, q.body, q.scope, e.fr, q.is⟩ := by
  unfold lams at hl
  cases h1 : R.lat l with
  | none =>
    rw [h1] at hl
    cases hl
  | some e =>
    rw [h1] at hl
    simp only [Option.bind_some, Option.map_eq_some_iff] at hl
    obtain ⟨q, h2, rfl⟩ := hl
    have hq := List.mem_of_find?_eq_some h2
    have hql : q.l = l := by simpa using List.find?_some h2
    cases h3 : R.dat e.maker with
    | none =>
      unfold sites at hq
      rw [h3] at hq
      cases hq
    | some m => exact ⟨e, m, q, rfl, h3, hq, hql, List.all_eq_true.mp (n.okD_ h3).2.2 q hq, rfl⟩
end Kn
end
end PrI
end DE
end
section
set_option Elab.async false
set_option linter.all false
set_option maxRecDepth 100000
set_option maxHeartbeats 4000000
/-! DE52: .. what the module's names are. -/
namespace DE
open PySem L2 PySem.SeqAt PyProof.Rows
namespace PrI
variable {R : PrI} {K : PySem.W.Frag} {P : Program} {w : World} {mg : Str → Option Value} {base h : Heap}
structure Lv (R : PrI) (K : PySem.W.Frag) (P : Program) (w : World) (mg : Str → Option Value) (base : Heap) (n : Nat) : Prop where
  fn : ∀ f e, R.dat f = some e → ∃ fd, Fun K e.I.x e.I.qual e.st ((R.wd K).fn f) fd ∧ FnOk P w K mg base (L2.CX P w) (2 * n + 2) ((R.wd K).fn f) fd e.I.ps (spF (R.wd K) (R.pg.call n f)) ∧ Binds K fd e.I.ps []
  la : ∀ l L, R.lams l = some L → LamR P w K mg base (R.wd K) (2 * n + 2) L (R.pg.call n l)
theorem Lv.fr {n : Nat} (v : Lv R K P w mg base n) {f : Nat} {e : DfE} (he : R.dat f = some e) : L2.FnR P w K mg base (L2.CX P w) (2 * n + 2) ((R.wd K).fn f) (spF (R.wd K) (R.pg.call n f)) := by
  obtain ⟨fd, _, h1, h2⟩ := v.fn f e he
  exact (FnOk.raw h1 h2 .nil).imp fun vs H Q E z => by
    rw [List.append_nil]
    exact z
theorem isFn_ty {v : Value} (h : PySem.W.isFn K v = true) : PySem.W.typeIn K v = some (.type "function") := by
  unfold PySem.W.isFn at h
  exact eq_of_beq h
theorem gok_of (n : Kn R K w mg base h) {m : Nat} (v : Lv R K P w mg base m) {X : Cx} (e1 : X.prog = P) (e2 : X.w = w) (e3 : X.K = K) (e4 : X.mg = mg) (e5 : X.base = base) {x : Str} {g : GI} (hg : (x, g) ∈ R.gl) : GOk (R.wd K) (R.pg.kx m) (2 * m + 2) X x g := by
  subst e1 e2 e3 e4 e5
  simp only [gl, List.mem_append, List.mem_map] at hg
  rcases hg with z | z | z | ⟨y, hy, z⟩ | ⟨q, hq, z⟩ | ⟨q, hq, z⟩
  · obtain ⟨j, e, h1, h2, rfl⟩ := glD_mem z
    rw [Nat.zero_add]
    have he : R.dat j = some e := by
      unfold dat
      rw [h1]
    have ef : (R.wd X.K).fn j = He.ga X.K x := by
      show He.fAd X.K (R.fat j) = _
      unfold fat
      rw [he]
      dsimp only
      rw [h2]
      rfl
    refine ⟨?_, n.keep he, v.fr he, ?_⟩
    · rw [ef]
      exact n.glo_ (n.defF he h2)
    · show (R.dat j).isSome = true
      rw [he]
      rfl
  · obtain ⟨j, e, i, h1, h2, h3, rfl⟩ := glC_mem z
    rw [Nat.zero_add]
    subst h2
    have he : R.clt j = some e := by
      unfold clt
      rw [h1]
    have ec : (R.wd X.K).cls j = He.ga X.K e.x := by
      show He.ga X.K (R.cnm j) = _
      unfold cnm
      rw [he]
    have hm := R.clt_mem he
    have ei : (R.pg.kx m).init j = i := by
      show (match R.clt j with
        | some e => e.init.getD 100000
        | none => 100000) = i
      rw [he]
      dsimp only
      rw [h3]
      rfl
    have oc := List.all_eq_true.mp n.oks.2.1 _ hm
    simp only [okC, h3, Bool.and_eq_true] at oc
    obtain ⟨_, oc⟩ := oc
    cases hd : R.dat i with
    | none =>
      rw [hd] at oc
      cases oc
    | some d =>
      rw [hd] at oc
      simp only [decide_eq_true_eq] at oc
      have ef : (R.wd X.K).fn i = He.ma X.K (He.ga X.K e.x) "__init__" := by
        show He.fAd X.K (R.fat i) = _
        unfold fat
        rw [hd]
        dsimp only
        rw [oc]
        rfl
      have hx := List.all_eq_true.mp n.exs.1 _ hm
      simp only [exC, h3] at hx
      refine ⟨?_, ⟨(R.wd X.K).fn i, ?_, ?_⟩, ?_⟩
      · rw [ec]
        exact n.glo_ (n.clsF he (by simp [faC]))
      · rw [ec, ef]
        exact He.mkr_ok (n.clsF he (by simp [faC, h3]))
      · rw [ei]
        exact v.fr hd
      · rw [ec]
        exact insB_ok (He.cls_ok (n.clsF he (by simp [faC]))) hx
  · obtain ⟨j, e, h1, h2, rfl⟩ := glX_mem z
    rw [Nat.zero_add]
    subst h2
    have he : R.xct j = some e := by
      unfold xct
      rw [h1]
    have ec : (R.wd X.K).xcls j = He.ga X.K e.x := by
      show He.ga X.K (R.xnm j) = _
      unfold xnm
      rw [he]
    have efl : (R.wd X.K).xfl j = e.flds := by
      show R.xfl j = _
      unfold xfl
      rw [he]
    have ear : (R.pg.kx m).xar j = e.flds.length := by
      show (match R.xct j with
        | some e => e.flds.length
        | none => 0) = _
      rw [he]
    have hm := R.xct_mem he
    have ox := List.all_eq_true.mp n.oks.2.2 _ hm.2
    simp only [okX, Bool.and_eq_true] at ox
    obtain ⟨o1, o2⟩ := ox
    have hx := List.all_eq_true.mp n.exs.2.1 _ hm.2
    simp only [exX, Bool.and_eq_true] at hx
    obtain ⟨x1, x2⟩ := hx
    have hno : ∀ f ∈ e.flds, PySem.W.findIn X.K (.ref (He.ga X.K e.x)) f = some none := fun f hf => He.noat_ok (n.excF he (by
      simp only [faX, List.mem_append, List.mem_map]
      exact .inr (.inl ⟨f, hf, rfl⟩)) : (He.Fa.noat e.x f).ok X.K = true)
    show _ ∧ _ ∧ _ ∧ _ ∧ _ ∧ _
    rw [ec, efl, ear]
    refine ⟨n.glo_ (n.excF he (by simp [faX])), fun a => ?_, xfB_ok x1, nodupS_ok o1, hno, ?_⟩
    · have em := List.all_eq_true.mp n.exs.2.2.1 j (List.mem_range.mpr hm.1)
      rw [he] at em
      simp only [Bool.and_eq_true, decide_eq_true_eq, List.all_eq_true, List.mem_range] at em
      show PySem.W.exmOne X.K (.ref (He.ga X.K (R.xnm a))) _ = some (R.sub a j)
      cases ha : R.xct a with
      | some ea => exact em.2 a (R.xct_mem ha).1
      | none =>
        have en : R.xnm a = R.dx := by
          unfold xnm
          rw [ha]
        have es : R.sub a j = false := by
          unfold sub
          rw [ha]
          have : (a == j) = false := by
            simp only [beq_eq_false_iff_ne]
            intro q
            rw [q, he] at ha
            cases ha
          rw [this]
          simp
        rw [en, es]
        exact em.1
    · by_cases ho : e.own = true
      · rw [if_pos ho]
        rw [if_pos ho] at o2
        simp only [Bool.and_eq_true, decide_eq_true_eq] at o2
        have x2' : oexB X.K (He.ga X.K e.x) = true ∧ PySem.W.typeIn X.K (.ref (He.ga X.K e.x)) = some (.type "type") := by simpa [ho] using x2
        have T := oexB_ok x2'.1 (xfB_ok x1).exC x2'.2 (He.keep_ok (n.excF he (by simp [faX, ho]) : (He.Fa.keep e.x).ok X.K = true))
        have hM := He.meth_ok (n.excF he (by simp [faX, ho]) : (He.Fa.meth e.x "__init__").ok X.K = true)
        obtain ⟨fd, F⟩ := n.sx.t.d.defs (List.mem_append.mpr (.inr (List.mem_flatMap.mpr ⟨_, hm.2, by simp [dX, ho]⟩)) : (⟨(e.x, some "__init__"), "__init__", e.x ++ ".__init__", defArgs e.st, defBody e.st, defScope e.st, [], []⟩ : He.DefD) ∈ R.fns)
        obtain ⟨ps, p1, p2⟩ := xi_ok (P := X.prog) (w := X.w) (mg := X.mg) (base := X.base) (FunD.to F) T hno o2.1
        exact ⟨_, fd, ps, T, hM.at_, isFn_ty hM.fn, p1 (2 * m + 1), p2, o2.2, rfl⟩
      · rw [if_neg ho]
        rw [if_neg ho] at o2
        have : e.flds = [] := List.isEmpty_iff.mp o2
        rw [this]
        obtain ⟨c1, c2, c3, c4⟩ := He.exc_ok (n.excF he (by simp [faX, ho]) : (He.Fa.exc e.x).ok X.K = true)
        exact ⟨_, _, _, _, PySem.F.excBase_ValueError, c1, c2, raises_own c3 c4, rfl⟩
  · cases z
    exact He.free_ok n.kin n.gl (n.fact (by simp [fa, hy]) : (He.Fa.free x).ok X.K = true)
  · cases z
    obtain ⟨i, hi, e⟩ := List.mem_iff_getElem.mp hq
    obtain ⟨es, k, kd⟩ := n.sx.t.tab i (t := ((fun K => He.ga K q.1), strsD q.2.1)) (by
      unfold tsL
      rw [List.getElem?_map, List.getElem?_eq_getElem hi, e]
      rfl)
    have hb := List.all_eq_true.mp n.exs.2.2.2.2.1 q hq
    have wd := dicB_ok (X := X) rfl kd hb
    refine ⟨_, n.glo_ (n.fact (by
      simp only [fa, List.mem_append, List.mem_map]
      exact .inr (.inr (.inr (.inr (.inl ⟨q, hq, rfl⟩)))))), wd, fun d hd H => ?_⟩
    obtain ⟨es', n', _, en⟩ := wd.ex
    exact ents_vals _ en d hd
  · cases z
    have hb := List.all_eq_true.mp n.exs.2.2.2.2.2 q hq
    unfold datB at hb
    split at hb
    · rename_i u hu
      have vd := valB_ok hb
      exact ⟨u, PySem.W.mg_of n.kin n.gl hu, (val_rel (W := R.wd X.K) vd).1, (val_rel vd).2⟩
    · cases hb
theorem meth_ (n : Kn R K w mg base h) {m : Nat} (v : Lv R K P w mg base m) {c f : Nat} {mm : Str} (hm : (R.pg.kx m).meth c mm = some f) : L2.Cls K ((R.wd K).cls c) ∧ Meth K ((R.wd K).cls c) mm ((R.wd K).fn f) ∧ mm ∉ (R.wd K).flds c ∧ L2.FnR P w K mg base (L2.CX P w) (2 * m + 2) ((R.wd K).fn f) (spF (R.wd K) (R.pg.call m f)) := by
  have hm' : (R.clt c).bind (fun e => e.meths.lookup mm) = some f := hm
  cases he : R.clt c with
  | none =>
    rw [he] at hm'
    cases hm'
  | some e =>
    rw [he] at hm'
    have hl : e.meths.lookup mm = some f := hm'
    have mem := PySem.mem_of_lookup hl
    have ec : (R.wd K).cls c = He.ga K e.x := by
      show He.ga K (R.cnm c) = _
      unfold cnm
      rw [he]
    have oc := List.all_eq_true.mp n.oks.2.1 _ (R.clt_mem he)
    simp only [okC, Bool.and_eq_true, List.all_eq_true] at oc
    have om := oc.1 _ mem
    simp only [Bool.not_eq_true'] at om
    cases hd : R.dat f with
    | none =>
      rw [hd] at om
      cases om.2
    | some d =>
      rw [hd] at om
      have o2 := of_decide_eq_true om.2
      have ef : (R.wd K).fn f = He.ma K (He.ga K e.x) mm := by
        show He.fAd K (R.fat f) = _
        unfold fat
        rw [hd]
        dsimp only
        rw [o2]
        rfl
      refine ⟨?_, ?_, ?_, v.fr hd⟩
      · rw [ec]
        exact He.cls_ok (n.clsF he (by simp [faC]))
      · rw [ec, ef]
        refine He.meth_ok (n.clsF he (?_ : He.Fa.meth e.x mm ∈ _))
        simp only [faC, List.mem_append, List.mem_map]
        exact .inr (.inr (.inr ⟨_, mem, rfl⟩))
      · intro z
        have z' : mm ∈ R.fl := z
        rw [List.contains_iff_mem.mpr z'] at om
        cases om.1
theorem gk_of (n : Kn R K w mg base h) {m : Nat} (v : Lv R K P w mg base m) (N : List Str) : Mk0 (R.wd K) (R.pg.kx m) (2 * m + 2) (R.gm N) P w mg base := by
  intro X e1 e2 e3 e4 e5
  have e3' : X.K = K := e3
  refine ⟨fun x g hl => gok_of n v e1 e2 e3' e4 e5 (PySem.mem_of_lookup hl), fun mm c f hm => ?_, fun c f hm => ?_, fun f hf => ?_, R.wd_lam K, fun l L hl => ?_, fun f hf c => ?_⟩
  all_goals subst e1 e2 e3' e4 e5
  · obtain ⟨a1, a2, a3, a4⟩ := meth_ n v hm
    exact ⟨a1, a2, a3, a4⟩
  · obtain ⟨a1, a2, a3, a4⟩ := meth_ n v hm
    refine ⟨a1, a2, a3, a4, ?_, a2.fn⟩
    exact a2.at_
  · have hf' : (R.dat f).isSome = true := hf
    cases he : R.dat f with
    | none =>
      rw [he] at hf'
      cases hf'
    | some e => exact ⟨v.fr he, n.keep he⟩
  · exact v.la l L hl
  · exact List.contains_iff_mem.mp hf
end PrI
end DE
end
section
set_option Elab.async false
set_option linter.all false
set_option maxRecDepth 100000
set_option maxHeartbeats 4000000
/-! DE53: .. the induction over the depth of calls. -/
namespace DE
open PySem L2 PySem.SeqAt PyProof.Rows
namespace PrI
variable {R : PrI} {K : PySem.W.Frag} {P : Program} {w : World} {mg : Str → Option Value} {base h : Heap}
theorem pg_df {f : Nat} {e : DfE} (he : R.dat f = some e) : R.pg.df f = some e.I.d := by
  show (match R.dat f with
    | some e => some e.I.d
    | none => (R.lat f).map fun (e : LmE) => lamDf (e.ps.length + e.fr.length) e.b) = _
  rw [he]
theorem call_def {n f : Nat} {e : DfE} (he : R.dat f = some e) : R.pg.call (n + 1) f = runDf (R.pg.kx n) e.I.d := by
  funext as
  show (match R.pg.df f with
    | some d => runDf (R.pg.kx n) d as
    | none => .stk) = _
  rw [pg_df he]
theorem call_lam {n l : Nat} {e : LmE} (hn : R.dat l = none) (he : R.lat l = some e) : R.pg.call (n + 1) l = runDf (R.pg.kx n) (lamDf (e.ps.length + e.fr.length) e.b) := by
  funext as
  have : R.pg.df l = some (lamDf (e.ps.length + e.fr.length) e.b) := by
    show (match R.dat l with
      | some e => some e.I.d
      | none => (R.lat l).map fun (e : LmE) => lamDf (e.ps.length + e.fr.length) e.b) = _
    rw [hn, he]
    rfl
  show (match R.pg.df l with
    | some d => runDf (R.pg.kx n) d as
    | none => .stk) = _
  rw [this]
/-- the look at a site, one by one -/
structure Site (R : PrI) (f : Nat) (e : DfE) (q : LaSite) (le : LmE) : Prop where
  mkr : le.maker = f
  ar : argsB le.ps q.params = true
  fc : ∀ y ∈ q.scope.names, y.2 = .free → (defScope e.st).names.lookup y.1 = some .cell ∧ y.1 ∈ le.fr
  fk : ∀ y ∈ le.fr, (y, NameKind.free) ∈ q.scope.names
  at_ : q.is.map (fun i => e.I.N[i]?) = le.fr.map some
  mks : f ∈ R.mks
  ns : NdefX.NScope (le.ps ++ le.fr) le.ps le.fr q.scope
  ck : ckE (R.gm (le.ps ++ le.fr)) q.scope le.b q.body = true
  no : R.dat q.l = none
theorem site_of {f : Nat} {e : DfE} {q : LaSite} {le : LmE} (hl : R.lat q.l = some le) (hs : R.siteB f e q = true) : Site R f e q le := by
  unfold siteB at hs
  rw [hl] at hs
  simp only [Bool.and_eq_true, beq_iff_eq, decide_eq_true_eq, List.all_eq_true, Option.isNone_iff_eq_none] at hs
  obtain ⟨⟨⟨⟨⟨⟨⟨⟨h1, h2⟩, h3⟩, h4⟩, h5⟩, h6⟩, h7⟩, h8⟩, h9⟩ := hs
  refine ⟨h1, h2, fun y hy z => ?_, fun y hy => ?_, h5, by simpa using h6, NdefX.nscope_by h7, h8, h9⟩
  · have a := h3 y hy
    rw [z] at a
    simp only [freeK, Bool.not_true, Bool.false_or, Bool.and_eq_true] at a
    refine ⟨?_, by simpa using a.2⟩
    have a1 := a.1
    unfold cellK at a1
    split at a1
    · assumption
    · cases a1
  · have a := h4 y hy
    simp only [List.any_eq_true, Bool.and_eq_true, decide_eq_true_eq] at a
    obtain ⟨⟨z1, z2⟩, hz, e1, e2⟩ := a
    dsimp only at e1 e2
    subst e1
    unfold freeK at e2
    split at e2
    · exact hz
    · cases e2
theorem stk_sp {W : Wd} {vs : List V} {H : Hp} {Q : VK} {E : XK} (z : spF W (fun _ => .stk) vs H Q E) : False := by
  obtain ⟨as, own, _, _, _, hF⟩ := z
  exact hF.elim
theorem lv0 (n : Kn R K w mg base h) : Lv R K P w mg base 0 := by
  refine ⟨fun f e he => ?_, fun l L hl A outer s H f c' cl pm ctv ws us zs av vs ds d os Q hr e0 hf hc r1 cz zf tb nw rv rd nd hk _ => by cases hk⟩
  obtain ⟨fd, F⟩ := n.fun_ he
  have hc := (n.okD_ he).1
  simp only [ckD, Bool.and_eq_true, decide_eq_true_eq] at hc
  obtain ⟨⟨⟨⟨⟨⟨h1, h2⟩, _⟩, _⟩, _⟩, _⟩, _⟩ := hc
  have S := scB_ok h1
  have ndp : e.I.ps.Nodup := by
    rw [← S.pre]
    exact S.nd.sublist (List.take_sublist _ _)
  exact ⟨fd, F, ⟨fun vs H Q E z => (stk_sp z).elim, fun A outer s H args us vs Q E hr e0 hb hv z => (stk_sp z).elim⟩, fun_binds F h2 ndp⟩
theorem laok (n : Kn R K w mg base h) {f : Nat} {e : DfE} (he : R.dat f = some e) {cdv : Value} {A : Around} {outer : List Env} {s : Shared} {H : Hp} {E : XK} (hcv : CodeV K ((R.wd K).fn f) e.I.qual cdv) {q : LaSite} (hq : q ∈ laSs e.I.d.body (defBody e.st)) :
    LaOk (R.wd K) (R.gm e.I.N) (cxOf (L2.CX P w) P w K mg base e.I.N e.I.qual (defScope e.st) ((R.wd K).fn f) cdv A outer s H E) q := by
  have hsi : R.sites f = laSs e.I.d.body (defBody e.st) := by
    unfold sites
    rw [he]
  obtain ⟨_, k2, k3⟩ := n.okD_ he
  rw [hsi] at k2 k3
  have hs := List.all_eq_true.mp k3 q hq
  have hf := nodupN_find k2 hq
  cases hl : R.lat q.l with
  | none =>
    unfold siteB at hs
    rw [hl] at hs
    cases hs
  | some le =>
    have T := site_of hl hs
    have elq : R.laQ f = (e.I.qual ++ ".<locals>.") ++ "<lambda>" := by
      unfold laQ
      rw [he]
    have el : R.lams q.l = some ⟨R.laQ le.maker, q.params, q.body, q.scope, le.fr, q.is⟩ := by
      unfold lams
      rw [hl]
      simp only [Option.bind_some]
      rw [T.mkr, hsi, hf]
      rfl
    refine ⟨_, el, rfl, rfl, rfl, rfl, ?_⟩
    obtain ⟨oc, od, fd, osl, lk, hcd, hci⟩ := hcv
    obtain ⟨c, rfl⟩ := He.codeIn_ref hci
    have ef : (R.wd K).fn f = He.fAd K (R.fat f) := rfl
    rw [ef] at lk
    have ec : He.codeOf K (R.fat f) = c := He.codeOf_eq lk hcd
    have mt : R.fat f ∈ R.tf := List.mem_map.mpr ⟨f, T.mks, rfl⟩
    have eT : He.cT K (R.fat f) = (c, (He.cT K (R.fat f)).2) := by
      unfold He.cT
      rw [ec]
    refine ⟨⟨c, (He.cT K (R.fat f)).2, ?_, rfl, ?_, fun p hp hpe => ?_⟩, ?_, ?_, fun y hy z => (T.fc y hy z).1, fun y hy z => (T.fc y hy z).2, T.fk, T.at_, fun _ => rfl⟩
    · have := n.tb _ (List.mem_map.mpr ⟨_, mt, rfl⟩)
      rw [eT] at this
      exact this
    · show (_, R.laQ le.maker) ∈ R.mks.map fun f => ((He.cT K (R.fat f)).2, R.laQ f)
      rw [T.mkr]
      exact List.mem_map.mpr ⟨f, T.mks, rfl⟩
    · obtain ⟨g, hg, eg⟩ := List.mem_map.mp (show p ∈ R.mks.map fun f => ((He.cT K (R.fat f)).2, R.laQ f) from hp)
      subst eg
      have xt := n.exs.2.2.2.1
      simp only [exT, List.all_eq_true, Bool.or_eq_true, Bool.not_eq_true', decide_eq_false_iff_not, decide_eq_true_eq] at xt
      show R.laQ g = R.laQ le.maker
      rw [T.mkr]
      rcases xt g hg f T.mks with z | z
      · exact (z hpe).elim
      · exact z
    · show _ = R.laQ le.maker
      rw [T.mkr, elq]
      rfl
    · show defaultsOf q.params _ = _
      rw [(argsB_ok T.ar).1]
      rfl
theorem lvS (n : Kn R K w mg base h) {m : Nat} (v : Lv R K P w mg base m) : Lv R K P w mg base (m + 1) := by
  refine ⟨fun f e he => ?_, fun l L hl => ?_⟩
  · obtain ⟨fd, F⟩ := n.fun_ he
    rw [call_def he]
    exact ⟨fd, F, dd_okC (W := R.wd K) (Γ := R.gm) (xfl := R.xfl) (R.wd_lam K) n.wcls (fun _ => rfl) rfl F (n.okD_ he).1 (gk_of n v _) fun cdv A outer s H E hcv q hq => laok n he hcv hq⟩
  · obtain ⟨e, md, q, h1, h2, h3, h4, h5, rfl⟩ := n.site_ hl
    subst h4
    have T := site_of h1 h5
    rw [call_lam T.no h1]
    have nd := T.ns.nd
    refine lam_ok (W := R.wd K) (k := 2 * m + 3) (wd_ok (R.wd_lam K)) T.ns rfl (fun cl pm cv ctv us hl => ?_) fun A outer s H E F f hF hr => ?_
    · exact bind_plain (argsB_ok T.ar).2 (List.nodup_append.mp nd).1 (argsB_ok T.ar).1 rfl hl
    · have tk : Takes (NdefX.ncx (L2.CX P w) P w K mg base (e.ps ++ e.fr) F f A outer s H E) (fun cls d _ H' => E cls d H') := takes_of rfl rfl rfl rfl
      exact ⟨_, _, snd_E e.b q.body q.scope false _ _ T.ck ⟨rfl, nd, hF, rfl, wd_ok (R.wd_lam K), n.wcls, hr, rfl, tk, (fun z => by cases z), gk_of n v _ _ rfl rfl rfl rfl rfl⟩⟩
theorem lv_all (n : Kn R K w mg base h) : ∀ m, Lv R K P w mg base m
  | 0 => lv0 n
  | m + 1 => lvS n (lv_all n m)
end PrI
end DE
end
section
set_option Elab.async false
set_option linter.all false
set_option maxRecDepth 100000
set_option maxHeartbeats 4000000
/-! DE54: a law by its program's data. -/
namespace DE
open PySem PySem.Spec L2 PySem.SeqAt PyProof.Rows
theorem Fun.uniq {K : PySem.W.Frag} {x qual x' qual' : Str} {st st' : Stmt} {f : Addr} {fd fd' : FuncData} (F : Fun K x qual st f fd) (G : Fun K x' qual' st' f fd') : fd = fd' := by
  obtain ⟨oc, od, kV, doc, pm, an, cdv, ct, osl, _, lk, _⟩ := F.ex
  obtain ⟨oc', od', kV', doc', pm', an', cdv', ct', osl', _, lk', _⟩ := G.ex
  rw [lk] at lk'
  have e := congrArg Obj.data (Option.some.inj lk')
  exact Data.func.inj e
namespace PrI
/-- a script's answers: data, or a list that may be changed -/
def Says (R : PrI) (n f : Nat) (ns : List Int) : Prop := ∀ c, (c = .pu (.lst (ns.map .int)) ∨ c = .lst (ns.map fun z => .pu (.int z))) → ∃ os, R.pg.call n f [c] = .ok (.pu (.bl true)) os
theorem ints_repD {W : Wd} {H : Hp} : ∀ ns : List Int, RepDs W H (ns.map D.int) (ns.map V.int)
  | [] => rfl
  | n :: ns => ⟨_, _, rfl, rfl, ints_repD ns⟩
theorem says_sp {R : PrI} {K : PySem.W.Frag} {n f : Nat} {ns : List Int} (hs : R.Says n f ns) {H : Hp} {a : Addr} (hT : ∀ p ∈ R.tf.map (He.cT K), H p.2 = some (.tbl #[])) (hS : SqL K H a (ns.map V.int)) :
    spF (R.wd K) (R.pg.call n f) [.ref a] H (fun v _ => v = .bl true) fun _ _ _ => False := by
  have tb : LamX.Tabs (R.wd K).tabs H := fun p hp => by
    obtain ⟨g, hg, e⟩ := List.mem_map.mp (show p ∈ R.mks.map (fun f => ((He.cT K (R.fat f)).2, R.laQ f)) from hp)
    subst e
    refine ⟨#[], hT _ (List.mem_map.mpr ⟨R.fat g, List.mem_map.mpr ⟨g, hg, rfl⟩, rfl⟩), ?_, fun pos cv z => ?_⟩
    · trivial
    · simp [codeAmong] at z
  have fin : ∀ (c : C) (own : Own), (c = .pu (.lst (ns.map .int)) ∨ c = .lst (ns.map fun z => .pu (.int z))) → SRep (R.wd K) [c] [some (V.ref a)] H own → spF (R.wd K) (R.pg.call n f) [.ref a] H (fun v _ => v = .bl true) fun _ _ _ => False := fun c own hc S => by
    obtain ⟨os, e⟩ := hs c hc
    refine ⟨[c], own, rfl, fun x hx => ?_, S, ?_⟩
    · rw [List.mem_singleton.mp hx]
      rcases hc with z | z <;> rw [z] <;> simp
    · rw [e]
      intro v H' own' M _ r _ _ _
      exact r.1.2
  have pure : FzL K H a (ns.map V.int) → spF (R.wd K) (R.pg.call n f) [.ref a] H (fun v _ => v = .bl true) fun _ _ _ => False := fun z => by
    have r : RepDs (R.wd K) H [D.lst (ns.map .int)] [V.ref a] := ⟨_, _, rfl, ⟨a, _, rfl, z, ints_repD ns⟩, rfl⟩
    exact fin _ _ (.inl rfl) (srep_pure r tb)
  rcases hS with (h1 | h1) | h1
  · refine fin (.lst (ns.map fun z => .pu (.int z))) (fun i => if i = 0 then [a] else []) (.inr rfl) ⟨fun i => ?_, fun i => ?_, fun i j b hij hi hj => ?_, tb, by simp⟩
    · cases i with
      | zero =>
        refine .inr ⟨.ref a, rfl, ?_⟩
        show RepC _ H (.lst (ns.map fun z => C.pu (.int z))) _ [a]
        refine ⟨a, _, [], rfl, rfl, h1, ?_⟩
        have := RepCs.pu (ints_repD (W := R.wd K) (H := H) ns)
        rwa [List.map_map] at this
      | succ i =>
        refine .inl ⟨?_, by simp⟩
        unfold look
        simp
    · by_cases z : i = 0 <;> simp [z]
    · by_cases zi : i = 0
      · by_cases zj : j = 0
        · omega
        · simp [zj] at hj
      · simp [zi] at hi
  · exact pure (.inl h1)
  · exact pure (.inr h1)
theorem law_walk {l : PySem.W.OpenLaw} {q : Program} {loose : List Str} {XP : (Str → Option Value) → Heap → Prop} {d : DefRec} {m : Nat} {R : PrI} {f n : Nat} {e : DfE} {x : Str} (hn : l.most = some 63) (hdf : d.params.defaults = [])
    (hR : R.ok = true) (he : R.dat f = some e) (hat : e.at_ = (d.name, none)) (hps : e.I.ps = [x]) (hr : Room (2 * n + 2) callerA) (hs : ∀ ns : List Int, ns.length ≤ 63 → (∀ z ∈ ns, Builtin.Int.intBits z ≤ 1048576) → R.Says n f ns) :
    PySem.W.WalkO q loose XP (He.hookX m R.fa R.fns R.tsL R.tf R.ex).says l.row.toRowW d [] (fun f vs => PySem.call f vs) := by
  refine Att.attach_callB hn hdf fun w s₀ s₁ mg mb fa o pm cd doc a vs ns G Y ho hd hcd hmg hobj hints hlen hbits hg => ?_
  obtain ⟨K, KX, c⟩ := Y
  have kn : ∀ base : Heap, K.In base → base.Ns mainGlobals mg → (∀ p ∈ R.tf.map (He.cT K), LamX.TabB base mg p.1 p.2) → R.Kn K w mg base s₁.heap := fun base h1 h2 h3 => ⟨h1, h2, h3, c, hR⟩
  have mD : (⟨e.at_, e.I.x, e.I.qual, defArgs e.st, defBody e.st, defScope e.st, [], []⟩ : He.DefD) ∈ R.fns := by
    refine List.mem_append.mpr (.inl (List.mem_flatMap.mpr ⟨_, (R.dat_lt he).2, ?_⟩))
    simp [dD]
  obtain ⟨fd, FD⟩ := c.t.d.defs mD
  have F : Fun K e.I.x e.I.qual e.st (He.fAd K e.at_) fd := FunD.to FD
  have ef : (R.wd K).fn f = He.fAd K e.at_ := by
    show He.fAd K (R.fat f) = _
    unfold fat
    rw [he]
  have eg : He.fAd K e.at_ = fa := by
    have hm : (He.Fa.glo d.name) ∈ R.fa := List.mem_append.mpr (.inl (List.mem_flatMap.mpr ⟨_, (R.dat_lt he).2, by simp [faD, hat]⟩))
    have z := He.glo_ok KX G.T.g (c.t.d.facts hm)
    rw [hmg] at z
    have z' := Value.ref.inj (Option.some.inj z)
    rw [hat, z']
    rfl
  have ck : R.okD f = true := by
    have z := hR
    simp only [PrI.ok, Bool.and_eq_true] at z
    exact List.all_eq_true.mp z.1 f (List.mem_range.mpr (R.dat_lt he).1)
  unfold okD at ck
  rw [he] at ck
  simp only [Bool.and_eq_true, ckD, decide_eq_true_eq] at ck
  have ha := ck.1.1.1.1.1.1.1.2
  refine LamX.law_callTs (k := 2 * n + 2) (fa := fa) (cs := R.tf.map (He.cT K)) (fd := fd) (x := x) (sp := spF (R.wd K) (R.pg.call n f)) (CX := L2.CX l.prog w) KX G.T.g G.T.b G.T.builtins G.T.nolimit hg (fun p hp => ?_) (fun p hp => ?_) (fun p hp => ?_) G.T.bmain hobj hints (Nat.le_trans hlen (by decide)) hr (fun base h1 h2 h3 => ?_) (fun s u => ?_) (fun H hH hS => ?_) (fun H e s' z => ?_)
  · obtain ⟨p', hp', rfl⟩ := List.mem_map.mp hp
    exact c.empty p' hp'
  · obtain ⟨p', hp', rfl⟩ := List.mem_map.mp hp
    exact c.out p' hp'
  · obtain ⟨p', hp', rfl⟩ := List.mem_map.mp hp
    exact PySem.W.codeHd_of_K KX (c.hd p' hp')
  · obtain ⟨fd', F', h4, h5⟩ := (lv_all (P := l.prog) (kn base h1 h2 h3) n).fn f e he
    rw [ef, eg] at F' h4
    rw [eg] at F
    rw [Fun.uniq F F']
    rw [hps] at h4
    exact h4
  · obtain ⟨oc, od, kV, doc, pm, an, cdv, ct, osl, efd, lk, hcd⟩ := F.ex
    rw [efd]
    have hm := (argsB_ok ha).2
    rw [hps] at hm
    exact .of_eq (bind_plain (us := [u]) hm (by simp) (argsB_ok ha).1 rfl rfl)
  · exact says_sp (hs ns hlen hbits) hH hS
  · obtain ⟨_, _, _, _, _, _, _, _, _, _, _, _, z⟩ := z
    exact z.elim
end PrI
end DE
end
section
set_option Elab.async false
set_option linter.all false
set_option maxRecDepth 100000
set_option maxHeartbeats 4000000
open PySem L2 DE
namespace DT
open PySem L2 DE
/-- is_number -/
def b0 : Ss := (.cons (.ret (.and (.isi (.rd (.v 0)) .int) (.and (.not (.isi (.rd (.v 0)) .bool)) (.chain .le .le (.rd (.v 1)) (.rd (.v 0)) (.rd (.v 2)))))) .nil)
def d0 : DefI := { x := "is_number", qual := "is_number", N := ["value", "least", "most"], ps := ["value", "least", "most"], d := { np := 3, ns := 3, body := b0, io := [0, 1, 2] } }
/-- is_place -/
def b1 : Ss := (.cons (.ife (.e (.isi (.rd (.v 0)) .str)) (.cons (.ret (.cmp .isin (.rd (.v 0)) (.tup (.cons (.k (.str "held")) (.cons (.k (.str "gone")) .nil))))) .nil) .nil) (.cons (.ret (.call 0 (.cons (.rd (.v 0)) (.cons (.k (.int 0)) (.cons (.bin .sub (.rd (.v 1)) (.k (.int 1))) .nil))))) .nil))
def d1 : DefI := { x := "is_place", qual := "is_place", N := ["value", "rooms"], ps := ["value", "rooms"], d := { np := 2, ns := 2, body := b1, io := [0, 1] } }
/-- is_formed -/
def b2 : Ss := (.cons (.ife (.or (.not (.e (.isi (.rd (.v 0)) .tup))) (.or (.not (.e (.rd (.v 0)))) (.or (.not (.e (.isi (.rd (.x (.v 0) (.k (.int 0)))) .str))) (.e (.cmp .notin (.rd (.x (.v 0) (.k (.int 0)))) (.rd (.v 1))))))) (.cons (.ret (.k (.bl false))) .nil) .nil) (.cons (.asg 3 (.rd (.x (.v 1) (.rd (.x (.v 0) (.k (.int 0))))))) (.cons (.ife (.e (.cmp .ne (.bi .len (.cons (.rd (.v 0)) .nil)) (.bin .add (.bi .len (.cons (.rd (.v 3)) .nil)) (.k (.int 1))))) (.cons (.ret (.k (.bl false))) .nil) .nil) (.cons (.ret (.bi .all (.cons (.lc [4, 5] (.t (.cons (.n 4) (.cons (.n 5) .nil))) (.zip (.sli (.rd (.v 0)) (.so (.k (.int 1))) .no) (.rd (.v 3))) .yes (.call 0 (.cons (.rd (.v 4)) (.cons (.k (.int 0)) (.cons (.bin .sub (.rd (.x (.v 2) (.rd (.v 5)))) (.k (.int 1))) .nil))))) .nil))) .nil))))
def d2 : DefI := { x := "is_formed", qual := "is_formed", N := ["value", "forms", "sizes", "form", "part", "sign"], ps := ["value", "forms", "sizes"], d := { np := 3, ns := 6, body := b2, io := [0, 1, 2] } }
/-- is_need -/
def b3 : Ss := (.cons (.ret (.call 2 (.cons (.rd (.v 0)) (.cons (.kd [(.str "held"), (.str "here"), (.str "gone"), (.str "at"), (.str "on"), (.str "off")] [(.str "t"), (.str "t"), (.str "t"), (.str "tr"), (.str "f"), (.str "f")]) (.cons (.rd (.v 1)) .nil))))) .nil)
def d3 : DefI := { x := "is_need", qual := "is_need", N := ["value", "sizes"], ps := ["value", "sizes"], d := { np := 2, ns := 2, body := b3, io := [0, 1] } }
/-- are_formed -/
def b4 : Ss := (.cons (.ife (.or (.not (.e (.isi (.rd (.v 0)) .tup))) (.not (.e (.chain .le .le (.rd (.v 2)) (.bi .len (.cons (.rd (.v 0)) .nil)) (.k (.int 3)))))) (.cons (.ret (.k (.bl false))) .nil) .nil) (.cons (.ret (.bi .all (.cons (.lc [4] (.n 4) (.l (.rd (.v 0))) .yes (.call 2 (.cons (.rd (.v 4)) (.cons (.rd (.v 1)) (.cons (.rd (.v 3)) .nil))))) .nil))) .nil))
def d4 : DefI := { x := "are_formed", qual := "are_formed", N := ["value", "forms", "least", "sizes", "one"], ps := ["value", "forms", "least", "sizes"], d := { np := 4, ns := 5, body := b4, io := [0, 1, 2, 3] } }
/-- is_room_or_none -/
def b5 : Ss := (.cons (.ret (.or (.isN (.rd (.v 0))) (.call 0 (.cons (.rd (.v 0)) (.cons (.k (.int 0)) (.cons (.bin .sub (.rd (.x (.v 1) (.k (.str "r")))) (.k (.int 1))) .nil)))))) .nil)
def d5 : DefI := { x := "is_room_or_none", qual := "is_room_or_none", N := ["value", "sizes"], ps := ["value", "sizes"], d := { np := 2, ns := 2, body := b5, io := [0, 1] } }
/-- is_door -/
def b6 : Ss := (.cons (.ife (.or (.not (.e (.isi (.rd (.v 0)) .tup))) (.e (.cmp .ne (.bi .len (.cons (.rd (.v 0)) .nil)) (.k (.int 3))))) (.cons (.ret (.k (.bl false))) .nil) .nil) (.cons (.ife (.not (.e (.bi .all (.cons (.lc [2] (.n 2) (.l (.sli (.rd (.v 0)) .no (.so (.k (.int 2))))) .yes (.call 0 (.cons (.rd (.v 2)) (.cons (.k (.int 0)) (.cons (.bin .sub (.rd (.x (.v 1) (.k (.str "r")))) (.k (.int 1))) .nil))))) .nil)))) (.cons (.ret (.k (.bl false))) .nil) .nil) (.cons (.ret (.or (.isN (.rd (.x (.v 0) (.k (.int 2))))) (.call 3 (.cons (.rd (.x (.v 0) (.k (.int 2)))) (.cons (.rd (.v 1)) .nil))))) .nil)))
def d6 : DefI := { x := "is_door", qual := "is_door", N := ["value", "sizes", "one"], ps := ["value", "sizes"], d := { np := 2, ns := 3, body := b6, io := [0, 1] } }
/-- is_goal -/
def b7 : Ss := (.cons (.ife (.or (.not (.e (.isi (.rd (.v 0)) .tup))) (.or (.e (.cmp .ne (.bi .len (.cons (.rd (.v 0)) .nil)) (.k (.int 2)))) (.not (.e (.call 5 (.cons (.rd (.x (.v 0) (.k (.int 0)))) (.cons (.rd (.v 1)) .nil))))))) (.cons (.ret (.k (.bl false))) .nil) .nil) (.cons (.ret (.call 4 (.cons (.rd (.x (.v 0) (.k (.int 1)))) (.cons (.kd [(.str "held"), (.str "here"), (.str "gone"), (.str "at"), (.str "on"), (.str "off")] [(.str "t"), (.str "t"), (.str "t"), (.str "tr"), (.str "f"), (.str "f")]) (.cons (.k (.int 0)) (.cons (.rd (.v 1)) .nil)))))) .nil))
def d7 : DefI := { x := "is_goal", qual := "is_goal", N := ["value", "sizes"], ps := ["value", "sizes"], d := { np := 2, ns := 2, body := b7, io := [0, 1] } }
/-- is_rule -/
def b8 : Ss := (.cons (.ife (.or (.not (.e (.isi (.rd (.v 0)) .tup))) (.or (.e (.cmp .ne (.bi .len (.cons (.rd (.v 0)) .nil)) (.k (.int 3)))) (.not (.e (.call 7 (.cons (.sli (.rd (.v 0)) .no (.so (.k (.int 2)))) (.cons (.rd (.v 1)) .nil))))))) (.cons (.ret (.k (.bl false))) .nil) .nil) (.cons (.ret (.call 4 (.cons (.rd (.x (.v 0) (.k (.int 2)))) (.cons (.kd [(.str "hold"), (.str "lay"), (.str "lose"), (.str "put"), (.str "on"), (.str "off"), (.str "go")] [(.str "t"), (.str "t"), (.str "t"), (.str "tr"), (.str "f"), (.str "f"), (.str "r")]) (.cons (.k (.int 1)) (.cons (.rd (.v 1)) .nil)))))) .nil))
def d8 : DefI := { x := "is_rule", qual := "is_rule", N := ["value", "sizes"], ps := ["value", "sizes"], d := { np := 2, ns := 2, body := b8, io := [0, 1] } }
/-- check_list -/
def b9 : Ss := (.cons (.ife (.or (.not (.e (.isi (.rd (.v 1)) .lst))) (.e (.cmp .gt (.bi .len (.cons (.rd (.v 1)) .nil)) (.rd (.v 2))))) (.cons (.raise 1 (.cons (.rd (.v 0)) (.cons (.k (.int (-1))) .nil))) .nil) .nil) (.cons (.for (.t (.cons (.n 4) (.cons (.n 5) .nil))) (.enum (.rd (.v 1))) (.cons (.ife (.not (.e (.callc 3 (.cons (.rd (.v 5)) .nil)))) (.cons (.raise 1 (.cons (.rd (.v 0)) (.cons (.rd (.v 4)) .nil))) .nil) .nil) .nil)) .nil))
def d9 : DefI := { x := "check_list", qual := "check_list", N := ["part", "some", "most", "is_good", "index", "one"], ps := ["part", "some", "most", "is_good"], d := { np := 4, ns := 6, body := b9, io := [0, 1, 2, 3] } }
/-- check_number -/
def b10 : Ss := (.cons (.ife (.not (.e (.call 0 (.cons (.rd (.v 1)) (.cons (.rd (.v 2)) (.cons (.rd (.v 3)) .nil)))))) (.cons (.raise 1 (.cons (.rd (.v 0)) (.cons (.k (.int (-1))) .nil))) .nil) .nil) .nil)
def d10 : DefI := { x := "check_number", qual := "check_number", N := ["part", "value", "least", "most"], ps := ["part", "value", "least", "most"], d := { np := 4, ns := 4, body := b10, io := [0, 1, 2, 3] } }
/-- World.__init__ -/
def b11 : Ss := (.cons (.ex (.call 10 (.cons (.k (.str "rooms")) (.cons (.rd (.v 1)) (.cons (.k (.int 1)) (.cons (.k (.int 4)) .nil)))))) (.cons (.ex (.calll 9 (.cons (.k (.str "things")) (.cons (.rd (.v 2)) (.cons (.k (.int 3)) .nil))) 34 [1])) (.cons (.ex (.call 10 (.cons (.k (.str "flags")) (.cons (.rd (.v 3)) (.cons (.k (.int 0)) (.cons (.k (.int 2)) .nil)))))) (.cons (.ex (.call 10 (.cons (.k (.str "hands")) (.cons (.rd (.v 4)) (.cons (.k (.int 0)) (.cons (.k (.int 3)) .nil)))))) (.cons (.ex (.call 10 (.cons (.k (.str "start")) (.cons (.rd (.v 5)) (.cons (.k (.int 0)) (.cons (.bin .sub (.rd (.v 1)) (.k (.int 1))) .nil)))))) (.cons (.asg 9 (.fz (.dic [(.str "r"), (.str "t"), (.str "f")] (.cons (.rd (.v 1)) (.cons (.bi .len (.cons (.rd (.v 2)) .nil)) (.cons (.rd (.v 3)) .nil)))))) (.cons (.ex (.calll 9 (.cons (.k (.str "doors")) (.cons (.rd (.v 6)) (.cons (.k (.int 8)) .nil))) 35 [9])) (.cons (.ex (.calll 9 (.cons (.k (.str "rules")) (.cons (.rd (.v 7)) (.cons (.k (.int 5)) .nil))) 36 [9])) (.cons (.ife (.not (.e (.call 7 (.cons (.rd (.v 8)) (.cons (.rd (.v 9)) .nil))))) (.cons (.raise 1 (.cons (.k (.str "goal")) (.cons (.k (.int (-1))) .nil))) .nil) .nil) (.cons (.setF (.v 0) "rooms" (.rd (.v 1))) (.cons (.setF (.v 0) "things" (.bi .tuple (.cons (.rd (.v 2)) .nil))) (.cons (.setF (.v 0) "flags" (.rd (.v 3))) (.cons (.setF (.v 0) "hands" (.rd (.v 4))) (.cons (.setF (.v 0) "start" (.rd (.v 5))) (.cons (.setF (.v 0) "doors" (.bi .tuple (.cons (.rd (.v 6)) .nil))) (.cons (.setF (.v 0) "rules" (.bi .tuple (.cons (.rd (.v 7)) .nil))) (.cons (.setF (.v 0) "goal" (.rd (.v 8))) .nil)))))))))))))))))
def d11 : DefI := { x := "__init__", qual := "World.__init__", N := ["self", "rooms", "things", "flags", "hands", "start", "doors", "rules", "goal", "sizes"], ps := ["self", "rooms", "things", "flags", "hands", "start", "doors", "rules", "goal"], d := { np := 9, ns := 10, body := b11, io := [0, 1, 2, 3, 4, 5, 6, 7, 8] } }
/-- World.parts -/
def b12 : Ss := (.cons (.ret (.tup (.cons (.rd (.f (.v 0) "rooms")) (.cons (.rd (.f (.v 0) "things")) (.cons (.rd (.f (.v 0) "flags")) (.cons (.rd (.f (.v 0) "hands")) (.cons (.rd (.f (.v 0) "start")) (.cons (.rd (.f (.v 0) "doors")) (.cons (.rd (.f (.v 0) "rules")) (.cons (.rd (.f (.v 0) "goal")) .nil)))))))))) .nil)
def d12 : DefI := { x := "parts", qual := "World.parts", N := ["self"], ps := ["self"], d := { np := 1, ns := 1, body := b12, io := [0] } }
/-- World.__eq__ -/
def b13 : Ss := (.cons (.ret (.and (.isi (.rd (.v 1)) (.cls 0)) (.cmp .eq (.meth "parts" (.rd (.v 0)) .nil) (.meth "parts" (.rd (.v 1)) .nil)))) .nil)
def d13 : DefI := { x := "__eq__", qual := "World.__eq__", N := ["self", "other"], ps := ["self", "other"], d := { np := 2, ns := 2, body := b13, io := [0, 1] } }
/-- _law_begin -/
def b18 : Ss := (.cons (.ret (.lst (.cons (.bi .list (.cons (.rd (.v 0)) .nil)) (.cons (.k (.int 0)) (.cons (.k (.int 0)) (.cons (.k (.int 7)) .nil)))))) .nil)
def d18 : DefI := { x := "_law_begin", qual := "_law_begin", N := ["_law_script"], ps := ["_law_script"], d := { np := 1, ns := 1, body := b18, io := [0] } }
/-- _law_draw -/
def b19 : Ss := (.cons (.ife (.e (.cmp .eq (.rd (.x (.v 0) (.k (.int 2)))) (.k (.int 0)))) (.cons (.ife (.e (.cmp .lt (.rd (.x (.v 0) (.k (.int 1)))) (.bi .len (.cons (.rd (.x (.v 0) (.k (.int 0)))) .nil)))) (.cons (.asg 2 (.rd (.x (.x (.v 0) (.k (.int 0))) (.rd (.x (.v 0) (.k (.int 1))))))) (.cons (.setX (.v 0) (.k (.int 1)) (.fz (.bin .add (.rd (.x (.v 0) (.k (.int 1)))) (.k (.int 1))))) (.cons (.ife (.e (.cmp .ge (.rd (.v 2)) (.bin .pow (.k (.int 10)) (.k (.int 18))))) (.cons (.setX (.v 0) (.k (.int 2)) (.rd (.v 2))) .nil) (.cons (.setX (.v 0) (.k (.int 3)) (.bin .mod (.bi .int (.cons (.bin .add (.bin .add (.bin .mul (.rd (.x (.v 0) (.k (.int 3)))) (.k (.int 48271))) (.bin .mul (.rd (.v 2)) (.k (.int 69621)))) (.k (.int 11))) .nil)) (.k (.int 2147483647)))) .nil)) .nil))) (.cons (.setX (.v 0) (.k (.int 3)) (.bin .mod (.bi .int (.cons (.bin .add (.bin .mul (.rd (.x (.v 0) (.k (.int 3)))) (.k (.int 48271))) (.k (.int 7))) .nil)) (.k (.int 2147483647)))) .nil)) .nil) .nil) (.cons (.ife (.e (.cmp .gt (.rd (.x (.v 0) (.k (.int 2)))) (.k (.int 0)))) (.cons (.asg 3 (.bin .mod (.bi .int (.cons (.rd (.x (.v 0) (.k (.int 2)))) .nil)) (.rd (.v 1)))) (.cons (.setX (.v 0) (.k (.int 2)) (.bin .fdiv (.rd (.x (.v 0) (.k (.int 2)))) (.rd (.v 1)))) (.cons (.ret (.rd (.v 3))) .nil))) .nil) (.cons (.ret (.bin .mod (.bin .mod (.bi .int (.cons (.bin .mul (.rd (.x (.v 0) (.k (.int 3)))) (.k (.int 16807))) .nil)) (.k (.int 2147483629))) (.rd (.v 1)))) .nil)))
def d19 : DefI := { x := "_law_draw", qual := "_law_draw", N := ["_law_draws", "_law_many", "_law_cell", "_law_found"], ps := ["_law_draws", "_law_many"], d := { np := 2, ns := 4, body := b19, io := [0, 1] } }
/-- _law_place -/
def b20 : Ss := (.cons (.asg 2 (.fz (.call 19 (.cons (.rd (.v 0)) (.cons (.bin .add (.rd (.v 1)) (.k (.int 2))) .nil))))) (.cons (.ife (.e (.cmp .lt (.rd (.v 2)) (.rd (.v 1)))) (.cons (.ret (.rd (.v 2))) .nil) .nil) (.cons (.ret (.idx (.lst (.cons (.k (.str "held")) (.cons (.k (.str "gone")) .nil))) (.bin .sub (.rd (.v 2)) (.rd (.v 1))))) .nil)))
def d20 : DefI := { x := "_law_place", qual := "_law_place", N := ["_law_draws", "_law_rooms", "_law_at"], ps := ["_law_draws", "_law_rooms"], d := { np := 2, ns := 3, body := b20, io := [0, 1] } }
/-- _law_one -/
def b21 : Ss := (.cons (.asgT (.t (.cons (.n 3) (.cons (.n 4) (.cons (.n 5) .nil)))) (.rd (.v 2))) (.cons (.asg 6 (.fz (.lst .nil))) (.cons (.for (.n 7) (.l (.rd (.v 1))) (.cons (.ife (.e (.cmp .isin (.rd (.v 7)) (.tup (.cons (.k (.str "on")) (.cons (.k (.str "off")) .nil))))) (.cons (.asg 6 (.fz (.bin .add (.rd (.v 6)) (.lc [8] (.n 8) (.rng (.rd (.v 5))) .yes (.tup (.cons (.rd (.v 7)) (.cons (.rd (.v 8)) .nil))))))) .nil) (.cons (.ife (.e (.cmp .eq (.rd (.v 7)) (.k (.str "go")))) (.cons (.asg 6 (.fz (.bin .add (.rd (.v 6)) (.lc [8] (.n 8) (.rng (.rd (.v 3))) .yes (.tup (.cons (.rd (.v 7)) (.cons (.rd (.v 8)) .nil))))))) .nil) (.cons (.ife (.e (.cmp .isin (.rd (.v 7)) (.tup (.cons (.k (.str "at")) (.cons (.k (.str "put")) .nil))))) (.cons (.asg 6 (.fz (.bin .add (.rd (.v 6)) (.lc [8] (.n 8) (.rng (.rd (.v 4))) .yes (.tup (.cons (.rd (.v 7)) (.cons (.rd (.v 8)) (.cons (.call 19 (.cons (.rd (.v 0)) (.cons (.rd (.v 3)) .nil))) .nil)))))))) .nil) (.cons (.asg 6 (.fz (.bin .add (.rd (.v 6)) (.lc [8] (.n 8) (.rng (.rd (.v 4))) .yes (.tup (.cons (.rd (.v 7)) (.cons (.rd (.v 8)) .nil))))))) .nil)) .nil)) .nil)) .nil)) (.cons (.ife (.e (.cmp .eq (.bi .len (.cons (.rd (.v 6)) .nil)) (.k (.int 0)))) (.cons (.ret (.k .non)) .nil) .nil) (.cons (.ret (.rd (.x (.v 6) (.call 19 (.cons (.rd (.v 0)) (.cons (.bi .len (.cons (.rd (.v 6)) .nil)) .nil)))))) .nil)))))
def d21 : DefI := { x := "_law_one", qual := "_law_one", N := ["_law_draws", "_law_words", "_law_sizes", "_law_rooms", "_law_things", "_law_flags", "_law_some", "_law_word", "_law_k"], ps := ["_law_draws", "_law_words", "_law_sizes"], d := { np := 3, ns := 9, body := b21, io := [0, 1, 2] } }
/-- _law_several -/
def b22 : Ss := (.cons (.asg 5 (.lst .nil)) (.cons (.for (.n 6) (.rng (.bin .add (.rd (.v 3)) (.call 19 (.cons (.rd (.v 0)) (.cons (.bin .add (.bin .sub (.rd (.v 4)) (.rd (.v 3))) (.k (.int 1))) .nil))))) (.cons (.asg 7 (.fz (.call 21 (.cons (.rd (.v 0)) (.cons (.rd (.v 1)) (.cons (.rd (.v 2)) .nil)))))) (.cons (.ife (.e (.isntN (.rd (.v 7)))) (.cons (.ex (.mi .append (.rd (.v 5)) (.cons (.rd (.v 7)) .nil))) .nil) .nil) .nil))) (.cons (.ret (.bi .tuple (.cons (.rd (.v 5)) .nil))) .nil)))
def d22 : DefI := { x := "_law_several", qual := "_law_several", N := ["_law_draws", "_law_words", "_law_sizes", "_law_least", "_law_most", "_law_found", "_law_k", "_law_one_here"], ps := ["_law_draws", "_law_words", "_law_sizes", "_law_least", "_law_most"], d := { np := 5, ns := 8, body := b22, io := [0, 1, 2, 3, 4] } }
/-- _law_need -/
def b23 : Ss := (.cons (.ret (.call 21 (.cons (.rd (.v 0)) (.cons (.lst (.cons (.k (.str "held")) (.cons (.k (.str "held")) (.cons (.k (.str "here")) (.cons (.k (.str "gone")) (.cons (.k (.str "at")) (.cons (.k (.str "on")) (.cons (.k (.str "off")) .nil)))))))) (.cons (.rd (.v 1)) .nil))))) .nil)
def d23 : DefI := { x := "_law_need", qual := "_law_need", N := ["_law_draws", "_law_sizes"], ps := ["_law_draws", "_law_sizes"], d := { np := 2, ns := 2, body := b23, io := [0, 1] } }
/-- _law_goal -/
def b24 : Ss := (.cons (.asg 2 (.idx (.lst (.cons (.k .non) (.cons (.bin .sub (.rd (.x (.v 1) (.k (.int 0)))) (.k (.int 1))) (.cons (.call 19 (.cons (.rd (.v 0)) (.cons (.rd (.x (.v 1) (.k (.int 0)))) .nil))) .nil)))) (.call 19 (.cons (.rd (.v 0)) (.cons (.k (.int 3)) .nil))))) (.cons (.ret (.tup (.cons (.rd (.v 2)) (.cons (.call 22 (.cons (.rd (.v 0)) (.cons (.lst (.cons (.k (.str "held")) (.cons (.k (.str "here")) (.cons (.k (.str "at")) (.cons (.k (.str "on")) .nil))))) (.cons (.rd (.v 1)) (.cons (.k (.int 0)) (.cons (.k (.int 1)) .nil)))))) .nil)))) .nil))
def d24 : DefI := { x := "_law_goal", qual := "_law_goal", N := ["_law_draws", "_law_sizes", "_law_room"], ps := ["_law_draws", "_law_sizes"], d := { np := 2, ns := 3, body := b24, io := [0, 1] } }
/-- _law_rule -/
def b25 : Ss := (.cons (.asg 2 (.fz (.call 22 (.cons (.rd (.v 0)) (.cons (.lst (.cons (.k (.str "held")) (.cons (.k (.str "held")) (.cons (.k (.str "here")) (.cons (.k (.str "on")) (.cons (.k (.str "off")) .nil)))))) (.cons (.rd (.v 1)) (.cons (.k (.int 0)) (.cons (.k (.int 2)) .nil)))))))) (.cons (.asg 3 (.fz (.call 22 (.cons (.rd (.v 0)) (.cons (.lst (.cons (.k (.str "hold")) (.cons (.k (.str "lay")) (.cons (.k (.str "lose")) (.cons (.k (.str "lose")) (.cons (.k (.str "put")) (.cons (.k (.str "on")) (.cons (.k (.str "on")) (.cons (.k (.str "off")) (.cons (.k (.str "go")) .nil)))))))))) (.cons (.rd (.v 1)) (.cons (.k (.int 1)) (.cons (.k (.int 2)) .nil)))))))) (.cons (.ret (.tup (.cons (.idx (.lst (.cons (.k .non) (.cons (.call 19 (.cons (.rd (.v 0)) (.cons (.rd (.x (.v 1) (.k (.int 0)))) .nil))) .nil))) (.call 19 (.cons (.rd (.v 0)) (.cons (.k (.int 2)) .nil)))) (.cons (.rd (.v 2)) (.cons (.rd (.v 3)) .nil))))) .nil)))
def d25 : DefI := { x := "_law_rule", qual := "_law_rule", N := ["_law_draws", "_law_sizes", "_law_needs", "_law_effects"], ps := ["_law_draws", "_law_sizes"], d := { np := 2, ns := 4, body := b25, io := [0, 1] } }
/-- _law_door -/
def b26 : Ss := (.cons (.asg 2 (.k .non)) (.cons (.ife (.e (.cmp .eq (.call 19 (.cons (.rd (.v 0)) (.cons (.k (.int 3)) .nil))) (.k (.int 0)))) (.cons (.asg 2 (.fz (.call 23 (.cons (.rd (.v 0)) (.cons (.rd (.v 1)) .nil))))) .nil) .nil) (.cons (.ret (.tup (.cons (.call 19 (.cons (.rd (.v 0)) (.cons (.rd (.x (.v 1) (.k (.int 0)))) .nil))) (.cons (.call 19 (.cons (.rd (.v 0)) (.cons (.rd (.x (.v 1) (.k (.int 0)))) .nil))) (.cons (.rd (.v 2)) .nil))))) .nil)))
def d26 : DefI := { x := "_law_door", qual := "_law_door", N := ["_law_draws", "_law_sizes", "_law_need_here"], ps := ["_law_draws", "_law_sizes"], d := { np := 2, ns := 3, body := b26, io := [0, 1] } }
/-- _law_parts -/
def b27 : Ss := (.cons (.asg 2 (.tup (.cons (.bin .add (.k (.int 1)) (.call 19 (.cons (.rd (.v 0)) (.cons (.k (.int 4)) .nil)))) (.cons (.call 19 (.cons (.rd (.v 0)) (.cons (.bin .add (.rd (.v 1)) (.k (.int 1))) .nil))) (.cons (.call 19 (.cons (.rd (.v 0)) (.cons (.k (.int 2)) .nil))) .nil))))) (.cons (.asg 3 (.lc [4] (.n 4) (.rng (.rd (.x (.v 2) (.k (.int 1))))) .yes (.call 20 (.cons (.rd (.v 0)) (.cons (.rd (.x (.v 2) (.k (.int 0)))) .nil))))) (.cons (.fz 3) (.cons (.asg 5 (.lst .nil)) (.cons (.for (.n 4) (.rng (.bin .sub (.rd (.x (.v 2) (.k (.int 0)))) (.k (.int 1)))) (.cons (.ex (.mi .append (.rd (.v 5)) (.cons (.tup (.cons (.rd (.v 4)) (.cons (.bin .add (.rd (.v 4)) (.k (.int 1))) (.cons (.k .non) .nil)))) .nil))) (.cons (.ife (.e (.cmp .gt (.call 19 (.cons (.rd (.v 0)) (.cons (.k (.int 3)) .nil))) (.k (.int 0)))) (.cons (.ex (.mi .append (.rd (.v 5)) (.cons (.tup (.cons (.bin .add (.rd (.v 4)) (.k (.int 1))) (.cons (.rd (.v 4)) (.cons (.k .non) .nil)))) .nil))) .nil) .nil) .nil))) (.cons (.for (.n 4) (.rng (.call 19 (.cons (.rd (.v 0)) (.cons (.k (.int 3)) .nil)))) (.cons (.ife (.and (.e (.cmp .gt (.bi .len (.cons (.rd (.v 5)) .nil)) (.k (.int 0)))) (.e (.cmp .eq (.call 19 (.cons (.rd (.v 0)) (.cons (.k (.int 2)) .nil))) (.k (.int 0))))) (.cons (.asg 6 (.fz (.call 19 (.cons (.rd (.v 0)) (.cons (.bi .len (.cons (.rd (.v 5)) .nil)) .nil))))) (.cons (.setX (.v 5) (.rd (.v 6)) (.fz (.bin .add (.sli (.rd (.x (.v 5) (.rd (.v 6)))) .no (.so (.k (.int 2)))) (.tup (.cons (.call 23 (.cons (.rd (.v 0)) (.cons (.rd (.v 2)) .nil))) .nil))))) .nil)) (.cons (.ex (.mi .append (.rd (.v 5)) (.cons (.fz (.call 26 (.cons (.rd (.v 0)) (.cons (.rd (.v 2)) .nil)))) .nil))) .nil)) .nil)) (.cons (.asg 7 (.lc [4] (.n 4) (.rng (.call 19 (.cons (.rd (.v 0)) (.cons (.k (.int 3)) .nil)))) .yes (.call 25 (.cons (.rd (.v 0)) (.cons (.rd (.v 2)) .nil))))) (.cons (.fz 7) (.cons (.asg 8 (.fz (.call 19 (.cons (.rd (.v 0)) (.cons (.k (.int 3)) .nil))))) (.cons (.ret (.lst (.cons (.fz (.rd (.x (.v 2) (.k (.int 0))))) (.cons (.rd (.v 3)) (.cons (.fz (.rd (.x (.v 2) (.k (.int 2))))) (.cons (.rd (.v 8)) (.cons (.call 19 (.cons (.rd (.v 0)) (.cons (.rd (.x (.v 2) (.k (.int 0)))) .nil))) (.cons (.mv 5) (.cons (.rd (.v 7)) (.cons (.call 24 (.cons (.rd (.v 0)) (.cons (.rd (.v 2)) .nil))) .nil)))))))))) .nil))))))))))
def d27 : DefI := { x := "_law_parts", qual := "_law_parts", N := ["_law_draws", "_law_things", "_law_sizes", "_law_places", "_law_k", "_law_doors", "_law_at", "_law_rules", "_law_hands"], ps := ["_law_draws", "_law_things"], d := { np := 2, ns := 9, body := b27, io := [0, 1] } }
/-- _law_made -/
def b28 : Ss := (.cons (.ret (.make 0 (.cons (.rd (.x (.v 0) (.k (.int 0)))) (.cons (.rd (.x (.v 0) (.k (.int 1)))) (.cons (.rd (.x (.v 0) (.k (.int 2)))) (.cons (.rd (.x (.v 0) (.k (.int 3)))) (.cons (.rd (.x (.v 0) (.k (.int 4)))) (.cons (.rd (.x (.v 0) (.k (.int 5)))) (.cons (.rd (.x (.v 0) (.k (.int 6)))) (.cons (.rd (.x (.v 0) (.k (.int 7)))) .nil)))))))))) .nil)
def d28 : DefI := { x := "_law_made", qual := "_law_made", N := ["_law_parts_here"], ps := ["_law_parts_here"], d := { np := 1, ns := 1, body := b28, io := [0] } }
/-- a lambda of World.__init__ -/
def e34 : E := (.call 1 (.cons (.rd (.v 0)) (.cons (.rd (.v 1)) .nil)))
/-- a lambda of World.__init__ -/
def e35 : E := (.call 6 (.cons (.rd (.v 0)) (.cons (.rd (.v 1)) .nil)))
/-- a lambda of World.__init__ -/
def e36 : E := (.call 8 (.cons (.rd (.v 0)) (.cons (.rd (.v 1)) .nil)))
end DT
end
section
set_option Elab.async false
set_option linter.all false
set_option maxRecDepth 100000
set_option maxHeartbeats 4000000
/-! SP0: the evaluator's equations as simp takes them. -/
namespace DE
open PySem L2
theorem call_df {g : Pg} {n f : Nat} {d : Df} (h : g.df f = some d) (as : List C) : g.call (n + 1) f as = runDf (g.kx n) d as := by
  show (match g.df f with
    | some d => runDf (g.kx n) d as
    | none => .stk) = _
  rw [h]
section
variable {α β : Type} (κ : Kx) (τ : Loc)
@[simp] theorem S_bind_ok (a : α) (f : α → Loc → Res β) : (Res.ok a τ).bind f = f a τ := rfl
@[simp] theorem S_bind_exc (x : Exn) (f : α → Loc → Res β) : (Res.exc x τ : Res α).bind f = .exc x τ := rfl
@[simp] theorem S_bind_stk (f : α → Loc → Res β) : (Res.stk : Res α).bind f = .stk := rfl
@[simp] theorem S_of_ok (a : α) (f : α → Loc → SRes) : SRes.of (.ok a τ) f = f a τ := rfl
@[simp] theorem S_of_exc (x : Exn) (f : α → Loc → SRes) : SRes.of (.exc x τ : Res α) f = .exc x τ := rfl
@[simp] theorem S_of_stk (f : α → Loc → SRes) : SRes.of (.stk : Res α) f = .stk := rfl
@[simp] theorem S_seq_nx (f : Loc → SRes) : (SRes.nx τ).seq f = f τ := rfl
@[simp] theorem S_seq_ret (c : C) (f : Loc → SRes) : (SRes.ret c τ).seq f = .ret c τ := rfl
@[simp] theorem S_seq_brk (f : Loc → SRes) : (SRes.brk τ).seq f = .brk τ := rfl
@[simp] theorem S_seq_cont (f : Loc → SRes) : (SRes.cont τ).seq f = .cont τ := rfl
@[simp] theorem S_seq_exc (x : Exn) (f : Loc → SRes) : (SRes.exc x τ).seq f = .exc x τ := rfl
@[simp] theorem S_seq_stk (f : Loc → SRes) : SRes.stk.seq f = .stk := rfl
@[simp] theorem S_optR_some (a : α) : optR (some a) τ = .ok a τ := rfl
@[simp] theorem S_optR_none : (optR none τ : Res α) = .stk := rfl
@[simp] theorem S_lift_some (r : Rv) : lift (some r) τ = .ok r τ := rfl
@[simp] theorem S_lift_none : lift none τ = .stk := rfl
/-! slots -/
@[simp] theorem S_look0 (c : C) : look (c :: τ) 0 = c := rfl
@[simp] theorem S_lookS (c : C) (i : Nat) : look (c :: τ) (i + 1) = look τ i := rfl
/-! expressions -/
@[simp] theorem S_k (d : D) : ev κ (.k d) τ = .ok (.pu d) τ := by
  first | (rw [ev]; done) | (rw [ev] <;> rfl)
@[simp] theorem S_rd (p : P) : ev κ (.rd p) τ = (evP κ p τ).bind rdC := by
  first | (rw [ev]; done) | (rw [ev] <;> rfl)
@[simp] theorem S_mv (i : Nat) : ev κ (.mv i) τ = mvC i τ := by
  first | (rw [ev]; done) | (rw [ev] <;> rfl)
@[simp] theorem S_kd (ks vs : List D) : ev κ (.kd ks vs) τ = .ok (.fr (.dic ks (vs.map .pu))) τ := by
  first | (rw [ev]; done) | (rw [ev] <;> rfl)
@[simp] theorem S_inG (neg : Bool) (a : E) (ks : List D) : ev κ (.inG neg a ks) τ = (toF (ev κ a τ)).bind (inGE neg ks) := by
  first | (rw [ev]; done) | (rw [ev] <;> rfl)
@[simp] theorem S_idxG (a : E) (ks vs : List D) : ev κ (.idxG a ks vs) τ = (toF (ev κ a τ)).bind (idxGE ks vs) := by
  first | (rw [ev]; done) | (rw [ev] <;> rfl)
def binG (o : Bop) (x : Rv) (y : Rv) (τ : Loc) : Res Rv := lift (binop o x.c y.c) τ
@[simp] theorem S_binG (o : Bop) (x : Rv) (y : Rv) : binG o x y τ = lift (binop o x.c y.c) τ := rfl
def binF (κ : Kx) (o : Bop) (b : E) (x : Rv) (τ : Loc) : Res Rv := (ev κ b τ).bind (binG o x)
@[simp] theorem S_binF (o : Bop) (b : E) (x : Rv) : binF κ o b x τ = (ev κ b τ).bind (binG o x) := rfl
@[simp] theorem S_bin (o : Bop) (a b : E) : ev κ (.bin o a b) τ = (ev κ a τ).bind (binF κ o b) := by
  first | (rw [ev]; done) | (rw [ev] <;> rfl)
def catG (x : Rv) (y : Rv) (τ : Loc) : Res Rv := lift (catE x y) τ
@[simp] theorem S_catG (x : Rv) (y : Rv) : catG x y τ = lift (catE x y) τ := rfl
def catF (κ : Kx) (b : E) (x : Rv) (τ : Loc) : Res Rv := (ev κ b τ).bind (catG x)
@[simp] theorem S_catF (b : E) (x : Rv) : catF κ b x τ = (ev κ b τ).bind (catG x) := rfl
@[simp] theorem S_cat (a b : E) : ev κ (.cat a b) τ = (ev κ a τ).bind (catF κ b) := by
  first | (rw [ev]; done) | (rw [ev] <;> rfl)
def cmpG (o : Cop) (x : Rv) (y : Rv) (τ : Loc) : Res Rv := lift ((cmpop o x.c y.c).map fun b => .pu (.bl b)) τ
@[simp] theorem S_cmpG (o : Cop) (x : Rv) (y : Rv) : cmpG o x y τ = lift ((cmpop o x.c y.c).map fun b => .pu (.bl b)) τ := rfl
def cmpF (κ : Kx) (o : Cop) (b : E) (x : Rv) (τ : Loc) : Res Rv := (ev κ b τ).bind (cmpG o x)
@[simp] theorem S_cmpF (o : Cop) (b : E) (x : Rv) : cmpF κ o b x τ = (ev κ b τ).bind (cmpG o x) := rfl
@[simp] theorem S_cmp (o : Cop) (a b : E) : ev κ (.cmp o a b) τ = (ev κ a τ).bind (cmpF κ o b) := by
  first | (rw [ev]; done) | (rw [ev] <;> rfl)
def eqoF (κ : Kx) (b : E) (x : Rv) (τ : Loc) : Res Rv := (ev κ b τ).bind (eqoE κ x)
@[simp] theorem S_eqoF (b : E) (x : Rv) : eqoF κ b x τ = (ev κ b τ).bind (eqoE κ x) := rfl
@[simp] theorem S_eqo (a b : E) : ev κ (.eqo a b) τ = (ev κ a τ).bind (eqoF κ b) := by
  first | (rw [ev]; done) | (rw [ev] <;> rfl)
def chH (κ : Kx) (o : Cop) (c : E) (y : Rv) (t : Bool) (τ : Loc) : Res Rv := if t then (ev κ c τ).bind (cmpG o y) else .ok (.pu (.bl false)) τ
@[simp] theorem S_chH (o : Cop) (c : E) (y : Rv) (t : Bool) : chH κ o c y t τ = if t then (ev κ c τ).bind (cmpG o y) else .ok (.pu (.bl false)) τ := rfl
def chG (κ : Kx) (o p : Cop) (c : E) (x : Rv) (y : Rv) (τ : Loc) : Res Rv := (optR (cmpop o x.c y.c) τ).bind (chH κ p c y)
@[simp] theorem S_chG (o p : Cop) (c : E) (x : Rv) (y : Rv) : chG κ o p c x y τ = (optR (cmpop o x.c y.c) τ).bind (chH κ p c y) := rfl
def chF (κ : Kx) (o p : Cop) (b c : E) (x : Rv) (τ : Loc) : Res Rv := (ev κ b τ).bind (chG κ o p c x)
@[simp] theorem S_chF (o p : Cop) (b c : E) (x : Rv) : chF κ o p b c x τ = (ev κ b τ).bind (chG κ o p c x) := rfl
@[simp] theorem S_chain (o p : Cop) (a b c : E) : ev κ (.chain o p a b c) τ = (ev κ a τ).bind (chF κ o p b c) := by
  first | (rw [ev]; done) | (rw [ev] <;> rfl)
def isNF  (x : Rv) (τ : Loc) : Res Rv := lift ((isNone x).map fun b => .pu (.bl b)) τ
@[simp] theorem S_isNF  (x : Rv) : isNF  x τ = lift ((isNone x).map fun b => .pu (.bl b)) τ := rfl
@[simp] theorem S_isN (a : E) : ev κ (.isN a) τ = (ev κ a τ).bind isNF := by
  first | (rw [ev]; done) | (rw [ev] <;> rfl)
def isntNF  (x : Rv) (τ : Loc) : Res Rv := lift ((isNone x).map fun b => .pu (.bl (!b))) τ
@[simp] theorem S_isntNF  (x : Rv) : isntNF  x τ = lift ((isNone x).map fun b => .pu (.bl (!b))) τ := rfl
@[simp] theorem S_isntN (a : E) : ev κ (.isntN a) τ = (ev κ a τ).bind isntNF := by
  first | (rw [ev]; done) | (rw [ev] <;> rfl)
@[simp] theorem S_and (a b : E) : ev κ (.and a b) τ = (ev κ a τ).bind (andE (ev κ b)) := by
  first | (rw [ev]; done) | (rw [ev] <;> rfl)
@[simp] theorem S_or (a b : E) : ev κ (.or a b) τ = (ev κ a τ).bind (orE (ev κ b)) := by
  first | (rw [ev]; done) | (rw [ev] <;> rfl)
@[simp] theorem S_not (a : E) : ev κ (.not a) τ = (ev κ a τ).bind notE := by
  first | (rw [ev]; done) | (rw [ev] <;> rfl)
def ifeF (κ : Kx) (a b : E) (c : Bool) (τ : Loc) : Res Rv := if c then ev κ a τ else ev κ b τ
@[simp] theorem S_ifeF (a b : E) (c : Bool) : ifeF κ a b c τ = if c then ev κ a τ else ev κ b τ := rfl
@[simp] theorem S_ifeE (t : T) (a b : E) : ev κ (.ife t a b) τ = (evT κ t τ).bind (ifeF κ a b) := by
  first | (rw [ev]; done) | (rw [ev] <;> rfl)
def tupF  (rs : List Rv) (τ : Loc) : Res Rv := lift (tupE rs) τ
@[simp] theorem S_tupF  (rs : List Rv) : tupF  rs τ = lift (tupE rs) τ := rfl
@[simp] theorem S_tup (es : Es) : ev κ (.tup es) τ = (evs κ es τ).bind tupF := by
  first | (rw [ev]; done) | (rw [ev] <;> rfl)
def lstF  (rs : List Rv) (τ : Loc) : Res Rv := lift (lstE rs) τ
@[simp] theorem S_lstF  (rs : List Rv) : lstF  rs τ = lift (lstE rs) τ := rfl
@[simp] theorem S_lst (es : Es) : ev κ (.lst es) τ = (evs κ es τ).bind lstF := by
  first | (rw [ev]; done) | (rw [ev] <;> rfl)
def dicF (ks : List D) (rs : List Rv) (τ : Loc) : Res Rv := lift ((keepAll rs).bind fun cs => dicE ks cs) τ
@[simp] theorem S_dicF (ks : List D) (rs : List Rv) : dicF ks rs τ = lift ((keepAll rs).bind fun cs => dicE ks cs) τ := rfl
@[simp] theorem S_dic (ks : List D) (es : Es) : ev κ (.dic ks es) τ = (evs κ es τ).bind (dicF ks) := by
  first | (rw [ev]; done) | (rw [ev] <;> rfl)
def idxF (κ : Kx) (i : E) (x : Rv) (τ : Loc) : Res Rv := (toF (ev κ i τ)).bind (idxE x)
@[simp] theorem S_idxF (i : E) (x : Rv) : idxF κ i x τ = (toF (ev κ i τ)).bind (idxE x) := rfl
@[simp] theorem S_idx (a i : E) : ev κ (.idx a i) τ = (ev κ a τ).bind (idxF κ i) := by
  first | (rw [ev]; done) | (rw [ev] <;> rfl)
def fldF (f : PySem.Str) (x : Rv) (τ : Loc) : Res Rv := fldE x f τ
@[simp] theorem S_fldF (f : PySem.Str) (x : Rv) : fldF f x τ = fldE x f τ := rfl
@[simp] theorem S_fld (a : E) (f : PySem.Str) : ev κ (.fld a f) τ = (ev κ a τ).bind (fldF f) := by
  first | (rw [ev]; done) | (rw [ev] <;> rfl)
def sliH (x : Rv) (l : Option Int) (u : Option Int) (τ : Loc) : Res Rv := sliE x l u τ
@[simp] theorem S_sliH (x : Rv) (l : Option Int) (u : Option Int) : sliH x l u τ = sliE x l u τ := rfl
def sliG (κ : Kx) (hi : Eo) (x : Rv) (l : Option Int) (τ : Loc) : Res Rv := (evO κ hi τ).bind (sliH x l)
@[simp] theorem S_sliG (hi : Eo) (x : Rv) (l : Option Int) : sliG κ hi x l τ = (evO κ hi τ).bind (sliH x l) := rfl
def sliF (κ : Kx) (lo hi : Eo) (x : Rv) (τ : Loc) : Res Rv := (evO κ lo τ).bind (sliG κ hi x)
@[simp] theorem S_sliF (lo hi : Eo) (x : Rv) : sliF κ lo hi x τ = (evO κ lo τ).bind (sliG κ hi x) := rfl
@[simp] theorem S_sli (a : E) (l h : Eo) : ev κ (.sli a l h) τ = (ev κ a τ).bind (sliF κ l h) := by
  first | (rw [ev]; done) | (rw [ev] <;> rfl)
def revF  (x : Rv) (τ : Loc) : Res Rv := lift ((listOf x.c).map fun ds => .fr (.lst (ds.reverse.map .pu))) τ
@[simp] theorem S_revF  (x : Rv) : revF  x τ = lift ((listOf x.c).map fun ds => .fr (.lst (ds.reverse.map .pu))) τ := rfl
@[simp] theorem S_rev (a : E) : ev κ (.rev a) τ = (ev κ a τ).bind revF := by
  first | (rw [ev]; done) | (rw [ev] <;> rfl)
/-- a comprehension's run, closed -/
def lcRun (ws : List Nat) (tg : Tg) (t : T) (e : E) (items : List D) : Res Rv := putBack ws τ (lcLoop (lcTurn ws tg (evT κ t) fun τ => toF (ev κ e τ)) items τ)
def lcF (κ : Kx) (ws : List Nat) (tg : Tg) (t : T) (e : E) (items : List D) (τ : Loc) : Res Rv := lcRun κ τ ws tg t e items
@[simp] theorem S_lcF (ws : List Nat) (tg : Tg) (t : T) (e : E) (items : List D) : lcF κ ws tg t e items τ = lcRun κ τ ws tg t e items := rfl
@[simp] theorem S_lc (ws : List Nat) (tg : Tg) (it : I) (t : T) (e : E) : ev κ (.lc ws tg it t e) τ = (evI κ it τ).bind (lcF κ ws tg t e) := by
  first | (rw [ev]; done) | (rw [ev] <;> rfl)
def callF (κ : Kx) (f : Nat) (rs : List Rv) (τ : Loc) : Res Rv := callR (κ.call f) (rs.map fzFr) τ
@[simp] theorem S_callF (f : Nat) (rs : List Rv) : callF κ f rs τ = callR (κ.call f) (rs.map fzFr) τ := rfl
@[simp] theorem S_call (f : Nat) (es : Es) : ev κ (.call f es) τ = (evs κ es τ).bind (callF κ f) := by
  first | (rw [ev]; done) | (rw [ev] <;> rfl)
@[simp] theorem S_callf (i : Nat) (as : Es) : ev κ (.callf i as) τ = callfE κ i (evs κ as) τ := by
  first | (rw [ev]; done) | (rw [ev] <;> rfl)
@[simp] theorem S_callc (i : Nat) (as : Es) : ev κ (.callc i as) τ = callcE κ i (evs κ as) τ := by
  first | (rw [ev]; done) | (rw [ev] <;> rfl)
def lamF (κ : Kx) (f l : Nat) (q : List D × List D) (τ : Loc) : Res Rv := lamCall (κ.call f) l q.1 q.2 τ
@[simp] theorem S_lamF (f l : Nat) (q : List D × List D) : lamF κ f l q τ = lamCall (κ.call f) l q.1 q.2 τ := rfl
@[simp] theorem S_calll (f : Nat) (as : Es) (l : Nat) (is : List Nat) : ev κ (.calll f as l is) τ = (evL κ is as τ).bind (lamF κ f l) := by
  first | (rw [ev]; done) | (rw [ev] <;> rfl)
def mkF (κ : Kx) (c : Nat) (rs : List Rv) (τ : Loc) : Res Rv := callR (mkOf (κ.call (κ.init c)) c) (rs.map fzFr) τ
@[simp] theorem S_mkF (c : Nat) (rs : List Rv) : mkF κ c rs τ = callR (mkOf (κ.call (κ.init c)) c) (rs.map fzFr) τ := rfl
@[simp] theorem S_make (c : Nat) (es : Es) : ev κ (.make c es) τ = (evs κ es τ).bind (mkF κ c) := by
  first | (rw [ev]; done) | (rw [ev] <;> rfl)
@[simp] theorem S_meth (m : PySem.Str) (o : E) (es : Es) : ev κ (.meth m o es) τ = (ev κ o τ).bind (methE κ m (evs κ es)) := by
  first | (rw [ev]; done) | (rw [ev] <;> rfl)
def isiF (t : Ty) (x : Rv) (τ : Loc) : Res Rv := lift ((typeIs t x.c).map fun b => .pu (.bl b)) τ
@[simp] theorem S_isiF (t : Ty) (x : Rv) : isiF t x τ = lift ((typeIs t x.c).map fun b => .pu (.bl b)) τ := rfl
@[simp] theorem S_isi (a : E) (t : Ty) : ev κ (.isi a t) τ = (ev κ a τ).bind (isiF t) := by
  first | (rw [ev]; done) | (rw [ev] <;> rfl)
def biF (b : Bi) (rs : List Rv) (τ : Loc) : Res Rv := lift (bi b (rs.map Rv.c)) τ
@[simp] theorem S_biF (b : Bi) (rs : List Rv) : biF b rs τ = lift (bi b (rs.map Rv.c)) τ := rfl
@[simp] theorem S_bi (b : Bi) (es : Es) : ev κ (.bi b es) τ = (evs κ es τ).bind (biF b) := by
  first | (rw [ev]; done) | (rw [ev] <;> rfl)
@[simp] theorem S_mi (m : Mi) (o : E) (es : Es) : ev κ (.mi m o es) τ = (ev κ o τ).bind (miE m (evs κ es)) := by
  first | (rw [ev]; done) | (rw [ev] <;> rfl)
def fzF  (d : D) (τ : Loc) : Res Rv := .ok (.pu d) τ
@[simp] theorem S_fzF  (d : D) : fzF  d τ = .ok (.pu d) τ := rfl
@[simp] theorem S_fz (e : E) : ev κ (.fz e) τ = (toF (ev κ e τ)).bind fzF := by
  first | (rw [ev]; done) | (rw [ev] <;> rfl)
@[simp] theorem S_evs0  : evs κ .nil τ = .ok [] τ := by
  first | (rw [evs]; done) | (rw [evs] <;> rfl)
def consF (r : Rv) (rs : List Rv) (τ : Loc) : Res (List Rv) := .ok (r :: rs) τ
@[simp] theorem S_consF (r : Rv) (rs : List Rv) : consF r rs τ = .ok (r :: rs) τ := rfl
def evsF (κ : Kx) (es : Es) (r : Rv) (τ : Loc) : Res (List Rv) := (evs κ es τ).bind (consF r)
@[simp] theorem S_evsF (es : Es) (r : Rv) : evsF κ es r τ = (evs κ es τ).bind (consF r) := rfl
@[simp] theorem S_evs1 (e : E) (es : Es) : evs κ (.cons e es) τ = (ev κ e τ).bind (evsF κ es) := by
  first | (rw [evs]; done) | (rw [evs] <;> rfl)
def capF  (ws : List D) (τ : Loc) : Res (List D × List D) := .ok ([], ws) τ
@[simp] theorem S_capF  (ws : List D) : capF  ws τ = .ok ([], ws) τ := rfl
@[simp] theorem S_L0 (is : List Nat) : evL κ is .nil τ = (capE is τ).bind capF := by
  first | (rw [evL]; done) | (rw [evL] <;> rfl)
def evLG (d : D) (p : List D × List D) (τ : Loc) : Res (List D × List D) := .ok (d :: p.1, p.2) τ
@[simp] theorem S_evLG (d : D) (p : List D × List D) : evLG d p τ = .ok (d :: p.1, p.2) τ := rfl
def evLF (κ : Kx) (is : List Nat) (es : Es) (d : D) (τ : Loc) : Res (List D × List D) := (evL κ is es τ).bind (evLG d)
@[simp] theorem S_evLF (is : List Nat) (es : Es) (d : D) : evLF κ is es d τ = (evL κ is es τ).bind (evLG d) := rfl
@[simp] theorem S_L1 (is : List Nat) (e : E) (es : Es) : evL κ is (.cons e es) τ = (toF (ev κ e τ)).bind (evLF κ is es) := by
  first | (rw [evL]; done) | (rw [evL] <;> rfl)
def pfG (n : PySem.Str) (q : Nat × List Sp × C) (c : C) (τ : Loc) : Res (Nat × List Sp × C) := .ok (q.1, q.2.1 ++ [.f n], c) τ
@[simp] theorem S_pfG (n : PySem.Str) (q : Nat × List Sp × C) (c : C) : pfG n q c τ = .ok (q.1, q.2.1 ++ [.f n], c) τ := rfl
def pfF (n : PySem.Str) (q : Nat × List Sp × C) (τ : Loc) : Res (Nat × List Sp × C) := (optR (q.2.2.sub (.f n)) τ).bind (pfG n q)
@[simp] theorem S_pfF (n : PySem.Str) (q : Nat × List Sp × C) : pfF n q τ = (optR (q.2.2.sub (.f n)) τ).bind (pfG n q) := rfl
@[simp] theorem S_Pf (p : P) (n : PySem.Str) : evP κ (.f p n) τ = (evP κ p τ).bind (pfF n) := by
  first | (rw [evP]; done) | (rw [evP] <;> rfl)
def pxK (q : Nat × List Sp × C) (j : Nat) (c : C) (τ : Loc) : Res (Nat × List Sp × C) := .ok (q.1, q.2.1 ++ [.k j], c) τ
@[simp] theorem S_pxK (q : Nat × List Sp × C) (j : Nat) (c : C) : pxK q j c τ = .ok (q.1, q.2.1 ++ [.k j], c) τ := rfl
def pxH (q : Nat × List Sp × C) (j : Nat) (τ : Loc) : Res (Nat × List Sp × C) := (optR (q.2.2.sub (.k j)) τ).bind (pxK q j)
@[simp] theorem S_pxH (q : Nat × List Sp × C) (j : Nat) : pxH q j τ = (optR (q.2.2.sub (.k j)) τ).bind (pxK q j) := rfl
def pxG (q : Nat × List Sp × C) (d : D) (τ : Loc) : Res (Nat × List Sp × C) := (optR (stepAt q.2.2 d) τ).bind (pxH q)
@[simp] theorem S_pxG (q : Nat × List Sp × C) (d : D) : pxG q d τ = (optR (stepAt q.2.2 d) τ).bind (pxH q) := rfl
def pxF (κ : Kx) (i : E) (q : Nat × List Sp × C) (τ : Loc) : Res (Nat × List Sp × C) := (toF (ev κ i τ)).bind (pxG q)
@[simp] theorem S_pxF (i : E) (q : Nat × List Sp × C) : pxF κ i q τ = (toF (ev κ i τ)).bind (pxG q) := rfl
@[simp] theorem S_Px (p : P) (i : E) : evP κ (.x p i) τ = (evP κ p τ).bind (pxF κ i) := by
  first | (rw [evP]; done) | (rw [evP] <;> rfl)
def itF  (r : Rv) (τ : Loc) : Res (List D) := optR (itemsOf r.c) τ
@[simp] theorem S_itF  (r : Rv) : itF  r τ = optR (itemsOf r.c) τ := rfl
@[simp] theorem S_Il (e : E) : evI κ (.l e) τ = (ev κ e τ).bind itF := by
  first | (rw [evI]; done) | (rw [evI] <;> rfl)
@[simp] theorem S_Irng (a : E) : evI κ (.rng a) τ = (toF (ev κ a τ)).bind rng1E := by
  first | (rw [evI]; done) | (rw [evI] <;> rfl)
def rngF (κ : Kx) (b : E) (d : D) (τ : Loc) : Res (List D) := (toF (ev κ b τ)).bind (rng2E d)
@[simp] theorem S_rngF (b : E) (d : D) : rngF κ b d τ = (toF (ev κ b τ)).bind (rng2E d) := rfl
@[simp] theorem S_Irng2 (a b : E) : evI κ (.rng2 a b) τ = (toF (ev κ a τ)).bind (rngF κ b) := by
  first | (rw [evI]; done) | (rw [evI] <;> rfl)
def enF  (r : Rv) (τ : Loc) : Res (List D) := optR ((seqOf r.c).map fun ds => enumOf ds 0) τ
@[simp] theorem S_enF  (r : Rv) : enF  r τ = optR ((seqOf r.c).map fun ds => enumOf ds 0) τ := rfl
@[simp] theorem S_Ienum (e : E) : evI κ (.enum e) τ = (ev κ e τ).bind enF := by
  first | (rw [evI]; done) | (rw [evI] <;> rfl)
def zipF (κ : Kx) (b : E) (r : Rv) (τ : Loc) : Res (List D) := (ev κ b τ).bind (zipE r)
@[simp] theorem S_zipF (b : E) (r : Rv) : zipF κ b r τ = (ev κ b τ).bind (zipE r) := rfl
@[simp] theorem S_Izip (a b : E) : evI κ (.zip a b) τ = (ev κ a τ).bind (zipF κ b) := by
  first | (rw [evI]; done) | (rw [evI] <;> rfl)
@[simp] theorem S_Ty  : evT κ .yes τ = .ok true τ := by
  first | (rw [evT]; done) | (rw [evT] <;> rfl)
@[simp] theorem S_Te (a : E) : evT κ (.e a) τ = (ev κ a τ).bind truthE := by
  first | (rw [evT]; done) | (rw [evT] <;> rfl)
def tandF (κ : Kx) (b : T) (c : Bool) (τ : Loc) : Res Bool := if c then evT κ b τ else .ok false τ
@[simp] theorem S_tandF (b : T) (c : Bool) : tandF κ b c τ = if c then evT κ b τ else .ok false τ := rfl
@[simp] theorem S_Tand (a b : T) : evT κ (.and a b) τ = (evT κ a τ).bind (tandF κ b) := by
  first | (rw [evT]; done) | (rw [evT] <;> rfl)
def torF (κ : Kx) (b : T) (c : Bool) (τ : Loc) : Res Bool := if c then .ok true τ else evT κ b τ
@[simp] theorem S_torF (b : T) (c : Bool) : torF κ b c τ = if c then .ok true τ else evT κ b τ := rfl
@[simp] theorem S_Tor (a b : T) : evT κ (.or a b) τ = (evT κ a τ).bind (torF κ b) := by
  first | (rw [evT]; done) | (rw [evT] <;> rfl)
def tnotF  (c : Bool) (τ : Loc) : Res Bool := .ok (!c) τ
@[simp] theorem S_tnotF  (c : Bool) : tnotF  c τ = .ok (!c) τ := rfl
@[simp] theorem S_Tnot (a : T) : evT κ (.not a) τ = (evT κ a τ).bind tnotF := by
  first | (rw [evT]; done) | (rw [evT] <;> rfl)
def asgG (i : Nat) (c : C) (τ : Loc) : SRes := .nx (τ.set i c)
@[simp] theorem S_asgG (i : Nat) (c : C) : asgG i c τ = .nx (τ.set i c) := rfl
def asgF (i : Nat) (r : Rv) (τ : Loc) : SRes := .of (optR r.keep τ) (asgG i)
@[simp] theorem S_asgF (i : Nat) (r : Rv) : asgF i r τ = .of (optR r.keep τ) (asgG i) := rfl
@[simp] theorem S_asg (i : Nat) (e : E) : ex κ (.asg i e) τ = .of (ev κ e τ) (asgF i) := by
  first | (rw [ex]; done) | (rw [ex] <;> rfl)
def astG (τ : Loc) (_ : Loc) : SRes := .nx τ
@[simp] theorem S_astG (a b : Loc) : astG a b = .nx a := rfl
def astF (tg : Tg) (d : D) (τ : Loc) : SRes := .of (optR (asgT tg d τ) τ) astG
@[simp] theorem S_astF (tg : Tg) (d : D) : astF tg d τ = .of (optR (asgT tg d τ) τ) astG := rfl
@[simp] theorem S_asgT (tg : Tg) (e : E) : ex κ (.asgT tg e) τ = .of (toF (ev κ e τ)) (astF tg) := by
  first | (rw [ex]; done) | (rw [ex] <;> rfl)
def parF (i j : Nat) (rs : List Rv) (τ : Loc) : SRes := .of (optR (fzAll rs) τ) (parE i j)
@[simp] theorem S_parF (i j : Nat) (rs : List Rv) : parF i j rs τ = .of (optR (fzAll rs) τ) (parE i j) := rfl
@[simp] theorem S_par (i j : Nat) (as : Es) : ex κ (.par i j as) τ = .of (evs κ as τ) (parF i j) := by
  first | (rw [ex]; done) | (rw [ex] <;> rfl)
def sfK (q : Nat × List Sp × C) (y : C) (τ : Loc) : SRes := .nx (setP q y τ)
@[simp] theorem S_sfK (q : Nat × List Sp × C) (y : C) : sfK q y τ = .nx (setP q y τ) := rfl
def sfH (f : PySem.Str) (c : C) (q : Nat × List Sp × C) (τ : Loc) : SRes := .of (optR (setF q.2.2 f c) τ) (sfK q)
@[simp] theorem S_sfH (f : PySem.Str) (c : C) (q : Nat × List Sp × C) : sfH f c q τ = .of (optR (setF q.2.2 f c) τ) (sfK q) := rfl
def sfG (κ : Kx) (p : P) (f : PySem.Str) (c : C) (τ : Loc) : SRes := .of (evP κ p τ) (sfH f c)
@[simp] theorem S_sfG (p : P) (f : PySem.Str) (c : C) : sfG κ p f c τ = .of (evP κ p τ) (sfH f c) := rfl
def sfF (κ : Kx) (p : P) (f : PySem.Str) (r : Rv) (τ : Loc) : SRes := .of (optR r.keep τ) (sfG κ p f)
@[simp] theorem S_sfF (p : P) (f : PySem.Str) (r : Rv) : sfF κ p f r τ = .of (optR r.keep τ) (sfG κ p f) := rfl
@[simp] theorem S_setF (p : P) (f : PySem.Str) (e : E) : ex κ (.setF p f e) τ = .of (ev κ e τ) (sfF κ p f) := by
  first | (rw [ex]; done) | (rw [ex] <;> rfl)
def sxK (c : C) (q : Nat × List Sp × C) (k : D) (τ : Loc) : SRes := .of (optR (setX q.2.2 k c) τ) (sfK q)
@[simp] theorem S_sxK (c : C) (q : Nat × List Sp × C) (k : D) : sxK c q k τ = .of (optR (setX q.2.2 k c) τ) (sfK q) := rfl
def sxH (κ : Kx) (i : E) (c : C) (q : Nat × List Sp × C) (τ : Loc) : SRes := .of (toF (ev κ i τ)) (sxK c q)
@[simp] theorem S_sxH (i : E) (c : C) (q : Nat × List Sp × C) : sxH κ i c q τ = .of (toF (ev κ i τ)) (sxK c q) := rfl
def sxG (κ : Kx) (p : P) (i : E) (c : C) (τ : Loc) : SRes := .of (evP κ p τ) (sxH κ i c)
@[simp] theorem S_sxG (p : P) (i : E) (c : C) : sxG κ p i c τ = .of (evP κ p τ) (sxH κ i c) := rfl
def sxF (κ : Kx) (p : P) (i : E) (r : Rv) (τ : Loc) : SRes := .of (optR r.keep τ) (sxG κ p i)
@[simp] theorem S_sxF (p : P) (i : E) (r : Rv) : sxF κ p i r τ = .of (optR r.keep τ) (sxG κ p i) := rfl
@[simp] theorem S_setX (p : P) (i e : E) : ex κ (.setX p i e) τ = .of (ev κ e τ) (sxF κ p i) := by
  first | (rw [ex]; done) | (rw [ex] <;> rfl)
def exF  (_r : Rv) (τ : Loc) : SRes := .nx τ
@[simp] theorem S_exF  (_r : Rv) : exF  _r τ = .nx τ := rfl
@[simp] theorem S_ex (e : E) : ex κ (.ex e) τ = .of (ev κ e τ) exF := by
  first | (rw [ex]; done) | (rw [ex] <;> rfl)
def ifF (κ : Kx) (a b : Ss) (c : Bool) (τ : Loc) : SRes := if c then exs κ a τ else exs κ b τ
@[simp] theorem S_ifF (a b : Ss) (c : Bool) : ifF κ a b c τ = if c then exs κ a τ else exs κ b τ := rfl
@[simp] theorem S_ife (t : T) (a b : Ss) : ex κ (.ife t a b) τ = .of (evT κ t τ) (ifF κ a b) := by
  first | (rw [ex]; done) | (rw [ex] <;> rfl)
def retG  (c : C) (τ : Loc) : SRes := .ret c τ
@[simp] theorem S_retG  (c : C) : retG  c τ = .ret c τ := rfl
def retF  (r : Rv) (τ : Loc) : SRes := .of (optR r.keep τ) retG
@[simp] theorem S_retF  (r : Rv) : retF  r τ = .of (optR r.keep τ) retG := rfl
@[simp] theorem S_ret (e : E) : ex κ (.ret e) τ = .of (ev κ e τ) retF := by
  first | (rw [ex]; done) | (rw [ex] <;> rfl)
def raF (κ : Kx) (x : Nat) (rs : List Rv) (τ : Loc) : SRes := .of (optR (fzAll rs) τ) (raiseE (κ.xar x) x)
@[simp] theorem S_raF (x : Nat) (rs : List Rv) : raF κ x rs τ = .of (optR (fzAll rs) τ) (raiseE (κ.xar x) x) := rfl
@[simp] theorem S_raise (x : Nat) (as : Es) : ex κ (.raise x as) τ = .of (evs κ as τ) (raF κ x) := by
  first | (rw [ex]; done) | (rw [ex] <;> rfl)
@[simp] theorem S_andE (f : Loc → Res Rv) (c : Bool) : andE f (.pu (.bl c)) τ = if c then f τ else .ok (.pu (.bl false)) τ := rfl
@[simp] theorem S_orE (f : Loc → Res Rv) (c : Bool) : orE f (.pu (.bl c)) τ = if c then .ok (.pu (.bl true)) τ else f τ := rfl
@[simp] theorem S_notE (c : Bool) : notE (.pu (.bl c)) τ = .ok (.pu (.bl (!c))) τ := rfl
def forRun (tg : Tg) (b : Ss) (items : List D) : SRes := forLoop (forTurn tg (exs κ b)) items τ
def whRun (t : T) (b : Ss) (n : Nat) : SRes := whileLoop (evT κ t) (exs κ b) n τ
def intO (d : D) (τ : Loc) : Res (Option Int) := match d with
  | .int i => .ok (some i) τ
  | _ => .stk
@[simp] theorem S_O1 (e : E) : evO κ (.so e) τ = (toF (ev κ e τ)).bind intO := by
  rw [evO]
  rfl
@[simp] theorem S_intO (i : Int) : intO (.int i) τ = .ok (some i) τ := rfl
@[simp] theorem S_zipE (ds : List D) (s : PySem.Str) : zipE (.pu (.tup ds)) (.pu (.str s)) τ = .ok (zipOf ds (signs s)) τ := rfl
@[simp] theorem S_slit (ds : List D) (l u : Option Int) : sliE (.pu (.tup ds)) l u τ = .ok (.pu (.tup (cut ds l u))) τ := rfl
@[simp] theorem S_slil (ds : List D) (l u : Option Int) : sliE (.pu (.lst ds)) l u τ = .ok (.fr (.lst ((cut ds l u).map .pu))) τ := rfl
@[simp] theorem S_capE (is : List Nat) : capE is τ = match pures (is.map (look τ)) with
    | some ws => if noClos ws then .ok ws τ else .stk
    | none => .stk := rfl
@[simp] theorem S_lamCall (κc : List C → CRes) (l : Nat) (ds ws : List D) : lamCall κc l ds ws τ = match κc (ds.map C.pu ++ [.pu (.clo l ws)]) with
    | .ok c _ => if c.noClo then .ok (rvRes c) τ else .stk
    | .exc x _ => if noClos x.ds then .exc x τ else .stk
    | .stk => .stk := rfl
@[simp] theorem S_setP (i : Nat) (ph : List Sp) (c c' : C) : setP (i, ph, c') c τ = τ.set i ((look τ i).set ph c) := rfl
@[simp] theorem S_Cset (c y : C) : C.set c [] y = y := by
  cases c <;> rfl
@[simp] theorem S_setFo (k : Nat) (ns : List PySem.Str) (cs : List C) (f : PySem.Str) (c : C) : setF (.obj k ns cs) f c = if cs.length < 900 then some (.obj k (putN f c ns cs).1 (putN f c ns cs).2) else none := rfl
@[simp] theorem S_putN0 {γ : Type} (n : PySem.Str) (y : γ) (cs : List γ) : putN n y [] cs = ([n], [y]) := by
  unfold putN
  rfl
@[simp] theorem S_putN1 {γ : Type} (n m : PySem.Str) (y c : γ) (ns : List PySem.Str) (cs : List γ) : putN n y (m :: ns) (c :: cs) = if m = n then (m :: ns, y :: cs) else ((m :: (putN n y ns cs).1), (c :: (putN n y ns cs).2)) := by rw [putN]
@[simp] theorem S_nc0 : noClos [] = true := rfl
@[simp] theorem S_nc1 (d : D) (ds : List D) : noClos (d :: ds) = (d.noClo && noClos ds) := rfl
@[simp] theorem S_nci (i : Int) : (D.int i).noClo = true := rfl
@[simp] theorem S_ncs (i : PySem.Str) : (D.str i).noClo = true := rfl
@[simp] theorem S_ncd (ks ds : List D) : (D.dic ks ds).noClo = noClos ds := rfl
@[simp] theorem S_nccp (d : D) : (C.pu d).noClo = d.noClo := rfl
@[simp] theorem S_ncn : D.non.noClo = true := rfl
@[simp] theorem S_ncb (b : Bool) : (D.bl b).noClo = true := rfl
@[simp] theorem S_O0 : evO κ .no τ = .ok none τ := by rw [evO]
def vP (i : Nat) (c : C) (τ : Loc) : Res (Nat × List Sp × C) := match c with
  | .un => .stk
  | c => .ok (i, [], c) τ
@[simp] theorem S_P0 (i : Nat) : evP κ (.v i) τ = vP i (look τ i) τ := by
  rw [evP]
  rfl
@[simp] theorem S_vp (i : Nat) (d : D) : vP i (.pu d) τ = .ok (i, [], .pu d) τ := rfl
@[simp] theorem S_vl (i : Nat) (cs : List C) : vP i (.lst cs) τ = .ok (i, [], .lst cs) τ := rfl
@[simp] theorem S_vd (i : Nat) (ks : List D) (cs : List C) : vP i (.dic ks cs) τ = .ok (i, [], .dic ks cs) τ := rfl
@[simp] theorem S_vo (i : Nat) (c : Nat) (ns : List PySem.Str) (cs : List C) : vP i (.obj c ns cs) τ = .ok (i, [], .obj c ns cs) τ := rfl
def forF (κ : Kx) (tg : Tg) (b : Ss) (items : List D) (τ : Loc) : SRes := forRun κ τ tg b items
@[simp] theorem S_forF (tg : Tg) (b : Ss) (items : List D) : forF κ tg b items τ = forRun κ τ tg b items := rfl
@[simp] theorem S_for (tg : Tg) (it : I) (b : Ss) : ex κ (.for tg it b) τ = .of (evI κ it τ) (forF κ tg b) := by
  rw [ex_for]
  rfl
@[simp] theorem S_while (t : T) (b : Ss) : ex κ (.while t b) τ = whRun κ τ t b κ.fuel := by
  rw [ex_while]
  rfl
@[simp] theorem S_try (b : Ss) (c : Nat) (h : Hd) : ex κ (.try b (.cons c h .nil)) τ = tryE κ.sub c h (exs κ b τ) := by rw [ex_try]
@[simp] theorem S_tryA (b : Ss) (c i : Nat) (h : Hd) : ex κ (.try b (.as c i h .nil)) τ = tryA κ.sub c i h (exs κ b τ) := by rw [ex_tryA]
@[simp] theorem S_retN : ex κ .retN τ = .ret (.pu .non) τ := by rw [ex]
@[simp] theorem S_pass : ex κ .pass τ = .nx τ := by rw [ex]
@[simp] theorem S_brk : ex κ .brk τ = .brk τ := by rw [ex]
@[simp] theorem S_cont : ex κ .cont τ = .cont τ := by rw [ex]
@[simp] theorem S_sfz (i : Nat) : ex κ (.fz i) τ = fzS i τ := by
  rw [ex]
  rfl
@[simp] theorem S_exs0 : exs κ .nil τ = .nx τ := by rw [exs]
@[simp] theorem S_exs1 (s : S) (ss : Ss) : exs κ (.cons s ss) τ = (ex κ s τ).seq (exs κ ss) := by rw [exs_cons]
end
@[simp] theorem S_for0 (κ : Kx) (τ : Loc) (tg : Tg) (b : Ss) : forRun κ τ tg b [] = .nx τ := rfl
@[simp] theorem S_for1 (κ : Kx) (τ : Loc) (tg : Tg) (b : Ss) (d : D) (ds : List D) : forRun κ τ tg b (d :: ds) = match SRes.of (optR (asgT tg d τ) τ) (fun τ' _ => exs κ b τ') with
    | .nx τ1 => forRun κ τ1 tg b ds
    | .cont τ1 => forRun κ τ1 tg b ds
    | .brk τ1 => .nx τ1
    | r => r := by
  unfold forRun
  rw [forLoop]
  rfl
/-! values -/
@[simp] theorem S_rdpu (i : Nat) (ph : List Sp) (d : D) (τ : Loc) : rdC (i, ph, .pu d) τ = .ok (.pu d) τ := rfl
@[simp] theorem S_rdl (i : Nat) (ph : List Sp) (cs : List C) (τ : Loc) : rdC (i, ph, .lst cs) τ = .ok (.bo i ph (.lst cs)) τ := rfl
@[simp] theorem S_rdd (i : Nat) (ph : List Sp) (ks : List D) (cs : List C) (τ : Loc) : rdC (i, ph, .dic ks cs) τ = .ok (.bo i ph (.dic ks cs)) τ := rfl
@[simp] theorem S_rdo (i : Nat) (ph : List Sp) (c : Nat) (ns : List PySem.Str) (cs : List C) (τ : Loc) : rdC (i, ph, .obj c ns cs) τ = .ok (.bo i ph (.obj c ns cs)) τ := rfl
@[simp] theorem S_cpu (d : D) : (Rv.pu d).c = .pu d := rfl
@[simp] theorem S_cfr (c : C) : (Rv.fr c).c = c := rfl
@[simp] theorem S_cbo (i : Nat) (ph : List Sp) (c : C) : (Rv.bo i ph c).c = c := rfl
@[simp] theorem S_kpu (d : D) : (Rv.pu d).keep = some (.pu d) := rfl
@[simp] theorem S_kfr (c : C) : (Rv.fr c).keep = some c := rfl
@[simp] theorem S_fzpu (d : D) : (Rv.pu d).fz = some d := rfl
@[simp] theorem S_fzfr (c : C) : (Rv.fr c).fz = some c.fz := rfl
@[simp] theorem S_ffpu (d : D) : fzFr (.pu d) = .pu d := rfl
@[simp] theorem S_fffr (c : C) : fzFr (.fr c) = .pu c.fz := rfl
@[simp] theorem S_ffbo (i : Nat) (ph : List Sp) (c : C) : fzFr (.bo i ph c) = .bo i ph c := rfl
@[simp] theorem S_Cfzp (d : D) : (C.pu d).fz = d := rfl
@[simp] theorem S_Cfzl (cs : List C) : (C.lst cs).fz = .lst (fzs cs) := rfl
@[simp] theorem S_Cfzd (ks : List D) (cs : List C) : (C.dic ks cs).fz = .dic ks (fzs cs) := rfl
@[simp] theorem S_Cfzo (c : Nat) (ns : List PySem.Str) (cs : List C) : (C.obj c ns cs).fz = .obj c ns (fzs cs) := rfl
@[simp] theorem S_fzs0 : fzs [] = [] := rfl
@[simp] theorem S_fzs1 (c : C) (cs : List C) : fzs (c :: cs) = c.fz :: fzs cs := rfl
@[simp] theorem S_fzsp : ∀ ds : List D, fzs (ds.map .pu) = ds
  | [] => rfl
  | d :: ds => by simp [S_fzsp ds]
@[simp] theorem S_pures : ∀ ds : List D, pures (ds.map C.pu) = some ds
  | [] => rfl
  | d :: ds => by simp [pures, S_pures ds]
@[simp] theorem S_puresf {α : Type} (f : α → D) : ∀ xs : List α, pures (xs.map (C.pu ∘ f)) = some (xs.map f)
  | [] => rfl
  | x :: xs => by simp [pures, S_puresf f xs]
@[simp] theorem S_fzsf {α : Type} (f : α → D) : ∀ xs : List α, fzs (xs.map (C.pu ∘ f)) = xs.map f
  | [] => rfl
  | x :: xs => by simp [fzs, C.fz, S_fzsf f xs]
@[simp] theorem S_pures0 : pures [] = some [] := rfl
@[simp] theorem S_pures1 (d : D) (cs : List C) : pures (.pu d :: cs) = (pures cs).map (d :: ·) := rfl
@[simp] theorem S_toF (r : Rv) (τ : Loc) : toF (.ok r τ) = match r.fz with
    | some d => .ok d τ
    | none => .stk := rfl
@[simp] theorem S_toFx (x : Exn) (τ : Loc) : toF (.exc x τ) = .exc x τ := rfl
@[simp] theorem S_fza0 : fzAll [] = some [] := rfl
@[simp] theorem S_fza1 (r : Rv) (rs : List Rv) : fzAll (r :: rs) = r.fz.bind fun d => (fzAll rs).map (d :: ·) := rfl
@[simp] theorem S_kpa0 : keepAll [] = some [] := rfl
@[simp] theorem S_kpa1 (r : Rv) (rs : List Rv) : keepAll (r :: rs) = r.keep.bind fun d => (keepAll rs).map (d :: ·) := rfl
@[simp] theorem S_truthE (r : Rv) (τ : Loc) : truthE r τ = optR (truth r.c) τ := rfl
@[simp] theorem S_tbl (b : Bool) : truth (.pu (.bl b)) = some b := rfl
@[simp] theorem S_ttup (ds : List D) : truth (.pu (.tup ds)) = some (!ds.isEmpty) := rfl
@[simp] theorem S_tlst (ds : List D) : truth (.pu (.lst ds)) = some (!ds.isEmpty) := rfl
@[simp] theorem S_tnon : truth (.pu .non) = some false := rfl
def isNonD : D → Bool
  | .non => true
  | _ => false
theorem S_noneP (d : D) (h : ∀ l ws, d ≠ .clo l ws) : isNone (.pu d) = some (isNonD d) := by
  cases d <;> first | rfl | exact (h _ _ rfl).elim
@[simp] theorem S_nonB (b : Bool) : isNone (.pu (.bl b)) = some false := rfl
@[simp] theorem S_nonN : isNone (.pu .non) = some true := rfl
@[simp] theorem S_nonI (i : Int) : isNone (.pu (.int i)) = some false := rfl
@[simp] theorem S_nonS (i : PySem.Str) : isNone (.pu (.str i)) = some false := rfl
@[simp] theorem S_nonT (i : List D) : isNone (.pu (.tup i)) = some false := rfl
@[simp] theorem S_nonL (i : List D) : isNone (.pu (.lst i)) = some false := rfl
@[simp] theorem S_nonO (c : Nat) (ns : List PySem.Str) (i : List D) : isNone (.pu (.obj c ns i)) = some false := rfl
@[simp] theorem S_ic (f : Int → Int → Bool) (a b : Int) : intC f (.pu (.int a)) (.pu (.int b)) = some (f a b) := rfl
@[simp] theorem S_lt : cmpop .lt = intC fun a b => decide (a < b) := rfl
@[simp] theorem S_le : cmpop .le = intC fun a b => decide (a ≤ b) := rfl
@[simp] theorem S_gt : cmpop .gt = intC fun a b => decide (b < a) := rfl
@[simp] theorem S_ge : cmpop .ge = intC fun a b => decide (b ≤ a) := rfl
@[simp] theorem S_add (a b : Int) : binop .add (.pu (.int a)) (.pu (.int b)) = some (.pu (.int (a + b))) := rfl
@[simp] theorem S_sub (a b : Int) : binop .sub (.pu (.int a)) (.pu (.int b)) = some (.pu (.int (a - b))) := rfl
/-! a def's frame -/
@[simp] theorem S_mask0 (os : List C) : maskO [] os = [] := by cases os <;> rfl
@[simp] theorem S_maskp (d : D) (cs : List C) (o : C) (os : List C) : maskO (.pu d :: cs) (o :: os) = .pu d :: maskO cs os := rfl
@[simp] theorem S_maskl (xs cs : List C) (o : C) (os : List C) : maskO (.lst xs :: cs) (o :: os) = o :: maskO cs os := rfl
@[simp] theorem S_masko (c : Nat) (ns : List PySem.Str) (xs cs : List C) (o : C) (os : List C) : maskO (.obj c ns xs :: cs) (o :: os) = o :: maskO cs os := rfl
@[simp] theorem S_io0 (io : List Nat) (i : Nat) : ioOk io [] i = true := rfl
@[simp] theorem S_io1 (io : List Nat) (i : Nat) (d : D) (cs : List C) : ioOk io (.pu d :: cs) i = ioOk io cs (i + 1) := rfl
@[simp] theorem S_iol (io : List Nat) (i : Nat) (xs cs : List C) : ioOk io (.lst xs :: cs) i = (io.contains i && ioOk io cs (i + 1)) := rfl
@[simp] theorem S_ioo (io : List Nat) (i : Nat) (c : Nat) (ns : List PySem.Str) (xs cs : List C) : ioOk io (.obj c ns xs :: cs) i = (io.contains i && ioOk io cs (i + 1)) := rfl
@[simp] theorem S_run (κ : Kx) (d : Df) (as : List C) : runDf κ d as = if as.length == d.np && ioOk d.io as 0 then (match exs κ d.body (as ++ List.replicate (d.ns - d.np) .un) with
    | .nx τ => .ok (.pu .non) (maskO as τ)
    | .ret c τ => .ok c (maskO as τ)
    | .exc x τ => .exc x (maskO as τ)
    | _ => .stk) else .stk := rfl
@[simp] theorem S_kcall (g : Pg) (n : Nat) : (g.kx n).call = g.call n := rfl
@[simp] theorem S_kinit (g : Pg) (n : Nat) : (g.kx n).init = g.init := rfl
@[simp] theorem S_kmeth (g : Pg) (n : Nat) : (g.kx n).meth = g.meth := rfl
@[simp] theorem S_kxar (g : Pg) (n : Nat) : (g.kx n).xar = g.xar := rfl
@[simp] theorem S_ksub (g : Pg) (n : Nat) : (g.kx n).sub = g.sub := rfl
/-! calls: what is handed, what comes back -/
@[simp] theorem S_callR (f : List C → CRes) (rs : List Rv) (τ : Loc) : callR f rs τ = if nodupB (roots rs) then (match f (rs.map Rv.c) with
    | .ok c os => if backOk rs os then .ok (rvRes c) (backTo rs os τ) else .stk
    | .exc x os => if backOk rs os then .exc x (backTo rs os τ) else .stk
    | .stk => .stk) else .stk := rfl
@[simp] theorem S_roots0 : roots [] = [] := rfl
@[simp] theorem S_rootsp (d : D) (rs : List Rv) : roots (.pu d :: rs) = roots rs := rfl
@[simp] theorem S_rootsb (i : Nat) (ph : List Sp) (c : C) (rs : List Rv) : roots (.bo i ph c :: rs) = i :: roots rs := rfl
@[simp] theorem S_ndb0 : nodupB [] = true := rfl
@[simp] theorem S_ndb1 (i : Nat) (is : List Nat) : nodupB (i :: is) = (!is.contains i && nodupB is) := rfl
@[simp] theorem S_back0 (τ : Loc) (os : List C) : DE.backTo [] os τ = τ := by cases os <;> rfl
@[simp] theorem S_backp (d : D) (rs : List Rv) (o : C) (os : List C) (τ : Loc) : DE.backTo (.pu d :: rs) (o :: os) τ = DE.backTo rs os τ := rfl
@[simp] theorem S_backb (i : Nat) (ph : List Sp) (c : C) (rs : List Rv) (o : C) (os : List C) (τ : Loc) : DE.backTo (.bo i ph c :: rs) (o :: os) τ = DE.backTo rs os (τ.set i ((look τ i).set ph o)) := rfl
@[simp] theorem S_bok0 (os : List C) : backOk [] os = true := by cases os <;> rfl
@[simp] theorem S_bok1 (r : Rv) (rs : List Rv) (o : C) (os : List C) : backOk (r :: rs) (o :: os) = (!o.isUn && backOk rs os) := rfl
@[simp] theorem S_unp (d : D) : (C.pu d).isUn = false := rfl
@[simp] theorem S_unl (cs : List C) : (C.lst cs).isUn = false := rfl
@[simp] theorem S_uno (c : Nat) (ns : List PySem.Str) (cs : List C) : (C.obj c ns cs).isUn = false := rfl
@[simp] theorem S_rvp (d : D) : rvRes (.pu d) = .pu d := rfl
@[simp] theorem S_rvl (cs : List C) : rvRes (.lst cs) = .fr (.lst cs) := rfl
@[simp] theorem S_rvo (c : Nat) (ns : List PySem.Str) (cs : List C) : rvRes (.obj c ns cs) = .fr (.obj c ns cs) := rfl
/-! == of data -/
theorem ofString_inj {a b : String} (h : PySem.Str.ofString a = PySem.Str.ofString b) : a = b := by
  rw [PySem.Str.ofString_eq_toList, PySem.Str.ofString_eq_toList] at h
  have h1 := congrArg (fun s : PySem.Str => s.cps.toList) h
  simp only at h1
  have inj : ∀ xs ys : List Char, xs.map Char.toNat = ys.map Char.toNat → xs = ys := fun xs => by
    induction xs with
    | nil =>
      intro ys e
      cases ys with
      | nil => rfl
      | cons y ys => cases e
    | cons x xs ih =>
      intro ys e
      cases ys with
      | nil => cases e
      | cons y ys =>
        simp only [List.map_cons, List.cons.injEq] at e
        rw [ih ys e.2, Char.toNat_inj.mp e.1]
  exact String.toList_inj.mp (inj _ _ h1)
@[simp] theorem S_ofeq (a b : String) : (PySem.Str.ofString a = PySem.Str.ofString b) = (a = b) := propext ⟨ofString_inj, fun h => by rw [h]⟩
@[simp] theorem S_ofbeq (a b : String) : (PySem.Str.ofString a == PySem.Str.ofString b) = (a == b) := by
  by_cases h : a = b
  · subst h
    simp
  · have n : PySem.Str.ofString a ≠ PySem.Str.ofString b := fun e => h (ofString_inj e)
    rw [beq_eq_false_iff_ne.mpr n, beq_eq_false_iff_ne.mpr h]
@[simp] theorem S_eqss (a b : PySem.Str) : (D.str a).eqb (.str b) = (a == b) := by rw [D.eqb]
@[simp] theorem S_eqii (a b : Int) : (D.int a).eqb (.int b) = (a == b) := by rw [D.eqb]
@[simp] theorem S_eqis (a : Int) (b : PySem.Str) : (D.int a).eqb (.str b) = false := by rw [D.eqb] <;> intros <;> simp_all
@[simp] theorem S_eqsi (b : Int) (a : PySem.Str) : (D.str a).eqb (.int b) = false := by rw [D.eqb] <;> intros <;> simp_all
@[simp] theorem S_key0 (x : D) (j : Nat) : keyAt x [] j = none := rfl
@[simp] theorem S_key1 (x k : D) (ks : List D) (j : Nat) : keyAt x (k :: ks) j = if k.eqb x then some j else keyAt x ks (j + 1) := rfl
@[simp] theorem S_isin (a : D) (c : C) : cmpop .isin (.pu a) c = isIn a c := rfl
@[simp] theorem S_notin (a : D) (c : C) : cmpop .notin (.pu a) c = (isIn a c).map (!·) := rfl
@[simp] theorem S_isind (x : D) (ks vs : List D) : isIn x (.pu (.dic ks vs)) = if flat x then some (ks.any (·.eqb x)) else none := rfl
@[simp] theorem S_fls (s : PySem.Str) : flat (.str s) = true := rfl
@[simp] theorem S_fli (s : Int) : flat (.int s) = true := rfl
@[simp] theorem S_stepd (ks vs : List D) (x : D) : stepAt (.pu (.dic ks vs)) x = if flat x then keyAt x ks 0 else none := by
  cases x <;> rfl
@[simp] theorem S_stept (ds : List D) (i : Int) : stepAt (.pu (.tup ds)) (.int i) = ixN ds.length i := rfl
@[simp] theorem S_stepl (ds : List D) (i : Int) : stepAt (.pu (.lst ds)) (.int i) = ixN ds.length i := rfl
@[simp] theorem S_stepc (cs : List C) (i : Int) : stepAt (.lst cs) (.int i) = ixN cs.length i := rfl
@[simp] theorem S_subt (ds : List D) (j : Nat) : (C.pu (.tup ds)).sub (.k j) = ds[j]?.map .pu := rfl
@[simp] theorem S_subl (ds : List D) (j : Nat) : (C.pu (.lst ds)).sub (.k j) = ds[j]?.map .pu := rfl
@[simp] theorem S_subd (ks ds : List D) (j : Nat) : (C.pu (.dic ks ds)).sub (.k j) = ds[j]?.map .pu := rfl
@[simp] theorem S_subc (cs : List C) (j : Nat) : (C.lst cs).sub (.k j) = cs[j]? := rfl
@[simp] theorem S_len1 (c : C) : bi .len [c] = (lenOf c).bind fun n => if n ≤ big then some (.pu (.int n)) else none := rfl
@[simp] theorem S_all1 (c : C) : bi .all [c] = (listOf c).bind fun ds => (boolsOf ds).map fun bs => .pu (.bl (bs.all id)) := rfl
@[simp] theorem S_any1 (c : C) : bi .any [c] = (listOf c).bind fun ds => (boolsOf ds).map fun bs => .pu (.bl (bs.any id)) := rfl
@[simp] theorem S_tuple1 (c : C) : bi .tuple [c] = (seqOf c).map fun ds => .pu (.tup ds) := rfl
@[simp] theorem S_list1 (c : C) : bi .list [c] = (seqOf c).map fun ds => .fr (.lst (ds.map .pu)) := rfl
@[simp] theorem S_bint (i : Int) : bi .int [.pu (.int i)] = some (.pu (.int i)) := rfl
@[simp] theorem S_seqt (ds : List D) : seqOf (.pu (.tup ds)) = some ds := rfl
@[simp] theorem S_seql (ds : List D) : seqOf (.pu (.lst ds)) = some ds := rfl
@[simp] theorem S_seqc (cs : List C) : seqOf (.lst cs) = pures cs := rfl
@[simp] theorem S_itt (ds : List D) : itemsOf (.pu (.tup ds)) = some ds := rfl
@[simp] theorem S_itl (ds : List D) : itemsOf (.pu (.lst ds)) = some ds := rfl
@[simp] theorem S_itc (cs : List C) : itemsOf (.lst cs) = pures cs := rfl
@[simp] theorem S_lent (ds : List D) : lenOf (.pu (.tup ds)) = some ds.length := rfl
@[simp] theorem S_lens (s : PySem.Str) : lenOf (.pu (.str s)) = some s.length := rfl
@[simp] theorem S_lenl (ds : List D) : lenOf (.pu (.lst ds)) = some ds.length := rfl
@[simp] theorem S_lenc (ds : List C) : lenOf (.lst ds) = some ds.length := rfl
@[simp] theorem S_listp (ds : List D) : listOf (.pu (.lst ds)) = some ds := rfl
@[simp] theorem S_listc (cs : List C) : listOf (.lst cs) = pures cs := rfl
@[simp] theorem S_ity (x : D) : typeIs .int (.pu x) = (tyN (.pu x)).bind (tyB .int) := rfl
@[simp] theorem S_sty (x : D) : typeIs .str (.pu x) = (tyN (.pu x)).bind (tyB .str) := rfl
@[simp] theorem S_tty (x : D) : typeIs .tup (.pu x) = (tyN (.pu x)).bind (tyB .tup) := rfl
@[simp] theorem S_lty (x : C) : typeIs .lst x = (tyN x).bind (tyB .lst) := rfl
@[simp] theorem S_eqi (a b : Int) : cmpop .eq (.pu (.int a)) (.pu (.int b)) = some (a == b) := by
  have e : (D.int a).dep ≤ 60 ∧ (D.int b).dep ≤ 60 := by
    have h : ∀ i, (D.int i).dep = 0 := fun i => by rw [D.dep] <;> intros <;> simp_all
    rw [h, h]
    omega
  show (if (D.int a).dep ≤ 60 ∧ (D.int b).dep ≤ 60 then some ((D.int a).eqb (.int b)) else none) = _
  rw [if_pos e, S_eqii]
@[simp] theorem S_nei (a b : Int) : cmpop .ne (.pu (.int a)) (.pu (.int b)) = some (!(a == b)) := by
  show (cmpop .eq (.pu (.int a)) (.pu (.int b))).map (!·) = _
  rw [S_eqi]
  rfl
/-! comprehensions -/
theorem lc_loop {own : List Nat} {tg : Tg} {ft : Loc → Res Bool} {fe : Loc → Res D} {τ0 : Loc} {h : D → D} : ∀ (items : List D) (τ : Loc), wipe own τ = wipe own τ0 → back own τ0 τ = τ0 →
    (∀ d ∈ items, ∃ τ1 τ2 τ3, asgT tg d (wipe own τ0) = some τ1 ∧ ft τ1 = .ok true τ2 ∧ fe τ2 = .ok (h d) τ3 ∧ wipe own τ3 = wipe own τ0 ∧ back own τ0 τ3 = τ0) →
    ∃ τ', lcLoop (lcTurn own tg ft fe) items τ = .ok (items.map h) τ' ∧ back own τ0 τ' = τ0
  | [], τ, _, hb, _ => ⟨τ, rfl, hb⟩
  | d :: ds, τ, hw, hb, H => by
    obtain ⟨τ1, τ2, τ3, a1, a2, a3, a4, a5⟩ := H d List.mem_cons_self
    obtain ⟨τ', e1, e2⟩ := lc_loop ds τ3 a4 a5 fun d hd => H d (List.mem_cons_of_mem _ hd)
    refine ⟨τ', ?_, e2⟩
    simp only [lcLoop, lcTurn, hw, a1, S_optR_some, S_bind_ok, a2, if_true, a3, e1, List.map_cons]
theorem lc_pure {κ : Kx} {own : List Nat} {tg : Tg} {e : E} {τ0 : Loc} (h : D → D) {items : List D} (hf : freeO own τ0 = true) (hl : items.length ≤ big) (hb : back own τ0 τ0 = τ0)
    (H : ∀ d ∈ items, ∃ τ1 r τ3, asgT tg d (wipe own τ0) = some τ1 ∧ ev κ e τ1 = .ok r τ3 ∧ r.fz = some (h d) ∧ wipe own τ3 = wipe own τ0 ∧ back own τ0 τ3 = τ0) :
    lcRun κ τ0 own tg .yes e items = .ok (.fr (.lst ((items.map h).map .pu))) τ0 := by
  obtain ⟨τ', e1, e2⟩ := lc_loop (h := h) (ft := evT κ .yes) (fe := fun τ => toF (ev κ e τ)) items τ0 rfl hb fun d hd => by
    obtain ⟨τ1, r, τ3, a1, a2, a3, a4, a5⟩ := H d hd
    exact ⟨τ1, τ1, τ3, a1, S_Ty κ τ1, by simp [a2, a3], a4, a5⟩
  unfold lcRun putBack
  rw [if_pos hf, e1]
  show (if (items.map h).length ≤ big then _ else _) = _
  rw [List.length_map, if_pos hl, e2]
end DE
end
section
set_option Elab.async false
set_option linter.all false
set_option maxRecDepth 100000
set_option maxHeartbeats 4000000
/-! SP1: what the defs of all laws compute: the tests. -/
namespace DE
open PySem L2
/-- plain data: a type isinstance knows -/
def D.pl : D → Bool
  | .obj _ _ _ | .fn _ | .clo _ _ => false
  | _ => true
def numIn (a b : Int) : D → Bool
  | .int i => decide (a ≤ i) && decide (i ≤ b)
  | _ => false
theorem sp_number {g : Pg} (h : g.df 0 = some DT.d0.d) (n : Nat) (v : D) (a b : Int) (hv : v.pl = true) : g.call (n + 1) 0 [.pu v, .pu (.int a), .pu (.int b)] = .ok (.pu (.bl (numIn a b v))) [.pu v, .pu (.int a), .pu (.int b)] := by
  rw [call_df h]
  cases v with
  | int i =>
    simp [DT.d0, DT.b0, typeIs, tyN, tyB, numIn]
    by_cases q : a ≤ i <;> simp [q]
  | obj _ _ _ => cases hv
  | fn _ => cases hv
  | clo _ _ => cases hv
  | _ => rfl
end DE
end
section
set_option Elab.async false
set_option linter.all false
set_option maxRecDepth 100000
set_option maxHeartbeats 4000000
/-! SP2: .. more tests. -/
namespace DE
open PySem L2
def placeB (rooms : Int) : D → Bool
  | .str s => ("held" : Str) == s || ("gone" : Str) == s
  | v => numIn 0 (rooms - 1) v
theorem sp_place {g : Pg} (h0 : g.df 0 = some DT.d0.d) (h : g.df 1 = some DT.d1.d) (n : Nat) (v : D) (r : Int) (hv : v.pl = true) : g.call (n + 2) 1 [.pu v, .pu (.int r)] = .ok (.pu (.bl (placeB r v))) [.pu v, .pu (.int r)] := by
  rw [call_df h]
  cases v with
  | str s =>
    simp [DT.d1, DT.b1, typeIs, tyN, tyB, placeB, cmpop, inC, isIn, inSeq, seqOf, tupE, isFl, D.eqb]
  | obj _ _ _ => cases hv
  | fn _ => cases hv
  | clo _ _ => cases hv
  | _ =>
    simp [DT.d1, DT.b1, typeIs, tyN, tyB, placeB, sp_number h0 n _ 0 (r - 1) hv]
end DE
end
section
set_option Elab.async false
set_option linter.all false
set_option maxRecDepth 100000
set_option maxHeartbeats 4000000
/-! SP3: .. a need, an effect. -/
namespace DE
open PySem L2
mutual
/-- data as worlds are made of: no objects, nothing great -/
def D.fine : D → Bool
  | .non | .bl _ | .int _ => true
  | .str s => decide (s.length ≤ 1000) && PyData.strOk s
  | .tup ds => decide (ds.length ≤ 1000) && fines ds
  | .lst ds => decide (ds.length ≤ 1000) && fines ds
  | _ => false
def fines : List D → Bool
  | [] => true
  | d :: ds => d.fine && fines ds
end
theorem fines_mem : ∀ {ds : List D}, fines ds = true → ∀ d ∈ ds, d.fine = true
  | [], _, _, h => by cases h
  | x :: xs, h, d, hd => by
    simp only [fines, Bool.and_eq_true] at h
    rcases List.mem_cons.mp hd with z | z
    · rw [z]
      exact h.1
    · exact fines_mem h.2 d z
theorem fine_pl {d : D} (h : d.fine = true) : d.pl = true := by
  cases d <;> first | rfl | (simp [D.fine] at h)
/-- the words of needs | effects -/
structure Forms (ks vs : List D) (F : Str → Option Str) : Prop where
  any : ∀ w, ks.any (·.eqb (.str w)) = (F w).isSome
  get : ∀ w f, F w = some f → ∃ j, keyAt (.str w) ks 0 = some j ∧ vs[j]? = some (.str f)
  few : ∀ w f, F w = some f → f.length ≤ 2
  sig : ∀ w f, F w = some f → ∀ d ∈ signs f, d = .str "r" ∨ d = .str "t" ∨ d = .str "f"
def szD (r t f : Int) : D := .dic [.str "r", .str "t", .str "f"] [.int r, .int t, .int f]
def szI (r t f : Int) : D → Int
  | .str s => if s = "r" then r else if s = "t" then t else f
  | _ => 0
def formedB (F : Str → Option Str) (r t f : Int) : D → Bool
  | .tup (.str w :: rest) => (match F w with
    | some fm => decide (rest.length = fm.length) && (zipOf rest (signs fm)).all fun p => match p with
      | .tup [a, b] => numIn 0 (szI r t f b - 1) a
      | _ => false
    | none => false)
  | _ => false
theorem zip_mem : ∀ {as bs : List D} {d : D}, d ∈ zipOf as bs → ∃ a b, d = .tup [a, b] ∧ a ∈ as ∧ b ∈ bs
  | [], _, _, h => by
    unfold zipOf at h
    cases h
  | _ :: _, [], _, h => by
    unfold zipOf at h
    cases h
  | a :: as, b :: bs, d, h => by
    rcases List.mem_cons.mp h with z | z
    · exact ⟨a, b, z, List.mem_cons_self, List.mem_cons_self⟩
    · obtain ⟨x, y, e, h1, h2⟩ := zip_mem z
      exact ⟨x, y, e, List.mem_cons_of_mem _ h1, List.mem_cons_of_mem _ h2⟩
theorem zip_len : ∀ {as bs : List D}, (zipOf as bs).length ≤ as.length
  | [], _ => by
    unfold zipOf
    simp
  | _ :: _, [] => by
    unfold zipOf
    simp
  | a :: as, b :: bs => by
    have := zip_len (as := as) (bs := bs)
    simp [zipOf, this]
theorem bools_map {α : Type} (p : α → Bool) : ∀ xs : List α, boolsOf (xs.map fun x => D.bl (p x)) = some (xs.map p)
  | [] => rfl
  | x :: xs => by simp [boolsOf, bools_map p xs]
abbrev ds_len (ds : List D) : Nat := ds.length
theorem sp_formed {g : Pg} (h0 : g.df 0 = some DT.d0.d) (h : g.df 2 = some DT.d2.d) {ks vs : List D} {F : Str → Option Str} (hF : Forms ks vs F) (n : Nat) (v : D) (r t f : Int) (hv : v.fine = true) :
    g.call (n + 2) 2 [.pu v, .pu (.dic ks vs), .pu (szD r t f)] = .ok (.pu (.bl (formedB F r t f v))) [.pu v, .pu (.dic ks vs), .pu (szD r t f)] := by
  rw [call_df h]
  cases v with
  | tup ds =>
    cases ds with
    | nil => rfl
    | cons d rest =>
      simp only [D.fine, fines, Bool.and_eq_true, decide_eq_true_eq] at hv
      obtain ⟨hl, hd, hr⟩ := hv
      cases d with
      | str w =>
        have any := hF.any w
        cases hw : F w with
        | none =>
          rw [hw] at any
          simp [DT.d2, DT.b2, tyN, tyB, any, formedB, hw, ixN]
        | some fm =>
          rw [hw] at any
          obtain ⟨j, g1, g2⟩ := hF.get w fm hw
          have fl := hF.few w fm hw
          have sg := hF.sig w fm hw
          have hb : ds_len rest ≤ 999 := by
            unfold ds_len
            simp at hl
            omega
          have key := lc_pure (κ := g.kx (n + 1)) (own := [4, 5]) (tg := .t (.cons (.n 4) (.cons (.n 5) .nil))) (e := .call 0 (.cons (.rd (.v 4)) (.cons (.k (.int 0)) (.cons (.bin .sub (.rd (.x (.v 2) (.rd (.v 5)))) (.k (.int 1))) .nil))))
            (τ0 := [.pu (.tup (.str w :: rest)), .pu (.dic ks vs), .pu (szD r t f), .pu (.str fm), .un, .un])
            (fun p => .bl (match p with
              | .tup [a, b] => numIn 0 (szI r t f b - 1) a
              | _ => false)) (items := zipOf rest (signs fm)) rfl (Nat.le_trans zip_len (by unfold ds_len at hb; unfold big; omega)) rfl fun d hd => by
              obtain ⟨a, b, rfl, ha, hb⟩ := zip_mem hd
              have pa := fine_pl (fines_mem hr a ha)
              have hn := sp_number h0 n a 0 (szI r t f b - 1) pa
              refine ⟨[.pu (.tup (.str w :: rest)), .pu (.dic ks vs), .pu (szD r t f), .pu (.str fm), .pu a, .pu b], .pu (.bl (numIn 0 (szI r t f b - 1) a)), [.pu (.tup (.str w :: rest)), .pu (.dic ks vs), .pu (szD r t f), .pu (.str fm), .pu a, .pu b], rfl, ?_, rfl, rfl, rfl⟩
              rcases sg b hb with e | e | e <;> subst e <;> simp [szD, szI] at hn ⊢ <;> simp [hn]
          have hB : rest.length + 1 ≤ big := by
            unfold ds_len at hb
            unfold big
            omega
          have hB2 : fm.length ≤ big := by
            unfold big
            omega
          have hq : (((rest.length : Int) + 1 == (fm.length : Int) + 1) : Bool) = decide (rest.length = fm.length) := by
            by_cases z : rest.length = fm.length
            · rw [z]
              simp
            · rw [decide_eq_false z]
              exact beq_eq_false_iff_ne.mpr (by omega)
          have e1 : sIx (rest.length + 1) 0 (some 1) = 1 := by
            show (if (1 : Int) < 0 then ((1 : Int) + ((rest.length + 1 : Nat) : Int)).toNat else min (1 : Int).toNat (rest.length + 1)) = 1
            rw [if_neg (by omega)]
            simp
          have cutE : cut (.str w :: rest) (some 1) none = rest := by
            unfold cut
            rw [List.length_cons, e1]
            simp [sIx]
          by_cases z : rest.length = fm.length
          · have hB3 : fm.length + 1 ≤ big := z ▸ hB
            simp [DT.d2, DT.b2, tyN, tyB, any, formedB, hw, ixN, g1, g2, cutE, hB3, hB2, hq, z, key, bools_map]
          · simp [DT.d2, DT.b2, tyN, tyB, any, formedB, hw, ixN, g1, g2, cutE, hB, hB2, hq, z]
      | obj _ _ _ => cases hd
      | fn _ => cases hd
      | clo _ _ => cases hd
      | dic _ _ => cases hd
      | _ => simp [DT.d2, DT.b2, tyN, tyB, ixN, formedB]
  | obj _ _ _ => cases hv
  | fn _ => cases hv
  | clo _ _ => cases hv
  | dic _ _ => cases hv
  | _ => rfl
end DE
end
section
set_option Elab.async false
set_option linter.all false
set_option maxRecDepth 100000
set_option maxHeartbeats 4000000
/-! SP4: .. needs, doors, goals, rules. -/
namespace DE
open PySem L2
def needF (w : Str) : Option Str := if w = "held" then some "t" else if w = "here" then some "t" else if w = "gone" then some "t" else if w = "at" then some "tr" else if w = "on" then some "f" else if w = "off" then some "f" else none
def effF (w : Str) : Option Str := if w = "hold" then some "t" else if w = "lay" then some "t" else if w = "lose" then some "t" else if w = "put" then some "tr" else if w = "on" then some "f" else if w = "off" then some "f" else if w = "go" then some "r" else none
abbrev needK : List D := [.str "held", .str "here", .str "gone", .str "at", .str "on", .str "off"]
abbrev needV : List D := [.str "t", .str "t", .str "t", .str "tr", .str "f", .str "f"]
abbrev effK : List D := [.str "hold", .str "lay", .str "lose", .str "put", .str "on", .str "off", .str "go"]
abbrev effV : List D := [.str "t", .str "t", .str "t", .str "tr", .str "f", .str "f", .str "r"]
theorem forms_of {ks : List D} {vs : List D} {F : Str → Option Str} (names : List Str) (hk : ks = names.map D.str) (hv : ∀ (j : Nat) (w : Str), names[j]? = some w → ∃ f, F w = some f ∧ vs[j]? = some (.str f) ∧ f.length ≤ 2 ∧ ∀ d ∈ signs f, d = D.str "r" ∨ d = D.str "t" ∨ d = D.str "f") (hn : ∀ w : Str, w ∉ names → F w = none) : Forms ks vs F := by
  subst hk
  have key : ∀ (names : List Str) (n : Nat) (w : Str), w ∈ names → ∃ j, keyAt (.str w) (names.map D.str) n = some (n + j) ∧ names[j]? = some w := fun names => by
    induction names with
    | nil =>
      intro n w h
      cases h
    | cons x xs ih =>
      intro n w h
      by_cases e : x = w
      · subst e
        exact ⟨0, by simp, by simp⟩
      · rcases List.mem_cons.mp h with z | z
        · exact (e z.symm).elim
        · obtain ⟨j, h1, h2⟩ := ih (n + 1) w z
          refine ⟨j + 1, ?_, by simpa using h2⟩
          have e' : (x == w) = false := by simpa using e
          simp only [List.map_cons, S_key1, S_eqss, e']
          rw [if_neg (by simp), h1]
          congr 1
          omega
  refine ⟨fun w => ?_, fun w f h => ?_, fun w f h => ?_, fun w f h => ?_⟩
  · rw [List.any_map]
    by_cases h : w ∈ names
    · obtain ⟨j, _, h2⟩ := key names 0 w h
      obtain ⟨f, hf, _⟩ := hv j w h2
      rw [hf]
      simp only [Option.isSome_some, List.any_eq_true, Function.comp_apply, S_eqss, beq_iff_eq]
      exact ⟨w, h, rfl⟩
    · rw [hn w h]
      simp only [Option.isSome_none, List.any_eq_false, Function.comp_apply, S_eqss, beq_iff_eq]
      exact fun x hx e => h (e ▸ hx)
  all_goals
    have hm : w ∈ names := Classical.byContradiction fun z => by
      rw [hn w z] at h
      cases h
    obtain ⟨j, h1, h2⟩ := key names 0 w hm
    obtain ⟨f', hf, h3, h4, h5⟩ := hv j w h2
    rw [h] at hf
    cases hf
  · exact ⟨j, by simpa using h1, h3⟩
  · exact h4
  · exact h5
theorem sg_e (a : String) (xs : List D) (h : signs (Str.ofString a) = xs) (hx : ∀ d ∈ xs, d = D.str "r" ∨ d = D.str "t" ∨ d = D.str "f") : ∀ d ∈ signs (Str.ofString a), d = D.str "r" ∨ d = D.str "t" ∨ d = D.str "f" := by
  rw [h]
  exact hx
theorem sg_t : ∀ d ∈ signs (Str.ofString "t"), d = D.str "r" ∨ d = D.str "t" ∨ d = D.str "f" := sg_e "t" [.str "t"] (by kernel_rfl) (fun d hd => .inr (.inl (List.mem_singleton.mp hd)))
theorem sg_f : ∀ d ∈ signs (Str.ofString "f"), d = D.str "r" ∨ d = D.str "t" ∨ d = D.str "f" := sg_e "f" [.str "f"] (by kernel_rfl) (fun d hd => .inr (.inr (List.mem_singleton.mp hd)))
theorem sg_r : ∀ d ∈ signs (Str.ofString "r"), d = D.str "r" ∨ d = D.str "t" ∨ d = D.str "f" := sg_e "r" [.str "r"] (by kernel_rfl) (fun d hd => .inl (List.mem_singleton.mp hd))
theorem sg_tr : ∀ d ∈ signs (Str.ofString "tr"), d = D.str "r" ∨ d = D.str "t" ∨ d = D.str "f" := sg_e "tr" [.str "t", .str "r"] (by kernel_rfl) (fun d hd => by
  simp only [List.mem_cons, List.not_mem_nil, or_false] at hd
  rcases hd with e | e
  · exact .inr (.inl e)
  · exact .inl e)
theorem needForms : Forms needK needV needF := forms_of ["held", "here", "gone", "at", "on", "off"] rfl (fun j w h => by
  match j, h with
  | 0, h => cases h; exact ⟨"t", by simp [needF], rfl, by decide, sg_t⟩
  | 1, h => cases h; exact ⟨"t", by simp [needF], rfl, by decide, sg_t⟩
  | 2, h => cases h; exact ⟨"t", by simp [needF], rfl, by decide, sg_t⟩
  | 3, h => cases h; exact ⟨"tr", by simp [needF], rfl, by decide, sg_tr⟩
  | 4, h => cases h; exact ⟨"f", by simp [needF], rfl, by decide, sg_f⟩
  | 5, h => cases h; exact ⟨"f", by simp [needF], rfl, by decide, sg_f⟩
  | n + 6, h => simp at h) (fun w h => by
  simp only [List.mem_cons, List.not_mem_nil, or_false, not_or] at h
  simp [needF, h])
theorem effForms : Forms effK effV effF := forms_of ["hold", "lay", "lose", "put", "on", "off", "go"] rfl (fun j w h => by
  match j, h with
  | 0, h => cases h; exact ⟨"t", by simp [effF], rfl, by decide, sg_t⟩
  | 1, h => cases h; exact ⟨"t", by simp [effF], rfl, by decide, sg_t⟩
  | 2, h => cases h; exact ⟨"t", by simp [effF], rfl, by decide, sg_t⟩
  | 3, h => cases h; exact ⟨"tr", by simp [effF], rfl, by decide, sg_tr⟩
  | 4, h => cases h; exact ⟨"f", by simp [effF], rfl, by decide, sg_f⟩
  | 5, h => cases h; exact ⟨"f", by simp [effF], rfl, by decide, sg_f⟩
  | 6, h => cases h; exact ⟨"r", by simp [effF], rfl, by decide, sg_r⟩
  | n + 7, h => simp at h) (fun w h => by
  simp only [List.mem_cons, List.not_mem_nil, or_false, not_or] at h
  simp [effF, h])
section
variable {g : Pg}
theorem sp_need (h0 : g.df 0 = some DT.d0.d) (h2 : g.df 2 = some DT.d2.d) (h : g.df 3 = some DT.d3.d) (n : Nat) (v : D) (r t f : Int) (hv : v.fine = true) :
    g.call (n + 3) 3 [.pu v, .pu (szD r t f)] = .ok (.pu (.bl (formedB needF r t f v))) [.pu v, .pu (szD r t f)] := by
  rw [call_df h]
  have k := sp_formed h0 h2 needForms n v r t f hv
  simp [DT.d3, DT.b3, k]
end
end DE
end
section
set_option Elab.async false
set_option linter.all false
set_option maxRecDepth 100000
set_option maxHeartbeats 4000000
/-! SP5: .. doors, goals, rules. -/
namespace DE
open PySem L2
def areB (F : Str → Option Str) (r t f least : Int) : D → Bool
  | .tup ds => decide (least ≤ ds.length) && decide ((ds.length : Int) ≤ 3) && ds.all (formedB F r t f)
  | _ => false
theorem tup_small {ds : List D} (h : (D.tup ds).fine = true) : ds.length ≤ 1000 ∧ fines ds = true := by
  simpa [D.fine] using h
section
variable {g : Pg}
theorem sp_areFormed (h0 : g.df 0 = some DT.d0.d) (h2 : g.df 2 = some DT.d2.d) (h : g.df 4 = some DT.d4.d) {ks vs : List D} {F : Str → Option Str} (hF : Forms ks vs F) (n : Nat) (v : D) (least r t f : Int) (hv : v.fine = true) :
    g.call (n + 3) 4 [.pu v, .pu (.dic ks vs), .pu (.int least), .pu (szD r t f)] = .ok (.pu (.bl (areB F r t f least v))) [.pu v, .pu (.dic ks vs), .pu (.int least), .pu (szD r t f)] := by
  rw [call_df h]
  cases v with
  | tup ds =>
    obtain ⟨hl, hr⟩ := tup_small hv
    have hB : ds.length ≤ big := Nat.le_trans hl (by decide)
    have key := lc_pure (κ := g.kx (n + 2)) (own := [4]) (tg := .n 4) (e := .call 2 (.cons (.rd (.v 4)) (.cons (.rd (.v 1)) (.cons (.rd (.v 3)) .nil))))
      (τ0 := [.pu (.tup ds), .pu (.dic ks vs), .pu (.int least), .pu (szD r t f), .un]) (fun p => .bl (formedB F r t f p)) (items := ds) rfl hB rfl fun d hd => by
        have k := sp_formed h0 h2 hF n d r t f (fines_mem hr d hd)
        exact ⟨[.pu (.tup ds), .pu (.dic ks vs), .pu (.int least), .pu (szD r t f), .pu d], .pu (.bl (formedB F r t f d)), [.pu (.tup ds), .pu (.dic ks vs), .pu (.int least), .pu (szD r t f), .pu d], rfl, by simp [k], rfl, rfl, rfl⟩
    by_cases q1 : least ≤ (ds.length : Int)
    · by_cases q2 : (ds.length : Int) ≤ 3
      · simp [DT.d4, DT.b4, tyN, tyB, hB, q1, q2, key, bools_map, areB]
      · simp [DT.d4, DT.b4, tyN, tyB, hB, q1, q2, areB]
    · simp [DT.d4, DT.b4, tyN, tyB, hB, q1, areB]
  | obj _ _ _ => cases hv
  | fn _ => cases hv
  | clo _ _ => cases hv
  | dic _ _ => cases hv
  | _ => rfl
def rnB (r : Int) : D → Bool
  | .non => true
  | v => numIn 0 (r - 1) v
theorem sp_roomOrNone (h0 : g.df 0 = some DT.d0.d) (h : g.df 5 = some DT.d5.d) (n : Nat) (v : D) (r t f : Int) (hv : v.fine = true) :
    g.call (n + 2) 5 [.pu v, .pu (szD r t f)] = .ok (.pu (.bl (rnB r v))) [.pu v, .pu (szD r t f)] := by
  rw [call_df h]
  have k := sp_number h0 n v 0 (r - 1) (fine_pl hv)
  cases v with
  | non => rfl
  | obj _ _ _ => cases hv
  | fn _ => cases hv
  | clo _ _ => cases hv
  | dic _ _ => cases hv
  | _ => simp [DT.d5, DT.b5, szD, k, rnB]
end
end DE
end
section
set_option Elab.async false
set_option linter.all false
set_option maxRecDepth 100000
set_option maxHeartbeats 4000000
/-! SP6: .. doors, goals, rules. -/
namespace DE
open PySem L2
def noneOr (p : D → Bool) : D → Bool
  | .non => true
  | v => p v
def doorB (r t f : Int) : D → Bool
  | .tup [a, b, c] => numIn 0 (r - 1) a && numIn 0 (r - 1) b && noneOr (formedB needF r t f) c
  | _ => false
def goalB (r t f : Int) : D → Bool
  | .tup [a, b] => rnB r a && areB needF r t f 0 b
  | _ => false
def ruleB (r t f : Int) : D → Bool
  | .tup [a, b, c] => goalB r t f (.tup [a, b]) && areB effF r t f 1 c
  | _ => false
theorem isN_fine {d : D} (h : d.fine = true) : isNone (.pu d) = some (isNonD d) := S_noneP d fun l ws e => by
  rw [e] at h
  cases h
theorem len_ne {ds : List D} {k : Nat} (h : ds.length ≠ k) : (((ds.length : Int) == (k : Int)) : Bool) = false := beq_eq_false_iff_ne.mpr (by omega)
theorem three {ds : List D} (h : ds.length = 3) : ∃ a b c, ds = [a, b, c] := by
  match ds, h with
  | [a, b, c], _ => exact ⟨a, b, c, rfl⟩
theorem two {ds : List D} (h : ds.length = 2) : ∃ a b, ds = [a, b] := by
  match ds, h with
  | [a, b], _ => exact ⟨a, b, rfl⟩
theorem door_len {r t f : Int} {ds : List D} (h : ds.length ≠ 3) : doorB r t f (.tup ds) = false := by
  match ds, h with
  | [], _ => rfl
  | [_], _ => rfl
  | [_, _], _ => rfl
  | [_, _, _], h => exact (h rfl).elim
  | _ :: _ :: _ :: _ :: _, _ => rfl
theorem goal_len {r t f : Int} {ds : List D} (h : ds.length ≠ 2) : goalB r t f (.tup ds) = false := by
  match ds, h with
  | [], _ => rfl
  | [_], _ => rfl
  | [_, _], h => exact (h rfl).elim
  | _ :: _ :: _ :: _, _ => rfl
theorem rule_len {r t f : Int} {ds : List D} (h : ds.length ≠ 3) : ruleB r t f (.tup ds) = false := by
  match ds, h with
  | [], _ => rfl
  | [_], _ => rfl
  | [_, _], _ => rfl
  | [_, _, _], h => exact (h rfl).elim
  | _ :: _ :: _ :: _ :: _, _ => rfl
section
variable {g : Pg}
theorem sp_door (h0 : g.df 0 = some DT.d0.d) (h2 : g.df 2 = some DT.d2.d) (h3 : g.df 3 = some DT.d3.d) (h : g.df 6 = some DT.d6.d) (n : Nat) (v : D) (r t f : Int) (hv : v.fine = true) :
    g.call (n + 4) 6 [.pu v, .pu (szD r t f)] = .ok (.pu (.bl (doorB r t f v))) [.pu v, .pu (szD r t f)] := by
  rw [call_df h]
  cases v with
  | tup ds =>
    obtain ⟨hl, hr⟩ := tup_small hv
    have hB : ds.length ≤ big := Nat.le_trans hl (by decide)
    by_cases q : ds.length = 3
    · obtain ⟨a, b, c, rfl⟩ := three q
      have fa := fines_mem hr a (by simp)
      have fb := fines_mem hr b (by simp)
      have fc := fines_mem hr c (by simp)
      have key := lc_pure (κ := g.kx (n + 3)) (own := [2]) (tg := .n 2) (e := .call 0 (.cons (.rd (.v 2)) (.cons (.k (.int 0)) (.cons (.bin .sub (.rd (.x (.v 1) (.k (.str "r")))) (.k (.int 1))) .nil))))
        (τ0 := [.pu (.tup [a, b, c]), .pu (szD r t f), .un]) (fun p => .bl (numIn 0 (r - 1) p)) (items := [a, b]) rfl (by show 2 ≤ big; decide) rfl fun d hd => by
          have fd : d.fine = true := by
            simp only [List.mem_cons, List.not_mem_nil, or_false] at hd
            rcases hd with e | e <;> rw [e] <;> assumption
          have k := sp_number h0 (n + 2) d 0 (r - 1) (fine_pl fd)
          exact ⟨[.pu (.tup [a, b, c]), .pu (szD r t f), .pu d], .pu (.bl (numIn 0 (r - 1) d)), [.pu (.tup [a, b, c]), .pu (szD r t f), .pu d], rfl, by simp [szD, k], rfl, rfl, rfl⟩
      have cutE : cut [a, b, c] none (some 2) = [a, b] := by simp [cut, sIx]
      have k := sp_need h0 h2 h3 n c r t f fc
      have hn := isN_fine fc
      have b3 : (3 : Nat) ≤ big := by decide
      cases q1 : numIn 0 (r - 1) a <;> cases q2 : numIn 0 (r - 1) b
      all_goals
        simp [DT.d6, DT.b6, tyN, tyB, b3, cutE, key, boolsOf, q1, q2, doorB, ixN, hn]
      cases c <;> simp [noneOr, isNonD, k] <;> cases fc
    · have e : (((ds.length : Int) == 3) : Bool) = false := len_ne (k := 3) q
      simp [DT.d6, DT.b6, tyN, tyB, hB, door_len q, e]
  | obj _ _ _ => cases hv
  | fn _ => cases hv
  | clo _ _ => cases hv
  | dic _ _ => cases hv
  | _ => rfl
theorem sp_goal (h0 : g.df 0 = some DT.d0.d) (h2 : g.df 2 = some DT.d2.d) (h4 : g.df 4 = some DT.d4.d) (h5 : g.df 5 = some DT.d5.d) (h : g.df 7 = some DT.d7.d) (n : Nat) (v : D) (r t f : Int) (hv : v.fine = true) :
    g.call (n + 4) 7 [.pu v, .pu (szD r t f)] = .ok (.pu (.bl (goalB r t f v))) [.pu v, .pu (szD r t f)] := by
  rw [call_df h]
  cases v with
  | tup ds =>
    obtain ⟨hl, hr⟩ := tup_small hv
    have hB : ds.length ≤ big := Nat.le_trans hl (by decide)
    by_cases q : ds.length = 2
    · obtain ⟨a, b, rfl⟩ := two q
      have fa := fines_mem hr a (by simp)
      have fb := fines_mem hr b (by simp)
      have k1 := sp_roomOrNone h0 h5 (n + 1) a r t f fa
      have k2 := sp_areFormed h0 h2 h4 needForms n b 0 r t f fb
      have b2 : (2 : Nat) ≤ big := by decide
      cases q1 : rnB r a <;> simp [DT.d7, DT.b7, tyN, tyB, b2, ixN, k1, k2, q1, goalB]
    · have e : (((ds.length : Int) == 2) : Bool) = false := len_ne (k := 2) q
      simp [DT.d7, DT.b7, tyN, tyB, hB, goal_len q, e]
  | obj _ _ _ => cases hv
  | fn _ => cases hv
  | clo _ _ => cases hv
  | dic _ _ => cases hv
  | _ => rfl
theorem sp_rule (h0 : g.df 0 = some DT.d0.d) (h2 : g.df 2 = some DT.d2.d) (h4 : g.df 4 = some DT.d4.d) (h5 : g.df 5 = some DT.d5.d) (h7 : g.df 7 = some DT.d7.d) (h : g.df 8 = some DT.d8.d) (n : Nat) (v : D) (r t f : Int) (hv : v.fine = true) :
    g.call (n + 5) 8 [.pu v, .pu (szD r t f)] = .ok (.pu (.bl (ruleB r t f v))) [.pu v, .pu (szD r t f)] := by
  rw [call_df h]
  cases v with
  | tup ds =>
    obtain ⟨hl, hr⟩ := tup_small hv
    have hB : ds.length ≤ big := Nat.le_trans hl (by decide)
    by_cases q : ds.length = 3
    · obtain ⟨a, b, c, rfl⟩ := three q
      have fa := fines_mem hr a (by simp)
      have fb := fines_mem hr b (by simp)
      have fc := fines_mem hr c (by simp)
      have fab : (D.tup [a, b]).fine = true := by simp [D.fine, fines, fa, fb]
      have k1 := sp_goal h0 h2 h4 h5 h7 n (.tup [a, b]) r t f fab
      have k2 := sp_areFormed h0 h2 h4 effForms (n + 1) c 1 r t f fc
      have b2 : (3 : Nat) ≤ big := by decide
      have cutE : cut [a, b, c] none (some 2) = [a, b] := by simp [cut, sIx]
      cases q1 : goalB r t f (.tup [a, b]) <;> simp [DT.d8, DT.b8, tyN, tyB, b2, ixN, k1, k2, q1, cutE, ruleB]
    · have e : (((ds.length : Int) == 3) : Bool) = false := len_ne (k := 3) q
      simp [DT.d8, DT.b8, tyN, tyB, hB, rule_len q, e]
  | obj _ _ _ => cases hv
  | fn _ => cases hv
  | clo _ _ => cases hv
  | dic _ _ => cases hv
  | _ => rfl
end
end DE
end
section
set_option Elab.async false
set_option linter.all false
set_option maxRecDepth 100000
set_option maxHeartbeats 4000000
/-! SP7: check_number, check_list. -/
namespace DE
open PySem L2
section
variable {g : Pg}
@[simp] theorem S_raiseE (n x : Nat) (ds : List D) (τ : Loc) : raiseE n x ds τ = if ds.length = n then .exc ⟨x, ds⟩ τ else .stk := rfl
theorem sp_checkNumber (h0 : g.df 0 = some DT.d0.d) (h : g.df 10 = some DT.d10.d) (hx : g.xar 1 = 2) (n : Nat) (part v : D) (a b : Int) (hp : ∀ l ws, part ≠ .clo l ws) (hv : v.pl = true) :
    g.call (n + 2) 10 [.pu part, .pu v, .pu (.int a), .pu (.int b)] = if numIn a b v then .ok (.pu .non) [.pu part, .pu v, .pu (.int a), .pu (.int b)] else .exc ⟨1, [part, .int (-1)]⟩ [.pu part, .pu v, .pu (.int a), .pu (.int b)] := by
  rw [call_df h]
  have k := sp_number h0 n v a b hv
  cases q : numIn a b v <;> simp [DT.d10, DT.b10, k, q, hx]
end
mutual
theorem fine_noClo : ∀ d : D, d.fine = true → d.noClo = true
  | .non, _ => rfl
  | .bl _, _ => rfl
  | .int _, _ => rfl
  | .str _, _ => rfl
  | .tup ds, h => by
    simp only [D.fine, Bool.and_eq_true] at h
    exact fines_noClo ds h.2
  | .lst ds, h => by
    simp only [D.fine, Bool.and_eq_true] at h
    exact fines_noClo ds h.2
  | .dic _ _, h => by cases h
  | .obj _ _ _, h => by cases h
  | .fn _, h => by cases h
  | .clo _ _, h => by cases h
theorem fines_noClo : ∀ ds : List D, fines ds = true → noClos ds = true
  | [], _ => rfl
  | d :: ds, h => by
    simp only [fines, Bool.and_eq_true] at h
    simp only [noClos, fine_noClo d h.1, fines_noClo ds h.2, Bool.and_self]
end
section
variable {g : Pg}
def firstBad (p : D → Bool) : List D → Nat → Option Nat
  | [], _ => none
  | d :: ds, k => if p d then firstBad p ds (k + 1) else some k
theorem enum_cons (d : D) (ds : List D) (k : Nat) : enumOf (d :: ds) k = .tup [.int k, d] :: enumOf ds (k + 1) := by rw [enumOf]
theorem list_loop (hx : g.xar 1 = 2) {n l : Nat} {ws : List D} {p : D → Bool} {pt : Str} {most some_ : C} (hl : ∀ d : D, d.fine = true → ∃ os, g.call n l (.pu d :: ws.map .pu) = .ok (.pu (.bl (p d))) os) : ∀ (ds : List D) (k : Nat) (x y : C), fines ds = true → ∃ x' y',
    forRun (g.kx n) [.pu (.str pt), some_, most, .pu (.clo l ws), x, y] (.t (.cons (.n 4) (.cons (.n 5) .nil))) (.cons (.ife (.not (.e (.callc 3 (.cons (.rd (.v 5)) .nil)))) (.cons (.raise 1 (.cons (.rd (.v 0)) (.cons (.rd (.v 4)) .nil))) .nil) .nil) .nil) (enumOf ds k) =
      match firstBad p ds k with
      | none => .nx [.pu (.str pt), some_, most, .pu (.clo l ws), x', y']
      | some i => .exc ⟨1, [.str pt, .int i]⟩ [.pu (.str pt), some_, most, .pu (.clo l ws), x', y']
  | [], k, x, y, _ => ⟨x, y, rfl⟩
  | d :: ds, k, x, y, hf => by
    simp only [fines, Bool.and_eq_true] at hf
    obtain ⟨os, e⟩ := hl d hf.1
    have nc : noClos [d] = true := by simp [noClos, fine_noClo d hf.1]
    cases q : p d with
    | true =>
      obtain ⟨x', y', ih⟩ := list_loop (pt := pt) (most := most) (some_ := some_) hx hl ds (k + 1) (.pu (.int k)) (.pu d) hf.2
      refine ⟨x', y', ?_⟩
      rw [enum_cons]
      simp [asgT, asgTs, callcE, clE, nc, e, q, ih, firstBad]
    | false =>
      refine ⟨.pu (.int k), .pu d, ?_⟩
      rw [enum_cons]
      simp [asgT, asgTs, callcE, clE, nc, e, q, firstBad, hx]
def checkB (p : D → Bool) (most : Int) : D → Option Int
  | .lst ds => if most < (ds.length : Int) then some (-1) else (match firstBad p ds 0 with
    | some i => some (i : Int)
    | none => none)
  | _ => some (-1)
theorem sp_checkList (h : g.df 9 = some DT.d9.d) (hx : g.xar 1 = 2) {n l : Nat} {ws : List D} {p : D → Bool} (hl : ∀ d : D, d.fine = true → ∃ os, g.call n l (.pu d :: ws.map .pu) = .ok (.pu (.bl (p d))) os) (pt : Str) (v : D) (most : Int) (hv : v.fine = true) :
    g.call (n + 1) 9 [.pu (.str pt), .pu v, .pu (.int most), .pu (.clo l ws)] = match checkB p most v with
      | none => .ok (.pu .non) [.pu (.str pt), .pu v, .pu (.int most), .pu (.clo l ws)]
      | some i => .exc ⟨1, [.str pt, .int i]⟩ [.pu (.str pt), .pu v, .pu (.int most), .pu (.clo l ws)] := by
  rw [call_df h]
  cases v with
  | lst ds =>
    have hv' : ds.length ≤ 1000 ∧ fines ds = true := by simpa [D.fine] using hv
    have hB : ds.length ≤ big := Nat.le_trans hv'.1 (by decide)
    by_cases q : most < (ds.length : Int)
    · simp [DT.d9, DT.b9, tyN, tyB, hB, q, checkB, hx]
    · obtain ⟨x', y', e⟩ := list_loop (pt := pt) (most := .pu (.int most)) (some_ := .pu (.lst ds)) hx hl ds 0 .un .un hv'.2
      cases fb : firstBad p ds 0 with
      | none =>
        rw [fb] at e
        simp [DT.d9, DT.b9, tyN, tyB, hB, q, checkB, fb, e]
      | some i =>
        rw [fb] at e
        simp [DT.d9, DT.b9, tyN, tyB, hB, q, checkB, fb, e]
  | obj _ _ _ => cases hv
  | fn _ => cases hv
  | clo _ _ => cases hv
  | dic _ _ => cases hv
  | _ => simp [DT.d9, DT.b9, tyN, tyB, checkB, hx]
end
end DE
end
section
set_option Elab.async false
set_option linter.all false
set_option maxRecDepth 100000
set_option maxHeartbeats 8000000
/-! SP8: World.__init__. -/
namespace DE
open PySem L2
/-- the defs of all laws in a program -/
structure HasC (g : Pg) : Prop where
  f0 : g.df 0 = some DT.d0.d
  f1 : g.df 1 = some DT.d1.d
  f2 : g.df 2 = some DT.d2.d
  f3 : g.df 3 = some DT.d3.d
  f4 : g.df 4 = some DT.d4.d
  f5 : g.df 5 = some DT.d5.d
  f6 : g.df 6 = some DT.d6.d
  f7 : g.df 7 = some DT.d7.d
  f8 : g.df 8 = some DT.d8.d
  f9 : g.df 9 = some DT.d9.d
  f10 : g.df 10 = some DT.d10.d
  f11 : g.df 11 = some DT.d11.d
  f12 : g.df 12 = some DT.d12.d
  f13 : g.df 13 = some DT.d13.d
  f18 : g.df 18 = some DT.d18.d
  f19 : g.df 19 = some DT.d19.d
  f20 : g.df 20 = some DT.d20.d
  f21 : g.df 21 = some DT.d21.d
  f22 : g.df 22 = some DT.d22.d
  f23 : g.df 23 = some DT.d23.d
  f24 : g.df 24 = some DT.d24.d
  f25 : g.df 25 = some DT.d25.d
  f26 : g.df 26 = some DT.d26.d
  f27 : g.df 27 = some DT.d27.d
  f28 : g.df 28 = some DT.d28.d
  l34 : g.df 34 = some (lamDf 2 DT.e34)
  l35 : g.df 35 = some (lamDf 2 DT.e35)
  l36 : g.df 36 = some (lamDf 2 DT.e36)
  x1 : g.xar 1 = 2
  i0 : g.init 0 = 11
  mp : g.meth 0 "parts" = some 12
  me : g.meth 0 eqName = some 13
theorem exs_nx {κ : Kx} {s : S} {ss : Ss} {τ τ1 : Loc} {r : SRes} (h : ex κ s τ = .nx τ1) (h2 : exs κ ss τ1 = r) : exs κ (.cons s ss) τ = r := by
  rw [S_exs1, h, S_seq_nx, h2]
theorem exs_x {κ : Kx} {s : S} {ss : Ss} {τ τ1 : Loc} {x : Exn} (h : ex κ s τ = .exc x τ1) : exs κ (.cons s ss) τ = .exc x τ1 := by
  rw [S_exs1, h, S_seq_exc]
theorem exs_ret {κ : Kx} {s : S} {ss : Ss} {τ τ1 : Loc} {c : C} (h : ex κ s τ = .ret c τ1) : exs κ (.cons s ss) τ = .ret c τ1 := by
  rw [S_exs1, h, S_seq_ret]
section
variable {g : Pg}
theorem sp_l34 (h : HasC g) (n : Nat) (v : D) (r : Int) (hv : v.pl = true) : ∃ os, g.call (n + 3) 34 [.pu v, .pu (.int r)] = .ok (.pu (.bl (placeB r v))) os := by
  rw [call_df h.l34]
  have k := sp_place h.f0 h.f1 n v r hv
  simp [lamDf, DT.e34, k]
theorem sp_l35 (h : HasC g) (n : Nat) (v : D) (r t f : Int) (hv : v.fine = true) : ∃ os, g.call (n + 5) 35 [.pu v, .pu (szD r t f)] = .ok (.pu (.bl (doorB r t f v))) os := by
  rw [call_df h.l35]
  have k := sp_door h.f0 h.f2 h.f3 h.f6 n v r t f hv
  simp [lamDf, DT.e35, k]
theorem sp_l36 (h : HasC g) (n : Nat) (v : D) (r t f : Int) (hv : v.fine = true) : ∃ os, g.call (n + 6) 36 [.pu v, .pu (szD r t f)] = .ok (.pu (.bl (ruleB r t f v))) os := by
  rw [call_df h.l36]
  have k := sp_rule h.f0 h.f2 h.f4 h.f5 h.f7 h.f8 n v r t f hv
  simp [lamDf, DT.e36, k]
abbrev wNames : List Str := ["rooms", "things", "flags", "hands", "start", "doors", "rules", "goal"]
def ival : D → Int
  | .int i => i
  | _ => 0
def lval : D → List D
  | .lst ds => ds
  | _ => []
def chk (b : Bool) (w : Str) (r : Option (Str × Int)) : Option (Str × Int) := match b with
  | true => r
  | false => some (w, -1)
def chkO (o : Option Int) (w : Str) (r : Option (Str × Int)) : Option (Str × Int) := match o with
  | some i => some (w, i)
  | none => r
@[simp] theorem chk_t (w : Str) (r : Option (Str × Int)) : chk true w r = r := rfl
@[simp] theorem chk_f (w : Str) (r : Option (Str × Int)) : chk false w r = some (w, -1) := rfl
@[simp] theorem chkO_n (w : Str) (r : Option (Str × Int)) : chkO none w r = r := rfl
@[simp] theorem chkO_s (w : Str) (i : Int) (r : Option (Str × Int)) : chkO (some i) w r = some (w, i) := rfl
/-- the first wrong part of a world, its index -/
def wBad (ro th fl ha sa dr ru go : D) : Option (Str × Int) :=
  chk (numIn 1 4 ro) "rooms" (chkO (checkB (placeB (ival ro)) 3 th) "things" (chk (numIn 0 2 fl) "flags" (chk (numIn 0 3 ha) "hands" (chk (numIn 0 (ival ro - 1) sa) "start"
    (chkO (checkB (doorB (ival ro) (lval th).length (ival fl)) 8 dr) "doors" (chkO (checkB (ruleB (ival ro) (lval th).length (ival fl)) 5 ru) "rules" (chk (goalB (ival ro) (lval th).length (ival fl) go) "goal" none)))))))
def worldD (ro th fl ha sa dr ru go : D) : D := .obj 0 wNames [ro, .tup (lval th), fl, ha, sa, .tup (lval dr), .tup (lval ru), go]
def worldC (ro th fl ha sa dr ru go : D) : C := .obj 0 wNames [.pu ro, .pu (.tup (lval th)), .pu fl, .pu ha, .pu sa, .pu (.tup (lval dr)), .pu (.tup (lval ru)), .pu go]
theorem numIn_int {a b : Int} {v : D} (h : numIn a b v = true) : ∃ i, v = .int i := by
  cases v <;> first | exact ⟨_, rfl⟩ | cases h
theorem checkB_lst {p : D → Bool} {m : Int} {v : D} (h : checkB p m v = none) : ∃ ds, v = .lst ds ∧ ds.length ≤ m ∧ firstBad p ds 0 = none := by
  cases v with
  | lst ds =>
    by_cases q : m < (ds.length : Int)
    · simp [checkB, q] at h
    · simp only [checkB] at h
      rw [if_neg q] at h
      cases fb : firstBad p ds 0 with
      | none => exact ⟨ds, rfl, by omega, fb⟩
      | some i =>
        rw [fb] at h
        cases h
  | _ => simp [checkB] at h
abbrev iA (ro th fl ha sa dr ru go : D) : List C := [.obj 0 [] [], .pu ro, .pu th, .pu fl, .pu ha, .pu sa, .pu dr, .pu ru, .pu go]
theorem st_num {κ : Kx} {s : S} {τ : Loc} {e1 e2 e3 : E} {pt : Str} {a b : Int} {v : D} (hs : s = .ex (.call 10 (.cons (.k (.str pt)) (.cons e1 (.cons e2 (.cons e3 .nil))))))
    (h1 : ev κ e1 τ = .ok (.pu v) τ) (h2 : ev κ e2 τ = .ok (.pu (.int a)) τ) (h3 : ev κ e3 τ = .ok (.pu (.int b)) τ)
    (k : κ.call 10 [.pu (.str pt), .pu v, .pu (.int a), .pu (.int b)] = if numIn a b v then .ok (.pu .non) [.pu (.str pt), .pu v, .pu (.int a), .pu (.int b)] else .exc ⟨1, [.str pt, .int (-1)]⟩ [.pu (.str pt), .pu v, .pu (.int a), .pu (.int b)]) :
    ex κ s τ = if numIn a b v then .nx τ else .exc ⟨1, [.str pt, .int (-1)]⟩ τ := by
  subst hs
  simp only [S_ex, S_call, S_evs1, S_evs0, S_k, S_bind_ok, S_evsF, h1, h2, h3, S_consF, S_callF, S_callR, List.map, S_ffpu, S_rootsp, S_roots0, S_ndb0, if_true, S_cpu, k]
  cases numIn a b v <;> simp
theorem st_lst {κ : Kx} {s : S} {τ : Loc} {e1 e2 : E} {pt : Str} {m : Int} {v : D} {l i : Nat} {w : D} {p : D → Bool} (hs : s = .ex (.calll 9 (.cons (.k (.str pt)) (.cons e1 (.cons e2 .nil))) l [i]))
    (h1 : ev κ e1 τ = .ok (.pu v) τ) (h2 : ev κ e2 τ = .ok (.pu (.int m)) τ) (hw : look τ i = .pu w) (hc : w.noClo = true)
    (k : κ.call 9 [.pu (.str pt), .pu v, .pu (.int m), .pu (.clo l [w])] = match checkB p m v with
      | none => .ok (.pu .non) [.pu (.str pt), .pu v, .pu (.int m), .pu (.clo l [w])]
      | some i => .exc ⟨1, [.str pt, .int i]⟩ [.pu (.str pt), .pu v, .pu (.int m), .pu (.clo l [w])]) :
    ex κ s τ = match checkB p m v with
      | none => .nx τ
      | some i => .exc ⟨1, [.str pt, .int i]⟩ τ := by
  subst hs
  simp [h1, h2, hw, hc, k]
  cases checkB p m v <;> simp
theorem sp_init (h : HasC g) (n : Nat) {ro th fl ha sa dr ru go : D} (f1 : ro.fine = true) (f2 : th.fine = true) (f3 : fl.fine = true) (f4 : ha.fine = true) (f5 : sa.fine = true) (f6 : dr.fine = true) (f7 : ru.fine = true) (f8 : go.fine = true) :
    g.call (n + 8) 11 (iA ro th fl ha sa dr ru go) = match wBad ro th fl ha sa dr ru go with
      | some q => .exc ⟨1, [.str q.1, .int q.2]⟩ (iA ro th fl ha sa dr ru go)
      | none => .ok (.pu .non) (worldC ro th fl ha sa dr ru go :: [.pu ro, .pu th, .pu fl, .pu ha, .pu sa, .pu dr, .pu ru, .pu go]) := by
  rw [call_df h.f11]
  have hb : exs (g.kx (n + 7)) DT.b11 (iA ro th fl ha sa dr ru go ++ [.un]) = match wBad ro th fl ha sa dr ru go with
      | some q => .exc ⟨1, [.str q.1, .int q.2]⟩ (iA ro th fl ha sa dr ru go ++ [if q.1 = "doors" ∨ q.1 = "rules" ∨ q.1 = "goal" then .pu (szD (ival ro) (lval th).length (ival fl)) else .un])
      | none => .nx (worldC ro th fl ha sa dr ru go :: [.pu ro, .pu th, .pu fl, .pu ha, .pu sa, .pu dr, .pu ru, .pu go, .pu (szD (ival ro) (lval th).length (ival fl))]) := by
    unfold DT.b11 wBad
    have k1 := st_num (κ := g.kx (n + 7)) (τ := iA ro th fl ha sa dr ru go ++ [.un]) (e1 := .rd (.v 1)) (e2 := .k (.int 1)) (e3 := .k (.int 4)) rfl (by simp) (by simp) (by simp) (sp_checkNumber h.f0 h.f10 h.x1 (n + 5) (.str "rooms") ro 1 4 (by intros; simp) (fine_pl f1))
    cases q1 : numIn 1 4 ro with
    | false =>
      rw [q1] at k1
      rw [exs_x k1]
      simp
    | true =>
    rw [q1] at k1
    rw [exs_nx k1 rfl]
    obtain ⟨r, rfl⟩ := numIn_int q1
    have k2 := st_lst (κ := g.kx (n + 7)) (τ := iA (.int r) th fl ha sa dr ru go ++ [.un]) (e1 := .rd (.v 2)) (e2 := .k (.int 3)) (i := 1) rfl (by simp) (by simp) (by simp) (by simp) (sp_checkList h.f9 h.x1 (n := n + 6) (l := 34) (ws := [.int r]) (p := placeB r) (fun d hd => sp_l34 h (n + 3) d r (fine_pl hd)) "things" th 3 f2)
    simp only [ival, chk_t]
    cases c2 : checkB (placeB r) 3 th with
    | some j =>
      rw [c2] at k2
      rw [exs_x k2]
      simp
    | none =>
    rw [c2] at k2
    rw [exs_nx k2 rfl]
    obtain ⟨ts, rfl, hts, _⟩ := checkB_lst c2
    have k3 := st_num (κ := g.kx (n + 7)) (τ := iA (.int r) (.lst ts) fl ha sa dr ru go ++ [.un]) (e1 := .rd (.v 3)) (e2 := .k (.int 0)) (e3 := .k (.int 2)) rfl (by simp) (by simp) (by simp) (sp_checkNumber h.f0 h.f10 h.x1 (n + 5) (.str "flags") fl 0 2 (by intros; simp) (fine_pl f3))
    simp only [chkO_n]
    cases q3 : numIn 0 2 fl with
    | false =>
      rw [q3] at k3
      rw [exs_x k3]
      simp
    | true =>
    rw [q3] at k3
    rw [exs_nx k3 rfl]
    obtain ⟨f, rfl⟩ := numIn_int q3
    have k4 := st_num (κ := g.kx (n + 7)) (τ := iA (.int r) (.lst ts) (.int f) ha sa dr ru go ++ [.un]) (e1 := .rd (.v 4)) (e2 := .k (.int 0)) (e3 := .k (.int 3)) rfl (by simp) (by simp) (by simp) (sp_checkNumber h.f0 h.f10 h.x1 (n + 5) (.str "hands") ha 0 3 (by intros; simp) (fine_pl f4))
    simp only [chk_t]
    cases q4 : numIn 0 3 ha with
    | false =>
      rw [q4] at k4
      rw [exs_x k4]
      simp
    | true =>
    rw [q4] at k4
    rw [exs_nx k4 rfl]
    have k5 := st_num (κ := g.kx (n + 7)) (τ := iA (.int r) (.lst ts) (.int f) ha sa dr ru go ++ [.un]) (e1 := .rd (.v 5)) (e2 := .k (.int 0)) (e3 := .bin .sub (.rd (.v 1)) (.k (.int 1))) rfl (by simp) (by simp) (by simp) (sp_checkNumber h.f0 h.f10 h.x1 (n + 5) (.str "start") sa 0 (r - 1) (by intros; simp) (fine_pl f5))
    simp only [chk_t]
    cases q5 : numIn 0 (r - 1) sa with
    | false =>
      rw [q5] at k5
      rw [exs_x k5]
      simp
    | true =>
    rw [q5] at k5
    rw [exs_nx k5 rfl]
    have hbig : ts.length ≤ big := by unfold big; omega
    rw [exs_nx (τ1 := iA (.int r) (.lst ts) (.int f) ha sa dr ru go ++ [.pu (szD r ts.length f)]) (by simp [hbig, dicE, nodupD, szD]) rfl]
    simp only [chk_t, lval]
    have k6 := st_lst (κ := g.kx (n + 7)) (τ := iA (.int r) (.lst ts) (.int f) ha sa dr ru go ++ [.pu (szD r ts.length f)]) (e1 := .rd (.v 6)) (e2 := .k (.int 8)) (i := 9) rfl (by simp) (by simp) rfl (by simp [szD]) (sp_checkList h.f9 h.x1 (n := n + 6) (l := 35) (ws := [szD r ts.length f]) (p := doorB r ts.length f) (fun d hd => sp_l35 h (n + 1) d r ts.length f hd) "doors" dr 8 f6)
    cases c6 : checkB (doorB r ts.length f) 8 dr with
    | some j =>
      rw [c6] at k6
      rw [exs_x k6]
      simp
    | none =>
    rw [c6] at k6
    rw [exs_nx k6 rfl]
    obtain ⟨ds, rfl, hds, _⟩ := checkB_lst c6
    have k7 := st_lst (κ := g.kx (n + 7)) (τ := iA (.int r) (.lst ts) (.int f) ha sa (.lst ds) ru go ++ [.pu (szD r ts.length f)]) (e1 := .rd (.v 7)) (e2 := .k (.int 5)) (i := 9) rfl (by simp) (by simp) rfl (by simp [szD]) (sp_checkList h.f9 h.x1 (n := n + 6) (l := 36) (ws := [szD r ts.length f]) (p := ruleB r ts.length f) (fun d hd => sp_l36 h n d r ts.length f hd) "rules" ru 5 f7)
    simp only [chkO_n]
    cases c7 : checkB (ruleB r ts.length f) 5 ru with
    | some j =>
      rw [c7] at k7
      rw [exs_x k7]
      simp
    | none =>
    rw [c7] at k7
    rw [exs_nx k7 rfl]
    obtain ⟨rs, rfl, hrs, _⟩ := checkB_lst c7
    have k8 := sp_goal h.f0 h.f2 h.f4 h.f5 h.f7 (n + 3) go r ts.length f f8
    simp only [chkO_n]
    cases q8 : goalB r ts.length f go with
    | false =>
      rw [q8] at k8
      rw [exs_x (τ1 := iA (.int r) (.lst ts) (.int f) ha sa (.lst ds) (.lst rs) go ++ [.pu (szD r ts.length f)]) (x := ⟨1, [.str "goal", .int (-1)]⟩) (by simp [k8, h.x1])]
      simp
    | true =>
    rw [q8] at k8
    rw [exs_nx (τ1 := iA (.int r) (.lst ts) (.int f) ha sa (.lst ds) (.lst rs) go ++ [.pu (szD r ts.length f)]) (by simp [k8]) rfl]
    simp [worldC, lval]
  rw [S_run]
  show (if _ then (match exs (g.kx (n + 7)) DT.b11 (iA ro th fl ha sa dr ru go ++ [C.un]) with
    | .nx τ => Res.ok (C.pu .non) (maskO _ τ)
    | .ret c τ => .ok c (maskO _ τ)
    | .exc x τ => .exc x (maskO _ τ)
    | _ => .stk) else .stk) = _
  rw [hb]
  cases wBad ro th fl ha sa dr ru go with
  | none => simp [DT.d11, worldC]
  | some q => simp [DT.d11]
end
end DE
end
section
set_option Elab.async false
set_option linter.all false
set_option maxRecDepth 100000
set_option maxHeartbeats 8000000
/-! SP9: draws. -/
namespace DE
open PySem L2
@[simp] theorem S_setXl (cs : List C) (i : Int) (c : C) : setX (.lst cs) (.int i) c = (ixN cs.length i).map fun j => .lst (cs.set j c) := rfl
@[simp] theorem S_mul (a b : Int) : binop .mul (.pu (.int a)) (.pu (.int b)) = if -(2 ^ 64) < b ∧ b < 2 ^ 64 then some (.pu (.int (a * b))) else none := rfl
@[simp] theorem S_mod (a b : Int) : binop .mod (.pu (.int a)) (.pu (.int b)) = if 0 < b then some (.pu (.int (a % b))) else none := rfl
@[simp] theorem S_fdiv (a b : Int) : binop .fdiv (.pu (.int a)) (.pu (.int b)) = if 0 < b ∧ b < 1073741824 then some (.pu (.int (a / b))) else none := rfl
@[simp] theorem S_pow18 : binop .pow (.pu (.int 10)) (.pu (.int 18)) = some (.pu (.int 1000000000000000000)) := by
  show (if (0 : Int) ≤ 18 ∧ (18 : Int) ≤ 1000 ∧ (10 : Int).natAbs < 1000 then some (Rv.pu (.int (10 ^ (18 : Int).toNat))) else none) = _
  rw [if_pos (by decide)]
  rfl
structure Dr where
  ns : List Int
  p : Int
  b : Int
  s : Int
  hp : 0 ≤ p
  hb : 0 ≤ b
  hn : ns.length ≤ 63
def Dr.c (d : Dr) : C := .lst [.lst (d.ns.map fun z => .pu (.int z)), .pu (.int d.p), .pu (.int d.b), .pu (.int d.s)]
section
variable (d : Dr)
@[simp] theorem D_v (i : Nat) (τ : Loc) : vP i d.c τ = .ok (i, [], d.c) τ := rfl
@[simp] theorem D_rd (i : Nat) (ph : List Sp) (τ : Loc) : rdC (i, ph, d.c) τ = .ok (.bo i ph d.c) τ := rfl
@[simp] theorem D_mask (cs : List C) (o : C) (os : List C) : maskO (d.c :: cs) (o :: os) = o :: maskO cs os := rfl
@[simp] theorem D_io (io : List Nat) (i : Nat) (cs : List C) : ioOk io (d.c :: cs) i = (io.contains i && ioOk io cs (i + 1)) := rfl
@[simp] theorem D_un : d.c.isUn = false := rfl
@[simp] theorem D_rv : rvRes d.c = .fr d.c := rfl
end
section
variable {g : Pg}
theorem sp_begin (h : HasC g) (ns : List Int) (hn : ns.length ≤ 63) (c : C) (hc : c = .pu (.lst (ns.map .int)) ∨ c = .lst (ns.map fun z => .pu (.int z))) : ∃ d : Dr, ∀ n, ∃ o, o.isUn = false ∧ g.call (n + 1) 18 [c] = .ok d.c [o] := by
  refine ⟨⟨ns, 0, 0, 7, by decide, by decide, hn⟩, fun n => ?_⟩
  rcases hc with e | e <;> subst e
  · refine ⟨.pu (.lst (ns.map .int)), rfl, ?_⟩
    rw [call_df h.f18]
    simp [DT.d18, DT.b18, lstE, Dr.c]
  · refine ⟨.lst (ns.map fun z => .pu (.int z)), rfl, ?_⟩
    rw [call_df h.f18]
    have e : pures (ns.map fun z => C.pu (.int z)) = some (ns.map D.int) := S_puresf D.int ns
    simp [DT.d18, DT.b18, lstE, Dr.c, e]
theorem sp_draw (h : HasC g) (d : Dr) (m : Int) (h1 : 0 < m) (h2 : m < 1073741824) : ∃ (k : Int) (d' : Dr), 0 ≤ k ∧ k < m ∧ ∀ n, g.call (n + 1) 19 [d.c, .pu (.int m)] = .ok (.pu (.int k)) [d'.c, .pu (.int m)] := by
  obtain ⟨ns, p, b, s, hp, hb, hn⟩ := d
  have hm := Int.emod_nonneg
  have hB : ns.length ≤ big := by unfold big; omega
  have fin : ∀ (p b s : Int) (hp : 0 ≤ p) (hb : 0 ≤ b) (x : C), ∃ (k : Int) (d' : Dr), 0 ≤ k ∧ k < m ∧ ∀ n, ∃ z, exs (g.kx n) (.cons (.ife (.e (.cmp .gt (.rd (.x (.v 0) (.k (.int 2)))) (.k (.int 0)))) (.cons (.asg 3 (.bin .mod (.bi .int (.cons (.rd (.x (.v 0) (.k (.int 2)))) .nil)) (.rd (.v 1)))) (.cons (.setX (.v 0) (.k (.int 2)) (.bin .fdiv (.rd (.x (.v 0) (.k (.int 2)))) (.rd (.v 1)))) (.cons (.ret (.rd (.v 3))) .nil))) .nil) (.cons (.ret (.bin .mod (.bin .mod (.bi .int (.cons (.bin .mul (.rd (.x (.v 0) (.k (.int 3)))) (.k (.int 16807))) .nil)) (.k (.int 2147483629))) (.rd (.v 1)))) .nil)) [(⟨ns, p, b, s, hp, hb, hn⟩ : Dr).c, .pu (.int m), x, .un] = .ret (.pu (.int k)) (d'.c :: .pu (.int m) :: z) := fun p b s hp hb x => by
    by_cases q : 0 < b
    · refine ⟨b % m, ⟨ns, p, b / m, s, hp, Int.ediv_nonneg hb (by omega), hn⟩, Int.emod_nonneg _ (by omega), Int.emod_lt_of_pos _ h1, fun n => ⟨[x, .pu (.int (b % m))], ?_⟩⟩
      simp [Dr.c, ixN, h1, h2, q]
    · refine ⟨s * 16807 % 2147483629 % m, ⟨ns, p, b, s, hp, hb, hn⟩, Int.emod_nonneg _ (by omega), Int.emod_lt_of_pos _ h1, fun n => ⟨[x, .un], ?_⟩⟩
      simp [Dr.c, ixN, h1, h2, q]
  have main : ∀ {p' b' s' : Int} {hp' : 0 ≤ p'} {hb' : 0 ≤ b'} {x : C}, (∀ n, ∀ ss, exs (g.kx n) (.cons (.ife (.e (.cmp .eq (.rd (.x (.v 0) (.k (.int 2)))) (.k (.int 0)))) (.cons (.ife (.e (.cmp .lt (.rd (.x (.v 0) (.k (.int 1)))) (.bi .len (.cons (.rd (.x (.v 0) (.k (.int 0)))) .nil)))) (.cons (.asg 2 (.rd (.x (.x (.v 0) (.k (.int 0))) (.rd (.x (.v 0) (.k (.int 1))))))) (.cons (.setX (.v 0) (.k (.int 1)) (.fz (.bin .add (.rd (.x (.v 0) (.k (.int 1)))) (.k (.int 1))))) (.cons (.ife (.e (.cmp .ge (.rd (.v 2)) (.bin .pow (.k (.int 10)) (.k (.int 18))))) (.cons (.setX (.v 0) (.k (.int 2)) (.rd (.v 2))) .nil) (.cons (.setX (.v 0) (.k (.int 3)) (.bin .mod (.bi .int (.cons (.bin .add (.bin .add (.bin .mul (.rd (.x (.v 0) (.k (.int 3)))) (.k (.int 48271))) (.bin .mul (.rd (.v 2)) (.k (.int 69621)))) (.k (.int 11))) .nil)) (.k (.int 2147483647)))) .nil)) .nil))) (.cons (.setX (.v 0) (.k (.int 3)) (.bin .mod (.bi .int (.cons (.bin .add (.bin .mul (.rd (.x (.v 0) (.k (.int 3)))) (.k (.int 48271))) (.k (.int 7))) .nil)) (.k (.int 2147483647)))) .nil)) .nil) .nil) ss) [(⟨ns, p, b, s, hp, hb, hn⟩ : Dr).c, .pu (.int m), .un, .un] = exs (g.kx n) ss [(⟨ns, p', b', s', hp', hb', hn⟩ : Dr).c, .pu (.int m), x, .un]) → ∃ (k : Int) (d' : Dr), 0 ≤ k ∧ k < m ∧ ∀ n, g.call (n + 1) 19 [(⟨ns, p, b, s, hp, hb, hn⟩ : Dr).c, .pu (.int m)] = .ok (.pu (.int k)) [d'.c, .pu (.int m)] := fun {p' b' s' hp' hb' x} e => by
    obtain ⟨k, d', k1, k2, k3⟩ := fin p' b' s' hp' hb' x
    refine ⟨k, d', k1, k2, fun n => ?_⟩
    obtain ⟨z, k4⟩ := k3 n
    rw [call_df h.f19, S_run]
    show (if _ then (match exs (g.kx n) DT.b19 [(⟨ns, p, b, s, hp, hb, hn⟩ : Dr).c, .pu (.int m), .un, .un] with
      | .nx τ => Res.ok (C.pu .non) (maskO _ τ)
      | .ret c τ => .ok c (maskO _ τ)
      | .exc x τ => .exc x (maskO _ τ)
      | _ => .stk) else .stk) = _
    unfold DT.b19
    rw [e, k4]
    simp [DT.d19]
  by_cases q1 : b = 0
  · subst q1
    by_cases q2 : p < ns.length
    · by_cases q3 : 1000000000000000000 ≤ ns[p.toNat]'(by omega)
      · refine main (p' := p + 1) (b' := ns[p.toNat]'(by omega)) (s' := s) (hp' := by omega) (hb' := by omega) (x := .pu (.int (ns[p.toNat]'(by omega)))) fun n ss => ?_
        simp [Dr.c, ixN, hp, q2, hB]
        simp [q3, ixN]
      · refine main (p' := p + 1) (b' := 0) (s' := (s * 48271 + ns[p.toNat]'(by omega) * 69621 + 11) % 2147483647) (hp' := by omega) (hb' := by omega) (x := .pu (.int (ns[p.toNat]'(by omega)))) fun n ss => ?_
        simp [Dr.c, ixN, hp, q2, hB]
        simp [q3, ixN]
    · refine main (p' := p) (b' := 0) (s' := (s * 48271 + 7) % 2147483647) (hp' := hp) (hb' := by omega) (x := .un) fun n ss => ?_
      simp [Dr.c, ixN, hp, q2, hB]
  · refine main (p' := p) (b' := b) (s' := s) (hp' := hp) (hb' := hb) (x := .un) fun n ss => ?_
    simp [Dr.c, ixN, q1]
end
end DE
end
section
set_option Elab.async false
set_option linter.all false
set_option maxRecDepth 100000
set_option maxHeartbeats 8000000
/-! SPL: loops and comprehensions with an invariant. -/
namespace DE
open PySem L2
/-- a for without an early end -/
theorem for_inv {κ : Kx} {tg : Tg} {b : Ss} (Inv : Nat → Loc → Prop) : ∀ (items : List D) (j : Nat) (τ : Loc), Inv j τ →
    (∀ k (hk : k < items.length) τ, Inv (j + k) τ → ∃ τ1 τ2, asgT tg items[k] τ = some τ1 ∧ (exs κ b τ1 = .nx τ2 ∨ exs κ b τ1 = .cont τ2) ∧ Inv (j + k + 1) τ2) →
    ∃ τ', forRun κ τ tg b items = .nx τ' ∧ Inv (j + items.length) τ'
  | [], j, τ, h, _ => ⟨τ, rfl, h⟩
  | d :: ds, j, τ, h, H => by
    obtain ⟨τ1, τ2, a1, a2, a3⟩ := H 0 (by simp) τ h
    obtain ⟨τ', e1, e2⟩ := for_inv Inv ds (j + 1) τ2 a3 fun k hk τ hi => by
      have := H (k + 1) (by simp; omega) τ (by rw [show j + (k + 1) = j + 1 + k from by omega]; exact hi)
      rw [show j + (k + 1) + 1 = j + 1 + k + 1 from by omega] at this
      exact this
    refine ⟨τ', ?_, by rw [List.length_cons, show j + (ds.length + 1) = j + 1 + ds.length from by omega]; exact e2⟩
    rw [S_for1, show asgT tg d τ = some τ1 from a1, S_optR_some, S_of_ok]
    rcases a2 with z | z <;> rw [z] <;> exact e1
/-- .. with one: Post tells of what ends it -/
theorem for_end {κ : Kx} {tg : Tg} {b : Ss} (Inv : Nat → Loc → Prop) (Post : SRes → Prop) : ∀ (items : List D) (j : Nat) (τ : Loc), Inv j τ →
    (∀ k (hk : k < items.length) τ, Inv (j + k) τ → ∃ τ1, asgT tg items[k] τ = some τ1 ∧ ((∃ τ2, (exs κ b τ1 = .nx τ2 ∨ exs κ b τ1 = .cont τ2) ∧ Inv (j + k + 1) τ2) ∨ (∃ c τ2, exs κ b τ1 = .ret c τ2 ∧ Post (.ret c τ2)) ∨ ∃ x τ2, exs κ b τ1 = .exc x τ2 ∧ Post (.exc x τ2))) →
    (∃ τ', forRun κ τ tg b items = .nx τ' ∧ Inv (j + items.length) τ') ∨ (∃ c τ2, forRun κ τ tg b items = .ret c τ2 ∧ Post (.ret c τ2)) ∨ ∃ x τ2, forRun κ τ tg b items = .exc x τ2 ∧ Post (.exc x τ2)
  | [], j, τ, h, _ => .inl ⟨τ, rfl, h⟩
  | d :: ds, j, τ, h, H => by
    obtain ⟨τ1, a1, a2⟩ := H 0 (by simp) τ h
    have e0 : forRun κ τ tg b (d :: ds) = match exs κ b τ1 with
        | .nx τ1 => forRun κ τ1 tg b ds
        | .cont τ1 => forRun κ τ1 tg b ds
        | .brk τ1 => .nx τ1
        | r => r := by
      rw [S_for1, show asgT tg d τ = some τ1 from a1, S_optR_some, S_of_ok] <;> rfl
    rcases a2 with ⟨τ2, z, a3⟩ | ⟨c, τ2, z, p⟩ | ⟨x, τ2, z, p⟩
    · have ih := for_end Inv Post ds (j + 1) τ2 a3 fun k hk τ hi => by
        have := H (k + 1) (by simp; omega) τ (by rw [show j + (k + 1) = j + 1 + k from by omega]; exact hi)
        rw [show j + (k + 1) + 1 = j + 1 + k + 1 from by omega] at this
        exact this
      rw [show j + 1 + ds.length = j + (d :: ds).length from by rw [List.length_cons]; omega] at ih
      have e1 : forRun κ τ tg b (d :: ds) = forRun κ τ2 tg b ds := by
        rw [e0]
        rcases z with z | z <;> rw [z]
      rw [e1]
      exact ih
    · exact .inr (.inl ⟨c, τ2, by rw [e0, z], p⟩)
    · exact .inr (.inr ⟨x, τ2, by rw [e0, z], p⟩)
/-- a comprehension (with a test) whose turns change slots -/
theorem lc_inv {κ : Kx} {own : List Nat} {tg : Tg} {t : T} {e : E} {τ0 : Loc} (Inv : Loc → Prop) (P : D → Prop) {items : List D} (hf : freeO own τ0 = true) (hl : items.length ≤ big) (h0 : Inv τ0)
    (H : ∀ d ∈ items, ∀ τ, Inv τ → ∃ τ1 τ2, asgT tg d (wipe own τ) = some τ1 ∧ ((evT κ t τ1 = .ok false τ2 ∧ Inv τ2) ∨ (evT κ t τ1 = .ok true τ2 ∧ ∃ r x τ3, ev κ e τ2 = .ok r τ3 ∧ r.fz = some x ∧ P x ∧ Inv τ3))) :
    ∃ (xs : List D) (τ' : Loc), lcRun κ τ0 own tg t e items = .ok (.fr (.lst (xs.map .pu))) (back own τ0 τ') ∧ xs.length ≤ items.length ∧ (∀ x ∈ xs, P x) ∧ Inv τ' ∧ ((∀ τ τ2, evT κ t τ ≠ .ok false τ2) → xs.length = items.length) := by
  have key : ∀ (items : List D) (τ : Loc), Inv τ → (∀ d ∈ items, ∀ τ, Inv τ → ∃ τ1 τ2, asgT tg d (wipe own τ) = some τ1 ∧ ((evT κ t τ1 = .ok false τ2 ∧ Inv τ2) ∨ (evT κ t τ1 = .ok true τ2 ∧ ∃ r x τ3, ev κ e τ2 = .ok r τ3 ∧ r.fz = some x ∧ P x ∧ Inv τ3))) →
      ∃ (xs : List D) (τ' : Loc), lcLoop (lcTurn own tg (evT κ t) fun τ => toF (ev κ e τ)) items τ = .ok xs τ' ∧ xs.length ≤ items.length ∧ (∀ x ∈ xs, P x) ∧ Inv τ' ∧ ((∀ τ τ2, evT κ t τ ≠ .ok false τ2) → xs.length = items.length) := fun items => by
    induction items with
    | nil => exact fun τ h _ => ⟨[], τ, rfl, by simp, by simp, h, fun _ => rfl⟩
    | cons d ds ih =>
      intro τ h H
      obtain ⟨τ1, τ2, a1, a2⟩ := H d List.mem_cons_self τ h
      rcases a2 with ⟨a3, a4⟩ | ⟨a3, r, x, τ3, a4, a5, a6, a7⟩
      · obtain ⟨xs, τ', b1, b2, b3, b4, b5⟩ := ih τ2 a4 fun d hd => H d (List.mem_cons_of_mem _ hd)
        refine ⟨xs, τ', ?_, by simp; omega, b3, b4, fun z => (z _ _ a3).elim⟩
        simp [lcLoop, lcTurn, a1, a3, b1]
      · obtain ⟨xs, τ', b1, b2, b3, b4, b5⟩ := ih τ3 a7 fun d hd => H d (List.mem_cons_of_mem _ hd)
        refine ⟨x :: xs, τ', ?_, by simp; omega, fun y hy => ?_, b4, fun z => by simp [b5 z]⟩
        · simp [lcLoop, lcTurn, a1, a3, a4, a5, b1]
        · rcases List.mem_cons.mp hy with z | z
          · rw [z]
            exact a6
          · exact b3 y z
  obtain ⟨xs, τ', b1, b2, b3, b4, b5⟩ := key items τ0 h0 H
  refine ⟨xs, τ', ?_, b2, b3, b4, b5⟩
  unfold lcRun putBack
  rw [if_pos hf, b1]
  show (if xs.length ≤ big then _ else _) = _
  rw [if_pos (by omega)]
end DE
end
section
set_option Elab.async false
set_option linter.all false
set_option maxRecDepth 100000
set_option maxHeartbeats 8000000
/-! SP10: what is drawn: places, needs, effects. -/
namespace DE
open PySem L2
@[simp] theorem S_isint (x : D) (ds : List D) : isIn x (.pu (.tup ds)) = if isFl x && ds.all isFl then some (ds.any (·.eqb x)) else none := rfl
@[simp] theorem S_fzsa (a : List C) : ∀ b : List C, fzs (a ++ b) = fzs a ++ fzs b := by
  induction a with
  | nil => exact fun b => rfl
  | cons x xs ih => exact fun b => by simp [ih]
@[simp] theorem S_puresa (b : List C) : ∀ a : List D, pures (a.map C.pu ++ b) = (pures b).map (a ++ ·)
  | [] => by cases h : pures b <;> simp [h]
  | d :: ds => by
    simp [S_puresa b ds]
    rfl
@[simp] theorem S_fl1 (s : PySem.Str) : isFl (.str s) = true := rfl
@[simp] theorem S_fl2 (s : Int) : isFl (.int s) = true := rfl
@[simp] theorem S_fl3 : isFl .non = true := rfl
@[simp] theorem S_fl4 (b : Bool) : isFl (.bl b) = true := rfl
@[simp] theorem S_rng1 (j : Int) (τ : Loc) : rng1E (.int j) τ = optR (rngOf 0 j) τ := rfl
theorem rng0 {m : Int} (h2 : m ≤ 1000000) (h1 : -1000000 ≤ m) : rngOf 0 m = some ((List.range m.toNat).map fun (k : Nat) => .int (k : Int)) := by
  unfold rngOf
  rw [if_pos ⟨by decide, by decide, h1, h2⟩]
  simp
@[simp] theorem S_addl (a b : List D) : binop .add (.pu (.lst a)) (.lst (b.map .pu)) = if a.length + b.length ≤ big then some (.fr (.lst ((a ++ b).map .pu))) else none := by
  show (match listOf (.pu (.lst a)), listOf (.lst (b.map .pu)) with
    | some x, some y => if x.length + y.length ≤ big then some (Rv.fr (.lst ((x ++ y).map .pu))) else none
    | _, _ => none) = _
  rw [S_listp, S_listc, S_pures]
theorem dep_s (s : PySem.Str) (h : PyData.strOk s = true) : (D.str s).dep = 0 := by
  rw [D.dep, h]
  rfl
@[simp] theorem S_eqs (a b : PySem.Str) (h1 : PyData.strOk a = true) (h2 : PyData.strOk b = true) : cmpop .eq (.pu (.str a)) (.pu (.str b)) = some (a == b) := by
  have e : (D.str a).dep ≤ 60 ∧ (D.str b).dep ≤ 60 := by
    rw [dep_s a h1, dep_s b h2]
    omega
  show (if (D.str a).dep ≤ 60 ∧ (D.str b).dep ≤ 60 then some ((D.str a).eqb (.str b)) else none) = _
  rw [if_pos e, S_eqss]
section
variable {g : Pg}
theorem sp_dplace (h : HasC g) (n : Nat) (d : Dr) (r : Int) (h1 : 0 < r) (h2 : r < 1000) : ∃ (v : D) (d' : Dr), placeB r v = true ∧ v.fine = true ∧ v.dep = 0 ∧ g.call (n + 2) 20 [d.c, .pu (.int r)] = .ok (.pu v) [d'.c, .pu (.int r)] := by
  obtain ⟨k, d', k1, k2, k3⟩ := sp_draw h d (r + 2) (by omega) (by omega)
  have k3 := k3 n
  by_cases q : k < r
  · refine ⟨.int k, d', ?_, rfl, rfl, ?_⟩
    · simp [placeB, numIn, k1]
      omega
    · rw [call_df h.f20]
      simp [DT.d20, DT.b20, k3, q]
  · by_cases q2 : k = r
    · subst q2
      refine ⟨.str "held", d', by simp [placeB], by decide +kernel, by decide +kernel, ?_⟩
      rw [call_df h.f20]
      simp [DT.d20, DT.b20, k3, lstE, idxE, ixN]
    · have q3 : k = r + 1 := by omega
      subst q3
      refine ⟨.str "gone", d', by simp [placeB], by decide +kernel, by decide +kernel, ?_⟩
      have e : r + 1 - r = 1 := by omega
      rw [call_df h.f20]
      simp [DT.d20, DT.b20, k3, lstE, idxE, ixN, q, e]
/-- a need or effect of a word -/
def oneK (r t f : Int) (w : PySem.Str) (v : D) : Prop :=
  if w = "on" ∨ w = "off" then ∃ k : Int, v = .tup [.str w, .int k] ∧ 0 ≤ k ∧ k < f
  else if w = "go" then ∃ k : Int, v = .tup [.str w, .int k] ∧ 0 ≤ k ∧ k < r
  else if w = "at" ∨ w = "put" then ∃ k q : Int, v = .tup [.str w, .int k, .int q] ∧ 0 ≤ k ∧ k < t ∧ 0 ≤ q ∧ q < r
  else ∃ k : Int, v = .tup [.str w, .int k] ∧ 0 ≤ k ∧ k < t
def OneOk (ws : List PySem.Str) (r t f : Int) (v : D) : Prop := ∃ w ∈ ws, oneK r t f w v
theorem one_non {ws : List PySem.Str} {r t f : Int} (h : OneOk ws r t f .non) : False := by
  obtain ⟨w, _, h⟩ := h
  unfold oneK at h
  split at h
  · obtain ⟨_, z, _⟩ := h
    cases z
  · split at h
    · obtain ⟨_, z, _⟩ := h
      cases z
    · split at h
      · obtain ⟨_, _, z, _⟩ := h
        cases z
      · obtain ⟨_, z, _⟩ := h
        cases z
abbrev oneT (d : Dr) (ws : List PySem.Str) (r t f : Int) (so : List D) (x7 x8 : C) : Loc := [d.c, .pu (.lst (ws.map .str)), .pu (.tup [.int r, .int t, .int f]), .pu (.int r), .pu (.int t), .pu (.int f), .pu (.lst so), x7, x8]
theorem one_comp {κ : Kx} {e : E} {ws : List PySem.Str} {r t f : Int} {so : List D} {w : PySem.Str} {m : Int} (P : D → Prop) (h1 : 0 ≤ m) (h2 : m ≤ 100) (d : Dr)
    (H : ∀ (d : Dr) (k : Int), 0 ≤ k → k < m → ∃ (r' : Rv) (v : D) (d' : Dr), ev κ e (oneT d ws r t f so (.pu (.str w)) (.pu (.int k))) = .ok r' (oneT d' ws r t f so (.pu (.str w)) (.pu (.int k))) ∧ r'.fz = some v ∧ P v) :
    ∃ (xs : List D) (d' : Dr), lcRun κ (oneT d ws r t f so (.pu (.str w)) .un) [8] (.n 8) .yes e ((List.range m.toNat).map fun (k : Nat) => .int (k : Int)) = .ok (.fr (.lst (xs.map .pu))) (oneT d' ws r t f so (.pu (.str w)) .un) ∧ xs.length ≤ 100 ∧ (∀ v ∈ xs, P v) ∧ xs.length = m.toNat := by
  obtain ⟨xs, τ', e1, e2, e3, ⟨d', x, e4⟩, e5⟩ := lc_inv (κ := κ) (own := [8]) (tg := .n 8) (t := .yes) (e := e) (τ0 := oneT d ws r t f so (.pu (.str w)) .un) (fun τ => ∃ (d : Dr) (x : C), τ = oneT d ws r t f so (.pu (.str w)) x) P
    (items := (List.range m.toNat).map fun (k : Nat) => .int (k : Int)) rfl (by simp; unfold big; omega) ⟨d, .un, rfl⟩ fun i hi τ hτ => by
      obtain ⟨d, x, rfl⟩ := hτ
      obtain ⟨k, hk, rfl⟩ := List.mem_map.mp hi
      have hk := List.mem_range.mp hk
      obtain ⟨r', v, d', a1, a2, a3⟩ := H d k (by omega) (by omega)
      exact ⟨oneT d ws r t f so (.pu (.str w)) (.pu (.int k)), oneT d ws r t f so (.pu (.str w)) (.pu (.int k)), rfl, .inr ⟨S_Ty _ _, r', v, _, a1, a2, a3, d', _, rfl⟩⟩
  subst e4
  exact ⟨xs, d', e1, by simp at e2; omega, e3, by simpa using e5 fun τ τ2 => by simp⟩
theorem sp_one (h : HasC g) (n : Nat) (d : Dr) (ws : List PySem.Str) (hw : ws.length ≤ 100) (hs : ∀ w ∈ ws, PyData.strOk w = true) (r t f : Int) (r1 : 0 < r) (r2 : r ≤ 100) (t1 : 0 ≤ t) (t2 : t ≤ 100) (f1 : 0 ≤ f) (f2 : f ≤ 100) :
    ∃ (v : D) (d' : Dr), (v = .non ∨ OneOk ws r t f v) ∧ (("go" : PySem.Str) ∈ ws → v ≠ .non) ∧ g.call (n + 2) 21 [d.c, .pu (.lst (ws.map .str)), .pu (.tup [.int r, .int t, .int f])] = .ok (.pu v) [d'.c, .pu (.lst (ws.map .str)), .pu (.tup [.int r, .int t, .int f])] := by
  have rf : rngOf 0 f = _ := rng0 (by omega) (by omega)
  have rr : rngOf 0 r = _ := rng0 (by omega) (by omega)
  have rt : rngOf 0 t = _ := rng0 (by omega) (by omega)
  obtain ⟨τ', e1, e2⟩ := for_inv (κ := g.kx (n + 1)) (tg := .n 7) (b := .cons (.ife (.e (.cmp .isin (.rd (.v 7)) (.tup (.cons (.k (.str "on")) (.cons (.k (.str "off")) .nil))))) (.cons (.asg 6 (.fz (.bin .add (.rd (.v 6)) (.lc [8] (.n 8) (.rng (.rd (.v 5))) .yes (.tup (.cons (.rd (.v 7)) (.cons (.rd (.v 8)) .nil))))))) .nil) (.cons (.ife (.e (.cmp .eq (.rd (.v 7)) (.k (.str "go")))) (.cons (.asg 6 (.fz (.bin .add (.rd (.v 6)) (.lc [8] (.n 8) (.rng (.rd (.v 3))) .yes (.tup (.cons (.rd (.v 7)) (.cons (.rd (.v 8)) .nil))))))) .nil) (.cons (.ife (.e (.cmp .isin (.rd (.v 7)) (.tup (.cons (.k (.str "at")) (.cons (.k (.str "put")) .nil))))) (.cons (.asg 6 (.fz (.bin .add (.rd (.v 6)) (.lc [8] (.n 8) (.rng (.rd (.v 4))) .yes (.tup (.cons (.rd (.v 7)) (.cons (.rd (.v 8)) (.cons (.call 19 (.cons (.rd (.v 0)) (.cons (.rd (.v 3)) .nil))) .nil)))))))) .nil) (.cons (.asg 6 (.fz (.bin .add (.rd (.v 6)) (.lc [8] (.n 8) (.rng (.rd (.v 4))) .yes (.tup (.cons (.rd (.v 7)) (.cons (.rd (.v 8)) .nil))))))) .nil)) .nil)) .nil)) .nil)
    (fun j τ => ∃ (d : Dr) (so : List D) (x : C), τ = oneT d ws r t f so x .un ∧ so.length ≤ 100 * j ∧ (∀ v ∈ so, OneOk ws r t f v) ∧ (("go" : PySem.Str) ∈ ws.take j → so ≠ [])) (ws.map .str) 0 (oneT d ws r t f [] .un .un) ⟨d, [], .un, rfl, by simp, by simp, by simp⟩ fun k hk τ hτ => by
      obtain ⟨d, so, x, rfl, hl, ho, hg⟩ := hτ
      rw [List.length_map] at hk
      have hm : ws[k] ∈ ws := List.getElem_mem hk
      generalize hwk : ws[k] = w at hm
      have hok := hs w hm
      refine ⟨oneT d ws r t f so (.pu (.str w)) .un, ?_⟩
      have fin : ∀ (xs : List D) (d' : Dr), xs.length ≤ 100 → (∀ v ∈ xs, oneK r t f w v) → (w = "go" → xs ≠ []) → so.length + xs.length ≤ big ∧ ∃ (d2 : Dr) (so2 : List D) (x2 : C), oneT d' ws r t f (so ++ xs) (.pu (.str w)) .un = oneT d2 ws r t f so2 x2 .un ∧ so2.length ≤ 100 * (0 + k + 1) ∧ (∀ v ∈ so2, OneOk ws r t f v) ∧ (("go" : PySem.Str) ∈ ws.take (0 + k + 1) → so2 ≠ []) := fun xs d' h1 h2 h3 => by
        refine ⟨by unfold big; omega, d', so ++ xs, _, rfl, by simp; omega, fun v hv => ?_, fun hgo => ?_⟩
        · rcases List.mem_append.mp hv with z | z
          · exact ho v z
          · exact ⟨w, hm, h2 v z⟩
        · rw [Nat.zero_add, List.take_succ_eq_append_getElem hk, hwk] at hgo
          rcases List.mem_append.mp hgo with z | z
          · simp [hg (by simpa using z)]
          · simp [h3 (List.mem_singleton.mp z).symm]
      have asg : asgT (.n 7) ((ws.map D.str)[k]'(by simpa using hk)) (oneT d ws r t f so x .un) = some (oneT d ws r t f so (.pu (.str w)) .un) := by
        simp [asgT, hwk]
      by_cases q1 : w = "on" ∨ w = "off"
      · obtain ⟨xs, d', c1, c2, c3, c4⟩ := one_comp (κ := g.kx (n + 1)) (e := .tup (.cons (.rd (.v 7)) (.cons (.rd (.v 8)) .nil))) (ws := ws) (r := r) (t := t) (f := f) (so := so) (w := w) (oneK r t f w) f1 f2 d fun d k k1 k2 =>
          ⟨.pu (.tup [.str w, .int k]), _, d, by simp [tupE], rfl, by simp [oneK, q1]; omega⟩
        obtain ⟨b1, b2⟩ := fin xs d' c2 c3 (fun z => by subst z; simp at q1)
        refine ⟨_, asg, .inl ?_, b2⟩
        rcases q1 with q1 | q1 <;> subst q1 <;> simp [tupE, rf, c1, b1]
      · have n1 : ¬ (w = "on") := fun z => q1 (.inl z)
        have n2 : ¬ (w = "off") := fun z => q1 (.inr z)
        have m1 : ((Str.ofString "on" == w) : Bool) = false := by simpa using fun z => n1 z.symm
        have m2 : ((Str.ofString "off" == w) : Bool) = false := by simpa using fun z => n2 z.symm
        by_cases q2 : w = "go"
        · obtain ⟨xs, d', c1, c2, c3, c4⟩ := one_comp (κ := g.kx (n + 1)) (e := .tup (.cons (.rd (.v 7)) (.cons (.rd (.v 8)) .nil))) (ws := ws) (r := r) (t := t) (f := f) (so := so) (w := w) (oneK r t f w) (by omega) r2 d fun d k k1 k2 =>
            ⟨.pu (.tup [.str w, .int k]), _, d, by simp [tupE], rfl, by rw [oneK, if_neg q1, if_pos q2]; exact ⟨k, rfl, k1, k2⟩⟩
          obtain ⟨b1, b2⟩ := fin xs d' c2 c3 (fun _ z => by subst z; simp at c4; omega)
          refine ⟨_, asg, .inl ?_, b2⟩
          have go : PyData.strOk "go" = true := by decide +kernel
          subst q2
          simp [tupE, rr, c1, b1, go]
        · have m3 : ((w == Str.ofString "go") : Bool) = false := by simpa using q2
          have go : PyData.strOk "go" = true := by decide +kernel
          by_cases q3 : w = "at" ∨ w = "put"
          · obtain ⟨xs, d', c1, c2, c3, c4⟩ := one_comp (κ := g.kx (n + 1)) (e := .tup (.cons (.rd (.v 7)) (.cons (.rd (.v 8)) (.cons (.call 19 (.cons (.rd (.v 0)) (.cons (.rd (.v 3)) .nil))) .nil)))) (ws := ws) (r := r) (t := t) (f := f) (so := so) (w := w) (oneK r t f w) t1 t2 d fun d k k1 k2 => by
              obtain ⟨q, d', a1, a2, a3⟩ := sp_draw h d r r1 (by omega)
              have a3 := a3 n
              exact ⟨.pu (.tup [.str w, .int k, .int q]), _, d', by simp [tupE, a3], rfl, by rw [oneK, if_neg q1, if_neg q2, if_pos q3]; exact ⟨k, q, rfl, k1, k2, a1, a2⟩⟩
            obtain ⟨b1, b2⟩ := fin xs d' c2 c3 (fun z => (q2 z).elim)
            refine ⟨_, asg, .inl ?_, b2⟩
            rcases q3 with q3 | q3 <;> subst q3 <;> simp [tupE, rt, c1, b1, go, hok]
          · obtain ⟨xs, d', c1, c2, c3, c4⟩ := one_comp (κ := g.kx (n + 1)) (e := .tup (.cons (.rd (.v 7)) (.cons (.rd (.v 8)) .nil))) (ws := ws) (r := r) (t := t) (f := f) (so := so) (w := w) (oneK r t f w) t1 t2 d fun d k k1 k2 =>
              ⟨.pu (.tup [.str w, .int k]), _, d, by simp [tupE], rfl, by rw [oneK, if_neg q1, if_neg q2, if_neg q3]; exact ⟨k, rfl, k1, k2⟩⟩
            obtain ⟨b1, b2⟩ := fin xs d' c2 c3 (fun z => (q2 z).elim)
            refine ⟨_, asg, .inl ?_, b2⟩
            have m4 : ((Str.ofString "at" == w) : Bool) = false := by simpa using fun z => q3 (.inl z.symm)
            have m5 : ((Str.ofString "put" == w) : Bool) = false := by simpa using fun z => q3 (.inr z.symm)
            simp [tupE, rt, c1, b1, go, hok, m1, m2, m3, m4, m5]
  obtain ⟨d1, so, x, rfl, hl, ho, hg⟩ := e2
  have hB : so.length ≤ big := by rw [List.length_map] at hl; unfold big; omega
  by_cases q : so = []
  · subst q
    refine ⟨.non, d1, .inl rfl, fun z => (hg (by simpa using z) rfl).elim, ?_⟩
    rw [call_df h.f21]
    simp [DT.d21, DT.b21, asgT, asgTs, lstE]
    simp [e1]
  · have q0 : 0 < so.length := Nat.pos_of_ne_zero (by simpa using q)
    obtain ⟨k, d2, k1, k2, k3⟩ := sp_draw h d1 so.length (by omega) (by rw [List.length_map] at hl; omega)
    have k3 := k3 n
    have hk : k.toNat < so.length := by omega
    have hkm := ho _ (List.getElem_mem hk)
    refine ⟨so[k.toNat], d2, .inr hkm, fun _ z => ?_, ?_⟩
    · rw [z] at hkm
      exact one_non hkm
    rw [call_df h.f21]
    have ne : (((so.length : Int) == 0) : Bool) = false := by simpa using q
    simp [DT.d21, DT.b21, asgT, asgTs, lstE]
    simp [e1, hB, ne, k3, ixN, k1, k2, hk]
end
end DE
end
section
set_option Elab.async false
set_option linter.all false
set_option maxRecDepth 100000
set_option maxHeartbeats 8000000
/-! SP11: several needs or effects, doors, rules, goals drawn. -/
namespace DE
open PySem L2
@[simp] theorem S_get0 (c : C) : c.get [] = some c := by
  cases c <;> rfl
@[simp] theorem S_get1 (c : C) (p : Sp) (ps : List Sp) : c.get (p :: ps) = (c.sub p).bind fun d => d.get ps := by
  cases c <;> rfl
def appK (i : Nat) (ph : List Sp) (τ : Loc) : Option (List C) → Option C → Res Rv
  | some [c], some (.lst xs) => if xs.length < big then .ok (.pu .non) (τ.set i ((look τ i).set ph (.lst (xs ++ [c])))) else .stk
  | _, _ => .stk
@[simp] theorem S_appK (i : Nat) (ph : List Sp) (τ : Loc) (c : C) (xs : List C) : appK i ph τ (some [c]) (some (.lst xs)) = if xs.length < big then .ok (.pu .non) (τ.set i ((look τ i).set ph (.lst (xs ++ [c])))) else .stk := rfl
def appF (i : Nat) (ph : List Sp) (rs : List Rv) (τ : Loc) : Res Rv := appK i ph τ (keepAll rs) ((look τ i).get ph)
@[simp] theorem S_appF (i : Nat) (ph : List Sp) (r : Rv) (τ : Loc) : appF i ph [r] τ = appK i ph τ (keepAll [r]) ((look τ i).get ph) := rfl
/-- x.append(e) -/
theorem app_one (i : Nat) (ph : List Sp) (c : C) (r : Rv) (τ : Loc) : changeE .append (.bo i ph c) [r] τ = appF i ph [r] τ := by
  cases h : r.keep with
  | none => simp [changeE, appF, appK, h]
  | some k =>
    have e : keepAll [r] = some [k] := by simp [h]
    simp only [changeE, appF, e]
    generalize (look τ i).get ph = o
    rcases o with _ | l
    · rfl
    · cases l with
      | lst xs =>
        simp only [S_appK, miL]
        by_cases q : xs.length < big
        · simp only [q, if_true]
        · simp only [q, if_false]
      | _ => rfl
def app1 (i : Nat) (ph : List Sp) (r : Rv) (τ : Loc) : Res Rv := appF i ph [r] τ
@[simp] theorem S_app1 (i : Nat) (ph : List Sp) (r : Rv) (τ : Loc) : app1 i ph r τ = appF i ph [r] τ := rfl
@[simp] theorem S_app (κ : Kx) (e : E) (i : Nat) (ph : List Sp) (cs : List C) (τ : Loc) : miE .append (evs κ (.cons e .nil)) (.bo i ph (.lst cs)) τ = (ev κ e τ).bind (app1 i ph) := by
  show (if miOk .append (.bo i ph (.lst cs)) then (evs κ (.cons e .nil) τ).bind fun rs τ1 => miR .append (.bo i ph (.lst cs)) rs τ1 else .stk) = _
  rw [if_pos (show miOk .append (.bo i ph (.lst cs)) = true from rfl), S_evs1]
  cases ev κ e τ with
  | ok r τ1 =>
    simp only [S_bind_ok, S_evsF, S_evs0, S_consF, S_app1]
    exact app_one i ph (.lst cs) r τ1
  | exc x τ1 => rfl
  | stk => rfl
section
variable {g : Pg}
theorem sp_several (h : HasC g) (n : Nat) (d : Dr) (ws : List PySem.Str) (hw : ws.length ≤ 100) (hs : ∀ w ∈ ws, PyData.strOk w = true) (r t f : Int) (r1 : 0 < r) (r2 : r ≤ 100) (t1 : 0 ≤ t) (t2 : t ≤ 100) (f1 : 0 ≤ f) (f2 : f ≤ 100) (lo hi : Int) (l1 : 0 ≤ lo) (l2 : lo ≤ hi) (l3 : hi ≤ 3) :
    ∃ (vs : List D) (d' : Dr), (∀ v ∈ vs, OneOk ws r t f v) ∧ (vs.length : Int) ≤ hi ∧ ((("go" : PySem.Str) ∈ ws) → lo ≤ (vs.length : Int)) ∧
      g.call (n + 3) 22 [d.c, .pu (.lst (ws.map .str)), .pu (.tup [.int r, .int t, .int f]), .pu (.int lo), .pu (.int hi)] = .ok (.pu (.tup vs)) [d'.c, .pu (.lst (ws.map .str)), .pu (.tup [.int r, .int t, .int f]), .pu (.int lo), .pu (.int hi)] := by
  obtain ⟨k, d1, k1, k2, k3⟩ := sp_draw h d (hi - lo + 1) (by omega) (by omega)
  have k3 := k3 (n + 1)
  have rg : rngOf 0 (lo + k) = _ := rng0 (by omega) (by omega)
  obtain ⟨τ', e1, e2⟩ := for_inv (κ := g.kx (n + 2)) (tg := .n 6) (b := .cons (.asg 7 (.fz (.call 21 (.cons (.rd (.v 0)) (.cons (.rd (.v 1)) (.cons (.rd (.v 2)) .nil)))))) (.cons (.ife (.e (.isntN (.rd (.v 7)))) (.cons (.ex (.mi .append (.rd (.v 5)) (.cons (.rd (.v 7)) .nil))) .nil) .nil) .nil))
    (fun j τ => ∃ (d : Dr) (vs : List D) (x y : C), τ = [d.c, .pu (.lst (ws.map .str)), .pu (.tup [.int r, .int t, .int f]), .pu (.int lo), .pu (.int hi), .lst (vs.map .pu), x, y] ∧ vs.length ≤ j ∧ ((("go" : PySem.Str) ∈ ws) → vs.length = j) ∧ ∀ v ∈ vs, OneOk ws r t f v)
    ((List.range (lo + k).toNat).map fun (k : Nat) => .int (k : Int)) 0 [d1.c, .pu (.lst (ws.map .str)), .pu (.tup [.int r, .int t, .int f]), .pu (.int lo), .pu (.int hi), .lst [], .un, .un] ⟨d1, [], .un, .un, rfl, by simp, by simp, by simp⟩ fun j hj τ hτ => by
      obtain ⟨d, vs, x, y, rfl, h1, h2, h3⟩ := hτ
      rw [List.length_map, List.length_range] at hj
      obtain ⟨v, d', a1, a2, a3⟩ := sp_one h n d ws hw hs r t f r1 r2 t1 t2 f1 f2
      refine ⟨[d.c, .pu (.lst (ws.map .str)), .pu (.tup [.int r, .int t, .int f]), .pu (.int lo), .pu (.int hi), .lst (vs.map .pu), .pu (.int (j : Int)), y], ?_⟩
      by_cases q : v = .non
      · subst q
        refine ⟨[d'.c, .pu (.lst (ws.map .str)), .pu (.tup [.int r, .int t, .int f]), .pu (.int lo), .pu (.int hi), .lst (vs.map .pu), .pu (.int (j : Int)), .pu .non], by simp [asgT], .inl (by simp [a3]), d', vs, _, _, rfl, by omega, fun z => ((a2 z) rfl).elim, h3⟩
      · have ok : OneOk ws r t f v := a1.resolve_left q
        have nn : isNone (.pu v) = some false := by
          obtain ⟨w, hw, z⟩ := ok
          unfold oneK at z
          split at z
          · obtain ⟨_, rfl, _⟩ := z
            rfl
          · split at z
            · obtain ⟨_, rfl, _⟩ := z
              rfl
            · split at z
              · obtain ⟨_, _, rfl, _⟩ := z
                rfl
              · obtain ⟨_, rfl, _⟩ := z
                rfl
        have hb : vs.length < big := by unfold big; omega
        refine ⟨[d'.c, .pu (.lst (ws.map .str)), .pu (.tup [.int r, .int t, .int f]), .pu (.int lo), .pu (.int hi), .lst ((vs ++ [v]).map .pu), .pu (.int (j : Int)), .pu v], by simp [asgT], .inl (by simp [a3, nn, hb]), d', vs ++ [v], _, _, rfl, by simp; omega, fun z => by simp [h2 z], fun u hu => ?_⟩
        rcases List.mem_append.mp hu with z | z
        · exact h3 u z
        · rw [List.mem_singleton.mp z]
          exact ok
  obtain ⟨d2, vs, x, y, rfl, h1, h2, h3⟩ := e2
  rw [List.length_map, List.length_range] at h1 h2
  refine ⟨vs, d2, h3, by omega, fun z => by rw [h2 z]; omega, ?_⟩
  rw [call_df h.f22]
  simp [DT.d22, DT.b22, lstE, k3, rg]
  simp [e1]
theorem sp_need_d (h : HasC g) (n : Nat) (d : Dr) (r t f : Int) (r1 : 0 < r) (r2 : r ≤ 100) (t1 : 0 ≤ t) (t2 : t ≤ 100) (f1 : 0 ≤ f) (f2 : f ≤ 100) :
    ∃ (v : D) (d' : Dr), (v = .non ∨ OneOk ["held", "held", "here", "gone", "at", "on", "off"] r t f v) ∧ g.call (n + 3) 23 [d.c, .pu (.tup [.int r, .int t, .int f])] = .ok (.pu v) [d'.c, .pu (.tup [.int r, .int t, .int f])] := by
  obtain ⟨v, d', a1, _, a3⟩ := sp_one h n d ["held", "held", "here", "gone", "at", "on", "off"] (by decide) (by decide +kernel) r t f r1 r2 t1 t2 f1 f2
  simp only [List.map] at a3
  refine ⟨v, d', a1, ?_⟩
  rw [call_df h.f23]
  simp [DT.d23, DT.b23, lstE, a3]
theorem i3_of {k : Int} (h1 : 0 ≤ k) (h2 : k < 3) : k = 0 ∨ k = 1 ∨ k = 2 := by omega
theorem i2_of {k : Int} (h1 : 0 ≤ k) (h2 : k < 2) : k = 0 ∨ k = 1 := by omega
/-- a room or none -/
def roomN (r : Int) (v : D) : Prop := v = .non ∨ ∃ k : Int, v = .int k ∧ 0 ≤ k ∧ k < r
theorem sp_goal_d (h : HasC g) (n : Nat) (d : Dr) (r t f : Int) (r1 : 0 < r) (r2 : r ≤ 100) (t1 : 0 ≤ t) (t2 : t ≤ 100) (f1 : 0 ≤ f) (f2 : f ≤ 100) :
    ∃ (v : D) (vs : List D) (d' : Dr), roomN r v ∧ (∀ v ∈ vs, OneOk ["held", "here", "at", "on"] r t f v) ∧ vs.length ≤ 1 ∧ g.call (n + 4) 24 [d.c, .pu (.tup [.int r, .int t, .int f])] = .ok (.pu (.tup [v, .tup vs])) [d'.c, .pu (.tup [.int r, .int t, .int f])] := by
  obtain ⟨k, d1, k1, k2, k3⟩ := sp_draw h d r r1 (by omega)
  obtain ⟨m, d2, m1, m2, m3⟩ := sp_draw h d1 3 (by omega) (by omega)
  obtain ⟨vs, d3, a1, a2, _, a4⟩ := sp_several h n d2 ["held", "here", "at", "on"] (by decide) (by decide +kernel) r t f r1 r2 t1 t2 f1 f2 0 1 (by omega) (by omega) (by omega)
  have k3 := k3 (n + 2)
  have m3 := m3 (n + 2)
  simp only [List.map] at a4
  rcases i3_of m1 m2 with q | q | q <;> subst q
  · refine ⟨.non, vs, d3, .inl rfl, a1, by omega, ?_⟩
    rw [call_df h.f24]
    simp [DT.d24, DT.b24, lstE, tupE, ixN, idxE, k3, m3, a4]
  · refine ⟨.int (r - 1), vs, d3, .inr ⟨_, rfl, by omega, by omega⟩, a1, by omega, ?_⟩
    rw [call_df h.f24]
    simp [DT.d24, DT.b24, lstE, tupE, ixN, idxE, k3, m3, a4]
  · refine ⟨.int k, vs, d3, .inr ⟨_, rfl, by omega, by omega⟩, a1, by omega, ?_⟩
    rw [call_df h.f24]
    simp [DT.d24, DT.b24, lstE, tupE, ixN, idxE, k3, m3, a4]
theorem sp_rule_d (h : HasC g) (n : Nat) (d : Dr) (r t f : Int) (r1 : 0 < r) (r2 : r ≤ 100) (t1 : 0 ≤ t) (t2 : t ≤ 100) (f1 : 0 ≤ f) (f2 : f ≤ 100) :
    ∃ (v : D) (vs us : List D) (d' : Dr), roomN r v ∧ (∀ v ∈ vs, OneOk ["held", "held", "here", "on", "off"] r t f v) ∧ vs.length ≤ 2 ∧ (∀ v ∈ us, OneOk ["hold", "lay", "lose", "lose", "put", "on", "on", "off", "go"] r t f v) ∧ 1 ≤ us.length ∧ us.length ≤ 2 ∧
      g.call (n + 4) 25 [d.c, .pu (.tup [.int r, .int t, .int f])] = .ok (.pu (.tup [v, .tup vs, .tup us])) [d'.c, .pu (.tup [.int r, .int t, .int f])] := by
  obtain ⟨vs, d1, a1, a2, _, a4⟩ := sp_several h n d ["held", "held", "here", "on", "off"] (by decide) (by decide +kernel) r t f r1 r2 t1 t2 f1 f2 0 2 (by omega) (by omega) (by omega)
  obtain ⟨us, d2, b1, b2, b3, b4⟩ := sp_several h n d1 ["hold", "lay", "lose", "lose", "put", "on", "on", "off", "go"] (by decide) (by decide +kernel) r t f r1 r2 t1 t2 f1 f2 1 2 (by omega) (by omega) (by omega)
  have b3 := b3 (by decide +kernel)
  obtain ⟨k, d3, k1, k2, k3⟩ := sp_draw h d2 r r1 (by omega)
  obtain ⟨m, d4, m1, m2, m3⟩ := sp_draw h d3 2 (by omega) (by omega)
  have k3 := k3 (n + 2)
  have m3 := m3 (n + 2)
  simp only [List.map] at a4 b4
  rcases i2_of m1 m2 with q | q <;> subst q
  · refine ⟨.non, vs, us, d4, .inl rfl, a1, by omega, b1, by omega, by omega, ?_⟩
    rw [call_df h.f25]
    simp [DT.d25, DT.b25, lstE, tupE, ixN, idxE, k3, m3, a4, b4]
  · refine ⟨.int k, vs, us, d4, .inr ⟨_, rfl, by omega, by omega⟩, a1, by omega, b1, by omega, by omega, ?_⟩
    rw [call_df h.f25]
    simp [DT.d25, DT.b25, lstE, tupE, ixN, idxE, k3, m3, a4, b4]
theorem sp_door_d (h : HasC g) (n : Nat) (d : Dr) (r t f : Int) (r1 : 0 < r) (r2 : r ≤ 100) (t1 : 0 ≤ t) (t2 : t ≤ 100) (f1 : 0 ≤ f) (f2 : f ≤ 100) :
    ∃ (a b : Int) (v : D) (d' : Dr), 0 ≤ a ∧ a < r ∧ 0 ≤ b ∧ b < r ∧ (v = .non ∨ OneOk ["held", "held", "here", "gone", "at", "on", "off"] r t f v) ∧ g.call (n + 4) 26 [d.c, .pu (.tup [.int r, .int t, .int f])] = .ok (.pu (.tup [.int a, .int b, v])) [d'.c, .pu (.tup [.int r, .int t, .int f])] := by
  obtain ⟨m, d1, m1, m2, m3⟩ := sp_draw h d 3 (by omega) (by omega)
  have m3 := m3 (n + 2)
  by_cases q : m = 0
  · subst q
    obtain ⟨v, d2, v1, v2⟩ := sp_need_d h n d1 r t f r1 r2 t1 t2 f1 f2
    obtain ⟨a, d3, a1, a2, a3⟩ := sp_draw h d2 r r1 (by omega)
    obtain ⟨b, d4, b1, b2, b3⟩ := sp_draw h d3 r r1 (by omega)
    have a3 := a3 (n + 2)
    have b3 := b3 (n + 2)
    refine ⟨a, b, v, d4, a1, a2, b1, b2, v1, ?_⟩
    rw [call_df h.f26]
    simp [DT.d26, DT.b26, lstE, tupE, ixN, idxE, m3, v2, a3, b3]
  · obtain ⟨a, d3, a1, a2, a3⟩ := sp_draw h d1 r r1 (by omega)
    obtain ⟨b, d4, b1, b2, b3⟩ := sp_draw h d3 r r1 (by omega)
    have a3 := a3 (n + 2)
    have b3 := b3 (n + 2)
    refine ⟨a, b, .non, d4, a1, a2, b1, b2, .inl rfl, ?_⟩
    rw [call_df h.f26]
    simp [DT.d26, DT.b26, lstE, tupE, ixN, idxE, m3, q, a3, b3]
end
end DE
end
section
set_option Elab.async false
set_option linter.all false
set_option maxRecDepth 100000
set_option maxHeartbeats 8000000
/-! SP12: worlds as Lean data. -/
namespace DE
open PySem L2
inductive Pl where
  | room (r : Nat) | held | gone
deriving DecidableEq
inductive Need where
  | held (k : Nat) | here (k : Nat) | gone (k : Nat) | at (k r : Nat) | on (k : Nat) | off (k : Nat)
deriving DecidableEq
inductive Eff where
  | hold (k : Nat) | lay (k : Nat) | lose (k : Nat) | put (k r : Nat) | on (k : Nat) | off (k : Nat) | go (r : Nat)
deriving DecidableEq
structure Door where
  a : Nat
  b : Nat
  need : Option Need
deriving DecidableEq
structure Rule where
  room : Option Nat
  needs : List Need
  effs : List Eff
deriving DecidableEq
structure Goal where
  room : Option Nat
  needs : List Need
deriving DecidableEq
structure Wl where
  rooms : Nat
  things : List Pl
  flags : Nat
  hands : Nat
  start : Nat
  doors : List Door
  rules : List Rule
  goal : Goal
deriving DecidableEq
def nD (k : Nat) : D := .int (k : Int)
def Pl.d : Pl → D
  | .room r => nD r
  | .held => .str "held"
  | .gone => .str "gone"
def Need.d : Need → D
  | .held k => .tup [.str "held", nD k]
  | .here k => .tup [.str "here", nD k]
  | .gone k => .tup [.str "gone", nD k]
  | .at k r => .tup [.str "at", nD k, nD r]
  | .on k => .tup [.str "on", nD k]
  | .off k => .tup [.str "off", nD k]
def Eff.d : Eff → D
  | .hold k => .tup [.str "hold", nD k]
  | .lay k => .tup [.str "lay", nD k]
  | .lose k => .tup [.str "lose", nD k]
  | .put k r => .tup [.str "put", nD k, nD r]
  | .on k => .tup [.str "on", nD k]
  | .off k => .tup [.str "off", nD k]
  | .go r => .tup [.str "go", nD r]
def roomD : Option Nat → D
  | none => .non
  | some r => nD r
def needOD : Option Need → D
  | none => .non
  | some n => n.d
def Door.d (x : Door) : D := .tup [nD x.a, nD x.b, needOD x.need]
def Rule.d (x : Rule) : D := .tup [roomD x.room, .tup (x.needs.map Need.d), .tup (x.effs.map Eff.d)]
def Goal.d (x : Goal) : D := .tup [roomD x.room, .tup (x.needs.map Need.d)]
def Pl.ok (r : Nat) : Pl → Bool
  | .room k => decide (k < r)
  | _ => true
def Need.ok (r t f : Nat) : Need → Bool
  | .held k => decide (k < t)
  | .here k => decide (k < t)
  | .gone k => decide (k < t)
  | .at k q => decide (k < t) && decide (q < r)
  | .on k => decide (k < f)
  | .off k => decide (k < f)
def Eff.ok (r t f : Nat) : Eff → Bool
  | .hold k => decide (k < t)
  | .lay k => decide (k < t)
  | .lose k => decide (k < t)
  | .put k q => decide (k < t) && decide (q < r)
  | .on k => decide (k < f)
  | .off k => decide (k < f)
  | .go q => decide (q < r)
def roomOk (r : Nat) : Option Nat → Bool
  | none => true
  | some k => decide (k < r)
def needOOk (r t f : Nat) : Option Need → Bool
  | none => true
  | some n => n.ok r t f
def Door.ok (r t f : Nat) (x : Door) : Bool := decide (x.a < r) && decide (x.b < r) && needOOk r t f x.need
def Rule.ok (r t f : Nat) (x : Rule) : Bool := roomOk r x.room && x.needs.all (Need.ok r t f) && decide (x.needs.length ≤ 3) && x.effs.all (Eff.ok r t f) && decide (1 ≤ x.effs.length) && decide (x.effs.length ≤ 3)
def Goal.ok (r t f : Nat) (x : Goal) : Bool := roomOk r x.room && x.needs.all (Need.ok r t f) && decide (x.needs.length ≤ 3)
/-- the world is one -/
structure Wl.Ok (W : Wl) : Prop where
  r1 : 1 ≤ W.rooms
  r2 : W.rooms ≤ 4
  t1 : W.things.length ≤ 3
  t2 : ∀ p ∈ W.things, p.ok W.rooms = true
  f1 : W.flags ≤ 2
  h1 : W.hands ≤ 3
  s1 : W.start < W.rooms
  d1 : W.doors.length ≤ 8
  d2 : ∀ p ∈ W.doors, p.ok W.rooms W.things.length W.flags = true
  u1 : W.rules.length ≤ 5
  u2 : ∀ p ∈ W.rules, p.ok W.rooms W.things.length W.flags = true
  g : W.goal.ok W.rooms W.things.length W.flags = true
namespace Wl
variable (W : Wl)
def thD : List D := W.things.map Pl.d
def doD : List D := W.doors.map Door.d
def ruD : List D := W.rules.map Rule.d
/-- the parts, as a list -/
def partsD : D := .lst [nD W.rooms, .lst W.thD, nD W.flags, nD W.hands, nD W.start, .lst W.doD, .lst W.ruD, W.goal.d]
def objD : D := .obj 0 wNames [nD W.rooms, .tup W.thD, nD W.flags, nD W.hands, nD W.start, .tup W.doD, .tup W.ruD, W.goal.d]
def objC : C := .obj 0 wNames [.pu (nD W.rooms), .pu (.tup W.thD), .pu (nD W.flags), .pu (nD W.hands), .pu (nD W.start), .pu (.tup W.doD), .pu (.tup W.ruD), .pu W.goal.d]
end Wl
@[simp] theorem W_un (W : Wl) : W.objC.isUn = false := rfl
@[simp] theorem W_rv (W : Wl) : rvRes W.objC = .fr W.objC := rfl
@[simp] theorem W_fz (W : Wl) : W.objC.fz = W.objD := rfl
/-! ### the tests of the program hold of it -/
theorem numIn_n {a b : Int} {k : Nat} (h1 : a ≤ k) (h2 : (k : Int) ≤ b) : numIn a b (nD k) = true := by
  simp [numIn, nD, h1, h2]
theorem Pl.good {r : Nat} {p : Pl} (h : p.ok r = true) : placeB r p.d = true := by
  cases p with
  | room k =>
    simp only [Pl.ok, decide_eq_true_eq] at h
    simp [placeB, Pl.d, nD, numIn]
    omega
  | _ => simp [placeB, Pl.d]
theorem sg1 : signs (Str.ofString "t") = [.str "t"] := by kernel_rfl
theorem sg2 : signs (Str.ofString "f") = [.str "f"] := by kernel_rfl
theorem sg3 : signs (Str.ofString "tr") = [.str "t", .str "r"] := by kernel_rfl
theorem sg4 : signs (Str.ofString "r") = [.str "r"] := by kernel_rfl
theorem sl1 : (Str.ofString "t").length = 1 := by decide +kernel
theorem sl2 : (Str.ofString "f").length = 1 := by decide +kernel
theorem sl3 : (Str.ofString "tr").length = 2 := by decide +kernel
theorem sl4 : (Str.ofString "r").length = 1 := by decide +kernel
theorem zip_n1 (a : D) (as : List D) (b : D) (bs : List D) : zipOf (a :: as) (b :: bs) = .tup [a, b] :: zipOf as bs := by rw [zipOf]
theorem zip_n0 (bs : List D) : zipOf [] bs = [] := by
  unfold zipOf
  rfl
theorem Need.good {r t f : Nat} {p : Need} (h : p.ok r t f = true) : formedB needF r t f p.d = true := by
  cases p <;> simp only [Need.ok, decide_eq_true_eq, Bool.and_eq_true] at h <;> simp [formedB, Need.d, needF, sg1, sg2, sg3, sl1, sl2, sl3, zip_n1, zip_n0, numIn, szI, nD] <;> omega
theorem Eff.good {r t f : Nat} {p : Eff} (h : p.ok r t f = true) : formedB effF r t f p.d = true := by
  cases p <;> simp only [Eff.ok, decide_eq_true_eq, Bool.and_eq_true] at h <;> simp [formedB, Eff.d, effF, sg1, sg2, sg3, sg4, sl1, sl2, sl3, sl4, zip_n1, zip_n0, numIn, szI, nD] <;> omega
theorem needO_good {r t f : Nat} {p : Option Need} (h : needOOk r t f p = true) : noneOr (formedB needF r t f) (needOD p) = true := by
  cases p with
  | none => rfl
  | some p =>
    have := Need.good h
    show noneOr _ p.d = true
    cases p <;> exact this
theorem Door.good {r t f : Nat} {p : Door} (h : p.ok r t f = true) : doorB r t f p.d = true := by
  simp only [Door.ok, decide_eq_true_eq, Bool.and_eq_true] at h
  simp only [doorB, Door.d, Bool.and_eq_true]
  have h1 := h.1.1
  have h2 := h.1.2
  exact ⟨⟨numIn_n (Int.natCast_nonneg _) (by omega), numIn_n (Int.natCast_nonneg _) (by omega)⟩, needO_good h.2⟩
theorem room_good {r : Nat} {p : Option Nat} (h : roomOk r p = true) : rnB r (roomD p) = true := by
  cases p with
  | none => rfl
  | some k =>
    simp only [roomOk, decide_eq_true_eq] at h
    exact numIn_n (Int.natCast_nonneg _) (by omega)
theorem Goal.good {r t f : Nat} {p : Goal} (h : p.ok r t f = true) : goalB r t f p.d = true := by
  simp only [Goal.ok, decide_eq_true_eq, Bool.and_eq_true, List.all_eq_true] at h
  simp only [goalB, Goal.d, Bool.and_eq_true, areB, List.length_map, decide_eq_true_eq, List.all_eq_true, List.mem_map]
  refine ⟨room_good h.1.1, ⟨by omega, by omega⟩, ?_⟩
  rintro _ ⟨p, hp, rfl⟩
  exact Need.good (h.1.2 p hp)
theorem Rule.good {r t f : Nat} {p : Rule} (h : p.ok r t f = true) : ruleB r t f p.d = true := by
  simp only [Rule.ok, decide_eq_true_eq, Bool.and_eq_true, List.all_eq_true] at h
  have g : (⟨p.room, p.needs⟩ : Goal).ok r t f = true := by
    simp only [Goal.ok, decide_eq_true_eq, Bool.and_eq_true, List.all_eq_true]
    exact h.1.1.1
  have gg := Goal.good g
  simp only [ruleB, Rule.d, Bool.and_eq_true, areB, List.length_map, decide_eq_true_eq, List.all_eq_true, List.mem_map]
  refine ⟨gg, ⟨by omega, by omega⟩, ?_⟩
  rintro _ ⟨p, hp, rfl⟩
  exact Eff.good (h.1.1.2 p hp)
theorem firstBad_none {p : D → Bool} : ∀ {ds : List D} {k : Nat}, (∀ d ∈ ds, p d = true) → firstBad p ds k = none
  | [], _, _ => rfl
  | d :: ds, k, h => by
    rw [firstBad, h d List.mem_cons_self]
    exact firstBad_none fun d hd => h d (List.mem_cons_of_mem _ hd)
theorem checkB_good {p : D → Bool} {m : Int} {ds : List D} (h1 : (ds.length : Int) ≤ m) (h2 : ∀ d ∈ ds, p d = true) : checkB p m (.lst ds) = none := by
  simp only [checkB]
  rw [if_neg (by omega), firstBad_none h2]
theorem Wl.Ok.good {W : Wl} (h : W.Ok) : wBad (nD W.rooms) (.lst W.thD) (nD W.flags) (nD W.hands) (nD W.start) (.lst W.doD) (.lst W.ruD) W.goal.d = none := by
  have e1 : ival (nD W.rooms) = W.rooms := rfl
  have e2 : ival (nD W.flags) = W.flags := rfl
  have e3 : (lval (.lst W.thD)).length = W.things.length := by simp [lval, Wl.thD]
  have r1 := h.r1
  have r2 := h.r2
  have s1 := h.s1
  have f1 := h.f1
  have h1 := h.h1
  unfold wBad
  rw [e1, e2, e3, numIn_n (by omega) (by omega), chk_t, checkB_good (by simp [Wl.thD]; have := h.t1; omega) (by
    intro d hd
    obtain ⟨p, hp, rfl⟩ := List.mem_map.mp hd
    exact Pl.good (h.t2 p hp)), chkO_n, numIn_n (by omega) (by omega), chk_t, numIn_n (by omega) (by omega), chk_t, numIn_n (by omega) (by omega), chk_t,
    checkB_good (by simp [Wl.doD]; have := h.d1; omega) (by
    intro d hd
    obtain ⟨p, hp, rfl⟩ := List.mem_map.mp hd
    exact Door.good (h.d2 p hp)), chkO_n, checkB_good (by simp [Wl.ruD]; have := h.u1; omega) (by
    intro d hd
    obtain ⟨p, hp, rfl⟩ := List.mem_map.mp hd
    exact Rule.good (h.u2 p hp)), chkO_n, Goal.good h.g, chk_t]
/-! ### fine -/
theorem fw (s : String) (h : (decide ((Str.ofString s).length ≤ 1000) && PyData.strOk s) = true) : (D.str s).fine = true := by
  simpa [D.fine] using h
theorem Pl.fine (p : Pl) : p.d.fine = true := by
  cases p <;> first | rfl | decide +kernel
theorem nD_fine (k : Nat) : (nD k).fine = true := rfl
theorem wf1 : (D.str "held").fine = true := by decide +kernel
theorem wf2 : (D.str "here").fine = true := by decide +kernel
theorem wf3 : (D.str "gone").fine = true := by decide +kernel
theorem wf4 : (D.str "at").fine = true := by decide +kernel
theorem wf5 : (D.str "on").fine = true := by decide +kernel
theorem wf6 : (D.str "off").fine = true := by decide +kernel
theorem wf7 : (D.str "hold").fine = true := by decide +kernel
theorem wf8 : (D.str "lay").fine = true := by decide +kernel
theorem wf9 : (D.str "lose").fine = true := by decide +kernel
theorem wf10 : (D.str "put").fine = true := by decide +kernel
theorem wf11 : (D.str "go").fine = true := by decide +kernel
theorem fine2 {a b : D} (h1 : a.fine = true) (h2 : b.fine = true) : (D.tup [a, b]).fine = true := by simp [D.fine, fines, h1, h2]
theorem fine3 {a b c : D} (h1 : a.fine = true) (h2 : b.fine = true) (h3 : c.fine = true) : (D.tup [a, b, c]).fine = true := by simp [D.fine, fines, h1, h2, h3]
theorem Need.fine (p : Need) : p.d.fine = true := by
  cases p
  · exact fine2 wf1 rfl
  · exact fine2 wf2 rfl
  · exact fine2 wf3 rfl
  · exact fine3 wf4 rfl rfl
  · exact fine2 wf5 rfl
  · exact fine2 wf6 rfl
theorem Eff.fine (p : Eff) : p.d.fine = true := by
  cases p
  · exact fine2 wf7 rfl
  · exact fine2 wf8 rfl
  · exact fine2 wf9 rfl
  · exact fine3 wf10 rfl rfl
  · exact fine2 wf5 rfl
  · exact fine2 wf6 rfl
  · exact fine2 wf11 rfl
theorem fines_map {α : Type} {f : α → D} (h : ∀ x, (f x).fine = true) : ∀ xs : List α, fines (xs.map f) = true
  | [] => rfl
  | x :: xs => by simp [fines, h x, fines_map h xs]
theorem fine_tup {α : Type} {f : α → D} (h : ∀ x, (f x).fine = true) {xs : List α} (hl : xs.length ≤ 1000) : (D.tup (xs.map f)).fine = true := by simp [D.fine, hl, fines_map h xs]
theorem fine_lst {α : Type} {f : α → D} (h : ∀ x, (f x).fine = true) {xs : List α} (hl : xs.length ≤ 1000) : (D.lst (xs.map f)).fine = true := by simp [D.fine, hl, fines_map h xs]
theorem roomD_fine (p : Option Nat) : (roomD p).fine = true := by cases p <;> rfl
theorem needOD_fine (p : Option Need) : (needOD p).fine = true := by
  cases p with
  | none => rfl
  | some p => exact p.fine
theorem Door.fine (p : Door) : p.d.fine = true := fine3 rfl rfl (needOD_fine _)
theorem Goal.fine {p : Goal} (h : p.needs.length ≤ 1000) : p.d.fine = true := fine2 (roomD_fine _) (fine_tup Need.fine h)
theorem Rule.fine {p : Rule} (h : p.needs.length ≤ 1000) (h2 : p.effs.length ≤ 1000) : p.d.fine = true := fine3 (roomD_fine _) (fine_tup Need.fine h) (fine_tup Eff.fine h2)
theorem fines_of : ∀ {ds : List D}, (∀ d ∈ ds, d.fine = true) → fines ds = true
  | [], _ => rfl
  | d :: ds, h => by
    simp only [fines, h d List.mem_cons_self, Bool.true_and]
    exact fines_of fun d hd => h d (List.mem_cons_of_mem _ hd)
theorem fine_lst' {ds : List D} (hl : ds.length ≤ 1000) (h : ∀ d ∈ ds, d.fine = true) : (D.lst ds).fine = true := by simp [D.fine, hl, fines_of h]
theorem Rule.okLen {r t f : Nat} {p : Rule} (h : p.ok r t f = true) : p.needs.length ≤ 3 ∧ p.effs.length ≤ 3 := by
  simp only [Rule.ok, decide_eq_true_eq, Bool.and_eq_true] at h
  omega
theorem Goal.okLen {r t f : Nat} {p : Goal} (h : p.ok r t f = true) : p.needs.length ≤ 3 := by
  simp only [Goal.ok, decide_eq_true_eq, Bool.and_eq_true] at h
  omega
section
variable {g : Pg} {W : Wl}
/-- World(..) of a world's parts -/
theorem sp_made (h : HasC g) (n : Nat) (hW : W.Ok) : g.call (n + 8) 11 (iA (nD W.rooms) (.lst W.thD) (nD W.flags) (nD W.hands) (nD W.start) (.lst W.doD) (.lst W.ruD) W.goal.d) = .ok (.pu .non) (W.objC :: [.pu (nD W.rooms), .pu (.lst W.thD), .pu (nD W.flags), .pu (nD W.hands), .pu (nD W.start), .pu (.lst W.doD), .pu (.lst W.ruD), .pu W.goal.d]) := by
  have e := sp_init h n (ro := nD W.rooms) (th := .lst W.thD) (fl := nD W.flags) (ha := nD W.hands) (sa := nD W.start) (dr := .lst W.doD) (ru := .lst W.ruD) (go := W.goal.d) rfl (fine_lst Pl.fine (by have := hW.t1; omega)) rfl rfl rfl (fine_lst Door.fine (by have := hW.d1; omega))
    (fine_lst' (by simp [Wl.ruD]; have := hW.u1; omega) (by
      intro d hd
      obtain ⟨p, hp, rfl⟩ := List.mem_map.mp hd
      have := Rule.okLen (hW.u2 p hp)
      exact Rule.fine (by omega) (by omega))) (Goal.fine (by have := Goal.okLen hW.g; omega))
  rw [hW.good] at e
  rw [e]
  rfl
theorem sp_make (h : HasC g) (n : Nat) (hW : W.Ok) : g.call (n + 9) 28 [.pu W.partsD] = .ok W.objC [.pu W.partsD] := by
  have k := sp_made h n hW
  rw [call_df h.f28]
  simp [DT.d28, DT.b28, Wl.partsD, ixN, h.i0, mkOf, k]
end
end DE
end
section
set_option Elab.async false
set_option linter.all false
set_option maxRecDepth 100000
set_option maxHeartbeats 8000000
/-! SP13: the drawn parts of a world. -/
namespace DE
open PySem L2
@[simp] theorem S_addt (a b : List D) : binop .add (.pu (.tup a)) (.pu (.tup b)) = if a.length + b.length ≤ big then some (.pu (.tup (a ++ b))) else none := rfl
theorem oneK_simple {r t f : Int} {w : PySem.Str} {v : D} (h : oneK r t f w v) (h1 : w ≠ "on") (h2 : w ≠ "off") (h3 : w ≠ "go") (h4 : w ≠ "at") (h5 : w ≠ "put") : ∃ k : Int, v = .tup [.str w, .int k] ∧ 0 ≤ k ∧ k < t := by
  unfold oneK at h
  rw [if_neg (by simp [h1, h2]), if_neg h3, if_neg (by simp [h4, h5])] at h
  exact h
theorem nat_of {k : Int} (h : 0 ≤ k) : ∃ n : Nat, k = n := ⟨k.toNat, by omega⟩
theorem need_of {ws : List PySem.Str} {r t f : Nat} {v : D} (h : OneOk ws r t f v) (hw : ∀ w ∈ ws, w = "held" ∨ w = "here" ∨ w = "gone" ∨ w = "at" ∨ w = "on" ∨ w = "off") : ∃ p : Need, p.ok r t f = true ∧ v = p.d := by
  obtain ⟨w, hm, h⟩ := h
  rcases hw w hm with e | e | e | e | e | e <;> subst e
  · obtain ⟨k, rfl, h1, h2⟩ := oneK_simple h (by simp) (by simp) (by simp) (by simp) (by simp)
    obtain ⟨k, rfl⟩ := nat_of h1
    exact ⟨.held k, by simp [Need.ok]; omega, rfl⟩
  · obtain ⟨k, rfl, h1, h2⟩ := oneK_simple h (by simp) (by simp) (by simp) (by simp) (by simp)
    obtain ⟨k, rfl⟩ := nat_of h1
    exact ⟨.here k, by simp [Need.ok]; omega, rfl⟩
  · obtain ⟨k, rfl, h1, h2⟩ := oneK_simple h (by simp) (by simp) (by simp) (by simp) (by simp)
    obtain ⟨k, rfl⟩ := nat_of h1
    exact ⟨.gone k, by simp [Need.ok]; omega, rfl⟩
  · unfold oneK at h
    rw [if_neg (by simp), if_neg (by simp), if_pos (by simp)] at h
    obtain ⟨k, q, rfl, h1, h2, h3, h4⟩ := h
    obtain ⟨k, rfl⟩ := nat_of h1
    obtain ⟨q, rfl⟩ := nat_of h3
    exact ⟨.at k q, by simp [Need.ok]; omega, rfl⟩
  · unfold oneK at h
    rw [if_pos (by simp)] at h
    obtain ⟨k, rfl, h1, h2⟩ := h
    obtain ⟨k, rfl⟩ := nat_of h1
    exact ⟨.on k, by simp [Need.ok]; omega, rfl⟩
  · unfold oneK at h
    rw [if_pos (by simp)] at h
    obtain ⟨k, rfl, h1, h2⟩ := h
    obtain ⟨k, rfl⟩ := nat_of h1
    exact ⟨.off k, by simp [Need.ok]; omega, rfl⟩
theorem eff_of {ws : List PySem.Str} {r t f : Nat} {v : D} (h : OneOk ws r t f v) (hw : ∀ w ∈ ws, w = "hold" ∨ w = "lay" ∨ w = "lose" ∨ w = "put" ∨ w = "on" ∨ w = "off" ∨ w = "go") : ∃ p : Eff, p.ok r t f = true ∧ v = p.d := by
  obtain ⟨w, hm, h⟩ := h
  rcases hw w hm with e | e | e | e | e | e | e <;> subst e
  · obtain ⟨k, rfl, h1, h2⟩ := oneK_simple h (by simp) (by simp) (by simp) (by simp) (by simp)
    obtain ⟨k, rfl⟩ := nat_of h1
    exact ⟨.hold k, by simp [Eff.ok]; omega, rfl⟩
  · obtain ⟨k, rfl, h1, h2⟩ := oneK_simple h (by simp) (by simp) (by simp) (by simp) (by simp)
    obtain ⟨k, rfl⟩ := nat_of h1
    exact ⟨.lay k, by simp [Eff.ok]; omega, rfl⟩
  · obtain ⟨k, rfl, h1, h2⟩ := oneK_simple h (by simp) (by simp) (by simp) (by simp) (by simp)
    obtain ⟨k, rfl⟩ := nat_of h1
    exact ⟨.lose k, by simp [Eff.ok]; omega, rfl⟩
  · unfold oneK at h
    rw [if_neg (by simp), if_neg (by simp), if_pos (by simp)] at h
    obtain ⟨k, q, rfl, h1, h2, h3, h4⟩ := h
    obtain ⟨k, rfl⟩ := nat_of h1
    obtain ⟨q, rfl⟩ := nat_of h3
    exact ⟨.put k q, by simp [Eff.ok]; omega, rfl⟩
  · unfold oneK at h
    rw [if_pos (by simp)] at h
    obtain ⟨k, rfl, h1, h2⟩ := h
    obtain ⟨k, rfl⟩ := nat_of h1
    exact ⟨.on k, by simp [Eff.ok]; omega, rfl⟩
  · unfold oneK at h
    rw [if_pos (by simp)] at h
    obtain ⟨k, rfl, h1, h2⟩ := h
    obtain ⟨k, rfl⟩ := nat_of h1
    exact ⟨.off k, by simp [Eff.ok]; omega, rfl⟩
  · unfold oneK at h
    rw [if_neg (by simp), if_pos (by simp)] at h
    obtain ⟨k, rfl, h1, h2⟩ := h
    obtain ⟨k, rfl⟩ := nat_of h1
    exact ⟨.go k, by simp [Eff.ok]; omega, rfl⟩
theorem all_of {α : Type} {P : D → Prop} {ok : α → Bool} {f : α → D} (H : ∀ v, P v → ∃ p, ok p = true ∧ v = f p) : ∀ {vs : List D}, (∀ v ∈ vs, P v) → ∃ ps : List α, vs = ps.map f ∧ ps.all ok = true
  | [], _ => ⟨[], rfl, rfl⟩
  | v :: vs, h => by
    obtain ⟨p, h1, rfl⟩ := H v (h v List.mem_cons_self)
    obtain ⟨ps, rfl, h2⟩ := all_of H fun u hu => h u (List.mem_cons_of_mem _ hu)
    exact ⟨p :: ps, rfl, by simp [h1, h2]⟩
theorem room_of {r : Nat} {v : D} (h : roomN r v) : ∃ p, roomOk r p = true ∧ v = roomD p := by
  rcases h with rfl | ⟨k, rfl, h1, h2⟩
  · exact ⟨none, rfl, rfl⟩
  · obtain ⟨k, rfl⟩ := nat_of h1
    exact ⟨some k, by simp [roomOk]; omega, rfl⟩
theorem place_of {r : Nat} {v : D} (h : placeB r v = true) : ∃ p : Pl, p.ok r = true ∧ v = p.d := by
  cases v with
  | int k =>
    simp only [placeB, numIn, Bool.and_eq_true, decide_eq_true_eq] at h
    obtain ⟨k, rfl⟩ := nat_of h.1
    exact ⟨.room k, by simp [Pl.ok]; omega, rfl⟩
  | str s =>
    simp only [placeB, Bool.or_eq_true, beq_iff_eq] at h
    rcases h with e | e <;> subst e
    · exact ⟨.held, rfl, rfl⟩
    · exact ⟨.gone, rfl, rfl⟩
  | _ => simp [placeB, numIn] at h
section
variable {g : Pg}
theorem sp_placeT (h : HasC g) (n : Nat) (d : Dr) (r : Nat) (h1 : 0 < r) (h2 : r < 1000) : ∃ (p : Pl) (d' : Dr), p.ok r = true ∧ g.call (n + 2) 20 [d.c, .pu (.int r)] = .ok (.pu p.d) [d'.c, .pu (.int r)] := by
  obtain ⟨v, d', a1, _, _, a2⟩ := sp_dplace h n d r (by omega) (by omega)
  obtain ⟨p, b1, rfl⟩ := place_of a1
  exact ⟨p, d', b1, a2⟩
theorem sp_needT (h : HasC g) (n : Nat) (d : Dr) (r t f : Nat) (r1 : 0 < r) (r2 : r ≤ 100) (t2 : t ≤ 100) (f2 : f ≤ 100) :
    ∃ (p : Option Need) (d' : Dr), needOOk r t f p = true ∧ g.call (n + 3) 23 [d.c, .pu (.tup [.int r, .int t, .int f])] = .ok (.pu (needOD p)) [d'.c, .pu (.tup [.int r, .int t, .int f])] := by
  obtain ⟨v, d', a1, a2⟩ := sp_need_d h n d r t f (by omega) (by omega) (by omega) (by omega) (by omega) (by omega)
  rcases a1 with rfl | a1
  · exact ⟨none, d', rfl, a2⟩
  · obtain ⟨p, b1, rfl⟩ := need_of a1 (by simp)
    exact ⟨some p, d', b1, a2⟩
theorem sp_doorT (h : HasC g) (n : Nat) (d : Dr) (r t f : Nat) (r1 : 0 < r) (r2 : r ≤ 100) (t2 : t ≤ 100) (f2 : f ≤ 100) :
    ∃ (p : Door) (d' : Dr), p.ok r t f = true ∧ g.call (n + 4) 26 [d.c, .pu (.tup [.int r, .int t, .int f])] = .ok (.pu p.d) [d'.c, .pu (.tup [.int r, .int t, .int f])] := by
  obtain ⟨a, b, v, d', a1, a2, b1, b2, a3, a4⟩ := sp_door_d h n d r t f (by omega) (by omega) (by omega) (by omega) (by omega) (by omega)
  obtain ⟨a, rfl⟩ := nat_of a1
  obtain ⟨b, rfl⟩ := nat_of b1
  rcases a3 with rfl | a3
  · exact ⟨⟨a, b, none⟩, d', by simp [Door.ok, needOOk]; omega, a4⟩
  · obtain ⟨p, c1, rfl⟩ := need_of a3 (by simp)
    exact ⟨⟨a, b, some p⟩, d', by simp [Door.ok, needOOk, c1]; omega, a4⟩
theorem sp_ruleT (h : HasC g) (n : Nat) (d : Dr) (r t f : Nat) (r1 : 0 < r) (r2 : r ≤ 100) (t2 : t ≤ 100) (f2 : f ≤ 100) :
    ∃ (p : Rule) (d' : Dr), p.ok r t f = true ∧ g.call (n + 4) 25 [d.c, .pu (.tup [.int r, .int t, .int f])] = .ok (.pu p.d) [d'.c, .pu (.tup [.int r, .int t, .int f])] := by
  obtain ⟨v, vs, us, d', a1, a2, a3, b1, b2, b3, a4⟩ := sp_rule_d h n d r t f (by omega) (by omega) (by omega) (by omega) (by omega) (by omega)
  obtain ⟨q, c1, rfl⟩ := room_of a1
  obtain ⟨ps, rfl, c2⟩ := all_of (fun v hv => need_of (r := r) (t := t) (f := f) hv (by simp)) a2
  obtain ⟨qs, rfl, c3⟩ := all_of (fun v hv => eff_of (r := r) (t := t) (f := f) hv (by simp)) b1
  rw [List.length_map] at a3 b2 b3
  exact ⟨⟨q, ps, qs⟩, d', by simp only [Rule.ok, c1, c2, c3, Bool.true_and, Bool.and_true, Bool.and_eq_true, decide_eq_true_eq]; omega, a4⟩
theorem sp_goalT (h : HasC g) (n : Nat) (d : Dr) (r t f : Nat) (r1 : 0 < r) (r2 : r ≤ 100) (t2 : t ≤ 100) (f2 : f ≤ 100) :
    ∃ (p : Goal) (d' : Dr), p.ok r t f = true ∧ g.call (n + 4) 24 [d.c, .pu (.tup [.int r, .int t, .int f])] = .ok (.pu p.d) [d'.c, .pu (.tup [.int r, .int t, .int f])] := by
  obtain ⟨v, vs, d', a1, a2, a3, a4⟩ := sp_goal_d h n d r t f (by omega) (by omega) (by omega) (by omega) (by omega) (by omega)
  obtain ⟨q, c1, rfl⟩ := room_of a1
  obtain ⟨ps, rfl, c2⟩ := all_of (fun v hv => need_of (r := r) (t := t) (f := f) hv (by simp)) a2
  rw [List.length_map] at a3
  exact ⟨⟨q, ps⟩, d', by simp only [Goal.ok, c1, c2, Bool.true_and, Bool.and_true, Bool.and_eq_true, decide_eq_true_eq]; omega, a4⟩
end
end DE
end
section
set_option Elab.async false
set_option linter.all false
set_option maxRecDepth 100000
set_option maxHeartbeats 8000000
/-! SP14: the drawn parts of a world, put together. -/
namespace DE
open PySem L2
abbrev prT (d : Dr) (T r t f : Nat) (x3 x4 x5 x6 x7 x8 : C) : Loc := [d.c, .pu (.int T), .pu (.tup [.int r, .int t, .int f]), x3, x4, x5, x6, x7, x8]
abbrev puD {α : Type} (f : α → D) (xs : List α) : List C := (xs.map f).map .pu
def freeC (x : C) : Prop := x = .un ∨ ∃ y, x = .pu y
theorem freeC_pu (y : D) : freeC (.pu y) := .inr ⟨y, rfl⟩
section
variable {g : Pg}
theorem pr_doors1 (h : HasC g) (n : Nat) (d : Dr) (T r t f : Nat) (r1 : 0 < r) (r2 : r ≤ 4) (x3 x4 : C) (hx : freeC x4) : ∃ (d' : Dr) (ds : List Door) (x : C), freeC x ∧
    forRun (g.kx (n + 4)) (prT d T r t f x3 x4 (.lst []) .un .un .un) (.n 4) (.cons (.ex (.mi .append (.rd (.v 5)) (.cons (.tup (.cons (.rd (.v 4)) (.cons (.bin .add (.rd (.v 4)) (.k (.int 1))) (.cons (.k .non) .nil)))) .nil))) (.cons (.ife (.e (.cmp .gt (.call 19 (.cons (.rd (.v 0)) (.cons (.k (.int 3)) .nil))) (.k (.int 0)))) (.cons (.ex (.mi .append (.rd (.v 5)) (.cons (.tup (.cons (.bin .add (.rd (.v 4)) (.k (.int 1))) (.cons (.rd (.v 4)) (.cons (.k .non) .nil)))) .nil))) .nil) .nil) .nil)) ((List.range (r - 1)).map fun (k : Nat) => .int (k : Int)) = .nx (prT d' T r t f x3 x (.lst (puD Door.d ds)) .un .un .un) ∧ ds.length ≤ 2 * (r - 1) ∧ ∀ p ∈ ds, p.ok r t f = true := by
  obtain ⟨τ', e1, d', ds, x, rfl, e2, e3, e4⟩ := for_inv (κ := g.kx (n + 4)) (tg := .n 4) (b := (.cons (.ex (.mi .append (.rd (.v 5)) (.cons (.tup (.cons (.rd (.v 4)) (.cons (.bin .add (.rd (.v 4)) (.k (.int 1))) (.cons (.k .non) .nil)))) .nil))) (.cons (.ife (.e (.cmp .gt (.call 19 (.cons (.rd (.v 0)) (.cons (.k (.int 3)) .nil))) (.k (.int 0)))) (.cons (.ex (.mi .append (.rd (.v 5)) (.cons (.tup (.cons (.bin .add (.rd (.v 4)) (.k (.int 1))) (.cons (.rd (.v 4)) (.cons (.k .non) .nil)))) .nil))) .nil) .nil) .nil)))
    (fun j τ => ∃ (d : Dr) (ds : List Door) (x : C), τ = prT d T r t f x3 x (.lst (puD Door.d ds)) .un .un .un ∧ ds.length ≤ 2 * j ∧ (∀ p ∈ ds, p.ok r t f = true) ∧ freeC x)
    ((List.range (r - 1)).map fun (k : Nat) => .int (k : Int)) 0 (prT d T r t f x3 x4 (.lst []) .un .un .un) ⟨d, [], x4, rfl, by simp, by simp, hx⟩ fun j hj τ hτ => by
      obtain ⟨d, ds, x, rfl, h1, h2, h3⟩ := hτ
      rw [List.length_map, List.length_range] at hj
      obtain ⟨k, d', k1, k2, k3⟩ := sp_draw h d 3 (by omega) (by omega)
      have k3 := k3 (n + 3)
      have hb : ds.length < big := by unfold big; omega
      have hb2 : ds.length + 1 < big := by unfold big; omega
      have o1 : (⟨j, j + 1, none⟩ : Door).ok r t f = true := by simp [Door.ok, needOOk]; omega
      have o2 : (⟨j + 1, j, none⟩ : Door).ok r t f = true := by simp [Door.ok, needOOk]; omega
      refine ⟨prT d T r t f x3 (.pu (.int (j : Int))) (.lst (puD Door.d ds)) .un .un .un, ?_⟩
      by_cases q : 0 < k
      · refine ⟨prT d' T r t f x3 (.pu (.int (j : Int))) (.lst (puD Door.d (ds ++ [⟨j, j + 1, none⟩, ⟨j + 1, j, none⟩]))) .un .un .un, by simp [asgT, prT], .inl ?_, d', _, _, rfl, by simp; omega, ?_, freeC_pu _⟩
        · simp [tupE, hb, hb2, k3, q, Door.d, needOD, nD]
        · intro p hp
          simp only [List.mem_append, List.mem_cons, List.not_mem_nil, or_false] at hp
          rcases hp with z | rfl | rfl
          · exact h2 p z
          · exact o1
          · exact o2
      · refine ⟨prT d' T r t f x3 (.pu (.int (j : Int))) (.lst (puD Door.d (ds ++ [⟨j, j + 1, none⟩]))) .un .un .un, by simp [asgT, prT], .inl ?_, d', _, _, rfl, by simp; omega, ?_, freeC_pu _⟩
        · simp [tupE, hb, hb2, k3, q, Door.d, needOD, nD]
        · intro p hp
          simp only [List.mem_append, List.mem_cons, List.not_mem_nil, or_false] at hp
          rcases hp with z | rfl
          · exact h2 p z
          · exact o1
  rw [List.length_map, List.length_range] at e2
  exact ⟨d', ds, x, e4, e1, by omega, e3⟩
theorem pr_doors2 (h : HasC g) (n : Nat) (d : Dr) (T r t f : Nat) (r1 : 0 < r) (r2 : r ≤ 4) (t2 : t ≤ 3) (f2 : f ≤ 2) (x3 x4 : C) (hx : freeC x4) (m : Nat) (hm : m ≤ 2) (ds : List Door) (hl : ds.length ≤ 6) (hd : ∀ p ∈ ds, p.ok r t f = true) : ∃ (d' : Dr) (ds' : List Door) (x y : C), freeC x ∧
    forRun (g.kx (n + 4)) (prT d T r t f x3 x4 (.lst (puD Door.d ds)) .un .un .un) (.n 4) (.cons (.ife (.and (.e (.cmp .gt (.bi .len (.cons (.rd (.v 5)) .nil)) (.k (.int 0)))) (.e (.cmp .eq (.call 19 (.cons (.rd (.v 0)) (.cons (.k (.int 2)) .nil))) (.k (.int 0))))) (.cons (.asg 6 (.fz (.call 19 (.cons (.rd (.v 0)) (.cons (.bi .len (.cons (.rd (.v 5)) .nil)) .nil))))) (.cons (.setX (.v 5) (.rd (.v 6)) (.fz (.bin .add (.sli (.rd (.x (.v 5) (.rd (.v 6)))) .no (.so (.k (.int 2)))) (.tup (.cons (.call 23 (.cons (.rd (.v 0)) (.cons (.rd (.v 2)) .nil))) .nil))))) .nil)) (.cons (.ex (.mi .append (.rd (.v 5)) (.cons (.fz (.call 26 (.cons (.rd (.v 0)) (.cons (.rd (.v 2)) .nil)))) .nil))) .nil)) .nil) ((List.range m).map fun (k : Nat) => .int (k : Int)) = .nx (prT d' T r t f x3 x (.lst (puD Door.d ds')) y .un .un) ∧ ds'.length ≤ 8 ∧ ∀ p ∈ ds', p.ok r t f = true := by
  obtain ⟨τ', e1, d', ds, x, y, rfl, e2, e3, e4⟩ := for_inv (κ := g.kx (n + 4)) (tg := .n 4) (b := (.cons (.ife (.and (.e (.cmp .gt (.bi .len (.cons (.rd (.v 5)) .nil)) (.k (.int 0)))) (.e (.cmp .eq (.call 19 (.cons (.rd (.v 0)) (.cons (.k (.int 2)) .nil))) (.k (.int 0))))) (.cons (.asg 6 (.fz (.call 19 (.cons (.rd (.v 0)) (.cons (.bi .len (.cons (.rd (.v 5)) .nil)) .nil))))) (.cons (.setX (.v 5) (.rd (.v 6)) (.fz (.bin .add (.sli (.rd (.x (.v 5) (.rd (.v 6)))) .no (.so (.k (.int 2)))) (.tup (.cons (.call 23 (.cons (.rd (.v 0)) (.cons (.rd (.v 2)) .nil))) .nil))))) .nil)) (.cons (.ex (.mi .append (.rd (.v 5)) (.cons (.fz (.call 26 (.cons (.rd (.v 0)) (.cons (.rd (.v 2)) .nil)))) .nil))) .nil)) .nil))
    (fun j τ => ∃ (d : Dr) (ds : List Door) (x y : C), τ = prT d T r t f x3 x (.lst (puD Door.d ds)) y .un .un ∧ ds.length ≤ 6 + j ∧ (∀ p ∈ ds, p.ok r t f = true) ∧ freeC x)
    ((List.range m).map fun (k : Nat) => .int (k : Int)) 0 (prT d T r t f x3 x4 (.lst (puD Door.d ds)) .un .un .un) ⟨d, ds, x4, .un, rfl, by omega, hd, hx⟩ fun j hj τ hτ => by
      obtain ⟨d, ds, x, y, rfl, h1, h2, h3⟩ := hτ
      rw [List.length_map, List.length_range] at hj
      have hb : ds.length < big := by unfold big; omega
      have hb2 : ds.length ≤ big := by unfold big; omega
      have asg : asgT (.n 4) (((List.range m).map fun (k : Nat) => D.int (k : Int))[j]'(by simpa using hj)) (prT d T r t f x3 x (.lst (puD Door.d ds)) y .un .un) = some (prT d T r t f x3 (.pu (.int (j : Int))) (.lst (puD Door.d ds)) y .un .un) := by simp [asgT, prT]
      have app : ∀ (d0 : Dr), ∃ (p : Door) (d' : Dr), g.call (n + 4) 26 [d0.c, .pu (.tup [.int r, .int t, .int f])] = .ok (.pu p.d) [d'.c, .pu (.tup [.int r, .int t, .int f])] ∧
          ∃ (d : Dr) (ds' : List Door) (x' y' : C), prT d' T r t f x3 (.pu (.int (j : Int))) (.lst (puD Door.d (ds ++ [p]))) y .un .un = prT d T r t f x3 x' (.lst (puD Door.d ds')) y' .un .un ∧ ds'.length ≤ 6 + (0 + j + 1) ∧ (∀ p ∈ ds', p.ok r t f = true) ∧ freeC x' := fun d0 => by
        obtain ⟨p, d', p1, p2⟩ := sp_doorT h n d0 r t f r1 (by omega) (by omega) (by omega)
        refine ⟨p, d', p2, d', _, _, _, rfl, by simp; omega, fun u hu => ?_, freeC_pu _⟩
        rcases List.mem_append.mp hu with z | z
        · exact h2 u z
        · rw [List.mem_singleton.mp z]
          exact p1
      by_cases q : ds = []
      · obtain ⟨p, d', a1, a2⟩ := app d
        refine ⟨_, _, asg, .inl ?_, a2⟩
        subst q
        have b0 : 0 < big := by decide
        have b1 : 0 ≤ big := by decide
        simp [a1, b0, b1]
      · have q0 : 0 < ds.length := Nat.pos_of_ne_zero (by simpa using q)
        obtain ⟨k, d1, k1, k2, k3⟩ := sp_draw h d 2 (by omega) (by omega)
        have k3 := k3 (n + 3)
        by_cases q2 : k = 0
        · subst q2
          obtain ⟨at_, d2, m1, m2, m3⟩ := sp_draw h d1 ds.length (by omega) (by omega)
          have m3 := m3 (n + 3)
          obtain ⟨at_, rfl⟩ := nat_of m1
          obtain ⟨p, d3, p1, p2⟩ := sp_needT h (n + 1) d2 r t f r1 (by omega) (by omega) (by omega)
          have ha : at_ < ds.length := by omega
          have ho := h2 _ (List.getElem_mem ha)
          have hcut : cut [nD ds[at_].a, nD ds[at_].b, needOD ds[at_].need] none (some 2) = [nD ds[at_].a, nD ds[at_].b] := by simp [cut, sIx]
          have b3 : (3 : Nat) ≤ big := by decide
          refine ⟨_, prT d3 T r t f x3 (.pu (.int (j : Int))) (.lst (puD Door.d (ds.set at_ ⟨ds[at_].a, ds[at_].b, p⟩))) (.pu (.int (at_ : Int))) .un .un, asg, .inl ?_, d3, _, _, _, rfl, by simp; omega, fun u hu => ?_, freeC_pu _⟩
          · have b21 : (2 : Nat) + 1 ≤ big := by decide
            simp [q0, hb2, k3, m3, p2, ixN, ha, Door.d, hcut, tupE, b3]
          · rcases List.mem_or_eq_of_mem_set hu with z | rfl
            · exact h2 u z
            · simp only [Door.ok, Bool.and_eq_true] at ho ⊢
              exact ⟨ho.1, p1⟩
        · obtain ⟨p, d', a1, a2⟩ := app d1
          refine ⟨_, _, asg, .inl ?_, a2⟩
          simp [q0, hb2, k3, q2, a1, hb]
  rw [List.length_map, List.length_range] at e2
  exact ⟨d', ds, x, y, e4, e1, by omega, e3⟩
end
end DE
end
section
set_option Elab.async false
set_option linter.all false
set_option maxRecDepth 100000
set_option maxHeartbeats 8000000
/-! SP15: a world is drawn. -/
namespace DE
open PySem L2
def Wl.partsC (W : Wl) : C := .lst [.pu (nD W.rooms), .pu (.lst W.thD), .pu (nD W.flags), .pu (nD W.hands), .pu (nD W.start), .lst (W.doD.map .pu), .pu (.lst W.ruD), .pu W.goal.d]
@[simp] theorem P_un (W : Wl) : W.partsC.isUn = false := rfl
@[simp] theorem P_rv (W : Wl) : rvRes W.partsC = .fr W.partsC := rfl
@[simp] theorem P_fz (W : Wl) : W.partsC.fz = W.partsD := by simp [Wl.partsC, Wl.partsD]
@[simp] theorem S_fzp (i : Nat) (τ : Loc) (cs : List C) (h : look τ i = .lst cs) : fzS i τ = .nx (τ.set i (.pu (.lst (fzs cs)))) := by
  unfold fzS
  rw [h]
  rfl
def mvK (i : Nat) (τ : Loc) (c : C) : Res Rv := match c with
  | .un => .stk
  | .pu d => .ok (.pu d) τ
  | c => .ok (.fr c) (τ.set i .un)
@[simp] theorem S_mvK (i : Nat) (τ : Loc) : mvC i τ = mvK i τ (look τ i) := rfl
@[simp] theorem S_mvp (i : Nat) (τ : Loc) (d : D) : mvK i τ (.pu d) = .ok (.pu d) τ := rfl
@[simp] theorem S_mvl (i : Nat) (τ : Loc) (cs : List C) : mvK i τ (.lst cs) = .ok (.fr (.lst cs)) (τ.set i .un) := rfl
@[simp] theorem S_mvd (i : Nat) (τ : Loc) (ks : List D) (cs : List C) : mvK i τ (.dic ks cs) = .ok (.fr (.dic ks cs)) (τ.set i .un) := rfl
@[simp] theorem S_mvo (i : Nat) (τ : Loc) (c : Nat) (ns : List PySem.Str) (cs : List C) : mvK i τ (.obj c ns cs) = .ok (.fr (.obj c ns cs)) (τ.set i .un) := rfl
section
variable {g : Pg}
theorem pr_places (h : HasC g) (n : Nat) (d : Dr) (T r t f : Nat) (r1 : 0 < r) (r2 : r ≤ 4) (t2 : t ≤ 3) : ∃ (d' : Dr) (ps : List Pl),
    lcRun (g.kx (n + 4)) (prT d T r t f .un .un .un .un .un .un) [4] (.n 4) .yes (.call 20 (.cons (.rd (.v 0)) (.cons (.rd (.x (.v 2) (.k (.int 0)))) .nil))) ((List.range t).map fun (k : Nat) => .int (k : Int)) = .ok (.fr (.lst ((ps.map Pl.d).map .pu))) (prT d' T r t f .un .un .un .un .un .un) ∧ ps.length = t ∧ ps.all (Pl.ok r) = true := by
  obtain ⟨xs, τ', e1, e2, e3, ⟨d', x, e4⟩, e5⟩ := lc_inv (κ := g.kx (n + 4)) (own := [4]) (tg := (.n 4)) (t := .yes) (e := (.call 20 (.cons (.rd (.v 0)) (.cons (.rd (.x (.v 2) (.k (.int 0)))) .nil)))) (τ0 := prT d T r t f .un .un .un .un .un .un)
    (fun τ => ∃ (d : Dr) (x : C), τ = prT d T r t f .un x .un .un .un .un) (fun v => ∃ p : Pl, p.ok r = true ∧ v = p.d) (items := (List.range t).map fun (k : Nat) => .int (k : Int)) rfl (by simp; unfold big; omega) ⟨d, .un, rfl⟩ fun i hi τ hτ => by
      obtain ⟨d, x, rfl⟩ := hτ
      obtain ⟨p, d', p1, p2⟩ := sp_placeT h (n + 2) d r r1 (by omega)
      exact ⟨prT d T r t f .un (.pu i) .un .un .un .un, prT d T r t f .un (.pu i) .un .un .un .un, rfl, .inr ⟨S_Ty _ _, .pu p.d, p.d, prT d' T r t f .un (.pu i) .un .un .un .un, by simp [ixN, p2], rfl, ⟨p, p1, rfl⟩, d', _, rfl⟩⟩
  obtain ⟨ps, rfl, e6⟩ := all_of (fun v hv => hv) e3
  subst e4
  exact ⟨d', ps, e1, by simpa using e5 fun τ τ2 => by simp, e6⟩
theorem pr_rules (h : HasC g) (n : Nat) (d : Dr) (T r t f m : Nat) (hm : m ≤ 3) (r1 : 0 < r) (r2 : r ≤ 4) (t2 : t ≤ 3) (f2 : f ≤ 2) (x3 x5 x6 : C) (x4 : C) (hx : freeC x4) : ∃ (d' : Dr) (ps : List Rule),
    lcRun (g.kx (n + 4)) (prT d T r t f x3 x4 x5 x6 .un .un) [4] (.n 4) .yes (.call 25 (.cons (.rd (.v 0)) (.cons (.rd (.v 2)) .nil))) ((List.range m).map fun (k : Nat) => .int (k : Int)) = .ok (.fr (.lst ((ps.map Rule.d).map .pu))) (prT d' T r t f x3 x4 x5 x6 .un .un) ∧ ps.length = m ∧ ps.all (Rule.ok r t f) = true := by
  obtain ⟨xs, τ', e1, e2, e3, ⟨d', x, e4⟩, e5⟩ := lc_inv (κ := g.kx (n + 4)) (own := [4]) (tg := (.n 4)) (t := .yes) (e := (.call 25 (.cons (.rd (.v 0)) (.cons (.rd (.v 2)) .nil)))) (τ0 := prT d T r t f x3 x4 x5 x6 .un .un)
    (fun τ => ∃ (d : Dr) (x : C), τ = prT d T r t f x3 x x5 x6 .un .un) (fun v => ∃ p : Rule, p.ok r t f = true ∧ v = p.d) (items := (List.range m).map fun (k : Nat) => .int (k : Int)) (by rcases hx with rfl | ⟨_, rfl⟩ <;> rfl) (by simp; unfold big; omega) ⟨d, x4, rfl⟩ fun i hi τ hτ => by
      obtain ⟨d, x, rfl⟩ := hτ
      obtain ⟨p, d', p1, p2⟩ := sp_ruleT h n d r t f r1 (by omega) (by omega) (by omega)
      exact ⟨prT d T r t f x3 (.pu i) x5 x6 .un .un, prT d T r t f x3 (.pu i) x5 x6 .un .un, rfl, .inr ⟨S_Ty _ _, .pu p.d, p.d, prT d' T r t f x3 (.pu i) x5 x6 .un .un, by simp [p2], rfl, ⟨p, p1, rfl⟩, d', _, rfl⟩⟩
  obtain ⟨ps, rfl, e6⟩ := all_of (fun v hv => hv) e3
  subst e4
  refine ⟨d', ps, ?_, by simpa using e5 fun τ τ2 => by simp, e6⟩
  rw [e1]
  rcases hx with rfl | ⟨_, rfl⟩ <;> rfl
theorem sp_parts (h : HasC g) (n : Nat) (d : Dr) (T : Nat) (hT : T ≤ 3) : ∃ (W : Wl) (d' : Dr), W.Ok ∧ W.things.length ≤ T ∧ g.call (n + 5) 27 [d.c, .pu (.int T)] = .ok W.partsC [d'.c, .pu (.int T)] := by
  obtain ⟨k1, d1, a1, a2, a3⟩ := sp_draw h d 4 (by omega) (by omega)
  obtain ⟨t, d2, b1, b2, b3⟩ := sp_draw h d1 (T + 1) (by omega) (by omega)
  obtain ⟨f, d3, c1, c2, c3⟩ := sp_draw h d2 2 (by omega) (by omega)
  obtain ⟨r, hr⟩ := nat_of (k := 1 + k1) (by omega)
  obtain ⟨t, rfl⟩ := nat_of b1
  obtain ⟨f, rfl⟩ := nat_of c1
  have a3 := a3 (n + 3)
  have b3 := b3 (n + 3)
  have c3 := c3 (n + 3)
  have r1 : 0 < r := by omega
  have r2 : r ≤ 4 := by omega
  obtain ⟨d4, ps, p1, p2, p3⟩ := pr_places h n d3 T r t f r1 r2 (by omega)
  obtain ⟨d5, ds1, x, u0, u1, u2, u3⟩ := pr_doors1 h n d4 T r t f r1 r2 (.pu (.lst (ps.map Pl.d))) .un (.inl rfl)
  obtain ⟨m, d6, m1, m2, m3⟩ := sp_draw h d5 3 (by omega) (by omega)
  have m3 := m3 (n + 3)
  obtain ⟨m, rfl⟩ := nat_of m1
  obtain ⟨d7, ds, y, z, v0, v1, v2, v3⟩ := pr_doors2 h n d6 T r t f r1 r2 (by omega) (by omega) (.pu (.lst (ps.map Pl.d))) x u0 m (by omega) ds1 (by omega) u3
  obtain ⟨q, d8, q1, q2, q3⟩ := sp_draw h d7 3 (by omega) (by omega)
  have q3 := q3 (n + 3)
  obtain ⟨q, rfl⟩ := nat_of q1
  obtain ⟨d9, rs, w1, w2, w3⟩ := pr_rules h n d8 T r t f q (by omega) r1 r2 (by omega) (by omega) (.pu (.lst (ps.map Pl.d))) (.lst (puD Door.d ds)) z y v0
  obtain ⟨ha, d10, h1, h2, h3⟩ := sp_draw h d9 3 (by omega) (by omega)
  have h3 := h3 (n + 3)
  obtain ⟨ha, rfl⟩ := nat_of h1
  obtain ⟨st, d11, s1, s2, s3⟩ := sp_draw h d10 r (by omega) (by omega)
  have s3 := s3 (n + 3)
  obtain ⟨st, rfl⟩ := nat_of s1
  obtain ⟨go, d12, g1, g2⟩ := sp_goalT h n d11 r t f r1 (by omega) (by omega) (by omega)
  refine ⟨⟨r, ps, f, ha, st, ds, rs, go⟩, d12, ⟨r1, r2, by dsimp only; omega, fun p hp => List.all_eq_true.mp p3 p hp, by dsimp only; omega, by dsimp only; omega, by dsimp only; omega, v2, by rw [p2]; exact v3, by dsimp only; omega, by rw [p2]; exact fun p hp => List.all_eq_true.mp w3 p hp, by rw [p2]; exact g1⟩, by show ps.length ≤ T; omega, ?_⟩
  have rg1 : rngOf 0 (t : Int) = _ := rng0 (by omega) (by omega)
  have rg2 : rngOf 0 ((r : Int) - 1) = _ := rng0 (by omega) (by omega)
  have rg3 : rngOf 0 (m : Int) = _ := rng0 (by omega) (by omega)
  have rg4 : rngOf 0 (q : Int) = _ := rng0 (by omega) (by omega)
  have er : ((r : Int) - 1).toNat = r - 1 := by omega
  rw [er] at rg2
  simp only [Int.toNat_natCast] at rg1 rg3 rg4
  have hb : exs (g.kx (n + 4)) DT.b27 ([d.c, .pu (.int T)] ++ List.replicate 7 C.un) = .ret (Wl.partsC ⟨r, ps, f, ha, st, ds, rs, go⟩) (prT d12 T r t f (.pu (.lst (ps.map Pl.d))) y .un z (.pu (.lst (rs.map Rule.d))) (.pu (.int ha))) := by
    unfold DT.b27
    rw [exs_nx (τ1 := prT d3 T r t f .un .un .un .un .un .un) (by simp [tupE, a3, b3, c3, hr]) rfl]
    rw [exs_nx (τ1 := prT d4 T r t f (.lst ((ps.map Pl.d).map .pu)) .un .un .un .un .un) (by simp [ixN, rg1, p1]) rfl]
    rw [exs_nx (τ1 := prT d4 T r t f (.pu (.lst (ps.map Pl.d))) .un .un .un .un .un) (by simp) rfl]
    rw [exs_nx (τ1 := prT d4 T r t f (.pu (.lst (ps.map Pl.d))) .un (.lst []) .un .un .un) (by simp [lstE]) rfl]
    rw [exs_nx (τ1 := prT d5 T r t f (.pu (.lst (ps.map Pl.d))) x (.lst (puD Door.d ds1)) .un .un .un) (by simp [ixN, rg2, u1]) rfl]
    rw [exs_nx (τ1 := prT d7 T r t f (.pu (.lst (ps.map Pl.d))) y (.lst (puD Door.d ds)) z .un .un) (by simp at v1; simp [m3, rg3, v1]) rfl]
    rw [exs_nx (τ1 := prT d9 T r t f (.pu (.lst (ps.map Pl.d))) y (.lst (puD Door.d ds)) z (.lst ((rs.map Rule.d).map .pu)) .un) (by simp at w1; simp [q3, rg4, w1]) rfl]
    rw [exs_nx (τ1 := prT d9 T r t f (.pu (.lst (ps.map Pl.d))) y (.lst (puD Door.d ds)) z (.pu (.lst (rs.map Rule.d))) .un) (by simp) rfl]
    rw [exs_nx (τ1 := prT d10 T r t f (.pu (.lst (ps.map Pl.d))) y (.lst (puD Door.d ds)) z (.pu (.lst (rs.map Rule.d))) (.pu (.int ha))) (by simp [h3]) rfl]
    simp [lstE, ixN, s3, g2, Wl.partsC, nD, Wl.thD, Wl.doD, Wl.ruD]
  rw [call_df h.f27, S_run]
  show (if _ then (match exs (g.kx (n + 4)) DT.b27 ([d.c, .pu (.int T)] ++ List.replicate 7 C.un) with
    | .nx τ => Res.ok (C.pu .non) (maskO _ τ)
    | .ret c τ => .ok c (maskO _ τ)
    | .exc x τ => .exc x (maskO _ τ)
    | _ => .stk) else .stk) = _
  rw [hb]
  simp [DT.d27]
end
end DE
end
section
set_option Elab.async false
set_option linter.all false
set_option maxRecDepth 100000
set_option maxHeartbeats 8000000
/-! SP16: worlds by their parts as data: parts(), ==, World(..). -/
namespace DE
open PySem L2
def methG (κ : Kx) (k : Nat) (x : Rv) (rs : List Rv) (τ : Loc) : Res Rv := callR (κ.call k) ((x :: rs).map fzFr) τ
@[simp] theorem S_methG (κ : Kx) (k : Nat) (x : Rv) (rs : List Rv) (τ : Loc) : methG κ k x rs τ = callR (κ.call k) (fzFr x :: rs.map fzFr) τ := rfl
def methO (κ : Kx) (f : Loc → Res (List Rv)) (x : Rv) (τ : Loc) : Option Nat → Res Rv
  | some k => (f τ).bind (methG κ k x)
  | none => .stk
@[simp] theorem S_methO (κ : Kx) (f : Loc → Res (List Rv)) (x : Rv) (τ : Loc) (k : Nat) : methO κ f x τ (some k) = (f τ).bind (methG κ k x) := rfl
@[simp] theorem S_methE (κ : Kx) (m : PySem.Str) (f : Loc → Res (List Rv)) (x : Rv) (τ : Loc) : methE κ m f x τ = methO κ f x τ ((clsOf x.c).bind fun c => κ.meth c m) := by
  unfold methE methF
  cases (clsOf x.c).bind fun c => κ.meth c m <;> rfl
@[simp] theorem S_clso (c : Nat) (ns : List PySem.Str) (ds : List D) : clsOf (.pu (.obj c ns ds)) = some c := rfl
@[simp] theorem S_clsc (c : Nat) (ns : List PySem.Str) (ds : List C) : clsOf (.obj c ns ds) = some c := rfl
def eqoO (κ : Kx) (x y : Rv) (τ : Loc) : Option Nat → Res Rv
  | some f => callR (blOnly (κ.call f)) [fzFr x, fzFr y] τ
  | none => .stk
@[simp] theorem S_eqoO (κ : Kx) (x y : Rv) (τ : Loc) (f : Nat) : eqoO κ x y τ (some f) = callR (blOnly (κ.call f)) [fzFr x, fzFr y] τ := rfl
@[simp] theorem S_eqoE (κ : Kx) (x y : Rv) (τ : Loc) : eqoE κ x y τ = eqoO κ x y τ ((sameCls x.c y.c).bind fun c => κ.meth c eqName) := by
  unfold eqoE
  cases (sameCls x.c y.c).bind fun c => κ.meth c eqName <;> rfl
@[simp] theorem S_tycls (k : Nat) (c : C) : typeIs (.cls k) c = if clsOf c = some k then some true else none := rfl
@[simp] theorem S_look1 {α : Type} (n : PySem.Str) (m : PySem.Str) (ns : List PySem.Str) (d : α) (ds : List α) : lookN n (m :: ns) (d :: ds) = if m = n then some d else lookN n ns ds := rfl
@[simp] theorem S_subo (c : Nat) (ns : List PySem.Str) (ds : List D) (n : PySem.Str) : (C.pu (.obj c ns ds)).sub (.f n) = (lookN n ns ds).map .pu := rfl
@[simp] theorem S_suboc (c : Nat) (ns : List PySem.Str) (cs : List C) (n : PySem.Str) : (C.obj c ns cs).sub (.f n) = lookN n ns cs := rfl
structure PD where
  ro : D
  th : List D
  fl : D
  ha : D
  sa : D
  dr : List D
  ru : List D
  go : D
namespace PD
variable (P : PD)
def objD : D := .obj 0 wNames [P.ro, .tup P.th, P.fl, P.ha, P.sa, .tup P.dr, .tup P.ru, P.go]
def objC : C := .obj 0 wNames [.pu P.ro, .pu (.tup P.th), .pu P.fl, .pu P.ha, .pu P.sa, .pu (.tup P.dr), .pu (.tup P.ru), .pu P.go]
def partsD : D := .lst [P.ro, .lst P.th, P.fl, P.ha, P.sa, .lst P.dr, .lst P.ru, P.go]
def tupD : D := .tup [P.ro, .tup P.th, P.fl, P.ha, P.sa, .tup P.dr, .tup P.ru, P.go]
def bad : Option (PySem.Str × Int) := wBad P.ro (.lst P.th) P.fl P.ha P.sa (.lst P.dr) (.lst P.ru) P.go
end PD
@[simp] theorem PD_un (P : PD) : P.objC.isUn = false := rfl
@[simp] theorem PD_rv (P : PD) : rvRes P.objC = .fr P.objC := rfl
@[simp] theorem PD_fz (P : PD) : P.objC.fz = P.objD := rfl
@[simp] theorem PD_cls (P : PD) : clsOf P.objC = some 0 := rfl
@[simp] theorem PD_clsd (P : PD) : clsOf (.pu P.objD) = some 0 := rfl
/-- data of no great depth -/
def fd (d : D) : Prop := d.fine = true ∧ d.dep ≤ 10
structure PD.Fine (P : PD) : Prop where
  ro : fd P.ro
  fl : fd P.fl
  ha : fd P.ha
  sa : fd P.sa
  go : fd P.go
  th : P.th.length ≤ 100 ∧ ∀ d ∈ P.th, fd d
  dr : P.dr.length ≤ 100 ∧ ∀ d ∈ P.dr, fd d
  ru : P.ru.length ≤ 100 ∧ ∀ d ∈ P.ru, fd d
theorem deps_le {k : Nat} : ∀ {ds : List D}, (∀ d ∈ ds, d.dep ≤ k) → deps ds ≤ k
  | [], _ => by
    rw [deps]
    omega
  | d :: ds, h => by
    rw [deps]
    have h1 := h d List.mem_cons_self
    have h2 := deps_le fun x hx => h x (List.mem_cons_of_mem _ hx)
    omega
theorem dep_tup {ds : List D} {k : Nat} (h : ∀ d ∈ ds, d.dep ≤ k) : (D.tup ds).dep ≤ k + 1 := by
  rw [D.dep]
  have := deps_le h
  omega
theorem dep_lst {ds : List D} {k : Nat} (h : ∀ d ∈ ds, d.dep ≤ k) : (D.lst ds).dep ≤ k + 1 := by
  rw [D.dep]
  have := deps_le h
  omega
theorem PD.Fine.dep {P : PD} (h : P.Fine) : P.tupD.dep ≤ 60 := by
  have e : P.tupD.dep ≤ 11 + 1 := dep_tup fun d hd => by
    simp only [List.mem_cons, List.not_mem_nil, or_false] at hd
    rcases hd with z | z | z | z | z | z | z | z <;> subst z
    · exact Nat.le_succ_of_le h.ro.2
    · exact dep_tup fun d hd => (h.th.2 d hd).2
    · exact Nat.le_succ_of_le h.fl.2
    · exact Nat.le_succ_of_le h.ha.2
    · exact Nat.le_succ_of_le h.sa.2
    · exact dep_tup fun d hd => (h.dr.2 d hd).2
    · exact dep_tup fun d hd => (h.ru.2 d hd).2
    · exact Nat.le_succ_of_le h.go.2
  omega
mutual
theorem eqb_refl : ∀ d : D, d.fine = true → d.eqb d = true
  | .non, _ => by rw [D.eqb]
  | .bl b, _ => by
    rw [D.eqb]
    simp
  | .int i, _ => by simp
  | .str s, _ => by simp
  | .tup ds, h => by
    simp only [D.fine, Bool.and_eq_true] at h
    rw [D.eqb]
    exact eqbs_refl ds h.2
  | .lst ds, h => by
    simp only [D.fine, Bool.and_eq_true] at h
    rw [D.eqb]
    exact eqbs_refl ds h.2
  | .dic _ _, h => by cases h
  | .obj _ _ _, h => by cases h
  | .fn _, h => by cases h
  | .clo _ _, h => by cases h
theorem eqbs_refl : ∀ ds : List D, fines ds = true → eqbs ds ds = true
  | [], _ => by rw [eqbs]
  | d :: ds, h => by
    simp only [fines, Bool.and_eq_true] at h
    rw [eqbs, eqb_refl d h.1, eqbs_refl ds h.2]
    rfl
end
theorem PD.Fine.fine {P : PD} (h : P.Fine) : P.tupD.fine = true := by
  have th : (D.tup P.th).fine = true := by simp [D.fine, fines_of fun d hd => (h.th.2 d hd).1]; have := h.th.1; omega
  have dr : (D.tup P.dr).fine = true := by simp [D.fine, fines_of fun d hd => (h.dr.2 d hd).1]; have := h.dr.1; omega
  have ru : (D.tup P.ru).fine = true := by simp [D.fine, fines_of fun d hd => (h.ru.2 d hd).1]; have := h.ru.1; omega
  show (decide (8 ≤ 1000) && fines _) = true
  simp only [fines, h.ro.1, th, h.fl.1, h.ha.1, h.sa.1, dr, ru, h.go.1]
  decide
section
variable {g : Pg} {P Q : PD}
theorem sp_wparts (h : HasC g) (n : Nat) : g.call (n + 1) 12 [.pu P.objD] = .ok (.pu P.tupD) [.pu P.objD] := by
  rw [call_df h.f12]
  simp [DT.d12, DT.b12, PD.objD, PD.tupD, tupE]
theorem sp_weq (h : HasC g) (n : Nat) (hP : P.Fine) (hQ : Q.Fine) : g.call (n + 2) 13 [.pu P.objD, .pu Q.objD] = .ok (.pu (.bl (P.tupD.eqb Q.tupD))) [.pu P.objD, .pu Q.objD] := by
  have k1 := sp_wparts (P := P) h n
  have k2 := sp_wparts (P := Q) h n
  have e : cmpop .eq (.pu P.tupD) (.pu Q.tupD) = some (P.tupD.eqb Q.tupD) := by
    show (if P.tupD.dep ≤ 60 ∧ Q.tupD.dep ≤ 60 then some (P.tupD.eqb Q.tupD) else none) = _
    rw [if_pos ⟨hP.dep, hQ.dep⟩]
  rw [call_df h.f13]
  simp [DT.d13, DT.b13, h.mp, k1, k2, e]
theorem sp_makeP (h : HasC g) (n : Nat) (hP : P.Fine) : g.call (n + 9) 28 [.pu P.partsD] = match P.bad with
    | none => .ok P.objC [.pu P.partsD]
    | some q => .exc ⟨1, [.str q.1, .int q.2]⟩ [.pu P.partsD] := by
  have k := sp_init h n (ro := P.ro) (th := .lst P.th) (fl := P.fl) (ha := P.ha) (sa := P.sa) (dr := .lst P.dr) (ru := .lst P.ru) (go := P.go) hP.ro.1 (fine_lst' (by have := hP.th.1; omega) fun d hd => (hP.th.2 d hd).1) hP.fl.1 hP.ha.1 hP.sa.1
    (fine_lst' (by have := hP.dr.1; omega) fun d hd => (hP.dr.2 d hd).1) (fine_lst' (by have := hP.ru.1; omega) fun d hd => (hP.ru.2 d hd).1) hP.go.1
  rw [call_df h.f28]
  unfold PD.bad
  cases e : wBad P.ro (.lst P.th) P.fl P.ha P.sa (.lst P.dr) (.lst P.ru) P.go with
  | none =>
    rw [e] at k
    have ew : worldC P.ro (.lst P.th) P.fl P.ha P.sa (.lst P.dr) (.lst P.ru) P.go = P.objC := rfl
    rw [ew] at k
    simp [DT.d28, DT.b28, PD.partsD, ixN, h.i0, mkOf, k]
  | some q =>
    rw [e] at k
    simp [DT.d28, DT.b28, PD.partsD, ixN, h.i0, mkOf, k]
end
def Wl.pd (W : Wl) : PD := ⟨nD W.rooms, W.thD, nD W.flags, nD W.hands, nD W.start, W.doD, W.ruD, W.goal.d⟩
end DE
end
section
set_option Elab.async false
set_option linter.all false
set_option maxRecDepth 100000
set_option maxHeartbeats 8000000
/-! SP17: drawn worlds are fine; slices. -/
namespace DE
open PySem L2
theorem fd_n (k : Nat) : fd (nD k) := ⟨rfl, Nat.zero_le _⟩
theorem dep_of {s : String} (h : PyData.strOk (Str.ofString s) = true) : (D.str s).dep ≤ 0 := by
  rw [dep_s _ h]
  exact Nat.le_refl _
theorem strOk_of {s : PySem.Str} (h : (D.str s).fine = true) : PyData.strOk s = true := by
  simp only [D.fine, Bool.and_eq_true] at h
  exact h.2
theorem dep0 {s : PySem.Str} (h : (D.str s).fine = true) {k : Nat} : (D.str s).dep ≤ k := by
  rw [dep_s _ (strOk_of h)]
  omega
theorem dep2 {a b : D} {k : Nat} (h1 : a.dep ≤ k) (h2 : b.dep ≤ k) : (D.tup [a, b]).dep ≤ k + 1 := dep_tup fun d hd => by
  simp only [List.mem_cons, List.not_mem_nil, or_false] at hd
  rcases hd with z | z <;> subst z <;> assumption
theorem dep3 {a b c : D} {k : Nat} (h1 : a.dep ≤ k) (h2 : b.dep ≤ k) (h3 : c.dep ≤ k) : (D.tup [a, b, c]).dep ≤ k + 1 := dep_tup fun d hd => by
  simp only [List.mem_cons, List.not_mem_nil, or_false] at hd
  rcases hd with z | z | z <;> subst z <;> assumption
theorem nD_dep {j : Nat} {k : Nat} : (nD j).dep ≤ k := Nat.zero_le _
theorem Pl.dep (p : Pl) {k : Nat} : p.d.dep ≤ k := by
  cases p
  · exact nD_dep
  · exact dep0 wf1
  · exact dep0 wf3
theorem Need.dep (p : Need) : p.d.dep ≤ 1 := by
  cases p
  · exact dep2 (dep0 wf1) nD_dep
  · exact dep2 (dep0 wf2) nD_dep
  · exact dep2 (dep0 wf3) nD_dep
  · exact dep3 (dep0 wf4) nD_dep nD_dep
  · exact dep2 (dep0 wf5) nD_dep
  · exact dep2 (dep0 wf6) nD_dep
theorem Eff.dep (p : Eff) : p.d.dep ≤ 1 := by
  cases p
  · exact dep2 (dep0 wf7) nD_dep
  · exact dep2 (dep0 wf8) nD_dep
  · exact dep2 (dep0 wf9) nD_dep
  · exact dep3 (dep0 wf10) nD_dep nD_dep
  · exact dep2 (dep0 wf5) nD_dep
  · exact dep2 (dep0 wf6) nD_dep
  · exact dep2 (dep0 wf11) nD_dep
theorem roomD_dep (p : Option Nat) {k : Nat} : (roomD p).dep ≤ k := by
  cases p <;> exact Nat.zero_le _
theorem needOD_dep (p : Option Need) {k : Nat} : (needOD p).dep ≤ k + 1 := by
  cases p with
  | none => exact Nat.zero_le _
  | some p => exact Nat.le_trans p.dep (by omega)
theorem Door.dep (p : Door) : p.d.dep ≤ 2 := dep3 nD_dep nD_dep (needOD_dep _)
theorem needs_dep (ps : List Need) : (D.tup (ps.map Need.d)).dep ≤ 2 := dep_tup fun d hd => by
  obtain ⟨p, _, rfl⟩ := List.mem_map.mp hd
  exact p.dep
theorem effs_dep (ps : List Eff) : (D.tup (ps.map Eff.d)).dep ≤ 2 := dep_tup fun d hd => by
  obtain ⟨p, _, rfl⟩ := List.mem_map.mp hd
  exact p.dep
theorem Goal.dep (p : Goal) : p.d.dep ≤ 3 := dep2 (roomD_dep _) (needs_dep _)
theorem Rule.dep (p : Rule) : p.d.dep ≤ 3 := dep3 (roomD_dep _) (needs_dep _) (effs_dep _)
theorem Door.fd (p : Door) : fd p.d := ⟨p.fine, Nat.le_trans p.dep (by omega)⟩
theorem Pl.fd (p : Pl) : fd p.d := ⟨p.fine, p.dep⟩
theorem Rule.fd {r t f : Nat} {p : Rule} (h : p.ok r t f = true) : fd p.d := ⟨Rule.fine (by have := Rule.okLen h; omega) (by have := Rule.okLen h; omega), Nat.le_trans p.dep (by omega)⟩
theorem Goal.fd {r t f : Nat} {p : Goal} (h : p.ok r t f = true) : fd p.d := ⟨Goal.fine (by have := Goal.okLen h; omega), Nat.le_trans p.dep (by omega)⟩
theorem Wl.Ok.fine {W : Wl} (h : W.Ok) : W.pd.Fine where
  ro := fd_n _
  fl := fd_n _
  ha := fd_n _
  sa := fd_n _
  go := Goal.fd h.g
  th := ⟨by show W.thD.length ≤ 100; have := h.t1; simp [Wl.thD]; omega, fun d hd => by
    obtain ⟨p, _, rfl⟩ := List.mem_map.mp hd
    exact p.fd⟩
  dr := ⟨by show W.doD.length ≤ 100; have := h.d1; simp [Wl.doD]; omega, fun d hd => by
    obtain ⟨p, _, rfl⟩ := List.mem_map.mp hd
    exact p.fd⟩
  ru := ⟨by show W.ruD.length ≤ 100; have := h.u1; simp [Wl.ruD]; omega, fun d hd => by
    obtain ⟨p, hp, rfl⟩ := List.mem_map.mp hd
    exact Rule.fd (h.u2 p hp)⟩
theorem Wl.pd_bad {W : Wl} (h : W.Ok) : W.pd.bad = none := h.good
theorem cut_to {α : Type} (xs : List α) (k : Nat) : cut xs none (some (k : Int)) = xs.take k := by
  have e : sIx xs.length xs.length (some (k : Int)) = min k xs.length := by
    show (if (k : Int) < 0 then ((k : Int) + (xs.length : Int)).toNat else min (k : Int).toNat xs.length) = _
    rw [if_neg (by omega)]
    simp
  unfold cut
  rw [e]
  simp [sIx]
theorem cut_from {α : Type} (xs : List α) (k : Nat) : cut xs (some (k : Int)) none = xs.drop k := by
  have e : sIx xs.length 0 (some (k : Int)) = min k xs.length := by
    show (if (k : Int) < 0 then ((k : Int) + (xs.length : Int)).toNat else min (k : Int).toNat xs.length) = _
    rw [if_neg (by omega)]
    simp
  unfold cut
  rw [e]
  show (xs.drop (min k xs.length)).take (xs.length - min k xs.length) = _
  by_cases q : k ≤ xs.length
  · rw [Nat.min_eq_left q, List.take_of_length_le (by simp)]
  · rw [Nat.min_eq_right (by omega), List.drop_eq_nil_of_le (as := xs) (i := k) (by omega), List.drop_eq_nil_of_le (by omega)]
    simp
theorem ixN_n {n k : Nat} (h : k < n) : ixN n (k : Int) = some k := by
  simp [ixN, h]
end DE
end
section
set_option Elab.async false
set_option linter.all false
set_option maxRecDepth 100000
set_option maxHeartbeats 8000000
/-! SP18: more equations. -/
namespace DE
open PySem L2
@[simp] theorem sk_door : PyData.strOk (Str.ofString "door") = true := by decide +kernel
@[simp] theorem sk_rule : PyData.strOk (Str.ofString "rule") = true := by decide +kernel
@[simp] theorem sk_nodoor : PyData.strOk (Str.ofString "no door") = true := by decide +kernel
@[simp] theorem sk_norule : PyData.strOk (Str.ofString "no rule") = true := by decide +kernel
@[simp] theorem sk_hands : PyData.strOk (Str.ofString "hands") = true := by decide +kernel
@[simp] theorem sk_place : PyData.strOk (Str.ofString "place") = true := by decide +kernel
@[simp] theorem sk_late : PyData.strOk (Str.ofString "late") = true := by decide +kernel
@[simp] theorem sk_held : PyData.strOk (Str.ofString "held") = true := by decide +kernel
@[simp] theorem sk_gone : PyData.strOk (Str.ofString "gone") = true := by decide +kernel
@[simp] theorem sk_here : PyData.strOk (Str.ofString "here") = true := by decide +kernel
@[simp] theorem sk_at : PyData.strOk (Str.ofString "at") = true := by decide +kernel
@[simp] theorem sk_on : PyData.strOk (Str.ofString "on") = true := by decide +kernel
@[simp] theorem sk_off : PyData.strOk (Str.ofString "off") = true := by decide +kernel
@[simp] theorem sk_hold : PyData.strOk (Str.ofString "hold") = true := by decide +kernel
@[simp] theorem sk_lay : PyData.strOk (Str.ofString "lay") = true := by decide +kernel
@[simp] theorem sk_lose : PyData.strOk (Str.ofString "lose") = true := by decide +kernel
@[simp] theorem sk_put : PyData.strOk (Str.ofString "put") = true := by decide +kernel
@[simp] theorem sk_go : PyData.strOk (Str.ofString "go") = true := by decide +kernel
@[simp] theorem sk_take : PyData.strOk (Str.ofString "take") = true := by decide +kernel
@[simp] theorem sk_drop : PyData.strOk (Str.ofString "drop") = true := by decide +kernel
@[simp] theorem sk_use : PyData.strOk (Str.ofString "use") = true := by decide +kernel
def inO (x : D) : Option (List D) → Option Bool
  | some ds => if isFl x && ds.all isFl then some (ds.any (·.eqb x)) else if x.dep ≤ 60 ∧ deps ds ≤ 60 then some (ds.any (·.eqb x)) else none
  | none => none
@[simp] theorem S_inO (x : D) (ds : List D) : inO x (some ds) = if isFl x && ds.all isFl then some (ds.any (·.eqb x)) else if x.dep ≤ 60 ∧ deps ds ≤ 60 then some (ds.any (·.eqb x)) else none := rfl
@[simp] theorem S_isinl (x : D) (cs : List C) : isIn x (.lst cs) = inO x (pures cs) := by
  show (match pures cs with
    | some ds => if isFl x && ds.all isFl then some (ds.any (·.eqb x)) else (match pures cs with
      | some es => if x.dep ≤ 60 ∧ deps es ≤ 60 then some (es.any (·.eqb x)) else none
      | none => none)
    | none => none) = _
  cases pures cs <;> rfl
@[simp] theorem S_isinL (x : D) (ds : List D) : isIn x (.pu (.lst ds)) = inO x (some ds) := rfl
@[simp] theorem S_catff (a b : List C) : catE (.fr (.lst a)) (.fr (.lst b)) = if a.length + b.length ≤ big then some (.fr (.lst (a ++ b))) else none := rfl
def makesF (κ : Kx) (c : Nat) (d : D) (τ : Loc) : Res Rv := match d with
  | .tup ds => callR (mkOf (κ.call (κ.init c)) c) ((ds.map Rv.pu).map fzFr) τ
  | _ => .stk
@[simp] theorem S_makesF (κ : Kx) (c : Nat) (ds : List D) (τ : Loc) : makesF κ c (.tup ds) τ = callR (mkOf (κ.call (κ.init c)) c) ((ds.map Rv.pu).map fzFr) τ := rfl
@[simp] theorem S_makes (κ : Kx) (c : Nat) (a : E) (τ : Loc) : ev κ (.makes c a) τ = (toF (ev κ a τ)).bind (makesF κ c) := by
  first | (rw [ev]; done) | (rw [ev] <;> rfl)
@[simp] theorem S_inGE (neg : Bool) (ks : List D) (s : PySem.Str) (τ : Loc) : inGE neg ks (.str s) τ = .ok (.pu (.bl (if neg then !(ks.any (·.eqb (.str s))) else ks.any (·.eqb (.str s))))) τ := rfl
def idxGK (vs : List D) (τ : Loc) : Option Nat → Res Rv
  | some j => (match vs[j]? with
      | some v => .ok (.pu v) τ
      | none => .stk)
  | none => .stk
@[simp] theorem S_idxGK (vs : List D) (τ : Loc) (j : Nat) : idxGK vs τ (some j) = match vs[j]? with
      | some v => .ok (.pu v) τ
      | none => .stk := rfl
@[simp] theorem S_idxGE (ks vs : List D) (s : PySem.Str) (τ : Loc) : idxGE ks vs (.str s) τ = idxGK vs τ (keyAt (.str s) ks 0) := by
  unfold idxGE
  cases h : keyAt (.str s) ks 0 with
  | none => simp only [idxGK, h]
  | some j =>
    simp only [idxGK, h] <;> rfl
def sliO (l u : Option Int) : Option (List D) → Option Rv
  | some ds => some (.fr (.lst ((cut ds l u).map .pu)))
  | none => none
@[simp] theorem S_sliO (l u : Option Int) (ds : List D) : sliO l u (some ds) = some (.fr (.lst ((cut ds l u).map .pu))) := rfl
@[simp] theorem S_slifr (cs : List C) (l u : Option Int) (τ : Loc) : sliE (.fr (.lst cs)) l u τ = lift (sliO l u (pures cs)) τ := by
  show lift ((pures cs).map fun ds => Rv.fr (.lst ((cut ds l u).map .pu))) τ = _
  cases pures cs <;> rfl
@[simp] theorem S_slibo (i : Nat) (ph : List Sp) (cs : List C) (l u : Option Int) (τ : Loc) : sliE (.bo i ph (.lst cs)) l u τ = lift (sliO l u (pures cs)) τ := by
  show lift ((pures cs).map fun ds => Rv.fr (.lst ((cut ds l u).map .pu))) τ = _
  cases pures cs <;> rfl
@[simp] theorem S_puT (j : Nat) (xs : List D) : pures ((xs.map C.pu).take j) = some (xs.take j) := by rw [← List.map_take, S_pures]
@[simp] theorem S_puDr (j : Nat) (xs : List D) : pures ((xs.map C.pu).drop j) = some (xs.drop j) := by rw [← List.map_drop, S_pures]
@[simp] theorem S_fzT (j : Nat) (xs : List D) : fzs ((xs.map C.pu).take j) = xs.take j := by rw [← List.map_take, S_fzsp]
@[simp] theorem S_fzDr (j : Nat) (xs : List D) : fzs ((xs.map C.pu).drop j) = xs.drop j := by rw [← List.map_drop, S_fzsp]
def addO : Option (List D) → Option (List D) → Option Rv
  | some x, some y => if x.length + y.length ≤ big then some (.fr (.lst ((x ++ y).map .pu))) else none
  | _, _ => none
@[simp] theorem S_addO (x y : List D) : addO (some x) (some y) = if x.length + y.length ≤ big then some (.fr (.lst ((x ++ y).map .pu))) else none := rfl
@[simp] theorem S_addcc (a b : List C) : binop .add (.lst a) (.lst b) = addO (pures a) (pures b) := by
  show (match pures a, pures b with
    | some x, some y => if x.length + y.length ≤ big then some (Rv.fr (.lst ((x ++ y).map .pu))) else none
    | _, _ => none) = _
  cases pures a <;> cases pures b <;> rfl
@[simp] theorem S_addcl (a : List C) (b : List D) : binop .add (.lst a) (.pu (.lst b)) = addO (pures a) (some b) := by
  show (match pures a, some b with
    | some x, some y => if x.length + y.length ≤ big then some (Rv.fr (.lst ((x ++ y).map .pu))) else none
    | _, _ => none) = _
  cases pures a <;> rfl
@[simp] theorem S_addll (a b : List D) : binop .add (.pu (.lst a)) (.pu (.lst b)) = addO (some a) (some b) := rfl
@[simp] theorem S_lstE (rs : List Rv) : lstE rs = if rs.length ≤ 1000 then (keepAll rs).map fun cs => .fr (.lst cs) else none := rfl
@[simp] theorem S_tupE (rs : List Rv) : tupE rs = if rs.length ≤ 1000 then (fzAll rs).map fun ds => .pu (.tup ds) else none := rfl
@[simp] theorem S_ixN (n : Nat) (i : Int) : ixN n i = if 0 ≤ i then (if i < n then some i.toNat else none) else if -(n : Int) ≤ i then some (i + n).toNat else none := rfl
@[simp] theorem S_set1 (c y : C) (p : Sp) (ps : List Sp) : C.set c (p :: ps) y = match c.sub p with
  | some d => c.put p (d.set ps y)
  | none => c := by
  cases c <;> rfl
@[simp] theorem S_putl (cs : List C) (j : Nat) (y : C) : (C.lst cs).put (.k j) y = .lst (cs.set j y) := rfl
@[simp] theorem S_putd (ks : List D) (cs : List C) (j : Nat) (y : C) : (C.dic ks cs).put (.k j) y = .dic ks (cs.set j y) := rfl
@[simp] theorem S_puto (c : Nat) (ns : List PySem.Str) (cs : List C) (n : PySem.Str) (y : C) : (C.obj c ns cs).put (.f n) y = .obj c (putN n y ns cs).1 (putN n y ns cs).2 := rfl
@[simp] theorem S_nonbl (i : Nat) (ph : List Sp) (cs : List C) : isNone (.bo i ph (.lst cs)) = some false := rfl
@[simp] theorem S_nonfl (cs : List C) : isNone (.fr (.lst cs)) = some false := rfl
@[simp] theorem S_nonbo (i : Nat) (ph : List Sp) (c : Nat) (ns : List PySem.Str) (cs : List C) : isNone (.bo i ph (.obj c ns cs)) = some false := rfl
@[simp] theorem S_nonfo (c : Nat) (ns : List PySem.Str) (cs : List C) : isNone (.fr (.obj c ns cs)) = some false := rfl
@[simp] theorem S_nonbd (i : Nat) (ph : List Sp) (ks : List D) (cs : List C) : isNone (.bo i ph (.dic ks cs)) = some false := rfl
@[simp] theorem S_nonfd (ks : List D) (cs : List C) : isNone (.fr (.dic ks cs)) = some false := rfl
/-! try -/
section
variable (sub : Nat → Nat → Bool) (c i : Nat) (h : Hd) (τ : Loc)
@[simp] theorem S_tnx : tryE sub c h (.nx τ) = .nx τ := rfl
@[simp] theorem S_tret (x : C) : tryE sub c h (.ret x τ) = .ret x τ := rfl
@[simp] theorem S_texc (x : Exn) : tryE sub c h (.exc x τ) = if sub x.x c then hdRun x.ds h τ else .exc x τ := rfl
@[simp] theorem S_tanx : tryA sub c i h (.nx τ) = .nx τ := rfl
@[simp] theorem S_taret (x : C) : tryA sub c i h (.ret x τ) = .ret x τ := rfl
@[simp] theorem S_taexc (x : Exn) : tryA sub c i h (.exc x τ) = if sub x.x c then (if x.x = c then hdAs i x.ds h τ else .stk) else .exc x τ := rfl
@[simp] theorem S_hdAs (ds : List D) : hdAs i ds h τ = if decide (i < τ.length) && (look τ i).isUn then hdRun ds h τ else .stk := rfl
@[simp] theorem S_unun : C.un.isUn = true := rfl
end
@[simp] theorem S_hdasg (ds : List D) (i : Nat) (e : He) (τ : Loc) : hdRun ds (.asg i e) τ = match e.val ds with
    | some d => .nx (τ.set i (.pu d))
    | none => .stk := rfl
@[simp] theorem S_hek (d : D) (ds : List D) : He.val ds (.k d) = some d := by rw [He.val]
@[simp] theorem S_hexf (f : Nat) (ds : List D) : He.val ds (.xf f) = ds[f]? := by rw [He.val]
end DE
end
section
set_option Elab.async false
set_option linter.all false
set_option maxRecDepth 100000
set_option maxHeartbeats 4000000
namespace K07
open PySem L2 DE
def topS (n : Nat) : Stmt := PySem.Challenge.pw_deadends_k07_changed_worlds.main.body.getD n (.Pass (Pos.mk 0 0 0 0))
end K07
namespace DT
open PySem L2 DE
/-- without -/
def b14 : Ss := (.cons (.ret (.ife (.e (.call 0 (.cons (.rd (.v 1)) (.cons (.k (.int 0)) (.cons (.bin .sub (.bi .len (.cons (.rd (.v 0)) .nil)) (.k (.int 1))) .nil))))) (.bin .add (.sli (.rd (.v 0)) .no (.so (.rd (.v 1)))) (.sli (.rd (.v 0)) (.so (.bin .add (.rd (.v 1)) (.k (.int 1)))) .no)) (.k .non))) .nil)
def d14 : DefI := { x := "without", qual := "without", N := ["row", "index"], ps := ["row", "index"], d := { np := 2, ns := 2, body := b14, io := [0, 1] } }
/-- parts_behind -/
def b15 : Ss := (.cons (.asgT (.t (.cons (.n 2) (.cons (.n 3) (.cons (.n 4) (.cons (.n 5) (.cons (.n 6) (.cons (.n 7) (.cons (.n 8) (.cons (.n 9) .nil))))))))) (.meth "parts" (.rd (.v 0)) .nil)) (.cons (.asg 10 (.rd (.x (.v 1) (.k (.int 0))))) (.cons (.ife (.e (.cmp .eq (.rd (.v 10)) (.k (.str "door")))) (.cons (.asg 7 (.fz (.bin .add (.rd (.v 7)) (.tup (.cons (.rd (.x (.v 1) (.k (.int 1)))) .nil))))) .nil) (.cons (.ife (.e (.cmp .eq (.rd (.v 10)) (.k (.str "rule")))) (.cons (.asg 8 (.fz (.bin .add (.rd (.v 8)) (.tup (.cons (.rd (.x (.v 1) (.k (.int 1)))) .nil))))) .nil) (.cons (.ife (.e (.cmp .eq (.rd (.v 10)) (.k (.str "no door")))) (.cons (.asg 7 (.fz (.call 14 (.cons (.rd (.v 7)) (.cons (.rd (.x (.v 1) (.k (.int 1)))) .nil))))) .nil) (.cons (.ife (.e (.cmp .eq (.rd (.v 10)) (.k (.str "no rule")))) (.cons (.asg 8 (.fz (.call 14 (.cons (.rd (.v 8)) (.cons (.rd (.x (.v 1) (.k (.int 1)))) .nil))))) .nil) (.cons (.ife (.e (.cmp .eq (.rd (.v 10)) (.k (.str "hands")))) (.cons (.asg 5 (.rd (.x (.v 1) (.k (.int 1))))) .nil) (.cons (.ife (.e (.call 0 (.cons (.rd (.x (.v 1) (.k (.int 1)))) (.cons (.k (.int 0)) (.cons (.bin .sub (.bi .len (.cons (.rd (.v 3)) .nil)) (.k (.int 1))) .nil))))) (.cons (.asg 3 (.fz (.bin .add (.bin .add (.sli (.rd (.v 3)) .no (.so (.rd (.x (.v 1) (.k (.int 1)))))) (.tup (.cons (.rd (.x (.v 1) (.k (.int 2)))) .nil))) (.sli (.rd (.v 3)) (.so (.bin .add (.rd (.x (.v 1) (.k (.int 1)))) (.k (.int 1)))) .no)))) .nil) (.cons (.asg 3 (.k .non)) .nil)) .nil)) .nil)) .nil)) .nil)) .nil)) (.cons (.ife (.or (.e (.isN (.rd (.v 7)))) (.or (.e (.isN (.rd (.v 8)))) (.e (.isN (.rd (.v 3)))))) (.cons (.ret (.k .non)) .nil) .nil) (.cons (.ret (.tup (.cons (.rd (.v 2)) (.cons (.bi .list (.cons (.rd (.v 3)) .nil)) (.cons (.rd (.v 4)) (.cons (.rd (.v 5)) (.cons (.rd (.v 6)) (.cons (.bi .list (.cons (.rd (.v 7)) .nil)) (.cons (.bi .list (.cons (.rd (.v 8)) .nil)) (.cons (.rd (.v 9)) .nil)))))))))) .nil)))))
def d15 : DefI := { x := "parts_behind", qual := "parts_behind", N := ["world", "change", "rooms", "things", "flags", "hands", "start", "doors", "rules", "goal", "word"], ps := ["world", "change"], d := { np := 2, ns := 11, body := b15, io := [0, 1] } }
/-- behind -/
def b16 : Ss := (.cons (.ife (.or (.not (.e (.isi (.rd (.v 1)) .tup))) (.or (.not (.e (.rd (.v 1)))) (.or (.not (.e (.isi (.rd (.x (.v 1) (.k (.int 0)))) .str))) (.e (.inG true (.rd (.x (.v 1) (.k (.int 0)))) [(.str "door"), (.str "rule"), (.str "no door"), (.str "no rule"), (.str "hands"), (.str "place")]))))) (.cons (.ret (.k .non)) .nil) .nil) (.cons (.ife (.e (.cmp .ne (.bi .len (.cons (.rd (.v 1)) .nil)) (.idxG (.rd (.x (.v 1) (.k (.int 0)))) [(.str "door"), (.str "rule"), (.str "no door"), (.str "no rule"), (.str "hands"), (.str "place")] [(.int 2), (.int 2), (.int 2), (.int 2), (.int 2), (.int 3)]))) (.cons (.ret (.k .non)) .nil) .nil) (.cons (.asg 2 (.fz (.call 15 (.cons (.rd (.v 0)) (.cons (.rd (.v 1)) .nil))))) (.cons (.asg 3 (.k .non)) (.cons (.ife (.e (.isntN (.rd (.v 2)))) (.cons (.try (.cons (.asg 3 (.fz (.makes 0 (.rd (.v 2))))) .nil) (.cons 1 (.asg 3 (.k .non)) .nil)) .nil) .nil) (.cons (.ret (.rd (.v 3))) .nil))))))
def d16 : DefI := { x := "behind", qual := "behind", N := ["world", "change", "parts", "made"], ps := ["world", "change"], d := { np := 2, ns := 4, body := b16, io := [0, 1] } }
/-- changed -/
def b17 : Ss := (.cons (.for (.t (.cons (.n 2) (.cons (.n 3) .nil))) (.enum (.rd (.v 1))) (.cons (.asg 0 (.fz (.call 16 (.cons (.rd (.v 0)) (.cons (.rd (.v 3)) .nil))))) (.cons (.ife (.e (.isN (.rd (.v 0)))) (.cons (.raise 2 (.cons (.rd (.v 2)) .nil)) .nil) .nil) .nil))) (.cons (.ret (.rd (.v 0))) .nil))
def d17 : DefI := { x := "changed", qual := "changed", N := ["world", "changes", "index", "change"], ps := ["world", "changes"], d := { np := 2, ns := 4, body := b17, io := [1] } }
/-- _law_without -/
def b30 : Ss := (.cons (.ife (.or (.not (.e (.isi (.rd (.v 1)) .int))) (.not (.e (.chain .le .lt (.k (.int 0)) (.rd (.v 1)) (.bi .len (.cons (.rd (.v 0)) .nil)))))) (.cons (.ret (.k .non)) .nil) .nil) (.cons (.ret (.bin .add (.sli (.bi .list (.cons (.rd (.v 0)) .nil)) .no (.so (.rd (.v 1)))) (.sli (.bi .list (.cons (.rd (.v 0)) .nil)) (.so (.bin .add (.rd (.v 1)) (.k (.int 1)))) .no))) .nil))
def d30 : DefI := { x := "_law_without", qual := "_law_without", N := ["_law_row", "_law_k"], ps := ["_law_row", "_law_k"], d := { np := 2, ns := 2, body := b30, io := [0, 1] } }
/-- _law_after -/
def b31 : Ss := (.cons (.asg 2 (.cat (.cat (.lst (.cons (.rd (.x (.v 0) (.k (.int 0)))) (.cons (.bi .list (.cons (.rd (.x (.v 0) (.k (.int 1)))) .nil)) .nil))) (.bi .list (.cons (.sli (.rd (.v 0)) (.so (.k (.int 2))) (.so (.k (.int 5)))) .nil))) (.lst (.cons (.bi .list (.cons (.rd (.x (.v 0) (.k (.int 5)))) .nil)) (.cons (.bi .list (.cons (.rd (.x (.v 0) (.k (.int 6)))) .nil)) (.cons (.rd (.x (.v 0) (.k (.int 7)))) .nil)))))) (.cons (.ife (.or (.e (.isN (.rd (.v 1)))) (.e (.cmp .notin (.rd (.x (.v 1) (.k (.int 0)))) (.lst (.cons (.k (.str "door")) (.cons (.k (.str "rule")) (.cons (.k (.str "no door")) (.cons (.k (.str "no rule")) (.cons (.k (.str "hands")) (.cons (.k (.str "place")) .nil)))))))))) (.cons (.ret (.k .non)) .nil) .nil) (.cons (.ife (.e (.cmp .eq (.rd (.x (.v 1) (.k (.int 0)))) (.k (.str "door")))) (.cons (.ex (.mi .append (.rd (.x (.v 2) (.k (.int 5)))) (.cons (.rd (.x (.v 1) (.k (.int 1)))) .nil))) .nil) .nil) (.cons (.ife (.e (.cmp .eq (.rd (.x (.v 1) (.k (.int 0)))) (.k (.str "rule")))) (.cons (.ex (.mi .append (.rd (.x (.v 2) (.k (.int 6)))) (.cons (.rd (.x (.v 1) (.k (.int 1)))) .nil))) .nil) .nil) (.cons (.ife (.e (.cmp .eq (.rd (.x (.v 1) (.k (.int 0)))) (.k (.str "no door")))) (.cons (.setX (.v 2) (.k (.int 5)) (.call 30 (.cons (.rd (.x (.v 0) (.k (.int 5)))) (.cons (.rd (.x (.v 1) (.k (.int 1)))) .nil)))) .nil) .nil) (.cons (.ife (.e (.cmp .eq (.rd (.x (.v 1) (.k (.int 0)))) (.k (.str "no rule")))) (.cons (.setX (.v 2) (.k (.int 6)) (.call 30 (.cons (.rd (.x (.v 0) (.k (.int 6)))) (.cons (.rd (.x (.v 1) (.k (.int 1)))) .nil)))) .nil) .nil) (.cons (.ife (.e (.cmp .eq (.rd (.x (.v 1) (.k (.int 0)))) (.k (.str "hands")))) (.cons (.setX (.v 2) (.k (.int 3)) (.rd (.x (.v 1) (.k (.int 1))))) .nil) .nil) (.cons (.ife (.e (.cmp .eq (.rd (.x (.v 1) (.k (.int 0)))) (.k (.str "place")))) (.cons (.ife (.not (.e (.chain .le .lt (.k (.int 0)) (.rd (.x (.v 1) (.k (.int 1)))) (.bi .len (.cons (.rd (.x (.v 0) (.k (.int 1)))) .nil))))) (.cons (.ret (.k .non)) .nil) .nil) (.cons (.setX (.x (.v 2) (.k (.int 1))) (.rd (.x (.v 1) (.k (.int 1)))) (.rd (.x (.v 1) (.k (.int 2))))) .nil)) .nil) (.cons (.ife (.or (.e (.isN (.rd (.x (.v 2) (.k (.int 5)))))) (.e (.isN (.rd (.x (.v 2) (.k (.int 6))))))) (.cons (.ret (.k .non)) .nil) .nil) (.cons (.asg 3 (.k (.bl true))) (.cons (.try (.cons (.fz 2) (.cons (.ex (.call 28 (.cons (.rd (.v 2)) .nil))) .nil)) (.cons 1 (.asg 3 (.k (.bl false))) .nil)) (.cons (.ife (.e (.rd (.v 3))) (.cons (.ret (.mv 2)) .nil) .nil) (.cons (.ret (.k .non)) .nil)))))))))))))
def d31 : DefI := { x := "_law_after", qual := "_law_after", N := ["_law_parts_here", "_law_change_here", "_law_found", "_law_good"], ps := ["_law_parts_here", "_law_change_here"], d := { np := 2, ns := 4, body := b31, io := [0, 1] } }
/-- _law_change -/
def b32 : Ss := (.cons (.asg 2 (.tup (.cons (.rd (.x (.v 1) (.k (.int 0)))) (.cons (.bi .len (.cons (.rd (.x (.v 1) (.k (.int 1)))) .nil)) (.cons (.rd (.x (.v 1) (.k (.int 2)))) .nil))))) (.cons (.asg 3 (.fz (.call 19 (.cons (.rd (.v 0)) (.cons (.k (.int 7)) .nil))))) (.cons (.ife (.e (.cmp .eq (.rd (.v 3)) (.k (.int 0)))) (.cons (.ret (.tup (.cons (.k (.str "door")) (.cons (.idx (.lst (.cons (.call 26 (.cons (.rd (.v 0)) (.cons (.rd (.v 2)) .nil))) (.cons (.tup (.cons (.k (.int 9)) (.cons (.k (.int 0)) (.cons (.k .non) .nil)))) .nil))) (.call 19 (.cons (.rd (.v 0)) (.cons (.k (.int 2)) .nil)))) .nil)))) .nil) .nil) (.cons (.ife (.e (.cmp .eq (.rd (.v 3)) (.k (.int 1)))) (.cons (.ret (.tup (.cons (.k (.str "rule")) (.cons (.call 25 (.cons (.rd (.v 0)) (.cons (.rd (.v 2)) .nil))) .nil)))) .nil) .nil) (.cons (.ife (.e (.cmp .eq (.rd (.v 3)) (.k (.int 2)))) (.cons (.ret (.tup (.cons (.k (.str "no door")) (.cons (.bin .sub (.call 19 (.cons (.rd (.v 0)) (.cons (.k (.int 9)) .nil))) (.k (.int 1))) .nil)))) .nil) .nil) (.cons (.ife (.e (.cmp .eq (.rd (.v 3)) (.k (.int 3)))) (.cons (.ret (.tup (.cons (.k (.str "no rule")) (.cons (.bin .sub (.call 19 (.cons (.rd (.v 0)) (.cons (.k (.int 4)) .nil))) (.k (.int 1))) .nil)))) .nil) .nil) (.cons (.ife (.e (.cmp .eq (.rd (.v 3)) (.k (.int 4)))) (.cons (.ret (.tup (.cons (.k (.str "hands")) (.cons (.bin .sub (.call 19 (.cons (.rd (.v 0)) (.cons (.k (.int 6)) .nil))) (.k (.int 1))) .nil)))) .nil) .nil) (.cons (.ife (.e (.cmp .eq (.rd (.v 3)) (.k (.int 5)))) (.cons (.ret (.tup (.cons (.k (.str "place")) (.cons (.bin .sub (.call 19 (.cons (.rd (.v 0)) (.cons (.k (.int 4)) .nil))) (.k (.int 1))) (.cons (.call 20 (.cons (.rd (.v 0)) (.cons (.k (.int 4)) .nil))) .nil))))) .nil) .nil) (.cons (.ret (.idx (.lst (.cons (.k .non) (.cons (.tup (.cons (.k (.str "late")) (.cons (.k (.int 0)) .nil))) .nil))) (.call 19 (.cons (.rd (.v 0)) (.cons (.k (.int 2)) .nil))))) .nil)))))))))
def d32 : DefI := { x := "_law_change", qual := "_law_change", N := ["_law_draws", "_law_parts_here", "_law_sizes", "_law_way"], ps := ["_law_draws", "_law_parts_here"], d := { np := 2, ns := 4, body := b32, io := [0, 1] } }
/-- law -/
def b33 : Ss := (.cons (.asg 1 (.call 18 (.cons (.mv 0) .nil))) (.cons (.asg 2 (.fz (.call 27 (.cons (.rd (.v 1)) (.cons (.k (.int 3)) .nil))))) (.cons (.asg 3 (.fz (.call 28 (.cons (.rd (.v 2)) .nil)))) (.cons (.asg 4 (.lc [5] (.n 5) (.rng (.call 19 (.cons (.rd (.v 1)) (.cons (.k (.int 4)) .nil)))) .yes (.call 32 (.cons (.rd (.v 1)) (.cons (.rd (.v 2)) .nil))))) (.cons (.fz 4) (.cons (.asg 6 (.k .non)) (.cons (.try (.cons (.asg 6 (.fz (.call 17 (.cons (.rd (.v 3)) (.cons (.rd (.v 4)) .nil))))) .nil) (.as 2 7 (.asg 6 (.xf 0)) .nil)) (.cons (.asg 8 (.rd (.v 2))) (.cons (.for (.n 5) (.rng (.bi .len (.cons (.rd (.v 4)) .nil))) (.cons (.asg 8 (.fz (.call 31 (.cons (.rd (.v 8)) (.cons (.rd (.x (.v 4) (.rd (.v 5)))) .nil))))) (.cons (.ife (.e (.isN (.rd (.v 8)))) (.cons (.ret (.cmp .eq (.rd (.v 6)) (.rd (.v 5)))) .nil) .nil) .nil))) (.cons (.ret (.and (.eqo (.rd (.v 6)) (.call 28 (.cons (.rd (.v 8)) .nil))) (.eqo (.rd (.v 3)) (.call 28 (.cons (.rd (.v 2)) .nil))))) .nil))))))))))
def d33 : DefI := { x := "law", qual := "law", N := ["_law_script", "_law_draws", "_law_parts_here", "_law_world", "_law_some", "_law_k", "_law_told", "e", "_law_rows"], ps := ["_law_script"], d := { np := 1, ns := 9, body := b33, io := [0] } }
end DT
namespace K07
open PySem L2 DE
def dfs : List (Option DfE) := [some ⟨("is_number", none), DT.d0, topS 11⟩,
  some ⟨("is_place", none), DT.d1, topS 12⟩,
  some ⟨("is_formed", none), DT.d2, topS 13⟩,
  some ⟨("is_need", none), DT.d3, topS 14⟩,
  some ⟨("are_formed", none), DT.d4, topS 15⟩,
  some ⟨("is_room_or_none", none), DT.d5, topS 16⟩,
  some ⟨("is_door", none), DT.d6, topS 17⟩,
  some ⟨("is_goal", none), DT.d7, topS 18⟩,
  some ⟨("is_rule", none), DT.d8, topS 19⟩,
  some ⟨("check_list", none), DT.d9, topS 20⟩,
  some ⟨("check_number", none), DT.d10, topS 21⟩,
  some ⟨("World", some "__init__"), DT.d11, inClass (topS 22) 0⟩,
  some ⟨("World", some "parts"), DT.d12, inClass (topS 22) 1⟩,
  some ⟨("World", some "__eq__"), DT.d13, inClass (topS 22) 2⟩,
  some ⟨("without", none), DT.d14, topS 25⟩,
  some ⟨("parts_behind", none), DT.d15, topS 26⟩,
  some ⟨("behind", none), DT.d16, topS 27⟩,
  some ⟨("changed", none), DT.d17, topS 28⟩,
  some ⟨("_law_begin", none), DT.d18, topS 30⟩,
  some ⟨("_law_draw", none), DT.d19, topS 31⟩,
  some ⟨("_law_place", none), DT.d20, topS 32⟩,
  some ⟨("_law_one", none), DT.d21, topS 33⟩,
  some ⟨("_law_several", none), DT.d22, topS 34⟩,
  some ⟨("_law_need", none), DT.d23, topS 35⟩,
  some ⟨("_law_goal", none), DT.d24, topS 36⟩,
  some ⟨("_law_rule", none), DT.d25, topS 37⟩,
  some ⟨("_law_door", none), DT.d26, topS 38⟩,
  some ⟨("_law_parts", none), DT.d27, topS 39⟩,
  some ⟨("_law_made", none), DT.d28, topS 40⟩,
  none,
  some ⟨("_law_without", none), DT.d30, topS 42⟩,
  some ⟨("_law_after", none), DT.d31, topS 43⟩,
  some ⟨("_law_change", none), DT.d32, topS 44⟩,
  some ⟨("law", none), DT.d33, topS 45⟩]
def cls : List (Option ClE) := [some ⟨"World", some 11, [("parts", 12), ("__eq__", 13)]⟩, none, none, none]
def xcs : List (Option XcE) := [some ⟨"WorldError", [], false, topS 1⟩, some ⟨"BadWorld", ["part", "index"], true, inClass (topS 2) 0⟩, some ⟨"BadChange", ["index"], true, inClass (topS 3) 0⟩, none, none, none, none, none, none, none]
def frees : List Str := ["all", "bool", "dict", "enumerate", "int", "isinstance", "len", "list", "range", "str", "tuple", "zip"]
def dicts : List (Str × List D × List D) := [("NEEDS", [(.str "held"), (.str "here"), (.str "gone"), (.str "at"), (.str "on"), (.str "off")], [(.str "t"), (.str "t"), (.str "t"), (.str "tr"), (.str "f"), (.str "f")]), ("EFFECTS", [(.str "hold"), (.str "lay"), (.str "lose"), (.str "put"), (.str "on"), (.str "off"), (.str "go")], [(.str "t"), (.str "t"), (.str "t"), (.str "tr"), (.str "f"), (.str "f"), (.str "r")]), ("WORDS", [(.str "door"), (.str "rule"), (.str "no door"), (.str "no rule"), (.str "hands"), (.str "place")], [(.int 2), (.int 2), (.int 2), (.int 2), (.int 2), (.int 3)])]
def dats : List (Str × D) := [("MOST_THINGS", (.int 3)), ("MOST_DOORS", (.int 8)), ("MOST_RULES", (.int 5)), ("MOST_PARTS", (.int 3))]
def lms : List LmE := [⟨34, 11, ["one"], ["rooms"], DT.e34⟩, ⟨35, 11, ["one"], ["sizes"], DT.e35⟩, ⟨36, 11, ["one"], ["sizes"], DT.e36⟩]
def R : PrI := { dfs := dfs, cls := cls, xcs := xcs, frees := frees, dicts := dicts, dats := dats, fl := ["doors", "flags", "goal", "hands", "rooms", "rules", "start", "things"], lms := lms, mks := [11], dc := "World", dx := "World", top := some 0, fuel := 1000000 }
end K07
end
section
set_option Elab.async false
set_option linter.all false
set_option maxRecDepth 100000
set_option maxHeartbeats 8000000
/-! K07S: what the defs of law k07 compute. -/
namespace DE
open PySem L2
structure Has7 (g : Pg) : Prop extends HasC g where
  f14 : g.df 14 = some DT.d14.d
  f15 : g.df 15 = some DT.d15.d
  f16 : g.df 16 = some DT.d16.d
  f17 : g.df 17 = some DT.d17.d
  s11 : g.sub 1 1 = true
  s22 : g.sub 2 2 = true
  x2 : g.xar 2 = 1
  f30 : g.df 30 = some DT.d30.d
  f31 : g.df 31 = some DT.d31.d
  f32 : g.df 32 = some DT.d32.d
  f33 : g.df 33 = some DT.d33.d
inductive Chg where
  | door (v : D) | rule (v : D) | noDoor (k : Int) | noRule (k : Int) | hands (k : Int) | place (k : Int) (v : D) | non | late
def Chg.d : Chg → D
  | .door v => .tup [.str "door", v]
  | .rule v => .tup [.str "rule", v]
  | .noDoor k => .tup [.str "no door", .int k]
  | .noRule k => .tup [.str "no rule", .int k]
  | .hands k => .tup [.str "hands", .int k]
  | .place k v => .tup [.str "place", .int k, v]
  | .non => .non
  | .late => .tup [.str "late", .int 0]
def Chg.Fine : Chg → Prop
  | .door v => fd v
  | .rule v => fd v
  | .place _ v => fd v
  | _ => True
def rem (xs : List D) (k : Int) : Option (List D) := if 0 ≤ k ∧ k < xs.length then some (xs.take k.toNat ++ xs.drop (k.toNat + 1)) else none
def Chg.app (P : PD) : Chg → Option PD
  | .door v => some { P with dr := P.dr ++ [v] }
  | .rule v => some { P with ru := P.ru ++ [v] }
  | .noDoor k => (rem P.dr k).map fun x => { P with dr := x }
  | .noRule k => (rem P.ru k).map fun x => { P with ru := x }
  | .hands k => some { P with ha := .int k }
  | .place k v => if 0 ≤ k ∧ k < P.th.length then some { P with th := P.th.set k.toNat v } else none
  | .non => none
  | .late => none
/-- the world behind a change -/
def Chg.res (P : PD) (c : Chg) : Option PD := (c.app P).bind fun Q => if Q.bad.isNone then some Q else none
def PD.argD (P : PD) : D := .tup [P.ro, .lst P.th, P.fl, P.ha, P.sa, .lst P.dr, .lst P.ru, P.go]
def optObj : Option PD → D
  | none => .non
  | some P => P.objD
def optArg : Option PD → D
  | none => .non
  | some P => P.argD
def optParts : Option PD → D
  | none => .non
  | some P => P.partsD
theorem rem_len {xs ys : List D} {k : Int} (h : rem xs k = some ys) : ys.length ≤ xs.length ∧ ∀ d ∈ ys, d ∈ xs := by
  unfold rem at h
  split at h
  · cases h
    refine ⟨by simp; omega, fun d hd => ?_⟩
    rcases List.mem_append.mp hd with z | z
    · exact List.mem_of_mem_take z
    · exact List.mem_of_mem_drop z
  · cases h
def PD.Few (P : PD) : Prop := P.th.length ≤ 50 ∧ P.dr.length ≤ 50 ∧ P.ru.length ≤ 50
theorem app_fine {P Q : PD} {c : Chg} (hP : P.Fine) (hf : P.Few) (hc : c.Fine) (h : c.app P = some Q) : Q.Fine := by
  obtain ⟨ft, fr, fu⟩ := hf
  cases c with
  | door v =>
    cases h
    refine { hP with dr := ⟨by simp; omega, fun d hd => ?_⟩ }
    rcases List.mem_append.mp hd with z | z
    · exact hP.dr.2 d z
    · rw [List.mem_singleton.mp z]
      exact hc
  | rule v =>
    cases h
    refine { hP with ru := ⟨by simp; omega, fun d hd => ?_⟩ }
    rcases List.mem_append.mp hd with z | z
    · exact hP.ru.2 d z
    · rw [List.mem_singleton.mp z]
      exact hc
  | noDoor k =>
    simp only [Chg.app, Option.map_eq_some_iff] at h
    obtain ⟨x, h1, rfl⟩ := h
    obtain ⟨l1, l2⟩ := rem_len h1
    exact { hP with dr := ⟨by simp only; omega, fun d hd => hP.dr.2 d (l2 d hd)⟩ }
  | noRule k =>
    simp only [Chg.app, Option.map_eq_some_iff] at h
    obtain ⟨x, h1, rfl⟩ := h
    obtain ⟨l1, l2⟩ := rem_len h1
    exact { hP with ru := ⟨by simp only; omega, fun d hd => hP.ru.2 d (l2 d hd)⟩ }
  | hands k =>
    cases h
    exact { hP with ha := ⟨rfl, Nat.zero_le _⟩ }
  | place k v =>
    simp only [Chg.app] at h
    split at h
    · cases h
      refine { hP with th := ⟨by simp; exact hP.th.1, fun d hd => ?_⟩ }
      rcases List.mem_or_eq_of_mem_set hd with z | rfl
      · exact hP.th.2 d z
      · exact hc
    · cases h
  | non => cases h
  | late => cases h
/-- a world: fine, and no part is wrong -/
structure PD.Good (P : PD) : Prop where
  f : P.Fine
  b : P.bad = none
theorem chkO_none {o : Option Int} {w : PySem.Str} {r : Option (PySem.Str × Int)} (h : chkO o w r = none) : o = none ∧ r = none := by
  cases o with
  | none => exact ⟨rfl, h⟩
  | some i => cases h
theorem chk_none {o : Bool} {w : PySem.Str} {r : Option (PySem.Str × Int)} (h : chk o w r = none) : o = true ∧ r = none := by
  cases o with
  | true => exact ⟨rfl, h⟩
  | false => cases h
theorem PD.Good.few {P : PD} (h : P.Good) : P.Few := by
  have b := h.b
  unfold PD.bad wBad at b
  obtain ⟨_, b⟩ := chk_none b
  obtain ⟨b1, b⟩ := chkO_none b
  obtain ⟨_, b⟩ := chk_none b
  obtain ⟨_, b⟩ := chk_none b
  obtain ⟨_, b⟩ := chk_none b
  obtain ⟨b2, b⟩ := chkO_none b
  obtain ⟨b3, b⟩ := chkO_none b
  obtain ⟨x, e1, l1, _⟩ := checkB_lst b1
  obtain ⟨y, e2, l2, _⟩ := checkB_lst b2
  obtain ⟨z, e3, l3, _⟩ := checkB_lst b3
  cases e1
  cases e2
  cases e3
  exact ⟨by omega, by omega, by omega⟩
theorem res_good {P Q : PD} {c : Chg} (hP : P.Good) (hc : c.Fine) (h : c.res P = some Q) : Q.Good := by
  unfold Chg.res at h
  simp only [Option.bind_eq_some_iff] at h
  obtain ⟨R, h1, h2⟩ := h
  split at h2
  · rename_i hb
    cases h2
    exact ⟨app_fine hP.f hP.few hc h1, by simpa using hb⟩
  · cases h2
section
variable {g : Pg}
theorem sp_without (h : Has7 g) (n : Nat) (xs : List D) (hl : xs.length ≤ 1000) (k : Int) : g.call (n + 2) 14 [.pu (.tup xs), .pu (.int k)] = .ok (.pu (match rem xs k with
    | some ys => .tup ys
    | none => .non)) [.pu (.tup xs), .pu (.int k)] := by
  have hB : xs.length ≤ big := by unfold big; omega
  have k0 := sp_number h.f0 n (.int k) 0 (xs.length - 1) rfl
  rw [call_df h.f14]
  by_cases q : 0 ≤ k ∧ k < xs.length
  · have e : numIn 0 (xs.length - 1) (.int k) = true := by simp [numIn]; omega
    rw [e] at k0
    obtain ⟨j, rfl⟩ := nat_of q.1
    have c1 := cut_to xs j
    have c2 := cut_from xs (j + 1)
    have hB2 : (xs.take j).length + (xs.drop (j + 1)).length ≤ big := by simp; omega
    simp at c2 hB2
    simp [DT.d14, DT.b14, hB, k0, c1, c2, rem, q, hB2]
  · have e : numIn 0 (xs.length - 1) (.int k) = false := by simp [numIn]; omega
    rw [e] at k0
    simp [DT.d14, DT.b14, hB, k0, rem, q]
theorem sp_lwithout (h : Has7 g) (n : Nat) (xs : List D) (hl : xs.length ≤ 1000) (k : Int) : g.call (n + 1) 30 [.pu (.lst xs), .pu (.int k)] = .ok (match rem xs k with
    | some ys => .lst (ys.map .pu)
    | none => .pu .non) [.pu (.lst xs), .pu (.int k)] := by
  have hB : xs.length ≤ big := by unfold big; omega
  rw [call_df h.f30]
  by_cases q1 : 0 ≤ k
  · obtain ⟨j, rfl⟩ := nat_of q1
    by_cases q2 : j < xs.length
    · have c1 := cut_to xs j
      have c2 := cut_from xs (j + 1)
      have hB2 : (xs.take j).length + (xs.drop (j + 1)).length ≤ big := by simp; omega
      simp at c2 hB2
      simp [DT.d30, DT.b30, hB, c1, c2, rem, q2, hB2, tyN, tyB]
    · simp [DT.d30, DT.b30, hB, rem, q2, tyN, tyB]
  · simp [DT.d30, DT.b30, hB, rem, q1, tyN, tyB]
/-- a change's parts -/
theorem sp_partsBehind (h : Has7 g) (n : Nat) {P : PD} (hP : P.Fine) (hf : P.Few) {c : Chg} (hc : c.Fine) (h1 : c ≠ .non) (h2 : c ≠ .late) : g.call (n + 3) 15 [.pu P.objD, .pu c.d] = .ok (.pu (optArg (c.app P))) [.pu P.objD, .pu c.d] := by
  have k := sp_wparts (P := P) h.toHasC (n + 1)
  have ho : ∀ m, P.objD = .obj 0 m [P.ro, .tup P.th, P.fl, P.ha, P.sa, .tup P.dr, .tup P.ru, P.go] ↔ m = wNames := fun m => ⟨fun e => by cases e; rfl, fun e => by rw [e] <;> rfl⟩
  obtain ⟨ft, fr, fu⟩ := hf
  have b1 : P.dr.length + 1 ≤ big := by unfold big; omega
  have b2 : P.ru.length + 1 ≤ big := by unfold big; omega
  rw [call_df h.f15]
  cases c with
  | door v => simp [DT.d15, DT.b15, h.mp, k, PD.tupD, asgT, asgTs, Chg.d, ixN, b1, tupE, Chg.app, optArg, PD.argD]
  | rule v => simp [DT.d15, DT.b15, h.mp, k, PD.tupD, asgT, asgTs, Chg.d, ixN, b2, tupE, Chg.app, optArg, PD.argD]
  | noDoor j =>
    have w := sp_without h n P.dr (by omega) j
    cases q : rem P.dr j with
    | none =>
      rw [q] at w
      simp [DT.d15, DT.b15, h.mp, k, PD.tupD, asgT, asgTs, Chg.d, ixN, b2, tupE, Chg.app, optArg, PD.argD, w, q]
    | some ys =>
      rw [q] at w
      simp [DT.d15, DT.b15, h.mp, k, PD.tupD, asgT, asgTs, Chg.d, ixN, b2, tupE, Chg.app, optArg, PD.argD, w, q]
  | noRule j =>
    have w := sp_without h n P.ru (by omega) j
    cases q : rem P.ru j with
    | none =>
      rw [q] at w
      simp [DT.d15, DT.b15, h.mp, k, PD.tupD, asgT, asgTs, Chg.d, ixN, b2, tupE, Chg.app, optArg, PD.argD, w, q]
    | some ys =>
      rw [q] at w
      simp [DT.d15, DT.b15, h.mp, k, PD.tupD, asgT, asgTs, Chg.d, ixN, b2, tupE, Chg.app, optArg, PD.argD, w, q]
  | hands j => simp [DT.d15, DT.b15, h.mp, k, PD.tupD, asgT, asgTs, Chg.d, ixN, b2, tupE, Chg.app, optArg, PD.argD]
  | place j v =>
    have k0 := sp_number h.f0 (n + 1) (.int j) 0 (P.th.length - 1) rfl
    have b3 : P.th.length ≤ big := by unfold big; omega
    by_cases q : 0 ≤ j ∧ j < P.th.length
    · have e : numIn 0 (P.th.length - 1) (.int j) = true := by simp [numIn]; omega
      rw [e] at k0
      obtain ⟨i, rfl⟩ := nat_of q.1
      have c1 := cut_to P.th i
      have c2 := cut_from P.th (i + 1)
      have hi : i < P.th.length := by omega
      have es : P.th.set i v = P.th.take i ++ v :: P.th.drop (i + 1) := List.set_eq_take_append_cons_drop.trans (by rw [if_pos hi])
      simp at c2
      have b4 : min i P.th.length + 1 ≤ big := by omega
      have b5 : min i P.th.length + 1 + (P.th.length - (i + 1)) ≤ big := by unfold big; omega
      simp [DT.d15, DT.b15, h.mp, k, PD.tupD, asgT, asgTs, Chg.d, ixN, b3, tupE, Chg.app, optArg, PD.argD, k0, c1, c2, hi, es, b4, b5]
    · have e : numIn 0 (P.th.length - 1) (.int j) = false := by simp [numIn]; omega
      rw [e] at k0
      simp [DT.d15, DT.b15, h.mp, k, PD.tupD, asgT, asgTs, Chg.d, ixN, b3, tupE, Chg.app, optArg, PD.argD, k0, q]
  | non => exact (h1 rfl).elim
  | late => exact (h2 rfl).elim
theorem sp_makesP (h : HasC g) (n : Nat) {P : PD} (hP : P.Fine) : g.call (n + 8) 11 (iA P.ro (.lst P.th) P.fl P.ha P.sa (.lst P.dr) (.lst P.ru) P.go) = match P.bad with
    | none => .ok (.pu .non) (P.objC :: [.pu P.ro, .pu (.lst P.th), .pu P.fl, .pu P.ha, .pu P.sa, .pu (.lst P.dr), .pu (.lst P.ru), .pu P.go])
    | some q => .exc ⟨1, [.str q.1, .int q.2]⟩ (iA P.ro (.lst P.th) P.fl P.ha P.sa (.lst P.dr) (.lst P.ru) P.go) := by
  have k := sp_init h n (ro := P.ro) (th := .lst P.th) (fl := P.fl) (ha := P.ha) (sa := P.sa) (dr := .lst P.dr) (ru := .lst P.ru) (go := P.go) hP.ro.1 (fine_lst' (by have := hP.th.1; omega) fun d hd => (hP.th.2 d hd).1) hP.fl.1 hP.ha.1 hP.sa.1
    (fine_lst' (by have := hP.dr.1; omega) fun d hd => (hP.dr.2 d hd).1) (fine_lst' (by have := hP.ru.1; omega) fun d hd => (hP.ru.2 d hd).1) hP.go.1
  rw [k]
  unfold PD.bad
  cases wBad P.ro (.lst P.th) P.fl P.ha P.sa (.lst P.dr) (.lst P.ru) P.go <;> rfl
theorem behind_end (h : Has7 g) (n : Nat) {P : PD} (hP : P.Good) {c : Chg} (hc : c.Fine) {x3 : C} :
    ∃ τ, exs (g.kx (n + 8)) (.cons (.asg 3 (.k .non)) (.cons (.ife (.e (.isntN (.rd (.v 2)))) (.cons (.try (.cons (.asg 3 (.fz (.makes 0 (.rd (.v 2))))) .nil) (.cons 1 (.asg 3 (.k .non)) .nil)) .nil) .nil) (.cons (.ret (.rd (.v 3))) .nil))) [.pu P.objD, .pu c.d, .pu (optArg (c.app P)), x3] = .ret (.pu (optObj (c.res P))) (.pu P.objD :: .pu c.d :: τ) := by
  cases e : c.app P with
  | none =>
    refine ⟨[.pu .non, .pu .non], ?_⟩
    simp [optArg, Chg.res, e, optObj]
  | some Q =>
    have k := sp_makesP h.toHasC n (app_fine hP.f hP.few hc e)
    cases q : Q.bad with
    | none =>
      rw [q] at k
      refine ⟨[.pu Q.argD, .pu Q.objD], ?_⟩
      simp [optArg, Chg.res, e, optObj, PD.argD, h.i0, mkOf, k, q]
    | some w =>
      rw [q] at k
      refine ⟨[.pu Q.argD, .pu .non], ?_⟩
      simp [optArg, Chg.res, e, optObj, PD.argD, h.i0, mkOf, k, q, h.s11]
theorem sp_behind (h : Has7 g) (n : Nat) {P : PD} (hP : P.Good) {c : Chg} (hc : c.Fine) : g.call (n + 9) 16 [.pu P.objD, .pu c.d] = .ok (.pu (optObj (c.res P))) [.pu P.objD, .pu c.d] := by
  rw [call_df h.f16]
  obtain ⟨τ, e⟩ := behind_end h n hP hc (x3 := .un)
  by_cases h1 : c = .non
  · subst h1
    simp [DT.d16, DT.b16, Chg.d, tyN, tyB, Chg.res, Chg.app, optObj]
  · by_cases h2 : c = .late
    · subst h2
      simp [DT.d16, DT.b16, Chg.d, tyN, tyB, Chg.res, Chg.app, optObj, ixN]
    · have k := sp_partsBehind h (n + 5) hP.f hP.few hc h1 h2
      have b2 : 2 ≤ big := by decide
      have b3 : 3 ≤ big := by decide
      have main : exs (g.kx (n + 8)) DT.b16 [.pu P.objD, .pu c.d, .un, .un] = exs (g.kx (n + 8)) (.cons (.asg 3 (.k .non)) (.cons (.ife (.e (.isntN (.rd (.v 2)))) (.cons (.try (.cons (.asg 3 (.fz (.makes 0 (.rd (.v 2))))) .nil) (.cons 1 (.asg 3 (.k .non)) .nil)) .nil) .nil) (.cons (.ret (.rd (.v 3))) .nil))) [.pu P.objD, .pu c.d, .pu (optArg (c.app P)), .un] := by
        unfold DT.b16
        rw [exs_nx (τ1 := [.pu P.objD, .pu c.d, .un, .un]) (by cases c <;> first | exact (h1 rfl).elim | exact (h2 rfl).elim | simp [Chg.d, tyN, tyB, ixN]) rfl]
        rw [exs_nx (τ1 := [.pu P.objD, .pu c.d, .un, .un]) (by cases c <;> first | exact (h1 rfl).elim | exact (h2 rfl).elim | simp [Chg.d, ixN, b2, b3]) rfl]
        rw [exs_nx (τ1 := [.pu P.objD, .pu c.d, .pu (optArg (c.app P)), .un]) (by simp [k]) rfl]
      rw [S_run]
      show (if _ then (match exs (g.kx (n + 8)) DT.b16 [.pu P.objD, .pu c.d, .un, .un] with
        | .nx τ => Res.ok (C.pu .non) (maskO _ τ)
        | .ret c τ => .ok c (maskO _ τ)
        | .exc x τ => .exc x (maskO _ τ)
        | _ => .stk) else .stk) = _
      rw [main, e]
      simp [DT.d16]
/-- all changes, one after the other: the first that cannot be made, or the world -/
def runC : PD → List Chg → Nat → Nat ⊕ PD
  | P, [], _ => .inr P
  | P, c :: cs, k => match c.res P with
    | none => .inl k
    | some Q => runC Q cs (k + 1)
theorem optObj_isN (o : Option PD) : isNone (.pu (optObj o)) = some o.isNone := by
  cases o <;> rfl
theorem changed_loop (h : Has7 g) (n : Nat) {x1 : C} : ∀ (cs : List Chg) (P : PD) (k : Nat) (x2 x3 : C), P.Good → (∀ c ∈ cs, c.Fine) → ∃ τ,
    forRun (g.kx (n + 9)) [.pu P.objD, x1, x2, x3] (.t (.cons (.n 2) (.cons (.n 3) .nil))) (.cons (.asg 0 (.fz (.call 16 (.cons (.rd (.v 0)) (.cons (.rd (.v 3)) .nil))))) (.cons (.ife (.e (.isN (.rd (.v 0)))) (.cons (.raise 2 (.cons (.rd (.v 2)) .nil)) .nil) .nil) .nil)) (enumOf (cs.map Chg.d) k) = match runC P cs k with
      | .inl i => .exc ⟨2, [.int i]⟩ (.pu .non :: x1 :: τ)
      | .inr Q => .nx (.pu Q.objD :: x1 :: τ)
  | [], P, k, x2, x3, _, _ => ⟨[x2, x3], rfl⟩
  | c :: cs, P, k, x2, x3, hP, hc => by
    have b := sp_behind h n hP (hc c List.mem_cons_self)
    rw [List.map_cons, enum_cons]
    cases e : c.res P with
    | none =>
      rw [e] at b
      refine ⟨[.pu (.int k), .pu c.d], ?_⟩
      simp [asgT, asgTs, b, optObj, runC, e, h.x2]
    | some Q =>
      rw [e] at b
      obtain ⟨τ, ih⟩ := changed_loop h n (x1 := x1) cs Q (k + 1) (.pu (.int k)) (.pu c.d) (res_good hP (hc c List.mem_cons_self) e) fun c hc' => hc c (List.mem_cons_of_mem _ hc')
      refine ⟨τ, ?_⟩
      have e2 := optObj_isN (some Q)
      simp [optObj] at e2
      simp [asgT, asgTs, b, optObj, runC, e, e2, ih]
theorem sp_changed (h : Has7 g) (n : Nat) {P : PD} (hP : P.Good) {cs : List Chg} (hc : ∀ c ∈ cs, c.Fine) : g.call (n + 10) 17 [.pu P.objD, .pu (.lst (cs.map Chg.d))] = match runC P cs 0 with
    | .inl i => .exc ⟨2, [.int i]⟩ [.pu P.objD, .pu (.lst (cs.map Chg.d))]
    | .inr Q => .ok (.pu Q.objD) [.pu P.objD, .pu (.lst (cs.map Chg.d))] := by
  obtain ⟨τ, e⟩ := changed_loop h n (x1 := .pu (.lst (cs.map Chg.d))) cs P 0 .un .un hP hc
  rw [call_df h.f17]
  cases q : runC P cs 0 with
  | inl i =>
    rw [q] at e
    simp [DT.d17, DT.b17, e]
  | inr Q =>
    rw [q] at e
    simp [DT.d17, DT.b17, e]
/-- the own parts behind a change: what stands in the slot found, before it is tried -/
abbrev fndC (P : PD) : C := .lst [.pu P.ro, .lst (P.th.map .pu), .pu P.fl, .pu P.ha, .pu P.sa, .lst (P.dr.map .pu), .lst (P.ru.map .pu), .pu P.go]
theorem after_end (h : Has7 g) (n : Nat) {Q : PD} (hQ : Q.Fine) {x0 x1 : C} : ∃ τ,
    exs (g.kx (n + 9)) (.cons (.asg 3 (.k (.bl true))) (.cons (.try (.cons (.fz 2) (.cons (.ex (.call 28 (.cons (.rd (.v 2)) .nil))) .nil)) (.cons 1 (.asg 3 (.k (.bl false))) .nil)) (.cons (.ife (.e (.rd (.v 3))) (.cons (.ret (.mv 2)) .nil) .nil) (.cons (.ret (.k .non)) .nil)))) [x0, x1, fndC Q, .un] = .ret (.pu (if Q.bad.isNone then Q.partsD else .non)) (x0 :: x1 :: τ) := by
  have k := sp_makeP h.toHasC n hQ
  have ef : fzs [.pu Q.ro, .lst (Q.th.map .pu), .pu Q.fl, .pu Q.ha, .pu Q.sa, .lst (Q.dr.map .pu), .lst (Q.ru.map .pu), .pu Q.go] = [Q.ro, .lst Q.th, Q.fl, Q.ha, Q.sa, .lst Q.dr, .lst Q.ru, Q.go] := by simp
  have efz : D.lst [Q.ro, .lst Q.th, Q.fl, Q.ha, Q.sa, .lst Q.dr, .lst Q.ru, Q.go] = Q.partsD := rfl
  cases q : Q.bad with
  | none =>
    rw [q] at k
    refine ⟨[.pu Q.partsD, .pu (.bl true)], ?_⟩
    simp [efz, k]
  | some w =>
    rw [q] at k
    refine ⟨[.pu Q.partsD, .pu (.bl false)], ?_⟩
    simp [efz, k, h.s11]
theorem sp_after (h : Has7 g) (n : Nat) {P : PD} (hP : P.Good) {c : Chg} (hc : c.Fine) : g.call (n + 10) 31 [.pu P.partsD, .pu c.d] = .ok (.pu (optParts (c.res P))) [.pu P.partsD, .pu c.d] := by
  obtain ⟨ft, fr, fu⟩ := hP.few
  have main : ∃ τ, exs (g.kx (n + 9)) DT.b31 [.pu P.partsD, .pu c.d, .un, .un] = .ret (.pu (optParts (c.res P))) (.pu P.partsD :: .pu c.d :: τ) := by
    unfold DT.b31
    have cutE : cut [P.ro, .lst P.th, P.fl, P.ha, P.sa, .lst P.dr, .lst P.ru, P.go] (some 2) (some 5) = [P.fl, P.ha, P.sa] := by simp [cut, sIx]
    have b8 : (2 : Nat) + 3 ≤ big := by decide
    have b9 : (5 : Nat) + 3 ≤ big := by decide
    have b5 : (5 : Nat) ≤ big := by decide
    have b0 : (8 : Nat) ≤ big := by decide
    rw [exs_nx (τ1 := [.pu P.partsD, .pu c.d, fndC P, .un]) (by simp [PD.partsD, lstE, ixN, cutE, b5, b0]) rfl]
    have b1 : P.dr.length < big := by unfold big; omega
    have b2 : P.ru.length < big := by unfold big; omega
    have b3 : P.th.length ≤ big := by unfold big; omega
    cases c with
    | door v =>
      have eq : Chg.app P (.door v) = some ({ P with dr := P.dr ++ [v] }) := by simp [Chg.app]
      obtain ⟨τ, e⟩ := after_end h n (app_fine hP.f hP.few hc eq) (x0 := .pu P.partsD) (x1 := .pu (Chg.d (.door v)))
      refine ⟨τ, ?_⟩
      refine exs_nx (τ1 := [.pu P.partsD, .pu (Chg.d (.door v)), fndC P, .un]) (by simp [PD.partsD, Chg.d, ixN]) ?_
      refine exs_nx (τ1 := [.pu P.partsD, .pu (Chg.d (.door v)), fndC ({ P with dr := P.dr ++ [v] }), .un]) (by simp [PD.partsD, Chg.d, ixN, b1, b2, b3]) ?_
      refine exs_nx (τ1 := [.pu P.partsD, .pu (Chg.d (.door v)), fndC ({ P with dr := P.dr ++ [v] }), .un]) (by simp [PD.partsD, Chg.d, ixN]) ?_
      refine exs_nx (τ1 := [.pu P.partsD, .pu (Chg.d (.door v)), fndC ({ P with dr := P.dr ++ [v] }), .un]) (by simp [PD.partsD, Chg.d, ixN]) ?_
      refine exs_nx (τ1 := [.pu P.partsD, .pu (Chg.d (.door v)), fndC ({ P with dr := P.dr ++ [v] }), .un]) (by simp [PD.partsD, Chg.d, ixN]) ?_
      refine exs_nx (τ1 := [.pu P.partsD, .pu (Chg.d (.door v)), fndC ({ P with dr := P.dr ++ [v] }), .un]) (by simp [PD.partsD, Chg.d, ixN]) ?_
      refine exs_nx (τ1 := [.pu P.partsD, .pu (Chg.d (.door v)), fndC ({ P with dr := P.dr ++ [v] }), .un]) (by simp [PD.partsD, Chg.d, ixN]) ?_
      refine exs_nx (τ1 := [.pu P.partsD, .pu (Chg.d (.door v)), fndC ({ P with dr := P.dr ++ [v] }), .un]) (by simp [PD.partsD, Chg.d, ixN, b1, b2, b3]) ?_
      rw [e]
      simp only [Chg.res, eq, Option.bind_some]
      split <;> rfl
    | rule v =>
      have eq : Chg.app P (.rule v) = some ({ P with ru := P.ru ++ [v] }) := by simp [Chg.app]
      obtain ⟨τ, e⟩ := after_end h n (app_fine hP.f hP.few hc eq) (x0 := .pu P.partsD) (x1 := .pu (Chg.d (.rule v)))
      refine ⟨τ, ?_⟩
      refine exs_nx (τ1 := [.pu P.partsD, .pu (Chg.d (.rule v)), fndC P, .un]) (by simp [PD.partsD, Chg.d, ixN]) ?_
      refine exs_nx (τ1 := [.pu P.partsD, .pu (Chg.d (.rule v)), fndC P, .un]) (by simp [PD.partsD, Chg.d, ixN]) ?_
      refine exs_nx (τ1 := [.pu P.partsD, .pu (Chg.d (.rule v)), fndC ({ P with ru := P.ru ++ [v] }), .un]) (by simp [PD.partsD, Chg.d, ixN, b1, b2, b3]) ?_
      refine exs_nx (τ1 := [.pu P.partsD, .pu (Chg.d (.rule v)), fndC ({ P with ru := P.ru ++ [v] }), .un]) (by simp [PD.partsD, Chg.d, ixN]) ?_
      refine exs_nx (τ1 := [.pu P.partsD, .pu (Chg.d (.rule v)), fndC ({ P with ru := P.ru ++ [v] }), .un]) (by simp [PD.partsD, Chg.d, ixN]) ?_
      refine exs_nx (τ1 := [.pu P.partsD, .pu (Chg.d (.rule v)), fndC ({ P with ru := P.ru ++ [v] }), .un]) (by simp [PD.partsD, Chg.d, ixN]) ?_
      refine exs_nx (τ1 := [.pu P.partsD, .pu (Chg.d (.rule v)), fndC ({ P with ru := P.ru ++ [v] }), .un]) (by simp [PD.partsD, Chg.d, ixN]) ?_
      refine exs_nx (τ1 := [.pu P.partsD, .pu (Chg.d (.rule v)), fndC ({ P with ru := P.ru ++ [v] }), .un]) (by simp [PD.partsD, Chg.d, ixN, b1, b2, b3]) ?_
      rw [e]
      simp only [Chg.res, eq, Option.bind_some]
      split <;> rfl
    | noDoor j =>
      have w := sp_lwithout h (n + 8) P.dr (by omega) j
      cases q : rem P.dr j with
      | none =>
        rw [q] at w
        refine ⟨[.lst [.pu P.ro, .lst (P.th.map .pu), .pu P.fl, .pu P.ha, .pu P.sa, .pu .non, .lst (P.ru.map .pu), .pu P.go], .un], ?_⟩
        have eq : Chg.app P (.noDoor j) = none := by simp [Chg.app, q]
        simp [PD.partsD, Chg.d, ixN, w, Chg.res, eq, optParts]
      | some ys =>
        rw [q] at w
        have eq : Chg.app P (.noDoor j) = some ({ P with dr := ys }) := by simp [Chg.app, q, w]
        obtain ⟨τ, e⟩ := after_end h n (app_fine hP.f hP.few hc eq) (x0 := .pu P.partsD) (x1 := .pu (Chg.d (.noDoor j)))
        refine ⟨τ, ?_⟩
        refine exs_nx (τ1 := [.pu P.partsD, .pu (Chg.d (.noDoor j)), fndC P, .un]) (by simp [PD.partsD, Chg.d, ixN]) ?_
        refine exs_nx (τ1 := [.pu P.partsD, .pu (Chg.d (.noDoor j)), fndC P, .un]) (by simp [PD.partsD, Chg.d, ixN]) ?_
        refine exs_nx (τ1 := [.pu P.partsD, .pu (Chg.d (.noDoor j)), fndC P, .un]) (by simp [PD.partsD, Chg.d, ixN]) ?_
        refine exs_nx (τ1 := [.pu P.partsD, .pu (Chg.d (.noDoor j)), fndC ({ P with dr := ys }), .un]) (by simp [PD.partsD, Chg.d, ixN, q, w, b1, b2, b3]) ?_
        refine exs_nx (τ1 := [.pu P.partsD, .pu (Chg.d (.noDoor j)), fndC ({ P with dr := ys }), .un]) (by simp [PD.partsD, Chg.d, ixN]) ?_
        refine exs_nx (τ1 := [.pu P.partsD, .pu (Chg.d (.noDoor j)), fndC ({ P with dr := ys }), .un]) (by simp [PD.partsD, Chg.d, ixN]) ?_
        refine exs_nx (τ1 := [.pu P.partsD, .pu (Chg.d (.noDoor j)), fndC ({ P with dr := ys }), .un]) (by simp [PD.partsD, Chg.d, ixN]) ?_
        refine exs_nx (τ1 := [.pu P.partsD, .pu (Chg.d (.noDoor j)), fndC ({ P with dr := ys }), .un]) (by simp [PD.partsD, Chg.d, ixN, q, w, b1, b2, b3]) ?_
        rw [e]
        simp only [Chg.res, eq, Option.bind_some]
        split <;> rfl
    | noRule j =>
      have w := sp_lwithout h (n + 8) P.ru (by omega) j
      cases q : rem P.ru j with
      | none =>
        rw [q] at w
        refine ⟨[.lst [.pu P.ro, .lst (P.th.map .pu), .pu P.fl, .pu P.ha, .pu P.sa, .lst (P.dr.map .pu), .pu .non, .pu P.go], .un], ?_⟩
        have eq : Chg.app P (.noRule j) = none := by simp [Chg.app, q]
        simp [PD.partsD, Chg.d, ixN, w, Chg.res, eq, optParts]
      | some ys =>
        rw [q] at w
        have eq : Chg.app P (.noRule j) = some ({ P with ru := ys }) := by simp [Chg.app, q, w]
        obtain ⟨τ, e⟩ := after_end h n (app_fine hP.f hP.few hc eq) (x0 := .pu P.partsD) (x1 := .pu (Chg.d (.noRule j)))
        refine ⟨τ, ?_⟩
        refine exs_nx (τ1 := [.pu P.partsD, .pu (Chg.d (.noRule j)), fndC P, .un]) (by simp [PD.partsD, Chg.d, ixN]) ?_
        refine exs_nx (τ1 := [.pu P.partsD, .pu (Chg.d (.noRule j)), fndC P, .un]) (by simp [PD.partsD, Chg.d, ixN]) ?_
        refine exs_nx (τ1 := [.pu P.partsD, .pu (Chg.d (.noRule j)), fndC P, .un]) (by simp [PD.partsD, Chg.d, ixN]) ?_
        refine exs_nx (τ1 := [.pu P.partsD, .pu (Chg.d (.noRule j)), fndC P, .un]) (by simp [PD.partsD, Chg.d, ixN]) ?_
        refine exs_nx (τ1 := [.pu P.partsD, .pu (Chg.d (.noRule j)), fndC ({ P with ru := ys }), .un]) (by simp [PD.partsD, Chg.d, ixN, q, w, b1, b2, b3]) ?_
        refine exs_nx (τ1 := [.pu P.partsD, .pu (Chg.d (.noRule j)), fndC ({ P with ru := ys }), .un]) (by simp [PD.partsD, Chg.d, ixN]) ?_
        refine exs_nx (τ1 := [.pu P.partsD, .pu (Chg.d (.noRule j)), fndC ({ P with ru := ys }), .un]) (by simp [PD.partsD, Chg.d, ixN]) ?_
        refine exs_nx (τ1 := [.pu P.partsD, .pu (Chg.d (.noRule j)), fndC ({ P with ru := ys }), .un]) (by simp [PD.partsD, Chg.d, ixN, q, w, b1, b2, b3]) ?_
        rw [e]
        simp only [Chg.res, eq, Option.bind_some]
        split <;> rfl
    | hands j =>
      have eq : Chg.app P (.hands j) = some ({ P with ha := .int j }) := by simp [Chg.app]
      obtain ⟨τ, e⟩ := after_end h n (app_fine hP.f hP.few hc eq) (x0 := .pu P.partsD) (x1 := .pu (Chg.d (.hands j)))
      refine ⟨τ, ?_⟩
      refine exs_nx (τ1 := [.pu P.partsD, .pu (Chg.d (.hands j)), fndC P, .un]) (by simp [PD.partsD, Chg.d, ixN]) ?_
      refine exs_nx (τ1 := [.pu P.partsD, .pu (Chg.d (.hands j)), fndC P, .un]) (by simp [PD.partsD, Chg.d, ixN]) ?_
      refine exs_nx (τ1 := [.pu P.partsD, .pu (Chg.d (.hands j)), fndC P, .un]) (by simp [PD.partsD, Chg.d, ixN]) ?_
      refine exs_nx (τ1 := [.pu P.partsD, .pu (Chg.d (.hands j)), fndC P, .un]) (by simp [PD.partsD, Chg.d, ixN]) ?_
      refine exs_nx (τ1 := [.pu P.partsD, .pu (Chg.d (.hands j)), fndC P, .un]) (by simp [PD.partsD, Chg.d, ixN]) ?_
      refine exs_nx (τ1 := [.pu P.partsD, .pu (Chg.d (.hands j)), fndC ({ P with ha := .int j }), .un]) (by simp [PD.partsD, Chg.d, ixN, b1, b2, b3]) ?_
      refine exs_nx (τ1 := [.pu P.partsD, .pu (Chg.d (.hands j)), fndC ({ P with ha := .int j }), .un]) (by simp [PD.partsD, Chg.d, ixN]) ?_
      refine exs_nx (τ1 := [.pu P.partsD, .pu (Chg.d (.hands j)), fndC ({ P with ha := .int j }), .un]) (by simp [PD.partsD, Chg.d, ixN, b1, b2, b3]) ?_
      rw [e]
      simp only [Chg.res, eq, Option.bind_some]
      split <;> rfl
    | place j v =>
      by_cases q : 0 ≤ j ∧ j < P.th.length
      · obtain ⟨i, rfl⟩ := nat_of q.1
        have hi : i < P.th.length := by omega
        have eq : Chg.app P (.place (i : Int) v) = some ({ P with th := P.th.set i v }) := by simp [Chg.app, hi, List.map_set]
        obtain ⟨τ, e⟩ := after_end h n (app_fine hP.f hP.few hc eq) (x0 := .pu P.partsD) (x1 := .pu (Chg.d (.place (i : Int) v)))
        refine ⟨τ, ?_⟩
        refine exs_nx (τ1 := [.pu P.partsD, .pu (Chg.d (.place (i : Int) v)), fndC P, .un]) (by simp [PD.partsD, Chg.d, ixN]) ?_
        refine exs_nx (τ1 := [.pu P.partsD, .pu (Chg.d (.place (i : Int) v)), fndC P, .un]) (by simp [PD.partsD, Chg.d, ixN]) ?_
        refine exs_nx (τ1 := [.pu P.partsD, .pu (Chg.d (.place (i : Int) v)), fndC P, .un]) (by simp [PD.partsD, Chg.d, ixN]) ?_
        refine exs_nx (τ1 := [.pu P.partsD, .pu (Chg.d (.place (i : Int) v)), fndC P, .un]) (by simp [PD.partsD, Chg.d, ixN]) ?_
        refine exs_nx (τ1 := [.pu P.partsD, .pu (Chg.d (.place (i : Int) v)), fndC P, .un]) (by simp [PD.partsD, Chg.d, ixN]) ?_
        refine exs_nx (τ1 := [.pu P.partsD, .pu (Chg.d (.place (i : Int) v)), fndC P, .un]) (by simp [PD.partsD, Chg.d, ixN]) ?_
        refine exs_nx (τ1 := [.pu P.partsD, .pu (Chg.d (.place (i : Int) v)), fndC ({ P with th := P.th.set i v }), .un]) (by simp [PD.partsD, Chg.d, ixN, hi, List.map_set, b1, b2, b3]) ?_
        refine exs_nx (τ1 := [.pu P.partsD, .pu (Chg.d (.place (i : Int) v)), fndC ({ P with th := P.th.set i v }), .un]) (by simp [PD.partsD, Chg.d, ixN, hi, List.map_set, b1, b2, b3]) ?_
        rw [e]
        simp only [Chg.res, eq, Option.bind_some]
        split <;> rfl
      · refine ⟨[fndC P, .un], ?_⟩
        have eq : Chg.app P (.place j v) = none := by simp only [Chg.app]; rw [if_neg q]
        by_cases q1 : 0 ≤ j
        · have q2 : ¬ (j < P.th.length) := fun z => q ⟨q1, z⟩
          simp [PD.partsD, Chg.d, ixN, Chg.res, eq, optParts, q1, q2, b3]
        · simp [PD.partsD, Chg.d, ixN, Chg.res, eq, optParts, q1, b3]
    | non => exact ⟨[fndC P, .un], by simp [Chg.d, Chg.res, Chg.app, optParts]⟩
    | late => exact ⟨[fndC P, .un], by simp [Chg.d, Chg.res, Chg.app, optParts, ixN]⟩
  obtain ⟨τ, e⟩ := main
  rw [call_df h.f31, S_run]
  show (if _ then (match exs (g.kx (n + 9)) DT.b31 [.pu P.partsD, .pu c.d, .un, .un] with
    | .nx τ => Res.ok (C.pu .non) (maskO _ τ)
    | .ret c τ => .ok c (maskO _ τ)
    | .exc x τ => .exc x (maskO _ τ)
    | _ => .stk) else .stk) = _
  rw [e]
  simp [DT.d31]
end
end DE
end
section
set_option Elab.async false
set_option linter.all false
set_option maxRecDepth 100000
set_option maxHeartbeats 8000000
/-! K07L: the law k07. -/
namespace DE
open PySem L2
section
variable {g : Pg}
theorem sp_change (h : Has7 g) (n : Nat) (d : Dr) {W : Wl} (hW : W.Ok) : ∃ (c : Chg) (d' : Dr), c.Fine ∧ g.call (n + 5) 32 [d.c, .pu W.partsD] = .ok (.pu c.d) [d'.c, .pu W.partsD] := by
  have r1 := hW.r1
  have r2 := hW.r2
  have t1 := hW.t1
  have f1 := hW.f1
  obtain ⟨w, d1, w1, w2, w3⟩ := sp_draw h.toHasC d 7 (by omega) (by omega)
  have w3 := w3 (n + 3)
  have hB : W.things.length ≤ big := by unfold big; omega
  have len : W.thD.length = W.things.length := by simp [Wl.thD]
  have ways : w = 0 ∨ w = 1 ∨ w = 2 ∨ w = 3 ∨ w = 4 ∨ w = 5 ∨ w = 6 := by omega
  rcases ways with q | q | q | q | q | q | q <;> subst q
  · obtain ⟨p, d2, p1, p2⟩ := sp_doorT h.toHasC n d1 W.rooms W.things.length W.flags (by omega) (by omega) (by omega) (by omega)
    obtain ⟨m, d3, m1, m2, m3⟩ := sp_draw h.toHasC d2 2 (by omega) (by omega)
    have m3 := m3 (n + 3)
    rcases i2_of m1 m2 with q | q <;> subst q
    · refine ⟨.door p.d, d3, p.fd, ?_⟩
      rw [call_df h.f32]
      simp [DT.d32, DT.b32, Wl.partsD, len, hB, w3, nD, p2, m3, idxE, Chg.d]
    · refine ⟨.door (.tup [.int 9, .int 0, .non]), d3, ⟨rfl, by decide +kernel⟩, ?_⟩
      rw [call_df h.f32]
      simp [DT.d32, DT.b32, Wl.partsD, len, hB, w3, nD, p2, m3, idxE, Chg.d]
  · obtain ⟨p, d2, p1, p2⟩ := sp_ruleT h.toHasC n d1 W.rooms W.things.length W.flags (by omega) (by omega) (by omega) (by omega)
    refine ⟨.rule p.d, d2, Rule.fd p1, ?_⟩
    rw [call_df h.f32]
    simp [DT.d32, DT.b32, Wl.partsD, len, hB, w3, nD, p2, idxE, Chg.d]
  · obtain ⟨m, d3, m1, m2, m3⟩ := sp_draw h.toHasC d1 9 (by omega) (by omega)
    have m3 := m3 (n + 3)
    refine ⟨.noDoor (m - 1), d3, trivial, ?_⟩
    rw [call_df h.f32]
    simp [DT.d32, DT.b32, Wl.partsD, len, hB, w3, nD, m3, idxE, Chg.d]
  · obtain ⟨m, d3, m1, m2, m3⟩ := sp_draw h.toHasC d1 4 (by omega) (by omega)
    have m3 := m3 (n + 3)
    refine ⟨.noRule (m - 1), d3, trivial, ?_⟩
    rw [call_df h.f32]
    simp [DT.d32, DT.b32, Wl.partsD, len, hB, w3, nD, m3, idxE, Chg.d]
  · obtain ⟨m, d3, m1, m2, m3⟩ := sp_draw h.toHasC d1 6 (by omega) (by omega)
    have m3 := m3 (n + 3)
    refine ⟨.hands (m - 1), d3, trivial, ?_⟩
    rw [call_df h.f32]
    simp [DT.d32, DT.b32, Wl.partsD, len, hB, w3, nD, m3, idxE, Chg.d]
  · obtain ⟨m, d3, m1, m2, m3⟩ := sp_draw h.toHasC d1 4 (by omega) (by omega)
    have m3 := m3 (n + 3)
    obtain ⟨p, d4, p1, p2⟩ := sp_placeT h.toHasC (n + 2) d3 4 (by omega) (by omega)
    refine ⟨.place (m - 1) p.d, d4, p.fd, ?_⟩
    simp at p2
    rw [call_df h.f32]
    simp [DT.d32, DT.b32, Wl.partsD, len, hB, w3, nD, m3, p2, idxE, Chg.d]
  · obtain ⟨m, d3, m1, m2, m3⟩ := sp_draw h.toHasC d1 2 (by omega) (by omega)
    have m3 := m3 (n + 3)
    rcases i2_of m1 m2 with q | q <;> subst q
    · refine ⟨.non, d3, trivial, ?_⟩
      rw [call_df h.f32]
      simp [DT.d32, DT.b32, Wl.partsD, len, hB, w3, nD, m3, idxE, Chg.d]
    · refine ⟨.late, d3, trivial, ?_⟩
      rw [call_df h.f32]
      simp [DT.d32, DT.b32, Wl.partsD, len, hB, w3, nD, m3, idxE, Chg.d]
abbrev lwT (x0 : C) (d : Dr) (parts obj : D) (chs x5 v6 x7 v8 : C) : Loc := [x0, d.c, .pu parts, .pu obj, chs, x5, v6, x7, v8]
theorem all_ex {α : Type} {Q : α → Prop} {f : α → D} : ∀ {vs : List D}, (∀ v ∈ vs, ∃ p, Q p ∧ v = f p) → ∃ ps : List α, vs = ps.map f ∧ ∀ p ∈ ps, Q p
  | [], _ => ⟨[], rfl, by simp⟩
  | v :: vs, h => by
    obtain ⟨p, h1, rfl⟩ := h v List.mem_cons_self
    obtain ⟨ps, rfl, h2⟩ := all_ex fun u hu => h u (List.mem_cons_of_mem _ hu)
    refine ⟨p :: ps, rfl, fun q hq => ?_⟩
    rcases List.mem_cons.mp hq with rfl | z
    · exact h1
    · exact h2 q z
theorem law_changes (h : Has7 g) (n : Nat) (d : Dr) {W : Wl} (hW : W.Ok) (m : Nat) (hm : m ≤ 3) (x0 : C) : ∃ (d' : Dr) (cs : List Chg), cs.length = m ∧ (∀ c ∈ cs, c.Fine) ∧
    lcRun (g.kx (n + 5)) (lwT x0 d W.partsD W.objD .un .un .un .un .un) [5] (.n 5) .yes (.call 32 (.cons (.rd (.v 1)) (.cons (.rd (.v 2)) .nil))) ((List.range m).map fun (k : Nat) => .int (k : Int)) = .ok (.fr (.lst ((cs.map Chg.d).map .pu))) (lwT x0 d' W.partsD W.objD .un .un .un .un .un) := by
  obtain ⟨xs, τ', e1, e2, e3, ⟨d', x, e4⟩, e5⟩ := lc_inv (κ := g.kx (n + 5)) (own := [5]) (tg := (.n 5)) (t := .yes) (e := (.call 32 (.cons (.rd (.v 1)) (.cons (.rd (.v 2)) .nil)))) (τ0 := lwT x0 d W.partsD W.objD .un .un .un .un .un)
    (fun τ => ∃ (d : Dr) (x : C), τ = lwT x0 d W.partsD W.objD .un x .un .un .un) (fun v => ∃ p : Chg, p.Fine ∧ v = p.d) (items := (List.range m).map fun (k : Nat) => .int (k : Int)) rfl (by simp; unfold big; omega) ⟨d, .un, rfl⟩ fun i hi τ hτ => by
      obtain ⟨d, x, rfl⟩ := hτ
      obtain ⟨p, d', p1, p2⟩ := sp_change h n d hW
      exact ⟨lwT x0 d W.partsD W.objD .un (.pu i) .un .un .un, lwT x0 d W.partsD W.objD .un (.pu i) .un .un .un, rfl, .inr ⟨S_Ty _ _, .pu p.d, p.d, lwT x0 d' W.partsD W.objD .un (.pu i) .un .un .un, by simp [p2], rfl, ⟨p, p1, rfl⟩, d', _, rfl⟩⟩
  obtain ⟨ps, rfl, e6⟩ := all_ex e3
  subst e4
  exact ⟨d', ps, by simpa using e5 fun τ τ2 => by simp, e6, e1⟩
def toldD : Nat ⊕ PD → D
  | .inl i => .int i
  | .inr Q => Q.objD
theorem law_loop (h : Has7 g) (n : Nat) (x0 : C) (d : Dr) {P : PD} (hP : P.Good) {cs : List Chg} (hc : ∀ c ∈ cs, c.Fine) (hl : cs.length ≤ 3) (obj : D) (x7 : C) :
    (∃ τ, forRun (g.kx (n + 10)) (lwT x0 d P.partsD obj (.pu (.lst (cs.map Chg.d))) .un (.pu (toldD (runC P cs 0))) x7 (.pu P.partsD)) (.n 5) (.cons (.asg 8 (.fz (.call 31 (.cons (.rd (.v 8)) (.cons (.rd (.x (.v 4) (.rd (.v 5)))) .nil))))) (.cons (.ife (.e (.isN (.rd (.v 8)))) (.cons (.ret (.cmp .eq (.rd (.v 6)) (.rd (.v 5)))) .nil) .nil) .nil)) ((List.range cs.length).map fun (k : Nat) => .int (k : Int)) = .ret (.pu (.bl true)) τ) ∨
    ∃ (Q : PD) (x5 : C), Q.Good ∧ runC P cs 0 = .inr Q ∧ forRun (g.kx (n + 10)) (lwT x0 d P.partsD obj (.pu (.lst (cs.map Chg.d))) .un (.pu (toldD (runC P cs 0))) x7 (.pu P.partsD)) (.n 5) (.cons (.asg 8 (.fz (.call 31 (.cons (.rd (.v 8)) (.cons (.rd (.x (.v 4) (.rd (.v 5)))) .nil))))) (.cons (.ife (.e (.isN (.rd (.v 8)))) (.cons (.ret (.cmp .eq (.rd (.v 6)) (.rd (.v 5)))) .nil) .nil) .nil)) ((List.range cs.length).map fun (k : Nat) => .int (k : Int)) = .nx (lwT x0 d P.partsD obj (.pu (.lst (cs.map Chg.d))) x5 (.pu Q.objD) x7 (.pu Q.partsD)) := by
  have main := for_end (κ := g.kx (n + 10)) (tg := (.n 5)) (b := (.cons (.asg 8 (.fz (.call 31 (.cons (.rd (.v 8)) (.cons (.rd (.x (.v 4) (.rd (.v 5)))) .nil))))) (.cons (.ife (.e (.isN (.rd (.v 8)))) (.cons (.ret (.cmp .eq (.rd (.v 6)) (.rd (.v 5)))) .nil) .nil) .nil)))
    (fun j τ => ∃ (Q : PD) (x5 : C), Q.Good ∧ runC P cs 0 = runC Q (cs.drop j) j ∧ τ = lwT x0 d P.partsD obj (.pu (.lst (cs.map Chg.d))) x5 (.pu (toldD (runC P cs 0))) x7 (.pu Q.partsD))
    (fun r => ∃ τ, r = .ret (.pu (.bl true)) τ) ((List.range cs.length).map fun (k : Nat) => .int (k : Int)) 0
    (lwT x0 d P.partsD obj (.pu (.lst (cs.map Chg.d))) .un (.pu (toldD (runC P cs 0))) x7 (.pu P.partsD)) ⟨P, .un, hP, rfl, rfl⟩ fun j hj τ hτ => by
      obtain ⟨Q, x5, hQ, hr, rfl⟩ := hτ
      rw [List.length_map, List.length_range] at hj
      rw [Nat.zero_add] at hr
      have hcj : cs[j].Fine := hc _ (List.getElem_mem hj)
      have a := sp_after h n hQ hcj
      have dr : cs.drop j = cs[j] :: cs.drop (j + 1) := List.drop_eq_getElem_cons hj
      rw [dr] at hr
      have hs : (cs.map Chg.d)[j]? = some (cs[j].d) := by simp [hj]
      refine ⟨lwT x0 d P.partsD obj (.pu (.lst (cs.map Chg.d))) (.pu (.int (j : Int))) (.pu (toldD (runC P cs 0))) x7 (.pu Q.partsD), by simp [asgT], ?_⟩
      cases e : cs[j].res Q with
      | none =>
        rw [e] at a
        have er : runC P cs 0 = .inl j := by rw [hr, runC, e]
        refine .inr (.inl ⟨.pu (.bl true), lwT x0 d P.partsD obj (.pu (.lst (cs.map Chg.d))) (.pu (.int (j : Int))) (.pu (.int (j : Int))) x7 (.pu .non), ?_, _, rfl⟩)
        rw [er]
        simp [hj, a, optParts, toldD]
      | some R =>
        rw [e] at a
        have nn : isNone (.pu R.partsD) = some false := rfl
        refine .inl ⟨lwT x0 d P.partsD obj (.pu (.lst (cs.map Chg.d))) (.pu (.int (j : Int))) (.pu (toldD (runC P cs 0))) x7 (.pu R.partsD), .inl ?_, R, _, res_good hQ hcj e, ?_, rfl⟩
        · simp [hj, a, optParts, nn]
        · rw [hr, runC, e, Nat.zero_add]
  rcases main with ⟨τ', e1, Q, x5, hQ, hr, rfl⟩ | ⟨c, τ2, e1, τ3, e2⟩ | ⟨x, τ2, e1, τ3, e2⟩
  · refine .inr ⟨Q, x5, hQ, ?_, ?_⟩
    · rw [hr]
      simp [runC]
    · rw [e1, hr]
      simp [runC, toldD]
  · exact .inl ⟨τ2, by rw [e1]; cases e2; rfl⟩
  · cases e2
theorem Wl.partsD_pd (W : Wl) : W.partsD = W.pd.partsD := rfl
theorem Wl.objD_pd (W : Wl) : W.objD = W.pd.objD := rfl
theorem says7 (h : Has7 g) (ns : List Int) (hn : ns.length ≤ 63) (c : C) (hc : c = .pu (.lst (ns.map .int)) ∨ c = .lst (ns.map fun z => .pu (.int z))) : ∃ os, g.call 40 33 [c] = .ok (.pu (.bl true)) os := by
  obtain ⟨d0, b0⟩ := sp_begin h.toHasC ns hn (.pu (.lst (ns.map .int))) (.inl rfl)
  obtain ⟨o, ho, b0⟩ := b0 38
  obtain ⟨W, d1, hW, _, p1⟩ := sp_parts h.toHasC 34 d0 3 (by omega)
  have m1 := sp_make (W := W) h.toHasC 30 hW
  obtain ⟨k, d2, k1, k2, k3⟩ := sp_draw h.toHasC d1 4 (by omega) (by omega)
  have k3 := k3 38
  obtain ⟨k, rfl⟩ := nat_of k1
  have rg : rngOf 0 (k : Int) = _ := rng0 (by omega) (by omega)
  simp only [Int.toNat_natCast] at rg
  have hG : W.pd.Good := ⟨hW.fine, Wl.pd_bad hW⟩
  have step0 : ∃ x0, ex (g.kx 39) (.asg 1 (.call 18 (.cons (.mv 0) .nil))) [c, .un, .un, .un, .un, .un, .un, .un, .un] = .nx [x0, d0.c, .un, .un, .un, .un, .un, .un, .un] := by
    rcases hc with rfl | rfl
    · exact ⟨.pu (.lst (ns.map .int)), by simp [b0, ho]⟩
    · have e : fzs (ns.map fun z => C.pu (.int z)) = ns.map D.int := S_fzsf D.int ns
      exact ⟨.un, by simp [e, b0, ho]⟩
  obtain ⟨x0, s0⟩ := step0
  obtain ⟨d3, cs, l1, l2, l3⟩ := law_changes h 34 d2 hW k (by omega) x0
  have ch := sp_changed h 29 hG l2
  have hB : cs.length ≤ big := by unfold big; omega
  have rg2 : rngOf 0 (cs.length : Int) = _ := rng0 (by omega) (by omega)
  simp only [Int.toNat_natCast] at rg2
  have body : ∃ τ, exs (g.kx 39) DT.b33 [c, .un, .un, .un, .un, .un, .un, .un, .un] = .ret (.pu (.bl true)) τ := by
    unfold DT.b33
    rw [exs_nx s0 rfl]
    rw [exs_nx (τ1 := lwT x0 d1 W.partsD .non .un .un .un .un .un |>.set 3 .un) (by simp at p1; simp [p1]) rfl]
    rw [exs_nx (τ1 := lwT x0 d1 W.partsD W.objD .un .un .un .un .un) (by simp [m1]) rfl]
    rw [exs_nx (τ1 := lwT x0 d3 W.partsD W.objD (.lst ((cs.map Chg.d).map .pu)) .un .un .un .un) (by simp [k3, rg, l3]) rfl]
    rw [exs_nx (τ1 := lwT x0 d3 W.partsD W.objD (.pu (.lst (cs.map Chg.d))) .un .un .un .un) (by simp) rfl]
    rw [exs_nx (τ1 := lwT x0 d3 W.partsD W.objD (.pu (.lst (cs.map Chg.d))) .un (.pu .non) .un .un) (by simp) rfl]
    rw [exs_nx (τ1 := lwT x0 d3 W.partsD W.objD (.pu (.lst (cs.map Chg.d))) .un (.pu (toldD (runC W.pd cs 0))) .un .un) (by
      rw [← Wl.objD_pd] at ch
      cases q : runC W.pd cs 0 with
      | inl i =>
        rw [q] at ch
        simp [ch, h.s22, toldD]
      | inr Q =>
        rw [q] at ch
        simp [ch, toldD]) rfl]
    rw [exs_nx (τ1 := lwT x0 d3 W.partsD W.objD (.pu (.lst (cs.map Chg.d))) .un (.pu (toldD (runC W.pd cs 0))) .un (.pu W.partsD)) (by simp) rfl]
    rcases law_loop h 29 x0 d3 hG l2 (by omega) W.objD .un with ⟨τ, e⟩ | ⟨Q, x5, hQ, hr, e⟩
    · refine ⟨τ, ?_⟩
      rw [← Wl.partsD_pd] at e
      exact exs_ret (by simp at e; simp [hB, rg2, e])
    · rw [← Wl.partsD_pd] at e
      rw [exs_nx (τ1 := lwT x0 d3 W.partsD W.objD (.pu (.lst (cs.map Chg.d))) x5 (.pu Q.objD) .un (.pu Q.partsD)) (by simp at e; simp [hB, rg2, e]) rfl]
      have m2 := sp_makeP h.toHasC 30 hQ.f
      rw [hQ.b] at m2
      have q1 := sp_weq h.toHasC 37 hQ.f hQ.f
      have q2 := sp_weq h.toHasC 37 hG.f hG.f
      rw [eqb_refl _ hQ.f.fine] at q1
      rw [eqb_refl _ hG.f.fine] at q2
      rw [← Wl.objD_pd] at q2
      have s1 : sameCls (.pu Q.objD) Q.objC = some 0 := rfl
      have s2 : sameCls (.pu W.objD) W.objC = some 0 := rfl
      refine ⟨lwT x0 d3 W.partsD W.objD (.pu (.lst (cs.map Chg.d))) x5 (.pu Q.objD) .un (.pu Q.partsD), exs_ret ?_⟩
      simp [m1, m2, s1, s2, h.me, blOnly, q1, q2]
  obtain ⟨τ, e⟩ := body
  refine ⟨maskO [c] τ, ?_⟩
  rw [show (40 : Nat) = 39 + 1 from rfl, call_df h.f33, S_run]
  show (if _ then (match exs (g.kx 39) DT.b33 [c, .un, .un, .un, .un, .un, .un, .un, .un] with
    | .nx τ => Res.ok (C.pu .non) (maskO _ τ)
    | .ret c τ => .ok c (maskO _ τ)
    | .exc x τ => .exc x (maskO _ τ)
    | _ => .stk) else .stk) = _
  rw [e]
  rcases hc with rfl | rfl <;> simp [DT.d33]
end
end DE
end
section
set_option Elab.async false
set_option linter.all false
set_option maxRecDepth 100000
set_option maxHeartbeats 0
namespace K07
open PySem PySem.Spec PyProof.Rows L2 DE
abbrev Rw : PySem.W.OpenRow := PySem.W.OpenLaw.row PySem.Challenge.rw_deadends_k07_changed_worlds
abbrev hk : PySem.W.Hook := He.hookX 6 R.fa R.fns R.tsL R.tf R.ex
def ob (s : PySem.W.SharedT) : He.AlX := He.obsX 6 R.fa R.fns R.tsL R.tf R.ex (HandSHeadRun.getT s)
theorem ob_eq (s : PySem.W.SharedT) : ob s = hk.obs s.abs := He.obsX_eq (HandSHeadRun.getT_eq s)
def lo0 : List Str := ["WorldError", "BadWorld", "BadChange", "MOST_THINGS", "MOST_DOORS", "MOST_RULES", "MOST_PARTS", "NEEDS", "EFFECTS", "is_number", "is_place", "is_formed", "is_need", "are_formed", "is_room_or_none"]
def lo1 : List Str := ["is_door", "is_goal", "is_rule", "check_list", "check_number", "World", "WORDS", "without", "parts_behind", "behind", "changed", "_law_begin", "_law_draw", "_law_place", "_law_one"]
def lo2 : List Str := ["_law_several", "_law_need", "_law_goal", "_law_rule", "_law_door", "_law_parts", "_law_made", "_law_commands", "_law_without", "_law_after", "_law_change"]
def lo : List Str := lo0 ++ lo1 ++ lo2
theorem runF (w : World) : HandSHeadRun.RunEq Rw (PySem.W.view Rw.prog [45]) hk ob 20000 lo (w.withFollow "special-get-raises" false) := by
  intro os
  kernel_rfl
theorem runT (w : World) : HandSHeadRun.RunEq Rw (PySem.W.view Rw.prog [45]) hk ob 20000 lo (w.withFollow "special-get-raises" true) := by
  intro os
  kernel_rfl
theorem run (w : World) : HandSHeadRun.RunEq Rw (PySem.W.view Rw.prog [45]) hk ob 20000 lo w := PySem.W.byRow2 "special-get-raises" runF runT w
theorem okR : R.ok = true := by decide +kernel
end K07
end
section
set_option Elab.async false
set_option linter.all false
set_option maxRecDepth 100000
set_option maxHeartbeats 8000000
namespace K07
open PySem L2 DE
theorem has : Has7 R.pg where
  f0 := rfl
  f1 := rfl
  f2 := rfl
  f3 := rfl
  f4 := rfl
  f5 := rfl
  f6 := rfl
  f7 := rfl
  f8 := rfl
  f9 := rfl
  f10 := rfl
  f11 := rfl
  f12 := rfl
  f13 := rfl
  f14 := rfl
  f15 := rfl
  f16 := rfl
  f17 := rfl
  f18 := rfl
  f19 := rfl
  f20 := rfl
  f21 := rfl
  f22 := rfl
  f23 := rfl
  f24 := rfl
  f25 := rfl
  f26 := rfl
  f27 := rfl
  f28 := rfl
  f30 := rfl
  f31 := rfl
  f32 := rfl
  f33 := rfl
  l34 := rfl
  l35 := rfl
  l36 := rfl
  x1 := rfl
  x2 := rfl
  i0 := rfl
  mp := by decide +kernel
  me := by decide +kernel
  s11 := by decide +kernel
  s22 := by decide +kernel
theorem says (ns : List Int) (h : ns.length ≤ 63) (_ : ∀ z ∈ ns, Builtin.Int.intBits z ≤ 1048576) : R.Says 40 33 ns := fun c hc => says7 has ns h c hc
end K07
end
section
set_option Elab.async false
set_option linter.all false
set_option maxRecDepth 100000
set_option maxHeartbeats 0
open PySem PySem.W PySem.Calls PyProof.Rows DE
theorem PySem.Challenge.cw_deadends_k07_changed_worlds_holds : PySem.Challenge.rw_deadends_k07_changed_worlds.Holds := by
  w_on; o_law
  refine HandSHeadRun.head_any (r := OpenLaw.row PySem.Challenge.rw_deadends_k07_changed_worlds) (q := view (OpenLaw.row PySem.Challenge.rw_deadends_k07_changed_worlds).prog [45]) (H := K07.hk) (ob := K07.ob) (M := 20000) (loose := K07.lo) (d := HandSHeadRun.topDef (OpenLaw.row PySem.Challenge.rw_deadends_k07_changed_worlds).prog 45) (kwd := []) K07.ob_eq
    (by kernel_rfl) (fun s => by kernel_rfl) K07.run (by kernel_rfl) (by kernel_rfl) (by kernel_rfl) (by rfl) (by first | assumption | decide +kernel) (by decide +kernel) ⟨rfl, rfl, rfl, rfl, rfl, by decide +kernel⟩ ?hw ?hc
  case hw => w_witness2
  case hc =>
    exact PrI.law_walk (R := K07.R) (f := 33) (n := 40) rfl (by kernel_rfl) K07.okR rfl (by decide +kernel) rfl ⟨rfl, by decide, by decide⟩ K07.says
end
