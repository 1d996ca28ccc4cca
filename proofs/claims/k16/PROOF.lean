import PyProof.Rows.All
import Wide.All
import OpenK.AllK
import Wide.FinOn
import HandS.ForMost
import HandS.ForExc
import HandS.Deep
import HandS.Wide
import HandS.IsInst
import HandS.Style
import HandS.TupAny
import HandS.TupMul
import HandS.FStr
import PyProof.Rows.SumAny
import HandS.WideBits
import PyProof.ReprRoads
import HandS.Property
import HandS.Zip
import KE.GoesEnum
import HandS.Conv
import KE.KStateDown
import HandS.Defaults
import HandS.Words
import HandS.Head0
import HandS.Head1
import HandS.Head2
import HandS.HeadEnd
import HandS.HeadHook1
import HandS.HeadHook2
import HandS.HeadNt
import PyProof.StrLawsRepr
import PyProof.Rows.RegStrFacts
import PyProof.Rows.SortStrRead
import PySem.Challenge.RW_levelhands_k16_whole_left_and_doable
set_option Elab.async false
set_option linter.all false
set_option maxRecDepth 100000
set_option maxHeartbeats 4000000
/-! Lv1: plain data, a small language over it, what its terms are worth. -/
namespace Lv
open PySem
/-- plain data; obj: an instance that stays as it is; ref: a cell of the store -/
inductive D where
  | non | bl (b : Bool) | int (i : Int) | str (x : Str)
  | tup (xs : List D) | lst (xs : List D) | dic (kvs : List (L2.Key × D))
  | obj (c : Nat) (fs : List D) | ref (n : Nat)
  /-- the script -/
  | scr (ns : List Int)
  deriving Inhabited
inductive Cell where
  | lst (xs : List D)
  | ins (c : Nat) (fs : List (Str × D))
  deriving Inhabited
abbrev Sto := List Cell
/-- an exception: its class by number, what it keeps -/
structure Xn where
  c : Nat
  v : D
inductive R (α : Type) where
  | ok (a : α) (s : Sto) | exc (x : Xn) (s : Sto) | stk
def R.bind {α β : Type} : R α → (α → Sto → R β) → R β
  | .ok a s, f => f a s
  | .exc x s, _ => .exc x s
  | .stk, _ => .stk
def R.noX {α : Type} : R α → R α
  | .exc _ _ => .stk
  | r => r
def lift {α : Type} (o : Option α) (s : Sto) : R α := match o with
  | some a => .ok a s
  | none => .stk
inductive Sl where
  | und | val (d : D) | own (xs : List D) | owd (kvs : List (L2.Key × D))
  deriving Inhabited
abbrev Env := List Sl
/-- targets of loops -/
inductive Tg where
  | name (i : Nat) | tup (ts : List Tg)
/-- built-in functions -/
inductive Bi where
  | len | int | str | repr | max | min | sum | abs | tuple | list | sorted | divmod | all | any | bool
  deriving DecidableEq
/-- built-in methods -/
inductive Mt where
  | join | split | get | index | items | lstrip
  deriving DecidableEq
inductive Ty where
  | int | bool | str | tuple | list | cls (c : Nat)
  deriving DecidableEq
mutual
inductive E where
  | non | bl (b : Bool) | int (i : Int) | str (x : Str)
  | var (i : Nat) | own (i : Nat) | cst (x : Str)
  | bin (o : Operator) (a b : E) | neg (a : E)
  | cmp (o : CmpOp) (a b : E) | chn (o1 o2 : CmpOp) (a b c : E)
  | one (a : E) | and (a b : E) | or (a b : E) | not (a : E)
  | ite (c a b : E)
  | idx (a i : E) | sl (a : E) (lo hi : Es)
  | tup (es : Es) | lst (es : Es) | cel (es : Es)
  | call (f : Nat) (es : Es) | callk (f : Nat) (es ks : Es) (pm : List Nat)
  | bi (b : Bi) (es : Es) | mth (m : Mt) (a : E) (es : Es)
  | isi (a : E) (t : Ty) | len (a : E)
  | lc (s : Src) (t : Tg) (cs : Es) (el : E) (own : List Nat)
  | fmt (a : E) | fs (es : Es)
  | att (a : E) (x : Str)
  | mk (c : Nat) (es : Es) | mkk (c : Nat) (es ks : Es) (pm : List Nat)
  | um (a : E) (m : Str) (es : Es)
  | rgt (a : E)
  | dic0 | dget (a k : E)
inductive Es where
  | nil | cons (a : E) (es : Es)
inductive Src where
  | seq (a : E) | rg1 (a : E) | rg2 (a b : E) | rg3 (a b c : E) | enum (a : E) | zip (a b : E) | rev (a : E)
end
def Es.len : Es → Nat
  | .nil => 0
  | .cons _ es => es.len + 1
/-- what an attribute of an instance is: its own, a property by its def's number -/
inductive Att where
  | fld | prop (f : Nat)
/-- the classes: how many, their instances' attributes, methods and maker by the defs' numbers, with how many parameters; constants -/
structure Gt where
  ncl : Nat
  att : Nat → Str → Option Att
  mth : Nat → Str → Option (Nat × Nat)
  ini : Nat → Option (Nat × Nat)
  cst : Str → Option D
/-! ### operators -/
def D.py : D → Option PyData
  | .non => some .none
  | .bl b => some (.bool b)
  | .int i => some (.int i)
  | .str x => some (.str x)
  | .tup xs => (pyL xs).map .tuple
  | .lst xs => (pyL xs).map .list
  | _ => none
where
  pyL : List D → Option (List PyData)
    | [] => some []
    | d :: ds => match d.py, pyL ds with
      | some p, some ps => some (p :: ps)
      | _, _ => none
def okL (n : Nat) : Bool := decide (n ≤ 16777216)
def dAdd : D → D → Option D
  | .int a, .int b => some (.int (a + b))
  | .str a, .str b => if okL (a.length + b.length) then some (.str (a ++ b)) else none
  | .lst a, .lst b => if okL (a.length + b.length) then some (.lst (a ++ b)) else none
  | .tup a, .tup b => if okL (a.length + b.length) then some (.tup (a ++ b)) else none
  | _, _ => none
def dMul : D → D → Option D
  | .int a, .int b => if a.natAbs.log2 + b.natAbs.log2 < 1000000 then some (.int (a * b)) else none
  | .lst a, .int k => if 0 ≤ k ∧ k < 100000 ∧ okL (a.length * k.toNat) then some (.lst (List.replicate k.toNat a).flatten) else none
  | .tup a, .int k => if -1000 ≤ k ∧ k ≤ 1000 ∧ a.length ≤ 1000 then some (.tup (List.replicate k.toNat a).flatten) else none
  | _, _ => none
def dSub : D → D → Option D
  | .int a, .int b => some (.int (a - b))
  | _, _ => none
def dDiv : D → D → Option D
  | .int a, .int b => if 0 < b ∧ b.natAbs.log2 < 9000 then some (.int (a / b)) else none
  | _, _ => none
def dMod : D → D → Option D
  | .int a, .int b => if 0 < b then some (.int (a % b)) else none
  | _, _ => none
def dPow : D → D → Option D
  | .int a, .int b => if 0 ≤ b ∧ b ≤ 1000000 ∧ a.natAbs < 2 ^ 64 then some (.int (a ^ b.toNat)) else none
  | _, _ => none
def dBin : Operator → D → D → Option D
  | .Add => dAdd
  | .Mult => dMul
  | .Sub => dSub
  | .FloorDiv => dDiv
  | .Mod => dMod
  | .Pow => dPow
  | _ => fun _ _ => none
/-- x += y, x -= y of ints -/
def dAug : Operator → D → D → Option D
  | .Add, .int a, .int b => some (.int (a + b))
  | .Sub, .int a, .int b => some (.int (a - b))
  | _, _, _ => none
def dTru : D → Option Bool
  | .non => some false
  | .bl b => some b
  | .int i => some (i != 0)
  | .str x => if okL x.length then some ((x.length : Int) != 0) else none
  | .tup xs => some (!xs.isEmpty)
  | .lst xs => some (!xs.isEmpty)
  | _ => none
def dEqD (a b : D) : Option Bool := match a.py, b.py with
  | some p, some q => if SeqAt.shaped p && SeqAt.shaped q then some (PyData.eqv p q) else none
  | _, _ => none
def dEq : D → D → Option Bool
  | .str a, .str b => some (a.cps.toList == b.cps.toList)
  | a, b => dEqD a b
def dIn : D → D → Option Bool
  | x, .lst ds => match x.py, (D.lst ds).py with
    | some p, some (.list qs) => if SeqAt.shaped p && SeqAt.shaped (.list qs) then some (qs.any fun z => PyData.eqv z p) else none
    | _, _ => none
  | .str x, .str z => match x.cps.toList with
    | [c] => some (decide (c ∈ z.cps.toList))
    | _ => none
  | _, _ => none
def D.isN : D → Bool
  | .non => true
  | _ => false
def dCmp : CmpOp → D → D → Option Bool
  | .Lt, .int a, .int b => some (decide (a < b))
  | .LtE, .int a, .int b => some (decide (a ≤ b))
  | .Gt, .int a, .int b => some (decide (b < a))
  | .GtE, .int a, .int b => some (decide (b ≤ a))
  | .Eq, a, b => dEq a b
  | .NotEq, a, b => (dEq a b).map (!·)
  | .Is, .bl a, .bl b => some (decide (a = b))
  | .IsNot, .bl a, .bl b => some (!decide (a = b))
  | .Is, a, .non => some a.isN
  | .IsNot, a, .non => some (!a.isN)
  | .In, a, b => dIn a b
  | .NotIn, a, b => (dIn a b).map (!·)
  | _, _, _ => none
def dIdx : D → D → Option D
  | .lst xs, .int i => L2.atI xs i
  | .tup xs, .int i => L2.atI xs i
  | .scr ns, .int i => (L2.atI ns i).map .int
  | .str z, .int i => if okL z.length then (L2.atI z.cps.toList i).map fun c => .str ⟨#[c]⟩ else none
  | _, _ => none
def dIdxS (s : Sto) (x y : D) : Option D := match x, y with
  | .ref n, .int i => (match s[n]? with
    | some (.lst xs) => L2.atI xs i
    | _ => none)
  | _, _ => dIdx x y
def cutD (xs : List D) (lo hi : Option Int) : List D :=
  (xs.drop (HT.sIx xs.length 0 lo)).take (HT.sIx xs.length xs.length hi - HT.sIx xs.length 0 lo)
def dSl : D → Option Int → Option Int → Option D
  | .lst xs, lo, hi => some (.lst (cutD xs lo hi))
  | .tup xs, lo, hi => some (.tup (cutD xs lo hi))
  | .scr ns, lo, hi => some (.lst (cutD (ns.map .int) lo hi))
  | .str z, lo, hi => if okL z.length then some (.str (L2.cutS z lo hi)) else none
  | _, _, _ => none
def dInts : List D → Option (List Int)
  | [] => some []
  | .int i :: ds => (dInts ds).map (i :: ·)
  | _ => none
def dBools : List D → Option (List Bool)
  | [] => some []
  | .bl b :: ds => (dBools ds).map (b :: ·)
  | _ => none
def dStrs : List D → Option (List Str)
  | [] => some []
  | .str x :: ds => (dStrs ds).map (x :: ·)
  | _ => none
def maxI : List Int → Option Int
  | [] => none
  | a :: l => some (l.foldl (fun m x => if m < x then x else m) a)
def minI : List Int → Option Int
  | [] => none
  | a :: l => some (l.foldl (fun m x => if x < m then x else m) a)
def dRepr (d : D) : Option D := match d.py with
  | some p => if p.showable && okL p.shown.length && decide (p.depth ≤ 64) then some (.str p.shown) else none
  | none => none
def dBi : Bi → List D → Option D
  | .len, [.lst xs] => some (.int xs.length)
  | .len, [.tup xs] => some (.int xs.length)
  | .len, [.scr xs] => some (.int xs.length)
  | .len, [.str x] => if okL x.length then some (.int x.length) else none
  | .int, [.int i] => some (.int i)
  | .int, [.bl b] => some (.int (if b then 1 else 0))
  | .int, [.str x] => match PySem.intText? x with
    | some n => if x.length ≤ 640 then some (.int n) else none
    | none => none
  | .str, [.int i] => if i.natAbs.log2 < 1920 then some (.str (toString i)) else none
  | .repr, [d] => dRepr d
  | .max, [.int a, .int b] => some (.int (if b > a then b else a))
  | .min, [.int a, .int b] => some (.int (if b < a then b else a))
  | .max, [.lst xs] => match dInts xs with
    | some ns => (maxI ns).map .int
    | none => none
  | .min, [.lst xs] => match dInts xs with
    | some ns => (minI ns).map .int
    | none => none
  | .sum, [.lst xs] => (dInts xs).map fun ns => .int ns.sum
  | .sum, [.tup xs] => (dInts xs).map fun ns => .int ns.sum
  | .abs, [.int i] => some (.int (if i < 0 then -i else i))
  | .tuple, [.lst xs] => some (.tup xs)
  | .tuple, [.tup xs] => some (.tup xs)
  | .list, [.lst xs] => some (.lst xs)
  | .list, [.tup xs] => some (.lst xs)
  | .divmod, [.int a, .int b] => if 0 < b ∧ b.natAbs.log2 < 9000 then some (.tup [.int (a / b), .int (a % b)]) else none
  | .all, [.lst xs] => (dBools xs).map fun bs => .bl (bs.all id)
  | .any, [.lst xs] => (dBools xs).map fun bs => .bl (bs.any id)
  | .bool, [.int i] => some (.bl (i != 0))
  | .bool, [.bl b] => some (.bl b)
  | _, _ => none
def dJoin : D → List D → Option D
  | .str a, [.lst xs] => match dStrs xs with
    | some ys => if (ys.map (·.length)).sum + ys.length * a.length ≤ 16777216 then some (.str (Txt.join a ys)) else none
    | none => none
  | _, _ => none
def dSplit : D → List D → Option D
  | .str a, [.str b] => if b.length == 0 || !(okL (a.length + 2)) then none else some (.lst ((Txt.split a b).map .str))
  | _, _ => none
def dMt : Mt → D → List D → Option D
  | .join => dJoin
  | .split => dSplit
  | _ => fun _ _ => none
/-- whose method it is -/
def recv : Mt → D → Bool
  | .join, .str _ => true
  | .split, .str _ => true
  | _, _ => false
/-- types by names -/
def tyNm : Ty → String
  | .int => "int"
  | .bool => "bool"
  | .str => "str"
  | .tuple => "tuple"
  | .list => "list"
  | .cls _ => ""
def nmOf : D → Option String
  | .non => some "NoneType"
  | .bl _ => some "bool"
  | .int _ => some "int"
  | .str _ => some "str"
  | .tup _ => some "tuple"
  | .lst _ => some "list"
  | .scr _ => some "list"
  | .dic _ => some "dict"
  | _ => none
def subT (n : String) (t : Ty) : Bool := match t with
  | .cls _ => false
  | t => n == tyNm t || (n == "bool" && t == .int)
def tyOk (n : Nat) : Ty → Bool
  | .cls c => decide (c < n)
  | _ => true
def dIsi (n : Nat) (t : Ty) (s : Sto) (d : D) : Option Bool := if tyOk n t then (match d with
  | .ref k => (match s[k]? with
    | some (.lst _) => some (subT "list" t)
    | some (.ins c _) => if c < n then some (decide (t = .cls c)) else none
    | none => none)
  | d => (nmOf d).map (subT · t)) else none
/-- an instance of the store -/
def insOf (s : Sto) : D → Option (Nat × Nat × List (Str × D))
  | .ref n => match s[n]? with
    | some (.ins c fs) => some (n, c, fs)
    | _ => none
  | _ => none
def putD (f : Str) (v : D) : List (Str × D) → List (Str × D)
  | [] => [(f, v)]
  | (g, x) :: r => if g = f then (g, v) :: r else (g, x) :: putD f v r
def dFmt : D → Option D
  | .str y => if okL y.length then some (.str y) else none
  | .int i => if i.natAbs.log2 < 1920 then some (.str (toString i)) else none
  | _ => none
/-! ### what is walked -/
def rangeD (lo : Int) (n : Nat) (c : Int) : List D := (List.range n).map fun i => .int (lo + (i : Nat) * c)
def ok62 (i : Int) : Bool := decide (-(2 ^ 62) ≤ i ∧ i < 2 ^ 62)
def dZip : List D → List D → List D
  | a :: as, b :: bs => .tup [a, b] :: dZip as bs
  | _, _ => []
/-- a list's, a tuple's items -/
def seqD : D → Option (List D)
  | .lst xs => some xs
  | .tup xs => some xs
  | _ => none
def dEnum : Nat → List D → List D
  | _, [] => []
  | i, a :: as => .tup [.int i, a] :: dEnum (i + 1) as
def dItems : D → Option (List D)
  | .lst xs => some xs
  | .tup xs => some xs
  | .scr ns => some (ns.map .int)
  | .str z => some (z.cps.toList.map fun c => .str ⟨#[c]⟩)
  | _ => none
/-! ### targets -/
mutual
def bindT : Tg → D → Env → Option Env
  | .name i, d, env => if i < env.length then some (env.set i (.val d)) else none
  | .tup ts, d, env => match d with
    | .tup ds => bindTs ts ds env
    | _ => none
def bindTs : List Tg → List D → Env → Option Env
  | [], [], env => some env
  | t :: ts, d :: ds, env => match bindT t d env with
    | some env' => bindTs ts ds env'
    | none => none
  | _, _, _ => none
end
def wipeE (env : Env) : List Nat → Env
  | [] => env
  | v :: vs => (wipeE env vs).set v .und
def consO : Option D → List D → List D
  | some y, r => y :: r
  | none, r => r
/-- a comprehension's turns -/
def lcGo (f : D → Sto → R (Option D)) : List D → Sto → R (List D)
  | [], s => .ok [] s
  | d :: ds, s => (f d s).bind fun o s1 => (lcGo f ds s1).bind fun r s2 => .ok (consO o r) s2
def kOf : D → Option L2.Key
  | .int i => some (.inl i)
  | .str x => some (.inr x)
  | _ => none
/-- what a dict holds at a key -/
def dGet {α : Type} (kvs : List (L2.Key × α)) (k : L2.Key) : Option α := (kvs.find? fun kv => decide (kv.1 = k)).map (·.2)
/-- in its place, or at the end -/
def dPut {α : Type} (kvs : List (L2.Key × α)) (k : L2.Key) (v : α) : List (L2.Key × α) :=
  if (kvs.any fun kv => decide (kv.1 = k)) = true then kvs.map (fun kv => if kv.1 = k then (kv.1, v) else kv) else kvs ++ [(k, v)]
def dDget : D → D → Option D
  | .dic kvs, y => (kOf y).bind (dGet kvs)
  | _, _ => none
def optI : List D → Option (Option Int)
  | [] => some none
  | [.int i] => some (some i)
  | _ => none
def perm (pm : List Nat) (ds ks : List D) : List D := ds ++ pm.map fun k => ks.getD k .non
/-- len of an instance -/
def lenK (G : Gt) (call : Nat → List D → Sto → R D) (d : D) (s : Sto) : R D := match insOf s d with
  | some (_, c, _) => (match G.mth c "__len__" with
    | some (f, n) => if n = 1 then ((call f [d] s).noX).bind fun r s2 => (match r with
      | .int k => if 0 ≤ k ∧ k < 2 ^ 63 then .ok (.int k) s2 else .stk
      | _ => .stk) else .stk
    | none => .stk)
  | none => .stk
section
variable (G : Gt) (call : Nat → List D → Sto → R D) (mk : Nat → List D → Sto → R D)
mutual
def ev : E → Env → Sto → R D
  | .non, _, s => .ok .non s
  | .bl b, _, s => .ok (.bl b) s
  | .int i, _, s => .ok (.int i) s
  | .str x, _, s => .ok (.str x) s
  | .var i, env, s => match env[i]? with
    | some (.val d) => .ok d s
    | _ => .stk
  | .own i, env, s => match env[i]? with
    | some (.own xs) => .ok (.lst xs) s
    | some (.owd kvs) => .ok (.dic kvs) s
    | _ => .stk
  | .cst x, _, s => lift (G.cst x) s
  | .bin o a b, env, s => (ev a env s).bind fun x s1 => (ev b env s1).bind fun y s2 => lift (dBin o x y) s2
  | .neg a, env, s => (ev a env s).bind fun x s1 => match x with
    | .int i => .ok (.int (-i)) s1
    | _ => .stk
  | .cmp o a b, env, s => (ev a env s).bind fun x s1 => (ev b env s1).bind fun y s2 => lift ((dCmp o x y).map .bl) s2
  | .chn o1 o2 a b c, env, s => (ev a env s).bind fun x s1 => (ev b env s1).bind fun y s2 => match dCmp o1 x y with
    | some true => (ev c env s2).bind fun z s3 => lift ((dCmp o2 y z).map .bl) s3
    | some false => .ok (.bl false) s2
    | none => .stk
  | .one a, env, s => ev a env s
  | .and a b, env, s => (ev a env s).bind fun x s1 => match x with
    | .bl true => ev b env s1
    | .bl false => .ok (.bl false) s1
    | _ => .stk
  | .or a b, env, s => (ev a env s).bind fun x s1 => match x with
    | .bl true => .ok (.bl true) s1
    | .bl false => ev b env s1
    | _ => .stk
  | .not a, env, s => (ev a env s).bind fun x s1 => match x with
    | .bl b => .ok (.bl (!b)) s1
    | _ => .stk
  | .ite c a b, env, s => (ev c env s).bind fun x s1 => match dTru x with
    | some true => ev a env s1
    | some false => ev b env s1
    | none => .stk
  | .idx a i, env, s => (ev a env s).bind fun x s1 => (ev i env s1).bind fun y s2 => lift (dIdxS s2 x y) s2
  | .sl a lo hi, env, s => (ev a env s).bind fun x s1 => ((evs lo env s1).bind fun l s2 => lift (optI l) s2).bind fun l' s2 =>
      ((evs hi env s2).bind fun h s3 => lift (optI h) s3).bind fun h' s3 => lift (dSl x l' h') s3
  | .tup es, env, s => (evs es env s).bind fun ds s1 => .ok (.tup ds) s1
  | .lst es, env, s => (evs es env s).bind fun ds s1 => .ok (.lst ds) s1
  | .cel es, env, s => (evs es env s).bind fun ds s1 => .ok (.ref s1.length) (s1 ++ [.lst ds])
  | .call f es, env, s => (evs es env s).bind fun ds s1 => call f ds s1
  | .callk f es ks pm, env, s => (evs es env s).bind fun ds s1 => (evs ks env s1).bind fun zs s2 => call f (perm pm ds zs) s2
  | .bi b es, env, s => (evs es env s).bind fun ds s1 => lift (dBi b ds) s1
  | .mth m a es, env, s => (ev a env s).bind fun x s1 => if recv m x then (evs es env s1).bind fun ds s2 => lift (dMt m x ds) s2 else .stk
  | .isi a t, env, s => (ev a env s).bind fun x s1 => lift ((dIsi G.ncl t s1 x).map .bl) s1
  | .len a, env, s => (ev a env s).bind fun d s1 => lenK G call d s1
  | .lc src t cs el own, env, s => (evSrc src env s).bind fun ds s1 => if okL ds.length then ((lcGo (fun d s2 => match bindT t d (wipeE env own) with
    | none => .stk
    | some env' => (evTs cs env' s2).bind fun b s3 => if b then (ev el env' s3).bind fun y s4 => .ok (some y) s4 else .ok none s3) ds s1).noX).bind fun ys s5 => .ok (.lst ys) s5 else .stk
  | .fmt a, env, s => (ev a env s).bind fun x s1 => lift (dFmt x) s1
  | .fs es, env, s => evFs es Str.empty env s
  | .att a x, env, s => (ev a env s).bind fun d s1 => match insOf s1 d with
    | some (_, c, fs) => (match G.att c x with
      | some .fld => lift (fs.lookup x) s1
      | some (.prop f) => (call f [d] s1).noX
      | none => .stk)
    | none => .stk
  | .mk c es, env, s => (evs es env s).bind fun ds s1 => mk c ds s1
  | .mkk c es ks pm, env, s => (evs es env s).bind fun ds s1 => (evs ks env s1).bind fun zs s2 => mk c (perm pm ds zs) s2
  | .um a m es, env, s => (ev a env s).bind fun d s1 => match insOf s1 d with
    | some (_, c, fs) => (match G.mth c m, fs.lookup m with
      | some (f, n), none => (evs es env s1).bind fun ds s2 => if ds.length + 1 = n then call f (d :: ds) s2 else .stk
      | _, _ => .stk)
    | none => .stk
  | .dic0, _, s => .ok (.dic []) s
  | .dget a k, env, s => (ev a env s).bind fun x s1 => (ev k env s1).bind fun y s2 => lift (dDget x y) s2
  | .rgt a, env, s => (ev a env s).bind fun x s1 => match x with
    | .int j => if 0 ≤ j ∧ j ≤ 16777216 then .ok (.tup (rangeD 0 j.toNat 1)) s1 else .stk
    | _ => .stk
/-- parts of an f-string, each an int or a text -/
def evs : Es → Env → Sto → R (List D)
  | .nil, _, s => .ok [] s
  | .cons a es, env, s => (ev a env s).bind fun d s1 => (evs es env s1).bind fun ds s2 => .ok (d :: ds) s2
/-- the parts of an f-string put together -/
def evFs : Es → Str → Env → Sto → R D
  | .nil, acc, _, s => .ok (.str acc) s
  | .cons a es, acc, env, s => (ev a env s).bind fun d s1 => match d with
    | .str y => if okL (acc ++ y).length then evFs es (acc ++ y) env s1 else .stk
    | _ => .stk
/-- tests of a comprehension: none or one -/
def evTs : Es → Env → Sto → R Bool
  | .nil, _, s => .ok true s
  | .cons a .nil, env, s => (ev a env s).bind fun x s1 => lift (dTru x) s1
  | _, _, _ => .stk
def evSrc : Src → Env → Sto → R (List D)
  | .seq a, env, s => (ev a env s).bind fun x s1 => lift (dItems x) s1
  | .rg1 a, env, s => (ev a env s).bind fun x s1 => match x with
    | .int j => if ok62 j then .ok (rangeD 0 j.toNat 1) s1 else .stk
    | _ => .stk
  | .rg2 a b, env, s => (ev a env s).bind fun x s1 => (ev b env s1).bind fun y s2 => match x, y with
    | .int i, .int j => if ok62 i && ok62 j then .ok (rangeD i (j - i).toNat 1) s2 else .stk
    | _, _ => .stk
  | .rg3 a b d, env, s => (ev a env s).bind fun x s1 => (ev b env s1).bind fun y s2 => (ev d env s2).bind fun z s3 => match x, y, z with
    | .int i, .int j, .int c => if c = -1 ∧ ok62 i = true ∧ ok62 j = true then .ok (rangeD i (i - j).toNat (-1)) s3 else .stk
    | _, _, _ => .stk
  | .enum a, env, s => (ev a env s).bind fun x s1 => match x with
    | .lst xs => .ok (dEnum 0 xs) s1
    | .tup xs => .ok (dEnum 0 xs) s1
    | _ => .stk
  | .zip a b, env, s => (ev a env s).bind fun x s1 => (ev b env s1).bind fun y s2 => match seqD x, seqD y with
    | some xs, some ys => .ok (dZip xs ys) s2
    | _, _ => .stk
  | .rev a, env, s => (ev a env s).bind fun x s1 => match x with
    | .lst xs => .ok xs.reverse s1
    | _ => .stk
end
end
section
variable {G : Gt} {call : Nat → List D → Sto → R D} {mk : Nat → List D → Sto → R D}
theorem evs_len : ∀ {es : Es} {env : Env} {s : Sto} {ds : List D} {s' : Sto}, evs G call mk es env s = .ok ds s' → ds.length = es.len
  | .nil, env, s, ds, s', h => by
    unfold evs at h
    cases h
    rfl
  | .cons a es, env, s, ds, s', h => by
    unfold evs at h
    cases q : ev G call mk a env s with
    | stk => rw [q] at h; cases h
    | exc _ _ => rw [q] at h; cases h
    | ok d s1 =>
      rw [q] at h
      have h : ((evs G call mk es env s1).bind fun ds s2 => .ok (d :: ds) s2) = R.ok ds s' := h
      cases q2 : evs G call mk es env s1 with
      | stk => rw [q2] at h; cases h
      | exc _ _ => rw [q2] at h; cases h
      | ok es2 s2 =>
        rw [q2] at h
        cases h
        rw [List.length_cons, evs_len q2, Es.len]
end
/-! ### statements -/
/-- targets of assignments: a name, an item of a list, several -/
inductive At where
  | name (i : Nat) | sub (a k : E) | tup (ts : List At)
mutual
inductive S where
  | set (i : Nat) (e : E) | setO (i : Nat) (e : E) | par (i j : Nat) (a b : E) (oi oj : Bool)
  | asg (t : At) (e : E) | aug (i : Nat) (o : Operator) (e : E)
  | app (i : Nat) (e : E) | seti (i : Nat) (k e : E) | setd (i : Nat) (k e : E) | sta (a : E) (f : Str) (e : E)
  | ex (e : E) | ret (e : E) | retN
  | ifs (c : E) (a b : Ss) | lop (s : Src) (t : Tg) (b : Ss) | whl (c : E) (b : Ss)
  | brk | cnt | pas | bad | thru (b : Ss)
inductive Ss where
  | nil | cons (s : S) (ss : Ss) | frz (i : Nat) (ss : Ss)
end
inductive RS where
  | nxt (env : Env) (s : Sto) | ret (d : D) (s : Sto) | brk (env : Env) (s : Sto) | cnt (env : Env) (s : Sto)
  | exc (x : Xn) (env : Env) (s : Sto) | stk
def R.st {α : Type} (r : R α) (env : Env) (f : α → Sto → RS) : RS := match r with
  | .ok a s => f a s
  | .exc x s => .exc x env s
  | .stk => .stk
def RS.bind (r : RS) (f : Env → Sto → RS) : RS := match r with
  | .nxt env s => f env s
  | r => r
def RS.noX : RS → RS
  | .exc _ _ _ => .stk
  | r => r
def setV (env : Env) (i : Nat) (x : Sl) : Option Env := if i < env.length then some (env.set i x) else none
def ownOf : D → Option Sl
  | .lst xs => some (.own xs)
  | .dic kvs => some (.owd kvs)
  | _ => none
def setD (o : Bool) (env : Env) (i : Nat) (d : D) : Option Env := if o then (ownOf d).bind fun x => setV env i x else setV env i (.val d)
def nxtO (o : Option Env) (s : Sto) : RS := match o with
  | some env => .nxt env s
  | none => .stk
def frzE (env : Env) (i : Nat) : Option Env := match env[i]? with
  | some (.own xs) => some (env.set i (.val (.lst xs)))
  | some (.owd kvs) => some (env.set i (.val (.dic kvs)))
  | _ => none
/-- a loop's turns -/
def lopGo (t : Tg) (f : Env → Sto → RS) : List D → Env → Sto → RS
  | [], env, s => .nxt env s
  | d :: ds, env, s => match bindT t d env with
    | none => .stk
    | some env1 => match f env1 s with
      | .nxt env2 s2 => lopGo t f ds env2 s2
      | .cnt env2 s2 => lopGo t f ds env2 s2
      | .brk env2 s2 => .nxt env2 s2
      | r => r
def whlGo (c : Env → Sto → R D) (f : Env → Sto → RS) : Nat → Env → Sto → RS
  | 0, _, _ => .stk
  | n + 1, env, s => (c env s).st env fun x s1 => match dTru x with
    | none => .stk
    | some false => .nxt env s1
    | some true => match f env s1 with
      | .nxt env2 s2 => whlGo c f n env2 s2
      | .cnt env2 s2 => whlGo c f n env2 s2
      | .brk env2 s2 => .nxt env2 s2
      | r => r
def WF : Nat := 100000000
/-- the item k of a list is stored -/
def setAt (xs : List D) (k : Int) (d : D) : Option (List D) := (L2.ixN xs.length k).map fun j => xs.set j d
section
variable (G : Gt) (call : Nat → List D → Sto → R D) (mk : Nat → List D → Sto → R D)
mutual
def evAt : At → D → Env → Sto → RS
  | .name i, d, env, s => nxtO (setV env i (.val d)) s
  | .sub a k, d, env, s => (ev G call mk a env s).st env fun x s1 => (ev G call mk k env s1).st env fun y s2 => match x, y with
    | .ref n, .int i => (match s2[n]? with
      | some (.lst xs) => (match setAt xs i d with
        | some ys => .nxt env (s2.set n (.lst ys))
        | none => .stk)
      | _ => .stk)
    | _, _ => .stk
  | .tup ts, d, env, s => match d with
    | .tup ds => if ds.length = ts.length then evAts ts ds env s else .stk
    | _ => .stk
def evAts : List At → List D → Env → Sto → RS
  | [], [], env, s => .nxt env s
  | t :: ts, d :: ds, env, s => (evAt t d env s).bind fun env1 s1 => evAts ts ds env1 s1
  | _, _, _, _ => .stk
end
mutual
def evS : S → Env → Sto → RS
  | .set i e, env, s => (ev G call mk e env s).st env fun d s1 => nxtO (setV env i (.val d)) s1
  | .setO i e, env, s => (ev G call mk e env s).st env fun d s1 => nxtO (setD true env i d) s1
  | .par i j a b oi oj, env, s => (ev G call mk a env s).st env fun x s1 => (ev G call mk b env s1).st env fun y s2 =>
      nxtO ((setD oi env i x).bind fun env1 => setD oj env1 j y) s2
  | .asg t e, env, s => (ev G call mk e env s).st env fun d s1 => evAt G call mk t d env s1
  | .aug i o e, env, s => match env[i]? with
    | some (.val x) => (ev G call mk e env s).st env fun y s1 => (match dAug o x y with
      | some z => nxtO (setV env i (.val z)) s1
      | none => .stk)
    | _ => .stk
  | .app i e, env, s => match env[i]? with
    | some (.own xs) => (ev G call mk e env s).st env fun d s1 => if okL (xs.length + 1) then .nxt (env.set i (.own (xs ++ [d]))) s1 else .stk
    | _ => .stk
  | .seti i k e, env, s => match env[i]? with
    | some (.own xs) => (ev G call mk e env s).st env fun d s1 => (ev G call mk k env s1).st env fun y s2 => (match y with
      | .int j => (match setAt xs j d with
        | some ys => .nxt (env.set i (.own ys)) s2
        | none => .stk)
      | _ => .stk)
    | _ => .stk
  | .setd i k e, env, s => match env[i]? with
    | some (.owd kvs) => (ev G call mk e env s).st env fun d s1 => (ev G call mk k env s1).st env fun y s2 => (match kOf y with
      | some key => if okL (kvs.length + 1) then .nxt (env.set i (.owd (dPut kvs key d))) s2 else .stk
      | none => .stk)
    | _ => .stk
  | .sta a f e, env, s => (ev G call mk e env s).st env fun d s1 => (ev G call mk a env s1).st env fun x s2 => (match insOf s2 x with
    | some (n, c, fs) => (match G.att c f with
      | some .fld => if fs.length < 999 then .nxt env (s2.set n (.ins c (putD f d fs))) else .stk
      | _ => .stk)
    | none => .stk)
  | .ex e, env, s => (ev G call mk e env s).st env fun _ s1 => .nxt env s1
  | .ret e, env, s => (ev G call mk e env s).st env fun d s1 => .ret d s1
  | .retN, _, s => .ret .non s
  | .ifs c a b, env, s => (ev G call mk c env s).st env fun x s1 => (match dTru x with
    | some true => evSs a env s1
    | some false => evSs b env s1
    | none => .stk)
  | .lop src t b, env, s => (evSrc G call mk src env s).st env fun ds s1 => lopGo t (evSs b) ds env s1
  | .whl c b, env, s => whlGo (ev G call mk c) (evSs b) WF env s
  | .brk, env, s => .brk env s
  | .cnt, env, s => .cnt env s
  | .pas, env, s => .nxt env s
  | .bad, _, _ => .stk
  | .thru b, env, s => (evSs b env s).noX
def evSs : Ss → Env → Sto → RS
  | .nil, env, s => .nxt env s
  | .cons st ss, env, s => (evS st env s).bind fun env1 s1 => evSs ss env1 s1
  | .frz i ss, env, s => match frzE env i with
    | some env1 => evSs ss env1 s
    | none => .stk
end
end
/-- a new instance: its cell, then its maker's def -/
def mkF (G : Gt) (call : Nat → List D → Sto → R D) (k : Nat) (ds : List D) (s : Sto) : R D := match G.ini k with
  | some (f, n) => if ds.length + 1 = n then (call f (.ref s.length :: ds) (s ++ [.ins k []])).bind fun d s1 => (match d with
    | .non => .ok (.ref s.length) s1
    | _ => .stk) else .stk
  | none => .stk
/-- a def: how many slots, its body; its value: None where it ends by itself -/
structure Fd where
  n : Nat
  b : Ss
def runF (G : Gt) (call : Nat → List D → Sto → R D) (mk : Nat → List D → Sto → R D) (f : Fd) (ds : List D) (s : Sto) : R D :=
  match evSs G call mk f.b (ds.map .val ++ List.replicate (f.n - ds.length) .und) s with
  | .nxt _ s1 => .ok .non s1
  | .ret d s1 => .ok d s1
  | .exc x _ s1 => .exc x s1
  | _ => .stk
end Lv
set_option Elab.async false
set_option linter.all false
set_option maxRecDepth 100000
set_option maxHeartbeats 4000000
/-! Lv2: how plain data stand in the abstract heap; steps; states. -/
namespace Lv
open PySem PySem.Spec PyProof.Rows L2
/-- what stays as it is; where the store's cells stand -/
structure Rho where
  F : Addr → Prop
  cs : List Addr
/-- where the classes stand, how their instances' fields are named -/
structure Md where
  cA : Nat → Addr
  fl : Nat → List Str
  K : PySem.W.Frag
def SqK (M : Md) (a : Addr) (ns : List Int) : Prop := ∃ (o : Obj) (its : Array Value) (n : Nat), M.K.lookup a = some o ∧ o.cls = .type "list" ∧ o.dict = none ∧ o.data = .seq its n ∧ its.size ≤ sizeLine ∧ Vals (ns.map V.int) its.toList
/-- the script: known to the heap, or an object of the text -/
def ScrAt (M : Md) (p : Rho) (H : Hp) (a : Addr) (ns : List Int) : Prop := (p.F a ∧ ∃ o, H a = some (.frz o (.lst (ns.map V.int)))) ∨ SqK M a ns
mutual
inductive Rep (M : Md) (p : Rho) (H : Hp) : D → V → Prop
  | non : Rep M p H .non .non
  | bl (b : Bool) : Rep M p H (.bl b) (.bl b)
  | int (i : Int) : Rep M p H (.int i) (.int i)
  | str (x : Str) : Rep M p H (.str x) (.str x)
  | tup {a : Addr} {vs : List V} {ds : List D} : p.F a → H a = some (.tup vs) → RepL M p H ds vs → Rep M p H (.tup ds) (.ref a)
  | lst {a : Addr} {vs : List V} {ds : List D} : p.F a → H a = some (.lst vs) → RepL M p H ds vs → Rep M p H (.lst ds) (.ref a)
  | dic {a : Addr} {hs : List (Key × V)} {ks : List (Key × D)} : p.F a → H a = some (.dK hs) → hs.map (·.1) = ks.map (·.1) → RepL M p H (ks.map (·.2)) (hs.map (·.2)) → Rep M p H (.dic ks) (.ref a)
  | obj {a dx : Addr} {c : Nat} {fs : List D} {vs : List V} : p.F a → H a = some (.ins (M.cA c) dx ((M.fl c).zip vs)) → vs.length = (M.fl c).length → RepL M p H fs vs → Rep M p H (.obj c fs) (.ref a)
  | ref {a : Addr} {n : Nat} : p.cs[n]? = some a → Rep M p H (.ref n) (.ref a)
  | scr {a : Addr} {ns : List Int} : ScrAt M p H a ns → Rep M p H (.scr ns) (.ref a)
inductive RepL (M : Md) (p : Rho) (H : Hp) : List D → List V → Prop
  | nil : RepL M p H [] []
  | cons {d : D} {v : V} {ds : List D} {vs : List V} : Rep M p H d v → RepL M p H ds vs → RepL M p H (d :: ds) (v :: vs)
end
structure Step (p : Rho) (H : Hp) (p' : Rho) (H' : Hp) : Prop where
  fx : ∀ a, p.F a → p'.F a
  nw : ∀ a, p'.F a → p.F a ∨ H a = none
  kp : ∀ a o, H a = some o → a ∉ p.cs → H' a = some o
  cs : ∃ more, p'.cs = p.cs ++ more ∧ ∀ a ∈ more, H a = none
  th : ∀ a, H a ≠ none → H' a ≠ none
theorem Step.refl (p : Rho) (H : Hp) : Step p H p H := ⟨fun _ h => h, fun _ h => .inl h, fun _ _ h _ => h, ⟨[], by simp, by simp⟩, fun _ h => h⟩
theorem Step.trans {p p1 p2 : Rho} {H H1 H2 : Hp} (a : Step p H p1 H1) (b : Step p1 H1 p2 H2) : Step p H p2 H2 := by
  obtain ⟨m1, e1, n1⟩ := a.cs
  obtain ⟨m2, e2, n2⟩ := b.cs
  have back : ∀ x, H1 x = none → H x = none := fun x h => by
    cases e : H x with
    | none => rfl
    | some o => exact absurd h (a.th x (by rw [e]; simp))
  refine ⟨fun x h => b.fx x (a.fx x h), fun x h => ?_, fun x o h hx => b.kp x o (a.kp x o h hx) ?_, ⟨m1 ++ m2, by rw [e2, e1, List.append_assoc], ?_⟩, fun x h => b.th x (a.th x h)⟩
  · rcases b.nw x h with h | h
    · exact a.nw x h
    · exact .inr (back x h)
  · rw [e1]
    simp only [List.mem_append, not_or]
    refine ⟨hx, fun hm => ?_⟩
    have := n1 x hm
    rw [h] at this
    cases this
  · intro x hx
    rcases List.mem_append.mp hx with h | h
    · exact n1 x h
    · exact back x (n2 x h)
/-- what stays is no cell -/
def Apart (p : Rho) : Prop := ∀ a ∈ p.cs, ¬ p.F a
theorem rd_step {p p' : Rho} {H H' : Hp} {a : Addr} {o : HO} (s : Step p H p' H') (hd : Apart p) (hF : p.F a) (r : Rd H a o) : Rd H' a o := by
  have hn : a ∉ p.cs := fun h => hd a h hF
  rcases r with r | ⟨ob, r⟩
  · exact .inl (s.kp a _ r hn)
  · exact .inr ⟨ob, s.kp a _ r hn⟩
mutual
theorem Rep.step {M : Md} {p p' : Rho} {H H' : Hp} (s : Step p H p' H') (hd : Apart p) : ∀ {d : D} {v : V}, Rep M p H d v → Rep M p' H' d v
  | _, _, .non => .non
  | _, _, .bl b => .bl b
  | _, _, .int i => .int i
  | _, _, .str x => .str x
  | _, _, .tup h1 h2 h3 => .tup (s.fx _ h1) (s.kp _ _ h2 fun h => hd _ h h1) (RepL.step s hd h3)
  | _, _, .lst h1 h2 h3 => .lst (s.fx _ h1) (s.kp _ _ h2 fun h => hd _ h h1) (RepL.step s hd h3)
  | _, _, .dic h1 h2 h3 h4 => .dic (s.fx _ h1) (s.kp _ _ h2 fun h => hd _ h h1) h3 (RepL.step s hd h4)
  | _, _, .obj h1 h2 h3 h4 => .obj (s.fx _ h1) (s.kp _ _ h2 fun h => hd _ h h1) h3 (RepL.step s hd h4)
  | _, _, .ref h1 => .ref (by
      obtain ⟨m, e, _⟩ := s.cs
      rw [e]
      rw [List.getElem?_append_left (List.getElem?_eq_some_iff.mp h1).1]
      exact h1)
  | _, _, .scr h => .scr (by
      rcases h with ⟨h1, o, h2⟩ | h
      · exact .inl ⟨s.fx _ h1, o, s.kp _ _ h2 fun h => hd _ h h1⟩
      · exact .inr h)
theorem RepL.step {M : Md} {p p' : Rho} {H H' : Hp} (s : Step p H p' H') (hd : Apart p) : ∀ {ds : List D} {vs : List V}, RepL M p H ds vs → RepL M p' H' ds vs
  | _, _, .nil => .nil
  | _, _, .cons h1 h2 => .cons (Rep.step s hd h1) (RepL.step s hd h2)
end
mutual
theorem Rep.wide {M : Md} {p p' : Rho} {H : Hp} (hF : ∀ a, p.F a → p'.F a) (hc : p'.cs = p.cs) : ∀ {d : D} {v : V}, Rep M p H d v → Rep M p' H d v
  | _, _, .non => .non
  | _, _, .bl b => .bl b
  | _, _, .int i => .int i
  | _, _, .str x => .str x
  | _, _, .tup h1 h2 h3 => .tup (hF _ h1) h2 (RepL.wide hF hc h3)
  | _, _, .lst h1 h2 h3 => .lst (hF _ h1) h2 (RepL.wide hF hc h3)
  | _, _, .dic h1 h2 h3 h4 => .dic (hF _ h1) h2 h3 (RepL.wide hF hc h4)
  | _, _, .obj h1 h2 h3 h4 => .obj (hF _ h1) h2 h3 (RepL.wide hF hc h4)
  | _, _, .ref h1 => .ref (by rw [hc]; exact h1)
  | _, _, .scr h => .scr (by
      rcases h with ⟨h1, h2⟩ | h
      · exact .inl ⟨hF _ h1, h2⟩
      · exact .inr h)
theorem RepL.wide {M : Md} {p p' : Rho} {H : Hp} (hF : ∀ a, p.F a → p'.F a) (hc : p'.cs = p.cs) : ∀ {ds : List D} {vs : List V}, RepL M p H ds vs → RepL M p' H ds vs
  | _, _, .nil => .nil
  | _, _, .cons h1 h2 => .cons (Rep.wide hF hc h1) (RepL.wide hF hc h2)
end
section
variable {M : Md} {p : Rho} {H : Hp}
theorem RepL.length : ∀ {ds : List D} {vs : List V}, RepL M p H ds vs → ds.length = vs.length
  | _, _, .nil => rfl
  | _, _, .cons _ h => by rw [List.length_cons, List.length_cons, h.length]
theorem RepL.get : ∀ {ds : List D} {vs : List V} {i : Nat} {d : D}, RepL M p H ds vs → ds[i]? = some d → ∃ v, vs[i]? = some v ∧ Rep M p H d v
  | _, _, _, _, .nil, e => by simp at e
  | _, _, 0, _, .cons h _, e => ⟨_, rfl, by simp at e; subst e; exact h⟩
  | _, _, i + 1, _, .cons _ h, e => RepL.get (i := i) h (by simpa using e)
theorem RepL.getV : ∀ {ds : List D} {vs : List V} {i : Nat} {v : V}, RepL M p H ds vs → vs[i]? = some v → ∃ d, ds[i]? = some d ∧ Rep M p H d v
  | _, _, _, _, .nil, e => by simp at e
  | _, _, 0, _, .cons h _, e => ⟨_, rfl, by simp at e; subst e; exact h⟩
  | _, _, i + 1, _, .cons _ h, e => RepL.getV (i := i) h (by simpa using e)
theorem RepL.append : ∀ {ds es : List D} {vs us : List V}, RepL M p H ds vs → RepL M p H es us → RepL M p H (ds ++ es) (vs ++ us)
  | _, _, _, _, .nil, h => h
  | _, _, _, _, .cons a b, h => .cons a (RepL.append b h)
theorem RepL.take : ∀ {ds : List D} {vs : List V} (n : Nat), RepL M p H ds vs → RepL M p H (ds.take n) (vs.take n)
  | _, _, 0, _ => .nil
  | _, _, _ + 1, .nil => .nil
  | _, _, n + 1, .cons a b => .cons a (RepL.take n b)
theorem RepL.drop : ∀ {ds : List D} {vs : List V} (n : Nat), RepL M p H ds vs → RepL M p H (ds.drop n) (vs.drop n)
  | _, _, 0, h => h
  | _, _, _ + 1, .nil => .nil
  | _, _, n + 1, .cons _ b => RepL.drop n b
theorem RepL.set : ∀ {ds : List D} {vs : List V} {d : D} {v : V} (n : Nat), Rep M p H d v → RepL M p H ds vs → RepL M p H (ds.set n d) (vs.set n v)
  | _, _, _, _, _, _, .nil => .nil
  | _, _, _, _, 0, h, .cons _ b => .cons h b
  | _, _, _, _, n + 1, h, .cons a b => .cons a (RepL.set n h b)
theorem RepL.flatten_rep {ds : List D} {vs : List V} (h : RepL M p H ds vs) : ∀ n : Nat, RepL M p H (List.replicate n ds).flatten (List.replicate n vs).flatten
  | 0 => .nil
  | n + 1 => by
    rw [List.replicate_succ, List.replicate_succ, List.flatten_cons, List.flatten_cons]
    exact h.append (RepL.flatten_rep h n)
theorem RepL.reverse : ∀ {ds : List D} {vs : List V}, RepL M p H ds vs → RepL M p H ds.reverse vs.reverse
  | _, _, .nil => .nil
  | _, _, .cons a b => by
    rw [List.reverse_cons, List.reverse_cons]
    exact (RepL.reverse b).append (.cons a .nil)
theorem RepL.ints : ∀ {ds : List D} {vs : List V} {ns : List Int}, RepL M p H ds vs → dInts ds = some ns → vs = ns.map V.int
  | _, _, _, .nil, e => by simp [dInts] at e; subst e; rfl
  | _, _, _, .cons h1 h2, e => by
    cases h1 with
    | int i =>
      unfold dInts at e
      rename_i ds vs
      cases q : dInts ds with
      | none => rw [q] at e; cases e
      | some ms =>
        rw [q] at e
        cases e
        rw [RepL.ints h2 q]
        rfl
    | _ => simp [dInts] at e
theorem RepL.bools : ∀ {ds : List D} {vs : List V} {ns : List Bool}, RepL M p H ds vs → dBools ds = some ns → vs = ns.map V.bl
  | _, _, _, .nil, e => by simp [dBools] at e; subst e; rfl
  | _, _, _, .cons h1 h2, e => by
    cases h1 with
    | bl i =>
      unfold dBools at e
      rename_i ds vs
      cases q : dBools ds with
      | none => rw [q] at e; cases e
      | some ms =>
        rw [q] at e
        cases e
        rw [RepL.bools h2 q]
        rfl
    | _ => simp [dBools] at e
theorem RepL.strs : ∀ {ds : List D} {vs : List V} {ns : List Str}, RepL M p H ds vs → dStrs ds = some ns → vs = ns.map V.str
  | _, _, _, .nil, e => by simp [dStrs] at e; subst e; rfl
  | _, _, _, .cons h1 h2, e => by
    cases h1 with
    | str i =>
      unfold dStrs at e
      rename_i ds vs
      cases q : dStrs ds with
      | none => rw [q] at e; cases e
      | some ms =>
        rw [q] at e
        cases e
        rw [RepL.strs h2 q]
        rfl
    | _ => simp [dStrs] at e
mutual
theorem Rep.dp {K : PySem.W.Frag} : ∀ {d : D} {v : V} {q : PyData}, Rep M p H d v → d.py = some q → Dp K H v q
  | _, _, _, .non, e => by cases e; exact .non
  | _, _, _, .bl b, e => by cases e; exact .bl b
  | _, _, _, .int i, e => by cases e; exact .int i
  | _, _, _, .str x, e => by cases e; exact .str x
  | _, _, _, .tup (ds := ds) h1 h2 h3, e => by
    unfold D.py at e
    cases q : D.py.pyL ds with
    | none => rw [q] at e; cases e
    | some ps =>
      rw [q] at e
      cases e
      exact .tup (.inl (.inl h2)) (RepL.dp h3 q)
  | _, _, _, .lst (ds := ds) h1 h2 h3, e => by
    unfold D.py at e
    cases q : D.py.pyL ds with
    | none => rw [q] at e; cases e
    | some ps =>
      rw [q] at e
      cases e
      exact .lst (.inl (.inl h2)) (RepL.dp h3 q)
  | _, _, _, .dic .., e => by cases e
  | _, _, _, .obj .., e => by cases e
  | _, _, _, .ref .., e => by cases e
  | _, _, _, .scr .., e => by cases e
theorem RepL.dp {K : PySem.W.Frag} : ∀ {ds : List D} {vs : List V} {qs : List PyData}, RepL M p H ds vs → D.py.pyL ds = some qs → DpAll K H vs qs
  | _, _, _, .nil, e => by cases e; exact .nil
  | _, _, _, .cons (d := d) (ds := ds) h1 h2, e => by
    unfold D.py.pyL at e
    cases q : d.py with
    | none => rw [q] at e; cases e
    | some x =>
      cases q2 : D.py.pyL ds with
      | none => rw [q, q2] at e; cases e
      | some xs =>
        rw [q, q2] at e
        cases e
        exact .cons (Rep.dp h1 q) (RepL.dp h2 q2)
end
end
/-! ### cells, slots, states -/
def CellR (M : Md) (p : Rho) (H : Hp) (a : Addr) : Cell → Prop
  | .lst ds => ∃ vs, H a = some (.lst vs) ∧ RepL M p H ds vs
  | .ins c fs => ∃ dx hs, H a = some (.ins (M.cA c) dx hs) ∧ hs.map (·.1) = fs.map (·.1) ∧ RepL M p H (fs.map (·.2)) (hs.map (·.2))
structure CellsOk (M : Md) (p : Rho) (H : Hp) (s : Sto) : Prop where
  len : p.cs.length = s.length
  nd : p.cs.Nodup
  ap : Apart p
  tr : ∀ a, p.F a → H a ≠ none
  at_ : ∀ (n : Nat) (a : Addr) (c : Cell), p.cs[n]? = some a → s[n]? = some c → CellR M p H a c
def OwnR (M : Md) (p : Rho) (H : Hp) (a : Addr) : Sl → Prop
  | .own ds => ∃ vs, H a = some (.lst vs) ∧ RepL M p H ds vs
  | .owd ks => ∃ hs, H a = some (.dK hs) ∧ hs.map (·.1) = ks.map (·.1) ∧ RepL M p H (ks.map (·.2)) (hs.map (·.2))
  | _ => False
def isOwn : Sl → Bool
  | .own _ => true
  | .owd _ => true
  | _ => false
def SlR (M : Md) (p : Rho) (H : Hp) : Sl → Option V → Prop
  | .und, _ => True
  | .val d, o => ∃ v, o = some v ∧ Rep M p H d v
  | x, o => ∃ a, o = some (.ref a) ∧ ¬ p.F a ∧ a ∉ p.cs ∧ OwnR M p H a x
/-- a def's entry -/
structure En where
  p : Rho
  H : Hp
structure Ok (M : Md) (N : En) (p : Rho) (env : Env) (s : Sto) (σ : L2.St) (H : Hp) : Prop where
  st : Step N.p N.H p H
  cells : CellsOk M p H s
  len : env.length = σ.length
  slot : ∀ (i : Nat) (x : Sl), env[i]? = some x → ∃ o, σ[i]? = some o ∧ SlR M p H x o
  fresh : ∀ (i : Nat) (x : Sl) (a : Addr), env[i]? = some x → isOwn x = true → σ[i]? = some (some (.ref a)) → N.H a = none
  dist : ∀ (i j : Nat) (x y : Sl) (a : Addr), env[i]? = some x → env[j]? = some y → isOwn x = true → isOwn y = true → σ[i]? = some (some (.ref a)) → σ[j]? = some (some (.ref a)) → i = j
section
variable {M : Md} {N : En} {p p' : Rho} {env : Env} {s s' : Sto} {σ : L2.St} {H H' : Hp}
theorem OwnR.step (st : Step p H p' H') (hd : Apart p) {a : Addr} (hn : a ∉ p.cs) : ∀ {x : Sl}, OwnR M p H a x → OwnR M p' H' a x
  | .own _, ⟨vs, h, r⟩ => ⟨vs, st.kp a _ h hn, r.step st hd⟩
  | .owd _, ⟨hs, h, k, r⟩ => ⟨hs, st.kp a _ h hn, k, r.step st hd⟩
  | .und, h => h
  | .val _, h => h
theorem OwnR.some_ {a : Addr} : ∀ {x : Sl}, OwnR M p H a x → H a ≠ none
  | .own _, ⟨vs, h, r⟩ => by rw [h]; simp
  | .owd _, ⟨hs, h, k, r⟩ => by rw [h]; simp
  | .und, h => h.elim
  | .val _, h => h.elim
theorem SlR.step (st : Step p H p' H') (hd : Apart p) : ∀ {x : Sl} {o : Option V}, SlR M p H x o → SlR M p' H' x o
  | .und, _, _ => trivial
  | .val _, _, ⟨v, e, r⟩ => ⟨v, e, r.step st hd⟩
  | .own ds, _, ⟨a, e, f, n, r⟩ => own st hd e f n r
  | .owd ds, _, ⟨a, e, f, n, r⟩ => own st hd e f n r
where
  own (st : Step p H p' H') (hd : Apart p) {x : Sl} {o : Option V} {a : Addr} (e : o = some (.ref a)) (f : ¬ p.F a) (n : a ∉ p.cs) (r : OwnR M p H a x) : ∃ a, o = some (.ref a) ∧ ¬ p'.F a ∧ a ∉ p'.cs ∧ OwnR M p' H' a x := by
    refine ⟨a, e, fun h => ?_, fun h => ?_, r.step st hd n⟩
    · rcases st.nw a h with h | h
      · exact f h
      · exact r.some_ h
    · obtain ⟨m, e, hm⟩ := st.cs
      rw [e] at h
      rcases List.mem_append.mp h with h | h
      · exact n h
      · exact r.some_ (hm a h)
/-- the slots stand where a step keeps them, the cells told anew -/
theorem Ok.step (o : Ok M N p env s σ H) (st : Step p H p' H') (c : CellsOk M p' H' s') : Ok M N p' env s' σ H' :=
  ⟨o.st.trans st, c, o.len, fun i x e => let ⟨v, e', r⟩ := o.slot i x e; ⟨v, e', r.step st o.cells.ap⟩, o.fresh, o.dist⟩
/-- a new object that stays -/
theorem Step.new {a : Addr} {ob : HO} (hn : H a = none) : Step p H { p with F := fun x => p.F x ∨ x = a } (upd H a ob) := by
  refine ⟨fun x h => .inl h, fun x h => ?_, fun x o h _ => ?_, ⟨[], by simp, by simp⟩, fun x h => ?_⟩
  · rcases h with h | h
    · exact .inl h
    · exact .inr (h ▸ hn)
  · rw [upd_ne (ne_of_none h hn)]
    exact h
  · by_cases e : x = a
    · subst e; rw [upd_same]; simp
    · rw [upd_ne e]; exact h
/-- a new object that does not -/
theorem Step.loose {a : Addr} {ob : HO} (hn : H a = none) : Step p H p (upd H a ob) := by
  refine ⟨fun x h => h, fun x h => .inl h, fun x o h _ => ?_, ⟨[], by simp, by simp⟩, fun x h => ?_⟩
  · rw [upd_ne (ne_of_none h hn)]
    exact h
  · by_cases e : x = a
    · subst e; rw [upd_same]; simp
    · rw [upd_ne e]; exact h
theorem CellR.step (st : Step p H p' H') (hd : Apart p) {a : Addr} (hs : ∀ o, H a = some o → H' a = some o) : ∀ {c : Cell}, CellR M p H a c → CellR M p' H' a c
  | .lst _, ⟨vs, h, r⟩ => ⟨vs, hs _ h, r.step st hd⟩
  | .ins _ _, ⟨dx, h', h, k, r⟩ => ⟨dx, h', hs _ h, k, r.step st hd⟩
theorem CellR.some_ {a : Addr} : ∀ {c : Cell}, CellR M p H a c → H a ≠ none
  | .lst _, ⟨vs, h, r⟩ => by rw [h]; simp
  | .ins _ _, ⟨dx, h', h, k, r⟩ => by rw [h]; simp
theorem CellsOk.some_ (c : CellsOk M p H s) {a : Addr} (h : a ∈ p.cs) : H a ≠ none := by
  obtain ⟨n, hn, e⟩ := List.mem_iff_getElem.mp h
  have h1 : p.cs[n]? = some a := by rw [List.getElem?_eq_getElem hn, e]
  have h2 : n < s.length := by rw [← c.len]; exact hn
  exact (c.at_ n a s[n] h1 (List.getElem?_eq_getElem h2)).some_
/-- every tracked object is kept, no cell is new -/
theorem CellsOk.kept (c : CellsOk M p H s) (st : Step p H p' H') (ec : p'.cs = p.cs) (hk : ∀ a ∈ p.cs, ∀ o, H a = some o → H' a = some o) (ht : ∀ a, p'.F a → p.F a ∨ H' a ≠ none) : CellsOk M p' H' s := by
  refine ⟨by rw [ec]; exact c.len, by rw [ec]; exact c.nd, fun a h hF => ?_, fun a h => (ht a h).elim (fun q => st.th a (c.tr a q)) id, fun n a x e1 e2 => ?_⟩
  · rw [ec] at h
    rcases st.nw a hF with q | q
    · exact c.ap a h q
    · exact c.some_ h q
  · rw [ec] at e1
    exact (c.at_ n a x e1 e2).step st c.ap fun o h => hk a (List.mem_of_getElem? e1) o h
theorem Ok.new (o : Ok M N p env s σ H) {a : Addr} {ob : HO} (hn : H a = none) : Ok M N { p with F := fun x => p.F x ∨ x = a } env s σ (upd H a ob) :=
  o.step (Step.new hn) (o.cells.kept (Step.new hn) rfl (fun x _ u h => by rw [upd_ne (ne_of_none h hn)]; exact h) fun x h => h.elim .inl fun e => .inr (by rw [e, upd_same]; simp))
theorem Ok.loose (o : Ok M N p env s σ H) {a : Addr} {ob : HO} (hn : H a = none) : Ok M N p env s σ (upd H a ob) :=
  o.step (Step.loose hn) (o.cells.kept (Step.loose hn) rfl (fun x _ u h => by rw [upd_ne (ne_of_none h hn)]; exact h) fun x h => .inl h)
end
/-- a stays from now on -/
def Rho.fix (p : Rho) (a : Addr) : Rho := { p with F := fun x => p.F x ∨ x = a }
section
variable {M : Md} {N : En} {p p' : Rho} {env : Env} {s s' : Sto} {σ : L2.St} {H H' : Hp}
theorem OwnR.wide (hF : ∀ a, p.F a → p'.F a) (hc : p'.cs = p.cs) {a : Addr} : ∀ {x : Sl}, OwnR M p H a x → OwnR M p' H a x
  | .own _, ⟨vs, h, r⟩ => ⟨vs, h, r.wide hF hc⟩
  | .owd _, ⟨hs, h, k, r⟩ => ⟨hs, h, k, r.wide hF hc⟩
  | .und, h => h
  | .val _, h => h
theorem CellR.wide (hF : ∀ a, p.F a → p'.F a) (hc : p'.cs = p.cs) {a : Addr} : ∀ {c : Cell}, CellR M p H a c → CellR M p' H a c
  | .lst _, ⟨vs, h, r⟩ => ⟨vs, h, r.wide hF hc⟩
  | .ins _ _, ⟨dx, h', h, k, r⟩ => ⟨dx, h', h, k, r.wide hF hc⟩
theorem Step.fix (st : Step p H p' H') {a : Addr} (hn : H a = none) : Step p H (p'.fix a) H' :=
  ⟨fun x h => .inl (st.fx x h), fun x h => h.elim (st.nw x) fun e => .inr (e ▸ hn), st.kp, st.cs, st.th⟩
theorem Step.none_ (st : Step p H p' H') {a : Addr} (h : H' a = none) : H a = none := by
  cases e : H a with
  | none => rfl
  | some o => exact absurd h (st.th a (by rw [e]; simp))
theorem CellsOk.fix (c : CellsOk M p H s) {a : Addr} (ha : a ∉ p.cs) (hs : H a ≠ none) : CellsOk M (p.fix a) H s :=
  ⟨c.len, c.nd, fun b hb hF => hF.elim (c.ap b hb) fun e => ha (e ▸ hb), fun b hF => hF.elim (c.tr b) fun e => e ▸ hs, fun n b x e1 e2 => CellR.wide (p' := p.fix a) (fun _ h => Or.inl h) rfl (c.at_ n b x e1 e2)⟩
theorem SlR.fix {a : Addr} : ∀ {x : Sl} {o : Option V}, (isOwn x = true → o ≠ some (.ref a)) → SlR M p H x o → SlR M (p.fix a) H x o
  | .und, _, _, _ => trivial
  | .val _, _, _, ⟨v, e, r⟩ => ⟨v, e, Rep.wide (p' := p.fix a) (fun _ h => Or.inl h) rfl r⟩
  | .own _, _, hn, ⟨b, e, hF, hc, r⟩ => ⟨b, e, fun h => h.elim hF fun q => hn rfl (by rw [e, q]), hc, OwnR.wide (p' := p.fix a) (fun _ h => Or.inl h) rfl r⟩
  | .owd _, _, hn, ⟨b, e, hF, hc, r⟩ => ⟨b, e, fun h => h.elim hF fun q => hn rfl (by rw [e, q]), hc, OwnR.wide (p' := p.fix a) (fun _ h => Or.inl h) rfl r⟩
theorem Ok.fix (o : Ok M N p env s σ H) {a : Addr} (h0 : N.H a = none) (ha : a ∉ p.cs) (ht : H a ≠ none) (hs : ∀ (i : Nat) (x : Sl), env[i]? = some x → isOwn x = true → σ[i]? ≠ some (some (.ref a))) : Ok M N (p.fix a) env s σ H := by
  refine ⟨o.st.fix h0, o.cells.fix ha ht, o.len, fun i x e => ?_, o.fresh, o.dist⟩
  obtain ⟨v, e1, r⟩ := o.slot i x e
  exact ⟨v, e1, r.fix fun hx q => hs i x e hx (by rw [e1, q])⟩
/-- an own slot's address is tracked -/
theorem Ok.own_some (o : Ok M N p env s σ H) {i : Nat} {x : Sl} {a : Addr} (e : env[i]? = some x) (hx : isOwn x = true) (e2 : σ[i]? = some (some (.ref a))) : H a ≠ none ∧ ¬ p.F a ∧ a ∉ p.cs ∧ OwnR M p H a x := by
  obtain ⟨v, e1, r⟩ := o.slot i x e
  rw [e2] at e1
  cases e1
  cases x with
  | und => cases hx
  | val d => cases hx
  | own ds =>
    obtain ⟨b, e3, hF, hc, r⟩ := r
    cases e3
    exact ⟨r.some_, hF, hc, r⟩
  | owd ds =>
    obtain ⟨b, e3, hF, hc, r⟩ := r
    cases e3
    exact ⟨r.some_, hF, hc, r⟩
end
/-! ### readings -/
/-- an exception that has come -/
def ExcR (M : Md) (p : Rho) (H : Hp) (x : Xn) (cls : Value) (dd : Option Addr) : Prop := cls = .ref (M.cA x.c) ∧ ((M.fl x.c = [] ∧ dd = none) ∨ ∃ d f v, dd = some d ∧ M.fl x.c = [f] ∧ H d = some (.xd [(f, v)]) ∧ p.F d ∧ Rep M p H x.v v)
/-- what a term that is worth r gives: values related by rel -/
def Rg (M : Md) (N : En) (W : WX) (env : Env) (σ : L2.St) {α β : Type} (rel : Rho → Hp → α → β → Prop) (p : Rho) (H : Hp) (r : R α) (Q : β → Hp → Prop) : Prop := match r with
  | .ok d s' => ∀ v p' H', Step p H p' H' → Ok M N p' env s' σ H' → rel p' H' d v → Q v H'
  | .exc x s' => ∀ cls dd p' H', Step p H p' H' → Ok M N p' env s' σ H' → ExcR M p' H' x cls dd → W cls dd σ H'
  | .stk => False
section
variable {M : Md} {N : En} {W : WX} {env : Env} {σ : L2.St} {α β γ δ : Type} {rel : Rho → Hp → α → β → Prop} {rel' : Rho → Hp → γ → δ → Prop} {p p1 : Rho} {H H1 : Hp} {s : Sto}
theorem Rg.step {r : R α} {Q : β → Hp → Prop} (st : Step p H p1 H1) (h : Rg M N W env σ rel p H r Q) : Rg M N W env σ rel p1 H1 r Q := by
  cases r with
  | ok d s' => exact fun v p' H' st' o r => h v p' H' (st.trans st') o r
  | exc x s' => exact fun c d p' H' st' o r => h c d p' H' (st.trans st') o r
  | stk => exact h
/-- one after the other -/
theorem Rg.seq {r : R α} {k : α → Sto → R γ} {Q : δ → Hp → Prop} (rel : Rho → Hp → α → β → Prop) (h : Rg M N W env σ rel' p H (r.bind k) Q) :
    Rg M N W env σ rel p H r fun v H1 => ∃ p1 d s1, Ok M N p1 env s1 σ H1 ∧ Step p H p1 H1 ∧ rel p1 H1 d v ∧ Rg M N W env σ rel' p1 H1 (k d s1) Q := by
  cases r with
  | ok d s' => exact fun v p' H' st o rl => ⟨p', d, s', o, st, rl, Rg.step st h⟩
  | exc x s' => exact h
  | stk => exact h
theorem Rg.imp {r : R α} {Q Q' : β → Hp → Prop} (h : Rg M N W env σ rel p H r Q) (hq : ∀ v H', Q v H' → Q' v H') : Rg M N W env σ rel p H r Q' := by
  cases r with
  | ok d s' => exact fun v p' H' st o rl => hq _ _ (h v p' H' st o rl)
  | exc x s' => exact h
  | stk => exact h
theorem Rg.impR {rel2 : Rho → Hp → α → β → Prop} {r : R α} {Q : β → Hp → Prop} (h : Rg M N W env σ rel p H r Q) (hq : ∀ p' H' d v, rel2 p' H' d v → rel p' H' d v) : Rg M N W env σ rel2 p H r Q := by
  cases r with
  | ok d s' => exact fun v p' H' st o rl => h v p' H' st o (hq _ _ _ _ rl)
  | exc x s' => exact h
  | stk => exact h
/-- the answer as it stands -/
theorem Rg.done {d : α} {v : β} {Q : β → Hp → Prop} (h : Rg M N W env σ rel p H (.ok d s) Q) (o : Ok M N p env s σ H) (r : rel p H d v) : Q v H := h v p H (Step.refl p H) o r
theorem Rg.lift {o : Option α} {Q : β → Hp → Prop} (h : Rg M N W env σ rel p H (lift o s) Q) : ∃ d, o = some d ∧ Rg M N W env σ rel p H (.ok d s) Q := by
  cases o with
  | none => exact h.elim
  | some d => exact ⟨d, rfl, h⟩
end
end Lv
set_option Elab.async false
set_option linter.all false
set_option maxRecDepth 100000
set_option maxHeartbeats 4000000
/-! Lv3: what operators do with plain data. -/
namespace Lv
open PySem PySem.Spec PyProof.Rows L2
theorem _root_.L2.PE.imp {X : Cx} {e : Expr} {t t' : TE} (h : PE X e t) (hw : ∀ σ H Q, t' σ H Q → t σ H Q) : PE X e t' := ⟨fun pins s σ H Q I q => h.run pins s σ H Q I (hw σ H Q q)⟩
theorem _root_.L2.PT.imp {X : Cx} {e : Expr} {t t' : TT} (h : PT X e t) (hw : ∀ σ H Q, t' σ H Q → t σ H Q) : PT X e t' := ⟨fun pins s σ H Q I q => h.run pins s σ H Q I (hw σ H Q q)⟩
theorem _root_.L2.PW.imp {X : Cx} {e : Expr} {t t' : TT} (h : PW X e t) (hw : ∀ σ H Q, t' σ H Q → t σ H Q) : PW X e t' := ⟨fun wh pins s σ H Q I q => h.run wh pins s σ H Q I (hw σ H Q q)⟩
theorem _root_.L2.PA.imp {X : Cx} {e : List Expr} {t t' : TA} (h : PA X e t) (hw : ∀ σ H Q, t' σ H Q → t σ H Q) : PA X e t' := ⟨fun ps pins s σ H Q I q => h.run ps pins s σ H Q I (hw σ H Q q)⟩
theorem _root_.L2.PS.imp {X : Cx} {e : Stmt} {t t' : TS} (h : PS X e t) (hw : ∀ D σ H, t' D σ H → t D σ H) : PS X e t' := ⟨fun pins s σ H D I q => h.run pins s σ H D I (hw D σ H q)⟩
theorem _root_.L2.PSs.imp {X : Cx} {e : List Stmt} {t t' : TS} (h : PSs X e t) (hw : ∀ D σ H, t' D σ H → t D σ H) : PSs X e t' := ⟨fun pins s σ H D I q => h.run pins s σ H D I (hw D σ H q)⟩
theorem okL_le {n : Nat} (h : okL n = true) : n ≤ sizeLine := by
  rw [sizeLine_eq]
  exact of_decide_eq_true h
/-- what a term may be worth where it is only looked at: data that stay, or a list of one's own -/
def RepB (M : Md) (p : Rho) (H : Hp) (d : D) (v : V) : Prop := Rep M p H d v ∨ ∃ a x, v = .ref a ∧ a ∉ p.cs ∧ ownOf d = some x ∧ OwnR M p H a x
/-- a new list or dict that no one else has; else data that stay. H0: the heap ahead -/
def RepF (M : Md) (H0 : Hp) (p : Rho) (H : Hp) (d : D) (v : V) : Prop := match ownOf d with
  | some x => ∃ a, v = .ref a ∧ H0 a = none ∧ ¬ p.F a ∧ a ∉ p.cs ∧ OwnR M p H a x
  | none => Rep M p H d v
section
variable {M : Md} {p p' : Rho} {H H' H0 : Hp} {d : D} {v : V}
theorem RepB.of (h : Rep M p H d v) : RepB M p H d v := .inl h
theorem OwnR.step' (st : Step p H p' H') (hd : Apart p) {a : Addr} {x : Sl} (hn : a ∉ p.cs) (h : OwnR M p H a x) : a ∉ p'.cs ∧ OwnR M p' H' a x := by
  refine ⟨fun hm => ?_, h.step st hd hn⟩
  obtain ⟨m, e, hm'⟩ := st.cs
  rw [e] at hm
  rcases List.mem_append.mp hm with q | q
  · exact hn q
  · exact h.some_ (hm' a q)
theorem RepB.step (st : Step p H p' H') (hd : Apart p) (h : RepB M p H d v) : RepB M p' H' d v := by
  rcases h with h | ⟨a, x, e, hn, ho, hr⟩
  · exact .inl (h.step st hd)
  · obtain ⟨h1, h2⟩ := hr.step' st hd hn
    exact .inr ⟨a, x, e, h1, ho, h2⟩
theorem RepB.lst {ds : List D} (h : RepB M p H (.lst ds) v) : ∃ a vs, v = .ref a ∧ H a = some (.lst vs) ∧ RepL M p H ds vs := by
  rcases h with h | ⟨a, x, e, hn, ho, hr⟩
  · cases h with
    | lst h1 h2 h3 => exact ⟨_, _, rfl, h2, h3⟩
  · cases ho
    obtain ⟨vs, h1, h2⟩ := hr
    exact ⟨a, vs, e, h1, h2⟩
theorem RepB.dic {ks : List (Key × D)} (h : RepB M p H (.dic ks) v) : ∃ a hs, v = .ref a ∧ H a = some (.dK hs) ∧ hs.map (·.1) = ks.map (·.1) ∧ RepL M p H (ks.map (·.2)) (hs.map (·.2)) := by
  rcases h with h | ⟨a, x, e, hn, ho, hr⟩
  · cases h with
    | dic h1 h2 h3 h4 => exact ⟨_, _, rfl, h2, h3, h4⟩
  · cases ho
    obtain ⟨hs, h1, h2, h3⟩ := hr
    exact ⟨a, hs, e, h1, h2, h3⟩
theorem RepB.tup {ds : List D} (h : RepB M p H (.tup ds) v) : ∃ a vs, v = .ref a ∧ H a = some (.tup vs) ∧ RepL M p H ds vs := by
  rcases h with h | ⟨a, x, e, hn, ho, hr⟩
  · cases h with
    | tup h1 h2 h3 => exact ⟨_, _, rfl, h2, h3⟩
  · cases ho
theorem RepB.scr {ns : List Int} (h : RepB M p H (.scr ns) v) : ∃ a, v = .ref a ∧ SqL M.K H a (ns.map V.int) := by
  rcases h with h | ⟨a, x, e, hn, ho, hr⟩
  · cases h with
    | scr h =>
      rcases h with ⟨h1, o, h2⟩ | h
      · exact ⟨_, rfl, .inl (.inr ⟨o, h2⟩)⟩
      · exact ⟨_, rfl, .inr h⟩
  · cases ho
theorem RepB.flat (h : RepB M p H d v) (hd : ownOf d = none) : Rep M p H d v := by
  rcases h with h | ⟨a, x, e, hn, ho, hr⟩
  · exact h
  · rw [hd] at ho; cases ho
theorem RepB.int {i : Int} (h : RepB M p H (.int i) v) : v = .int i := by
  cases h.flat rfl; rfl
theorem RepB.bl {i : Bool} (h : RepB M p H (.bl i) v) : v = .bl i := by
  cases h.flat rfl; rfl
theorem RepB.str {i : Str} (h : RepB M p H (.str i) v) : v = .str i := by
  cases h.flat rfl; rfl
theorem RepB.non (h : RepB M p H .non v) : v = .non := by
  cases h.flat rfl; rfl
theorem Rep.v_non (h : Rep M p H .non v) : v = .non := by cases h; rfl
theorem Rep.isNon (h : Rep M p H d v) : decide (v = V.non) = d.isN := by
  cases h <;> simp [D.isN]
theorem RepB.isNon (h : RepB M p H d v) : decide (v = V.non) = d.isN := by
  rcases h with h | ⟨a, x, e, hn, ho, hr⟩
  · exact h.isNon
  · subst e
    cases d <;> first | (cases ho; done) | simp [D.isN]
theorem RepB.dp {K : PySem.W.Frag} {q : PyData} (h : RepB M p H d v) (e : d.py = some q) : Dp K H v q := by
  rcases h with h | ⟨a, x, e1, hn, ho, hr⟩
  · exact h.dp e
  · subst e1
    cases d with
    | lst ds =>
      cases ho
      obtain ⟨vs, h1, h2⟩ := hr
      unfold D.py at e
      cases q1 : D.py.pyL ds with
      | none => rw [q1] at e; cases e
      | some ps =>
        rw [q1] at e
        cases e
        exact .lst (.inl (.inl h1)) (RepL.dp h2 q1)
    | dic ks => cases e
    | _ => cases ho
theorem RepB.tru {K : PySem.W.Frag} {b : Bool} (h : RepB M p H d v) (e : dTru d = some b) : TruV K v H b := by
  cases d with
  | non => cases h.non; cases e; rfl
  | bl x => cases h.bl; cases e; rfl
  | int x => cases h.int; cases e; rfl
  | str x =>
    cases h.str
    unfold dTru at e
    simp only at e
    split at e
    · rename_i hz
      cases e
      exact ⟨okL_le hz, rfl⟩
    · cases e
  | tup xs =>
    obtain ⟨a, vs, rfl, h1, h2⟩ := h.tup
    cases e
    refine .inr (.inl ⟨vs, .inl (.inl h1), ?_⟩)
    cases h2 <;> rfl
  | lst xs =>
    obtain ⟨a, vs, rfl, h1, h2⟩ := h.lst
    cases e
    refine .inl ⟨vs, .inl (.inl h1), ?_⟩
    cases h2 <;> rfl
  | _ => cases e
theorem OwnR.rep : ∀ {x : Sl} {d : D} {a : Addr}, p.F a → ownOf d = some x → OwnR M p H a x → Rep M p H d (.ref a) := by
  intro x d a hF e h
  cases d with
  | lst ds =>
    cases e
    obtain ⟨vs, h1, h2⟩ := h
    exact .lst hF h1 h2
  | dic ks =>
    cases e
    obtain ⟨hs, h1, h2, h3⟩ := h
    exact .dic hF h1 h2 h3
  | _ => cases e
/-- a fresh one may be let stay -/
theorem RepF.stay {N : En} {env : Env} {σ : L2.St} {s s0 : Sto} (h : RepF M H0 p' H' d v) (o0 : Ok M N p env s0 σ H0) (st : Step p H0 p' H') (o : Ok M N p' env s σ H') : ∃ p2, Step p H0 p2 H' ∧ Ok M N p2 env s σ H' ∧ Rep M p2 H' d v := by
  unfold RepF at h
  cases e : ownOf d with
  | none =>
    rw [e] at h
    exact ⟨p', st, o, h⟩
  | some x =>
    rw [e] at h
    obtain ⟨a, rfl, h0, hF, hc, hr⟩ := h
    refine ⟨p'.fix a, st.fix h0, o.fix (o0.st.none_ h0) hc hr.some_ fun i y e1 hy e2 => (o0.own_some e1 hy e2).1 h0, ?_⟩
    exact OwnR.rep (.inr rfl) e (OwnR.wide (p' := p'.fix a) (fun _ q => Or.inl q) rfl hr)
end
/-! ### operators -/
def rSum3 (r1 r2 r3 : R2) : R2 := fun x y H Q => r1 x y H Q ∨ r2 x y H Q ∨ r3 x y H Q
abbrev rAddI : R2 := rI0 fun i j => .int (i + j)
abbrev rAddS : R2 := fun x y H Q => ∃ i j, x = .str i ∧ y = .str j ∧ i.length + j.length ≤ sizeLine ∧ Q (.str (i ++ j)) H
/-- t * x: t itself -/
theorem tmul_same (l : Addr) (its : Array Value) (n : Nat) (dd : Option Addr) (sl : Array (Option Value)) (x : Int) (u : Tok) (h0 : (decide (x < -(2 ^ 63)) || decide (x ≥ 2 ^ 63)) = false) (h1 : (its.isEmpty || x == 1) = true) :
    Meets (Builtin.«tuple.__mul__» ⟨[.ref l, .int x u], []⟩) (fun _ R s => s.heap.get? l = some { cls := .type "tuple", dict := dd, data := .seq its n, slots := sl } ∧ R (.ok (.ret (Value.ref l))) s) :=
  .of_wp fun prog w A R s h => by
    obtain ⟨hp, g, d, tk, os⟩ := s
    obtain ⟨hl, h⟩ := h
    have f1 := AutoSeq1.idx_int
    wp_walk using wpAny_loadPart' hl
    refine wpAny_ite_false (decide_eq_false (by rw [h0]; exact Bool.false_ne_true)) ?_
    wp_walk using wpAny_loadPart' hl
    exact ⟨_, rfl, h⟩
theorem tmul_none (l : Addr) (its : Array Value) (n : Nat) (dd : Option Addr) (sl : Array (Option Value)) (x : Int) (u : Tok) (h0 : (decide (x < -(2 ^ 63)) || decide (x ≥ 2 ^ 63)) = false) (h1 : (its.isEmpty || x == 1) = false) (h2 : (decide (x ≤ 0) || its.isEmpty) = true) :
    Meets (Builtin.«tuple.__mul__» ⟨[.ref l, .int x u], []⟩) (fun _ R s => s.heap.get? l = some { cls := .type "tuple", dict := dd, data := .seq its n, slots := sl } ∧
      R (.ok (.ret (Value.ref s.heap.objs.size))) { s with heap := s.heap.push { cls := Value.type "tuple", data := Data.seq #[] }, toks := s.toks }) :=
  .of_wp fun prog w A R s h => by
    obtain ⟨hp, g, d, tk, os⟩ := s
    obtain ⟨hl, h⟩ := h
    have f1 := AutoSeq1.idx_int
    wp_walk using wpAny_loadPart' hl
    refine wpAny_ite_false (decide_eq_false (by rw [h0]; exact Bool.false_ne_true)) ?_
    wp_walk using wpAny_loadPart' hl
    exact ⟨_, rfl, h⟩
/-- t * k -/
def rTMul (K : PySem.W.Frag) : R2 := fun x y H Q => ∃ l k xs, x = .ref l ∧ y = .int k ∧ SqT K H l xs ∧ -1000 ≤ k ∧ k ≤ 1000 ∧ xs.length ≤ 1000 ∧ ((xs = [] ∨ k = 1) → Q (.ref l) H) ∧
  (xs ≠ [] → k ≤ 0 → ∀ p, H p = none → Q (.ref p) (L2.upd H p (.tup []))) ∧ (xs ≠ [] → 2 ≤ k → ∀ p, H p = none → Q (.ref p) (L2.upd H p (.tup (List.replicate k.toNat xs).flatten)))
theorem op_tmul {X : Cx} : OpR X (binaryOp .Mult) (rTMul X.K) := by
  intro pins s σ H x y v u Q I rx ry h
  obtain ⟨l, k, xs, rfl, rfl, hT, k0, k1, hz, q0, q1, q2⟩ := h
  by_cases big : xs ≠ [] ∧ 2 ≤ k
  · exact op_repT pins s σ H _ _ v u Q I rx ry ⟨l, k, xs, rfl, rfl, hT, big.1, big.2, k1, hz, q2 big.1 big.2⟩
  cases rx
  obtain ⟨t, rfl⟩ := ry
  obtain ⟨its, r, ⟨⟨cls, dd, data, sl⟩, ho, hc, n, hd⟩, hs⟩ := I.tuple hT
  simp only at hc hd
  subst hc hd
  have hle : its.length = xs.length := r.length.symm
  have g0 : (decide (k < -(2 ^ 63)) || decide (k ≥ 2 ^ 63)) = false := by
    rw [decide_eq_false (by omega), decide_eq_false (by omega)]
    rfl
  have emp : its.toArray.isEmpty = decide (xs = []) := by
    cases its with
    | nil =>
      have : xs = [] := List.eq_nil_of_length_eq_zero (by rw [← hle]; rfl)
      rw [this]; rfl
    | cons a b =>
      cases xs with
      | nil => cases hle
      | cons _ _ => rfl
  have road : ∀ {Q1 : Value → Shared → Prop}, wpAny (model X.prog X.w) X.A (call (.builtin "tuple.__mul__") [.ref l, .int k t]) Q1 X.xe s → wpAny (model X.prog X.w) X.A (binaryOp .Mult (.ref l) (.int k t)) Q1 X.xe s := fun {Q1} z =>
    wpAny_binaryOp_repeat_ref (T := "tuple") (U := "int") (by decide) ⟨_, ho, rfl⟩ (fun s' => typeIs_int s' k t) noFill_tuple_mul F.fills_int_mul F.slot_int_rmul repeat_tuple F.slot_int_index.lookup
      (call_meets F.slot_int_rmul (typeIs_int s k t) F.entry_int_rmul (F.args_int_rmul_2 _ _) (int_rmul_tuple k t l its.toArray n dd sl) ⟨ho, rfl, ⟨_, ho, rfl⟩, z⟩)
  by_cases same : (its.toArray.isEmpty || k == 1) = true
  · refine road (call_meets F.slot_tuple_mul ⟨_, ho, rfl⟩ F.entry_tuple_mul (F.args_tuple_mul_2 _ _) (tmul_same l its.toArray n dd sl k t g0 same) ⟨ho, ?_⟩)
    refine ⟨.ref l, H, I, rfl, q0 ?_⟩
    rw [Bool.or_eq_true, emp] at same
    rcases same with z | z
    · exact .inl (of_decide_eq_true z)
    · exact .inr (eq_of_beq z)
  · have same : (its.toArray.isEmpty || k == 1) = false := by cases z : (its.toArray.isEmpty || k == 1) <;> first | rfl | exact absurd z same
    have parts := Bool.or_eq_false_iff.mp same
    rw [emp] at parts
    have ne : xs ≠ [] := of_decide_eq_false parts.1
    have n1 : k ≠ 1 := fun e => by rw [e] at parts; cases parts.2
    have low : k ≤ 0 := by
      rcases Int.lt_or_le k 2 with z | z
      · omega
      · exact absurd ⟨ne, z⟩ big
    refine road (call_meets F.slot_tuple_mul ⟨_, ho, rfl⟩ F.entry_tuple_mul (F.args_tuple_mul_2 _ _) (tmul_none l its.toArray n dd sl k t g0 same (by rw [decide_eq_true low]; rfl)) ⟨ho, ?_⟩)
    refine ⟨.ref s.heap.objs.size, _, I.laid (t' := s.toks) (o := .tup []) (fun b ob q => Heap.get?_push_of_some _ q) (Nat.le_refl _) ?_, rfl, q1 ne low _ (I.hok.fresh (Nat.le_refl _))⟩
    exact ⟨by decide, [], .nil, IsTup.new _ _⟩
/-- what an operator does, whatever the operands are -/
def opR (K : PySem.W.Frag) : Operator → R2
  | .Add => fun x y H Q => rAddI x y H Q ∨ rAddS x y H Q ∨ rCat x y H Q ∨ rCatA K x y H Q
  | .Sub => rI0 fun i j => .int (i - j)
  | .Mult => fun x y H Q => rI CMulW (fun i j => .int (i * j)) x y H Q ∨ rRep x y H Q ∨ rTMul K x y H Q
  | .FloorDiv => rI CDivW fun i j => .int (i / j)
  | .Mod => rI (fun _ j => 0 < j) fun i j => .int (i % j)
  | .Pow => rI CPow fun i j => .int (i ^ j.toNat)
  | _ => fun _ _ _ _ => False
theorem opR_ok (X : Cx) : ∀ o : Operator, OpR X (binaryOp o) (opR X.K o)
  | .Add => op_add.or (op_add_str.or (op_cat.or op_catA))
  | .Sub => op_sub
  | .Mult => op_mulW.or (op_rep.or op_tmul)
  | .FloorDiv => op_fdivW
  | .Mod => op_mod
  | .Pow => op_pow
  | .MatMult => fun _ _ _ _ _ _ _ _ _ _ _ _ h => h.elim
  | .Div => fun _ _ _ _ _ _ _ _ _ _ _ _ h => h.elim
  | .LShift => fun _ _ _ _ _ _ _ _ _ _ _ _ h => h.elim
  | .RShift => fun _ _ _ _ _ _ _ _ _ _ _ _ h => h.elim
  | .BitOr => fun _ _ _ _ _ _ _ _ _ _ _ _ h => h.elim
  | .BitXor => fun _ _ _ _ _ _ _ _ _ _ _ _ h => h.elim
  | .BitAnd => fun _ _ _ _ _ _ _ _ _ _ _ _ h => h.elim
section
variable {M : Md} {N : En} {W : WX} {env : Env} {σ : L2.St} {p : Rho} {H H0 : Hp} {s : Sto} {Q : VK}
/-- a value that is no object -/
theorem Rg.flatF {d : D} {v : V} (hg : Rg M N W env σ (RepF M H0) p H (.ok d s) Q) (o : Ok M N p env s σ H) (hd : ownOf d = none) (r : Rep M p H d v) : Q v H :=
  hg.done o (by unfold RepF; rw [hd]; exact r)
/-- a new list -/
theorem Rg.newL {ds : List D} {vs : List V} {a : Addr} (hg : Rg M N W env σ (RepF M H0) p H (.ok (.lst ds) s) Q) (o : Ok M N p env s σ H) (h0 : ∀ b, H b = none → H0 b = none) (hn : H a = none) (r : RepL M p H ds vs) : Q (.ref a) (upd H a (.lst vs)) := by
  have st : Step p H p (upd H a (.lst vs)) := Step.loose hn
  refine hg _ p _ st (o.loose hn) ⟨a, rfl, h0 a hn, fun hF => o.cells.tr a hF hn, fun hc => o.cells.some_ hc hn, vs, upd_same, r.step st o.cells.ap⟩
theorem Rg.newT {ds : List D} {vs : List V} {a : Addr} (hg : Rg M N W env σ (RepF M H0) p H (.ok (.tup ds) s) Q) (o : Ok M N p env s σ H) (hn : H a = none) (r : RepL M p H ds vs) : Q (.ref a) (upd H a (.tup vs)) := by
  have st : Step p H (p.fix a) (upd H a (.tup vs)) := Step.new hn
  refine hg _ (p.fix a) _ st (o.new hn) ?_
  show Rep M (p.fix a) (upd H a (.tup vs)) (.tup ds) (.ref a)
  exact .tup (.inr rfl) upd_same (r.step st o.cells.ap)
theorem okL_add {a b : Nat} (h : okL (a + b) = true) : a + b ≤ sizeLine := okL_le h
theorem bin_res {K : PySem.W.Frag} {o : Operator} {x y : D} {v u : V} (k : Ok M N p env s σ H) (h0 : ∀ b, H b = none → H0 b = none) (rx : RepB M p H x v) (ry : RepB M p H y u) (hg : Rg M N W env σ (RepF M H0) p H (lift (dBin o x y) s) Q) : opR K o v u H Q := by
  obtain ⟨z, hz, hg⟩ := hg.lift
  cases o with
  | Add =>
    have hz : dAdd x y = some z := hz
    unfold dAdd at hz
    split at hz
    · cases hz
      exact .inl ⟨_, _, rx.int, ry.int, hg.flatF k rfl (.int _)⟩
    · split at hz
      · rename_i hl
        cases hz
        exact .inr (.inl ⟨_, _, rx.str, ry.str, okL_le hl, hg.flatF k rfl (.str _)⟩)
      · cases hz
    · split at hz
      · rename_i hl
        cases hz
        obtain ⟨a, vs, rfl, h1, h2⟩ := rx.lst
        obtain ⟨b, us, rfl, h3, h4⟩ := ry.lst
        refine .inr (.inr (.inl ⟨a, b, vs, us, rfl, rfl, h1, h3, ?_, fun q hq => hg.newL k h0 hq (h2.append h4)⟩))
        rw [← h2.length, ← h4.length]
        exact okL_le hl
      · cases hz
    · split at hz
      · rename_i hl
        cases hz
        obtain ⟨a, vs, rfl, h1, h2⟩ := rx.tup
        obtain ⟨b, us, rfl, h3, h4⟩ := ry.tup
        have e1 := h2.length
        have e2 := h4.length
        refine .inr (.inr (.inr ⟨a, b, vs, us, rfl, rfl, .inl (.inl h1), .inl (.inl h3), by rw [← e1, ← e2]; exact okL_le hl, fun q => ?_, fun q q2 => ?_, fun _ _ q hq => hg.newT k hq (h2.append h4)⟩))
        · subst q
          cases h2
          exact hg.flatF k rfl (ry.flat rfl)
        · subst q2
          cases h4
          rw [List.append_nil] at hg
          exact hg.flatF k rfl (rx.flat rfl)
      · cases hz
    · cases hz
  | Mult =>
    have hz : dMul x y = some z := hz
    unfold dMul at hz
    split at hz
    · split at hz
      · rename_i hl
        cases hz
        exact .inl ⟨_, _, rx.int, ry.int, hl, hg.flatF k rfl (.int _)⟩
      · cases hz
    · split at hz
      · rename_i hl
        cases hz
        obtain ⟨a, vs, rfl, h1, h2⟩ := rx.lst
        refine .inr (.inl ⟨a, _, vs, rfl, ry.int, h1, by omega, by omega, ?_, fun q hq => hg.newL k h0 hq (h2.flatten_rep _)⟩)
        rw [← h2.length]
        exact okL_le hl.2.2
      · cases hz
    · rename_i ds n _
      split at hz
      · rename_i hl
        cases hz
        obtain ⟨a, vs, rfl, h1, h2⟩ := rx.tup
        have e1 := h2.length
        refine .inr (.inr ⟨a, n, vs, rfl, ry.int, .inl (.inl h1), hl.1, hl.2.1, by omega, fun q => ?_, fun _ q1 q hq => ?_, fun _ _ q hq => hg.newT k hq (h2.flatten_rep _)⟩)
        · have e : (List.replicate n.toNat ds).flatten = ds := by
            rcases q with q | q
            · subst q
              cases h2
              simp
            · subst q
              simp [List.replicate]
          rw [e] at hg
          exact hg.flatF k rfl (rx.flat rfl)
        · have e : (List.replicate n.toNat ds).flatten = [] := by
            have : n.toNat = 0 := by omega
            rw [this]
            rfl
          rw [e] at hg
          exact hg.newT k hq .nil
      · cases hz
    · cases hz
  | Sub =>
    have hz : dSub x y = some z := hz
    unfold dSub at hz
    split at hz
    · cases hz
      exact ⟨_, _, rx.int, ry.int, hg.flatF k rfl (.int _)⟩
    · cases hz
  | FloorDiv =>
    have hz : dDiv x y = some z := hz
    unfold dDiv at hz
    split at hz
    · split at hz
      · rename_i hl
        cases hz
        exact ⟨_, _, rx.int, ry.int, hl, hg.flatF k rfl (.int _)⟩
      · cases hz
    · cases hz
  | Mod =>
    have hz : dMod x y = some z := hz
    unfold dMod at hz
    split at hz
    · split at hz
      · rename_i hl
        cases hz
        exact ⟨_, _, rx.int, ry.int, hl, hg.flatF k rfl (.int _)⟩
      · cases hz
    · cases hz
  | Pow =>
    have hz : dPow x y = some z := hz
    unfold dPow at hz
    split at hz
    · split at hz
      · rename_i hl
        cases hz
        exact ⟨_, _, rx.int, ry.int, hl, hg.flatF k rfl (.int _)⟩
      · cases hz
    · cases hz
  | _ => cases hz
theorem op_eq_str {X : Cx} : OpR X (compareOp .Eq) (fun x y H Q => ∃ a b : Str, x = .str a ∧ y = .str b ∧ Q (.bl (a.cps.toList == b.cps.toList)) H) := by
  intro pins s σ H x y v u Q I rx ry h
  obtain ⟨c, z, rfl, rfl, q⟩ := h
  obtain ⟨t, rfl⟩ := rx
  obtain ⟨t', rfl⟩ := ry
  exact PySem.P.eq_str (fin_bl I q rfl)
theorem op_ne_str {X : Cx} : OpR X (compareOp .NotEq) (fun x y H Q => ∃ a b : Str, x = .str a ∧ y = .str b ∧ Q (.bl (!(a.cps.toList == b.cps.toList))) H) := by
  intro pins s σ H x y v u Q I rx ry h
  obtain ⟨c, z, rfl, rfl, q⟩ := h
  obtain ⟨t, rfl⟩ := rx
  obtain ⟨t', rfl⟩ := ry
  exact PySem.P.ne_str (fin_bl I q rfl)
/-- what a comparison does -/
def cmpR (K : PySem.W.Frag) : CmpOp → R2
  | .Lt => rI0 fun i j => .bl (decide (i < j))
  | .LtE => rI0 fun i j => .bl (decide (i ≤ j))
  | .Gt => rI0 fun i j => .bl (decide (j < i))
  | .GtE => rI0 fun i j => .bl (decide (j ≤ i))
  | .Eq => fun x y H Q => rEqD K x y H Q ∨ ∃ a b : Str, x = .str a ∧ y = .str b ∧ Q (.bl (a.cps.toList == b.cps.toList)) H
  | .NotEq => fun x y H Q => rNeD K x y H Q ∨ ∃ a b : Str, x = .str a ∧ y = .str b ∧ Q (.bl (!(a.cps.toList == b.cps.toList))) H
  | .Is => fun x y H Q => (y = .non ∧ Q (.bl (decide (x = .non))) H) ∨ rIsB x y H Q
  | .IsNot => fun x y H Q => (y = .non ∧ Q (.bl (!decide (x = .non))) H) ∨ rNotB x y H Q
  | .In => fun x y H Q => rInD K x y H Q ∨ ∃ (c : Nat) (z : Str), x = .str ⟨#[c]⟩ ∧ y = .str z ∧ Q (.bl (decide (c ∈ z.cps.toList))) H
  | .NotIn => fun x y H Q => rNotInD K x y H Q ∨ ∃ (c : Nat) (z : Str), x = .str ⟨#[c]⟩ ∧ y = .str z ∧ Q (.bl (!decide (c ∈ z.cps.toList))) H
theorem cmpR_ok (X : Cx) (hu : X.A.units + 65 < cLine) : ∀ o : CmpOp, OpR X (compareOp o) (cmpR X.K o)
  | .Lt => op_lt
  | .LtE => op_le
  | .Gt => op_gt
  | .GtE => op_ge
  | .Eq => (op_eqD (by omega)).or op_eq_str
  | .NotEq => (op_neD (by omega)).or op_ne_str
  | .Is => op_isN.or op_isBl
  | .IsNot => op_notN.or op_notBl
  | .In => (op_inD hu).or op_in_sign
  | .NotIn => (op_notInD hu).or op_notIn_sign
theorem dEq_two {x y : D} {b : Bool} (h : dEq x y = some b) : dEqD x y = some b ∨ ∃ a z, x = .str a ∧ y = .str z ∧ b = (a.cps.toList == z.cps.toList) := by
  unfold dEq at h
  split at h
  · cases h
    exact .inr ⟨_, _, rfl, rfl, rfl⟩
  · exact .inl h
theorem dEq_ok {x y : D} {b : Bool} (h : dEqD x y = some b) : ∃ q r, x.py = some q ∧ y.py = some r ∧ SeqAt.shaped q = true ∧ SeqAt.shaped r = true ∧ b = PyData.eqv q r := by
  unfold dEqD at h
  cases e1 : x.py with
  | none => rw [e1] at h; cases h
  | some q =>
    cases e2 : y.py with
    | none => rw [e1, e2] at h; cases h
    | some r =>
      rw [e1, e2] at h
      simp only at h
      split at h
      · rename_i hs
        cases h
        rw [Bool.and_eq_true] at hs
        exact ⟨q, r, rfl, rfl, hs.1, hs.2, rfl⟩
      · cases h
theorem str_one : ∀ {x : Str} {c : Nat}, x.cps.toList = [c] → x = ⟨#[c]⟩
  | ⟨⟨l⟩⟩, c, e => by
    have e : l = [c] := e
    rw [e]
theorem dIn_ok {x y : D} {b : Bool} (h : dIn x y = some b) : (∃ q qs, x.py = some q ∧ y.py = some (.list qs) ∧ SeqAt.shaped q = true ∧ SeqAt.shaped (.list qs) = true ∧ b = qs.any fun z => PyData.eqv z q) ∨ ∃ c z, x = .str ⟨#[c]⟩ ∧ y = .str z ∧ b = decide (c ∈ z.cps.toList) := by
  unfold dIn at h
  split at h
  · split at h
    · rename_i e1 e2
      split at h
      · rename_i hs
        cases h
        rw [Bool.and_eq_true] at hs
        exact .inl ⟨_, _, e1, e2, hs.1, hs.2, rfl⟩
      · cases h
    · cases h
  · split at h
    · rename_i a z l c e
      cases h
      refine .inr ⟨c, _, ?_, rfl, rfl⟩
      exact congrArg D.str (str_one e)
    · cases h
  · cases h
theorem cmp_res {K : PySem.W.Frag} {o : CmpOp} {x y : D} {v u : V} {b : Bool} (rx : RepB M p H x v) (ry : RepB M p H y u) (h : dCmp o x y = some b) (hq : Q (.bl b) H) : cmpR K o v u H Q := by
  cases o with
  | Eq =>
    rcases dEq_two (show dEq x y = some b by cases x <;> cases y <;> exact h) with h | ⟨a, z, rfl, rfl, rfl⟩
    · obtain ⟨q, r, e1, e2, s1, s2, rfl⟩ := dEq_ok h
      exact .inl ⟨q, r, rx.dp e1, ry.dp e2, s1, s2, hq⟩
    · exact .inr ⟨a, z, rx.str, ry.str, hq⟩
  | NotEq =>
    have h : (dEq x y).map (!·) = some b := by cases x <;> cases y <;> exact h
    cases e : dEq x y with
    | none => rw [e] at h; cases h
    | some c =>
      rw [e] at h
      cases h
      rcases dEq_two e with e | ⟨a, z, rfl, rfl, rfl⟩
      · obtain ⟨q, r, e1, e2, s1, s2, rfl⟩ := dEq_ok e
        exact .inl ⟨q, r, rx.dp e1, ry.dp e2, s1, s2, hq⟩
      · exact .inr ⟨a, z, rx.str, ry.str, hq⟩
  | In =>
    rcases dIn_ok (show dIn x y = some b by cases x <;> cases y <;> exact h) with ⟨q, qs, e1, e2, s1, s2, rfl⟩ | ⟨c, z, rfl, rfl, rfl⟩
    · exact .inl ⟨q, qs, rx.dp e1, ry.dp e2, s1, s2, hq⟩
    · exact .inr ⟨c, z, rx.str, ry.str, hq⟩
  | NotIn =>
    have h : (dIn x y).map (!·) = some b := by cases x <;> cases y <;> exact h
    cases e : dIn x y with
    | none => rw [e] at h; cases h
    | some c =>
      rw [e] at h
      cases h
      rcases dIn_ok e with ⟨q, qs, e1, e2, s1, s2, rfl⟩ | ⟨c, z, rfl, rfl, rfl⟩
      · exact .inl ⟨q, qs, rx.dp e1, ry.dp e2, s1, s2, hq⟩
      · exact .inr ⟨c, z, rx.str, ry.str, hq⟩
  | Is =>
    cases y <;> try (cases x <;> cases h; done)
    · have e : b = x.isN := by cases x <;> (cases h; rfl)
      subst e
      refine .inl ⟨ry.non, ?_⟩
      rw [rx.isNon]
      exact hq
    · cases x <;> try (cases h; done)
      cases h
      exact .inr ⟨_, _, rx.bl, ry.bl, hq⟩
  | IsNot =>
    cases y <;> try (cases x <;> cases h; done)
    · have e : b = !x.isN := by cases x <;> (cases h; rfl)
      subst e
      refine .inl ⟨ry.non, ?_⟩
      rw [rx.isNon]
      exact hq
    · cases x <;> try (cases h; done)
      cases h
      exact .inr ⟨_, _, rx.bl, ry.bl, hq⟩
  | _ =>
    cases x <;> try (cases h; done)
    all_goals cases y <;> try (cases h; done)
    all_goals cases h
    exact ⟨_, _, rx.int, ry.int, hq⟩
end
end Lv
set_option Elab.async false
set_option linter.all false
set_option maxRecDepth 100000
set_option maxHeartbeats 4000000
/-! Lv3s: sum of a tuple of ints. -/
namespace Lv
open PySem PySem.Spec PyProof.Rows L2
theorem sum_tupI {prog : Program} {w : World} {A : Around} {E : Value → Shared → Prop} {s : Shared} {a : Addr} {xs : Array (Int × Tok)} {Q : Value → Shared → Prop} (hh : A.handled = none) (hl : s.heap.IsTuple a (intItems xs))
    (h : ∀ h2 tk t2, (∀ b o, s.heap.get? b = some o → h2.get? b = some o) → Q (.int (preSum (numAt xs) xs.size) t2) { s with heap := h2, toks := tk }) : wpAny (model prog w) A (call (.builtin "sum") [.ref a]) Q E s := by
  have lt : a < s.heap.objs.size := by obtain ⟨_, e, _⟩ := hl; exact Heap.lt_size e
  refine call_sum_walkG (wpAny_pyIter_tuple hl ?_)
  refine ⟨_, _, _, _, _, _, numAt xs, rfl, Walks.tuple (A := A.in1) hh s.heap.objs.size a (Nat.ne_of_lt lt) (intItems xs), ⟨⟨_, Heap.get?_push_size _ rfl, rfl, rfl⟩, Heap.IsTuple.at hl fun o e => Heap.get?_push_of_some _ e⟩, fun b hb => ?_, (fun _ _ => intItems_at), fun h2 tk t2 hk => ?_⟩
  · show b < (s.heap.push _).objs.size
    rw [Heap.size_push]
    rcases (show b = s.heap.objs.size ∨ b = a by simpa using hb) with rfl | rfl
    · exact Nat.lt_succ_self _
    · exact Nat.lt_succ_of_lt lt
  · have z := h h2 tk t2 fun b o e => hk b o (by
      have : b < s.heap.objs.size := Heap.lt_size e
      simp
      exact Nat.ne_of_lt this) (Heap.get?_push_of_some _ e)
    simpa [intItems] using z
def rSumT (K : PySem.W.Frag) : List V → Hp → VK → Prop := fun vs H Q => ∃ (a : Addr) (ns : List Int), vs = [V.ref a] ∧ SqT K H a (ns.map V.int) ∧ Q (.int ns.sum) H
theorem cr_sumT {X : Cx} (hc : X.calm = true) : CallR X (.builtin "sum") (rSumT X.K) := by
  rintro pins s σ H vs us Q I r ⟨a, ns, rfl, hs, q⟩
  obtain ⟨its, rv, hl, _⟩ := I.tuple hs
  rw [Vals.ref1 r]
  have hi := rv.ints
  obtain ⟨xs, e⟩ := hi.allInts.items
  have hn : numsOf (intItems xs).toList = ns := by rw [← e]; exact hi.numsOf
  rw [nums_intItems] at hn
  have hl2 : s.heap.IsTuple a its.toArray := hl
  rw [e] at hl2
  refine sum_tupI (I.ok.hd hc) hl2 fun h2 tk t2 hk => ⟨.int ns.sum, H, I.kept hk, ⟨t2, ?_⟩, q⟩
  rw [preSum_eq, List.take_of_length_le (by simp), hn]
end Lv
set_option Elab.async false
set_option linter.all false
set_option maxRecDepth 100000
set_option maxHeartbeats 4000000
/-! Lv4: built-in functions over plain data. -/
namespace Lv
open PySem PySem.Spec PyProof.Rows L2
/-! ### data below the dicts have none -/
mutual
theorem noDict {K : PySem.W.Frag} {H : Hp} : ∀ {v : V} {d : PyData}, Dp K H v d → d.hasDict = false
  | _, _, .non => by simp [PyData.hasDict]
  | _, _, .bl b => by simp [PyData.hasDict]
  | _, _, .int i => by simp [PyData.hasDict]
  | _, _, .str x => by simp [PyData.hasDict]
  | _, _, .lst h k => by simp only [PyData.hasDict]; exact noDicts k
  | _, _, .tup h k => by simp only [PyData.hasDict]; exact noDicts k
theorem noDicts {K : PySem.W.Frag} {H : Hp} : ∀ {v : List V} {d : List PyData}, DpAll K H v d → PyData.hasDictAll d = false
  | _, _, .nil => by simp [PyData.hasDictAll]
  | _, _, .cons h k => by simp only [PyData.hasDictAll, noDict h, noDicts k, Bool.or_false]
end
def rRepr (K : PySem.W.Frag) : List V → Hp → VK → Prop := fun vs H Q => ∃ v q, vs = [v] ∧ Dp K H v q ∧ q.showable = true ∧ q.shown.length ≤ sizeLine ∧ q.depth ≤ 64 ∧ Q (.str q.shown) H
section
variable {X : Cx}
theorem call_reprD (hg : X.A.guards = some []) (hu : X.A.units + 100 < cLine) : CallR X (.builtin "repr") (rRepr X.K) := by
  intro pins s σ H vs us Q I r h
  obtain ⟨v, q, rfl, hd, hs, hz, hp, hq⟩ := h
  obtain ⟨u, rfl, ru⟩ := vals1 r
  obtain ⟨as, rd⟩ := Dp.reads I q v u hd ru
  have nd := noDict hd
  cases rd with
  | none => exact PySem.P.repr_of_none ⟨.str _, H, I.tok _, ⟨_, rfl⟩, hq⟩
  | bool b => exact PySem.P.repr_of_bool ⟨.str _, H, I.tok _, ⟨_, rfl⟩, hq⟩
  | int i t => exact PySem.P.repr_of_int (of_decide_eq_true (by simpa only [PyData.showable] using hs)) ⟨.str _, H, I.tok _, ⟨_, rfl⟩, hq⟩
  | str x t => exact PySem.P.repr_of_str ⟨.str _, H, I.tok _, ⟨_, rfl⟩, hq⟩
  | list h1 h2 h3 h4 =>
    refine repr_of_reads' (h₀ := s.heap) (Reads.list h1 h2 h3 h4) hs (fun z => by rw [nd] at z; cases z) hg (by omega) (fun _ _ e => e) (fun h' w tk hk => ?_) hz
    exact ⟨.str _, H, I.kept hk, ⟨_, rfl⟩, hq⟩
  | tuple h1 h2 h3 h4 =>
    refine repr_of_reads' (h₀ := s.heap) (Reads.tuple h1 h2 h3 h4) hs (fun z => by rw [nd] at z; cases z) hg (by omega) (fun _ _ e => e) (fun h' w tk hk => ?_) hz
    exact ⟨.str _, H, I.kept hk, ⟨_, rfl⟩, hq⟩
  | dict h1 h2 h3 h4 h5 => cases hd
end
/-! ### the table of built-in functions -/
def biV : Bi → Value
  | .len => .builtin "len" | .int => .type "int" | .str => .type "str" | .repr => .builtin "repr"
  | .max => .builtin "max" | .min => .builtin "min" | .sum => .builtin "sum" | .abs => .builtin "abs"
  | .tuple => .type "tuple" | .list => .type "list" | .sorted => .builtin "sorted" | .divmod => .builtin "divmod"
  | .all => .builtin "all" | .any => .builtin "any" | .bool => .type "bool"
def biN : Bi → Str
  | .len => "len" | .int => "int" | .str => "str" | .repr => "repr" | .max => "max" | .min => "min" | .sum => "sum" | .abs => "abs"
  | .tuple => "tuple" | .list => "list" | .sorted => "sorted" | .divmod => "divmod" | .all => "all" | .any => "any" | .bool => "bool"
theorem bi_boot : ∀ b : Bi, bootBuiltins (biN b) = some (biV b) := by
  intro b
  cases b <;> decide +kernel
theorem bi_name : ∀ b : Bi, biN b ≠ "__name__" ∧ (biN b == ("__debug__" : Str)) = false := by
  intro b
  cases b <;> decide
abbrev RL := List V → Hp → VK → Prop
def orR (r r' : RL) : RL := fun xs H Q => r xs H Q ∨ r' xs H Q
/-- what a built-in function does -/
def biR (K : PySem.W.Frag) : Bi → RL
  | .len => fun xs H Q => ∃ x n, xs = [x] ∧ LenV K x H n ∧ Q (.int n) H
  | .int => orR (fun xs H Q => (∃ i, xs = [.int i] ∧ Q (.int i) H) ∨ ∃ k, xs = [.bl k] ∧ Q (.int (if k then 1 else 0)) H) fun xs H Q => ∃ a n, xs = [.str a] ∧ PySem.intText? a = some n ∧ a.length ≤ 640 ∧ Q (.int n) H
  | .str => fun xs H Q => ∃ i, xs = [.int i] ∧ i.natAbs.log2 < 1920 ∧ Q (.str (toString i)) H
  | .repr => rRepr K
  | .max => orR (fun xs H Q => ∃ i j, xs = [.int i, .int j] ∧ Q (.int (if j > i then j else i)) H) (rMax K)
  | .min => orR (fun xs H Q => ∃ i j, xs = [.int i, .int j] ∧ Q (.int (if j < i then j else i)) H) (rMin K)
  | .sum => orR (rSum K) (rSumT K)
  | .abs => fun xs H Q => ∃ i, xs = [.int i] ∧ Q (.int (if i < 0 then -i else i)) H
  | .tuple => fun xs H Q => ∃ p ys, xs = [.ref p] ∧ ((SqL K H p ys ∧ ∀ l, H l = none → Q (.ref l) (upd H l (.tup ys))) ∨ (SqT K H p ys ∧ Q (.ref p) H))
  | .list => fun xs H Q => ∃ p ys, xs = [.ref p] ∧ (SqL K H p ys ∨ SqT K H p ys) ∧ ∀ l, H l = none → Q (.ref l) (upd H l (.lst ys))
  | .divmod => fun xs H Q => ∃ i j, xs = [.int i, .int j] ∧ CDivP i j ∧ ∀ p, H p = none → Q (.ref p) (upd H p (.tup [.int (i / j), .int (i % j)]))
  | .all => rAll K
  | .any => rAny K
  | .bool => fun xs H Q => (∃ i, xs = [.int i] ∧ Q (.bl (i != 0)) H) ∨ ∃ k, xs = [.bl k] ∧ Q (.bl k) H
  | .sorted => fun _ _ _ => False
theorem biR_ok {X : Cx} (hc : X.calm = true) (hg : X.A.guards = some []) (hu : X.A.units + 100 < cLine) : ∀ b : Bi, CallR X (biV b) (biR X.K b)
  | .len => call_len
  | .int => call_int1.or call_int_str
  | .str => call_str_int
  | .repr => call_reprD hg hu
  | .max => (call_max2 hc).or (cr_max hc)
  | .min => (call_min2 hc).or (cr_min hc)
  | .sum => (cr_sum hc).or (cr_sumT hc)
  | .abs => call_abs
  | .tuple => call_tuple_of
  | .list => call_list_of
  | .divmod => call_divmodW
  | .all => cr_all hc
  | .any => cr_any hc
  | .bool => call_bool1
  | .sorted => fun _ _ _ _ _ _ _ _ _ h => h.elim
/-- values that are only looked at, one for one -/
def RepBs (M : Md) (p : Rho) (H : Hp) (ds : List D) (vs : List V) : Prop := Paired (RepB M p H) ds vs
theorem maxI_ok {ns : List Int} {m : Int} (h : maxI ns = some m) : m ∈ ns ∧ ∀ y ∈ ns, y ≤ m := by
  cases ns with
  | nil => cases h
  | cons a l =>
    have h : l.foldl (fun m x => if m < x then x else m) a = m := Option.some.inj h
    subst h
    have key : ∀ (l : List Int) (a : Int), (l.foldl (fun m x => if m < x then x else m) a = a ∨ l.foldl (fun m x => if m < x then x else m) a ∈ l) ∧ a ≤ l.foldl (fun m x => if m < x then x else m) a ∧ ∀ y ∈ l, y ≤ l.foldl (fun m x => if m < x then x else m) a := by
      intro l
      induction l with
      | nil => intro a; exact ⟨.inl rfl, Int.le_refl _, fun _ h => by simp at h⟩
      | cons b l ih =>
        intro a
        rw [List.foldl_cons]
        obtain ⟨h1, h2, h3⟩ := ih (if a < b then b else a)
        by_cases hab : a < b
        · rw [if_pos hab] at h1 h2 h3 ⊢
          refine ⟨?_, by omega, fun y hy => ?_⟩
          · rcases h1 with h1 | h1
            · exact .inr (by rw [h1]; exact List.mem_cons_self)
            · exact .inr (List.mem_cons_of_mem _ h1)
          · rcases List.mem_cons.mp hy with e | hy
            · subst e; omega
            · exact h3 y hy
        · rw [if_neg hab] at h1 h2 h3 ⊢
          refine ⟨?_, by omega, fun y hy => ?_⟩
          · rcases h1 with h1 | h1
            · exact .inl h1
            · exact .inr (List.mem_cons_of_mem _ h1)
          · rcases List.mem_cons.mp hy with e | hy
            · subst e; omega
            · exact h3 y hy
    obtain ⟨h1, h2, h3⟩ := key l a
    refine ⟨?_, fun y hy => ?_⟩
    · rcases h1 with h1 | h1
      · rw [h1]; exact List.mem_cons_self
      · exact List.mem_cons_of_mem _ h1
    · rcases List.mem_cons.mp hy with rfl | hy
      · exact h2
      · exact h3 y hy
theorem minI_ok {ns : List Int} {m : Int} (h : minI ns = some m) : m ∈ ns ∧ ∀ y ∈ ns, m ≤ y := by
  cases ns with
  | nil => cases h
  | cons a l =>
    have h : l.foldl (fun m x => if x < m then x else m) a = m := Option.some.inj h
    subst h
    have key : ∀ (l : List Int) (a : Int), (l.foldl (fun m x => if x < m then x else m) a = a ∨ l.foldl (fun m x => if x < m then x else m) a ∈ l) ∧ l.foldl (fun m x => if x < m then x else m) a ≤ a ∧ ∀ y ∈ l, l.foldl (fun m x => if x < m then x else m) a ≤ y := by
      intro l
      induction l with
      | nil => intro a; exact ⟨.inl rfl, Int.le_refl _, fun _ h => by simp at h⟩
      | cons b l ih =>
        intro a
        rw [List.foldl_cons]
        obtain ⟨h1, h2, h3⟩ := ih (if b < a then b else a)
        by_cases hab : b < a
        · rw [if_pos hab] at h1 h2 h3 ⊢
          refine ⟨?_, by omega, fun y hy => ?_⟩
          · rcases h1 with h1 | h1
            · exact .inr (by rw [h1]; exact List.mem_cons_self)
            · exact .inr (List.mem_cons_of_mem _ h1)
          · rcases List.mem_cons.mp hy with e | hy
            · subst e; omega
            · exact h3 y hy
        · rw [if_neg hab] at h1 h2 h3 ⊢
          refine ⟨?_, by omega, fun y hy => ?_⟩
          · rcases h1 with h1 | h1
            · exact .inl h1
            · exact .inr (List.mem_cons_of_mem _ h1)
          · rcases List.mem_cons.mp hy with e | hy
            · subst e; omega
            · exact h3 y hy
    obtain ⟨h1, h2, h3⟩ := key l a
    refine ⟨?_, fun y hy => ?_⟩
    · rcases h1 with h1 | h1
      · rw [h1]; exact List.mem_cons_self
      · exact List.mem_cons_of_mem _ h1
    · rcases List.mem_cons.mp hy with rfl | hy
      · exact h2
      · exact h3 y hy
section
variable {M : Md} {N : En} {W : WX} {env : Env} {σ : L2.St} {p : Rho} {H H0 : Hp} {s : Sto} {Q : VK}
/-- a new tuple stays -/
theorem vals_of1 {d : D} {vs : List V} (h : RepBs M p H [d] vs) : ∃ v, vs = [v] ∧ RepB M p H d v := by
  cases h with
  | cons h1 h2 => cases h2; exact ⟨_, rfl, h1⟩
theorem vals_of2 {d e : D} {vs : List V} (h : RepBs M p H [d, e] vs) : ∃ v u, vs = [v, u] ∧ RepB M p H d v ∧ RepB M p H e u := by
  cases h with
  | cons h1 h2 =>
    obtain ⟨u, rfl, h3⟩ := vals_of1 h2
    exact ⟨_, _, rfl, h1, h3⟩
theorem dRepr_ok {d z : D} (h : dRepr d = some z) : ∃ q, d.py = some q ∧ q.showable = true ∧ q.shown.length ≤ sizeLine ∧ q.depth ≤ 64 ∧ z = .str q.shown := by
  unfold dRepr at h
  cases e : d.py with
  | none => rw [e] at h; cases h
  | some q =>
    rw [e] at h
    simp only at h
    split at h
    · rename_i hs
      cases h
      simp only [Bool.and_eq_true] at hs
      exact ⟨q, rfl, hs.1.1, okL_le hs.1.2, of_decide_eq_true hs.2, rfl⟩
    · cases h
theorem bi_res {K : PySem.W.Frag} (hK : M.K = K) {b : Bi} {ds : List D} {vs : List V} (k : Ok M N p env s σ H) (h0 : ∀ b, H b = none → H0 b = none) (r : RepBs M p H ds vs) (hg : Rg M N W env σ (RepF M H0) p H (lift (dBi b ds) s) Q) : biR K b vs H Q := by
  obtain ⟨z, hz, hg⟩ := hg.lift
  unfold dBi at hz
  split at hz
  all_goals first | (cases hz; done) | skip
  · obtain ⟨v, rfl, rv⟩ := vals_of1 r
    obtain ⟨a, us, rfl, h1, h2⟩ := rv.lst
    cases hz
    refine ⟨_, _, rfl, .inl ⟨us, .inl (.inl h1), rfl⟩, ?_⟩
    rw [← h2.length]
    exact hg.flatF k rfl (.int _)
  · obtain ⟨v, rfl, rv⟩ := vals_of1 r
    obtain ⟨a, us, rfl, h1, h2⟩ := rv.tup
    cases hz
    refine ⟨_, _, rfl, .inr ⟨us, .inl (.inl h1), rfl⟩, ?_⟩
    rw [← h2.length]
    exact hg.flatF k rfl (.int _)
  · obtain ⟨v, rfl, rv⟩ := vals_of1 r
    obtain ⟨a, rfl, h1⟩ := rv.scr
    cases hz
    refine ⟨_, _, rfl, .inl ⟨_, hK ▸ h1, rfl⟩, ?_⟩
    rw [List.length_map]
    exact hg.flatF k rfl (.int _)
  · obtain ⟨v, rfl, rv⟩ := vals_of1 r
    split at hz
    · rename_i hl
      cases hz
      cases rv.str
      exact ⟨_, _, rfl, ⟨okL_le hl, rfl⟩, hg.flatF k rfl (.int _)⟩
    · cases hz
  · obtain ⟨v, rfl, rv⟩ := vals_of1 r
    cases hz
    cases rv.int
    exact .inl (.inl ⟨_, rfl, hg.flatF k rfl (.int _)⟩)
  · obtain ⟨v, rfl, rv⟩ := vals_of1 r
    cases hz
    cases rv.bl
    exact .inl (.inr ⟨_, rfl, hg.flatF k rfl (.int _)⟩)
  · obtain ⟨v, rfl, rv⟩ := vals_of1 r
    split at hz
    · rename_i n e
      split at hz
      · rename_i hl
        cases hz
        cases rv.str
        exact .inr ⟨_, _, rfl, e, hl, hg.flatF k rfl (.int _)⟩
      · cases hz
    · cases hz
  · obtain ⟨v, rfl, rv⟩ := vals_of1 r
    split at hz
    · rename_i hl
      cases hz
      cases rv.int
      exact ⟨_, rfl, hl, hg.flatF k rfl (.str _)⟩
    · cases hz
  · obtain ⟨v, rfl, rv⟩ := vals_of1 r
    obtain ⟨q, e1, e2, e3, e4, rfl⟩ := dRepr_ok hz
    exact ⟨v, q, rfl, rv.dp e1, e2, e3, e4, hg.flatF k rfl (.str _)⟩
  · obtain ⟨v, u, rfl, rv, ru⟩ := vals_of2 r
    cases hz
    cases rv.int
    cases ru.int
    exact .inl ⟨_, _, rfl, hg.flatF k rfl (.int _)⟩
  · obtain ⟨v, u, rfl, rv, ru⟩ := vals_of2 r
    cases hz
    cases rv.int
    cases ru.int
    exact .inl ⟨_, _, rfl, hg.flatF k rfl (.int _)⟩
  · obtain ⟨v, rfl, rv⟩ := vals_of1 r
    obtain ⟨a, us, rfl, h1, h2⟩ := rv.lst
    split at hz
    · rename_i ns e
      cases q : maxI ns with
      | none => rw [q] at hz; cases hz
      | some m =>
        rw [q] at hz
        cases hz
        have e2 := h2.ints e
        subst e2
        obtain ⟨g1, g2⟩ := maxI_ok q
        refine .inr ⟨a, ns, rfl, .inl (.inl h1), List.length_pos_of_mem g1, fun m' hm hm' => ?_⟩
        have e3 : m' = m := Int.le_antisymm (g2 m' hm) (hm' m g1)
        subst e3
        exact hg.flatF k rfl (.int _)
    · cases hz
  · obtain ⟨v, rfl, rv⟩ := vals_of1 r
    obtain ⟨a, us, rfl, h1, h2⟩ := rv.lst
    split at hz
    · rename_i ns e
      cases q : minI ns with
      | none => rw [q] at hz; cases hz
      | some m =>
        rw [q] at hz
        cases hz
        have e2 := h2.ints e
        subst e2
        obtain ⟨g1, g2⟩ := minI_ok q
        refine .inr ⟨a, ns, rfl, .inl (.inl h1), List.length_pos_of_mem g1, fun m' hm hm' => ?_⟩
        have e3 : m' = m := Int.le_antisymm (hm' m g1) (g2 m' hm)
        subst e3
        exact hg.flatF k rfl (.int _)
    · cases hz
  · obtain ⟨v, rfl, rv⟩ := vals_of1 r
    obtain ⟨a, us, rfl, h1, h2⟩ := rv.lst
    rename_i xs
    cases q : dInts xs with
    | none => rw [q] at hz; cases hz
    | some ns =>
      rw [q] at hz
      cases hz
      have e2 := h2.ints q
      subst e2
      exact .inl ⟨a, ns, rfl, .inl (.inl h1), hg.flatF k rfl (.int _)⟩
  · obtain ⟨v, rfl, rv⟩ := vals_of1 r
    obtain ⟨a, us, rfl, h1, h2⟩ := rv.tup
    rename_i xs
    cases q : dInts xs with
    | none => rw [q] at hz; cases hz
    | some ns =>
      rw [q] at hz
      cases hz
      have e2 := h2.ints q
      subst e2
      exact .inr ⟨a, ns, rfl, .inl (.inl h1), hg.flatF k rfl (.int _)⟩
  · obtain ⟨v, rfl, rv⟩ := vals_of1 r
    cases hz
    cases rv.int
    exact ⟨_, rfl, hg.flatF k rfl (.int _)⟩
  · obtain ⟨v, rfl, rv⟩ := vals_of1 r
    obtain ⟨a, us, rfl, h1, h2⟩ := rv.lst
    cases hz
    exact ⟨a, us, rfl, .inl ⟨.inl (.inl h1), fun l hl => hg.newT k hl h2⟩⟩
  · obtain ⟨v, rfl, rv⟩ := vals_of1 r
    obtain ⟨a, us, rfl, h1, h2⟩ := rv.tup
    cases hz
    exact ⟨a, us, rfl, .inr ⟨.inl (.inl h1), hg.flatF k rfl (rv.flat rfl)⟩⟩
  · obtain ⟨v, rfl, rv⟩ := vals_of1 r
    obtain ⟨a, us, rfl, h1, h2⟩ := rv.lst
    cases hz
    exact ⟨a, us, rfl, .inl (.inl (.inl h1)), fun l hl => hg.newL k h0 hl h2⟩
  · obtain ⟨v, rfl, rv⟩ := vals_of1 r
    obtain ⟨a, us, rfl, h1, h2⟩ := rv.tup
    cases hz
    exact ⟨a, us, rfl, .inr (.inl (.inl h1)), fun l hl => hg.newL k h0 hl h2⟩
  · obtain ⟨v, u, rfl, rv, ru⟩ := vals_of2 r
    split at hz
    · rename_i hl
      cases hz
      cases rv.int
      cases ru.int
      exact ⟨_, _, rfl, ⟨hl.1, PyProof.noPylong_of_log2 hl.2⟩, fun l hn => hg.newT k hn (.cons (.int _) (.cons (.int _) .nil))⟩
    · cases hz
  · obtain ⟨v, rfl, rv⟩ := vals_of1 r
    obtain ⟨a, us, rfl, h1, h2⟩ := rv.lst
    rename_i xs
    cases q : dBools xs with
    | none => rw [q] at hz; cases hz
    | some ns =>
      rw [q] at hz
      cases hz
      have e2 := h2.bools q
      subst e2
      exact ⟨a, ns, rfl, .inl (.inl h1), hg.flatF k rfl (.bl _)⟩
  · obtain ⟨v, rfl, rv⟩ := vals_of1 r
    obtain ⟨a, us, rfl, h1, h2⟩ := rv.lst
    rename_i xs
    cases q : dBools xs with
    | none => rw [q] at hz; cases hz
    | some ns =>
      rw [q] at hz
      cases hz
      have e2 := h2.bools q
      subst e2
      exact ⟨a, ns, rfl, .inl (.inl h1), hg.flatF k rfl (.bl _)⟩
  · obtain ⟨v, rfl, rv⟩ := vals_of1 r
    cases hz
    cases rv.int
    exact .inl ⟨_, rfl, hg.flatF k rfl (.bl _)⟩
  · obtain ⟨v, rfl, rv⟩ := vals_of1 r
    cases hz
    cases rv.bl
    exact .inr ⟨_, rfl, hg.flatF k rfl (.bl _)⟩
end
end Lv
set_option Elab.async false
set_option linter.all false
set_option maxRecDepth 100000
set_option maxHeartbeats 4000000
/-! Lv5: contexts, promises, expressions. -/
namespace Lv
open PySem PySem.Spec PyProof.Rows L2
/-- a def's promise, told where nothing is shown at the moment (guards) -/
structure FnG (P : Program) (w : World) (K : PySem.W.Frag) (mg : Str → Option Value) (base : Heap) (k : Nat) (f : Addr) (fd : FuncData) (ps : List Str) (sp : Sp) : Prop where
  len : ∀ vs H Q E, sp vs H Q E → vs.length = ps.length
  run : ∀ (A : Around) (outer : List PySem.Env) (s : Shared) (H : Hp) (args : Args) (us : List Value) (vs : List V) (Q : VK) (E : XK), Room k A → A.guards = some [] → Env0 P w K mg base A outer s H →
    BindsTo s fd args (ps.zip us) → Vals vs us → sp vs H Q E → codeAny (model P w) A (.call (.ref f) args) (CR (L2.CX P w) outer P w H s Q E) s
/-- what a def worth call f promises -/
def spF (M : Md) (cf : List D → Sto → R D) (n : Nat) : Sp := fun vs H Q E => ∃ p s ds, CellsOk M p H s ∧ RepL M p H ds vs ∧ ds.length = n ∧ match cf ds s with
  | .ok d s' => ∀ v p' H', Step p H p' H' → CellsOk M p' H' s' → Rep M p' H' d v → Q v H'
  | .exc x s' => ∀ cls dd p' H', Step p H p' H' → CellsOk M p' H' s' → ExcR M p' H' x cls dd → E cls dd H'
  | .stk => False
theorem spF_len {M : Md} {cf : List D → Sto → R D} {n : Nat} {vs : List V} {H : Hp} {Q : VK} {E : XK} (h : spF M cf n vs H Q E) : vs.length = n := by
  obtain ⟨p, s, ds, _, r, hn, _⟩ := h
  rw [← r.length, hn]
/-- what the checker asks of the surroundings: defs by number, free built-in names, constants -/
structure Tc where
  fnm : Nat → Option (Str × List Str)
  fr : List Str
  cst : List Str
  cls : List Str
  mks : List Nat
  kw : Nat → List Str × List Nat → Bool
structure Th where
  M : Md
  G : Gt
  call : Nat → List D → Sto → R D
  mkc : Nat → List D → Sto → R D
  k : Nat
  C : Tc
/-- how a call by names alone binds: the names, and of each parameter which of them -/
def KB (K : PySem.W.Frag) (fd : FuncData) (ps : List Str) (q : List Str × List Nat) : Prop := ∀ (s : Shared) (ws : List Value), K.In s.heap → ws.length = q.1.length → BindsTo s fd ⟨[], q.1.zip ws⟩ (ps.zip (q.2.map fun k => ws.getD k .none))
def allNm : List String := ["NoneType", "bool", "int", "str", "tuple", "list", "dict"]
/-- a class of the text: its instances answer for its type -/
structure ClOk (K : PySem.W.Frag) (C : Addr) : Prop where
  cl : Cls K C
  ha : PySem.W.findIn K (.ref C) "__class__" = some (some (.builtin "object.__class__"))
  hn : PySem.W.specialIn K (.builtin "object.__class__") "__get__" = some (some (.builtin "getset_descriptor.__get__"))
  ht : PySem.W.takesIn K (.builtin "object.__class__") = some true
  hm : PySem.W.mroIn K C (.type "object") = some true
structure ThOk (T : Th) (P : Program) (w : World) (K : PySem.W.Frag) (mg : Str → Option Value) (base : Heap) : Prop where
  kk : T.M.K = K
  mk_ : T.mkc = mkF T.G T.call
  cln : T.C.cls.length = T.G.ncl
  cls : ∀ k n, T.C.cls[k]? = some n → mg n = some (.ref (T.M.cA k)) ∧ ClOk K (T.M.cA k)
  isT : ∀ k, k < T.G.ncl → ∀ s ∈ allNm, PySem.W.kitOne K (.type s) (.ref (T.M.cA k)) = some false ∧ PySem.W.kitOne K (.ref (T.M.cA k)) (.type s) = some false
  isC : ∀ k j, k < T.G.ncl → j < T.G.ncl → PySem.W.kitOne K (.ref (T.M.cA k)) (.ref (T.M.cA j)) = some (decide (j = k))
  att : ∀ k x, T.G.att k x = some .fld → Cls K (T.M.cA k) ∧ NoAttr K (T.M.cA k) x
  prop : ∀ k x f, T.G.att k x = some (.prop f) → Cls K (T.M.cA k) ∧ ∃ pr g fd ps, PropOf K (T.M.cA k) x pr g ∧ ps.length = 1 ∧ Binds K fd ps [] ∧ FnG P w K mg base T.k g fd ps (spF T.M (T.call f) ps.length)
  mth : ∀ k x f n, T.G.mth k x = some (f, n) → Cls K (T.M.cA k) ∧ ∃ g fd ps, Meth K (T.M.cA k) x g ∧ Binds K fd ps [] ∧ n = ps.length ∧ FnG P w K mg base T.k g fd ps (spF T.M (T.call f) ps.length)
  mks : ∀ k, T.C.mks.contains k = true → (T.G.ini k).isSome = true
  ini : ∀ k f n, T.G.ini k = some (f, n) → ∃ g fd ps, Mk K (T.M.cA k) g ∧ Binds K fd ps [] ∧ n = ps.length ∧ FnG P w K mg base T.k g fd ps (spF T.M (T.call f) ps.length)
  free : ∀ x, T.C.fr.contains x = true → mg x = none
  cstB : ∀ x, T.C.cst.contains x = true → (T.G.cst x).isSome = true
  cst : ∀ x d, T.G.cst x = some d → ∃ u v, mg x = some u ∧ RelV v u ∧ ownOf d = none ∧ ∀ p H, Rep T.M p H d v
  fn : ∀ f nm ps, T.C.fnm f = some (nm, ps) → ∃ fa fd, mg nm = some (.ref fa) ∧ PySem.W.keepIn K (.ref fa) = true ∧ Binds K fd ps [] ∧ FnG P w K mg base T.k fa fd ps (spF T.M (T.call f) ps.length) ∧ ∀ q, T.C.kw f q = true → KB K fd ps q
theorem R.assoc {α β γ : Type} {r : R α} {f : α → Sto → R β} {h : β → Sto → R γ} : (r.bind f).bind h = r.bind fun a s => (f a s).bind h := by cases r <;> rfl
/-- what is known of a def's (or a block's) names -/
structure Sx where
  sc : Scope
  N : List Str
  fnB : Str → Bool
structure Good (T : Th) (c : Sx) (X : Cx) : Prop where
  th : ThOk T X.prog X.w X.K X.mg X.base
  calm : X.calm = true
  room : Room (T.k + 2) X.A
  gd : X.A.guards = some []
  sc : X.env.scope = c.sc
  N : X.N = c.N
  nd : c.N.Nodup
  fn : ∀ x, c.fnB x = true → X.fn x = true
theorem Good.un {T : Th} {c : Sx} {X : Cx} (g : Good T c X) : X.A.units + 100 < cLine := by
  have := g.room.un
  omega
abbrev Rel := Md → Rho → Hp → D → V → Prop
section
variable (T : Th) (N : En) (W : WX)
def tE (rel : Rel) (x : E) : TE := fun σ H Q => ∃ p env s, Ok T.M N p env s σ H ∧ Rg T.M N W env σ (rel T.M) p H (ev T.G T.call T.mkc x env s) Q
def tF (x : E) : TE := fun σ H Q => ∃ p env s, Ok T.M N p env s σ H ∧ Rg T.M N W env σ (RepF T.M H) p H (ev T.G T.call T.mkc x env s) Q
/-- a test's answer -/
def evB (x : E) (env : Env) (s : Sto) : R Bool := (ev T.G T.call T.mkc x env s).bind fun d s1 => lift (dTru d) s1
def tT (x : E) : TT := fun σ H Q => ∃ p env s, Ok T.M N p env s σ H ∧ Rg T.M N W env σ (fun _ _ (b c : Bool) => b = c) p H (evB T x env s) Q
def tA (rel : Rel) (xs : Es) : TA := fun σ H Q => ∃ p env s, Ok T.M N p env s σ H ∧ Rg T.M N W env σ (fun p H ds vs => Paired (rel T.M p H) ds vs) p H (evs T.G T.call T.mkc xs env s) Q
end
section
variable {T : Th} {c : Sx} {N : En} {W : WX} {X : Cx} {a b e : Expr} {x y z : E} {pos : Pos}
/-- a fresh one may stay -/
theorem _root_.L2.PE.strict (h : PE X e (tF T N W x)) : PE X e (tE T N W Rep x) := h.imp fun σ H Q ⟨p, env, s, o, h⟩ => ⟨p, env, s, o, by
  cases q : ev T.G T.call T.mkc x env s with
  | ok d s' =>
    rw [q] at h
    intro v p' H' st o' r
    obtain ⟨p2, st2, o2, r2⟩ := RepF.stay r o st o'
    exact h v p2 H' st2 o2 r2
  | exc x s' => rw [q] at h; exact h
  | stk => rw [q] at h; exact h⟩
theorem _root_.L2.PE.look (h : PE X e (tE T N W Rep x)) : PE X e (tE T N W RepB x) := h.imp fun σ H Q ⟨p, env, s, o, h⟩ => ⟨p, env, s, o, h.impR fun _ _ _ _ r => .inl r⟩
/-! ### names and constants -/
theorem snd_flat {t : TE} {d : D} {v : V} (h : PE X e t) (ht : ∀ σ H Q, Q v H → t σ H Q) (hx : ∀ env s, ev T.G T.call T.mkc x env s = .ok d s) (r : ∀ p H, Rep T.M p H d v) : PE X e (tE T N W Rep x) := h.imp fun σ H Q ⟨p, env, s, o, h⟩ => ht σ H Q (by
  rw [hx env s] at h
  exact h.done o (r p H))
def visB (sc : Scope) (x : Str) : Bool := match sc.names.lookup x with
  | some .local => true
  | some .cell => true
  | some .free => true
  | _ => false
theorem vis_of {sc : Scope} {x : Str} (h : visB sc x = true) : Vis sc x := by
  unfold visB at h
  unfold Vis
  split at h
  · rename_i e; exact .inl e
  · rename_i e; exact .inr (.inl e)
  · rename_i e; exact .inr (.inr e)
  · cases h
def varB (c : Sx) (i : Nat) (x : Str) : Bool := decide (c.N[i]? = some x) && visB c.sc x && !(x == ("__debug__" : Str)) && !(x == ("__classdict__" : Str))
def glB (c : Sx) (x : Str) : Bool := (match c.sc.names.lookup x with
  | some .globalImplicit => true
  | _ => false) && !(x == ("__debug__" : Str))
theorem gl_of {x : Str} (g : Good T c X) (h : glB c x = true) : Gl X x ∧ (x == ("__debug__" : Str)) = false := by
  unfold glB at h
  simp only [Bool.and_eq_true, Bool.not_eq_true'] at h
  refine ⟨?_, h.2⟩
  show X.env.scope.names.lookup x = some .globalImplicit
  rw [g.sc]
  have := h.1
  split at this
  · assumption
  · cases this
theorem pe_slot (g : Good T c X) {i : Nat} {n : Str} (h : varB c i n = true) : PE X (.Name n pos) (tVar i) := by
  unfold varB at h
  simp only [Bool.and_eq_true, Bool.not_eq_true', decide_eq_true_eq] at h
  obtain ⟨⟨⟨h1, h2⟩, h3⟩, h4⟩ := h
  exact pe_var (by rw [g.N]; exact h1) (by rw [g.sc]; exact vis_of h2) h3 h4
theorem snd_var (g : Good T c X) {i : Nat} {n : Str} (h : varB c i n = true) : PE X (.Name n pos) (tE T N W Rep (.var i)) := (pe_slot g h).imp fun σ H Q ⟨p, env, s, o, hr⟩ => by
  unfold ev at hr
  split at hr
  · rename_i d e
    obtain ⟨u, e1, v, e2, r⟩ := o.slot i _ e
    exact ⟨v, by rw [e1, e2], hr.done o r⟩
  · exact hr.elim
theorem snd_own (g : Good T c X) {i : Nat} {n : Str} (h : varB c i n = true) : PE X (.Name n pos) (tE T N W RepB (.own i)) := (pe_slot g h).imp fun σ H Q ⟨p, env, s, o, hr⟩ => by
  unfold ev at hr
  split at hr
  · rename_i ds e
    obtain ⟨u, e1, a, e2, hF, hc, r⟩ := o.slot i _ e
    exact ⟨.ref a, by rw [e1, e2], hr.done o (.inr ⟨a, _, rfl, hc, rfl, r⟩)⟩
  · rename_i ks e
    obtain ⟨u, e1, a, e2, hF, hc, r⟩ := o.slot i _ e
    exact ⟨.ref a, by rw [e1, e2], hr.done o (.inr ⟨a, _, rfl, hc, rfl, r⟩)⟩
  · exact hr.elim
theorem snd_cst (g : Good T c X) {n : Str} {d : D} (h : glB c n = true) (hd : T.G.cst n = some d) : PE X (.Name n pos) (tE T N W Rep (.cst n)) := by
  obtain ⟨u, v, hm, r, _, rp⟩ := g.th.cst n d hd
  obtain ⟨g1, g2⟩ := gl_of g h
  exact snd_flat (pe_glob g1 hm r g2) (fun _ _ _ h => h) (fun _ _ => by unfold ev; rw [hd]; rfl) rp
/-! ### operators -/
theorem snd_bin {o : Operator} (ha : PE X a (tE T N W RepB x)) (hb : PE X b (tE T N W RepB y)) : PE X (.BinOp a o b pos) (tF T N W (.bin o x y)) := (pe_op (opR_ok X o) ha hb).imp fun σ H Q ⟨p, env, s, o0, h⟩ => by
  unfold ev at h
  refine ⟨p, env, s, o0, (h.seq (RepB T.M)).imp fun v H1 ⟨p1, d1, s1, o1, st1, r1, h1⟩ => ⟨p1, env, s1, o1, (h1.seq (RepB T.M)).imp fun u H2 ⟨p2, d2, s2, o2, st2, r2, h2⟩ => ?_⟩⟩
  exact bin_res o2 (fun b e => (st1.trans st2).none_ e) (r1.step st2 o1.cells.ap) r2 h2
theorem snd_neg (ha : PE X a (tE T N W RepB x)) : PE X (.UnaryOp .USub a pos) (tE T N W Rep (.neg x)) := (pe_un un_neg ha).imp fun σ H Q ⟨p, env, s, o0, h⟩ => by
  unfold ev at h
  refine ⟨p, env, s, o0, (h.seq (RepB T.M)).imp fun v H1 ⟨p1, d1, s1, o1, st1, r1, h1⟩ => ?_⟩
  cases d1 with
  | int i =>
    cases r1.int
    exact ⟨i, rfl, h1.done o1 (.int _)⟩
  | _ => exact h1.elim
theorem rg_bl {M : Md} {env : Env} {σ : L2.St} {p : Rho} {H : Hp} {o : Option Bool} {s : Sto} {Q : VK} (h : Rg M N W env σ (Rep M) p H (lift (o.map .bl) s) Q) (k : Ok M N p env s σ H) : ∃ b, o = some b ∧ Q (.bl b) H := by
  cases o with
  | none => exact h.elim
  | some b => exact ⟨b, rfl, Rg.done (d := D.bl b) h k (.bl b)⟩
theorem rg_blT {M : Md} {env : Env} {σ : L2.St} {p : Rho} {H : Hp} {o : Option Bool} {s : Sto} {Q : Bool → Hp → Prop} (h : Rg M N W env σ (fun _ _ (b c : Bool) => b = c) p H ((lift (o.map D.bl) s).bind fun d s1 => lift (dTru d) s1) Q) (k : Ok M N p env s σ H) : ∃ b, o = some b ∧ Q b H := by
  cases o with
  | none => exact h.elim
  | some b => exact ⟨b, rfl, Rg.done (d := b) h k rfl⟩
theorem snd_cmp (g : Good T c X) {o : CmpOp} (ha : PE X a (tE T N W RepB x)) (hb : PE X b (tE T N W RepB y)) (hm : behindInMarks o b = false) : PE X (.Compare a [o] [b] pos) (tE T N W Rep (.cmp o x y)) := (pe_cmpR (cmpR_ok X (by have := g.un; omega) o) ha hb hm).imp fun σ H Q ⟨p, env, s, o0, h⟩ => by
  unfold ev at h
  refine ⟨p, env, s, o0, (h.seq (RepB T.M)).imp fun v H1 ⟨p1, d1, s1, o1, st1, r1, h1⟩ => ⟨p1, env, s1, o1, (h1.seq (RepB T.M)).imp fun u H2 ⟨p2, d2, s2, o2, st2, r2, h2⟩ => ?_⟩⟩
  obtain ⟨b, e, q⟩ := rg_bl h2 o2
  exact cmp_res (r1.step st2 o1.cells.ap) r2 e q
theorem sndT_cmp (g : Good T c X) {o : CmpOp} (ha : PE X a (tE T N W RepB x)) (hb : PE X b (tE T N W RepB y)) (hm : behindInMarks o b = false) : PT X (.Compare a [o] [b] pos) (tT T N W (.cmp o x y)) := (pt_cmpR (cmpR_ok X (by have := g.un; omega) o) ha hb hm).imp fun σ H Q ⟨p, env, s, o0, h⟩ => by
  unfold evB ev at h
  simp only [R.assoc] at h
  refine ⟨p, env, s, o0, (h.seq (RepB T.M)).imp fun v H1 ⟨p1, d1, s1, o1, st1, r1, h1⟩ => ⟨p1, env, s1, o1, (h1.seq (RepB T.M)).imp fun u H2 ⟨p2, d2, s2, o2, st2, r2, h2⟩ => ?_⟩⟩
  obtain ⟨b, e, q⟩ := rg_blT h2 o2
  exact cmp_res (r1.step st2 o1.cells.ap) r2 e ⟨b, rfl, q⟩
theorem snd_chn (g : Good T c X) {o o' : CmpOp} {e3 : Expr} (ha : PE X a (tE T N W RepB x)) (hb : PE X b (tE T N W RepB y)) (hc : PE X e3 (tE T N W RepB z)) (hm : lastMarks [o, o'] [b, e3] = false) : PE X (.Compare a [o, o'] [b, e3] pos) (tE T N W Rep (.chn o o' x y z)) := (pe_chain (cmpR_ok X (by have := g.un; omega) o) (cmpR_ok X (by have := g.un; omega) o') ha hb hc hm).imp fun σ H Q ⟨p, env, s, o0, h⟩ => by
  unfold ev at h
  refine ⟨p, env, s, o0, (h.seq (RepB T.M)).imp fun v H1 ⟨p1, d1, s1, o1, st1, r1, h1⟩ => ⟨p1, env, s1, o1, (h1.seq (RepB T.M)).imp fun u H2 ⟨p2, d2, s2, o2, st2, r2, h2⟩ => ?_⟩⟩
  split at h2
  · rename_i e
    refine cmp_res (r1.step st2 o1.cells.ap) r2 e ⟨true, rfl, ?_⟩
    rw [if_pos rfl]
    refine ⟨p2, env, s2, o2, (h2.seq (RepB T.M)).imp fun u3 H3 ⟨p3, d3, s3, o3, st3, r3, h3⟩ => ?_⟩
    obtain ⟨b, e, q⟩ := rg_bl h3 o3
    exact cmp_res (r2.step st3 o2.cells.ap) r3 e q
  · rename_i e
    refine cmp_res (r1.step st2 o1.cells.ap) r2 e ⟨false, rfl, ?_⟩
    rw [if_neg Bool.false_ne_true]
    exact h2.done o2 (.bl _)
  · exact h2.elim
theorem sndT_chn (g : Good T c X) {o o' : CmpOp} {e3 : Expr} (ha : PE X a (tE T N W RepB x)) (hb : PE X b (tE T N W RepB y)) (hc : PE X e3 (tE T N W RepB z)) (hm : lastMarks [o, o'] [b, e3] = false) : PT X (.Compare a [o, o'] [b, e3] pos) (tT T N W (.chn o o' x y z)) := (pt_chain (cmpR_ok X (by have := g.un; omega) o) (cmpR_ok X (by have := g.un; omega) o') ha hb hc hm).imp fun σ H Q ⟨p, env, s, o0, h⟩ => by
  unfold evB ev at h
  simp only [R.assoc] at h
  refine ⟨p, env, s, o0, (h.seq (RepB T.M)).imp fun v H1 ⟨p1, d1, s1, o1, st1, r1, h1⟩ => ⟨p1, env, s1, o1, (h1.seq (RepB T.M)).imp fun u H2 ⟨p2, d2, s2, o2, st2, r2, h2⟩ => ?_⟩⟩
  cases e : dCmp o d1 d2 with
  | none => rw [e] at h2; exact h2.elim
  | some bb =>
  rw [e] at h2
  cases bb with
  | true =>
    refine cmp_res (r1.step st2 o1.cells.ap) r2 e ⟨true, rfl, ?_⟩
    rw [if_pos rfl]
    simp only [R.assoc] at h2
    refine ⟨p2, env, s2, o2, (h2.seq (RepB T.M)).imp fun u3 H3 ⟨p3, d3, s3, o3, st3, r3, h3⟩ => ?_⟩
    obtain ⟨b, e, q⟩ := rg_blT h3 o3
    exact cmp_res (r2.step st3 o2.cells.ap) r3 e ⟨b, rfl, q⟩
  | false =>
    refine cmp_res (r1.step st2 o1.cells.ap) r2 e ⟨false, rfl, ?_⟩
    rw [if_neg Bool.false_ne_true]
    exact ⟨false, rfl, Rg.done (d := false) h2 o2 rfl⟩
/-! ### and, or, not, if .. else -/
theorem seqT {M : Md} {env : Env} {σ : L2.St} {p : Rho} {H : Hp} {s : Sto} {α β : Type} {rel : Rho → Hp → α → β → Prop} {k : D → Sto → R α} {Q : β → Hp → Prop} (h : Rg M N W env σ rel p H ((ev T.G T.call T.mkc x env s).bind k) Q) (hk : ∀ d s1, dTru d = none → k d s1 = .stk) :
    Rg M N W env σ (fun _ _ (b c : Bool) => b = c) p H (evB T x env s) fun b H1 => ∃ p1 d s1, Ok M N p1 env s1 σ H1 ∧ Step p H p1 H1 ∧ dTru d = some b ∧ Rg M N W env σ rel p1 H1 (k d s1) Q := by
  unfold evB
  cases q : ev T.G T.call T.mkc x env s with
  | ok d s1 =>
    rw [q] at h
    show Rg M N W env σ _ p H (lift (dTru d) s1) _
    cases e : dTru d with
    | none =>
      have h : Rg M N W env σ rel p H (k d s1) Q := h
      rw [hk d s1 e] at h
      exact h.elim
    | some b =>
      intro v p' H' st o r
      exact ⟨p', d, s1, o, st, by rw [e, r], Rg.step st h⟩
  | exc y s1 => rw [q] at h; exact h
  | stk => rw [q] at h; exact h.elim
theorem rgB_ok {M : Md} {env : Env} {σ : L2.St} {p : Rho} {H : Hp} {s : Sto} {d : D} {b : Bool} {Q : Bool → Hp → Prop} (h : Rg M N W env σ (fun _ _ (b c : Bool) => b = c) p H (lift (dTru d) s) Q) (k : Ok M N p env s σ H) (e : dTru d = some b) : Q b H := by
  rw [e] at h
  exact Rg.done (d := b) h k rfl
theorem snd_one {op : BoolOp} (ha : PE X a (tE T N W Rep x)) : PE X (.BoolOp op [a] pos) (tE T N W Rep (.one x)) := (pe_one ha).imp fun σ H Q ⟨p, env, s, o0, h⟩ => by
  unfold ev at h
  exact ⟨p, env, s, o0, h⟩
theorem snd_and {rest : List Expr} (ha : PE X a (tE T N W Rep x)) (hb : PE X (.BoolOp .And (b :: rest) pos) (tE T N W Rep y)) : PE X (.BoolOp .And (a :: b :: rest) pos) (tE T N W Rep (.and x y)) := (pe_and ha hb).imp fun σ H Q ⟨p, env, s, o0, h⟩ => by
  unfold ev at h
  refine ⟨p, env, s, o0, (h.seq (Rep T.M)).imp fun v H1 ⟨p1, d1, s1, o1, st1, r1, h1⟩ => ?_⟩
  split at h1
  · cases r1
    refine ⟨true, rfl, ?_⟩
    rw [if_pos rfl]
    exact ⟨p1, env, s1, o1, h1⟩
  · cases r1
    refine ⟨false, rfl, ?_⟩
    rw [if_neg Bool.false_ne_true]
    exact h1.done o1 (.bl _)
  · exact h1.elim
theorem snd_or {rest : List Expr} (ha : PE X a (tE T N W Rep x)) (hb : PE X (.BoolOp .Or (b :: rest) pos) (tE T N W Rep y)) : PE X (.BoolOp .Or (a :: b :: rest) pos) (tE T N W Rep (.or x y)) := (pe_or ha hb).imp fun σ H Q ⟨p, env, s, o0, h⟩ => by
  unfold ev at h
  refine ⟨p, env, s, o0, (h.seq (Rep T.M)).imp fun v H1 ⟨p1, d1, s1, o1, st1, r1, h1⟩ => ?_⟩
  split at h1
  · cases r1
    refine ⟨true, rfl, ?_⟩
    rw [if_pos rfl]
    exact h1.done o1 (.bl _)
  · cases r1
    refine ⟨false, rfl, ?_⟩
    rw [if_neg Bool.false_ne_true]
    exact ⟨p1, env, s1, o1, h1⟩
  · exact h1.elim
theorem snd_not (ha : PE X a (tE T N W Rep x)) : PE X (.UnaryOp .Not a pos) (tE T N W Rep (.not x)) := (pe_not ha).imp fun σ H Q ⟨p, env, s, o0, h⟩ => by
  unfold ev at h
  refine ⟨p, env, s, o0, (h.seq (Rep T.M)).imp fun v H1 ⟨p1, d1, s1, o1, st1, r1, h1⟩ => ?_⟩
  split at h1
  · cases r1
    exact ⟨_, rfl, h1.done o1 (.bl _)⟩
  · exact h1.elim
theorem sndT_not (ha : PT X a (tT T N W x)) : PT X (.UnaryOp .Not a pos) (tT T N W (.not x)) := (pt_not ha).imp fun σ H Q ⟨p, env, s, o0, h⟩ => by
  unfold evB ev at h
  simp only [R.assoc] at h
  refine ⟨p, env, s, o0, (seqT h fun d s1 e => by cases d <;> first | rfl | cases e).imp fun v H1 ⟨p1, d1, s1, o1, st1, r1, h1⟩ => ?_⟩
  cases d1 with
  | bl b => cases r1; exact rgB_ok (d := .bl !v) h1 o1 rfl
  | _ => exact h1.elim
theorem sndW_one {op : BoolOp} (ha : PT X a (tT T N W x)) : PW X (.BoolOp op [a] pos) (tT T N W (.one x)) := by
  cases op with
  | And => exact (pw_and1 ha).imp fun σ H Q ⟨p, env, s, o0, h⟩ => by unfold evB ev at h; exact ⟨p, env, s, o0, h⟩
  | Or => exact (pw_or1 ha).imp fun σ H Q ⟨p, env, s, o0, h⟩ => by unfold evB ev at h; exact ⟨p, env, s, o0, h⟩
theorem sndW_and {rest : List Expr} (ha : PT X a (tT T N W x)) (hb : PW X (.BoolOp .And (b :: rest) pos) (tT T N W y)) : PW X (.BoolOp .And (a :: b :: rest) pos) (tT T N W (.and x y)) := (pw_and ha hb).imp fun σ H Q ⟨p, env, s, o0, h⟩ => by
  unfold evB ev at h
  simp only [R.assoc] at h
  refine ⟨p, env, s, o0, (seqT h fun d s1 e => by cases d <;> first | rfl | cases e).imp fun v H1 ⟨p1, d1, s1, o1, st1, r1, h1⟩ => ?_⟩
  cases d1 with
  | bl b =>
    cases r1
    cases v with
    | true => rw [if_pos rfl]; exact ⟨p1, env, s1, o1, h1⟩
    | false => rw [if_neg Bool.false_ne_true]; exact rgB_ok (d := .bl false) h1 o1 rfl
  | _ => exact h1.elim
theorem sndW_or {rest : List Expr} (ha : PT X a (tT T N W x)) (hb : PW X (.BoolOp .Or (b :: rest) pos) (tT T N W y)) : PW X (.BoolOp .Or (a :: b :: rest) pos) (tT T N W (.or x y)) := (pw_or ha hb).imp fun σ H Q ⟨p, env, s, o0, h⟩ => by
  unfold evB ev at h
  simp only [R.assoc] at h
  refine ⟨p, env, s, o0, (seqT h fun d s1 e => by cases d <;> first | rfl | cases e).imp fun v H1 ⟨p1, d1, s1, o1, st1, r1, h1⟩ => ?_⟩
  cases d1 with
  | bl b =>
    cases r1
    cases v with
    | true => rw [if_pos rfl]; exact rgB_ok (d := .bl true) h1 o1 rfl
    | false => rw [if_neg Bool.false_ne_true]; exact ⟨p1, env, s1, o1, h1⟩
  | _ => exact h1.elim
theorem snd_ite {t : Expr} (hc : PT X t (tT T N W z)) (ha : PE X a (tE T N W Rep x)) (hb : PE X b (tE T N W Rep y)) : PE X (.IfExp t a b pos) (tE T N W Rep (.ite z x y)) := (pe_ifExp hc ha hb).imp fun σ H Q ⟨p, env, s, o0, h⟩ => by
  unfold ev at h
  refine ⟨p, env, s, o0, (seqT h fun d s1 e => by simp only [e]).imp fun v H1 ⟨p1, d1, s1, o1, st1, r1, h1⟩ => ?_⟩
  simp only [r1] at h1
  cases v with
  | true => rw [if_pos rfl]; exact ⟨p1, env, s1, o1, h1⟩
  | false => rw [if_neg Bool.false_ne_true]; exact ⟨p1, env, s1, o1, h1⟩
/-- a test that is its value's truth -/
def plainT : Expr → Bool
  | .Name _ _ => true
  | .Call _ _ _ _ => true
  | .Subscript _ _ _ => true
  | .Attribute _ _ _ => true
  | .Constant _ _ _ => true
  | .BinOp _ _ _ _ => true
  | .ListComp _ _ _ _ => true
  | _ => false
theorem sndT_val (ha : PE X a (tE T N W RepB x)) (hp : plainT a = true) : PT X a (tT T N W x) := by
  refine (pt_truth ha (fun wh => by cases a <;> first | rfl | (cases hp; done))).imp fun σ H Q ⟨p, env, s, o0, h⟩ => ?_
  unfold evB at h
  refine ⟨p, env, s, o0, (h.seq (RepB T.M)).imp fun v H1 ⟨p1, d1, s1, o1, st1, r1, h1⟩ => ?_⟩
  cases e : dTru d1 with
  | none => rw [e] at h1; exact h1.elim
  | some b => exact ⟨b, r1.tru e, rgB_ok h1 o1 e⟩
end
end Lv
set_option Elab.async false
set_option linter.all false
set_option maxRecDepth 100000
set_option maxHeartbeats 4000000
/-! Lv6: items, displays, calls. -/
namespace Lv
open PySem PySem.Spec PyProof.Rows L2
def noStar : Expr → Bool
  | .Starred _ _ => false
  | _ => true
def noStars : List Expr → Bool
  | [] => true
  | e :: es => noStar e && noStars es
theorem star_cons {e : Expr} {es : List Expr} {env : PySem.Env} (h : noStar e = true) : starEach (e :: es) env = (false, eval e env) :: starEach es env := by
  cases e <;> first | rfl | (cases h; done)
theorem star_any {pos : Pos} {env : PySem.Env} : ∀ {es : List Expr}, noStars es = true → (backTo pos (starEach es env)).any (·.1) = false
  | [], _ => rfl
  | e :: es, h => by
    unfold noStars at h
    rw [Bool.and_eq_true] at h
    rw [star_cons h.1]
    show (false || (backTo pos (starEach es env)).any (·.1)) = false
    rw [star_any h.2]
    rfl
def notSlice : Expr → Bool
  | .Slice _ _ _ _ => false
  | _ => true
theorem plain_ix {b : Expr} (h : notSlice b = true) : PlainIx b := by
  intro o i
  cases b <;> first | rfl | (cases h; done)
section
variable {T : Th} {c : Sx} {N : En} {W : WX} {X : Cx} {a b e : Expr} {es : List Expr} {x y z : E} {xs ys : Es} {pos p0 : Pos}
/-! ### arguments -/
theorem sndA_nil {rel : Rel} : PA X [] (tA T N W rel .nil) := pa_nil.imp fun σ H Q ⟨p, env, s, o0, h⟩ => by
  unfold evs at h
  exact Rg.done (d := []) h o0 .nil
theorem Paired.step_rep {M : Md} {p p' : Rho} {H H' : Hp} {rel : Rel} (hs : ∀ d v, rel M p H d v → rel M p' H' d v) : ∀ {ds : List D} {vs : List V}, Paired (rel M p H) ds vs → Paired (rel M p' H') ds vs
  | _, _, .nil => .nil
  | _, _, .cons h t => .cons (hs _ _ h) (Paired.step_rep hs t)
/-- a relation that steps keep -/
def Kept (rel : Rel) : Prop := ∀ (M : Md) (p p' : Rho) (H H' : Hp) (d : D) (v : V), Step p H p' H' → Apart p → rel M p H d v → rel M p' H' d v
theorem kept_rep : Kept Rep := fun _ _ _ _ _ _ _ s a h => h.step s a
theorem kept_repB : Kept RepB := fun _ _ _ _ _ _ _ s a h => h.step s a
theorem sndA_cons {rel : Rel} (hk : Kept rel) (hs : noStar e = true) (h1 : PE X e (tE T N W rel x)) (h2 : PA X es (tA T N W rel xs)) : PA X (e :: es) (tA T N W rel (.cons x xs)) := (pa_cons h1 h2 (star_cons hs)).imp fun σ H Q ⟨p, env, s, o0, h⟩ => by
  unfold evs at h
  refine ⟨p, env, s, o0, (h.seq (rel T.M)).imp fun v H1 ⟨p1, d1, s1, o1, st1, r1, h1⟩ => ⟨p1, env, s1, o1, (h1.seq (fun p H ds vs => Paired (rel T.M p H) ds vs)).imp fun vs H2 ⟨p2, ds, s2, o2, st2, r2, h2⟩ => ?_⟩⟩
  exact Rg.done (d := d1 :: ds) h2 o2 (.cons (hk _ _ _ _ _ _ _ st2 o1.cells.ap r1) r2)
theorem pk_imp {kws : List Keyword} {t t' : TA} (h : PK X kws t) (k : ∀ σ H Q, t' σ H Q → t σ H Q) : PK X kws t' := ⟨fun pos pins s σ H Q I q => h.run pos pins s σ H Q I (k _ _ _ q)⟩
theorem sndK_nil {rel : Rel} : PK X [] (tA T N W rel .nil) := pk_imp pk_nil fun σ H Q ⟨p, env, s, o0, h⟩ => by
  unfold evs at h
  exact Rg.done (d := []) h o0 .nil
theorem sndK_cons {rel : Rel} {kws : List Keyword} {nm : Option Str} {kpos : Pos} (hk : Kept rel) (h1 : PE X e (tE T N W rel x)) (h2 : PK X kws (tA T N W rel xs)) : PK X (⟨nm, e, kpos⟩ :: kws) (tA T N W rel (.cons x xs)) := pk_imp (pk_cons h1 h2) fun σ H Q ⟨p, env, s, o0, h⟩ => by
  unfold evs at h
  refine ⟨p, env, s, o0, (h.seq (rel T.M)).imp fun v H1 ⟨p1, d1, s1, o1, st1, r1, h1⟩ => ⟨p1, env, s1, o1, (h1.seq (fun p H ds vs => Paired (rel T.M p H) ds vs)).imp fun vs H2 ⟨p2, ds, s2, o2, st2, r2, h2⟩ => ?_⟩⟩
  exact Rg.done (d := d1 :: ds) h2 o2 (.cons (hk _ _ _ _ _ _ _ st2 o1.cells.ap r1) r2)
theorem kw_names {kws : List Keyword} {env : PySem.Env} {ps : Pos} {nms : List Str} (h : kws.map (·.arg) = nms.map some) : (backToKw ps (keywordEach kws env)).map (·.1) = nms.map some := by
  rw [← h]
  clear h
  induction kws with
  | nil => rfl
  | cons k r ih =>
    obtain ⟨a, v, q⟩ := k
    show a :: (backToKw ps (keywordEach r env)).map (·.1) = a :: r.map (·.arg)
    rw [ih]
theorem kw_all {l : List (Option Str × Sem Value)} {nms : List Str} (h : l.map (·.1) = nms.map some) : l.all (·.1.isSome) = true ∧ l.filterMap (·.1) = nms ∧ l.any (·.1.isNone) = false := by
  induction l generalizing nms with
  | nil =>
    cases nms with
    | nil => exact ⟨rfl, rfl, rfl⟩
    | cons _ _ => cases h
  | cons a l ih =>
    cases nms with
    | nil => cases h
    | cons n nms =>
      obtain ⟨x, t⟩ := a
      rw [List.map_cons, List.map_cons] at h
      have h1 : x = some n := (List.cons.inj h).1
      subst h1
      obtain ⟨a1, a2, a3⟩ := ih (List.cons.inj h).2
      refine ⟨?_, ?_, ?_⟩
      · rw [List.all_cons, a1]; rfl
      · rw [List.filterMap_cons, a2]
      · rw [List.any_cons, a3]; rfl
theorem repL_of {M : Md} {p : Rho} {H : Hp} : ∀ {ds : List D} {vs : List V}, Paired (Rep M p H) ds vs → RepL M p H ds vs
  | _, _, .nil => .nil
  | _, _, .cons h t => .cons h (repL_of t)
/-! ### displays -/
theorem snd_tup {k : Nat} (h : PA X es (tA T N W Rep xs)) (hl : xs.len ≤ 1000) : PE X (.Tuple es k pos) (tE T N W Rep (.tup xs)) := (pe_tup h).imp fun σ H Q ⟨p, env, s, o0, h⟩ => by
  unfold ev at h
  cases q : evs T.G T.call T.mkc xs env s with
  | stk => rw [q] at h; exact h.elim
  | exc y s1 => rw [q] at h; exact ⟨p, env, s, o0, by rw [q]; exact h⟩
  | ok ds s1 =>
    rw [q] at h
    refine ⟨p, env, s, o0, ?_⟩
    rw [q]
    intro vs p1 H1 st1 o1 r1
    have h1 := repL_of r1
    refine ⟨?_, fun a hn => ?_⟩
    · rw [← h1.length, sizeLine_eq]
      exact Nat.le_trans (by rw [evs_len q]; exact hl) (by decide)
    · have st2 : Step p1 H1 (p1.fix a) (upd H1 a (.tup vs)) := Step.new hn
      exact h (.ref a) (p1.fix a) _ (st1.trans st2) (o1.new hn) (.tup (.inr rfl) upd_same (h1.step st2 o1.cells.ap))
theorem snd_lst (h : PA X es (tA T N W Rep xs)) (hl : xs.len ≤ 1000) : PE X (.List es pos) (tF T N W (.lst xs)) := (pe_lst h).imp fun σ H Q ⟨p, env, s, o0, h⟩ => by
  unfold ev at h
  cases q : evs T.G T.call T.mkc xs env s with
  | stk => rw [q] at h; exact h.elim
  | exc y s1 => rw [q] at h; exact ⟨p, env, s, o0, by rw [q]; exact h⟩
  | ok ds s1 =>
    rw [q] at h
    refine ⟨p, env, s, o0, ?_⟩
    rw [q]
    intro vs p1 H1 st1 o1 r1
    have h1 := repL_of r1
    refine ⟨?_, fun a hn => ?_⟩
    · rw [← h1.length, sizeLine_eq]
      exact Nat.le_trans (by rw [evs_len q]; exact hl) (by decide)
    · exact (Rg.step (p1 := p1) (H1 := H1) (r := .ok (D.lst ds) s1) st1 h).newL o1 (fun b hb => st1.none_ hb) hn h1
/-- {} -/
theorem snd_dic0 : PE X (.Dict [] [] pos) (tF T N W .dic0) := pe_dnewK.imp fun σ H Q ⟨p, env, s, o0, h⟩ => fun a hn => by
  unfold ev at h
  have st : Step p H p (upd H a (.dK [])) := Step.loose hn
  exact h _ p _ st (o0.loose hn) ⟨a, rfl, hn, fun hF => o0.cells.tr a hF hn, fun hc => o0.cells.some_ hc hn, [], upd_same, rfl, .nil⟩
theorem dget_rep {M : Md} {p : Rho} {H : Hp} {k : Key} : ∀ {ks : List (Key × D)} {hs : List (Key × V)} {d : D}, hs.map (·.1) = ks.map (·.1) → RepL M p H (ks.map (·.2)) (hs.map (·.2)) → dGet ks k = some d → ∃ v, valV hs k = some v ∧ Rep M p H d v
  | [], hs, d, e, r, h => by cases h
  | q :: ks, [], d, e, r, h => by cases e
  | q :: ks, z :: hs, d, e, r, h => by
    rw [List.map_cons, List.map_cons] at e r
    have e1 := (List.cons.inj e).1
    have e2 := (List.cons.inj e).2
    cases r with
    | cons r1 r2 =>
      by_cases c : q.1 = k
      · have h : some q.2 = some d := by
          have : dGet (q :: ks) k = some q.2 := by simp [dGet, List.find?_cons, c]
          rw [← this]; exact h
        cases h
        exact ⟨z.2, valV_pos (e1.trans c), r1⟩
      · have h2 : dGet ks k = some d := by
          have : dGet (q :: ks) k = dGet ks k := by simp [dGet, List.find?_cons, c]
          rw [← this]; exact h
        obtain ⟨v, h3, h4⟩ := dget_rep e2 r2 h2
        exact ⟨v, by rw [valV_neg (fun z => c (e1.symm.trans z))]; exact h3, h4⟩
theorem dput_rep {M : Md} {p : Rho} {H : Hp} {k : Key} {d : D} {v : V} (rv : Rep M p H d v) {ks : List (Key × D)} {hs : List (Key × V)} (e : hs.map (·.1) = ks.map (·.1)) (r : RepL M p H (ks.map (·.2)) (hs.map (·.2))) : (putK hs k v).map (·.1) = (dPut ks k d).map (·.1) ∧ RepL M p H ((dPut ks k d).map (·.2)) ((putK hs k v).map (·.2)) := by
  have an : (hs.any fun kv => decide (kv.1 = k)) = (ks.any fun kv => decide (kv.1 = k)) := by
    have a1 : (hs.any fun kv => decide (kv.1 = k)) = (hs.map (·.1)).any fun x => decide (x = k) := by rw [List.any_map]; rfl
    have a2 : (ks.any fun kv => decide (kv.1 = k)) = (ks.map (·.1)).any fun x => decide (x = k) := by rw [List.any_map]; rfl
    rw [a1, a2, e]
  unfold putK dPut
  rw [an]
  split
  · clear an
    induction ks generalizing hs with
    | nil =>
      cases hs with
      | nil => exact ⟨rfl, .nil⟩
      | cons _ _ => cases e
    | cons q ks ih =>
      cases hs with
      | nil => cases e
      | cons z hs =>
        rw [List.map_cons, List.map_cons] at e r
        have e1 := (List.cons.inj e).1
        cases r with
        | cons r1 r2 =>
          rename_i hany
          have key : ∀ (ks : List (Key × D)) (hs : List (Key × V)), hs.map (·.1) = ks.map (·.1) → RepL M p H (ks.map (·.2)) (hs.map (·.2)) → (hs.map fun kv => if kv.1 = k then (kv.1, v) else kv).map (·.1) = (ks.map fun kv => if kv.1 = k then (kv.1, d) else kv).map (·.1) ∧ RepL M p H ((ks.map fun kv => if kv.1 = k then (kv.1, d) else kv).map (·.2)) ((hs.map fun kv => if kv.1 = k then (kv.1, v) else kv).map (·.2)) := by
            intro ks
            induction ks with
            | nil =>
              intro hs e r
              cases hs with
              | nil => exact ⟨rfl, .nil⟩
              | cons _ _ => cases e
            | cons q ks ih =>
              intro hs e r
              cases hs with
              | nil => cases e
              | cons z hs =>
                rw [List.map_cons, List.map_cons] at e r
                have e1 := (List.cons.inj e).1
                cases r with
                | cons r1 r2 =>
                  obtain ⟨i1, i2⟩ := ih hs (List.cons.inj e).2 r2
                  by_cases c : q.1 = k
                  · have c2 : z.1 = k := e1.trans c
                    simp only [List.map_cons, if_pos c, if_pos c2]
                    exact ⟨by rw [i1, e1], .cons rv i2⟩
                  · have c2 : ¬ z.1 = k := fun w => c (e1.symm.trans w)
                    simp only [List.map_cons, if_neg c, if_neg c2]
                    exact ⟨by rw [i1, e1], .cons r1 i2⟩
          exact key (q :: ks) (z :: hs) (by rw [List.map_cons, List.map_cons]; exact e) (.cons r1 r2)
  · refine ⟨by rw [List.map_append, List.map_append, e]; rfl, ?_⟩
    rw [List.map_append, List.map_append]
    exact r.append (.cons rv .nil)
theorem key_rel {M : Md} {p : Rho} {H : Hp} {d : D} {v : V} {k : Key} (r : RepB M p H d v) (h : kOf d = some k) : v = kV k := by
  cases d with
  | int i => cases h; exact r.int
  | str x => cases h; exact r.str
  | _ => cases h
/-- a dict that is looked at -/
theorem dic_at {M : Md} {p : Rho} {H : Hp} {ks : List (Key × D)} {v : V} (r : RepB M p H (.dic ks) v) : ∃ a hs, v = .ref a ∧ H a = some (.dK hs) ∧ hs.map (·.1) = ks.map (·.1) ∧ RepL M p H (ks.map (·.2)) (hs.map (·.2)) := by
  rcases r with r | ⟨a, x, e, hn, ho, hr⟩
  · cases r with
    | dic h1 h2 h3 h4 => exact ⟨_, _, rfl, h2, h3, h4⟩
  · cases ho
    obtain ⟨hs, h1, h2, h3⟩ := hr
    exact ⟨a, hs, e, h1, h2, h3⟩
/-- d[k] of a dict -/
theorem snd_dget (g : Good T c X) (hs : NoSl b) (ha : PE X a (tE T N W RepB x)) (hb : PE X b (tE T N W RepB y)) : PE X (.Subscript a b pos) (tE T N W Rep (.dget x y)) := by
  refine (pe_dget (by have := g.un; omega) ha hb hs).imp fun σ H Q ⟨p, env, s, o, h⟩ => ?_
  unfold ev at h
  refine ⟨p, env, s, o, (h.seq (RepB T.M)).imp fun v H1 ⟨p1, d1, s1, o1, st1, r1, h1⟩ => ⟨p1, env, s1, o1, (h1.seq (RepB T.M)).imp fun u H2 ⟨p2, d2, s2, o2, st2, r2, h2⟩ => ?_⟩⟩
  have r1' := r1.step st2 o1.cells.ap
  obtain ⟨z, hz, hg⟩ := h2.lift
  cases d1 with
  | dic ks =>
    have hz : (kOf d2).bind (dGet ks) = some z := hz
    cases q : kOf d2 with
    | none => rw [q] at hz; cases hz
    | some k =>
      rw [q] at hz
      have hz : dGet ks k = some z := hz
      obtain ⟨a', hs', e1, e2, e3, e4⟩ := dic_at r1'
      obtain ⟨w, w1, w2⟩ := dget_rep e3 e4 hz
      refine ⟨a', w, e1, ?_, hg.done o2 w2⟩
      rw [key_rel r2 q, ← w1]
      exact DGet.k e2
  | _ => cases hz
/-- a list that is a cell -/
theorem snd_cel (h : PA X es (tA T N W Rep xs)) (hl : xs.len ≤ 1000) : PE X (.List es pos) (tE T N W Rep (.cel xs)) := (pe_lst h).imp fun σ H Q ⟨p, env, s, o0, h⟩ => by
  unfold ev at h
  cases q : evs T.G T.call T.mkc xs env s with
  | stk => rw [q] at h; exact h.elim
  | exc y s1 => rw [q] at h; exact ⟨p, env, s, o0, by rw [q]; exact h⟩
  | ok ds s1 =>
    rw [q] at h
    refine ⟨p, env, s, o0, ?_⟩
    rw [q]
    intro vs p1 H1 st1 o1 r1
    have h1 := repL_of r1
    refine ⟨?_, fun a hn => ?_⟩
    · rw [← h1.length, sizeLine_eq]
      exact Nat.le_trans (by rw [evs_len q]; exact hl) (by decide)
    · have st2 : Step p1 H1 { p1 with cs := p1.cs ++ [a] } (upd H1 a (.lst vs)) := by
        refine ⟨fun x h => h, fun x h => .inl h, fun x o h _ => ?_, ⟨[a], rfl, fun x hx => ?_⟩, fun x h => ?_⟩
        · rw [upd_ne (ne_of_none h hn)]; exact h
        · rw [List.mem_singleton.mp hx]; exact hn
        · by_cases e : x = a
          · subst e; rw [upd_same]; simp
          · rw [upd_ne e]; exact h
      have na : a ∉ p1.cs := fun hm => o1.cells.some_ hm hn
      have ok2 : CellsOk T.M { p1 with cs := p1.cs ++ [a] } (upd H1 a (.lst vs)) (s1 ++ [.lst ds]) := by
        refine ⟨by rw [List.length_append, List.length_append, o1.cells.len]; rfl, ?_, fun b hb hF => ?_, fun b hb => st2.th b (o1.cells.tr b hb), fun n b cl e1 e2 => ?_⟩
        · rw [List.nodup_append]
          refine ⟨o1.cells.nd, by simp, fun u hu v hv e => ?_⟩
          rw [List.mem_singleton.mp hv] at e
          exact na (e ▸ hu)
        · rcases List.mem_append.mp hb with hb | hb
          · exact o1.cells.ap b hb hF
          · rw [List.mem_singleton.mp hb] at hF
            exact o1.cells.tr a hF hn
        · by_cases hlt : n < p1.cs.length
          · rw [List.getElem?_append_left hlt] at e1
            rw [List.getElem?_append_left (by rw [← o1.cells.len]; exact hlt)] at e2
            exact (o1.cells.at_ n b cl e1 e2).step st2 o1.cells.ap fun o ho => by rw [upd_ne (ne_of_none ho hn)]; exact ho
          · rw [List.getElem?_append_right (by omega)] at e1
            rw [List.getElem?_append_right (by rw [← o1.cells.len]; omega)] at e2
            have hz : n - p1.cs.length = 0 := by
              cases hh : n - p1.cs.length with
              | zero => rfl
              | succ m => rw [hh] at e1; simp at e1
            rw [hz] at e1
            rw [← o1.cells.len, hz] at e2
            cases e1
            cases e2
            exact ⟨vs, upd_same, h1.step st2 o1.cells.ap⟩
      refine h (.ref a) _ _ (st1.trans st2) (o1.step st2 ok2) (.ref ?_)
      rw [← o1.cells.len]
      simp
/-! ### items and slices -/
theorem atI_rep {M : Md} {p : Rho} {H : Hp} {ds : List D} {vs : List V} {i : Int} {d : D} (r : RepL M p H ds vs) (h : atI ds i = some d) : ∃ v, atI vs i = some v ∧ Rep M p H d v := by
  unfold atI at h ⊢
  rw [← r.length]
  cases q : ixN ds.length i with
  | none => rw [q] at h; cases h
  | some k =>
    rw [q] at h
    exact r.get h
theorem atI_map {α β : Type} (f : α → β) (l : List α) (i : Int) : atI (l.map f) i = (atI l i).map f := by
  unfold atI
  rw [List.length_map]
  cases ixN l.length i with
  | none => rfl
  | some k => exact List.getElem?_map
theorem dIdxS_ok {s : Sto} {x y z : D} (h : dIdxS s x y = some z) : (∃ n i xs, x = .ref n ∧ y = .int i ∧ s[n]? = some (.lst xs) ∧ atI xs i = some z) ∨ (∃ xs i, x = .lst xs ∧ y = .int i ∧ atI xs i = some z) ∨ (∃ xs i, x = .tup xs ∧ y = .int i ∧ atI xs i = some z) ∨
    (∃ ns i w, x = .scr ns ∧ y = .int i ∧ atI ns i = some w ∧ z = .int w) ∨ ∃ a i w, x = .str a ∧ y = .int i ∧ okL a.length = true ∧ atI a.cps.toList i = some w ∧ z = .str ⟨#[w]⟩ := by
  unfold dIdxS at h
  split at h
  · split at h
    · exact .inl ⟨_, _, _, rfl, rfl, by assumption, h⟩
    · cases h
  · unfold dIdx at h
    split at h
    · exact .inr (.inl ⟨_, _, rfl, rfl, h⟩)
    · exact .inr (.inr (.inl ⟨_, _, rfl, rfl, h⟩))
    · rename_i ns i _
      cases q : atI ns i with
      | none => rw [q] at h; cases h
      | some w => rw [q] at h; cases h; exact .inr (.inr (.inr (.inl ⟨_, _, w, rfl, rfl, q, rfl⟩)))
    · rename_i a i _
      split at h
      · rename_i hl
        cases q : atI a.cps.toList i with
        | none => rw [q] at h; cases h
        | some w => rw [q] at h; cases h; exact .inr (.inr (.inr (.inr ⟨_, _, w, rfl, rfl, hl, q, rfl⟩)))
      · cases h
    · cases h
theorem snd_idx (g : Good T c X) (hs : notSlice b = true) (ha : PE X a (tE T N W RepB x)) (hb : PE X b (tE T N W RepB y)) : PE X (.Subscript a b pos) (tE T N W Rep (.idx x y)) := (pe_ix ix_seq ha hb (plain_ix hs)).imp fun σ H Q ⟨p, env, s, o0, h⟩ => by
  unfold ev at h
  refine ⟨p, env, s, o0, (h.seq (RepB T.M)).imp fun v H1 ⟨p1, d1, s1, o1, st1, r0, h1⟩ => ⟨p1, env, s1, o1, (h1.seq (RepB T.M)).imp fun u H2 ⟨p2, d2, s2, o2, st2, r2, h2⟩ => ?_⟩⟩
  have r1 := r0.step st2 o1.cells.ap
  obtain ⟨z, hz, hg⟩ := h2.lift
  rcases dIdxS_ok hz with ⟨n, i, xs, rfl, rfl, e, hy⟩ | ⟨xs, i, rfl, rfl, hy⟩ | ⟨xs, i, rfl, rfl, hy⟩ | ⟨ns, i, w, rfl, rfl, hy, rfl⟩ | ⟨z, i, w, rfl, rfl, hl, hy, rfl⟩
  · cases r1.flat rfl with
    | ref hc =>
      obtain ⟨vs, c1, c2⟩ := o2.cells.at_ n _ _ hc e
      obtain ⟨w, e1, rw1⟩ := atI_rep c2 hy
      exact .inl ⟨_, vs, i, w, rfl, r2.int, .inl (.inl c1), e1, hg.done o2 rw1⟩
  · obtain ⟨a, vs, rfl, c1, c2⟩ := r1.lst
    obtain ⟨w, e1, rw1⟩ := atI_rep c2 hy
    exact .inl ⟨a, vs, _, w, rfl, r2.int, .inl (.inl c1), e1, hg.done o2 rw1⟩
  · obtain ⟨a, vs, rfl, c1, c2⟩ := r1.tup
    obtain ⟨w, e1, rw1⟩ := atI_rep c2 hy
    exact .inr (.inl ⟨a, vs, _, w, rfl, r2.int, .inl (.inl c1), e1, hg.done o2 rw1⟩)
  · obtain ⟨a, rfl, c1⟩ := r1.scr
    exact .inl ⟨a, _, _, _, rfl, r2.int, g.th.kk ▸ c1, by rw [atI_map, hy]; rfl, hg.done o2 (.int w)⟩
  · exact .inr (.inr ⟨z, i, w, r1.str, r2.int, okL_le hl, hy, hg.done o2 (.str _)⟩)
/-- a slice's parts: none or one -/
def partE : Option Expr → List Expr
  | none => []
  | some e => [e]
def tO (T : Th) (N : En) (W : WX) (xs : Es) : TO := fun σ H Q => ∃ p env s, Ok T.M N p env s σ H ∧ Rg T.M N W env σ (fun _ _ (o : Option Int) (v : Option Int) => o = v) p H ((evs T.G T.call T.mkc xs env s).bind fun ds s1 => lift (optI ds) s1) Q
theorem sndO_none : PO X none (tO T N W .nil) := ⟨fun pins s σ H Q I ⟨p, env, s0, o0, h⟩ => po_none.run pins s σ H Q I (by
  unfold evs at h
  exact Rg.done (d := (none : Option Int)) h o0 rfl)⟩
theorem sndO_some (ha : PE X a (tE T N W RepB x)) : PO X (some a) (tO T N W (.cons x .nil)) := ⟨fun pins s σ H Q I ⟨p, env, s0, o0, h⟩ => (po_some ha).run pins s σ H Q I (by
  unfold evs at h
  simp only [R.assoc] at h
  refine ⟨p, env, s0, o0, (h.seq (RepB T.M)).imp fun v H1 ⟨p1, d1, s1, o1, st1, r1, h1⟩ => ?_⟩
  unfold evs at h1
  cases d1 with
  | int i => exact ⟨i, r1.int, Rg.done (d := some i) h1 o1 rfl⟩
  | _ => exact h1.elim)⟩
theorem cut_rep {M : Md} {p : Rho} {H : Hp} {ds : List D} {vs : List V} (r : RepL M p H ds vs) (lo hi : Option Int) : RepL M p H (cutD ds lo hi) (cutV vs lo hi) := by
  unfold cutD cutV
  rw [← r.length]
  exact (r.drop _).take _
theorem repL_ints {M : Md} {p : Rho} {H : Hp} : ∀ ns : List Int, RepL M p H (ns.map .int) (ns.map V.int)
  | [] => .nil
  | n :: ns => .cons (.int n) (repL_ints ns)
theorem cut_whole {ds : List D} {vs : List V} {lo hi : Option Int} (e : ds.length = vs.length) (hw : HT.sIx vs.length 0 lo = 0 ∧ HT.sIx vs.length vs.length hi = vs.length) : cutD ds lo hi = ds := by
  unfold cutD
  rw [e, hw.1, hw.2, List.drop_zero, Nat.sub_zero, ← e, List.take_length]
theorem snd_sl {lo hi : Option Expr} {ls hs : Es} {p2 : Pos} (g : Good T c X) (ha : PE X a (tE T N W RepB x)) (hl : PO X lo (tO T N W ls)) (hh : PO X hi (tO T N W hs)) : PE X (.Subscript a (.Slice lo hi none p2) pos) (tF T N W (.sl x ls hs)) := (pe_slice ((sl_list.or sl_str).or sl_tupA) ha hl hh).imp fun σ H Q ⟨p, env, s, o0, h⟩ => by
  unfold ev at h
  refine ⟨p, env, s, o0, (h.seq (RepB T.M)).imp fun v H1 ⟨p1, d1, s1, o1, st1, r0, h1⟩ => ⟨p1, env, s1, o1, (h1.seq (fun _ _ (o v : Option Int) => o = v)).imp fun l H2 ⟨p2, d2, s2, o2, st2, r2, h2⟩ =>
    ⟨p2, env, s2, o2, (h2.seq (fun _ _ (o v : Option Int) => o = v)).imp fun u H3 ⟨p3, d3, s3, o3, st3, r3, h3⟩ => ?_⟩⟩⟩
  subst r2 r3
  have r1 := (r0.step st2 o1.cells.ap).step st3 o2.cells.ap
  obtain ⟨z, hz, hg⟩ := h3.lift
  have h0 : ∀ b, H3 b = none → H b = none := fun b e => ((st1.trans st2).trans st3).none_ e
  unfold dSl at hz
  split at hz
  · cases hz
    obtain ⟨a, vs, rfl, c1, c2⟩ := r1.lst
    exact .inl (.inl ⟨a, vs, rfl, .inl (.inl c1), fun q hq => hg.newL o3 h0 hq (cut_rep c2 _ _)⟩)
  · cases hz
    have rf := r1.flat rfl
    obtain ⟨a, vs, rfl, c1, c2⟩ := r1.tup
    refine .inr ⟨a, vs, rfl, .inl (.inl c1), fun hw => ?_, fun _ q hq => hg.newT o3 hq (cut_rep c2 _ _)⟩
    have e := cut_whole c2.length hw
    rw [e] at hg
    exact hg.flatF o3 rfl rf
  · cases hz
    obtain ⟨a, rfl, c1⟩ := r1.scr
    exact .inl (.inl ⟨a, _, rfl, g.th.kk ▸ c1, fun q hq => hg.newL o3 h0 hq (cut_rep (repL_ints _) _ _)⟩)
  · split at hz
    · rename_i hl
      cases hz
      exact .inl (.inr ⟨_, r1.str, okL_le hl, hg.flatF o3 rfl (.str _)⟩)
    · cases hz
  · cases hz
end
end Lv
set_option Elab.async false
set_option linter.all false
set_option maxRecDepth 100000
set_option maxHeartbeats 4000000
/-! Lv7: calls of defs and of built-ins, isinstance, f-strings, methods of texts. -/
namespace Lv
open PySem PySem.Spec PyProof.Rows L2
section
variable {T : Th} {c : Sx} {N : En} {W : WX} {X : Cx} {a b e : Expr} {es : List Expr} {x y z : E} {xs ys : Es} {pos p0 : Pos}
/-- a callee runs, and what it lets out is taken -/
theorem run_g {k : Nat} {f : Addr} {fd : FuncData} {ps : List Str} {sp : Sp} {ds : List Value} {dvs : List V} {E1 : XK} {pins : List (Addr × Obj)} {σ : L2.St} {H : Hp} {s : Shared} {Q : VK} {us : List Value} {vs : List V}
    (F : FnG X.prog X.w X.K X.mg X.base k f fd ps sp) (room : Room k X.A) (gd : X.A.guards = some []) (bd : Binds X.K fd ps ds) (dv : Vals dvs ds) (out : ∀ u s', L2.CX X.prog X.w X.stack H s E1 u s' → X.xe u s')
    (I : Inv X pins σ H s) (rv : Vals vs us) (h : sp (vs ++ dvs) H Q E1) : wpAny (model X.prog X.w) X.A (call (.ref f) us) (EP X pins σ Q) X.xe s := by
  have rall : Vals (vs ++ dvs) (us ++ ds) := rv.append dv
  have ln : (us ++ ds).length = ps.length := rall.length.symm.trans (F.len _ _ _ _ h)
  refine wpAny_call (codeAny_mono (F.run X.A X.stack s H ⟨us, []⟩ _ _ Q E1 room gd I.env0 (bd s us I.kIn ln) rall h) ?_)
  intro r s' hq
  match r, hq with
  | .error e, hq => exact out e s' hq
  | .ok (.ret u), hq => exact I.after hq
/-- from a term's worth to a promise -/
theorem rg_sp {M : Md} {env : Env} {σ : L2.St} {p : Rho} {H : Hp} {s : Sto} {cf : List D → Sto → R D} {n : Nat} {ds : List D} {vs : List V} {Q : VK} (o : Ok M N p env s σ H) (r : RepL M p H ds vs) (hn : ds.length = n) (h : Rg M N W env σ (Rep M) p H (cf ds s) Q) : spF M cf n vs H Q (fun cls d H' => W cls d σ H') := by
  refine ⟨p, s, ds, o.cells, r, hn, ?_⟩
  cases q : cf ds s with
  | ok d s' => rw [q] at h; exact fun v p' H' st ck rd => h v p' H' st (o.step st ck) rd
  | exc y s' => rw [q] at h; exact fun cls dd p' H' st ck er => h cls dd p' H' st (o.step st ck) er
  | stk => rw [q] at h; exact h
theorem out_of {pins : List (Addr × Obj)} {σ : L2.St} {H : Hp} {s : Shared} (tk : Takes X W) (I : Inv X pins σ H s) : ∀ u s', L2.CX X.prog X.w X.stack H s (fun cls d H' => W cls d σ H') u s' → X.xe u s' :=
  fun u s' q => tk u s' (XE.of_call I (fun _ _ _ w => w) q)
/-- f(e, ..) -/
theorem snd_call (g : Good T c X) (tk : Takes X W) {f : Nat} {nm : Str} {ps : List Str} (hf : T.C.fnm f = some (nm, ps)) (hg : glB c nm = true) (ha : PA X (e :: es) (tA T N W Rep xs)) (hs : noStars (e :: es) = true) (hn : xs.len = ps.length) : PE X (.Call (.Name nm p0) (e :: es) [] pos) (tE T N W Rep (.call f xs)) := by
  obtain ⟨fa, fd, hm, hk, hb, F, _⟩ := g.th.fn f nm ps hf
  obtain ⟨g1, g2⟩ := gl_of g hg
  unfold noStars at hs
  rw [Bool.and_eq_true] at hs
  refine ⟨fun pins s σ H Q I hr => ?_⟩
  obtain ⟨p, env, s0, o0, h⟩ := hr
  unfold ev at h
  refine wpAny_Call_Name_kw (ld_glob I g1 hm ?_ g2)
  have arg : tA T N W Rep xs σ H (fun vs H1 => spF T.M (T.call f) ps.length vs H1 Q (fun cls d H' => W cls d σ H')) := by
    refine ⟨p, env, s0, o0, ?_⟩
    cases q : evs T.G T.call T.mkc xs env s0 with
    | stk => rw [q] at h; exact h.elim
    | exc y s1 => rw [q] at h; exact h
    | ok ds s1 =>
      rw [q] at h
      intro vs p1 H1 st1 o1 r1
      exact rg_sp o1 (repL_of r1) (by rw [evs_len q, hn]) (Rg.step st1 h)
  refine PySem.W.callWith_K (h₀ := X.base) I.ok.mod.kin hk (thn (ha.run pos pins s σ H _ I arg) fun us s1 ⟨vs, H1, I1, r, q⟩ => ⟨I1.kIn, ?_⟩) (star_cons hs.1) (star_any hs.2)
  exact run_g F (g.room.mono (by omega)) g.gd hb .nil (out_of tk I1) I1 r (by rw [List.append_nil]; exact q)
/-- a callee runs, called by names alone -/
theorem run_gk {k : Nat} {f : Addr} {fd : FuncData} {ps nms : List Str} {pm : List Nat} {sp : Sp} {E1 : XK} {pins : List (Addr × Obj)} {σ : L2.St} {H : Hp} {s : Shared} {Q : VK} {ws : List Value} {zs : List V}
    (F : FnG X.prog X.w X.K X.mg X.base k f fd ps sp) (room : Room k X.A) (gd : X.A.guards = some []) (kb : KB X.K fd ps (nms, pm)) (out : ∀ u s', L2.CX X.prog X.w X.stack H s E1 u s' → X.xe u s')
    (I : Inv X pins σ H s) (rv : Vals zs ws) (hl : ws.length = nms.length) (h : sp (pm.map fun k => zs.getD k V.non) H Q E1) : wpAny (model X.prog X.w) X.A (call (.ref f) [] (nms.zip ws)) (EP X pins σ Q) X.xe s := by
  have at_ : ∀ k, RelV (zs.getD k V.non) (ws.getD k .none) := by
    intro k
    clear hl h I kb
    induction rv generalizing k with
    | nil => exact rfl
    | cons r _ ih =>
      cases k with
      | zero => exact r
      | succ k => exact ih k
  have rall : ∀ pm : List Nat, Vals (pm.map fun k => zs.getD k V.non) (pm.map fun k => ws.getD k .none) := by
    intro pm
    induction pm with
    | nil => exact .nil
    | cons k pm ih => exact .cons (at_ k) ih
  refine wpAny_call (codeAny_mono (F.run X.A X.stack s H ⟨[], nms.zip ws⟩ _ _ Q E1 room gd I.env0 (kb s ws I.kIn hl) (rall pm) h) ?_)
  intro r s' hq
  match r, hq with
  | .error e, hq => exact out e s' hq
  | .ok (.ret u), hq => exact I.after hq
theorem repL_perm {M : Md} {p : Rho} {H : Hp} {ds : List D} {vs : List V} (r : RepL M p H ds vs) : ∀ pm : List Nat, RepL M p H (pm.map fun k => ds.getD k .non) (pm.map fun k => vs.getD k V.non)
  | [] => .nil
  | k :: pm => by
    refine .cons ?_ (repL_perm r pm)
    have at_ : ∀ {ds : List D} {vs : List V} (k : Nat), RepL M p H ds vs → Rep M p H (ds.getD k .non) (vs.getD k V.non) := by
      intro ds vs k r
      induction k generalizing ds vs with
      | zero =>
        cases r with
        | nil => exact .non
        | cons h _ => exact h
      | succ k ih =>
        cases r with
        | nil => exact .non
        | cons _ t => exact ih t
    exact at_ k r
/-- f(x = e, ..): by names alone -/
theorem snd_callk (g : Good T c X) (tk : Takes X W) {f : Nat} {nm : Str} {ps nms : List Str} {pm : List Nat} {kws : List Keyword} (hf : T.C.fnm f = some (nm, ps)) (hq : T.C.kw f (nms, pm) = true) (hg : glB c nm = true) (hkw : PK X kws (tA T N W Rep ys)) (hnm : kws.map (·.arg) = nms.map some) (hy : ys.len = nms.length) (hpm : pm.length = ps.length) : PE X (.Call (.Name nm p0) [] kws pos) (tE T N W Rep (.callk f .nil ys pm)) := by
  obtain ⟨fa, fd, hm, hk, hb, F, kb⟩ := g.th.fn f nm ps hf
  obtain ⟨g1, g2⟩ := gl_of g hg
  refine ⟨fun pins s σ H Q I hr => ?_⟩
  obtain ⟨p, env, s0, o0, h⟩ := hr
  unfold ev at h
  rw [show evs T.G T.call T.mkc .nil env s0 = .ok [] s0 from rfl] at h
  refine wpAny_Call_Name_kw (ld_glob I g1 hm ?_ g2)
  have arg : tA T N W Rep ys σ H (fun zs H1 => zs.length = nms.length ∧ spF T.M (T.call f) ps.length (pm.map fun k => zs.getD k V.non) H1 Q (fun cls d H' => W cls d σ H')) := by
    refine ⟨p, env, s0, o0, ?_⟩
    have h : Rg T.M N W env σ (Rep T.M) p H ((evs T.G T.call T.mkc ys env s0).bind fun zs s2 => T.call f (perm pm [] zs) s2) Q := h
    cases q : evs T.G T.call T.mkc ys env s0 with
    | stk => rw [q] at h; exact h.elim
    | exc y s1 => rw [q] at h; exact h
    | ok ds s1 =>
      rw [q] at h
      intro vs p1 H1 st1 o1 r1
      have rl := repL_of r1
      refine ⟨by rw [← rl.length, evs_len q, hy], ?_⟩
      have e : perm pm [] ds = pm.map fun k => ds.getD k .non := rfl
      have h : Rg T.M N W env σ (Rep T.M) p H (T.call f (perm pm [] ds) s1) Q := h
      rw [e] at h
      exact rg_sp o1 (repL_perm rl pm) (by rw [List.length_map, hpm]) (Rg.step st1 h)
  obtain ⟨k1, k2, k3⟩ := kw_all (kw_names (env := X.env) (ps := pos) hnm)
  refine PySem.W.callWith_KW0 (h₀ := X.base) I.ok.mod.kin hk k1 (thn (hkw.run pos pins s σ H _ I arg) fun ws s1 ⟨zs, H1, I1, r, hl, q⟩ => ⟨I1.kIn, ?_⟩) (by rw [k3]; rfl)
  rw [k2]
  exact run_gk F (g.room.mono (by omega)) g.gd (kb _ hq) (out_of tk I1) I1 r (by rw [← r.length, hl]) q
/-- f() -/
theorem snd_call0 (g : Good T c X) (tk : Takes X W) {f : Nat} {nm : Str} (hf : T.C.fnm f = some (nm, [])) (hg : glB c nm = true) : PE X (.Call (.Name nm p0) [] [] pos) (tE T N W Rep (.call f .nil)) := by
  obtain ⟨fa, fd, hm, hk, hb, F, _⟩ := g.th.fn f nm [] hf
  obtain ⟨g1, g2⟩ := gl_of g hg
  refine ⟨fun pins s σ H Q I hr => ?_⟩
  obtain ⟨p, env, s0, o0, h⟩ := hr
  unfold ev evs at h
  refine wpAny_Call_Name_kw (ld_glob I g1 hm ?_ g2)
  exact PySem.W.callWith_K0 I.kIn hk (run_g (us := []) (vs := []) F (g.room.mono (by omega)) g.gd hb .nil (out_of tk I) I .nil (rg_sp o0 .nil rfl h))
/-! ### built-in functions -/
theorem snd_bi (g : Good T c X) {k : Bi} (hfr : T.C.fr.contains (biN k) = true) (hg : glB c (biN k) = true) (ha : PA X (e :: es) (tA T N W RepB xs)) (hs : noStars (e :: es) = true) : PE X (.Call (.Name (biN k) p0) (e :: es) [] pos) (tF T N W (.bi k xs)) := by
  have hm := g.th.free _ hfr
  obtain ⟨g1, g2⟩ := gl_of g hg
  unfold noStars at hs
  rw [Bool.and_eq_true] at hs
  have hc := biR_ok g.calm g.gd g.un k
  have hv := bi_boot k
  have hn := (bi_name k).1
  have key : PE X (.Call (.Name (biN k) p0) (e :: es) [] pos) (tCB (biR X.K k) (tA T N W RepB xs)) := by
    cases k
    all_goals first
      | exact pe_callB hc g1 hm hv ha hn g2 (star_cons hs.1) (star_any hs.2)
      | exact pe_callTy hc g1 hm hv ha hn g2 (star_cons hs.1) (star_any hs.2)
  refine key.imp fun σ H Q ⟨p, env, s, o0, h⟩ => ?_
  unfold ev at h
  refine ⟨p, env, s, o0, (h.seq (fun p H ds vs => Paired (RepB T.M p H) ds vs)).imp fun vs H1 ⟨p1, ds, s1, o1, st1, r1, h1⟩ => ?_⟩
  exact bi_res g.th.kk o1 (fun b q => st1.none_ q) r1 h1
/-! ### f-strings -/
theorem snd_fmt (ha : PE X a (tE T N W RepB x)) : PE X (.FormattedValue a (-1) none pos) (tE T N W Rep (.fmt x)) := (pe_fmt ha).imp fun σ H Q ⟨p, env, s, o0, h⟩ => by
  unfold ev at h
  refine ⟨p, env, s, o0, (h.seq (RepB T.M)).imp fun v H1 ⟨p1, d1, s1, o1, st1, r1, h1⟩ => ?_⟩
  obtain ⟨z, hz, hg⟩ := h1.lift
  unfold dFmt at hz
  split at hz
  · split at hz
    · rename_i hl
      cases hz
      exact .inl ⟨_, r1.str, okL_le hl, hg.done o1 (.str _)⟩
    · cases hz
  · split at hz
    · rename_i hl
      cases hz
      exact .inr ⟨_, r1.int, hl, hg.done o1 (.str _)⟩
    · cases hz
  · cases hz
/-- the readings of an f-string's parts -/
inductive PJs (T : Th) (N : En) (W : WX) (X : Cx) : List Expr → Es → Prop where
  | nil : PJs T N W X [] .nil
  | cons {e : Expr} {es : List Expr} {x : E} {xs : Es} (h : PE X e (tE T N W Rep x)) (r : PJs T N W X es xs) : PJs T N W X (e :: es) (.cons x xs)
def tEs (T : Th) (N : En) (W : WX) : Es → List TE
  | .nil => []
  | .cons x xs => tE T N W Rep x :: tEs T N W xs
theorem PJs.pj (h : PJs T N W X es xs) : PJ X es (tEs T N W xs) := by
  induction h with
  | nil => exact .nil
  | cons h r ih => exact .cons h ih
theorem js_of : ∀ (xs : Es) (acc : Str) (σ : L2.St) (H : Hp) (Q : VK) (p : Rho) (env : Env) (s : Sto), Ok T.M N p env s σ H → Rg T.M N W env σ (Rep T.M) p H (evFs T.G T.call T.mkc xs acc env s) Q → tJs (tEs T N W xs) acc σ H fun out H1 => Q (.str out) H1
  | .nil, acc, σ, H, Q, p, env, s, o, h => by
    unfold evFs at h
    exact h.done o (.str acc)
  | .cons x xs, acc, σ, H, Q, p, env, s, o, h => by
    unfold evFs at h
    refine ⟨p, env, s, o, (h.seq (Rep T.M)).imp fun v H1 ⟨p1, d1, s1, o1, st1, r1, h1⟩ => ?_⟩
    cases r1 with
    | str y =>
      simp only at h1
      by_cases hl : okL (acc ++ y).length = true
      · rw [if_pos hl] at h1
        exact ⟨y, rfl, okL_le hl, js_of xs (acc ++ y) σ H1 Q p1 env s1 o1 h1⟩
      · rw [if_neg hl] at h1
        exact h1.elim
    | _ => exact h1.elim
theorem snd_fs {v1 v2 : Expr} {rest : List Expr} (h : PJs T N W X (v1 :: v2 :: rest) xs) : PE X (.JoinedStr (v1 :: v2 :: rest) pos) (tE T N W Rep (.fs xs)) := (pe_joined h.pj).imp fun σ H Q ⟨p, env, s, o0, h⟩ => by
  unfold ev at h
  exact js_of xs Str.empty σ H Q p env s o0 h
/-! ### methods of texts -/
theorem sndA_one {rel : Rel} (h : PE X e (tE T N W rel x)) : PE X e (tE T N W rel x) := h
theorem base_of {m : Str} (h : (match a with | .Call _ _ _ _ => false | _ => true) = true) : attributeBase a m X.env (eval a X.env) = eval a X.env := by
  cases a <;> first | rfl | (cases h; done)
theorem star_one (h : noStar e = true) : starEach [e] X.env = [(false, eval e X.env)] := star_cons h
/-- no call ahead of the dot -/
def notCall : Expr → Bool
  | .Call (.Name _ _) [] [] _ => false
  | _ => true
theorem base_of' {m : Str} (h : notCall a = true) : attributeBase a m X.env (eval a X.env) = eval a X.env := by
  unfold notCall at h
  split at h
  · cases h
  · rename_i n
    unfold attributeBase
    split
    · rename_i id q
      exact absurd rfl (n _ _ _)
    · rfl
theorem seqR {M : Md} {env : Env} {σ : L2.St} {p : Rho} {H : Hp} {s : Sto} {m : Mt} {d1 : D} {k : R D} {Q : VK} (h : Rg M N W env σ (RepF M H) p H (if recv m d1 = true then k else .stk) Q) : recv m d1 = true ∧ Rg M N W env σ (RepF M H) p H k Q := by
  by_cases q : recv m d1 = true
  · rw [if_pos q] at h; exact ⟨q, h⟩
  · rw [if_neg q] at h; exact h.elim
theorem recv_str {d : D} {m : Mt} (h : recv m d = true) : ∃ z, d = .str z := by
  unfold recv at h
  split at h
  · exact ⟨_, rfl⟩
  · exact ⟨_, rfl⟩
  · cases h
theorem snd_m1 {id : String} {m : Mt} {nm : Str} {rr : V → List V → Hp → VK → Prop} {ap : Pos} (slot : Slot "str" nm id) (ty : typeOf (.builtin id) = pure (.type "method_descriptor")) (rule : MtR X id rr)
    (hb : notCall a = true) (hs : noStar e = true) (hl : (ap.endLine == pos.line) = true) (ha : PE X a (tE T N W RepB x)) (he : PE X e (tE T N W RepB y))
    (res : ∀ (p : Rho) (env : Env) (s : Sto) (σ : L2.St) (H H0 : Hp) (Q : VK) (d1 d2 : D) (v u : V), Ok T.M N p env s σ H → (∀ b, H b = none → H0 b = none) → RepB T.M p H d1 v → RepB T.M p H d2 u → Rg T.M N W env σ (RepF T.M H0) p H (lift (dMt m d1 [d2]) s) Q → rr v [u] H Q) :
    PE X (.Call (.Attribute a nm ap) [e] [] pos) (tF T N W (.mth m x (.cons y .nil))) := (pe_m1 slot ty rule ha he (star_one hs) (base_of' hb) hl).imp fun σ H Q ⟨p, env, s, o0, h⟩ => by
  unfold ev at h
  refine ⟨p, env, s, o0, (h.seq (RepB T.M)).imp fun v H1 ⟨p1, d1, s1, o1, st1, r1, h1⟩ => ?_⟩
  by_cases q : recv m d1 = true
  · rw [if_pos q] at h1
    obtain ⟨z, rfl⟩ := recv_str q
    refine ⟨⟨z, r1.str⟩, ?_⟩
    unfold evs at h1
    simp only [R.assoc] at h1
    refine ⟨p1, env, s1, o1, (h1.seq (RepB T.M)).imp fun u H2 ⟨p2, d2, s2, o2, st2, r2, h2⟩ => ?_⟩
    unfold evs at h2
    exact res p2 env s2 σ H2 H Q _ d2 _ u o2 (fun b e => (st1.trans st2).none_ e) (r1.step st2 o1.cells.ap) r2 h2
  · rw [if_neg q] at h1
    exact h1.elim
theorem snd_join {ap : Pos} (hb : notCall a = true) (hs : noStar e = true) (hl : (ap.endLine == pos.line) = true) (ha : PE X a (tE T N W RepB x)) (he : PE X e (tE T N W RepB y)) : PE X (.Call (.Attribute a "join" ap) [e] [] pos) (tF T N W (.mth .join x (.cons y .nil))) := by
  refine snd_m1 PySem.F.slot_str_join PySem.F.type_str_join mt_join hb hs hl ha he fun p env s σ H H0 Q d1 d2 v u o h0 r1 r2 h => ?_
  obtain ⟨z, hz, hg⟩ := h.lift
  cases d1 with
  | str a' =>
    cases d2 with
    | lst xs' =>
      cases e : dStrs xs' with
      | none =>
        have hz : (match dStrs xs' with | some ys => _ | none => none) = some z := hz
        rw [e] at hz
        cases hz
      | some ys =>
        have hz : (match dStrs xs' with | some ys => if (ys.map (·.length)).sum + ys.length * a'.length ≤ 16777216 then some (D.str (Txt.join a' ys)) else none | none => none) = some z := hz
        rw [e] at hz
        simp only at hz
        split at hz
        · rename_i hl
          cases hz
          obtain ⟨b, vs, rfl, h1, h2⟩ := r2.lst
          have e2 := h2.strs e
          subst e2
          exact ⟨_, b, ys, r1.str, rfl, .inl (.inl (.inl h1)), hl, hg.flatF o rfl (.str _)⟩
        · cases hz
    | _ => cases hz
  | _ => cases hz
theorem repL_strs {M : Md} {p : Rho} {H : Hp} : ∀ ns : List Str, RepL M p H (ns.map .str) (ns.map V.str)
  | [] => .nil
  | n :: ns => .cons (.str n) (repL_strs ns)
theorem snd_split {ap : Pos} (hb : notCall a = true) (hs : noStar e = true) (hl : (ap.endLine == pos.line) = true) (ha : PE X a (tE T N W RepB x)) (he : PE X e (tE T N W RepB y)) : PE X (.Call (.Attribute a "split" ap) [e] [] pos) (tF T N W (.mth .split x (.cons y .nil))) := by
  refine snd_m1 PySem.F.slot_str_split PySem.F.type_str_split mt_split hb hs hl ha he fun p env s σ H H0 Q d1 d2 v u o h0 r1 r2 h => ?_
  obtain ⟨z, hz, hg⟩ := h.lift
  cases d1 with
  | str a' =>
    cases d2 with
    | str b' =>
      have hz : (if b'.length == 0 || !(okL (a'.length + 2)) then none else some (D.lst ((Txt.split a' b').map .str))) = some z := hz
      split at hz
      · cases hz
      · rename_i hl
        cases hz
        simp only [Bool.or_eq_true, not_or, Bool.not_eq_true, Bool.not_eq_false'] at hl
        exact ⟨_, _, r1.str, by rw [RepB.str r2], hl.1, okL_le hl.2, fun q hq => hg.newL o h0 hq (repL_strs _)⟩
    | _ => cases hz
  | _ => cases hz
end
end Lv
set_option Elab.async false
set_option linter.all false
set_option maxRecDepth 100000
set_option maxHeartbeats 4000000
/-! Lv7t: enumerate over tuples. -/
namespace Lv
open PySem PySem.Spec PyProof.Rows L2
theorem enumB_new {v : Value} {o : Obj} {G : Heap → Prop} (B : Begins v o G) :
    Meets (Builtin.«enumerate.__new__» ⟨[.type "enumerate", v], []⟩) (fun _ R s => G s.heap ∧
      R (.ok (.ret (.ref (s.heap.push o).objs.size))) { s with heap := (s.heap.push o).push { cls := .type "enumerate", data := .fields #[.none, .bool false, .ref s.heap.objs.size, rawInt 0, .none, .none] } }) :=
  .of_wp fun prog w A R s h => by
    obtain ⟨hp, gs, dr, tk, os⟩ := s
    obtain ⟨h1, h⟩ := h
    have sub := sub_enumerate
    have q1 : ∀ {A' : Around} {E : Value → Shared → Prop} {Q : Value → Shared → Prop}, Q (.ref hp.objs.size) ⟨hp.push o, gs, dr, tk, os⟩ → wpAny (model prog w) A' (pyIter v) Q E ⟨hp, gs, dr, tk, os⟩ :=
      fun q => B.iter prog w _ _ _ _ h1 q
    wp_walk using q1
    refine wpAny_stack_any fun st => wpAny_pure ?_
    split
    · rename_i c _ _ _ _ _
      cases (c == Value.type "enumerate")
      · wp_walk using q1
        exact ⟨_, rfl, h⟩
      · wp_walk using q1
        exact ⟨_, rfl, h⟩
    · wp_walk using q1
      exact ⟨_, rfl, h⟩
theorem enumB_call {prog : Program} {w : World} {A : Around} {E : Value → Shared → Prop} {s : Shared} {v : Value} {o : Obj} {G : Heap → Prop} {Q : Value → Shared → Prop} (B : Begins v o G) (h1 : G s.heap)
    (h : ∀ h', IsEnum h' (s.heap.objs.size + 1) s.heap.objs.size 0 .none → h'.get? s.heap.objs.size = some o → (∀ b u, s.heap.get? b = some u → h'.get? b = some u) → Q (.ref (s.heap.objs.size + 1)) { s with heap := h' }) :
    wpAny (model prog w) A (call (.type "enumerate") [v]) Q E s := by
  refine callType_new F.called_enumerate (by decide) (F.typeCall_enumerate_1 _) (F.newCall_enumerate_1 _) (fun obj => F.args_object_init_2 obj _) F.entry_enumerate_new (enumB_new B) ⟨h1, ?_⟩
  have sz : (s.heap.push o).objs.size = s.heap.objs.size + 1 := Heap.size_push ..
  show _ ∧ _
  rw [sz]
  have he : IsEnum ((s.heap.push o).push { cls := .type "enumerate", data := .fields #[.none, .bool false, .ref s.heap.objs.size, rawInt 0, .none, .none] }) (s.heap.objs.size + 1) s.heap.objs.size 0 .none := by
    have z := Heap.get?_push_size (s.heap.push o) (o := { cls := .type "enumerate", data := .fields #[.none, .bool false, .ref s.heap.objs.size, rawInt 0, .none, .none] }) rfl
    rw [sz] at z
    exact z
  exact ⟨⟨_, he, rfl⟩, h _ he (Heap.get?_push_of_some _ (Heap.get?_push_size _ B.free)) fun b u x => Heap.get?_push_of_some _ (Heap.get?_push_of_some _ x)⟩
/-- the tuple at a as it stands, each item in a new pair -/
def IteT (K : PySem.W.Frag) (a : Addr) : It :=
  ⟨fun i H => ∃ (vs : List V) (v : V), SqT K H a vs ∧ vs[i]? = some v, fun i H r H2 => ∃ q v, r = .ref q ∧ H q = none ∧ H2 = L2.upd H q (.tup [.int (i : Nat), v]) ∧ ∀ vs, SqT K H a vs → vs[i]? = some v, fun i H => ∃ vs : List V, SqT K H a vs ∧ vs.length ≤ i⟩
theorem enum_apart {h : Heap} {a e it : Addr} {its : Array Value} {i : Int} {old : Value} {j : Nat} (he : IsEnum h e it i old) (hi : h.IsTupleIter it a j) (ht : h.IsTuple a its) : a ≠ it ∧ e ≠ a := by
  obtain ⟨o1, h1, h2, _⟩ := hi
  obtain ⟨o2, h3, h4, _⟩ := ht
  refine ⟨fun q => ?_, fun q => ?_⟩
  · subst q
    rw [h1] at h3
    cases h3
    rw [h2] at h4
    exact absurd h4 (by decide)
  · subst q
    rw [show h.get? e = _ from he] at h3
    cases h3
    exact absurd (show Value.type "enumerate" = Value.type "tuple" from h4) (by decide)
theorem turn_enumT {P : Program} {w : World} {K : PySem.W.Frag} {elts : List Expr} {kk : Nat} {tp : Pos} (a e it : Addr) :
    Turn P w K (.Tuple elts kk tp) (IteT K a) [e, it] e (fun i h => (∃ old, IsEnum h e it ((i : Nat) : Int) old) ∧ h.IsTupleIter it a i ∧ e ≠ it) where
  mem := by simp
  obj := fun i h st b hb => by
    obtain ⟨⟨old, he⟩, ⟨o, ho, hc, hd⟩, _⟩ := st
    rcases (show b = e ∨ b = it by simpa using hb) with rfl | rfl
    · exact ⟨_, he, fun v q => nomatch q⟩
    · exact ⟨o, ho, fun v q => by rw [hd] at q; cases q⟩
  keep := fun i h h2 st k => st.elim fun ⟨old, he⟩ r => ⟨⟨old, k e (by simp) _ he⟩, r.1.at fun o q => k it (by simp) o q, r.2⟩
  item := by
    rintro X rfl rfl rfl hc i pins sh σ H E I hf ⟨⟨old, he⟩, hit, hne⟩ ⟨vs, v, hq, hv⟩
    obtain ⟨its, rv, pt, _⟩ := I.tuple hq
    obtain ⟨u, hu, ru⟩ := rv.get hv
    have el : e < sh.heap.objs.size := Heap.lt_size he
    have il : it < sh.heap.objs.size := by obtain ⟨_, q, _⟩ := hit; exact Heap.lt_size q
    obtain ⟨ap1, ap2⟩ := enum_apart he hit pt
    have lt : i < its.toArray.size := by
      rw [List.size_toArray]
      exact (List.getElem?_eq_some_iff.mp hu).1
    have handled : (X.A.in1).handled = none := I.ok.hd hc
    refine wpAny_pyNext_enum_itemD (Draws.tuple (prog := X.prog) (w := X.w) handled it a ap1 its.toArray) he ⟨hit, pt⟩ lt hne (by simp [hne, ap2]) fun u2 h2 tk hp ho hit2 hT hsz hk => ?_
    have eu : u2 = u := by
      have z : its.toArray[i]? = some u2 := hp
      simp only [List.getElem?_toArray] at z
      rw [hu] at z
      cases z
      rfl
    subst eu
    refine ⟨_, rfl, wpAny_letOwnedTupleGo_enum (s := { sh with heap := h2, toks := tk + 1 }) ho fun h3 he3 sb => ?_⟩
    have hT3 : h3.get? sh.heap.objs.size = some { cls := .type "tuple", data := .seq #[.int i tk, u2] } := (sb.2 _ (Nat.ne_of_gt el)).trans hT
    have pair : ObjOk X.prog X.w (L2.upd H sh.heap.objs.size (.tup [.int (i : Nat), v])) h3 sh.heap.objs.size (.tup [.int (i : Nat), v]) :=
      ⟨by show 2 ≤ sizeLine; decide, _, .cons ⟨tk, rfl⟩ (.cons ru .nil), ⟨_, hT3, rfl, _, rfl⟩⟩
    have I2 : Inv X pins σ (L2.upd H sh.heap.objs.size (.tup [.int (i : Nat), v])) { sh with heap := h3, toks := tk + 1 } := by
      refine I.turnedNew (ch := [e, it]) (fun b ob hb q => ?_) hf (Nat.le_refl _) pair
      have nb : b ≠ e ∧ b ≠ it := by simpa using hb
      exact (sb.2 b nb.1).trans (hk b ob nb.1 nb.2 q)
    refine ⟨.ref sh.heap.objs.size, _, I2, rfl, ⟨_, v, rfl, I.hok.fresh (Nat.le_refl _), rfl, fun ws hw => by rw [I.tuple_inj hw hq]; exact hv⟩, ⟨⟨u2, ?_⟩, hit2.1.at fun o q => (sb.2 it (Ne.symm hne)).trans q, hne⟩, fun b hb => ?_⟩
    · rw [show ((i + 1 : Nat) : Int) = (i : Int) + 1 by omega]
      exact he3
    · have lb : b < sh.heap.objs.size := by
        rcases (show b = e ∨ b = it by simpa using hb) with rfl | rfl
        · exact el
        · exact il
      rw [upd_ne (Nat.ne_of_lt lb)]
      exact (hf b hb).1
  done := by
    rintro X rfl rfl rfl hc i pins sh σ H E I hf ⟨⟨old, he⟩, hit, hne⟩ ⟨vs, hq, hx⟩
    obtain ⟨its, rv, pt, _⟩ := I.tuple hq
    obtain ⟨f0, f1, f2, f3, f4, f5⟩ := hf it (by simp)
    obtain ⟨ap1, ap2⟩ := enum_apart he hit pt
    have handled : (X.A.in1).handled = none := I.ok.hd hc
    have over : its.toArray[i]? = none := by
      rw [List.getElem?_toArray]
      exact List.getElem?_eq_none (by have := rv.length; omega)
    have D : Draws X.prog X.w X.A.in1 it [it, a] i (fun _ _ => False) (fun j h => j = i ∧ h.IsTupleIter it a i ∧ h.IsTuple a its.toArray) :=
      { live := fun _ _ st => st.2.1.elim fun o z => ⟨o, z.1⟩
        frame := fun _ _ _ st hk => ⟨st.1, st.2.1.at fun o e => hk it (by simp) o e, st.2.2.at fun o e => hk a (by simp) o e⟩
        item := fun j s Q E hj st _ => absurd st.1 (Nat.ne_of_lt hj)
        done := fun s Q E st hE => wpAny_nextOf_tuple_end handled st.2.1 st.2.2 over hE }
    exact wpAny_pyNext_enum_endD D he ⟨rfl, hit, pt⟩ fun h2 hx2 => ⟨rfl, I.turned (t' := sh.toks) (fun b o hb q => hx2 b o hb q) f0 f1 f3 f4 f5⟩
  self := fun A i sh Q E st h => st.elim fun ⟨_, he⟩ _ => wpAny_pyIter_enum he h
def iEnumT (K : PySem.W.Frag) (ta : TA) : TI := fun σ H R => ta σ H fun vs H1 => ∃ a xs, vs = [.ref a] ∧ SqT K H1 a xs ∧ R (IteT K a) H1
theorem pi_enumT {X : Cx} {e : Expr} {ta : TA} {p pos tp : Pos} {elts : List Expr} {kk : Nat} (hg : Gl X "enumerate") (hm : X.mg "enumerate" = none) (ha : PA X [e] ta) (hs : starEach [e] X.env = [(false, eval e X.env)]) :
    PI X (.Tuple elts kk tp) (.Call (.Name "enumerate" p) [e] [] pos) (iEnumT X.K ta) := by
  refine ⟨fun pins sh σ H R I h => Call_ (ld_blt I hg hm boot_enumerate (PyProof.Rows.callWith_type1 (thn (ha.run pos pins sh σ H _ I h) ?_) hs rfl))⟩
  rintro us s1 ⟨vs, H1, I1, r1, a, xs, rfl, hq, q⟩
  cases r1 with
  | cons r rr =>
    cases rr
    cases r
    obtain ⟨its, rv, pt, _⟩ := I1.tuple hq
    refine enumB_call (begins_tuple a its.toArray) pt fun h2 he hit hk => wpAny_pyIter_enum he ?_
    have I2 : Inv X pins σ H1 { s1 with heap := h2 } := I1.kept (t' := s1.toks) hk
    refine ⟨s1.heap.objs.size + 1, [s1.heap.objs.size + 1, s1.heap.objs.size], _, _, H1, rfl, I2, turn_enumT a (s1.heap.objs.size + 1) s1.heap.objs.size, ⟨⟨.none, he⟩, ⟨_, hit, rfl, rfl⟩, Nat.succ_ne_self _⟩, fun b hb => ?_, q⟩
    have le : s1.heap.objs.size ≤ b := by
      rcases (show b = s1.heap.objs.size + 1 ∨ b = s1.heap.objs.size by simpa using hb) with rfl | rfl
      · exact Nat.le_succ _
      · exact Nat.le_refl _
    exact I1.fpOk le (I1.hok.fresh le)
end Lv
set_option Elab.async false
set_option linter.all false
set_option maxRecDepth 100000
set_option maxHeartbeats 4000000
/-! Lv7u: zip of two sequences, each a list or a tuple. -/
namespace Lv
open PySem PySem.Spec PyProof.Rows L2
/-- a list (false), a tuple (true) -/
def sqB (t : Bool) (K : PySem.W.Frag) (H : Hp) (a : Addr) (xs : List V) : Prop := if t then SqT K H a xs else SqL K H a xs
def itB (t : Bool) (h : Heap) (it a : Addr) (i : Nat) : Prop := if t then h.IsTupleIter it a i else h.IsListIter it a i
def dtB (t : Bool) (h : Heap) (a : Addr) (its : Array Value) : Prop := if t then h.IsTuple a its else h.IsList a its
def obB (t : Bool) (a : Addr) : Obj := { cls := .type (if t then "tuple_iterator" else "list_iterator"), data := .fields #[.ref a, .int 0 0] }
theorem itB_at {t : Bool} {h h2 : Heap} {it a : Addr} {i : Nat} (x : itB t h it a i) (k : ∀ o, h.get? it = some o → h2.get? it = some o) : itB t h2 it a i := by
  cases t with
  | true => exact Heap.IsTupleIter.at x k
  | false => exact Heap.IsListIter.at x k
theorem itB_obj {t : Bool} {h : Heap} {it a : Addr} {i : Nat} (x : itB t h it a i) : ∃ o, h.get? it = some o ∧ o.cls = .type (if t then "tuple_iterator" else "list_iterator") ∧ ∀ v, o.data ≠ .cell v := by
  cases t with
  | true =>
    obtain ⟨o, e, c, d⟩ := x
    exact ⟨o, e, c, fun v q => by rw [d] at q; cases q⟩
  | false =>
    obtain ⟨o, e, c, d⟩ := x
    exact ⟨o, e, c, fun v q => by rw [d] at q; cases q⟩
theorem dtB_obj {t : Bool} {h : Heap} {a : Addr} {its : Array Value} (x : dtB t h a its) : ∃ o, h.get? a = some o ∧ o.cls = .type (if t then "tuple" else "list") := by
  cases t with
  | true => obtain ⟨o, e, c, _⟩ := x; exact ⟨o, e, c⟩
  | false => obtain ⟨o, e, c, _⟩ := x; exact ⟨o, e, c⟩
theorem clsNe {h : Heap} {a b : Addr} {o1 o2 : Obj} {c1 c2 : String} (e1 : h.get? a = some o1) (e2 : h.get? b = some o2) (k1 : o1.cls = .type c1) (k2 : o2.cls = .type c2) (ne : c1 ≠ c2) : a ≠ b := by
  intro q
  subst q
  rw [e1] at e2
  cases e2
  rw [k1] at k2
  exact ne (by injection k2)
section
variable {X : Cx} {pins : List (Addr × Obj)} {σ : L2.St} {H : Hp} {sh : Shared} {t : Bool} {a : Addr} {xs ys : List V}
theorem sq_inv (I : Inv X pins σ H sh) (h : sqB t X.K H a xs) : ∃ its : List Value, Vals xs its ∧ dtB t sh.heap a its.toArray := by
  cases t with
  | true => obtain ⟨its, r, p, _⟩ := I.tuple h; exact ⟨its, r, p⟩
  | false => obtain ⟨its, r, p, _⟩ := I.list h; exact ⟨its, r, p.isList⟩
theorem sq_inj (I : Inv X pins σ H sh) (h : sqB t X.K H a xs) (h2 : sqB t X.K H a ys) : xs = ys := by
  cases t with
  | true => exact I.tuple_inj h h2
  | false => exact I.list_inj h h2
theorem draws_of {prog : Program} {w : World} {A : Around} (hh : A.handled = none) (t : Bool) (it a : Addr) (ne : a ≠ it) (its : Array Value) :
    Draws prog w A it [it, a] its.size (fun i v => its[i]? = some v) (fun i h => itB t h it a i ∧ dtB t h a its) := by
  cases t with
  | true => exact Draws.tuple hh it a ne its
  | false => exact Draws.list hh it a ne its
theorem begins_of (t : Bool) (a : Addr) (its : Array Value) : Begins (.ref a) (obB t a) fun h => dtB t h a its := by
  cases t with
  | true => exact begins_tuple a its
  | false => exact begins_list a its
end
/-- the sequences at a and b as they stand, the items in new pairs -/
def ItzM (K : PySem.W.Frag) (t1 t2 : Bool) (a b : Addr) : It :=
  ⟨fun i H => ∃ (xs ys : List V) (x y : V), sqB t1 K H a xs ∧ sqB t2 K H b ys ∧ xs[i]? = some x ∧ ys[i]? = some y,
    fun i H r H2 => ∃ q x y, r = .ref q ∧ H q = none ∧ H2 = L2.upd H q (.tup [x, y]) ∧ (∀ xs, sqB t1 K H a xs → xs[i]? = some x) ∧ ∀ ys, sqB t2 K H b ys → ys[i]? = some y,
    fun i H => ∃ xs ys : List V, sqB t1 K H a xs ∧ sqB t2 K H b ys ∧ i ≤ xs.length ∧ i ≤ ys.length ∧ (i = xs.length ∨ i = ys.length)⟩
/-- the cells of a zip -/
structure ZB (z TI TO i1 i2 : Addr) : Prop where
  a1 : TI ≠ z
  a2 : TO ≠ z
  a3 : TI ≠ TO
  a4 : TI ≠ i1
  a5 : TI ≠ i2
  a6 : i1 ≠ i2
  a7 : z ≠ i1
  a8 : z ≠ i2
  a9 : TO ≠ i1
  b1 : TO ≠ i2
def ZSt (t1 t2 : Bool) (a b z TI TO i1 i2 : Addr) (i : Nat) (h : Heap) : Prop := IsZip h z TI TO .none ∧ IsTupOf2 h TI (.ref i1) (.ref i2) ∧ (∃ x y, IsTupOf2 h TO x y) ∧ itB t1 h i1 a i ∧ itB t2 h i2 b i ∧ a ≠ TO ∧ b ≠ TO
theorem zip_sep {t1 t2 : Bool} {h : Heap} {a b z TI TO i1 i2 : Addr} {i : Nat} {its1 its2 : Array Value} (B : ZB z TI TO i1 i2) (st : ZSt t1 t2 a b z TI TO i1 i2 i h) (d1 : dtB t1 h a its1) (d2 : dtB t2 h b its2) : ZipSep2 z TI TO i1 i2 [i1, a] [i2, b] ∧ a ≠ i1 ∧ b ≠ i2 := by
  obtain ⟨hz, hTI, ⟨x, y, hTO⟩, h1, h2, na, nb⟩ := st
  obtain ⟨o1, e1, c1⟩ := dtB_obj d1
  obtain ⟨o2, e2, c2⟩ := dtB_obj d2
  obtain ⟨p1, g1, k1, _⟩ := itB_obj h1
  obtain ⟨p2, g2, k2, _⟩ := itB_obj h2
  have az : z ≠ a := clsNe (show h.get? z = _ from hz) e1 rfl c1 (by cases t1 <;> decide)
  have bz : z ≠ b := clsNe (show h.get? z = _ from hz) e2 rfl c2 (by cases t2 <;> decide)
  have a1 : a ≠ i1 := clsNe e1 g1 c1 k1 (by cases t1 <;> decide)
  have a2 : a ≠ i2 := clsNe e1 g2 c1 k2 (by cases t1 <;> cases t2 <;> decide)
  have b1 : b ≠ i1 := clsNe e2 g1 c2 k1 (by cases t1 <;> cases t2 <;> decide)
  have b2 : b ≠ i2 := clsNe e2 g2 c2 k2 (by cases t2 <;> decide)
  exact ⟨{ TIz := B.a1, TOz := B.a2, TITO := B.a3, TIi1 := B.a4, mem1 := by simp, zf1 := by simp [B.a7, az], Tf1 := by simp [B.a9, Ne.symm na], TIi2 := B.a5, mem2 := by simp, zf2 := by simp [B.a8, bz], Tf2 := by simp [B.b1, Ne.symm nb], sep1_2 := by simp [B.a6, Ne.symm b1], sep2_1 := by simp [Ne.symm B.a6, Ne.symm a2] }, a1, b2⟩
theorem turn_zipM {P : Program} {w : World} {K : PySem.W.Frag} {elts : List Expr} {kk : Nat} {tp : Pos} {t1 t2 : Bool} {a b z TI TO i1 i2 : Addr} (B : ZB z TI TO i1 i2) :
    Turn P w K (.Tuple elts kk tp) (ItzM K t1 t2 a b) [z, TI, TO, i1, i2] z (ZSt t1 t2 a b z TI TO i1 i2) where
  mem := by simp
  obj := fun i h st c hc => by
    obtain ⟨hz, hTI, ⟨x, y, hTO⟩, h1, h2, _⟩ := st
    obtain ⟨p1, g1, _, k1⟩ := itB_obj h1
    obtain ⟨p2, g2, _, k2⟩ := itB_obj h2
    rcases (show c = z ∨ c = TI ∨ c = TO ∨ c = i1 ∨ c = i2 by simpa using hc) with rfl | rfl | rfl | rfl | rfl
    · exact ⟨_, hz, fun v q => nomatch q⟩
    · exact ⟨_, hTI, fun v q => nomatch q⟩
    · exact ⟨_, hTO, fun v q => nomatch q⟩
    · exact ⟨_, g1, k1⟩
    · exact ⟨_, g2, k2⟩
  keep := fun i h h2 st k => by
    obtain ⟨hz, hTI, ⟨x, y, hTO⟩, s1, s2, n1, n2⟩ := st
    exact ⟨k z (by simp) _ hz, k TI (by simp) _ hTI, ⟨x, y, k TO (by simp) _ hTO⟩, itB_at s1 fun o q => k i1 (by simp) o q, itB_at s2 fun o q => k i2 (by simp) o q, n1, n2⟩
  item := by
    rintro X rfl rfl rfl hc i pins sh σ H E I hf st ⟨xs, ys, x, y, hqx, hqy, hx, hy⟩
    obtain ⟨its, rv, d1⟩ := sq_inv I hqx
    obtain ⟨jts, rw_, d2⟩ := sq_inv I hqy
    obtain ⟨S, na, nb⟩ := zip_sep B st d1 d2
    obtain ⟨u, hu, ru⟩ := rv.get hx
    obtain ⟨v, hv, rv2⟩ := rw_.get hy
    obtain ⟨hz, hTI, ⟨x0, y0, hTO⟩, s1, s2, n1, n2⟩ := st
    have handled : (X.A.in1).handled = none := I.ok.hd hc
    have zl : z < sh.heap.objs.size := Heap.lt_size hz
    refine wpAny_pyNext_zipD2_item S (draws_of handled t1 i1 a na its.toArray) (draws_of handled t2 i2 b nb jts.toArray) hz hTI hTO ⟨s1, d1⟩ ⟨s2, d2⟩ (by rw [List.size_toArray]; exact (List.getElem?_eq_some_iff.mp hu).1) (by rw [List.size_toArray]; exact (List.getElem?_eq_some_iff.mp hv).1) fun x1 x2 h2 tk q1 q2 hz2 hTO2 r1 r2 hT hsz hk => ?_
    have e1 : x1 = u := by
      simp only [List.getElem?_toArray, hu] at q1
      cases q1; rfl
    have e2 : x2 = v := by
      simp only [List.getElem?_toArray, hv] at q2
      cases q2; rfl
    subst e1 e2
    refine ⟨_, rfl, wpAny_letOwnedTupleGo_zip (s := { sh with heap := h2, toks := tk }) hz2 fun h3 hz3 sb => ?_⟩
    have hT3 : h3.get? sh.heap.objs.size = some { cls := .type "tuple", data := .seq #[x1, x2] } := (sb.2 _ (Nat.ne_of_gt zl)).trans hT
    have pair : ObjOk X.prog X.w (L2.upd H sh.heap.objs.size (.tup [x, y])) h3 sh.heap.objs.size (.tup [x, y]) :=
      ⟨by show 2 ≤ sizeLine; decide, [x1, x2], .cons ru (.cons rv2 .nil), ⟨_, hT3, rfl, _, rfl⟩⟩
    have I2 : Inv X pins σ (L2.upd H sh.heap.objs.size (.tup [x, y])) { sh with heap := h3, toks := tk } := by
      refine I.turnedNew (ch := [z, TI, TO, i1, i2]) (fun c o hb q => ?_) hf (Nat.le_refl _) pair
      have nn : c ≠ z ∧ c ≠ TI ∧ c ≠ TO ∧ c ≠ i1 ∧ c ≠ i2 := by simpa using hb
      exact (sb.2 c nn.1).trans (hk c o nn.1 nn.2.2.1 nn.2.2.2.1 nn.2.2.2.2 q)
    refine ⟨.ref sh.heap.objs.size, _, I2, rfl, ⟨_, x, y, rfl, I.hok.fresh (Nat.le_refl _), rfl, fun l hl => by rw [sq_inj I hl hqx]; exact hx, fun l hl => by rw [sq_inj I hl hqy]; exact hy⟩, ⟨hz3, ?_, ⟨x1, x2, ?_⟩, ?_, ?_, n1, n2⟩, fun c hcm => ?_⟩
    · exact (sb.2 _ B.a1).trans (hk _ _ B.a1 B.a3 B.a4 B.a5 hTI)
    · exact (sb.2 _ B.a2).trans hTO2
    · exact itB_at r1.1 fun o q => (sb.2 _ (Ne.symm B.a7)).trans q
    · exact itB_at r2.1 fun o q => (sb.2 _ (Ne.symm B.a8)).trans q
    · have lt : c < sh.heap.objs.size := by
        obtain ⟨p1, g1, _⟩ := itB_obj s1
        obtain ⟨p2, g2, _⟩ := itB_obj s2
        rcases (show c = z ∨ c = TI ∨ c = TO ∨ c = i1 ∨ c = i2 by simpa using hcm) with rfl | rfl | rfl | rfl | rfl
        · exact zl
        · exact Heap.lt_size hTI
        · exact Heap.lt_size hTO
        · exact Heap.lt_size g1
        · exact Heap.lt_size g2
      rw [upd_ne (Nat.ne_of_lt lt)]
      exact (hf c hcm).1
  done := by
    rintro X rfl rfl rfl hc i pins sh σ H E I hf st ⟨xs, ys, hqx, hqy, l1, l2, le⟩
    obtain ⟨its, rv, d1⟩ := sq_inv I hqx
    obtain ⟨jts, rw_, d2⟩ := sq_inv I hqy
    obtain ⟨S, na, nb⟩ := zip_sep B st d1 d2
    obtain ⟨hz, hTI, ⟨x0, y0, hTO⟩, s1, s2, n1, n2⟩ := st
    have handled : (X.A.in1).handled = none := I.ok.hd hc
    have e1 := rv.length
    have e2 := rw_.length
    refine wpAny_pyNext_zipD2_end S (draws_of handled t1 i1 a na its.toArray) (draws_of handled t2 i2 b nb jts.toArray) hz hTI hTO ⟨s1, d1⟩ ⟨s2, d2⟩ (by rw [List.size_toArray]; omega) (by rw [List.size_toArray]; omega) (by rw [List.size_toArray, List.size_toArray]; omega) fun h2 tk hk => ⟨rfl, I.turnedL (t' := tk) (ch := [z, TI, TO, i1, i2]) (fun c o hb q => ?_) hf⟩
    have nn : c ≠ z ∧ c ≠ TI ∧ c ≠ TO ∧ c ≠ i1 ∧ c ≠ i2 := by simpa using hb
    exact hk c o nn.1 nn.2.2.1 nn.2.2.2.1 nn.2.2.2.2 q
  self := fun A i sh Q E st h => wpAny_pyIter_zip st.1 h
def iZipM (K : PySem.W.Frag) (ta : TA) : TI := fun σ H R => ta σ H fun vs H1 => ∃ t1 t2 a b xs ys, vs = [.ref a, .ref b] ∧ sqB t1 K H1 a xs ∧ sqB t2 K H1 b ys ∧ R (ItzM K t1 t2 a b) H1
theorem pi_zipM {X : Cx} {e e2 : Expr} {ta : TA} {p pos tp : Pos} {elts : List Expr} {kk : Nat} (hg : Gl X "zip") (hm : X.mg "zip" = none) (ha : PA X [e, e2] ta)
    (hs : starEach [e, e2] X.env = (false, eval e X.env) :: starEach [e2] X.env) (hpl : (backTo pos (starEach [e2] X.env)).any (·.1) = false) : PI X (.Tuple elts kk tp) (.Call (.Name "zip" p) [e, e2] [] pos) (iZipM X.K ta) := by
  refine ⟨fun pins sh σ H R I h => Call_ (ld_blt I hg hm PyProof.Rows.boot_zip (PyProof.Rows.callWith_type1 (thn (ha.run pos pins sh σ H _ I h) ?_) hs hpl))⟩
  rintro us s1 ⟨vs, H1, I1, r1, t1, t2, a, b, xs, ys, rfl, hqx, hqy, q⟩
  cases r1 with
  | cons r rr =>
    cases rr with
    | cons r2 rr =>
      cases rr
      cases r
      cases r2
      obtain ⟨its, rv, d1⟩ := sq_inv I1 hqx
      obtain ⟨jts, rw_, d2⟩ := sq_inv I1 hqy
      obtain ⟨o1, g1, _⟩ := dtB_obj d1
      obtain ⟨o2, g2, _⟩ := dtB_obj d2
      have lta := Heap.lt_size g1
      have ltb := Heap.lt_size g2
      refine zip_begins2 (begins_of t1 a its.toArray) (begins_of t2 b jts.toArray) d1 d2 fun h2 hz hTI hTO k1 k2 hsz hk => wpAny_pyIter_zip hz ?_
      have I2 : Inv X pins σ H1 { s1 with heap := h2 } := I1.kept (t' := s1.toks) hk
      have B : ZB (s1.heap.objs.size + 4) (s1.heap.objs.size + 2) (s1.heap.objs.size + 3) s1.heap.objs.size (s1.heap.objs.size + 1) := by
        constructor <;> first | exact Nat.ne_of_gt (by omega) | exact Nat.ne_of_lt (by omega)
      have it1 : itB t1 h2 s1.heap.objs.size a 0 := by
        cases t1 with
        | true => exact ⟨_, k1, rfl, rfl⟩
        | false => exact ⟨_, k1, rfl, rfl⟩
      have it2 : itB t2 h2 (s1.heap.objs.size + 1) b 0 := by
        cases t2 with
        | true => exact ⟨_, k2, rfl, rfl⟩
        | false => exact ⟨_, k2, rfl, rfl⟩
      refine ⟨s1.heap.objs.size + 4, [s1.heap.objs.size + 4, s1.heap.objs.size + 2, s1.heap.objs.size + 3, s1.heap.objs.size, s1.heap.objs.size + 1], _, _, H1, rfl, I2, turn_zipM (t1 := t1) (t2 := t2) (a := a) (b := b) B, ⟨hz, hTI, ⟨_, _, hTO⟩, it1, it2, Nat.ne_of_lt (Nat.lt_add_right 3 lta), Nat.ne_of_lt (Nat.lt_add_right 3 ltb)⟩, fun c hc => ?_, q⟩
      have le : s1.heap.objs.size ≤ c := by
        rcases (show c = s1.heap.objs.size + 4 ∨ c = s1.heap.objs.size + 2 ∨ c = s1.heap.objs.size + 3 ∨ c = s1.heap.objs.size ∨ c = s1.heap.objs.size + 1 by simpa using hc) with rfl | rfl | rfl | rfl | rfl <;> omega
      exact I1.fpOk le (I1.hok.fresh le)
end Lv
set_option Elab.async false
set_option linter.all false
set_option maxRecDepth 100000
set_option maxHeartbeats 4000000
/-! Lv8: what is walked. -/
namespace Lv
open PySem PySem.Spec PyProof.Rows L2 RZ
/-- what stays stays, whatever else is changed -/
structure WStep (p : Rho) (H : Hp) (p' : Rho) (H' : Hp) : Prop where
  fx : ∀ a, p.F a → p'.F a
  kp : ∀ a o, p.F a → H a = some o → H' a = some o
  cs : ∃ more, p'.cs = p.cs ++ more
theorem Step.w {p p' : Rho} {H H' : Hp} (s : Step p H p' H') (hd : Apart p) : WStep p H p' H' :=
  ⟨s.fx, fun a o hF h => s.kp a o h fun hm => hd a hm hF, let ⟨m, e, _⟩ := s.cs; ⟨m, e⟩⟩
theorem WStep.refl (p : Rho) (H : Hp) : WStep p H p H := ⟨fun _ h => h, fun _ _ _ h => h, [], by simp⟩
theorem WStep.trans {p p1 p2 : Rho} {H H1 H2 : Hp} (a : WStep p H p1 H1) (b : WStep p1 H1 p2 H2) : WStep p H p2 H2 := by
  obtain ⟨m1, e1⟩ := a.cs
  obtain ⟨m2, e2⟩ := b.cs
  exact ⟨fun x h => b.fx x (a.fx x h), fun x o hF h => b.kp x o (a.fx x hF) (a.kp x o hF h), m1 ++ m2, by rw [e2, e1, List.append_assoc]⟩
mutual
theorem Rep.wstep {M : Md} {p p' : Rho} {H H' : Hp} (s : WStep p H p' H') : ∀ {d : D} {v : V}, Rep M p H d v → Rep M p' H' d v
  | _, _, .non => .non
  | _, _, .bl b => .bl b
  | _, _, .int i => .int i
  | _, _, .str x => .str x
  | _, _, .tup h1 h2 h3 => .tup (s.fx _ h1) (s.kp _ _ h1 h2) (RepL.wstep s h3)
  | _, _, .lst h1 h2 h3 => .lst (s.fx _ h1) (s.kp _ _ h1 h2) (RepL.wstep s h3)
  | _, _, .dic h1 h2 h3 h4 => .dic (s.fx _ h1) (s.kp _ _ h1 h2) h3 (RepL.wstep s h4)
  | _, _, .obj h1 h2 h3 h4 => .obj (s.fx _ h1) (s.kp _ _ h1 h2) h3 (RepL.wstep s h4)
  | _, _, .ref h1 => .ref (by
      obtain ⟨m, e⟩ := s.cs
      rw [e, List.getElem?_append_left (List.getElem?_eq_some_iff.mp h1).1]
      exact h1)
  | _, _, .scr h => .scr (by
      rcases h with ⟨h1, o, h2⟩ | h
      · exact .inl ⟨s.fx _ h1, o, s.kp _ _ h1 h2⟩
      · exact .inr h)
theorem RepL.wstep {M : Md} {p p' : Rho} {H H' : Hp} (s : WStep p H p' H') : ∀ {ds : List D} {vs : List V}, RepL M p H ds vs → RepL M p' H' ds vs
  | _, _, .nil => .nil
  | _, _, .cons h1 h2 => .cons (Rep.wstep s h1) (RepL.wstep s h2)
end
/-- how the heap may have changed since the walk began: weak: names that stay stay; else: nothing but cells has changed -/
def SomeStep (weak : Bool) (p : Rho) (H : Hp) (p' : Rho) (H' : Hp) : Prop := if weak then WStep p H p' H' else Step p H p' H'
/-- J gives the items ds, one by one -/
def IterR (weak : Bool) (M : Md) (p : Rho) (H : Hp) (ds : List D) (J : It) : Prop :=
  ∀ (p1 : Rho) (H1 : Hp) (N : En) (env : Env) (s : Sto) (σ : L2.St), SomeStep weak p H p1 H1 → Ok M N p1 env s σ H1 → ∀ i : Nat,
    (∀ d, ds[i]? = some d → J.go i H1 ∧ ∀ x H2, J.yld i H1 x H2 → ∃ p2, Step p1 H1 p2 H2 ∧ Ok M N p2 env s σ H2 ∧ Rep M p2 H2 d x) ∧ (i = ds.length → J.stop i H1)
/-- values for a walk: those that stay, or those that are only looked at -/
def relW (weak : Bool) : Rel := fun M p H d v => if weak then Rep M p H d v else RepB M p H d v
section
variable {T : Th} {c : Sx} {N : En} {W : WX} {X : Cx} {a b e : Expr} {es : List Expr} {x y z : E} {xs ys : Es} {pos p0 : Pos} {tg : Expr} {weak : Bool}
def tS (T : Th) (N : En) (W : WX) (weak : Bool) (src : Src) : TI := fun σ H R => ∃ p env s, Ok T.M N p env s σ H ∧ Rg T.M N W env σ (fun p H ds J => IterR weak T.M p H ds J) p H (evSrc T.G T.call T.mkc src env s) R
theorem seqAt {M : Md} {p p1 : Rho} {H H1 : Hp} {d : D} {v : V} (hd : Apart p) (h : relW weak M p H d v) (st : SomeStep weak p H p1 H1) : RepB M p1 H1 d v := by
  unfold relW at h
  unfold SomeStep at st
  cases weak with
  | true => exact .inl (Rep.wstep st h)
  | false => exact RepB.step st hd h
theorem relW_B {M : Md} {p : Rho} {H : Hp} {d : D} {v : V} (h : relW weak M p H d v) : RepB M p H d v := by
  unfold relW at h
  cases weak with
  | true => exact .inl h
  | false => exact h
/-- a list that is walked -/
def LstAt (K : PySem.W.Frag) (M : Md) (p : Rho) (H : Hp) (ds : List D) (a : Addr) : Prop := ∃ vs, SqL K H a vs ∧ RepL M p H ds vs
def TupAt (K : PySem.W.Frag) (M : Md) (p : Rho) (H : Hp) (ds : List D) (a : Addr) : Prop := ∃ vs, SqT K H a vs ∧ RepL M p H ds vs
/-- a value whose items are ds -/
inductive SeqV (K : PySem.W.Frag) (M : Md) (p : Rho) (H : Hp) (ds : List D) : V → Prop
  | lst {a : Addr} : LstAt K M p H ds a → SeqV K M p H ds (.ref a)
  | tup {a : Addr} : TupAt K M p H ds a → SeqV K M p H ds (.ref a)
theorem lstAt_of {K : PySem.W.Frag} {M : Md} {p : Rho} {H : Hp} {ds : List D} {v : V} (h : RepB M p H (.lst ds) v) : ∃ a, v = .ref a ∧ LstAt K M p H ds a := by
  obtain ⟨a, vs, e, h1, h2⟩ := h.lst
  exact ⟨a, e, vs, .inl (.inl h1), h2⟩
theorem lstAt_scr {K : PySem.W.Frag} {M : Md} (hK : M.K = K) {p : Rho} {H : Hp} {ns : List Int} {v : V} (h : RepB M p H (.scr ns) v) : ∃ a, v = .ref a ∧ LstAt K M p H (ns.map .int) a := by
  obtain ⟨a, e, h1⟩ := h.scr
  exact ⟨a, e, _, hK ▸ h1, repL_ints _⟩
theorem tupAt_of {K : PySem.W.Frag} {M : Md} {p : Rho} {H : Hp} {ds : List D} {v : V} (h : RepB M p H (.tup ds) v) : ∃ a, v = .ref a ∧ TupAt K M p H ds a := by
  obtain ⟨a, vs, e, h1, h2⟩ := h.tup
  exact ⟨a, e, vs, .inl (.inl h1), h2⟩
/-- whatever may be asked of a value that is walked, at each later heap -/
def Later (weak : Bool) (M : Md) (p : Rho) (H : Hp) (P : Rho → Hp → Prop) : Prop := ∀ p1 H1, SomeStep weak p H p1 H1 → P p1 H1
theorem later_of {M : Md} {p : Rho} {H : Hp} {d : D} {v : V} {P : Rho → Hp → Prop} (hd : Apart p) (h : relW weak M p H d v) (k : ∀ p1 H1, RepB M p1 H1 d v → P p1 H1) : Later weak M p H P := fun p1 H1 st => k p1 H1 (seqAt hd h st)
theorem iter_list {K : PySem.W.Frag} {M : Md} {p : Rho} {H : Hp} {ds : List D} {l : Addr} (h : Later weak M p H fun p1 H1 => LstAt K M p1 H1 ds l) : IterR weak M p H ds (Itl K l) := by
  intro p1 H1 N env s σ st o i
  obtain ⟨vs, q, r⟩ := h p1 H1 st
  refine ⟨fun d e => ?_, fun hl0 => have hl := Nat.le_of_eq (Eq.symm hl0); ⟨vs, q, by rw [← r.length]; exact hl⟩⟩
  obtain ⟨v, e1, r1⟩ := r.get e
  refine ⟨⟨vs, v, q, e1⟩, fun u H2 y => ?_⟩
  obtain ⟨e2, y⟩ := y
  subst e2
  have e3 := y vs q
  rw [e1] at e3
  cases e3
  exact ⟨p1, Step.refl _ _, o, r1⟩
theorem iter_tup {K : PySem.W.Frag} {M : Md} {p : Rho} {H : Hp} {ds : List D} {l : Addr} (h : Later weak M p H fun p1 H1 => TupAt K M p1 H1 ds l) : IterR weak M p H ds (Itt K l) := by
  intro p1 H1 N env s σ st o i
  obtain ⟨vs, q, r⟩ := h p1 H1 st
  refine ⟨fun d e => ?_, fun hl0 => have hl := Nat.le_of_eq (Eq.symm hl0); ⟨vs, q, by rw [← r.length]; exact hl⟩⟩
  obtain ⟨v, e1, r1⟩ := r.get e
  refine ⟨⟨vs, v, q, e1⟩, fun u H2 y => ?_⟩
  obtain ⟨e2, y⟩ := y
  subst e2
  have e3 := y vs q
  rw [e1] at e3
  cases e3
  exact ⟨p1, Step.refl _ _, o, r1⟩
theorem iter_str {M : Md} {p : Rho} {H : Hp} {z : Str} : IterR weak M p H (z.cps.toList.map fun c => .str ⟨#[c]⟩) (Its z) := by
  intro p1 H1 N env s σ st o i
  refine ⟨fun d e => ?_, fun hl0 => by have hl := Nat.le_of_eq (Eq.symm hl0); rw [List.length_map] at hl; exact hl⟩
  rw [List.getElem?_map] at e
  cases q : z.cps.toList[i]? with
  | none => rw [q] at e; cases e
  | some w =>
    rw [q] at e
    cases e
    have hlt := (List.getElem?_eq_some_iff.mp q).1
    refine ⟨hlt, fun u H2 y => ?_⟩
    obtain ⟨e2, cc, e3, e4⟩ := y
    subst e2
    have e5 : z.cps[i]? = some w := by rw [← Array.getElem?_toList]; exact q
    rw [e5] at e3
    cases e3
    subst e4
    exact ⟨p1, Step.refl _ _, o, .str _⟩
theorem iter_range {M : Md} {p : Rho} {H : Hp} {lo : Int} {n : Nat} : IterR weak M p H (rangeD lo n 1) (Itr lo n) := by
  intro p1 H1 N env s σ st o i
  unfold rangeD
  refine ⟨fun d e => ?_, fun hl0 => by have hl := Nat.le_of_eq (Eq.symm hl0); rw [List.length_map, List.length_range] at hl; exact hl⟩
  rw [List.getElem?_map] at e
  cases q : (List.range n)[i]? with
  | none => rw [q] at e; cases e
  | some w =>
    rw [q] at e
    cases e
    obtain ⟨hlt, e6⟩ := List.getElem?_eq_some_iff.mp q
    rw [List.length_range] at hlt
    rw [List.getElem_range] at e6
    subst e6
    refine ⟨hlt, fun u H2 y => ?_⟩
    obtain ⟨e2, e3⟩ := y
    subst e2 e3
    refine ⟨p1, Step.refl _ _, o, ?_⟩
    have : lo + (i : Int) * 1 = lo + i := by omega
    show Rep M p1 _ (D.int (lo + (i : Int) * 1)) (V.int (lo + i))
    rw [this]
    exact .int _
theorem iter_rangeC {M : Md} {p : Rho} {H : Hp} {lo c : Int} {n : Nat} : IterR weak M p H (rangeD lo n c) (Itc lo c n) := by
  intro p1 H1 N env s σ st o i
  unfold rangeD
  refine ⟨fun d e => ?_, fun hl0 => by have hl := Nat.le_of_eq (Eq.symm hl0); rw [List.length_map, List.length_range] at hl; exact hl⟩
  rw [List.getElem?_map] at e
  cases q : (List.range n)[i]? with
  | none => rw [q] at e; cases e
  | some w =>
    rw [q] at e
    cases e
    obtain ⟨hlt, e6⟩ := List.getElem?_eq_some_iff.mp q
    rw [List.length_range] at hlt
    rw [List.getElem_range] at e6
    subst e6
    refine ⟨hlt, fun u H2 y => ?_⟩
    obtain ⟨e2, e3⟩ := y
    subst e2 e3
    exact ⟨p1, Step.refl _ _, o, .int _⟩
theorem new_pair {M : Md} {N : En} {env : Env} {s : Sto} {σ : L2.St} {p1 : Rho} {H1 : Hp} {Tt : Addr} {d e : D} {u v : V} (o : Ok M N p1 env s σ H1) (hn : H1 Tt = none) (r1 : Rep M p1 H1 d u) (r2 : Rep M p1 H1 e v) :
    ∃ p2, Step p1 H1 p2 (upd H1 Tt (.tup [u, v])) ∧ Ok M N p2 env s σ (upd H1 Tt (.tup [u, v])) ∧ Rep M p2 (upd H1 Tt (.tup [u, v])) (.tup [d, e]) (.ref Tt) := by
  have st : Step p1 H1 (p1.fix Tt) (upd H1 Tt (.tup [u, v])) := Step.new hn
  exact ⟨p1.fix Tt, st, o.new hn, .tup (.inr rfl) upd_same (.cons (r1.step st o.cells.ap) (.cons (r2.step st o.cells.ap) .nil))⟩
theorem dEnum_get : ∀ (ds : List D) (k i : Nat), (dEnum k ds)[i]? = (ds[i]?).map fun d => D.tup [.int ((k + i : Nat) : Int), d]
  | [], k, i => by simp [dEnum]
  | d :: ds, k, 0 => by simp [dEnum]
  | d :: ds, k, i + 1 => by
    have := dEnum_get ds (k + 1) i
    simp only [dEnum, List.getElem?_cons_succ]
    rw [this, show k + 1 + i = k + (i + 1) by omega]
theorem dEnum_len : ∀ (ds : List D) (k : Nat), (dEnum k ds).length = ds.length
  | [], k => rfl
  | d :: ds, k => by simp only [dEnum, List.length_cons, dEnum_len ds (k + 1)]
theorem iter_enum {K : PySem.W.Frag} {M : Md} {p : Rho} {H : Hp} {ds : List D} {l : Addr} (h : Later weak M p H fun p1 H1 => LstAt K M p1 H1 ds l) : IterR weak M p H (dEnum 0 ds) (Ite K l) := by
  intro p1 H1 N env s σ st o i
  obtain ⟨vs, q, r⟩ := h p1 H1 st
  refine ⟨fun d e => ?_, fun hl0 => have hl := Nat.le_of_eq (Eq.symm hl0); ⟨vs, q, by rw [← r.length]; rw [dEnum_len] at hl; exact hl⟩⟩
  rw [dEnum_get, Nat.zero_add] at e
  cases q1 : ds[i]? with
  | none => rw [q1] at e; cases e
  | some d1 =>
    rw [q1] at e
    cases e
    obtain ⟨v, e1, r1⟩ := r.get q1
    refine ⟨⟨vs, v, q, e1⟩, fun u H2 y => ?_⟩
    obtain ⟨Tt, w, rfl, hn, rfl, y⟩ := y
    have e3 := y vs q
    rw [e1] at e3
    cases e3
    exact new_pair o hn (.int _) r1
theorem iter_enumT {K : PySem.W.Frag} {M : Md} {p : Rho} {H : Hp} {ds : List D} {l : Addr} (h : Later weak M p H fun p1 H1 => TupAt K M p1 H1 ds l) : IterR weak M p H (dEnum 0 ds) (IteT K l) := by
  intro p1 H1 N env s σ st o i
  obtain ⟨vs, q, r⟩ := h p1 H1 st
  refine ⟨fun d e => ?_, fun hl0 => have hl := Nat.le_of_eq (Eq.symm hl0); ⟨vs, q, by rw [← r.length]; rw [dEnum_len] at hl; exact hl⟩⟩
  rw [dEnum_get, Nat.zero_add] at e
  cases q1 : ds[i]? with
  | none => rw [q1] at e; cases e
  | some d1 =>
    rw [q1] at e
    cases e
    obtain ⟨v, e1, r1⟩ := r.get q1
    refine ⟨⟨vs, v, q, e1⟩, fun u H2 y => ?_⟩
    obtain ⟨Tt, w, rfl, hn, rfl, y⟩ := y
    have e3 := y vs q
    rw [e1] at e3
    cases e3
    exact new_pair o hn (.int _) r1
theorem dZip_get : ∀ (as bs : List D) (i : Nat), (dZip as bs)[i]? = match as[i]?, bs[i]? with
    | some a, some b => some (D.tup [a, b])
    | _, _ => none
  | [], _, i => by simp [dZip]
  | a :: as, [], i => by
    unfold dZip
    cases h : (a :: as)[i]? <;> simp
  | a :: as, b :: bs, 0 => by simp [dZip]
  | a :: as, b :: bs, i + 1 => by
    have := dZip_get as bs i
    simp only [dZip, List.getElem?_cons_succ]
    exact this
theorem dZip_len : ∀ (as bs : List D), (dZip as bs).length = min as.length bs.length
  | [], _ => by simp [dZip]
  | a :: as, [] => by simp [dZip]
  | a :: as, b :: bs => by
    simp only [dZip, List.length_cons, dZip_len as bs]
    omega
theorem zip_item {as bs : List D} {i : Nat} {d : D} (e : (dZip as bs)[i]? = some d) : ∃ x y, as[i]? = some x ∧ bs[i]? = some y ∧ d = .tup [x, y] := by
  rw [dZip_get] at e
  cases q1 : as[i]? with
  | none => rw [q1] at e; cases e
  | some d1 =>
    cases q2 : bs[i]? with
    | none => rw [q1, q2] at e; cases e
    | some d2 =>
      rw [q1, q2] at e
      cases e
      exact ⟨d1, d2, rfl, rfl, rfl⟩
theorem iter_zip {K : PySem.W.Frag} {M : Md} {p : Rho} {H : Hp} {ds es : List D} {l k : Addr} (h : Later weak M p H fun p1 H1 => LstAt K M p1 H1 ds l) (h2 : Later weak M p H fun p1 H1 => LstAt K M p1 H1 es k) : IterR weak M p H (dZip ds es) (Itz K l k) := by
  intro p1 H1 N env s σ st o i
  obtain ⟨vs, q, r⟩ := h p1 H1 st
  obtain ⟨us, q', r'⟩ := h2 p1 H1 st
  refine ⟨fun d e => ?_, fun hl0 => have hl := Nat.le_of_eq (Eq.symm hl0); ⟨vs, us, q, q', by rw [← r.length, ← r'.length]; rw [dZip_len] at hl; omega⟩⟩
  obtain ⟨x1, y1, q1, q2, rfl⟩ := zip_item e
  obtain ⟨v, e1, r1⟩ := r.get q1
  obtain ⟨u, e2, r2⟩ := r'.get q2
  refine ⟨⟨vs, us, v, u, q, q', e1, e2⟩, fun w H2 y => ?_⟩
  obtain ⟨Tt, w1, w2, rfl, hn, rfl, y1, y2⟩ := y
  have e3 := y1 vs q
  have e4 := y2 us q'
  rw [e1] at e3
  rw [e2] at e4
  cases e3
  cases e4
  exact new_pair o hn r1 r2
theorem iter_zipT {K : PySem.W.Frag} {M : Md} {p : Rho} {H : Hp} {ds es : List D} {l k : Addr} (h : Later weak M p H fun p1 H1 => TupAt K M p1 H1 ds l) (h2 : Later weak M p H fun p1 H1 => TupAt K M p1 H1 es k) : IterR weak M p H (dZip ds es) (ItzT K l k) := by
  intro p1 H1 N env s σ st o i
  obtain ⟨vs, q, r⟩ := h p1 H1 st
  obtain ⟨us, q', r'⟩ := h2 p1 H1 st
  refine ⟨fun d e => ?_, fun hl0 => have hl := Nat.le_of_eq (Eq.symm hl0); ⟨vs, us, q, q', by rw [← r.length, ← r'.length]; rw [dZip_len] at hl; omega⟩⟩
  obtain ⟨x1, y1, q1, q2, rfl⟩ := zip_item e
  obtain ⟨v, e1, r1⟩ := r.get q1
  obtain ⟨u, e2, r2⟩ := r'.get q2
  refine ⟨⟨vs, us, v, u, q, q', e1, e2⟩, fun w H2 y => ?_⟩
  obtain ⟨Tt, w1, w2, rfl, hn, rfl, y1, y2⟩ := y
  have e3 := y1 vs q
  have e4 := y2 us q'
  rw [e1] at e3
  rw [e2] at e4
  cases e3
  cases e4
  exact new_pair o hn r1 r2
/-! ### the sources -/
theorem kept_relW : Kept (relW weak) := fun M p p' H H' d v s a h => by
  unfold relW at h ⊢
  cases weak with
  | true => exact Rep.step s a h
  | false => exact RepB.step s a h
theorem sndS_seq (g : Good T c X) (ha : PE X a (tE T N W (relW weak) x)) : PI X tg a (tS T N W weak (.seq x)) := by
  refine ⟨fun pins st σ H RR I ⟨p, env, s, o, h⟩ => ?_⟩
  unfold evSrc at h
  cases q : ev T.G T.call T.mkc x env s with
  | stk => rw [q] at h; exact h.elim
  | exc y s1 =>
    rw [q] at h
    exact (pi_list ha).run pins st σ H RR I ⟨p, env, s, o, by rw [q]; exact h⟩
  | ok d s1 =>
    rw [q] at h
    have h : Rg T.M N W env σ (fun p H ds J => IterR weak T.M p H ds J) p H (lift (dItems d) s1) RR := h
    cases d with
    | lst ds =>
      refine (pi_list ha).run pins st σ H RR I ⟨p, env, s, o, ?_⟩
      rw [q]
      intro v p1 H1 st1 o1 r1
      obtain ⟨l, rfl, vs, q1, r2⟩ := lstAt_of (K := X.K) (relW_B r1)
      refine ⟨l, rfl, ⟨vs, q1⟩, h _ p1 H1 st1 o1 (iter_list (later_of o1.cells.ap r1 fun p2 H2 rb => ?_))⟩
      obtain ⟨l', e, z⟩ := lstAt_of (K := X.K) rb
      cases e
      exact z
    | scr ns =>
      refine (pi_list ha).run pins st σ H RR I ⟨p, env, s, o, ?_⟩
      rw [q]
      intro v p1 H1 st1 o1 r1
      obtain ⟨l, rfl, vs, q1, r2⟩ := lstAt_scr g.th.kk (relW_B r1)
      refine ⟨l, rfl, ⟨vs, q1⟩, h _ p1 H1 st1 o1 (iter_list (later_of o1.cells.ap r1 fun p2 H2 rb => ?_))⟩
      obtain ⟨l', e, z⟩ := lstAt_scr g.th.kk rb
      cases e
      exact z
    | tup ds =>
      refine (pi_tup ha).run pins st σ H RR I ⟨p, env, s, o, ?_⟩
      rw [q]
      intro v p1 H1 st1 o1 r1
      obtain ⟨l, rfl, vs, q1, r2⟩ := tupAt_of (K := X.K) (relW_B r1)
      refine ⟨l, rfl, ⟨vs, q1⟩, h _ p1 H1 st1 o1 (iter_tup (later_of o1.cells.ap r1 fun p2 H2 rb => ?_))⟩
      obtain ⟨l', e, z⟩ := tupAt_of (K := X.K) rb
      cases e
      exact z
    | str z =>
      refine (pi_str ha).run pins st σ H RR I ⟨p, env, s, o, ?_⟩
      rw [q]
      intro v p1 H1 st1 o1 r1
      exact ⟨z, (relW_B r1).str, h _ p1 H1 st1 o1 iter_str⟩
    | _ => exact h.elim
theorem range_free (g : Good T c X) {nm : Str} (hf : T.C.fr.contains nm = true) (hg : glB c nm = true) : Gl X nm ∧ X.mg nm = none := ⟨(gl_of g hg).1, g.th.free _ hf⟩
theorem sndS_rg1 (g : Good T c X) (hf : T.C.fr.contains "range" = true) (hg : glB c "range" = true) (hs : noStar a = true) (ha : PE X a (tE T N W RepB x)) : PI X tg (.Call (.Name "range" p0) [a] [] pos) (tS T N W weak (.rg1 x)) := by
  obtain ⟨g1, g2⟩ := range_free g hf hg
  refine ⟨fun pins st σ H RR I ⟨p, env, s, o, h⟩ => (pi_range1 g1 g2 (pa_cons ha pa_nil (star_cons hs)) (star_one hs)).run pins st σ H RR I ⟨p, env, s, o, ?_⟩⟩
  unfold evSrc at h
  refine (h.seq (RepB T.M)).imp fun v H1 ⟨p1, d1, s1, o1, st1, r1, h1⟩ => ?_
  cases d1 with
  | int j =>
    simp only at h1
    by_cases hl : ok62 j = true
    · rw [if_pos hl] at h1
      unfold ok62 at hl
      obtain ⟨l1, l2⟩ := of_decide_eq_true hl
      exact ⟨j, by rw [r1.int], l1, l2, h1.done o1 iter_range⟩
    · rw [if_neg hl] at h1
      exact h1.elim
  | _ => exact h1.elim
theorem sndS_rg2 (g : Good T c X) (hf : T.C.fr.contains "range" = true) (hg : glB c "range" = true) (hs : noStar a = true) (hs2 : noStar b = true) (ha : PE X a (tE T N W RepB x)) (hb : PE X b (tE T N W RepB y)) : PI X tg (.Call (.Name "range" p0) [a, b] [] pos) (tS T N W weak (.rg2 x y)) := by
  obtain ⟨g1, g2⟩ := range_free g hf hg
  refine ⟨fun pins st σ H RR I ⟨p, env, s, o, h⟩ => (pi_range2 g1 g2 (pa_cons ha (pa_cons hb pa_nil (star_cons hs2)) (star_cons hs)) (by rw [star_cons hs, star_one hs2]) (star_one hs2)).run pins st σ H RR I ⟨p, env, s, o, ?_⟩⟩
  unfold evSrc at h
  refine (h.seq (RepB T.M)).imp fun v H1 ⟨p1, d1, s1, o1, st1, r1, h1⟩ => ⟨p1, env, s1, o1, (h1.seq (RepB T.M)).imp fun u H2 ⟨p2, d2, s2, o2, st2, r2, h2⟩ => ?_⟩
  have r1' := r1.step st2 o1.cells.ap
  cases d1 with
  | int i =>
    cases d2 with
    | int j =>
      simp only at h2
      by_cases hl : (ok62 i && ok62 j) = true
      · rw [if_pos hl] at h2
        unfold ok62 at hl
        rw [Bool.and_eq_true] at hl
        obtain ⟨l1, l2⟩ := of_decide_eq_true hl.1
        obtain ⟨l3, l4⟩ := of_decide_eq_true hl.2
        exact ⟨i, j, by rw [r1'.int, r2.int], ⟨l1, l2, l3, l4⟩, h2.done o2 iter_range⟩
      · rw [if_neg hl] at h2
        exact h2.elim
    | _ => exact h2.elim
  | _ => exact h2.elim
theorem sndS_rg3 (g : Good T c X) (hf : T.C.fr.contains "range" = true) (hg : glB c "range" = true) (hs : noStar a = true) (hs2 : noStar b = true) (hs3 : noStar d = true) (ha : PE X a (tE T N W RepB x)) (hb : PE X b (tE T N W RepB y)) (hd : PE X d (tE T N W RepB z)) : PI X tg (.Call (.Name "range" p0) [a, b, d] [] pos) (tS T N W weak (.rg3 x y z)) := by
  obtain ⟨g1, g2⟩ := range_free g hf hg
  refine ⟨fun pins st σ H RR I ⟨p, env, s, o, h⟩ => (pi_range3 g1 g2 (pa_cons ha (pa_cons hb (pa_cons hd pa_nil (star_cons hs3)) (star_cons hs2)) (star_cons hs)) (star_cons hs) (star_any (show noStars [b, d] = true by unfold noStars; rw [hs2, Bool.true_and]; unfold noStars; rw [hs3]; rfl))).run pins st σ H RR I ⟨p, env, s, o, ?_⟩⟩
  unfold evSrc at h
  refine (h.seq (RepB T.M)).imp fun v H1 ⟨p1, d1, s1, o1, st1, r1, h1⟩ => ⟨p1, env, s1, o1, (h1.seq (RepB T.M)).imp fun u H2 ⟨p2, d2, s2, o2, st2, r2, h2⟩ => ⟨p2, env, s2, o2, (h2.seq (RepB T.M)).imp fun w H3 ⟨p3, d3, s3, o3, st3, r3, h3⟩ => ?_⟩⟩
  have r1' := (r1.step st2 o1.cells.ap).step st3 o2.cells.ap
  have r2' := r2.step st3 o2.cells.ap
  cases d1 with
  | int i =>
    cases d2 with
    | int j =>
      cases d3 with
      | int k =>
        simp only at h3
        by_cases hl : k = -1 ∧ ok62 i = true ∧ ok62 j = true
        · rw [if_pos hl] at h3
          obtain ⟨rfl, l1, l2⟩ := hl
          unfold ok62 at l1 l2
          obtain ⟨l1, l3⟩ := of_decide_eq_true l1
          obtain ⟨l2, l4⟩ := of_decide_eq_true l2
          exact ⟨i, j, -1, (i - j).toNat, by rw [r1'.int, r2'.int, r3.int], RgC.neg l1 l3 l2 l4, h3.done o3 iter_rangeC⟩
        · rw [if_neg hl] at h3
          exact h3.elim
      | _ => exact h3.elim
    | _ => exact h3.elim
  | _ => exact h3.elim
theorem repL_rg {M : Md} {p : Rho} {H : Hp} (j : Int) : RepL M p H (rangeD 0 j.toNat 1) (rgV 0 j) := by
  have key : ∀ l : List Nat, RepL M p H (l.map fun i : Nat => D.int (0 + (i : Nat) * 1)) (l.map fun i : Nat => V.int (0 + (i : Nat))) := by
    intro l
    induction l with
    | nil => exact .nil
    | cons a l ih =>
      refine .cons ?_ ih
      show Rep M p H (D.int (0 + (a : Int) * 1)) (V.int (0 + (a : Int)))
      rw [Int.mul_one]
      exact .int _
  unfold rangeD rgV
  rw [Int.sub_zero]
  exact key _
/-- tuple(range(e)) -/
theorem snd_rgt (g : Good T c X) (hf : T.C.fr.contains "range" = true) (hg : glB c "range" = true) (hf2 : T.C.fr.contains "tuple" = true) (hg2 : glB c "tuple" = true) {p1 pos2 : Pos} (hs : noStar a = true) (ha : PE X a (tE T N W RepB x)) : PE X (.Call (.Name "tuple" p1) [.Call (.Name "range" p0) [a] [] pos] [] pos2) (tE T N W Rep (.rgt x)) := by
  obtain ⟨g1, g2⟩ := range_free g hf hg
  obtain ⟨g3, g4⟩ := range_free g hf2 hg2
  refine (pe_tupRg g.calm g3 g4 (prg_1 g1 g2 ha (star_cons hs))).imp fun σ H Q ⟨p, env, s, o, h⟩ => ?_
  unfold ev at h
  refine ⟨p, env, s, o, (h.seq (RepB T.M)).imp fun v H1 ⟨p1, d1, s1, o1, st1, r1, h1⟩ => ?_⟩
  cases d1 with
  | int j =>
    simp only at h1
    by_cases hl : 0 ≤ j ∧ j ≤ 16777216
    · rw [if_pos hl] at h1
      refine ⟨j, by rw [r1.int], RgOk.of_le (by omega) hl.2 (by omega) hl.1, fun q hn => ?_⟩
      have st2 : Step p1 H1 (p1.fix q) (upd H1 q (.tup (rgV 0 j))) := Step.new hn
      exact h1 (.ref q) (p1.fix q) _ st2 (o1.new hn) (.tup (.inr rfl) upd_same (repL_rg j))
    · rw [if_neg hl] at h1
      exact h1.elim
  | _ => exact h1.elim
theorem sndS_enum {elts : List Expr} {kk : Nat} {tp : Pos} (g : Good T c X) (hf : T.C.fr.contains "enumerate" = true) (hg : glB c "enumerate" = true) (hs : noStar a = true) (ha : PE X a (tE T N W (relW weak) x)) : PI X (.Tuple elts kk tp) (.Call (.Name "enumerate" p0) [a] [] pos) (tS T N W weak (.enum x)) := by
  obtain ⟨g1, g2⟩ := range_free g hf hg
  refine ⟨fun pins st σ H RR I ⟨p, env, s, o, h⟩ => ?_⟩
  unfold evSrc at h
  cases q : ev T.G T.call T.mkc x env s with
  | stk => rw [q] at h; exact h.elim
  | exc y s1 =>
    rw [q] at h
    exact (pi_enum g1 g2 (pa_cons ha pa_nil (star_cons hs)) (star_one hs)).run pins st σ H RR I ⟨p, env, s, o, by rw [q]; exact h⟩
  | ok d s1 =>
    rw [q] at h
    cases d with
    | lst ds =>
      have h : Rg T.M N W env σ (fun p H ds J => IterR weak T.M p H ds J) p H (.ok (dEnum 0 ds) s1) RR := h
      refine (pi_enum g1 g2 (pa_cons ha pa_nil (star_cons hs)) (star_one hs)).run pins st σ H RR I ⟨p, env, s, o, ?_⟩
      rw [q]
      intro v p1 H1 st1 o1 r1
      obtain ⟨l, rfl, vs, q1, r2⟩ := lstAt_of (K := X.K) (relW_B r1)
      refine ⟨l, vs, rfl, q1, h _ p1 H1 st1 o1 (iter_enum (later_of o1.cells.ap r1 fun p2 H2 rb => ?_))⟩
      obtain ⟨l', e, z⟩ := lstAt_of (K := X.K) rb
      cases e
      exact z
    | tup ds =>
      have h : Rg T.M N W env σ (fun p H ds J => IterR weak T.M p H ds J) p H (.ok (dEnum 0 ds) s1) RR := h
      refine (pi_enumT g1 g2 (pa_cons ha pa_nil (star_cons hs)) (star_one hs)).run pins st σ H RR I ⟨p, env, s, o, ?_⟩
      rw [q]
      intro v p1 H1 st1 o1 r1
      obtain ⟨l, rfl, vs, q1, r2⟩ := tupAt_of (K := X.K) (relW_B r1)
      refine ⟨l, vs, rfl, q1, h _ p1 H1 st1 o1 (iter_enumT (later_of o1.cells.ap r1 fun p2 H2 rb => ?_))⟩
      obtain ⟨l', e, z⟩ := tupAt_of (K := X.K) rb
      cases e
      exact z
    | _ => exact h.elim
/-- a sequence that is walked -/
def SqAt (t : Bool) (K : PySem.W.Frag) (M : Md) (p : Rho) (H : Hp) (ds : List D) (a : Addr) : Prop := ∃ vs, sqB t K H a vs ∧ RepL M p H ds vs
def isT : D → Bool
  | .tup _ => true
  | _ => false
theorem sqAt_of {K : PySem.W.Frag} {M : Md} {p : Rho} {H : Hp} {d : D} {ds : List D} {v : V} (h : RepB M p H d v) (e : seqD d = some ds) : ∃ a, v = .ref a ∧ SqAt (isT d) K M p H ds a := by
  cases d with
  | lst xs =>
    cases e
    obtain ⟨a, q, vs, z⟩ := lstAt_of (K := K) h
    exact ⟨a, q, vs, z⟩
  | tup xs =>
    cases e
    obtain ⟨a, q, vs, z⟩ := tupAt_of (K := K) h
    exact ⟨a, q, vs, z⟩
  | _ => cases e
theorem iter_zipM {K : PySem.W.Frag} {M : Md} {p : Rho} {H : Hp} {ds es : List D} {l k : Addr} {t1 t2 : Bool} (h : Later weak M p H fun p1 H1 => SqAt t1 K M p1 H1 ds l) (h2 : Later weak M p H fun p1 H1 => SqAt t2 K M p1 H1 es k) : IterR weak M p H (dZip ds es) (ItzM K t1 t2 l k) := by
  intro p1 H1 N env s σ st o i
  obtain ⟨vs, q, r⟩ := h p1 H1 st
  obtain ⟨us, q', r'⟩ := h2 p1 H1 st
  refine ⟨fun d e => ?_, fun hl => ⟨vs, us, q, q', ?_⟩⟩
  · obtain ⟨x1, y1, q1, q2, rfl⟩ := zip_item e
    obtain ⟨v, e1, r1⟩ := r.get q1
    obtain ⟨u, e2, r2⟩ := r'.get q2
    refine ⟨⟨vs, us, v, u, q, q', e1, e2⟩, fun w H2 y => ?_⟩
    obtain ⟨Tt, w1, w2, rfl, hn, rfl, y1, y2⟩ := y
    have e3 := y1 vs q
    have e4 := y2 us q'
    rw [e1] at e3
    rw [e2] at e4
    cases e3
    cases e4
    exact new_pair o hn r1 r2
  · rw [← r.length, ← r'.length]
    rw [dZip_len] at hl
    omega
theorem sndS_zip {elts : List Expr} {kk : Nat} {tp : Pos} (g : Good T c X) (hf : T.C.fr.contains "zip" = true) (hg : glB c "zip" = true) (hs : noStar a = true) (hs2 : noStar b = true) (ha : PE X a (tE T N W (relW weak) x)) (hb : PE X b (tE T N W (relW weak) y)) : PI X (.Tuple elts kk tp) (.Call (.Name "zip" p0) [a, b] [] pos) (tS T N W weak (.zip x y)) := by
  obtain ⟨g1, g2⟩ := range_free g hf hg
  have key := pi_zipM (X := X) (elts := elts) (kk := kk) (tp := tp) (p := p0) (pos := pos) g1 g2 (pa_cons ha (pa_cons hb pa_nil (star_cons hs2)) (star_cons hs)) (star_cons hs) (star_any (by unfold noStars noStars; rw [hs2]; rfl))
  refine ⟨fun pins st σ H RR I ⟨p, env, s, o, h⟩ => key.run pins st σ H RR I ⟨p, env, s, o, ?_⟩⟩
  unfold evSrc at h
  refine (h.seq (relW weak T.M)).imp fun v H1 ⟨p1, d1, s1, o1, st1, r1, h1⟩ => ⟨p1, env, s1, o1, (h1.seq (relW weak T.M)).imp fun u H2 ⟨p2, d2, s2, o2, st2, r2, h2⟩ => ?_⟩
  have r1' := kept_relW _ _ _ _ _ _ _ st2 o1.cells.ap r1
  cases e1 : seqD d1 with
  | none => rw [e1] at h2; exact h2.elim
  | some ds =>
    cases e2 : seqD d2 with
    | none => rw [e1, e2] at h2; exact h2.elim
    | some es =>
      rw [e1, e2] at h2
      obtain ⟨l, rfl, vs, q1, _⟩ := sqAt_of (K := X.K) (relW_B r1') e1
      obtain ⟨k, rfl, us, q2, _⟩ := sqAt_of (K := X.K) (relW_B r2) e2
      refine ⟨isT d1, isT d2, l, k, vs, us, rfl, q1, q2, Rg.done (d := dZip ds es) h2 o2 (iter_zipM (later_of o2.cells.ap r1' fun p2 H2 rb => ?_) (later_of o2.cells.ap r2 fun p2 H2 rb => ?_))⟩
      · obtain ⟨l', e, z⟩ := sqAt_of (K := X.K) rb e1
        cases e
        exact z
      · obtain ⟨l', e, z⟩ := sqAt_of (K := X.K) rb e2
        cases e
        exact z
end
end Lv
set_option Elab.async false
set_option linter.all false
set_option maxRecDepth 100000
set_option maxHeartbeats 4000000
/-! Lv9: targets, comprehensions. -/
namespace Lv
open PySem PySem.Spec PyProof.Rows L2
section
variable {M : Md} {N : En} {p p1 p' : Rho} {env env' : Env} {s s' : Sto} {σ : L2.St} {H H1 H' : Hp}
theorem list_getset {α : Type} {l : List α} {i j : Nat} {x y : α} (h : (l.set i x)[j]? = some y) : (j = i ∧ y = x) ∨ (j ≠ i ∧ l[j]? = some y) := by
  by_cases e : j = i
  · subst e
    by_cases hl : j < l.length
    · rw [List.getElem?_set_self hl] at h; exact .inl ⟨rfl, (Option.some.inj h).symm⟩
    · rw [List.getElem?_eq_none (by simpa using hl)] at h; cases h
  · rw [List.getElem?_set_ne (Ne.symm e)] at h
    exact .inr ⟨e, h⟩
/-- a slot is set to data that stay -/
theorem Ok.setVal (o : Ok M N p env s σ H) {i : Nat} {d : D} {v : V} (hi : i < env.length) (r : Rep M p H d v) : Ok M N p (env.set i (.val d)) s (σ.set i (some v)) H := by
  have hs : i < σ.length := by rw [← o.len]; exact hi
  refine ⟨o.st, o.cells, by rw [List.length_set, List.length_set]; exact o.len, fun j x e => ?_, fun j x a e hx e2 => ?_, fun j k x y a e1 e2 hx hy e3 e4 => ?_⟩
  · rcases list_getset e with ⟨rfl, rfl⟩ | ⟨hj, e⟩
    · exact ⟨some v, by rw [List.getElem?_set_self hs], v, rfl, r⟩
    · obtain ⟨u, e1, q⟩ := o.slot j x e
      exact ⟨u, by rw [List.getElem?_set_ne (Ne.symm hj)]; exact e1, q⟩
  · rcases list_getset e with ⟨rfl, rfl⟩ | ⟨hj, e⟩
    · cases hx
    · rw [List.getElem?_set_ne (Ne.symm hj)] at e2
      exact o.fresh j x a e hx e2
  · rcases list_getset e1 with ⟨rfl, rfl⟩ | ⟨hj, e1⟩
    · cases hx
    · rcases list_getset e2 with ⟨rfl, rfl⟩ | ⟨hk, e2⟩
      · cases hy
      · rw [List.getElem?_set_ne (Ne.symm hj)] at e3
        rw [List.getElem?_set_ne (Ne.symm hk)] at e4
        exact o.dist j k x y a e1 e2 hx hy e3 e4
/-- slots are forgotten -/
theorem Ok.setUnd (o : Ok M N p env s σ H) (i : Nat) : Ok M N p (env.set i .und) s (σ.set i none) H := by
  refine ⟨o.st, o.cells, by rw [List.length_set, List.length_set]; exact o.len, fun j x e => ?_, fun j x a e hx e2 => ?_, fun j k x y a e1 e2 hx hy e3 e4 => ?_⟩
  · rcases list_getset e with ⟨rfl, rfl⟩ | ⟨hj, e⟩
    · have hl : j < σ.length := by
        rw [← o.len]
        have := (List.getElem?_eq_some_iff.mp e).1
        rw [List.length_set] at this
        exact this
      exact ⟨none, by rw [List.getElem?_set_self hl], trivial⟩
    · obtain ⟨u, e1, q⟩ := o.slot j x e
      exact ⟨u, by rw [List.getElem?_set_ne (Ne.symm hj)]; exact e1, q⟩
  · rcases list_getset e with ⟨rfl, rfl⟩ | ⟨hj, e⟩
    · cases hx
    · rw [List.getElem?_set_ne (Ne.symm hj)] at e2
      exact o.fresh j x a e hx e2
  · rcases list_getset e1 with ⟨rfl, rfl⟩ | ⟨hj, e1⟩
    · cases hx
    · rcases list_getset e2 with ⟨rfl, rfl⟩ | ⟨hk, e2⟩
      · cases hy
      · rw [List.getElem?_set_ne (Ne.symm hj)] at e3
        rw [List.getElem?_set_ne (Ne.symm hk)] at e4
        exact o.dist j k x y a e1 e2 hx hy e3 e4
theorem Ok.wiped (o : Ok M N p env s σ H) : ∀ vs : List Nat, Ok M N p (wipeE env vs) s (wipe σ vs) H
  | [] => o
  | v :: vs => (Ok.wiped o vs).setUnd v
/-- an object that is no name's, no cell and does not stay is written -/
theorem WStep.upd {a : Addr} {ob : HO} (hF : ¬ p.F a) : WStep p H p (upd H a ob) :=
  ⟨fun _ h => h, fun x o hx h => by rw [upd_ne (fun e : x = a => hF (e ▸ hx))]; exact h, [], by simp⟩
theorem Step.updNew (st : Step p H p' H') {a : Addr} {ob : HO} (hn : H a = none) : Step p H p' (L2.upd H' a ob) := by
  refine ⟨st.fx, st.nw, fun x o h hc => ?_, st.cs, fun x h => ?_⟩
  · rw [upd_ne (ne_of_none h hn)]; exact st.kp x o h hc
  · by_cases e : x = a
    · subst e; rw [upd_same]; simp
    · rw [upd_ne e]; exact st.th x h
theorem CellR.wstep (st : WStep p H p' H') {a : Addr} (hs : ∀ o, H a = some o → H' a = some o) : ∀ {c : Cell}, CellR M p H a c → CellR M p' H' a c
  | .lst _, ⟨vs, h, r⟩ => ⟨vs, hs _ h, r.wstep st⟩
  | .ins _ _, ⟨dx, h', h, k, r⟩ => ⟨dx, h', hs _ h, k, r.wstep st⟩
theorem OwnR.wstep (st : WStep p H p' H') {a : Addr} (hs : ∀ o, H a = some o → H' a = some o) : ∀ {x : Sl}, OwnR M p H a x → OwnR M p' H' a x
  | .own _, ⟨vs, h, r⟩ => ⟨vs, hs _ h, r.wstep st⟩
  | .owd _, ⟨hv, h, k, r⟩ => ⟨hv, hs _ h, k, r.wstep st⟩
  | .und, h => h
  | .val _, h => h
theorem CellsOk.upd (c : CellsOk M p H s) {a : Addr} {ob : HO} (hF : ¬ p.F a) (hc : a ∉ p.cs) : CellsOk M p (upd H a ob) s :=
  ⟨c.len, c.nd, c.ap, fun x h => by
      rw [upd_ne (fun e : x = a => hF (e ▸ h))]
      exact c.tr x h,
    fun n x cl e1 e2 => (c.at_ n x cl e1 e2).wstep (WStep.upd hF) fun o h => by rw [upd_ne (fun e : x = a => hc (e ▸ List.mem_of_getElem? e1))]; exact h⟩
theorem Ok.updFree (o : Ok M N p env s σ H) {a : Addr} {ob : HO} (hF : ¬ p.F a) (hc : a ∉ p.cs) (hn : N.H a = none) (hs : ∀ (i : Nat) (x : Sl), env[i]? = some x → isOwn x = true → σ[i]? ≠ some (some (.ref a))) : Ok M N p env s σ (upd H a ob) := by
  refine ⟨o.st.updNew hn, o.cells.upd hF hc, o.len, fun i x e => ?_, o.fresh, o.dist⟩
  obtain ⟨v, e1, r⟩ := o.slot i x e
  refine ⟨v, e1, ?_⟩
  have own : isOwn x = true → (∃ b, v = some (.ref b) ∧ ¬ p.F b ∧ b ∉ p.cs ∧ OwnR M p H b x) → ∃ b, v = some (.ref b) ∧ ¬ p.F b ∧ b ∉ p.cs ∧ OwnR M p (upd H a ob) b x := by
    rintro hx ⟨b, e2, h1, h2, h3⟩
    have ne : b ≠ a := fun q => hs i x e hx (by rw [e1, e2, q])
    exact ⟨b, e2, h1, h2, h3.wstep (WStep.upd hF) fun o' h => by rw [upd_ne ne]; exact h⟩
  cases x with
  | und => trivial
  | val d =>
    obtain ⟨w, e2, rr⟩ := r
    exact ⟨w, e2, rr.wstep (WStep.upd hF)⟩
  | own ds => exact own rfl r
  | owd ks => exact own rfl r
end
/-! ### targets -/
mutual
def gOf (K : PySem.W.Frag) : Tg → TG
  | .name i => gName i
  | .tup ts => gTup K ts.length (gsOf K ts)
def gsOf (K : PySem.W.Frag) : List Tg → TGs
  | [] => gNil
  | t :: ts => gCons (gOf K t) (gsOf K ts)
end
mutual
/-- the slots that a target sets -/
def tgS : Tg → List Nat
  | .name i => [i]
  | .tup ts => tgsS ts
def tgsS : List Tg → List Nat
  | [] => []
  | t :: ts => tgS t ++ tgsS ts
end
def setsIn (l : List Nat) (σ σ' : L2.St) : Prop := σ'.length = σ.length ∧ ∀ i, i ∉ l → σ'[i]? = σ[i]?
theorem setsIn.refl (l : List Nat) (σ : L2.St) : setsIn l σ σ := ⟨rfl, fun _ _ => rfl⟩
theorem setsIn.trans {l l' : List Nat} {σ σ1 σ2 : L2.St} (a : setsIn l σ σ1) (b : setsIn l' σ1 σ2) : setsIn (l ++ l') σ σ2 :=
  ⟨b.1.trans a.1, fun i hi => by
    simp only [List.mem_append, not_or] at hi
    exact (b.2 i hi.2).trans (a.2 i hi.1)⟩
section
variable {M : Md} {N : En} {s : Sto}
mutual
theorem bind_ok {K : PySem.W.Frag} : ∀ (t : Tg) {d : D} {v : V} {p : Rho} {env env' : Env} {σ : L2.St} {H : Hp} {Q : L2.St → Hp → Prop}, bindT t d env = some env' → Ok M N p env s σ H → Rep M p H d v →
    (∀ σ', Ok M N p env' s σ' H → setsIn (tgS t) σ σ' → Q σ' H) → gOf K t v σ H Q
  | .name i, d, v, p, env, env', σ, H, Q, e, o, r, k => by
    unfold bindT at e
    split at e
    · rename_i hi
      cases e
      unfold gOf
      exact k _ (o.setVal hi r) ⟨by rw [List.length_set], fun j hj => by
        have : j ≠ i := fun q => hj (by unfold tgS; rw [q]; exact List.mem_singleton.mpr rfl)
        rw [List.getElem?_set_ne (Ne.symm this)]⟩
    · cases e
  | .tup ts, d, v, p, env, env', σ, H, Q, e, o, r, k => by
    unfold bindT at e
    split at e
    · cases r with
      | tup h1 h2 h3 =>
        unfold gOf
        refine ⟨_, _, rfl, .inl (.inl h2), ?_, binds_ok ts e o h3 fun σ' o' q => k σ' o' (by unfold tgS; exact q)⟩
        rw [← h3.length]
        exact bindTs_len e
    · cases e
theorem binds_ok {K : PySem.W.Frag} : ∀ (ts : List Tg) {ds : List D} {vs : List V} {p : Rho} {env env' : Env} {σ : L2.St} {H : Hp} {Q : L2.St → Hp → Prop}, bindTs ts ds env = some env' → Ok M N p env s σ H → RepL M p H ds vs →
    (∀ σ', Ok M N p env' s σ' H → setsIn (tgsS ts) σ σ' → Q σ' H) → gsOf K ts vs σ H Q
  | [], ds, vs, p, env, env', σ, H, Q, e, o, r, k => by
    cases r with
    | nil =>
      unfold bindTs at e
      cases e
      unfold gsOf
      exact ⟨rfl, k σ o (setsIn.refl _ _)⟩
    | cons h1 h2 => unfold bindTs at e; cases e
  | t :: ts, ds, vs, p, env, env', σ, H, Q, e, o, r, k => by
    cases r with
    | nil => unfold bindTs at e; cases e
    | cons h1 h2 =>
      unfold bindTs at e
      split at e
      · rename_i env1 e1
        unfold gsOf
        refine ⟨_, _, rfl, bind_ok t e1 o h1 fun σ1 o1 q1 => binds_ok ts e o1 h2 fun σ2 o2 q2 => k σ2 o2 ?_⟩
        unfold tgsS
        exact q1.trans q2
      · cases e
theorem bindTs_len : ∀ {ts : List Tg} {ds : List D} {env env' : Env}, bindTs ts ds env = some env' → ds.length = ts.length
  | [], [], _, _, _ => rfl
  | [], _ :: _, _, _, e => by unfold bindTs at e; cases e
  | _ :: _, [], _, _, e => by unfold bindTs at e; cases e
  | t :: ts, d :: ds, env, env', e => by
    unfold bindTs at e
    split at e
    · rw [List.length_cons, List.length_cons, bindTs_len e]
    · cases e
end
end
mutual
/-- a target's syntax -/
def chkTg (c : Sx) : Tg → Expr → Bool
  | .name i, .Name x _ => decide (c.N[i]? = some x) && (match c.sc.names.lookup x with
    | some .local => true
    | some .cell => c.fnB x
    | _ => false)
  | .tup ts, .Tuple es _ _ => chkTgs c ts es
  | _, _ => false
def chkTgs (c : Sx) : List Tg → List Expr → Bool
  | [], [] => true
  | t :: ts, e :: es => chkTg c t e && chkTgs c ts es
  | _, _ => false
end
section
variable {T : Th} {c : Sx} {X : Cx}
theorem chkTgs_len : ∀ {ts : List Tg} {es : List Expr}, chkTgs c ts es = true → es.length = ts.length
  | [], [], _ => rfl
  | [], _ :: _, h => by unfold chkTgs at h; cases h
  | _ :: _, [], h => by unfold chkTgs at h; cases h
  | t :: ts, e :: es, h => by
    unfold chkTgs at h
    rw [Bool.and_eq_true] at h
    rw [List.length_cons, List.length_cons, chkTgs_len h.2]
theorem asg_cons {t : Tg} {e : Expr} {es : List Expr} {env : PySem.Env} (h : chkTg c t e = true) : assignEach (e :: es) env = (false, assign e env) :: assignEach es env := by
  cases e <;> first | rfl | (cases t <;> (unfold chkTg at h; cases h))
theorem asg_len : ∀ {ts : List Tg} {es : List Expr} {env : PySem.Env}, chkTgs c ts es = true → (assignEach es env).length = es.length ∧ (assignEach es env).findIdx? (·.1) = none
  | [], [], _, _ => ⟨rfl, rfl⟩
  | [], _ :: _, _, h => by unfold chkTgs at h; cases h
  | _ :: _, [], _, h => by unfold chkTgs at h; cases h
  | t :: ts, e :: es, env, h => by
    unfold chkTgs at h
    rw [Bool.and_eq_true] at h
    obtain ⟨h1, h2⟩ := asg_len (env := env) h.2
    rw [asg_cons h.1]
    refine ⟨by rw [List.length_cons, List.length_cons, h1], ?_⟩
    rw [List.findIdx?_cons, h2]
    rfl
mutual
theorem pg_of (g : Good T c X) : ∀ (t : Tg) (e : Expr), chkTg c t e = true → PG X e (gOf X.K t)
  | .name i, e, h => by
    cases e <;> first | (unfold chkTg at h; cases h; done) | skip
    rename_i x pos
    unfold chkTg at h
    rw [Bool.and_eq_true, decide_eq_true_eq] at h
    unfold gOf
    have hN : X.N[i]? = some x := by rw [g.N]; exact h.1
    have h2 := h.2
    split at h2
    · rename_i q
      exact pg_name (by rw [g.N]; exact g.nd) hN (.inl (by rw [g.sc]; exact q)) (.inr (by rw [g.sc]; exact q))
    · rename_i q
      exact pg_name (by rw [g.N]; exact g.nd) hN (.inr (by rw [g.sc]; exact q)) (.inl (g.fn x h2))
    · cases h2
  | .tup ts, e, h => by
    cases e <;> first | (unfold chkTg at h; cases h; done) | skip
    rename_i es k pos
    unfold chkTg at h
    unfold gOf
    rw [← chkTgs_len h]
    exact pg_tup g.calm (pgs_of g ts es h) (asg_len h).1 (asg_len h).2
theorem pgs_of (g : Good T c X) : ∀ (ts : List Tg) (es : List Expr), chkTgs c ts es = true → PGs X es (gsOf X.K ts)
  | [], [], _ => by unfold gsOf; exact pgs_nil
  | [], _ :: _, h => by unfold chkTgs at h; cases h
  | _ :: _, [], h => by unfold chkTgs at h; cases h
  | t :: ts, e :: es, h => by
    unfold chkTgs at h
    rw [Bool.and_eq_true] at h
    unfold gsOf
    exact pgs_cons (pg_of g t e h.1) (pgs_of g ts es h.2) (by rw [asg_cons h.1]; rfl)
end
end
end Lv
set_option Elab.async false
set_option linter.all false
set_option maxRecDepth 100000
set_option maxHeartbeats 4000000
/-! Lv10: comprehensions. -/
namespace Lv
open PySem PySem.Spec PyProof.Rows L2
theorem wipe_get {σ : L2.St} {i : Nat} : ∀ {vs : List Nat}, i ∉ vs → (wipe σ vs)[i]? = σ[i]?
  | [], _ => rfl
  | v :: vs, h => by
    simp only [List.mem_cons, not_or] at h
    unfold wipe
    rw [List.getElem?_set_ne (Ne.symm h.1), wipe_get h.2]
theorem wipe_in {σ : L2.St} {i : Nat} : ∀ {vs : List Nat}, i ∈ vs → i < σ.length → (wipe σ vs)[i]? = some none
  | v :: vs, h, hl => by
    unfold wipe
    by_cases e : v = i
    · subst e
      rw [List.getElem?_set_self (by rw [wipe_length]; exact hl)]
    · rw [List.getElem?_set_ne e]
      exact wipe_in ((List.mem_cons.mp h).resolve_left (Ne.symm e)) hl
theorem wipe_eq {σ σ2 : L2.St} {vs l : List Nat} (h : setsIn l (wipe σ vs) σ2) (hl : ∀ i ∈ l, i ∈ vs) : wipe σ2 vs = wipe σ vs := by
  apply List.ext_getElem?
  intro i
  have len : σ2.length = σ.length := h.1.trans (wipe_length σ vs)
  by_cases hi : i ∈ vs
  · by_cases hlt : i < σ.length
    · rw [wipe_in hi (by rw [len]; exact hlt), wipe_in hi hlt]
    · rw [List.getElem?_eq_none (by rw [wipe_length, len]; omega), List.getElem?_eq_none (by rw [wipe_length]; omega)]
  · rw [wipe_get hi, h.2 i (fun q => hi (hl i q))]
def notSet : Expr → Bool
  | .Set _ _ _ => false
  | _ => true
theorem folded_of {e : Expr} {env : PySem.Env} (h : notSet e = true) : ∀ x, foldedSetIterable e env x = pure x := by
  intro x
  cases e <;> first | rfl | (cases h; done)
section
variable {T : Th} {c : Sx} {N : En} {W : WX} {X : Cx} {a b e : Expr} {es : List Expr} {x y z : E} {xs ys : Es} {pos p0 : Pos} {tg : Expr} {weak : Bool}
/-- a comprehension's tests -/
def tQ (T : Th) (N : En) (W : WX) (cs : Es) : TT := fun σ H Q => ∃ p env s, Ok T.M N p env s σ H ∧ Rg T.M N W env σ (fun _ _ (b c : Bool) => b = c) p H (evTs T.G T.call T.mkc cs env s) Q
theorem sndQ_nil : PTs X [] (tQ T N W .nil) := ⟨fun pins s σ H Q I ⟨p, env, s0, o, h⟩ => pts_nil.run pins s σ H Q I (by
  unfold evTs at h
  exact Rg.done (d := true) h o rfl)⟩
theorem sndQ_one (h : PT X e (tT T N W x)) : PTs X [e] (tQ T N W (.cons x .nil)) := ⟨fun pins s σ H Q I ⟨p, env, s0, o, hh⟩ => (pts_one h).run pins s σ H Q I (by
  unfold evTs at hh
  exact ⟨p, env, s0, o, hh⟩)⟩
/-- no exception leaves a block -/
def W0 : WX := fun _ _ _ _ => False
theorem lcGo_len {f : D → Sto → R (Option D)} : ∀ {ds : List D} {s : Sto} {r : List D} {s' : Sto}, lcGo f ds s = .ok r s' → r.length ≤ ds.length
  | [], s, r, s', h => by unfold lcGo at h; cases h; exact Nat.le_refl _
  | d :: ds, s, r, s', h => by
    unfold lcGo at h
    cases q : f d s with
    | stk => rw [q] at h; cases h
    | exc _ _ => rw [q] at h; cases h
    | ok o s1 =>
      rw [q] at h
      have h : ((lcGo f ds s1).bind fun r s2 => R.ok (consO o r) s2) = .ok r s' := h
      cases q2 : lcGo f ds s1 with
      | stk => rw [q2] at h; cases h
      | exc _ _ => rw [q2] at h; cases h
      | ok r1 s2 =>
        rw [q2] at h
        have := lcGo_len q2
        cases h
        cases o with
        | none => show r1.length ≤ _; rw [List.length_cons]; omega
        | some y => show (y :: r1).length ≤ _; rw [List.length_cons, List.length_cons]; omega
/-- one turn ahead -/
theorem lcGo_cons {f : D → Sto → R (Option D)} {d : D} {ds : List D} {s : Sto} {r : List D} {s' : Sto} (h : lcGo f (d :: ds) s = .ok r s') : ∃ o s1 r1, f d s = .ok o s1 ∧ lcGo f ds s1 = .ok r1 s' ∧ r = consO o r1 := by
  unfold lcGo at h
  cases q : f d s with
  | stk => rw [q] at h; cases h
  | exc _ _ => rw [q] at h; cases h
  | ok o s1 =>
    rw [q] at h
    have h : ((lcGo f ds s1).bind fun r s2 => R.ok (consO o r) s2) = .ok r s' := h
    cases q2 : lcGo f ds s1 with
    | stk => rw [q2] at h; cases h
    | exc _ _ => rw [q2] at h; cases h
    | ok r1 s2 =>
      rw [q2] at h
      cases h
      exact ⟨o, s1, r1, rfl, q2, rfl⟩
/-- what holds between two turns of a comprehension; L: the new list -/
structure LcI (T : Th) (N : En) (p1 : Rho) (H1 : Hp) (env : Env) (σ : L2.St) (f : D → Sto → R (Option D)) (ds : List D) (ys : List D) (sF : Sto) (L : Addr) (i m : Nat) (H : Hp) : Prop where
  meas : m = ds.length - i
  le : i ≤ ds.length
  go : ∃ (p : Rho) (s : Sto) (acc : List V) (dacc rest : List D), Step p1 H1 p H ∧ Ok T.M N p env s σ H ∧ H L = some (.lst acc) ∧ RepL T.M p H dacc acc ∧ ¬ p.F L ∧ L ∉ p.cs ∧ dacc.length ≤ i ∧ lcGo f (ds.drop i) s = .ok rest sF ∧ dacc ++ rest = ys
theorem lc_read {src : Src} {t : Tg} {cs : Es} {el : E} {own : List (Str × Nat)}
    (ht : ∀ i ∈ tgS t, i ∈ own.map (·.2)) (σ : L2.St) (H : Hp) (Q : VK) (hr : tF T N W (.lc src t cs el (own.map (·.2))) σ H Q) :
    tLc (tS T N W false src) (gOf X.K t) (tQ T N W0 cs) (tE T N W0 Rep el) (own.map (·.2)) σ H Q := by
  obtain ⟨p, env, s, o, h⟩ := hr
  unfold ev at h
  refine ⟨p, env, s, o, (h.seq (fun p H ds J => IterR false T.M p H ds J)).imp fun J H1 ⟨p1, ds, s1, o1, st1, it, h1⟩ => ?_⟩
  by_cases hz : okL ds.length = true
  case neg => rw [if_neg hz] at h1; exact h1.elim
  rw [if_pos hz] at h1
  have hzl := okL_le hz
  generalize hf : (fun d s2 => match bindT t d (wipeE env (own.map (·.2))) with
    | none => (R.stk : R (Option D))
    | some env' => (evTs T.G T.call T.mkc cs env' s2).bind fun b s3 => if b then (ev T.G T.call T.mkc el env' s3).bind fun y s4 => R.ok (some y) s4 else R.ok none s3) = f at h1
  cases q : lcGo f ds s1 with
  | stk => rw [q] at h1; exact h1.elim
  | exc _ _ => rw [q] at h1; exact h1.elim
  | ok ys sF =>
  rw [q] at h1
  have h1 : Rg T.M N W env σ (RepF T.M H) p1 H1 (.ok (.lst ys) sF) Q := h1
  intro L hL
  have nF : ¬ p1.F L := fun hF => o1.cells.tr L hF hL
  have nc : L ∉ p1.cs := fun hc => o1.cells.some_ hc hL
  have nN : N.H L = none := o1.st.none_ hL
  have nS : ∀ (i : Nat) (x : Sl), env[i]? = some x → isOwn x = true → σ[i]? ≠ some (some (.ref L)) := fun i x e hx e2 => (o1.own_some e hx e2).1 hL
  refine ⟨LcI T N p1 H1 env σ f ds ys sF L, ⟨ds.length, rfl, Nat.zero_le _, p1, s1, [], [], ys, (Step.refl p1 H1).updNew hL, o1.updFree nF nc nN nS, upd_same, .nil, nF, nc, Nat.le_refl _, q, rfl⟩, ?_⟩
  rintro i m H2 ⟨hm, hle, p2, s2, acc, dacc, rest, st2, o2, hH2, racc, nF2, nc2, hdl, hgo, hys⟩
  have itn := it p2 H2 N env s2 σ st2 o2 i
  by_cases hlt : i < ds.length
  case neg =>
    have e : i = ds.length := by omega
    refine .inl ⟨itn.2 (by omega), ?_⟩
    rw [e, List.drop_length] at hgo
    unfold lcGo at hgo
    cases hgo
    rw [List.append_nil] at hys
    subst hys
    exact h1 (.ref L) p2 H2 st2 o2 ⟨L, rfl, st1.none_ hL, nF2, nc2, acc, hH2, racc⟩
  refine .inr ?_
  have e1 : ds[i]? = some ds[i] := List.getElem?_eq_getElem hlt
  obtain ⟨go, yl⟩ := itn.1 _ e1
  rw [List.drop_eq_getElem_cons hlt] at hgo
  obtain ⟨oo, s3, r1, hfd, hgo1, hr⟩ := lcGo_cons hgo
  refine ⟨go, fun H' => LcI T N p1 H1 env σ f ds ys sF L (i + 1) (ds.length - (i + 1)) H', fun H' w => ⟨_, by omega, w⟩, fun v H3 hy => ?_⟩
  obtain ⟨p3, st3, o3, r3⟩ := yl v H3 hy
  -- the list still stands
  have hH3 : H3 L = some (.lst acc) := st3.kp L _ hH2 nc2
  have racc3 := racc.step st3 o2.cells.ap
  have keepL : ∀ {p4 : Rho} {H4 : Hp}, Step p2 H2 p4 H4 → H4 L = some (.lst acc) ∧ RepL T.M p4 H4 dacc acc ∧ ¬ p4.F L ∧ L ∉ p4.cs := fun {p4 H4} st => by
    refine ⟨st.kp L _ hH2 nc2, racc.step st o2.cells.ap, fun hF => ?_, fun hc => ?_⟩
    · rcases st.nw L hF with w | w
      · exact nF2 w
      · rw [hH2] at w; cases w
    · obtain ⟨mo, e, hmo⟩ := st.cs
      rw [e] at hc
      rcases List.mem_append.mp hc with w | w
      · exact nc2 w
      · have := hmo L w; rw [hH2] at this; cases this
  rw [← hf] at hfd
  simp only at hfd
  split at hfd
  · cases hfd
  rename_i env' hb
  have ow := o3.wiped (own.map (·.2))
  refine bind_ok t hb ow r3 fun σ' o' hset => ⟨wipe_eq hset ht, ?_⟩
  cases qt : evTs T.G T.call T.mkc cs env' s2 with
  | stk => rw [qt] at hfd; cases hfd
  | exc _ _ => rw [qt] at hfd; cases hfd
  | ok bb s4 =>
  rw [qt] at hfd
  refine ⟨p3, env', s2, o', ?_⟩
  rw [qt]
  intro b' p4 H4 st4 o4 eb
  subst eb
  have hfd : (if bb = true then (ev T.G T.call T.mkc el env' s4).bind fun y s4 => R.ok (some y) s4 else R.ok none s4) = R.ok oo s3 := hfd
  -- back from the block: the def's own slots
  have back : ∀ {p5 : Rho} {H5 : Hp} {s5 : Sto}, Step p3 H3 p5 H5 → CellsOk T.M p5 H5 s5 → Ok T.M N p5 env s5 σ H5 := fun {p5 H5 s5} st ck => o3.step st ck
  cases bb with
  | false =>
    rw [if_neg Bool.false_ne_true] at hfd ⊢
    cases hfd
    obtain ⟨k1, k2, k3, k4⟩ := keepL (st3.trans st4)
    exact ⟨rfl, by omega, p4, s3, acc, dacc, r1, st2.trans (st3.trans st4), back st4 o4.cells, k1, k2, k3, k4, by omega, hgo1, by rw [← hys, hr]; rfl⟩
  | true =>
    rw [if_pos rfl] at hfd ⊢
    cases qe : ev T.G T.call T.mkc el env' s4 with
    | stk => rw [qe] at hfd; cases hfd
    | exc _ _ => rw [qe] at hfd; cases hfd
    | ok yd s5 =>
    rw [qe] at hfd
    cases hfd
    refine ⟨p4, env', s4, o4, ?_⟩
    rw [qe]
    intro w p5 H5 st5 o5 r5
    have stA := st4.trans st5
    obtain ⟨k1, k2, k3, k4⟩ := keepL (st3.trans stA)
    have oB := back stA o5.cells
    have hw : WStep p5 H5 p5 (upd H5 L (.lst (acc ++ [w]))) := WStep.upd k3
    refine ⟨acc, k1, ?_, rfl, by omega, p5, s3, acc ++ [w], dacc ++ [yd], r1, (st2.trans (st3.trans stA)).updNew hL, oB.updFree k3 k4 nN nS, upd_same, (k2.append (.cons r5 .nil)).wstep hw, k3, k4, ?_, hgo1, ?_⟩
    · rw [← racc.length]; omega
    · rw [List.length_append]; show dacc.length + 1 ≤ i + 1; omega
    · rw [← hys, hr, List.append_assoc]; rfl
section
variable {src : Src} {t : Tg} {cs : Es} {el : E} {own : List (Str × Nat)} {scope : Scope} {iter elt : Expr} {ifs : List Expr}
theorem snd_lc (g : Good T c X) (hi : PI X tg iter (tS T N W false src)) (ok : BlkOk X.N X.env.scope scope own) (hns : notSet iter = true) (ht : ∀ i ∈ tgS t, i ∈ own.map (·.2))
    (pg : ∀ (s : Shared) (H : Hp) (C : Addr) (cl : List (Str × Addr)) (fp : List Addr), PG (X.blk s H scope (compEnvC scope cl C X.env) fp) tg (gOf X.K t))
    (pt : ∀ (s : Shared) (H : Hp) (C : Addr) (cl : List (Str × Addr)) (fp : List Addr), PTs (X.blk s H scope (compEnvC scope cl C X.env) fp) ifs (tQ T N W0 cs))
    (pe : ∀ (s : Shared) (H : Hp) (C : Addr) (cl : List (Str × Addr)) (fp : List Addr), PE (X.blk s H scope (compEnvC scope cl C X.env) fp) elt (tE T N W0 Rep el)) :
    PE X (.ListComp elt [⟨tg, iter, ifs, 0⟩] scope pos) (tF T N W (.lc src t cs el (own.map (·.2)))) :=
  (pe_lc (own := own) (g := gOf X.K t) (tt := tQ T N W0 cs) (te := tE T N W0 Rep el) g.calm (by rw [g.N]; exact g.nd) hi ok pg pt pe (folded_of hns)).imp fun σ H Q h => lc_read ht σ H Q h
/-- name = [..], the name stored within the block -/
theorem snd_setLc {i : Nat} {n : Str} {pn spos : Pos} (g : Good T c X) (hi : PI X tg iter (tS T N W false src)) (ok : BlkOk X.N X.env.scope scope own) (hns : notSet iter = true) (ht : ∀ i ∈ tgS t, i ∈ own.map (·.2))
    (hn : X.N[i]? = some n) (hl : X.env.scope.names.lookup n = some .local) (hsw : swapsWith (.ListComp elt [⟨tg, iter, ifs, 0⟩] scope pos) (some (.Name n pn)) spos.line X.env = pure true)
    (pg : ∀ (s : Shared) (H : Hp) (C : Addr) (cl : List (Str × Addr)) (fp : List Addr), PG (X.blk s H scope (compEnvC scope cl C X.env) fp) tg (gOf X.K t))
    (pt : ∀ (s : Shared) (H : Hp) (C : Addr) (cl : List (Str × Addr)) (fp : List Addr), PTs (X.blk s H scope (compEnvC scope cl C X.env) fp) ifs (tQ T N W0 cs))
    (pe : ∀ (s : Shared) (H : Hp) (C : Addr) (cl : List (Str × Addr)) (fp : List Addr), PE (X.blk s H scope (compEnvC scope cl C X.env) fp) elt (tE T N W0 Rep el)) :
    PS X (.Assign [.Name n pn] (.ListComp elt [⟨tg, iter, ifs, 0⟩] scope pos) spos) (tAsg (tF T N W (.lc src t cs el (own.map (·.2)))) (gName i)) :=
  (ps_setLc (own := own) (g := gOf X.K t) (tt := tQ T N W0 cs) (te := tE T N W0 Rep el) g.calm (by rw [g.N]; exact g.nd) hn hl hsw hi ok pg pt pe (folded_of hns)).imp fun D σ H h => lc_read ht σ H _ h
end
end
end Lv
set_option Elab.async false
set_option linter.all false
set_option maxRecDepth 100000
set_option maxHeartbeats 4000000
/-! Lv11: statements. -/
namespace Lv
open PySem PySem.Spec PyProof.Rows L2
/-- what a statement that is worth r leads to -/
def RgS (T : Th) (N : En) (W : WX) (p : Rho) (H : Hp) (r : RS) (D : Ends) : Prop := match r with
  | .nxt env s => ∀ σ' p' H', Ok T.M N p' env s σ' H' → WStep p H p' H' → D.nx σ' H'
  | .brk env s => ∀ σ' p' H', Ok T.M N p' env s σ' H' → WStep p H p' H' → D.bk σ' H'
  | .cnt env s => ∀ σ' p' H', Ok T.M N p' env s σ' H' → WStep p H p' H' → D.ct σ' H'
  | .ret d s => ∀ v p' H', Step N.p N.H p' H' → CellsOk T.M p' H' s → Rep T.M p' H' d v → D.rt v H'
  | .exc x env s => ∀ cls dd σ' p' H', Ok T.M N p' env s σ' H' → ExcR T.M p' H' x cls dd → W cls dd σ' H'
  | .stk => False
section
variable (T : Th) (N : En) (W : WX)
def tSt (st : S) : TS := fun D σ H => ∃ p env s, Ok T.M N p env s σ H ∧ RgS T N W p H (evS T.G T.call T.mkc st env s) D
def tSs (ss : Ss) : TS := fun D σ H => ∃ p env s, Ok T.M N p env s σ H ∧ RgS T N W p H (evSs T.G T.call T.mkc ss env s) D
end
section
variable {T : Th} {c : Sx} {N : En} {W : WX} {X : Cx} {a b e : Expr} {es : List Expr} {x y z : E} {pos p0 : Pos} {st : S} {ss : Ss} {stm : Stmt} {sts : List Stmt} {p p1 : Rho} {H H1 : Hp} {env : Env} {s : Sto} {σ : L2.St} {Dd : Ends}
theorem RgS.step {r : RS} (w : WStep p H p1 H1) (h : RgS T N W p H r Dd) : RgS T N W p1 H1 r Dd := by
  cases r with
  | nxt env s => exact fun σ' p' H' o k => h σ' p' H' o (w.trans k)
  | brk env s => exact fun σ' p' H' o k => h σ' p' H' o (w.trans k)
  | cnt env s => exact fun σ' p' H' o k => h σ' p' H' o (w.trans k)
  | ret d s => exact h
  | exc x env s => exact h
  | stk => exact h
/-- an expression, then what hangs on its value -/
theorem RgS.expr {α β : Type} {r : R α} {k : α → Sto → RS} (rel : Rho → Hp → α → β → Prop) (o : Ok T.M N p env s σ H) (h : RgS T N W p H (r.st env k) Dd) :
    Rg T.M N W env σ rel p H r fun v H1 => ∃ p1 d s1, Ok T.M N p1 env s1 σ H1 ∧ Step p H p1 H1 ∧ rel p1 H1 d v ∧ RgS T N W p1 H1 (k d s1) Dd := by
  cases r with
  | ok d s1 => exact fun v p1 H1 st o1 rl => ⟨p1, d, s1, o1, st, rl, h.step (st.w o.cells.ap)⟩
  | exc x s1 => exact fun cls dd p1 H1 st o1 er => h cls dd σ p1 H1 o1 er
  | stk => exact h
/-- .. a value that is let stay -/
theorem RgS.exprF {r : R D} {k : D → Sto → RS} {Dn : Ends} (o : Ok T.M N p env s σ H) (h : RgS T N W p H (r.st env k) Dn) :
    Rg T.M N W env σ (RepF T.M H) p H r fun v H1 => ∃ p1 d s1, Ok T.M N p1 env s1 σ H1 ∧ Step p H p1 H1 ∧ Rep T.M p1 H1 d v ∧ RgS T N W p1 H1 (k d s1) Dn := by
  cases r with
  | ok d s1 =>
    intro v p1 H1 st o1 rl
    obtain ⟨p2, st2, o2, r2⟩ := RepF.stay rl o st o1
    exact ⟨p2, d, s1, o2, st2, r2, h.step (st2.w o.cells.ap)⟩
  | exc x s1 => exact fun cls dd p1 H1 st o1 er => h cls dd σ p1 H1 o1 er
  | stk => exact h
/-! ### assignments to a name -/
theorem nxt_set {i : Nat} {d : D} {v : V} {Dn : Ends} (o : Ok T.M N p env s σ H) (r : Rep T.M p H d v) (h : RgS T N W p H (nxtO (setV env i (.val d)) s) Dn) : Dn.nx (σ.set i (some v)) H := by
  unfold setV at h
  split at h
  · rename_i hi
    exact h _ p H (o.setVal hi r) (WStep.refl p H)
  · exact h.elim
theorem Ok.setOwn {i : Nat} {sl : Sl} {l : Addr} (o : Ok T.M N p env s σ H) (hi : i < env.length) (hs : isOwn sl = true) (hn : N.H l = none) (hF : ¬ p.F l) (hc : l ∉ p.cs) (r : OwnR T.M p H l sl)
    (hd : ∀ (j : Nat) (x : Sl), j ≠ i → env[j]? = some x → isOwn x = true → σ[j]? ≠ some (some (.ref l))) : Ok T.M N p (env.set i sl) s (σ.set i (some (.ref l))) H := by
  have hl : i < σ.length := by rw [← o.len]; exact hi
  refine ⟨o.st, o.cells, by rw [List.length_set, List.length_set]; exact o.len, fun j x e => ?_, fun j x a e hx e2 => ?_, fun j k x y a e1 e2 hx hy e3 e4 => ?_⟩
  · rcases list_getset e with ⟨rfl, rfl⟩ | ⟨hj, e⟩
    · refine ⟨_, List.getElem?_set_self hl, ?_⟩
      cases x with
      | und => trivial
      | val d => cases hs
      | own ds => exact ⟨l, rfl, hF, hc, r⟩
      | owd ds => exact ⟨l, rfl, hF, hc, r⟩
    · obtain ⟨u, e1, q⟩ := o.slot j x e
      exact ⟨u, by rw [List.getElem?_set_ne (Ne.symm hj)]; exact e1, q⟩
  · rcases list_getset e with ⟨rfl, rfl⟩ | ⟨hj, e⟩
    · rw [List.getElem?_set_self hl] at e2
      cases e2
      exact hn
    · rw [List.getElem?_set_ne (Ne.symm hj)] at e2
      exact o.fresh j x a e hx e2
  · rcases list_getset e1 with ⟨hj, hjx⟩ | ⟨hj, g1⟩
    · rcases list_getset e2 with ⟨hk, hky⟩ | ⟨hk, g2⟩
      · rw [hj, hk]
      · rw [hj, List.getElem?_set_self hl] at e3
        cases e3
        rw [List.getElem?_set_ne (Ne.symm hk)] at e4
        exact absurd e4 (hd k y hk g2 hy)
    · rcases list_getset e2 with ⟨hk, hky⟩ | ⟨hk, g2⟩
      · rw [hk, List.getElem?_set_self hl] at e4
        cases e4
        rw [List.getElem?_set_ne (Ne.symm hj)] at e3
        exact absurd e3 (hd j x hj g1 hx)
      · rw [List.getElem?_set_ne (Ne.symm hj)] at e3
        rw [List.getElem?_set_ne (Ne.symm hk)] at e4
        exact o.dist j k x y a g1 g2 hx hy e3 e4
/-- a fresh list or dict becomes a name's own; H0: the heap where it was not yet, the names' own being there -/
theorem Ok.setFresh {i : Nat} {d : D} {v : V} {sl : Sl} {H0 : Hp} {p0 : Rho} {s0 : Sto} (o0 : Ok T.M N p0 env s0 σ H0) (o : Ok T.M N p env s σ H) (hi : i < env.length) (hd : ownOf d = some sl) (r : RepF T.M H0 p H d v) : ∃ l, v = .ref l ∧ Ok T.M N p (env.set i sl) s (σ.set i (some v)) H := by
  unfold RepF at r
  rw [hd] at r
  obtain ⟨l, rfl, h0, hF, hc, rr⟩ := r
  have hs : isOwn sl = true := by cases d <;> cases hd <;> rfl
  exact ⟨l, rfl, o.setOwn hi hs (o0.st.none_ h0) hF hc rr fun j x _ e hx e2 => (o0.own_some e hx e2).1 h0⟩
theorem nxt_setO {i : Nat} {d : D} {v : V} {Dn : Ends} {H0 : Hp} {p0 : Rho} {s0 : Sto} (o0 : Ok T.M N p0 env s0 σ H0) (o : Ok T.M N p env s σ H) (r : RepF T.M H0 p H d v) (h : RgS T N W p H (nxtO (setD true env i d) s) Dn) : Dn.nx (σ.set i (some v)) H := by
  unfold setD at h
  rw [if_pos rfl] at h
  cases q : ownOf d with
  | none => rw [q] at h; exact h.elim
  | some sl =>
    rw [q] at h
    have h : RgS T N W p H (nxtO (setV env i sl) s) Dn := h
    unfold setV at h
    split at h
    · rename_i hi
      obtain ⟨l, e, o2⟩ := Ok.setFresh o0 o hi q r
      exact h _ p H o2 (WStep.refl p H)
    · exact h.elim
theorem snd_set {i : Nat} (h : PS X stm (tAsg (tF T N W x) (gName i))) : PS X stm (tSt T N W (.set i x)) := h.imp fun Dn σ H ⟨p, env, s, o, h⟩ => by
  unfold evS at h
  refine ⟨p, env, s, o, (RgS.exprF o h).imp fun v H1 ⟨p1, d1, s1, o1, st1, r1, h1⟩ => ?_⟩
  exact nxt_set o1 r1 h1
theorem snd_setE {i : Nat} (h : PS X stm (tAsg (tE T N W Rep x) (gName i))) : PS X stm (tSt T N W (.set i x)) := h.imp fun Dn σ H ⟨p, env, s, o, h⟩ => by
  unfold evS at h
  refine ⟨p, env, s, o, (RgS.expr (Rep T.M) o h).imp fun v H1 ⟨p1, d1, s1, o1, st1, r1, h1⟩ => ?_⟩
  exact nxt_set o1 r1 h1
theorem snd_setO {i : Nat} (h : PS X stm (tAsg (tF T N W x) (gName i))) : PS X stm (tSt T N W (.setO i x)) := h.imp fun Dn σ H ⟨p, env, s, o, h⟩ => by
  unfold evS at h
  refine ⟨p, env, s, o, (RgS.expr (RepF T.M H) o h).imp fun v H1 ⟨p1, d1, s1, o1, st1, r1, h1⟩ => ?_⟩
  exact nxt_setO o o1 r1 h1
/-! ### the rest -/
theorem snd_ex (hs : swapsWith a none pos.line X.env = pure false) (ha : PE X a (tE T N W RepB x)) : PS X (.Expr a pos) (tSt T N W (.ex x)) := (ps_expr ha hs).imp fun Dn σ H ⟨p, env, s, o, h⟩ => by
  unfold evS at h
  exact ⟨p, env, s, o, (RgS.expr (RepB T.M) o h).imp fun v H1 ⟨p1, d1, s1, o1, st1, r1, h1⟩ => h1 σ p1 H1 o1 (WStep.refl _ _)⟩
theorem snd_ret (ha : PE X a (tE T N W Rep x)) : PS X (.Return (some a) pos) (tSt T N W (.ret x)) := (ps_ret ha).imp fun Dn σ H ⟨p, env, s, o, h⟩ => by
  unfold evS at h
  exact ⟨p, env, s, o, (RgS.expr (Rep T.M) o h).imp fun v H1 ⟨p1, d1, s1, o1, st1, r1, h1⟩ => h1 v p1 H1 o1.st o1.cells r1⟩
theorem snd_retN : PS X (.Return none pos) (tSt T N W .retN) := ps_retN.imp fun Dn σ H ⟨p, env, s, o, h⟩ => by
  unfold evS at h
  exact h .non p H o.st o.cells .non
theorem snd_pas : PS X (.Pass pos) (tSt T N W .pas) := ps_pass.imp fun Dn σ H ⟨p, env, s, o, h⟩ => by
  unfold evS at h
  exact h σ p H o (WStep.refl _ _)
theorem snd_brk : PS X (.Break pos) (tSt T N W .brk) := ps_break.imp fun Dn σ H ⟨p, env, s, o, h⟩ => by
  unfold evS at h
  exact h σ p H o (WStep.refl _ _)
theorem snd_cnt : PS X (.Continue pos) (tSt T N W .cnt) := ps_continue.imp fun Dn σ H ⟨p, env, s, o, h⟩ => by
  unfold evS at h
  exact h σ p H o (WStep.refl _ _)
theorem snd_bad : PS X stm (tSt T N W .bad) := ps_never.imp fun Dn σ H ⟨p, env, s, o, h⟩ => by
  unfold evS at h
  exact h
theorem snd_nil : PSs X [] (tSs T N W .nil) := pss_nil.imp fun Dn σ H ⟨p, env, s, o, h⟩ => by
  unfold evSs at h
  exact h σ p H o (WStep.refl _ _)
theorem snd_cons (h1 : PS X stm (tSt T N W st)) (h2 : PSs X sts (tSs T N W ss)) : PSs X (stm :: sts) (tSs T N W (.cons st ss)) := (pss_cons h1 h2).imp fun Dn σ H ⟨p, env, s, o, h⟩ => by
  unfold evSs at h
  refine ⟨p, env, s, o, ?_⟩
  cases q : evS T.G T.call T.mkc st env s with
  | nxt env1 s1 =>
    rw [q] at h
    intro σ1 p1 H1 o1 w1
    exact ⟨p1, env1, s1, o1, h.step w1⟩
  | brk env1 s1 => rw [q] at h; exact h
  | cnt env1 s1 => rw [q] at h; exact h
  | ret d s1 => rw [q] at h; exact h
  | exc y env1 s1 => rw [q] at h; exact h
  | stk => rw [q] at h; exact h
/-- a name's own list stays from now on -/
theorem snd_frz {i : Nat} (h2 : PSs X sts (tSs T N W ss)) : PSs X sts (tSs T N W (.frz i ss)) := h2.imp fun Dn σ H ⟨p, env, s, o, h⟩ => by
  unfold evSs at h
  have key : ∀ (x : Sl) (d : D), env[i]? = some x → ownOf d = some x → RgS T N W p H (evSs T.G T.call T.mkc ss (env.set i (.val d)) s) Dn → tSs T N W ss Dn σ H := by
    intro x d e hd h
    have hx : isOwn x = true := by cases d <;> cases hd <;> rfl
    obtain ⟨v, e1, r⟩ := o.slot i x e
    have sr : ∃ l, v = some (.ref l) := by
      cases d <;> cases hd
      · obtain ⟨l, e2, _⟩ := r; exact ⟨l, e2⟩
      · obtain ⟨l, e2, _⟩ := r; exact ⟨l, e2⟩
    obtain ⟨l, rfl⟩ := sr
    obtain ⟨h1, hF, hc, rr⟩ := o.own_some e hx e1
    have hi := (List.getElem?_eq_some_iff.mp e).1
    -- the slot is forgotten, the list stays, the slot holds it
    have o1 := o.setUnd i
    have w : WStep p H (p.fix l) H := ⟨fun _ h => .inl h, fun _ _ _ h => h, [], by simp [Rho.fix]⟩
    have o2 : Ok T.M N (p.fix l) (env.set i .und) s (σ.set i none) H := o1.fix (o.fresh i x l e hx e1) hc h1 fun j y e2 hy e3 => by
      rcases list_getset e2 with ⟨rfl, rfl⟩ | ⟨hj, e2⟩
      · cases hy
      · rw [List.getElem?_set_ne (Ne.symm hj)] at e3
        exact hj (o.dist j i y x l e2 e hy hx e3 e1)
    have o3 := o2.setVal (i := i) (d := d) (v := .ref l) (by rw [List.length_set]; exact hi) (OwnR.rep (.inr rfl) hd (OwnR.wide (p' := p.fix l) (fun _ h => Or.inl h) rfl rr))
    rw [List.set_set, List.set_set] at o3
    have es : σ.set i (some (.ref l)) = σ := by
      apply List.ext_getElem?
      intro j
      by_cases hj : j = i
      · subst hj; rw [List.getElem?_set_self (List.getElem?_eq_some_iff.mp e1).1, e1]
      · rw [List.getElem?_set_ne (Ne.symm hj)]
    rw [es] at o3
    exact ⟨p.fix l, _, s, o3, h.step w⟩
  unfold frzE at h
  split at h
  · rename_i env1 q
    split at q
    · rename_i ds e
      cases q
      exact key _ (.lst ds) e rfl h
    · rename_i ds e
      cases q
      exact key _ (.dic ds) e rfl h
    · cases q
  · exact h.elim
theorem snd_ifs {c0 : Expr} {s1 s2 : List Stmt} {t1 t2 : Ss} (hc : PT X c0 (tT T N W x)) (h1 : PSs X s1 (tSs T N W t1)) (h2 : PSs X s2 (tSs T N W t2)) : PS X (.If c0 s1 s2 pos) (tSt T N W (.ifs x t1 t2)) := (ps_if hc h1 h2).imp fun Dn σ H ⟨p, env, s, o, h⟩ => by
  unfold evS at h
  refine ⟨p, env, s, o, ?_⟩
  unfold evB
  cases q : ev T.G T.call T.mkc x env s with
  | stk => rw [q] at h; exact h.elim
  | exc y s1 => rw [q] at h; exact fun cls dd p1 H1 st o1 er => h cls dd σ p1 H1 o1 er
  | ok d s1 =>
    rw [q] at h
    have h : RgS T N W p H (match dTru d with | some true => evSs T.G T.call T.mkc t1 env s1 | some false => evSs T.G T.call T.mkc t2 env s1 | none => .stk) Dn := h
    show Rg T.M N W env σ _ p H (lift (dTru d) s1) _
    cases e : dTru d with
    | none => rw [e] at h; exact h.elim
    | some bb =>
      rw [e] at h
      intro v p1 H1 st1 o1 ev
      subst ev
      cases bb with
      | true => rw [if_pos rfl]; exact ⟨p1, env, s1, o1, h.step (st1.w o.cells.ap)⟩
      | false => rw [if_neg Bool.false_ne_true]; exact ⟨p1, env, s1, o1, h.step (st1.w o.cells.ap)⟩
/-! ### loops -/
/-- what a loop over the rest of the items leads to -/
structure FoI (T : Th) (N : En) (W : WX) (p1 : Rho) (H1 : Hp) (t : Tg) (f : Env → Sto → RS) (ds : List D) (D : Ends) (i m : Nat) (σ : L2.St) (H : Hp) : Prop where
  meas : m = ds.length - i
  le : i ≤ ds.length
  go : ∃ p env s, WStep p1 H1 p H ∧ Ok T.M N p env s σ H ∧ RgS T N W p H (lopGo t f (ds.drop i) env s) D
theorem snd_lop {src : Src} {t : Tg} {body : Ss} {tg iter : Expr} {bs : List Stmt} (g : Good T c X) (hp : PassesOwn (model X.prog X.w) X.A X.env X.xe) (hi : PI X tg iter (tS T N W true src)) (hns : notSet iter = true) (pg : PG X tg (gOf X.K t))
    (hb : PSs X bs (tSs T N W body)) : PS X (.For tg iter bs [] pos) (tSt T N W (.lop src t body)) := (ps_for hp g.calm hi pg hb (folded_of hns)).imp fun Dn σ H ⟨p, env, s, o, h⟩ => by
  unfold evS at h
  refine ⟨p, env, s, o, (RgS.expr (fun p H ds J => IterR true T.M p H ds J) o h).imp fun J H1 ⟨p1, ds, s1, o1, st1, it, h1⟩ => ?_⟩
  refine ⟨FoI T N W p1 H1 t (evSs T.G T.call T.mkc body) ds Dn, ⟨ds.length, rfl, Nat.zero_le _, p1, env, s1, WStep.refl _ _, o1, h1⟩, ?_⟩
  rintro i m σ2 H2 ⟨hm, hle, p2, env2, s2, w2, o2, h2⟩
  have itn := it p2 H2 N env2 s2 σ2 w2 o2 i
  by_cases hlt : i < ds.length
  case neg =>
    have e : i = ds.length := by omega
    refine .inl ⟨itn.2 (by omega), ?_⟩
    rw [e, List.drop_length] at h2
    unfold lopGo at h2
    exact h2 σ2 p2 H2 o2 (WStep.refl _ _)
  refine .inr ?_
  obtain ⟨go, yl⟩ := itn.1 _ (List.getElem?_eq_getElem hlt)
  rw [List.drop_eq_getElem_cons hlt] at h2
  unfold lopGo at h2
  refine ⟨go, FoI T N W p1 H1 t (evSs T.G T.call T.mkc body) ds Dn (i + 1) (ds.length - (i + 1)), fun σ' H' w => ⟨_, by omega, w⟩, fun v H3 hy => ?_⟩
  obtain ⟨p3, st3, o3, r3⟩ := yl v H3 hy
  have h3 := h2.step (st3.w o2.cells.ap)
  have w3 := w2.trans (st3.w o2.cells.ap)
  split at h3
  · exact h3.elim
  rename_i env4 hb4
  refine bind_ok t hb4 o3 r3 fun σ' o' hset => ⟨p3, env4, s2, o', ?_⟩
  cases q : evSs T.G T.call T.mkc body env4 s2 with
  | nxt env5 s5 => rw [q] at h3; exact fun σ5 p5 H5 o5 w5 => ⟨rfl, by omega, p5, env5, s5, w3.trans w5, o5, h3.step w5⟩
  | cnt env5 s5 => rw [q] at h3; exact fun σ5 p5 H5 o5 w5 => ⟨rfl, by omega, p5, env5, s5, w3.trans w5, o5, h3.step w5⟩
  | brk env5 s5 => rw [q] at h3; exact h3
  | ret d s5 => rw [q] at h3; exact h3
  | exc y env5 s5 => rw [q] at h3; exact h3
  | stk => rw [q] at h3; exact h3
theorem snd_whl {body : Ss} {c0 : Expr} {bs : List Stmt} (hp : PassesOwn (model X.prog X.w) X.A X.env X.xe) (hc : PT X c0 (tT T N W x)) (hb : PSs X bs (tSs T N W body)) : PS X (.While c0 bs [] pos) (tSt T N W (.whl x body)) := (ps_while hp hc hb).imp fun Dn σ H ⟨p, env, s, o, h⟩ => by
  unfold evS at h
  refine ⟨fun n σ H => ∃ p env s, Ok T.M N p env s σ H ∧ RgS T N W p H (whlGo (ev T.G T.call T.mkc x) (evSs T.G T.call T.mkc body) n env s) Dn, ⟨WF, p, env, s, o, h⟩, ?_⟩
  rintro n σ1 H1 ⟨p1, env1, s1, o1, h1⟩
  cases n with
  | zero => unfold whlGo at h1; exact h1.elim
  | succ n =>
    unfold whlGo at h1
    refine ⟨p1, env1, s1, o1, ?_⟩
    unfold evB
    cases q : ev T.G T.call T.mkc x env1 s1 with
    | stk => rw [q] at h1; exact h1.elim
    | exc y s2 => rw [q] at h1; exact fun cls dd p2 H2 st o2 er => h1 cls dd σ1 p2 H2 o2 er
    | ok d s2 =>
      rw [q] at h1
      show Rg T.M N W env1 σ1 _ p1 H1 (lift (dTru d) s2) _
      have h1 : RgS T N W p1 H1 (match dTru d with
        | none => .stk
        | some false => .nxt env1 s2
        | some true => match evSs T.G T.call T.mkc body env1 s2 with
          | .nxt env2 s2 => whlGo (ev T.G T.call T.mkc x) (evSs T.G T.call T.mkc body) n env2 s2
          | .cnt env2 s2 => whlGo (ev T.G T.call T.mkc x) (evSs T.G T.call T.mkc body) n env2 s2
          | .brk env2 s2 => .nxt env2 s2
          | r => r) Dn := h1
      cases e : dTru d with
      | none => rw [e] at h1; exact h1.elim
      | some bb =>
        rw [e] at h1
        intro v p2 H2 st2 o2 ev
        subst ev
        cases bb with
        | false => rw [if_neg Bool.false_ne_true]; exact h1 σ1 p2 H2 o2 (st2.w o1.cells.ap)
        | true =>
          rw [if_pos rfl]
          have h2 := h1.step (st2.w o1.cells.ap)
          refine ⟨fun σ H => ∃ p env s, Ok T.M N p env s σ H ∧ RgS T N W p H (whlGo (ev T.G T.call T.mkc x) (evSs T.G T.call T.mkc body) n env s) Dn, fun σ' H' w => ⟨n, by omega, w⟩, p2, env1, s2, o2, ?_⟩
          cases q : evSs T.G T.call T.mkc body env1 s2 with
          | nxt env5 s5 => rw [q] at h2; exact fun σ5 p5 H5 o5 w5 => ⟨p5, env5, s5, o5, h2.step w5⟩
          | cnt env5 s5 => rw [q] at h2; exact fun σ5 p5 H5 o5 w5 => ⟨p5, env5, s5, o5, h2.step w5⟩
          | brk env5 s5 => rw [q] at h2; exact h2
          | ret d s5 => rw [q] at h2; exact h2
          | exc y env5 s5 => rw [q] at h2; exact h2
          | stk => rw [q] at h2; exact h2
end
end Lv
set_option Elab.async false
set_option linter.all false
set_option maxRecDepth 100000
set_option maxHeartbeats 4000000
/-! Lv12: assignments of other forms, own lists changed. -/
namespace Lv
open PySem PySem.Spec PyProof.Rows L2
theorem _root_.L2.PG.imp {X : Cx} {e : Expr} {t t' : TG} (h : PG X e t) (hw : ∀ v σ H Q, t' v σ H Q → t v σ H Q) : PG X e t' := ⟨fun pins s σ H v u Q I r q => h.run pins s σ H v u Q I r (hw v σ H Q q)⟩
theorem _root_.L2.PGs.imp {X : Cx} {e : List Expr} {t t' : TGs} (h : PGs X e t) (hw : ∀ v σ H Q, t' v σ H Q → t v σ H Q) : PGs X e t' := ⟨fun pins s σ H v u Q I r q => h.run pins s σ H v u Q I r (hw v σ H Q q)⟩
section
variable (T : Th) (N : En) (W : WX)
def gA (t : At) : TG := fun v σ H Q => ∃ p env s d Dn, Ok T.M N p env s σ H ∧ Rep T.M p H d v ∧ Dn.nx = Q ∧ RgS T N W p H (evAt T.G T.call T.mkc t d env s) Dn
def gAs (ts : List At) : TGs := fun vs σ H Q => ∃ p env s ds Dn, Ok T.M N p env s σ H ∧ RepL T.M p H ds vs ∧ Dn.nx = Q ∧ RgS T N W p H (evAts T.G T.call T.mkc ts ds env s) Dn
end
section
variable {T : Th} {c : Sx} {N : En} {W : WX} {X : Cx} {a b e : Expr} {es : List Expr} {x y z : E} {pos p0 : Pos} {p p1 p' : Rho} {H H1 H' : Hp} {env : Env} {s : Sto} {σ : L2.St}
theorem pgA_name {i : Nat} (h : PG X e (gName i)) : PG X e (gA T N W (.name i)) := h.imp fun v σ H Q ⟨p, env, s, d, Dn, o, r, e1, h⟩ => by
  unfold evAt at h
  subst e1
  exact nxt_set o r h
/-- a cell's list is written -/
theorem CellsOk.setCell (ck : CellsOk T.M p H s) {n : Nat} {l : Addr} {ds : List D} {vs : List V} (hn : p.cs[n]? = some l) (r : RepL T.M p H ds vs) : CellsOk T.M p (L2.upd H l (.lst vs)) (s.set n (.lst ds)) := by
  have hF : ¬ p.F l := ck.ap l (List.mem_of_getElem? hn)
  have w : WStep p H p (L2.upd H l (.lst vs)) := WStep.upd hF
  refine ⟨by rw [List.length_set]; exact ck.len, ck.nd, ck.ap, fun x h => ?_, fun m x cl e1 e2 => ?_⟩
  · rw [upd_ne (fun e : x = l => hF (e ▸ h))]
    exact ck.tr x h
  · rcases list_getset e2 with ⟨rfl, rfl⟩ | ⟨hm, e2⟩
    · rw [hn] at e1
      cases e1
      exact ⟨vs, upd_same, r.wstep w⟩
    · refine (ck.at_ m x cl e1 e2).wstep w fun o h => ?_
      have ne : x ≠ l := fun q => by
        subst q
        have h1 := List.getElem?_eq_some_iff.mp e1
        have h2 := List.getElem?_eq_some_iff.mp hn
        exact hm ((List.getElem_inj ck.nd).mp (h1.2.trans h2.2.symm))
      rw [upd_ne ne]
      exact h
theorem Ok.setCell (o : Ok T.M N p env s σ H) {n : Nat} {l : Addr} {ds : List D} {vs : List V} (hn : p.cs[n]? = some l) (r : RepL T.M p H ds vs) : Ok T.M N p env (s.set n (.lst ds)) σ (L2.upd H l (.lst vs)) := by
  have hm := List.mem_of_getElem? hn
  have hF : ¬ p.F l := o.cells.ap l hm
  have w : WStep p H p (L2.upd H l (.lst vs)) := WStep.upd hF
  refine ⟨⟨o.st.fx, o.st.nw, fun x ob h hc => ?_, o.st.cs, fun x h => ?_⟩, o.cells.setCell hn r, o.len, fun i sl e => ?_, o.fresh, o.dist⟩
  · have ne : x ≠ l := fun q => by
      subst q
      obtain ⟨mo, e, hmo⟩ := o.st.cs
      rw [e] at hm
      rcases List.mem_append.mp hm with w1 | w1
      · exact hc w1
      · rw [hmo x w1] at h; cases h
    rw [upd_ne ne]
    exact o.st.kp x ob h hc
  · by_cases e : x = l
    · subst e; rw [upd_same]; simp
    · rw [upd_ne e]; exact o.st.th x h
  · obtain ⟨v, e1, rr⟩ := o.slot i sl e
    refine ⟨v, e1, ?_⟩
    have own : (∃ b, v = some (.ref b) ∧ ¬ p.F b ∧ b ∉ p.cs ∧ OwnR T.M p H b sl) → ∃ b, v = some (.ref b) ∧ ¬ p.F b ∧ b ∉ p.cs ∧ OwnR T.M p (L2.upd H l (.lst vs)) b sl := by
      rintro ⟨b, e2, h1, h2, h3⟩
      have ne : b ≠ l := fun q => h2 (q ▸ hm)
      exact ⟨b, e2, h1, h2, h3.wstep w fun o' h => by rw [upd_ne ne]; exact h⟩
    cases sl with
    | und => trivial
    | val d =>
      obtain ⟨u, e2, r2⟩ := rr
      exact ⟨u, e2, r2.wstep w⟩
    | own ds => exact own rr
    | owd ks => exact own rr
theorem setAt_rep {M : Md} {ds ys : List D} {vs : List V} {k : Int} {d : D} {v : V} (r : RepL M p H ds vs) (rd : Rep M p H d v) (h : setAt ds k d = some ys) : ∃ j, ixN vs.length k = some j ∧ RepL M p H ys (vs.set j v) := by
  unfold setAt at h
  rw [r.length] at h
  cases q : ixN vs.length k with
  | none => rw [q] at h; cases h
  | some j =>
    rw [q] at h
    cases h
    exact ⟨j, rfl, r.set j rd⟩
theorem pgA_sub (h1 : PE X a (tE T N W RepB x)) (h2 : PE X b (tE T N W RepB y)) (hg : PG X e (gSub (tE T N W RepB x) (tE T N W RepB y) rSetL)) : PG X e (gA T N W (.sub x y)) := hg.imp fun v σ H Q ⟨p, env, s, d, Dn, o, r, e1, h⟩ => by
  unfold evAt at h
  subst e1
  refine ⟨p, env, s, o, (RgS.expr (RepB T.M) o h).imp fun u H1 ⟨p1, d1, s1, o1, st1, r1, h1⟩ => ⟨p1, env, s1, o1, (RgS.expr (RepB T.M) o1 h1).imp fun w H2 ⟨p2, d2, s2, o2, st2, r2, h2⟩ => ?_⟩⟩
  have r1' := r1.step st2 o1.cells.ap
  have rd := (r.step st1 o.cells.ap).step st2 o1.cells.ap
  cases d1 with
  | ref n =>
    cases d2 with
    | int k =>
      cases r1'.flat rfl with
      | ref hc =>
        simp only at h2
        split at h2
        · rename_i xs q
          split at h2
          · rename_i ys q2
            obtain ⟨vs, c1, c2⟩ := o2.cells.at_ n _ _ hc q
            obtain ⟨j, e3, r4⟩ := setAt_rep c2 rd q2
            exact ⟨_, vs, k, j, rfl, r2.int, c1, e3, h2 σ p2 _ (o2.setCell hc r4) (WStep.upd (o2.cells.ap _ (List.mem_of_getElem? hc)))⟩
          · exact h2.elim
        · exact h2.elim
    | _ => exact h2.elim
  | _ => cases d2 <;> exact h2.elim
theorem pgsA_nil : PGs X [] (gAs T N W []) := pgs_nil.imp fun vs σ H Q ⟨p, env, s, ds, Dn, o, r, e1, h⟩ => by
  subst e1
  cases r with
  | nil => unfold evAts at h; exact ⟨rfl, h σ p H o (WStep.refl _ _)⟩
  | cons _ _ => unfold evAts at h; exact h.elim
theorem pgsA_cons {t : At} {ts : List At} (h1 : PG X e (gA T N W t)) (h2 : PGs X es (gAs T N W ts)) (hs : (assignEach (e :: es) X.env).map (·.2) = assign e X.env :: (assignEach es X.env).map (·.2)) : PGs X (e :: es) (gAs T N W (t :: ts)) := (pgs_cons h1 h2 hs).imp fun vs σ H Q ⟨p, env, s, ds, Dn, o, r, e1, h⟩ => by
  subst e1
  cases r with
  | nil => unfold evAts at h; exact h.elim
  | @cons d v ds vs' ra rb =>
    unfold evAts at h
    refine ⟨v, vs', rfl, p, env, s, d, { nx := fun σ' H' => gAs T N W ts vs' σ' H' Dn.nx, rt := Dn.rt, bk := Dn.bk, ct := Dn.ct }, o, ra, rfl, ?_⟩
    cases q : evAt T.G T.call T.mkc t d env s with
    | nxt env1 s1 =>
      rw [q] at h
      intro σ1 p1 H1 o1 w1
      exact ⟨p1, env1, s1, ds, Dn, o1, rb.wstep w1, rfl, RgS.step w1 h⟩
    | brk env1 s1 => rw [q] at h; exact h
    | cnt env1 s1 => rw [q] at h; exact h
    | ret d s1 => rw [q] at h; exact h
    | exc y env1 s1 => rw [q] at h; exact h
    | stk => rw [q] at h; exact h
theorem pgA_tup {ts : List At} {k : Nat} (hc : X.calm = true) (h : PGs X es (gAs T N W ts)) (hn : (assignEach es X.env).length = ts.length) (hst : (assignEach es X.env).findIdx? (·.1) = none) : PG X (.Tuple es k pos) (gA T N W (.tup ts)) := (pg_tup hc h hn hst).imp fun v σ H Q ⟨p, env, s, d, Dn, o, r, e1, h⟩ => by
  subst e1
  unfold evAt at h
  cases r with
  | tup h1 h2 h3 =>
    simp only at h
    split at h
    · rename_i hl
      exact ⟨_, _, rfl, .inl (.inl h2), by rw [← h3.length]; exact hl, p, env, s, _, Dn, o, h3, rfl, h⟩
    · exact h.elim
  | _ => exact h.elim
theorem snd_asg {t : At} {tg : Expr} (ha : PE X a (tE T N W Rep x)) (hg : PG X tg (gA T N W t)) (hs : swapsWithSole [tg] a pos.line X.env = pure false) (hw : swappedStores [tg] a X.env = pure none) (h1 : (assignEach [tg] X.env).map (·.2) = [assign tg X.env]) : PS X (.Assign [tg] a pos) (tSt T N W (.asg t x)) := (ps_asg ha hg hs hw h1).imp fun Dn σ H ⟨p, env, s, o, h⟩ => by
  unfold evS at h
  refine ⟨p, env, s, o, (RgS.expr (Rep T.M) o h).imp fun v H1 ⟨p1, d1, s1, o1, st1, r1, h1⟩ => ?_⟩
  exact ⟨p1, env, s1, d1, Dn, o1, r1, rfl, h1⟩
/-! ### a name's own list is changed -/
theorem Ok.setOwnAt (o : Ok T.M N p env s σ H) {i : Nat} {ds ds' : List D} {vs' : List V} {l : Addr} (e : env[i]? = some (.own ds)) (e1 : σ[i]? = some (some (.ref l))) (r : RepL T.M p H ds' vs') : Ok T.M N p (env.set i (.own ds')) s σ (L2.upd H l (.lst vs')) := by
  obtain ⟨hs, hF, hc, _⟩ := o.own_some e rfl e1
  have hi := (List.getElem?_eq_some_iff.mp e).1
  have w : WStep p H p (L2.upd H l (.lst vs')) := WStep.upd hF
  have o1 : Ok T.M N p (env.set i .und) s (σ.set i none) (L2.upd H l (.lst vs')) := (o.setUnd i).updFree hF hc (o.fresh i _ l e rfl e1) fun j x q hx q2 => by
    rcases list_getset q with ⟨rfl, rfl⟩ | ⟨hj, q⟩
    · cases hx
    · rw [List.getElem?_set_ne (Ne.symm hj)] at q2
      exact hj (o.dist j i x _ l q e hx rfl q2 e1)
  have o2 := Ok.setOwn (i := i) (sl := .own ds') (l := l) o1 (by rw [List.length_set]; exact hi) rfl (o.fresh i _ l e rfl e1) hF hc ⟨vs', upd_same, r.wstep w⟩ fun j x hj q hx q2 => by
    rw [List.getElem?_set_ne (Ne.symm hj)] at q q2
    exact hj (o.dist j i x _ l q e hx rfl q2 e1)
  rw [List.set_set, List.set_set] at o2
  have es : σ.set i (some (.ref l)) = σ := by
    apply List.ext_getElem?
    intro j
    by_cases hj : j = i
    · subst hj; rw [List.getElem?_set_self (List.getElem?_eq_some_iff.mp e1).1, e1]
    · rw [List.getElem?_set_ne (Ne.symm hj)]
  rw [es] at o2
  exact o2
theorem own_at (o : Ok T.M N p env s σ H) {i : Nat} {ds : List D} (e : env[i]? = some (.own ds)) : ∃ l vs, σ[i]? = some (some (.ref l)) ∧ H l = some (.lst vs) ∧ RepL T.M p H ds vs ∧ ¬ p.F l := by
  obtain ⟨v, e1, l, rfl, hF, hc, vs, h1, h2⟩ := o.slot i _ e
  exact ⟨l, vs, e1, h1, h2, hF⟩
theorem snd_app {i : Nat} {n : Str} {pn ap : Pos} (g : Good T c X) (hv : varB c i n = true) (hl : (ap.endLine == p0.line) = true) (hs : noStar e = true) (he : PE X e (tE T N W Rep x)) :
    PS X (.Expr (.Call (.Attribute (.Name n pn) "append" ap) [e] [] p0) pos) (tSt T N W (.app i x)) := by
  have key := pe_bm (X := X) (cpos := p0) (apos := ap) PySem.F.plainAttrs_list PySem.F.slot_list_append PySem.F.type_list_append mt_append (pe_slot (pos := pn) g hv) (pa_cons he pa_nil (star_cons hs)) rfl (by
    rw [star_one hs]
    rfl) hl (star_cons hs) rfl
  refine (ps_expr key).imp fun Dn σ H ⟨p, env, s, o, h⟩ => ?_
  unfold evS at h
  split at h
  · rename_i xs q
    obtain ⟨l, vs, e1, hH, rr, hF⟩ := own_at o q
    refine ⟨.ref l, e1, .inl ⟨rfl, vs, .inl (.inl hH)⟩, p, env, s, o, (RgS.expr (Rep T.M) o h).imp fun v H1 ⟨p1, d1, s1, o1, st1, r1, h1⟩ => ?_⟩
    split at h1
    · rename_i hz
      obtain ⟨l2, vs2, e2, hH2, rr2, hF2⟩ := own_at o1 q
      rw [e1] at e2
      cases e2
      refine ⟨l, vs2, v, rfl, rfl, hH2, ?_, h1 σ p1 _ (o1.setOwnAt q e1 (rr2.append (.cons r1 .nil))) (WStep.upd hF2)⟩
      have := okL_le hz
      rw [← rr2.length]
      omega
    · exact h1.elim
  · exact h.elim
theorem snd_seti {i : Nat} {n : Str} {pn pt : Pos} (g : Good T c X) (hv : varB c i n = true) (ha : PE X a (tE T N W Rep x)) (hb : PE X b (tE T N W RepB y)) (hsw : swapsWithSole [.Subscript (.Name n pn) b pt] a pos.line X.env = pure false) (hsw2 : swappedStores [.Subscript (.Name n pn) b pt] a X.env = pure none)
    (hg : PG X (.Subscript (.Name n pn) b pt) (gSub (tVar i) (tE T N W RepB y) rSetL)) : PS X (.Assign [.Subscript (.Name n pn) b pt] a pos) (tSt T N W (.seti i y x)) := by
  refine (ps_asg ha hg hsw hsw2).imp fun Dn σ H ⟨p, env, s, o, h⟩ => ?_
  unfold evS at h
  split at h
  · rename_i xs q
    refine ⟨p, env, s, o, (RgS.expr (Rep T.M) o h).imp fun v H1 ⟨p1, d1, s1, o1, st1, r1, h1⟩ => ?_⟩
    obtain ⟨l, vs, e1, hH, rr, hF⟩ := own_at o1 q
    refine ⟨.ref l, e1, p1, env, s1, o1, (RgS.expr (RepB T.M) o1 h1).imp fun u H2 ⟨p2, d2, s2, o2, st2, r2, h2⟩ => ?_⟩
    cases d2 with
    | int k =>
      simp only at h2
      split at h2
      · rename_i ys q2
        obtain ⟨l2, vs2, e2, hH2, rr2, hF2⟩ := own_at o2 q
        rw [e1] at e2
        cases e2
        obtain ⟨j, e3, r4⟩ := setAt_rep rr2 (r1.step st2 o1.cells.ap) q2
        exact ⟨l, vs2, k, j, rfl, r2.int, hH2, e3, h2 σ p2 _ (o2.setOwnAt q e1 r4) (WStep.upd hF2)⟩
      · exact h2.elim
    | _ => exact h2.elim
  · exact h.elim
theorem Ok.setOwdAt (o : Ok T.M N p env s σ H) {i : Nat} {ks ks' : List (Key × D)} {hs' : List (Key × V)} {l : Addr} (e : env[i]? = some (.owd ks)) (e1 : σ[i]? = some (some (.ref l))) (hk : hs'.map (·.1) = ks'.map (·.1)) (r : RepL T.M p H (ks'.map (·.2)) (hs'.map (·.2))) : Ok T.M N p (env.set i (.owd ks')) s σ (L2.upd H l (.dK hs')) := by
  obtain ⟨hs, hF, hc, _⟩ := o.own_some e rfl e1
  have hi := (List.getElem?_eq_some_iff.mp e).1
  have w : WStep p H p (L2.upd H l (.dK hs')) := WStep.upd hF
  have o1 : Ok T.M N p (env.set i .und) s (σ.set i none) (L2.upd H l (.dK hs')) := (o.setUnd i).updFree hF hc (o.fresh i _ l e rfl e1) fun j x q hx q2 => by
    rcases list_getset q with ⟨rfl, rfl⟩ | ⟨hj, q⟩
    · cases hx
    · rw [List.getElem?_set_ne (Ne.symm hj)] at q2
      exact hj (o.dist j i x _ l q e hx rfl q2 e1)
  have o2 := Ok.setOwn (i := i) (sl := .owd ks') (l := l) o1 (by rw [List.length_set]; exact hi) rfl (o.fresh i _ l e rfl e1) hF hc ⟨hs', upd_same, hk, r.wstep w⟩ fun j x hj q hx q2 => by
    rw [List.getElem?_set_ne (Ne.symm hj)] at q q2
    exact hj (o.dist j i x _ l q e hx rfl q2 e1)
  rw [List.set_set, List.set_set] at o2
  have es : σ.set i (some (.ref l)) = σ := by
    apply List.ext_getElem?
    intro j
    by_cases hj : j = i
    · subst hj; rw [List.getElem?_set_self (List.getElem?_eq_some_iff.mp e1).1, e1]
    · rw [List.getElem?_set_ne (Ne.symm hj)]
  rw [es] at o2
  exact o2
theorem owd_at (o : Ok T.M N p env s σ H) {i : Nat} {ks : List (Key × D)} (e : env[i]? = some (.owd ks)) : ∃ l hs, σ[i]? = some (some (.ref l)) ∧ H l = some (.dK hs) ∧ hs.map (·.1) = ks.map (·.1) ∧ RepL T.M p H (ks.map (·.2)) (hs.map (·.2)) ∧ ¬ p.F l := by
  obtain ⟨v, e1, l, rfl, hF, hc, hs, h1, h2, h3⟩ := o.slot i _ e
  exact ⟨l, hs, e1, h1, h2, h3, hF⟩
/-- d[k] = v of a name's own dict -/
theorem snd_setd {i : Nat} {n : Str} {pn pt : Pos} (g : Good T c X) (hv : varB c i n = true) (ha : PE X a (tE T N W Rep x)) (hb : PE X b (tE T N W RepB y)) (hsw : swapsWith a (some (.Subscript (.Name n pn) b pt)) pos.line X.env = pure false) : PS X (.Assign [.Subscript (.Name n pn) b pt] a pos) (tSt T N W (.setd i y x)) := by
  refine (ps_dput (by have := g.un; omega) (pe_slot g hv) hb ha hsw).imp fun Dn σ H ⟨p, env, s, o, h⟩ => ?_
  unfold evS at h
  split at h
  · rename_i ks q
    refine ⟨p, env, s, o, (RgS.expr (Rep T.M) o h).imp fun v H1 ⟨p1, d1, s1, o1, st1, r1, h1⟩ => ?_⟩
    obtain ⟨l, hs, e1, hH, _, _, hF⟩ := owd_at o1 q
    refine ⟨.ref l, e1, p1, env, s1, o1, (RgS.expr (RepB T.M) o1 h1).imp fun u H2 ⟨p2, d2, s2, o2, st2, r2, h2⟩ => ?_⟩
    split at h2
    · rename_i key q2
      split at h2
      · rename_i hl
        obtain ⟨l2, hs2, e2, hH2, hk2, rr2, hF2⟩ := owd_at o2 q
        rw [e1] at e2
        cases e2
        obtain ⟨z1, z2⟩ := dput_rep (k := key) (r1.step st2 o1.cells.ap) hk2 rr2
        have len : hs2.length = ks.length := by
          have := congrArg List.length hk2
          rw [List.length_map, List.length_map] at this
          exact this
        refine ⟨l, _, rfl, ?_, h2 σ p2 _ (o2.setOwdAt q e1 z1 z2) (WStep.upd hF2)⟩
        rw [key_rel r2 q2]
        exact DPut.k hH2 (by have := okL_le hl; omega)
      · exact h2.elim
    · exact h2.elim
  · exact h.elim
def augI : Operator → Int → Int → Int
  | .Sub => fun i j => i - j
  | _ => fun i j => i + j
theorem snd_aug {i : Nat} {n : Str} {pn : Pos} {o : Operator} (ho : o = .Add ∨ o = .Sub) (g : Good T c X) (hx : Loc X.env.scope n) (hf : X.fn n = true ∨ X.env.scope.names.lookup n = some .local) (hN : X.N[i]? = some n) (ha : PE X a (tE T N W Rep x)) :
    PS X (.AugAssign (.Name n pn) o a pos) (tSt T N W (.aug i o x)) := by
  have hop : PIp X o (ipI (augI o)) := by
    rcases ho with rfl | rfl
    · exact ip_add
    · exact ip_sub
  refine (ps_aug (by rw [g.N]; exact g.nd) hN hx ha hop hf).imp fun Dn σ H ⟨p, env, s, o1, h⟩ => ?_
  unfold evS at h
  split at h
  · rename_i d q
    obtain ⟨v, e1, u, rfl, ru⟩ := o1.slot i _ q
    refine ⟨u, e1, p, env, s, o1, (RgS.expr (Rep T.M) o1 h).imp fun w H1 ⟨p1, d1, s1, o2, st1, r1, h1⟩ => ?_⟩
    have ru1 := ru.step st1 o1.cells.ap
    split at h1
    · rename_i z q2
      unfold dAug at q2
      split at q2
      · cases q2
        cases ru1
        cases r1
        exact ⟨_, _, rfl, rfl, nxt_set o2 (.int _) h1⟩
      · cases q2
        cases ru1
        cases r1
        exact ⟨_, _, rfl, rfl, nxt_set o2 (.int _) h1⟩
      · cases q2
    · exact h1.elim
  · exact h.elim
/-! ### two names at once -/
/-- a value for a name: its own from now on, or one that stays -/
def RO (o : Bool) (M : Md) (H0 : Hp) (p : Rho) (H : Hp) (d : D) (v : V) : Prop := if o then RepF M H0 p H d v else Rep M p H d v
def tRO (T : Th) (N : En) (W : WX) (o : Bool) (x : E) : TE := fun σ H Q => ∃ p env s, Ok T.M N p env s σ H ∧ Rg T.M N W env σ (RO o T.M H) p H (ev T.G T.call T.mkc x env s) Q
theorem pe_ro {o : Bool} (hE : PE X a (tE T N W Rep x)) (hF : o = true → PE X a (tF T N W x)) : PE X a (tRO T N W o x) := by
  cases o with
  | true => exact (hF rfl).imp fun σ H Q h => h
  | false => exact hE.imp fun σ H Q h => h
theorem take_val {o : Bool} {i : Nat} {d : D} {v : V} {env2 : Env} {H0 : Hp} {p0 : Rho} {s0 : Sto} (o0 : Ok T.M N p0 env s0 σ H0) (k : Ok T.M N p env s σ H) (r : RO o T.M H0 p H d v) (h : setD o env i d = some env2) : Ok T.M N p env2 s (σ.set i (some v)) H := by
  unfold setD at h
  unfold RO at r
  cases o with
  | false =>
    rw [if_neg Bool.false_ne_true] at h r
    unfold setV at h
    split at h
    · rename_i hi
      cases h
      exact k.setVal hi r
    · cases h
  | true =>
    rw [if_pos rfl] at h r
    cases q : ownOf d with
    | none => rw [q] at h; cases h
    | some sl =>
      rw [q] at h
      have h : setV env i sl = some env2 := h
      unfold setV at h
      split at h
      · rename_i hi
        cases h
        obtain ⟨l, _, o2⟩ := Ok.setFresh o0 k hi q r
        exact o2
      · cases h
theorem snd_par {i j : Nat} {oi oj : Bool} {n m : Str} {px py pt : Pos} {kt k2 : Nat} {pt2 : Pos} (g : Good T c X) (hi : X.N[i]? = some n) (hj : X.N[j]? = some m) (hij : i ≠ j) (hx : X.env.scope.names.lookup n = some .local) (hy : X.env.scope.names.lookup m = some .local)
    (hs : noStar a = true) (hs2 : noStar b = true) (ha : PE X a (tRO T N W oi x)) (hb : PE X b (tRO T N W oj y))
    (hw : swappedStores [.Tuple [.Name n px, .Name m py] kt pt] (.Tuple [a, b] k2 pt2) X.env = pure (some [n, m])) :
    PS X (.Assign [.Tuple [.Name n px, .Name m py] kt pt] (.Tuple [a, b] k2 pt2) pos) (tSt T N W (.par i j x y oi oj)) := by
  refine (ps_par g.calm (by rw [g.N]; exact g.nd) hi hj hij hx hy (pa_cons ha (pa_cons hb pa_nil (star_cons hs2)) (star_cons hs)) hw).imp fun Dn σ H ⟨p, env, s, o, h⟩ => ?_
  unfold evS at h
  refine ⟨p, env, s, o, (RgS.expr (RO oi T.M H) o h).imp fun v H1 ⟨p1, d1, s1, o1, st1, r1, h1⟩ => ⟨p1, env, s1, o1, (RgS.expr (RO oj T.M H1) o1 h1).imp fun w H2 ⟨p2, d2, s2, o2, st2, r2, h2⟩ => ?_⟩⟩
  refine ⟨v, w, rfl, ?_⟩
  cases q : setD oi env i d1 with
  | none => rw [q] at h2; exact h2.elim
  | some env1 =>
    rw [q] at h2
    have h2 : RgS T N W p2 H2 (nxtO (setD oj env1 j d2) s2) Dn := h2
    cases q2 : setD oj env1 j d2 with
    | none => rw [q2] at h2; exact h2.elim
    | some env2 =>
      rw [q2] at h2
      have o1' := take_val o o1 r1 q
      have o2' := o1'.step st2 o2.cells
      have o3 := take_val o1' o2' r2 q2
      exact h2 _ p2 H2 o3 (WStep.refl _ _)
/-- a try whose body raises nothing -/
theorem thru_read {bd : Ss} {h0 : ExceptHandler} {hs : List ExceptHandler} {sts : List Stmt} (hb : PSs X.nox sts (tSs T N W0 bd)) : PS X (.Try sts (h0 :: hs) [] [] pos) (tSt T N W (.thru bd)) := (ps_try_thru0 hb).imp fun Dn σ H ⟨p, env, s, o, h⟩ => by
  unfold evS at h
  refine ⟨p, env, s, o, ?_⟩
  cases q : evSs T.G T.call T.mkc bd env s with
  | exc y env1 s1 => rw [q] at h; exact h.elim
  | nxt env1 s1 => rw [q] at h; exact h
  | brk env1 s1 => rw [q] at h; exact h
  | cnt env1 s1 => rw [q] at h; exact h
  | ret d s1 => rw [q] at h; exact h
  | stk => rw [q] at h; exact h
end
end Lv
set_option Elab.async false
set_option linter.all false
set_option maxRecDepth 100000
set_option maxHeartbeats 4000000
/-! Lv12i: instances: isinstance, attributes, methods, making, storing. -/
namespace Lv
open PySem PySem.Spec PyProof.Rows L2
def tyV (M : Md) : Ty → V
  | .cls k => .ref (M.cA k)
  | t => .ty (tyNm t)
def tyU (M : Md) : Ty → Value
  | .cls k => .ref (M.cA k)
  | t => .type (tyNm t)
theorem tyV_U (M : Md) (t : Ty) : ClsV (tyV M t) (tyU M t) ∧ RelV (tyV M t) (tyU M t) := by
  cases t <;> first | exact ⟨.ty _, rfl⟩ | exact ⟨.own _, rfl⟩
/-- a class's name -/
def tyB (C : Tc) (c : Sx) (t : Ty) (n : Str) : Bool := glB c n && (match t with
  | .cls k => decide (C.cls[k]? = some n)
  | t => decide (n = Str.ofString (tyNm t)) && C.fr.contains n)
def bTys : List Ty := [.int, .bool, .str, .tuple, .list]
theorem kit_all : (allNm.all fun n => bTys.all fun t => decide (kitB n (tyNm t) = some (subT n t))) = true := by decide +kernel
theorem boot_tys : (bTys.all fun t => decide (bootBuiltins (Str.ofString (tyNm t)) = some (.type (tyNm t)) ∧ Str.ofString (tyNm t) ≠ "__name__")) = true := by decide +kernel
theorem mem_bTys {t : Ty} (h : ∀ k, t ≠ .cls k) : t ∈ bTys := by
  cases t with
  | cls k => exact absurd rfl (h k)
  | _ => decide
section
variable {T : Th} {c : Sx} {N : En} {W : WX} {X : Cx} {a b e : Expr} {es : List Expr} {x y z : E} {xs : Es} {pos p0 p1 : Pos} {p p' : Rho} {H H' : Hp} {env : Env} {s : Sto} {σ : L2.St}
theorem pe_ty (g : Good T c X) {t : Ty} {n : Str} (h : tyB T.C c t n = true) : PE X (.Name n pos) (tC (tyV T.M t)) := by
  unfold tyB at h
  rw [Bool.and_eq_true] at h
  obtain ⟨g1, g2⟩ := gl_of g h.1
  by_cases q : ∃ k, t = .cls k
  · obtain ⟨k, rfl⟩ := q
    exact pe_glob g1 (g.th.cls k n (of_decide_eq_true h.2)).1 (tyV_U _ _).2 g2
  · have hm : t ∈ bTys := mem_bTys fun k e => q ⟨k, e⟩
    have h2 : n = Str.ofString (tyNm t) ∧ T.C.fr.contains n = true := by
      cases t with
      | cls k => exact absurd ⟨k, rfl⟩ q
      | _ =>
        have := h.2
        simp only [Bool.and_eq_true, decide_eq_true_eq] at this
        exact this
    have bt := of_decide_eq_true (List.all_eq_true.mp boot_tys t hm)
    obtain ⟨rfl, h4⟩ := h2
    have hu : tyU T.M t = .type (tyNm t) := by
      cases t with
      | cls k => exact absurd ⟨k, rfl⟩ q
      | _ => rfl
    exact pe_bltn g1 (g.th.free _ h4) (by rw [hu]; exact bt.1) (tyV_U _ _).2 bt.2 g2
theorem kit_base (th : ThOk T X.prog X.w X.K X.mg X.base) {n : String} {t : Ty} (hn : n ∈ allNm) (ok : tyOk T.G.ncl t = true) : PySem.W.kitOne X.K (.type n) (tyU T.M t) = some (subT n t) := by
  by_cases q : ∃ k, t = .cls k
  · obtain ⟨k, rfl⟩ := q
    exact (th.isT k (of_decide_eq_true ok) n hn).1
  · have hm : t ∈ bTys := mem_bTys fun k e => q ⟨k, e⟩
    have k1 := of_decide_eq_true (List.all_eq_true.mp (List.all_eq_true.mp kit_all n hn) t hm)
    cases t with
    | cls k => exact absurd ⟨k, rfl⟩ q
    | _ => exact kit_ty k1
theorem nm_mem {d : D} {n : String} (h : nmOf d = some n) : n ∈ allNm := by
  cases d <;> cases h <;> decide
/-- a value's type and the test's answer -/
theorem isi_ok (th : ThOk T X.prog X.w X.K X.mg X.base) (ck : CellsOk T.M p H s) {t : Ty} {d : D} {v : V} {b : Bool} (r : RepB T.M p H d v) (h : dIsi T.G.ncl t s d = some b) : ∃ tv, TyX X.K H v tv ∧ PySem.W.kitOne X.K tv (tyU T.M t) = some b := by
  unfold dIsi at h
  split at h
  · rename_i ok
    have base : ∀ {n : String} {tv : Value}, nmOf d = some n → (nmOf d).map (subT · t) = some b → tv = .type n → TyX X.K H v tv → ∃ tv, TyX X.K H v tv ∧ PySem.W.kitOne X.K tv (tyU T.M t) = some b := by
      intro n tv e1 e2 e3 ty
      rw [e1] at e2
      cases e2
      subst e3
      exact ⟨_, ty, kit_base th (nm_mem e1) ok⟩
    cases d with
    | non => cases r.flat rfl; exact base rfl h rfl (.base .non)
    | bl b => cases r.flat rfl; exact base rfl h rfl (.base (.bl _))
    | int i => cases r.int; exact base rfl h rfl (.base (.int _))
    | str z => cases r.str; exact base rfl h rfl (.base (.str _))
    | tup ds =>
      obtain ⟨a, vs, rfl, h1, h2⟩ := r.tup
      exact base rfl h rfl (.base (.tup h1))
    | lst ds =>
      obtain ⟨a, vs, rfl, h1, h2⟩ := r.lst
      exact base rfl h rfl (.base (.lst h1))
    | dic ks =>
      obtain ⟨a, hs, rfl, h1, h2⟩ := r.dic
      exact base rfl h rfl (.base (.dK h1))
    | scr ns =>
      obtain ⟨a, rfl, h1⟩ := r.scr
      rw [th.kk] at h1
      rcases h1 with (h1 | ⟨o, h1⟩) | ⟨o, its, n, h1, h2, _⟩
      · exact base rfl h rfl (.base (.lst h1))
      · exact base rfl h rfl (.base (.frz h1))
      · exact base rfl h rfl (.kList h1 h2)
    | obj k fs => cases h
    | ref n =>
      cases r.flat rfl with
      | @ref a _ hc =>
        simp only at h
        cases q : s[n]? with
        | none => rw [q] at h; cases h
        | some cl =>
          rw [q] at h
          have cr := ck.at_ n a cl hc q
          cases cl with
          | lst ds =>
            obtain ⟨vs, h1, _⟩ := cr
            cases h
            exact ⟨_, .base (.lst h1), kit_base th (n := "list") (by decide) ok⟩
          | ins k fs =>
            obtain ⟨dx, hs, h1, _, _⟩ := cr
            simp only at h
            split at h
            · rename_i hk
              cases h
              obtain ⟨nm, hnm⟩ : ∃ nm, T.C.cls[k]? = some nm := by
                rw [← th.cln] at hk
                exact ⟨_, List.getElem?_eq_getElem hk⟩
              obtain ⟨_, co⟩ := th.cls k nm hnm
              refine ⟨_, .base (.ins h1 co.cl co.ha co.hn co.ht co.hm), ?_⟩
              by_cases q2 : ∃ j, t = .cls j
              · obtain ⟨j, rfl⟩ := q2
                have e := th.isC k j hk (of_decide_eq_true ok)
                show PySem.W.kitOne X.K _ (.ref (T.M.cA j)) = _
                rw [e]
                congr 1
                apply decide_eq_decide.mpr
                exact ⟨fun e => by rw [e], fun e => by cases e; rfl⟩
              · have hm : t ∈ bTys := mem_bTys fun k e => q2 ⟨k, e⟩
                have e0 : decide (t = .cls k) = false := decide_eq_false fun e => q2 ⟨k, e⟩
                rw [e0]
                have tn : tyNm t ∈ allNm ∧ tyU T.M t = .type (tyNm t) := by
                  cases t with
                  | cls k => exact absurd ⟨k, rfl⟩ q2
                  | _ => exact ⟨by decide, rfl⟩
                rw [tn.2]
                exact (th.isT k hk _ tn.1).2
            · cases h
  · cases h
theorem snd_isi (g : Good T c X) {t : Ty} {n : Str} (hf : T.C.fr.contains "isinstance" = true) (hg : glB c "isinstance" = true) (ht : tyB T.C c t n = true) (ha : PE X e (tE T N W RepB x)) (hs : noStar e = true) :
    PE X (.Call (.Name "isinstance" p0) [e, .Name n p1] [] pos) (tE T N W Rep (.isi x t)) := by
  obtain ⟨g1, g2⟩ := gl_of g hg
  have key : PE X (.Call (.Name "isinstance" p0) [e, .Name n p1] [] pos) (tCB (rIsi X.K) (tCons (tE T N W RepB x) (tCons (tC (tyV T.M t)) tNil))) :=
    pe_callB call_isi g1 (g.th.free _ hf) (by decide +kernel) (pa_cons ha (pa_cons (pe_ty g ht) pa_nil) (star_cons hs)) (by decide) g2 (star_cons hs)
  refine key.imp fun σ H Q ⟨p, env, s, o, h⟩ => ?_
  unfold ev at h
  refine ⟨p, env, s, o, (h.seq (RepB T.M)).imp fun v H1 ⟨p1, d1, s1, o1, st1, r1, h1⟩ => ?_⟩
  obtain ⟨b, e, q⟩ := rg_bl h1 o1
  obtain ⟨tv, ty, k⟩ := isi_ok g.th o1.cells r1 e
  exact ⟨v, tyV T.M t, tv, tyU T.M t, b, rfl, (tyV_U _ _).1, ty, k, q⟩
/-! ### instances -/
theorem ins_of {d : D} {v : V} {n k : Nat} {fs : List (Str × D)} (ck : CellsOk T.M p H s) (r : Rep T.M p H d v) (h : insOf s d = some (n, k, fs)) :
    d = .ref n ∧ ∃ a dx hs, v = .ref a ∧ p.cs[n]? = some a ∧ H a = some (.ins (T.M.cA k) dx hs) ∧ hs.map (·.1) = fs.map (·.1) ∧ RepL T.M p H (fs.map (·.2)) (hs.map (·.2)) := by
  cases d with
  | ref m =>
    unfold insOf at h
    dsimp only at h
    cases q : s[m]? with
    | none => rw [q] at h; cases h
    | some cl =>
      rw [q] at h
      cases cl with
      | lst ds => cases h
      | ins k' fs' =>
        cases h
        cases r with
        | @ref a _ hc =>
          obtain ⟨dx, hs, h1, h2, h3⟩ := ck.at_ n a _ hc q
          exact ⟨rfl, a, dx, hs, rfl, hc, h1, h2, h3⟩
  | _ => cases h
theorem fld_some {M : Md} {f : Str} {d : D} : ∀ {fs : List (Str × D)} {hs : List (Str × V)}, hs.map (·.1) = fs.map (·.1) → RepL M p H (fs.map (·.2)) (hs.map (·.2)) → fs.lookup f = some d → ∃ v, hs.lookup f = some v ∧ Rep M p H d v
  | [], hs, _, _, h => by cases h
  | (g, x) :: fs, [], e, _, _ => by cases e
  | (g, x) :: fs, (g2, y) :: hs, e, r, h => by
    simp only [List.map_cons, List.cons.injEq] at e
    obtain ⟨rfl, e⟩ := e
    cases r with
    | cons r1 r2 =>
      by_cases q : (f == g2) = true
      · simp only [List.lookup, q] at h ⊢
        cases h
        exact ⟨y, rfl, r1⟩
      · have q : (f == g2) = false := by cases k : f == g2 <;> first | rfl | exact absurd k q
        simp only [List.lookup, q] at h ⊢
        exact fld_some e r2 h
theorem fld_none {f : Str} : ∀ {fs : List (Str × D)} {hs : List (Str × V)}, hs.map (·.1) = fs.map (·.1) → fs.lookup f = none → hs.lookup f = none
  | [], [], _, _ => rfl
  | [], _ :: _, e, _ => by cases e
  | _ :: _, [], e, _ => by cases e
  | (g, x) :: fs, (g2, y) :: hs, e, h => by
    simp only [List.map_cons, List.cons.injEq] at e
    obtain ⟨rfl, e⟩ := e
    by_cases q : (f == g2) = true
    · simp only [List.lookup, q] at h
      cases h
    · have q : (f == g2) = false := by cases k : f == g2 <;> first | rfl | exact absurd k q
      simp only [List.lookup, q] at h ⊢
      exact fld_none e h
theorem put_rep {M : Md} {f : Str} {d : D} {v : V} (rd : Rep M p H d v) : ∀ {fs : List (Str × D)} {hs : List (Str × V)}, hs.map (·.1) = fs.map (·.1) → RepL M p H (fs.map (·.2)) (hs.map (·.2)) →
    (putF f v hs).map (·.1) = (putD f d fs).map (·.1) ∧ RepL M p H ((putD f d fs).map (·.2)) ((putF f v hs).map (·.2))
  | [], [], _, _ => ⟨rfl, .cons rd .nil⟩
  | [], _ :: _, e, _ => by cases e
  | _ :: _, [], e, _ => by cases e
  | (g, x) :: fs, (g2, y) :: hs, e, r => by
    simp only [List.map_cons, List.cons.injEq] at e
    obtain ⟨rfl, e⟩ := e
    cases r with
    | cons r1 r2 =>
      have e1 : putF f v ((g2, y) :: hs) = if g2 = f then (g2, v) :: hs else (g2, y) :: putF f v hs := rfl
      have e2 : putD f d ((g2, x) :: fs) = if g2 = f then (g2, d) :: fs else (g2, x) :: putD f d fs := rfl
      rw [e1, e2]
      by_cases q : g2 = f
      · rw [if_pos q, if_pos q]
        exact ⟨by simp [e], .cons rd r2⟩
      · rw [if_neg q, if_neg q]
        obtain ⟨i1, i2⟩ := put_rep rd e r2
        exact ⟨by simp [i1], .cons r1 i2⟩
/-- a property's getter runs -/
theorem getprop_g {k : Nat} {C pr ga a dx : Addr} {fs : List (Str × V)} {f : Str} {fd : FuncData} {ps : List Str} {sp : Sp} {pins : List (Addr × Obj)} {sh : Shared} {Q : VK} {bb : Bool} {E' : Value → Shared → Prop}
    (I : Inv X pins σ H sh) (ea : H a = some (.ins C dx fs)) (cl : Cls X.K C) (hp : PropOf X.K C f pr ga) (F : FnG X.prog X.w X.K X.mg X.base k ga fd ps sp) (rm : Room (k + 1) X.A) (gd : X.A.guards = some []) (bd : Binds X.K fd ps [])
    (h : sp [.ref a] H Q E0) : wpAny (model X.prog X.w) X.A (getAttr (.ref a) f bb) (EP X pins σ Q) E' sh := by
  obtain ⟨mA, O, _⟩ := ins_get I.hok ea
  obtain ⟨od, J, _⟩ := O.look
  obtain ⟨rest, rec⟩ := hp.rec_
  have It := I.tok (sh.toks + 1)
  have ln : ([Value.ref a] ++ []).length = ps.length := (F.len _ _ _ _ h)
  have isc : (PySem.W.clsIn X.K C).isSome = true := by
    obtain ⟨cd, e, _⟩ := PySem.W.any_some cl.hd
    rw [e]; rfl
  have pg := PySem.W.plainGet_of (cl.get f)
  refine PySem.W.get_bind I.kIn J pg.1 (PySem.W.findObj_data isc hp.at_ hp.get hp.tak) pg.2 (wpAny_call (PySem.W.prop_get (s := { sh with toks := sh.toks + 1 }) I.kIn rec ?_))
  refine codeAny_mono (F.run X.A.in1 X.stack _ H ⟨[.ref a], []⟩ ([Value.ref a] ++ []) [.ref a] Q E0 rm.in1 gd It.env0.in1 (bd _ [Value.ref a] It.kIn ln) (show Vals [V.ref a] [Value.ref a] from .cons rfl .nil) h) ?_
  intro r s2 hq
  match r, hq with
  | .error er, hq =>
    obtain ⟨_, _, _, _, _, _, _, _, _, _, _, _, q⟩ := hq
    exact q.elim
  | .ok (.ret u), hq =>
    obtain ⟨v, H2, I3, rv, q3⟩ := It.after hq
    show wpAny _ _ (handedOut u) _ _ _
    rw [PySem.W.handedOut_of (handed_of rv)]
    exact wpAny_pure ⟨v, H2, I3, rv, q3⟩
theorem Rg.noX {M : Md} {rel : Rho → Hp → D → V → Prop} {r : R D} {Q : VK} (h : Rg M N W env σ rel p H r.noX Q) : Rg M N W0 env σ rel p H r Q := by
  cases r with
  | ok d s => exact h
  | exc y s => exact h.elim
  | stk => exact h.elim
theorem snd_att (g : Good T c X) {f : Str} (hb : notCall e = true) (ha : PE X e (tE T N W Rep x)) : PE X (.Attribute e f pos) (tE T N W Rep (.att x f)) := by
  refine ⟨fun pins sh σ H Q I hr => ?_⟩
  obtain ⟨p, env, s, o, h⟩ := hr
  unfold ev at h
  refine attr_of (base_of' hb) (thn (ha.run pins sh σ H _ I ⟨p, env, s, o, h.seq (Rep T.M)⟩) ?_)
  rintro u s2 ⟨v, H1, I1, rv, p1, d1, s1, o1, st1, r1, h1⟩
  cases q : insOf s1 d1 with
  | none => rw [q] at h1; exact h1.elim
  | some t =>
    obtain ⟨n, k, fs⟩ := t
    rw [q] at h1
    obtain ⟨rfl, a, dx, hs, rfl, hc, hH, hk, hv⟩ := ins_of o1.cells r1 q
    cases (show u = Value.ref a from rv)
    simp only at h1
    cases q2 : T.G.att k f with
    | none => rw [q2] at h1; exact h1.elim
    | some at_ =>
      rw [q2] at h1
      cases at_ with
      | fld =>
        obtain ⟨cl, na⟩ := g.th.att k f q2
        obtain ⟨d2, hd, hg⟩ := h1.lift
        obtain ⟨w, e1, rw1⟩ := fld_some hk hv hd
        exact getattr_ok I1 hH cl na e1 fun u' s3 I2 ru => ⟨w, H1, I2, ru, hg.done o1 rw1⟩
      | prop fn =>
        obtain ⟨cl, pr, ga, fd, ps, hp, hl, bd, F⟩ := g.th.prop k f fn q2
        refine getprop_g I1 hH cl hp F (g.room.mono (by omega)) g.gd bd ?_
        have z := rg_sp (cf := T.call fn) (n := ps.length) o1 (RepL.cons r1 .nil) (by rw [hl]; rfl) (Rg.noX h1)
        exact z
/-! ### making -/
theorem CellsOk.more {M : Md} (ck : CellsOk M p H s) {x dx : Addr} {k : Nat} (hx : H x = none) (hd : H dx = none) (ne : dx ≠ x) :
    CellsOk M { p with cs := p.cs ++ [x] } (L2.upd (L2.upd H dx (.own x)) x (.ins (M.cA k) dx [])) (s ++ [.ins k []]) ∧ Step p H { p with cs := p.cs ++ [x] } (L2.upd (L2.upd H dx (.own x)) x (.ins (M.cA k) dx [])) := by
  have st : Step p H { p with cs := p.cs ++ [x] } (L2.upd (L2.upd H dx (.own x)) x (.ins (M.cA k) dx [])) := by
    have keep : ∀ b o, H b = some o → L2.upd (L2.upd H dx (.own x)) x (.ins (M.cA k) dx []) b = some o := fun b o e => by
      rw [upd_ne (ne_of_none e hx), upd_ne (ne_of_none e hd)]
      exact e
    refine ⟨fun b h => h, fun b h => .inl h, fun b o e _ => keep b o e, ⟨[x], rfl, fun b hb => by rw [List.mem_singleton.mp hb]; exact hx⟩, fun b h => ?_⟩
    cases q : H b with
    | none => exact absurd q h
    | some o => rw [keep b o q]; simp
  have xc : x ∉ p.cs := fun h => by
    obtain ⟨i, e⟩ := List.getElem?_of_mem h
    have hi : i < s.length := by rw [← ck.len]; exact (List.getElem?_eq_some_iff.mp e).1
    have cr := ck.at_ i x _ e (List.getElem?_eq_getElem hi)
    cases q : s[i] with
    | lst ds => rw [q] at cr; obtain ⟨vs, h1, _⟩ := cr; rw [hx] at h1; cases h1
    | ins k fs => rw [q] at cr; obtain ⟨_, _, h1, _⟩ := cr; rw [hx] at h1; cases h1
  refine ⟨⟨?_, ?_, fun b hb hF => ?_, fun b hF => st.th b (ck.tr b hF), fun n b cl e1 e2 => ?_⟩, st⟩
  · show (p.cs ++ [x]).length = _
    rw [List.length_append, List.length_append, ck.len]
    rfl
  · show (p.cs ++ [x]).Nodup
    exact List.nodup_append.mpr ⟨ck.nd, by simp, fun u hu w hw e => by rw [List.mem_singleton.mp hw] at e; exact xc (e ▸ hu)⟩
  · rcases List.mem_append.mp (show b ∈ p.cs ++ [x] from hb) with h | h
    · exact ck.ap b h hF
    · rw [List.mem_singleton.mp h] at hF
      exact ck.tr x hF hx
  · have e1 : (p.cs ++ [x])[n]? = some b := e1
    by_cases hn : n < s.length
    · rw [List.getElem?_append_left (by rw [ck.len]; exact hn)] at e1
      rw [List.getElem?_append_left hn] at e2
      have cr := ck.at_ n b cl e1 e2
      cases cl with
      | lst ds =>
        obtain ⟨vs, h1, h2⟩ := cr
        refine ⟨vs, ?_, h2.step st ck.ap⟩
        rw [upd_ne (ne_of_none h1 hx), upd_ne (ne_of_none h1 hd)]
        exact h1
      | ins k fs =>
        obtain ⟨d2, hs, h1, h2, h3⟩ := cr
        refine ⟨d2, hs, ?_, h2, h3.step st ck.ap⟩
        rw [upd_ne (ne_of_none h1 hx), upd_ne (ne_of_none h1 hd)]
        exact h1
    · have e3 : n = s.length := by
        have := (List.getElem?_eq_some_iff.mp e2).1
        rw [List.length_append] at this
        simp at this
        omega
      subst e3
      rw [List.getElem?_append_right (by rw [ck.len]; exact Nat.le_refl _), ck.len, Nat.sub_self] at e1
      rw [List.getElem?_append_right (Nat.le_refl _), Nat.sub_self] at e2
      cases e1
      cases e2
      exact ⟨dx, [], upd_same, rfl, .nil⟩
/-- C(..) runs -/
theorem run_mk (g : Good T c X) (tk : Takes X W) {k f n : Nat} {ga : Addr} {fd : FuncData} {ps : List Str} {pins : List (Addr × Obj)} {sh : Shared} {Q : VK} {us : List Value} {vs : List V} {ds : List D} (hG : T.G.ini k = some (f, n)) (M : Mk X.K (T.M.cA k) ga) (bd : Binds X.K fd ps [])
    (hps : n = ps.length) (F : FnG X.prog X.w X.K X.mg X.base T.k ga fd ps (spF T.M (T.call f) ps.length)) (I : Inv X pins σ H sh) (rv : Vals vs us) (o : Ok T.M N p env s σ H) (rl : RepL T.M p H ds vs)
    (h : Rg T.M N W env σ (Rep T.M) p H (T.mkc k ds s) Q) : wpAny (model X.prog X.w) X.A (call (.ref (T.M.cA k)) us) (EP X pins σ Q) X.xe sh := by
  have I2 := Inv.made (C := T.M.cA k) I
  obtain ⟨ck, st⟩ := o.cells.more (k := k) (x := sh.heap.objs.size + 1) (dx := sh.heap.objs.size) (I.hok.fresh (Nat.le_succ _)) (I.hok.fresh (Nat.le_refl _)) (Nat.ne_of_lt (Nat.lt_succ_self _))
  have o2 := o.step st ck
  have rx : Rep T.M { p with cs := p.cs ++ [sh.heap.objs.size + 1] } (L2.upd (L2.upd H sh.heap.objs.size (.own (sh.heap.objs.size + 1))) (sh.heap.objs.size + 1) (.ins (T.M.cA k) sh.heap.objs.size [])) (.ref s.length) (.ref (sh.heap.objs.size + 1)) := .ref (by
    show (p.cs ++ [sh.heap.objs.size + 1])[s.length]? = _
    rw [List.getElem?_append_right (by rw [o.cells.len]; exact Nat.le_refl _), o.cells.len, Nat.sub_self]
    rfl)
  rw [g.th.mk_] at h
  unfold mkF at h
  rw [hG] at h
  dsimp only at h
  have hsp : spF T.M (T.call f) ps.length (.ref (sh.heap.objs.size + 1) :: vs) (L2.upd (L2.upd H sh.heap.objs.size (.own (sh.heap.objs.size + 1))) (sh.heap.objs.size + 1) (.ins (T.M.cA k) sh.heap.objs.size []))
      (fun v H2 => v = .non ∧ Q (.ref (sh.heap.objs.size + 1)) H2) (fun cls d H' => W cls d σ H') := by
    split at h
    · rename_i ln
      refine ⟨_, _, .ref s.length :: ds, ck, .cons rx (rl.step st o.cells.ap), by rw [List.length_cons, ln, hps], ?_⟩
      cases q2 : T.call f (.ref s.length :: ds) (s ++ [.ins k []]) with
      | stk => rw [q2] at h; exact h.elim
      | exc y s2 =>
        rw [q2] at h
        exact fun cls dd p2 H2 st2 ck2 er => h cls dd p2 H2 (st.trans st2) (o2.step st2 ck2) er
      | ok d s2 =>
        rw [q2] at h
        intro v p2 H2 st2 ck2 r2
        cases d with
        | non =>
          cases r2
          have h : Rg T.M N W env σ (Rep T.M) p H (.ok (.ref s.length) s2) Q := h
          exact ⟨rfl, h _ p2 H2 (st.trans st2) (o2.step st2 ck2) (rx.step st2 ck.ap)⟩
        | _ => exact h.elim
    · exact h.elim
  have r2 : Vals (V.ref (sh.heap.objs.size + 1) :: vs) ((Value.ref (sh.heap.objs.size + 1) :: us) ++ []) := by
    rw [List.append_nil]
    exact .cons rfl rv
  have len : ((Value.ref (sh.heap.objs.size + 1) :: us) ++ []).length = ps.length := by
    rw [← r2.length]
    exact F.len _ _ _ _ hsp
  have rm : Room (T.k + 1) X.A := g.room.mono (by omega)
  refine wpAny_call (make_map (f := ga) I.kIn M.makes M.init (beq_iff_eq.mp M.fn) (codeAny_mono (F.run _ X.stack _ _ ⟨Value.ref (sh.heap.objs.size + 1) :: us, []⟩ _ _ _ _ (rm.make (T.M.cA k) us []) g.gd (I2.env0.make (T.M.cA k) us [])
    (bd _ (Value.ref (sh.heap.objs.size + 1) :: us) I2.kIn len) r2 hsp) ?_))
  intro r s' hq
  match r, hq with
  | .error e, hq => exact out_of tk I2 e s' hq
  | .ok (.ret u), hq =>
    obtain ⟨v, H', I3, rv3, ev, q3⟩ := I2.after hq
    subst ev
    exact ⟨rv3, .ref (sh.heap.objs.size + 1), H', I3, rfl, q3⟩
/-- the arguments, then what is made of them -/
theorem args_then {σ : L2.St} {H : Hp} {k : List D → Sto → R D} {Q : VK} (o : Ok T.M N p env s σ H) (h : Rg T.M N W env σ (Rep T.M) p H ((evs T.G T.call T.mkc xs env s).bind k) Q) :
    tA T N W Rep xs σ H fun vs H1 => ∃ p1 s1 ds, Ok T.M N p1 env s1 σ H1 ∧ Step p H p1 H1 ∧ RepL T.M p1 H1 ds vs ∧ Rg T.M N W env σ (Rep T.M) p1 H1 (k ds s1) Q := by
  refine ⟨p, env, s, o, ?_⟩
  cases q : evs T.G T.call T.mkc xs env s with
  | stk => rw [q] at h; exact h.elim
  | exc y s1 => rw [q] at h; exact h
  | ok ds s1 =>
    rw [q] at h
    intro vs p1 H1 st1 o1 r1
    exact ⟨p1, s1, ds, o1, st1, repL_of r1, Rg.step st1 h⟩
theorem snd_mk (g : Good T c X) (tk : Takes X W) {k : Nat} {nm : Str} (hc : T.C.cls[k]? = some nm) (hI : (T.G.ini k).isSome = true) (hg : glB c nm = true) (ha : PA X (e :: es) (tA T N W Rep xs)) (hs : noStars (e :: es) = true) :
    PE X (.Call (.Name nm p0) (e :: es) [] pos) (tE T N W Rep (.mk k xs)) := by
  obtain ⟨⟨f, n⟩, hG⟩ := Option.isSome_iff_exists.mp hI
  obtain ⟨ga, fd, ps, M, bd, e1, F⟩ := g.th.ini k f n hG
  obtain ⟨g1, g2⟩ := gl_of g hg
  unfold noStars at hs
  rw [Bool.and_eq_true] at hs
  refine ⟨fun pins sh σ H Q I hr => ?_⟩
  obtain ⟨p, env, s0, o0, h⟩ := hr
  unfold ev at h
  refine wpAny_Call_Name_kw (ld_glob I g1 (g.th.cls k nm hc).1 ?_ g2)
  refine PySem.W.callWith_K (h₀ := X.base) I.ok.mod.kin M.kp (thn (ha.run pos pins sh σ H _ I (args_then o0 h)) ?_) (star_cons hs.1) (star_any hs.2)
  rintro us s1 ⟨vs, H1, I1, r, p1, st1, ds, o1, _, rl, h1⟩
  exact ⟨I1.kIn, run_mk g tk hG M bd e1 F I1 r o1 rl h1⟩
theorem snd_mk0 (g : Good T c X) (tk : Takes X W) {k : Nat} {nm : Str} (hc : T.C.cls[k]? = some nm) (hI : (T.G.ini k).isSome = true) (hg : glB c nm = true) : PE X (.Call (.Name nm p0) [] [] pos) (tE T N W Rep (.mk k .nil)) := by
  obtain ⟨⟨f, n⟩, hG⟩ := Option.isSome_iff_exists.mp hI
  obtain ⟨ga, fd, ps, M, bd, e1, F⟩ := g.th.ini k f n hG
  obtain ⟨g1, g2⟩ := gl_of g hg
  refine ⟨fun pins sh σ H Q I hr => ?_⟩
  obtain ⟨p, env, s0, o0, h⟩ := hr
  unfold ev evs at h
  refine wpAny_Call_Name_kw (ld_glob I g1 (g.th.cls k nm hc).1 ?_ g2)
  exact PySem.W.callWith_K0 I.kIn M.kp (run_mk (us := []) (vs := []) (ds := []) g tk hG M bd e1 F I .nil o0 .nil h)
/-! ### methods -/
theorem meth_open {A : Around} {ee : Value → Shared → Prop} {sh : Shared} {o : Expr} {m : Str} {ap : Pos} {args : List Expr} {Q : Value → Shared → Prop} (hb : attributeBase o m X.env (eval o X.env) = eval o X.env) (hs : (backTo pos (starEach args X.env)).all (fun x => !x.1) = true) (hn : args.length < 30) (hl : (ap.endLine == pos.line) = true)
    (h : wpAny (model X.prog X.w) A (eval o X.env) (fun ov s1 => wpAny (model X.prog X.w) A (getMethod ov m (do return (← importBound o X.env).getD true)) (fun fx s2 => wpAny (model X.prog X.w) A (callWith pos fx.1 fx.2 (backTo pos (starEach args X.env)) (backToKw pos (keywordEach [] X.env))) Q ee s2) ee s1) ee sh) :
    wpAny (model X.prog X.w) A (eval (.Call (.Attribute o m ap) args [] pos) X.env) Q ee sh := by
  rw [arm_eval_Call, hb]
  refine wpAny_bind (wpAny_mono h (fun ov s1 h1 => wpAny_bind (wpAny_standAt ?_)) fun _ _ e => e)
  have few : methodCallForm (args.length + ([] : List Keyword).length) (backTo pos (starEach args X.env)) (backToKw pos (keywordEach [] X.env)) = true := by
    show ((backTo pos (starEach args X.env)).all (fun x => !x.1) && true && decide (args.length + 0 + 0 < 30)) = true
    rw [hs]
    simpa using hn
  have cp : methodCallPos true o X.env ap pos = pure pos := by
    unfold methodCallPos
    rw [hl]
    rfl
  unfold methodCall
  rw [few]
  refine wpAny_bind (wpAny_holding (wpAny_mono h1 (fun fx s2 h2 => ?_) fun _ _ e => e))
  exact wpAny_bind (wpAny_of_eq cp h2)
theorem stars_all {es : List Expr} (h : noStars es = true) : (backTo pos (starEach es X.env)).all (fun x => !x.1) = true := by
  have q := star_any (env := X.env) (pos := pos) h
  rw [List.any_eq_false] at q
  rw [List.all_eq_true]
  intro x hx
  have := q x hx
  cases e : x.1 <;> simp_all
/-- the object and its method -/
theorem um_open (g : Good T c X) {pins : List (Addr × Obj)} {sh : Shared} {σ : L2.St} {H : Hp} {Q : VK} {o : Expr} {m : Str} {ap : Pos} (hb : notCall o = true) (hs : noStars es = true) (hl : (ap.endLine == pos.line) = true) (hz : es.length < 30) (ho : PE X o (tE T N W Rep x)) (I : Inv X pins σ H sh)
    (hr : tE T N W Rep (.um x m xs) σ H Q)
    (k : ∀ (u : Value) (s2 : Shared) (a ga : Addr) (H1 : Hp) (p1 : Rho) (s1 : Sto) (env : Env) (n f j : Nat) (fd : FuncData) (ps : List Str), Inv X pins σ H1 s2 → Ok T.M N p1 env s1 σ H1 → Rep T.M p1 H1 (.ref n) (.ref a) → PySem.W.keepIn X.K (.ref ga) = true → Binds X.K fd ps [] →
      FnG X.prog X.w X.K X.mg X.base T.k ga fd ps (spF T.M (T.call f) ps.length) → Rg T.M N W env σ (Rep T.M) p1 H1 ((evs T.G T.call T.mkc xs env s1).bind fun ds s2 => if ds.length + 1 = ps.length then T.call f (.ref n :: ds) s2 else .stk) Q →
      wpAny (model X.prog X.w) X.A (callWith pos (.ref ga) [.ref a] (backTo pos (starEach es X.env)) (backToKw pos (keywordEach [] X.env))) (EP X pins σ Q) X.xe s2) :
    wpAny (model X.prog X.w) X.A (eval (.Call (.Attribute o m ap) es [] pos) X.env) (EP X pins σ Q) X.xe sh := by
  obtain ⟨p, env, s, o0, h⟩ := hr
  unfold ev at h
  refine meth_open (base_of' hb) (stars_all hs) hz hl (thn (ho.run pins sh σ H _ I ⟨p, env, s, o0, h.seq (Rep T.M)⟩) ?_)
  rintro u s2 ⟨v, H1, I1, rv, p1, d1, s1, o1, st1, r1, h1⟩
  cases q : insOf s1 d1 with
  | none => rw [q] at h1; exact h1.elim
  | some t =>
    obtain ⟨n, kk, fs⟩ := t
    rw [q] at h1
    obtain ⟨rfl, a, dx, hf, rfl, hc, hH, hk, hv⟩ := ins_of o1.cells r1 q
    cases (show u = Value.ref a from rv)
    simp only at h1
    cases q2 : T.G.mth kk m with
    | none => rw [q2] at h1; exact h1.elim
    | some fj =>
      obtain ⟨f, j⟩ := fj
      cases q3 : fs.lookup m with
      | some _ => rw [q2, q3] at h1; exact h1.elim
      | none =>
        rw [q2, q3] at h1
        simp only at h1
        obtain ⟨cl, ga, fd, ps, me, bd, e1, F⟩ := g.th.mth kk m f j q2
        subst e1
        exact getmeth_ok I1 hH cl me (fld_none hk q3) (k (.ref a) s2 a ga H1 p1 s1 env n f 0 fd ps I1 o1 r1 me.kp bd F h1)
theorem um_then {n f : Nat} {a : Addr} {ps : List Str} {ds : List D} {vs : List V} {Q : VK} (o : Ok T.M N p env s σ H) (rd : Rep T.M p H (.ref n) (.ref a)) (rl : RepL T.M p H ds vs) (h : Rg T.M N W env σ (Rep T.M) p H (if ds.length + 1 = ps.length then T.call f (.ref n :: ds) s else .stk) Q) :
    spF T.M (T.call f) ps.length (.ref a :: vs) H Q fun cls d H' => W cls d σ H' := by
  split at h
  · rename_i ln
    exact rg_sp o (.cons rd rl) ln h
  · exact h.elim
theorem snd_um (g : Good T c X) (tk : Takes X W) {o : Expr} {m : Str} {ap : Pos} (hb : notCall o = true) (hs : noStars (e :: es) = true) (hl : (ap.endLine == pos.line) = true) (hz : (e :: es).length < 30) (ho : PE X o (tE T N W Rep x)) (ha : PA X (e :: es) (tA T N W Rep xs)) :
    PE X (.Call (.Attribute o m ap) (e :: es) [] pos) (tE T N W Rep (.um x m xs)) := by
  refine ⟨fun pins sh σ H Q I hr => um_open g hb hs hl hz ho I hr ?_⟩
  intro u s2 a ga H1 p1 s1 env n f j fd ps I1 o1 r1 kp bd F h1
  unfold noStars at hs
  rw [Bool.and_eq_true] at hs
  refine PySem.W.callWith_K (first := [.ref a]) (h₀ := X.base) I.ok.mod.kin kp (thn (ha.run pos pins s2 σ H1 _ I1 (args_then o1 h1)) ?_) (star_cons hs.1) (star_any hs.2)
  rintro us s3 ⟨vs, H2, I2, r, p2, st2, ds, o2, stp, rl, h2⟩
  exact ⟨I2.kIn, run_g (us := .ref a :: us) (vs := .ref a :: vs) F (g.room.mono (by omega)) g.gd bd .nil (out_of tk I2) I2 (.cons rfl r) (by rw [List.append_nil]; exact um_then o2 (r1.step stp o1.cells.ap) rl h2)⟩
theorem snd_um0 (g : Good T c X) (tk : Takes X W) {o : Expr} {m : Str} {ap : Pos} (hb : notCall o = true) (hl : (ap.endLine == pos.line) = true) (ho : PE X o (tE T N W Rep x)) : PE X (.Call (.Attribute o m ap) [] [] pos) (tE T N W Rep (.um x m .nil)) := by
  refine ⟨fun pins sh σ H Q I hr => um_open g hb rfl hl (by decide) ho I hr ?_⟩
  intro u s2 a ga H1 p1 s1 env n f j fd ps I1 o1 r1 kp bd F h1
  unfold evs at h1
  exact PySem.W.callWith_K0 (first := [.ref a]) I1.kIn kp (run_g (us := [.ref a]) (vs := [.ref a]) F (g.room.mono (by omega)) g.gd bd .nil (out_of tk I1) I1 (.cons rfl .nil) (by rw [List.append_nil]; exact um_then (ds := []) o1 r1 .nil h1))
/-- len of an instance, by its def -/
theorem len_ins {A : Around} {ee : Value → Shared → Prop} {sh : Shared} {a C f : Addr} {ox : Obj} {od : Option Obj} {P : Program} {w : World} {K : PySem.W.Frag} {Q : Value → Shared → Prop} (KX : K.In sh.heap) (I : PySem.W.InstAt sh.heap a ox C od) (hs : PySem.W.findIn K (.ref C) "__len__" = some (some (.ref f)))
    (hf : PySem.W.isFn K (.ref f) = true) (h : wpAny (model P w) A.in1 (call (.ref f) [.ref a]) (fun v s2 => ∃ n t, v = .int n t ∧ 0 ≤ n ∧ n < 2 ^ 63 ∧ Q (.int n s2.toks) { s2 with toks := s2.toks + 1 }) ee sh) :
    wpAny (model P w) A (call (.builtin "len") [.ref a]) Q ee sh := by
  refine Calls.call_function_entry kind_len plain_len entry_len (args_len1 _) ?_
  unfold Builtin.«len»
  refine wpAny_bind (m := oneArg "len" _) (wpAny_pure ?_)
  refine wpAny_bind (m := callSpecial? (.ref a) (Str.ofString "__len__")) (PySem.W.special_fn KX I hs (beq_iff_eq.mp hf) (wpAny_mono h ?_ fun _ _ y => y))
  rintro r s2 ⟨n, t, rfl, h0, h1, hq⟩
  refine wpAny_bind (wpAny_holding (wpAny_pure (wpAny_bind (wpAny_letGo ?_))))
  show wpAny _ _ (if n < 0 then _ else _) _ _ _
  rw [if_neg (by omega)]
  show wpAny _ _ (if n ≥ 2 ^ 63 then _ else _) _ _ _
  rw [if_neg (by omega)]
  exact wpAny_bind (wpAny_mkInt (wpAny_pure ⟨_, rfl, hq⟩))
theorem snd_len (g : Good T c X) (hf : T.C.fr.contains "len" = true) (hg : glB c "len" = true) (ha : PE X e (tE T N W Rep x)) (hs : noStar e = true) : PE X (.Call (.Name "len" p0) [e] [] pos) (tE T N W Rep (.len x)) := by
  obtain ⟨g1, g2⟩ := gl_of g hg
  refine ⟨fun pins sh σ H Q I ⟨p, env, s, o0, h⟩ => ?_⟩
  unfold ev at h
  refine wpAny_Call_Name_kw (ld_blt I g1 (g.th.free _ hf) (by decide +kernel : bootBuiltins "len" = some (.builtin "len")) ?_ (by decide) g2)
  have arg : tCons (tE T N W Rep x) tNil σ H fun vs H1 => ∃ v, vs = [v] ∧ ∃ p1 d s1, Ok T.M N p1 env s1 σ H1 ∧ Step p H p1 H1 ∧ Rep T.M p1 H1 d v ∧ Rg T.M N W env σ (Rep T.M) p1 H1 (lenK T.G T.call d s1) Q :=
    ⟨p, env, s, o0, (h.seq (Rep T.M)).imp fun v H1 hh => ⟨v, rfl, hh⟩⟩
  refine PyProof.Rows.callWith_builtin1 (thn ((pa_cons ha pa_nil (star_cons hs)).run pos pins sh σ H _ I arg) ?_) (star_cons hs) rfl
  rintro us s2 ⟨vs, H1, I1, rv, v, rfl, p1, d1, s1, o1, st1, r1, h1⟩
  obtain ⟨u, rfl, ru⟩ := vals1 rv
  unfold lenK at h1
  cases q : insOf s1 d1 with
  | none => rw [q] at h1; exact h1.elim
  | some t =>
    obtain ⟨n, k, fs⟩ := t
    rw [q] at h1
    obtain ⟨rfl, a, dx, hs2, rfl, hc, hH, hk, hv⟩ := ins_of o1.cells r1 q
    cases (show u = Value.ref a from ru)
    simp only at h1
    cases q2 : T.G.mth k "__len__" with
    | none => rw [q2] at h1; exact h1.elim
    | some fj =>
      obtain ⟨f, j⟩ := fj
      rw [q2] at h1
      simp only at h1
      split at h1
      · rename_i j1
        obtain ⟨cl, ga, fd, ps, me, bd, e1, F⟩ := g.th.mth k "__len__" f j q2
        obtain ⟨mA, O, _⟩ := ins_get I1.hok hH
        obtain ⟨od, J, _⟩ := O.look
        refine len_ins I1.kIn J me.at_ me.fn ?_
        have sp : spF T.M (T.call f) ps.length [.ref a] H1 (fun v H2 => ∃ n : Int, v = .int n ∧ 0 ≤ n ∧ n < 2 ^ 63 ∧ Q (.int n) H2) E0 := by
          have hl : ps.length = 1 := by rw [← e1, j1]
          refine ⟨p1, s1, [.ref n], o1.cells, .cons r1 .nil, by rw [hl]; rfl, ?_⟩
          cases q4 : T.call f [.ref n] s1 with
          | stk => rw [q4] at h1; exact h1.elim
          | exc y s3 => rw [q4] at h1; exact h1.elim
          | ok d s3 =>
            rw [q4] at h1
            intro w p2 H2 st2 ck2 r2
            cases d with
            | int i =>
              have h1 : Rg T.M N W env σ (Rep T.M) p1 H1 (if 0 ≤ i ∧ i < 2 ^ 63 then .ok (.int i) s3 else .stk) Q := h1
              split at h1
              · rename_i hi
                cases r2
                exact ⟨i, rfl, hi.1, hi.2, h1 _ p2 H2 st2 (o1.step st2 ck2) (.int i)⟩
              · exact h1.elim
            | _ => exact h1.elim
        have It := I1.env0
        refine wpAny_call (codeAny_mono (F.run X.A.in1 X.stack s2 H1 ⟨[.ref a], []⟩ ([Value.ref a] ++ []) [.ref a] _ E0 (g.room.mono (by omega : T.k + 1 ≤ T.k + 2)).in1 g.gd It.in1 (bd s2 [Value.ref a] I1.kIn (F.len _ _ _ _ sp)) (show Vals [V.ref a] [Value.ref a] from .cons rfl .nil) sp) ?_)
        intro r s3 hq2
        match r, hq2 with
        | .error er, hq2 =>
          obtain ⟨_, _, _, _, _, _, _, _, _, _, _, _, z⟩ := hq2
          exact z.elim
        | .ok (.ret u), hq2 =>
          obtain ⟨v, H2, I3, rv3, n, rfl, h0, h2, q5⟩ := I1.after hq2
          obtain ⟨tk, rfl⟩ := rv3
          exact ⟨n, tk, rfl, h0, h2, .int n, H2, I3.tok _, ⟨_, rfl⟩, q5⟩
      · exact h1.elim
/-! ### an attribute is stored -/
theorem CellsOk.setC {M : Md} (ck : CellsOk M p H s) {n : Nat} {l : Addr} {ho : HO} {cl : Cell} (hn : p.cs[n]? = some l) (r : CellR M p (L2.upd H l ho) l cl) : CellsOk M p (L2.upd H l ho) (s.set n cl) := by
  have hF : ¬ p.F l := ck.ap l (List.mem_of_getElem? hn)
  have w : WStep p H p (L2.upd H l ho) := WStep.upd hF
  refine ⟨by rw [List.length_set]; exact ck.len, ck.nd, ck.ap, fun x h => ?_, fun m x cl2 e1 e2 => ?_⟩
  · rw [upd_ne (fun e : x = l => hF (e ▸ h))]
    exact ck.tr x h
  · rcases list_getset e2 with ⟨rfl, rfl⟩ | ⟨hm, e2⟩
    · rw [hn] at e1
      cases e1
      exact r
    · refine (ck.at_ m x cl2 e1 e2).wstep w fun o h => ?_
      have ne : x ≠ l := fun q => by
        subst q
        have h1 := List.getElem?_eq_some_iff.mp e1
        have h2 := List.getElem?_eq_some_iff.mp hn
        exact hm ((List.getElem_inj ck.nd).mp (h1.2.trans h2.2.symm))
      rw [upd_ne ne]
      exact h
theorem Ok.setC (o : Ok T.M N p env s σ H) {n : Nat} {l : Addr} {ho : HO} {cl : Cell} (hn : p.cs[n]? = some l) (r : CellR T.M p (L2.upd H l ho) l cl) : Ok T.M N p env (s.set n cl) σ (L2.upd H l ho) := by
  have hm := List.mem_of_getElem? hn
  have hF : ¬ p.F l := o.cells.ap l hm
  have w : WStep p H p (L2.upd H l ho) := WStep.upd hF
  refine ⟨⟨o.st.fx, o.st.nw, fun x ob h hc => ?_, o.st.cs, fun x h => ?_⟩, o.cells.setC hn r, o.len, fun i sl e => ?_, o.fresh, o.dist⟩
  · have ne : x ≠ l := fun q => by
      subst q
      obtain ⟨mo, e, hmo⟩ := o.st.cs
      rw [e] at hm
      rcases List.mem_append.mp hm with w1 | w1
      · exact hc w1
      · rw [hmo x w1] at h; cases h
    rw [upd_ne ne]
    exact o.st.kp x ob h hc
  · by_cases e : x = l
    · subst e; rw [upd_same]; simp
    · rw [upd_ne e]; exact o.st.th x h
  · obtain ⟨v, e1, rr⟩ := o.slot i sl e
    refine ⟨v, e1, ?_⟩
    have own : (∃ b, v = some (.ref b) ∧ ¬ p.F b ∧ b ∉ p.cs ∧ OwnR T.M p H b sl) → ∃ b, v = some (.ref b) ∧ ¬ p.F b ∧ b ∉ p.cs ∧ OwnR T.M p (L2.upd H l ho) b sl := by
      rintro ⟨b, e2, h1, h2, h3⟩
      have ne : b ≠ l := fun q => h2 (q ▸ hm)
      exact ⟨b, e2, h1, h2, h3.wstep w fun o' h => by rw [upd_ne ne]; exact h⟩
    cases sl with
    | und => trivial
    | val d =>
      obtain ⟨u, e2, r2⟩ := rr
      exact ⟨u, e2, r2.wstep w⟩
    | own ds => exact own rr
    | owd ks => exact own rr
theorem snd_sta {o : Expr} {f : Str} {p2 : Pos} (g : Good T c X) (ho : PE X o (tE T N W Rep y)) (he : PE X e (tE T N W Rep x)) (hs : swapsWith e (some (.Attribute o f p2)) pos.line X.env = pure false) : PS X (.Assign [.Attribute o f p2] e pos) (tSt T N W (.sta y f x)) := (ps_fld ho he hs).imp fun Dn σ H ⟨p, env, s, o0, h⟩ => by
  unfold evS at h
  refine ⟨p, env, s, o0, (RgS.expr (Rep T.M) o0 h).imp fun v H1 ⟨p1, d1, s1, o1, st1, r1, h1⟩ => ⟨p1, env, s1, o1, (RgS.expr (Rep T.M) o1 h1).imp fun u H2 ⟨p2, d2, s2, o2, st2, r2, h2⟩ => ?_⟩⟩
  cases q : insOf s2 d2 with
  | none => rw [q] at h2; exact h2.elim
  | some t =>
    obtain ⟨n, k, fs⟩ := t
    rw [q] at h2
    obtain ⟨rfl, a, dx, hf, rfl, hc, hH, hk, hv⟩ := ins_of o2.cells r2 q
    simp only at h2
    cases q2 : T.G.att k f with
    | none => rw [q2] at h2; exact h2.elim
    | some at_ =>
      rw [q2] at h2
      cases at_ with
      | prop _ => exact h2.elim
      | fld =>
        simp only at h2
        obtain ⟨cl, na⟩ := g.th.att k f q2
        split at h2
        · rename_i hl
          have rd := r1.step st2 o1.cells.ap
          obtain ⟨k1, k2⟩ := put_rep (f := f) rd hk hv
          have w : WStep p2 H2 p2 (L2.upd H2 a (.ins (T.M.cA k) dx (putF f v hf))) := WStep.upd (o2.cells.ap a (List.mem_of_getElem? hc))
          refine ⟨a, _, dx, hf, rfl, hH, cl, na, ?_, h2 σ p2 _ (o2.setC hc ⟨dx, _, upd_same, k1, k2.wstep w⟩) w⟩
          have e : hf.length = fs.length := by
            have := congrArg List.length hk
            simpa using this
          omega
        · exact h2.elim
end
end Lv
set_option Elab.async false
set_option linter.all false
set_option maxRecDepth 100000
set_option maxHeartbeats 8000000
/-! Lv13: the checker of expressions, and that it is right. -/
namespace Lv
open PySem PySem.Spec PyProof.Rows L2
/-- a name's own, where it is only looked at; else as b says -/
def lookB (c : Sx) (a : E) (x : Expr) (b : Bool) : Bool := (match a, x with
  | .own i, .Name n _ => varB c i n
  | _, _ => false) || b
/-- may stand as a test -/
def testE : E → Bool
  | .one a => testE a
  | .and a b => testE a && testE b
  | .or a b => testE a && testE b
  | .not a => testE a
  | .ite _ _ _ => false
  | .tup _ => false
  | .lst _ => false
  | .cel _ => false
  | .fs _ => false
  | .fmt _ => false
  | .neg _ => false
  | .rgt _ => false
  | .dic0 => false
  | _ => true
def ownN (c : Sx) (own : List Nat) : List (Str × Nat) := own.map fun i => (c.N.getD i Str.empty, i)
theorem ownN_snd (c : Sx) (own : List Nat) : (ownN c own).map (·.2) = own := by
  unfold ownN
  rw [List.map_map]
  exact List.map_id _
def Sx.blk (c : Sx) (scope : Scope) : Sx := { sc := relS scope c.sc, N := c.N, fnB := fun x => scope.names.lookup x == some .cell }
def sub (l own : List Nat) : Bool := l.all fun i => own.contains i
/-- a method's name -/
def mtN (m : Mt) (n : Str) : Bool := match m with
  | .join => decide (n = "join")
  | .split => decide (n = "split")
  | _ => false
/-- the names of a call by names -/
def kwN (kws : List Keyword) : List Str := kws.filterMap (·.arg)
mutual
def chk (C : Tc) : Sx → E → Expr → Bool
  | _, .non, .Constant .none _ _ => true
  | _, .bl b, .Constant (.bool k) _ _ => b == k
  | _, .int i, .Constant (.int k) _ _ => decide (i = k)
  | _, .str x, .Constant (.str y) _ _ => decide (x = y)
  | c, .var i, .Name n _ => varB c i n
  | c, .cst n, .Name m _ => decide (n = m) && glB c n && C.cst.contains n
  | c, .bin o a b, .BinOp x o' y _ => decide (o = o') && lookB c a x (chk C c a x) && lookB c b y (chk C c b y)
  | c, .neg a, .UnaryOp .USub x _ => lookB c a x (chk C c a x)
  | c, .cmp o a b, .Compare x [o'] [y] _ => decide (o = o') && lookB c a x (chk C c a x) && lookB c b y (chk C c b y) && !behindInMarks o y
  | c, .chn o1 o2 a b d, .Compare x [p1, p2] [y, z] _ => decide (o1 = p1) && decide (o2 = p2) && lookB c a x (chk C c a x) && lookB c b y (chk C c b y) && lookB c d z (chk C c d z) && !lastMarks [o1, o2] [y, z]
  | c, .one a, .BoolOp _ [x] _ => chk C c a x
  | c, .and a b, .BoolOp .And (x :: y :: r) q => chk C c a x && chk C c b (.BoolOp .And (y :: r) q)
  | c, .or a b, .BoolOp .Or (x :: y :: r) q => chk C c a x && chk C c b (.BoolOp .Or (y :: r) q)
  | c, .not a, .UnaryOp .Not x _ => chk C c a x
  | c, .ite t a b, .IfExp x y z _ => lookB c t x (chk C c t x) && testE t && chk C c a y && chk C c b z
  | c, .idx a i, .Subscript x y _ => notSlice y && lookB c a x (chk C c a x) && lookB c i y (chk C c i y)
  | c, .sl a lo hi, .Subscript x (.Slice l h none _) _ => lookB c a x (chk C c a x) && chkO C c lo l && chkO C c hi h
  | c, .tup es, .Tuple xs _ _ => decide (es.len ≤ 1000) && chkEs C c es xs
  | c, .lst es, .List xs _ => decide (es.len ≤ 1000) && chkEs C c es xs
  | c, .cel es, .List xs _ => decide (es.len ≤ 1000) && chkEs C c es xs
  | c, .call f es, .Call (.Name n _) xs [] _ => (match C.fnm f with
    | some (m, ps) => decide (n = m) && decide (es.len = ps.length) && decide (xs.length = ps.length)
    | none => false) && glB c n && noStars xs && chkEs C c es xs
  | c, .callk f .nil ks pm, .Call (.Name n _) [] kws _ => (match C.fnm f with
    | some (m, ps) => decide (n = m) && decide (pm.length = ps.length)
    | none => false) && glB c n && C.kw f (kwN kws, pm) && decide (kws.map (·.arg) = (kwN kws).map some) && decide (ks.len = (kwN kws).length) && chkKs C c ks kws
  | c, .bi k es, .Call (.Name n _) xs [] _ => decide (n = biN k) && C.fr.contains n && glB c n && noStars xs && decide (0 < xs.length) && chkEsB C c es xs
  | c, .mth m a es, .Call (.Attribute x n ap) xs [] q => notCall x && noStars xs && (ap.endLine == q.line) && lookB c a x (chk C c a x) && mtN m n && decide (xs.length = 1) && decide (es.len = 1) && chkEsB C c es xs
  | c, .fmt a, .FormattedValue x cv none _ => decide (cv = -1) && lookB c a x (chk C c a x)
  | c, .fs es, .JoinedStr xs _ => decide (2 ≤ xs.length) && chkEs C c es xs
  | c, .lc src t cs el own, .ListComp elt [⟨tg, iter, ifs, z⟩] scope _ => decide (z = 0) && blkC c.N c.sc scope (ownN c own) && notSet iter && sub (tgS t) own && chkSrc C c false src tg iter && chkTg (c.blk scope) t tg && chkQ C (c.blk scope) cs ifs && chk C (c.blk scope) el elt
  | c, .isi a t, .Call (.Name f _) [x, .Name n _] [] _ => decide (f = "isinstance") && C.fr.contains "isinstance" && glB c f && tyB C c t n && noStar x && lookB c a x (chk C c a x)
  | c, .len a, .Call (.Name f _) [x] [] _ => decide (f = "len") && C.fr.contains "len" && glB c f && noStar x && chk C c a x
  | c, .att a n, .Attribute x m _ => decide (n = m) && notCall x && chk C c a x
  | c, .mk k es, .Call (.Name n _) xs [] _ => decide (C.cls[k]? = some n) && C.mks.contains k && glB c n && noStars xs && chkEs C c es xs
  | c, .um a m es, .Call (.Attribute x n ap) xs [] q => decide (m = n) && notCall x && noStars xs && (ap.endLine == q.line) && decide (xs.length < 30) && chk C c a x && chkEs C c es xs
  | _, .dic0, .Dict [] [] _ => true
  | c, .dget a k, .Subscript x y _ => notSlice y && lookB c a x (chk C c a x) && lookB c k y (chk C c k y)
  | c, .rgt a, .Call (.Name m _) [.Call (.Name n _) [x] [] _] [] _ => decide (m = "tuple") && decide (n = "range") && C.fr.contains "tuple" && C.fr.contains "range" && glB c "tuple" && glB c "range" && noStar x && lookB c a x (chk C c a x)
  | _, _, _ => false
def chkEs (C : Tc) : Sx → Es → List Expr → Bool
  | _, .nil, [] => true
  | c, .cons a es, x :: xs => noStar x && chk C c a x && chkEs C c es xs
  | _, _, _ => false
def chkKs (C : Tc) : Sx → Es → List Keyword → Bool
  | _, .nil, [] => true
  | c, .cons a es, ⟨_, x, _⟩ :: xs => chk C c a x && chkKs C c es xs
  | _, _, _ => false
def chkEsB (C : Tc) : Sx → Es → List Expr → Bool
  | _, .nil, [] => true
  | c, .cons a es, x :: xs => noStar x && lookB c a x (chk C c a x) && chkEsB C c es xs
  | _, _, _ => false
def chkO (C : Tc) : Sx → Es → Option Expr → Bool
  | _, .nil, none => true
  | c, .cons a .nil, some x => lookB c a x (chk C c a x)
  | _, _, _ => false
def chkQ (C : Tc) : Sx → Es → List Expr → Bool
  | _, .nil, [] => true
  | c, .cons a .nil, [x] => lookB c a x (chk C c a x) && testE a
  | _, _, _ => false
def chkSrc (C : Tc) : Sx → Bool → Src → Expr → Expr → Bool
  | c, weak, .seq a, _, e => (if weak then chk C c a e else lookB c a e (chk C c a e))
  | c, _, .rg1 a, _, .Call (.Name n _) [x] [] _ => decide (n = "range") && C.fr.contains n && glB c n && noStar x && lookB c a x (chk C c a x)
  | c, _, .rg2 a b, _, .Call (.Name n _) [x, y] [] _ => decide (n = "range") && C.fr.contains n && glB c n && noStar x && noStar y && lookB c a x (chk C c a x) && lookB c b y (chk C c b y)
  | c, _, .rg3 a b d, _, .Call (.Name n _) [x, y, z] [] _ => decide (n = "range") && C.fr.contains n && glB c n && noStar x && noStar y && noStar z && lookB c a x (chk C c a x) && lookB c b y (chk C c b y) && lookB c d z (chk C c d z)
  | c, weak, .enum a, .Tuple _ _ _, .Call (.Name n _) [x] [] _ => decide (n = "enumerate") && C.fr.contains n && glB c n && noStar x && (if weak then chk C c a x else lookB c a x (chk C c a x))
  | c, weak, .zip a b, .Tuple _ _ _, .Call (.Name n _) [x, y] [] _ => decide (n = "zip") && C.fr.contains n && glB c n && noStar x && noStar y && (if weak then chk C c a x && chk C c b y else lookB c a x (chk C c a x) && lookB c b y (chk C c b y))
  | _, _, _, _, _ => false
end
end Lv
set_option Elab.async false
set_option linter.all false
set_option maxRecDepth 100000
set_option maxHeartbeats 8000000
/-! Lv14: what the checker takes is so. -/
namespace Lv
open PySem PySem.Spec PyProof.Rows L2
def isFr : E → Bool
  | .lst _ => true
  | .bin _ _ _ => true
  | .bi _ _ => true
  | .mth _ _ _ => true
  | .sl _ _ _ => true
  | .lc _ _ _ _ _ => true
  | .dic0 => true
  | _ => false
structure Snd (T : Th) (N : En) (W : WX) (X : Cx) (x : E) (e : Expr) : Prop where
  fr : isFr x = true → PE X e (tF T N W x)
  st : PE X e (tE T N W Rep x)
  te : testE x = true → PT X e (tT T N W x)
  tw : ∀ op vs q, e = .BoolOp op vs q → testE x = true → PW X e (tT T N W x)
section
variable {T : Th} {c : Sx} {N : En} {W : WX} {X : Cx} {a b e : Expr} {es : List Expr} {x y z : E} {xs ys : Es} {pos p0 : Pos}
theorem look_of (g : Good T c X) {bb : Bool} (h : lookB c x e bb = true) (k : bb = true → Snd T N W X x e) : PE X e (tE T N W RepB x) ∧ (testE x = true → PT X e (tT T N W x)) := by
  unfold lookB at h
  rw [Bool.or_eq_true] at h
  rcases h with h | h
  · split at h
    · have q := snd_own (T := T) (N := N) (W := W) (pos := by assumption) g h
      exact ⟨q, fun _ => sndT_val q rfl⟩
    · cases h
  · have s := k h
    exact ⟨s.st.look, s.te⟩
/-- a term that is no test of its own -/
theorem Snd.plain (st : PE X e (tE T N W Rep x)) (hf : isFr x = false) (hp : plainT e = true) : Snd T N W X x e :=
  ⟨fun h => (by rw [hf] at h; cases h), st, fun _ => sndT_val st.look hp, fun op vs q q2 => (by subst q2; cases hp)⟩
theorem Snd.fresh (fr : PE X e (tF T N W x)) (hp : testE x = true → plainT e = true) (hb : ∀ op vs q, e ≠ .BoolOp op vs q) : Snd T N W X x e :=
  ⟨fun _ => fr, fr.strict, fun h => sndT_val fr.strict.look (hp h), fun op vs q q2 => absurd q2 (hb op vs q)⟩
theorem Snd.noTest (st : PE X e (tE T N W Rep x)) (hf : isFr x = false) (ht : testE x = false) : Snd T N W X x e :=
  ⟨fun h => (by rw [hf] at h; cases h), st, fun h => (by rw [ht] at h; cases h), fun op vs q q2 h => (by rw [ht] at h; cases h)⟩
theorem takes_blk {s : Shared} {H : Hp} {scope : Scope} {cenv : PySem.Env} {fp : List Addr} : Takes (X.blk s H scope cenv fp) W0 := fun u s' ⟨a, B, sI, pins, σ, H, cls, d, e, I, nb, up, sky, na, os, ag, w⟩ => w
theorem good_blk (g : Good T c X) {s : Shared} {H : Hp} {scope : Scope} {C : Addr} {cl : List (Str × Addr)} {fp : List Addr} : Good T (c.blk scope) (X.blk s H scope (compEnvC scope cl C X.env) fp) where
  th := g.th
  calm := g.calm
  room := g.room
  gd := g.gd
  sc := by
    show relS scope X.env.scope = relS scope c.sc
    rw [g.sc]
  N := g.N
  nd := g.nd
  fn := fun x h => h
theorem strs_eq {n : Str} {k : Str} (h : decide (n = k) = true) : n = k := of_decide_eq_true h
theorem sub_of {l own : List Nat} (h : sub l own = true) : ∀ i ∈ l, i ∈ own := fun i hi => by
  have := List.all_eq_true.mp h i hi
  simpa using this
/-- what the checker says of a comprehension -/
structure LcOk (T : Th) (c : Sx) (src : Src) (t : Tg) (cs : Es) (el : E) (own : List Nat) (elt tg iter : Expr) (ifs : List Expr) (z : Int) (scope : Scope) : Prop where
  z0 : z = 0
  blk : blkC c.N c.sc scope (ownN c own) = true
  ns : notSet iter = true
  sb : sub (tgS t) own = true
  src : chkSrc T.C c false src tg iter = true
  tg : chkTg (c.blk scope) t tg = true
  cs : chkQ T.C (c.blk scope) cs ifs = true
  el : chk T.C (c.blk scope) el elt = true
theorem lc_parts {src : Src} {t : Tg} {cs : Es} {el : E} {own : List Nat} {elt tg iter : Expr} {ifs : List Expr} {z : Int} {scope : Scope} (h : chk T.C c (.lc src t cs el own) (.ListComp elt [⟨tg, iter, ifs, z⟩] scope pos) = true) : LcOk T c src t cs el own elt tg iter ifs z scope := by
  have h : (decide (z = 0) && blkC c.N c.sc scope (ownN c own) && notSet iter && sub (tgS t) own && chkSrc T.C c false src tg iter && chkTg (c.blk scope) t tg && chkQ T.C (c.blk scope) cs ifs && chk T.C (c.blk scope) el elt) = true := h
  simp only [Bool.and_eq_true, decide_eq_true_eq] at h
  obtain ⟨⟨⟨⟨⟨⟨⟨h0, h1⟩, h2⟩, h3⟩, h4⟩, h5⟩, h6⟩, h7⟩ := h
  exact ⟨h0, h1, h2, h3, h4, h5, h6, h7⟩
mutual
theorem snd : ∀ (x : E) {c : Sx} {X : Cx} {W : WX} (g : Good T c X) (tk : Takes X W) {e : Expr}, chk T.C c x e = true → Snd T N W X x e
  | .non, c, X, W, g, tk, e, h => by
    cases e
    case Constant v k pos =>
      cases v
      case none => exact Snd.plain (snd_flat pe_non (fun _ _ _ h => h) (fun _ _ => by unfold ev; rfl) fun _ _ => .non) rfl rfl
      all_goals exact absurd (show false = true from h) Bool.false_ne_true
    all_goals exact absurd (show false = true from h) Bool.false_ne_true
  | .bl b, c, X, W, g, tk, e, h => by
    cases e
    case Constant v k pos =>
      cases v
      case bool b2 =>
        have e2 : b = b2 := eq_of_beq (show (b == b2) = true from h)
        subst e2
        exact Snd.plain (snd_flat pe_bl (fun _ _ _ h => h) (fun _ _ => by unfold ev; rfl) fun _ _ => .bl b) rfl rfl
      all_goals exact absurd (show false = true from h) Bool.false_ne_true
    all_goals exact absurd (show false = true from h) Bool.false_ne_true
  | .int i, c, X, W, g, tk, e, h => by
    cases e
    case Constant v k pos =>
      cases v
      case int b2 =>
        have e2 : i = b2 := of_decide_eq_true (show decide (i = b2) = true from h)
        subst e2
        exact Snd.plain (snd_flat pe_int (fun _ _ _ h => h) (fun _ _ => by unfold ev; rfl) fun _ _ => .int i) rfl rfl
      all_goals exact absurd (show false = true from h) Bool.false_ne_true
    all_goals exact absurd (show false = true from h) Bool.false_ne_true
  | .str x, c, X, W, g, tk, e, h => by
    cases e
    case Constant v k pos =>
      cases v
      case str b2 =>
        have e2 : x = b2 := of_decide_eq_true (show decide (x = b2) = true from h)
        subst e2
        exact Snd.plain (snd_flat pe_str (fun _ _ _ h => h) (fun _ _ => by unfold ev; rfl) fun _ _ => .str x) rfl rfl
      all_goals exact absurd (show false = true from h) Bool.false_ne_true
    all_goals exact absurd (show false = true from h) Bool.false_ne_true
  | .var i, c, X, W, g, tk, e, h => by
    cases e
    case Name n pos => exact Snd.plain (snd_var g (show varB c i n = true from h)) rfl rfl
    all_goals exact absurd (show false = true from h) Bool.false_ne_true
  | .own i, c, X, W, g, tk, e, h => by
    cases e
    all_goals exact absurd (show false = true from h) Bool.false_ne_true
  | .cst n, c, X, W, g, tk, e, h => by
    cases e
    case Name m pos =>
      have h : (decide (n = m) && glB c n && T.C.cst.contains n) = true := h
      simp only [Bool.and_eq_true, decide_eq_true_eq] at h
      obtain ⟨⟨rfl, h2⟩, h3⟩ := h
      obtain ⟨d, hd⟩ := Option.isSome_iff_exists.mp (g.th.cstB n h3)
      exact Snd.plain (snd_cst g h2 hd) rfl rfl
    all_goals exact absurd (show false = true from h) Bool.false_ne_true
  | .bin o a b, c, X, W, g, tk, e, h => by
    cases e
    case BinOp u o' v pos =>
      have h : (decide (o = o') && lookB c a u (chk T.C c a u) && lookB c b v (chk T.C c b v)) = true := h
      simp only [Bool.and_eq_true, decide_eq_true_eq] at h
      obtain ⟨⟨rfl, h1⟩, h2⟩ := h
      exact Snd.fresh (snd_bin (look_of g h1 fun k => snd a g tk k).1 (look_of g h2 fun k => snd b g tk k).1) (fun _ => rfl) (fun _ _ _ q => nomatch q)
    all_goals exact absurd (show false = true from h) Bool.false_ne_true
  | .neg a, c, X, W, g, tk, e, h => by
    cases e
    case UnaryOp o u pos =>
      cases o
      case USub =>
        have h : lookB c a u (chk T.C c a u) = true := h
        exact Snd.noTest (snd_neg (look_of g h fun k => snd a g tk k).1) rfl rfl
      all_goals exact absurd (show false = true from h) Bool.false_ne_true
    all_goals exact absurd (show false = true from h) Bool.false_ne_true
  | .cmp o a b, c, X, W, g, tk, e, h => by
    cases e
    case Compare u ops vs pos =>
      match ops, vs, h with
      | [o'], [v], h =>
        have h : (decide (o = o') && lookB c a u (chk T.C c a u) && lookB c b v (chk T.C c b v) && !behindInMarks o v) = true := h
        simp only [Bool.and_eq_true, decide_eq_true_eq, Bool.not_eq_true'] at h
        obtain ⟨⟨⟨rfl, h1⟩, h2⟩, h3⟩ := h
        have s1 := (look_of g h1 fun k => snd a g tk k).1
        have s2 := (look_of g h2 fun k => snd b g tk k).1
        exact ⟨fun k => (nomatch k), snd_cmp g s1 s2 h3, fun _ => sndT_cmp g s1 s2 h3, fun _ _ _ q => nomatch q⟩
    all_goals exact absurd (show false = true from h) Bool.false_ne_true
  | .chn o1 o2 a b d, c, X, W, g, tk, e, h => by
    cases e
    case Compare u ops vs pos =>
      match ops, vs, h with
      | [p1, p2], [v, w], h =>
        have h : (decide (o1 = p1) && decide (o2 = p2) && lookB c a u (chk T.C c a u) && lookB c b v (chk T.C c b v) && lookB c d w (chk T.C c d w) && !lastMarks [o1, o2] [v, w]) = true := h
        simp only [Bool.and_eq_true, decide_eq_true_eq, Bool.not_eq_true'] at h
        obtain ⟨⟨⟨⟨⟨rfl, rfl⟩, h1⟩, h2⟩, h3⟩, h4⟩ := h
        have s1 := (look_of g h1 fun k => snd a g tk k).1
        have s2 := (look_of g h2 fun k => snd b g tk k).1
        have s3 := (look_of g h3 fun k => snd d g tk k).1
        exact ⟨fun k => (nomatch k), snd_chn g s1 s2 s3 h4, fun _ => sndT_chn g s1 s2 s3 h4, fun _ _ _ q => nomatch q⟩
    all_goals exact absurd (show false = true from h) Bool.false_ne_true
  | .one a, c, X, W, g, tk, e, h => by
    cases e
    case BoolOp op vs pos =>
      match vs, h with
      | [u], h =>
        have s1 := snd a g tk (show chk T.C c a u = true from h)
        exact ⟨fun k => (nomatch k), snd_one s1.st, fun k => (sndW_one (s1.te k)).pt, fun _ _ _ _ k => sndW_one (s1.te k)⟩
    all_goals exact absurd (show false = true from h) Bool.false_ne_true
  | .and a b, c, X, W, g, tk, e, h => by
    cases e
    case BoolOp op vs pos =>
      match op, vs, h with
      | .And, u :: v :: r, h =>
        have h : (chk T.C c a u && chk T.C c b (.BoolOp .And (v :: r) pos)) = true := h
        rw [Bool.and_eq_true] at h
        have s1 := snd a g tk h.1
        have s2 := snd b g tk h.2
        have w : testE (.and a b) = true → PW X (.BoolOp .And (u :: v :: r) pos) (tT T N W (.and a b)) := fun k => by
          have k : (testE a && testE b) = true := k
          rw [Bool.and_eq_true] at k
          exact sndW_and (s1.te k.1) (s2.tw _ _ _ rfl k.2)
        exact ⟨fun k => (nomatch k), snd_and s1.st s2.st, fun k => (w k).pt, fun _ _ _ _ k => w k⟩
    all_goals exact absurd (show false = true from h) Bool.false_ne_true
  | .or a b, c, X, W, g, tk, e, h => by
    cases e
    case BoolOp op vs pos =>
      match op, vs, h with
      | .Or, u :: v :: r, h =>
        have h : (chk T.C c a u && chk T.C c b (.BoolOp .Or (v :: r) pos)) = true := h
        rw [Bool.and_eq_true] at h
        have s1 := snd a g tk h.1
        have s2 := snd b g tk h.2
        have w : testE (.or a b) = true → PW X (.BoolOp .Or (u :: v :: r) pos) (tT T N W (.or a b)) := fun k => by
          have k : (testE a && testE b) = true := k
          rw [Bool.and_eq_true] at k
          exact sndW_or (s1.te k.1) (s2.tw _ _ _ rfl k.2)
        exact ⟨fun k => (nomatch k), snd_or s1.st s2.st, fun k => (w k).pt, fun _ _ _ _ k => w k⟩
    all_goals exact absurd (show false = true from h) Bool.false_ne_true
  | .not a, c, X, W, g, tk, e, h => by
    cases e
    case UnaryOp o u pos =>
      cases o
      case Not =>
        have s1 := snd a g tk (show chk T.C c a u = true from h)
        exact ⟨fun k => (nomatch k), snd_not s1.st, fun k => sndT_not (s1.te (show testE a = true from k)), fun _ _ _ q => nomatch q⟩
      all_goals exact absurd (show false = true from h) Bool.false_ne_true
    all_goals exact absurd (show false = true from h) Bool.false_ne_true
  | .ite t a b, c, X, W, g, tk, e, h => by
    cases e
    case IfExp u v w pos =>
      have h : (lookB c t u (chk T.C c t u) && testE t && chk T.C c a v && chk T.C c b w) = true := h
      simp only [Bool.and_eq_true] at h
      obtain ⟨⟨⟨h1, h2⟩, h3⟩, h4⟩ := h
      exact Snd.noTest (snd_ite ((look_of g h1 fun k => snd t g tk k).2 h2) (snd a g tk h3).st (snd b g tk h4).st) rfl rfl
    all_goals exact absurd (show false = true from h) Bool.false_ne_true
  | .idx a i, c, X, W, g, tk, e, h => by
    cases e
    case Subscript u v pos =>
      have h : (notSlice v && lookB c a u (chk T.C c a u) && lookB c i v (chk T.C c i v)) = true := h
      simp only [Bool.and_eq_true] at h
      obtain ⟨⟨h1, h2⟩, h3⟩ := h
      exact Snd.plain (snd_idx g h1 (look_of g h2 fun k => snd a g tk k).1 (look_of g h3 fun k => snd i g tk k).1) rfl rfl
    all_goals exact absurd (show false = true from h) Bool.false_ne_true
  | .sl a lo hi, c, X, W, g, tk, e, h => by
    cases e
    case Subscript u v pos =>
      cases v
      case Slice l r st p2 =>
        cases st
        case none =>
          have h : (lookB c a u (chk T.C c a u) && chkO T.C c lo l && chkO T.C c hi r) = true := h
          simp only [Bool.and_eq_true] at h
          obtain ⟨⟨h1, h2⟩, h3⟩ := h
          exact Snd.fresh (snd_sl g (look_of g h1 fun k => snd a g tk k).1 (sndO lo g tk h2) (sndO hi g tk h3)) (fun _ => rfl) (fun _ _ _ q => nomatch q)
        all_goals exact absurd (show false = true from h) Bool.false_ne_true
      all_goals exact absurd (show false = true from h) Bool.false_ne_true
    all_goals exact absurd (show false = true from h) Bool.false_ne_true
  | .tup xs, c, X, W, g, tk, e, h => by
    cases e
    case Tuple u k pos =>
      have h : (decide (xs.len ≤ 1000) && chkEs T.C c xs u) = true := h
      simp only [Bool.and_eq_true, decide_eq_true_eq] at h
      have s := snd_tup (T := T) (N := N) (W := W) (pos := pos) (k := k) (sndEs xs g tk h.2) h.1
      exact Snd.noTest s rfl rfl
    all_goals exact absurd (show false = true from h) Bool.false_ne_true
  | .lst xs, c, X, W, g, tk, e, h => by
    cases e
    case List u pos =>
      have h : (decide (xs.len ≤ 1000) && chkEs T.C c xs u) = true := h
      simp only [Bool.and_eq_true, decide_eq_true_eq] at h
      have s := snd_lst (T := T) (N := N) (W := W) (pos := pos) (sndEs xs g tk h.2) h.1
      exact Snd.fresh s (fun k => nomatch k) (fun _ _ _ q => nomatch q)
    all_goals exact absurd (show false = true from h) Bool.false_ne_true
  | .cel xs, c, X, W, g, tk, e, h => by
    cases e
    case List u pos =>
      have h : (decide (xs.len ≤ 1000) && chkEs T.C c xs u) = true := h
      simp only [Bool.and_eq_true, decide_eq_true_eq] at h
      have s := snd_cel (T := T) (N := N) (W := W) (pos := pos) (sndEs xs g tk h.2) h.1
      exact Snd.noTest s rfl rfl
    all_goals exact absurd (show false = true from h) Bool.false_ne_true
  | .call f xs, c, X, W, g, tk, e, h => by
    cases e
    case Call fn us ks pos =>
      cases fn
      case Name n p0 =>
        cases ks
        case nil =>
          have h : ((match T.C.fnm f with | some (m, ps) => decide (n = m) && decide (xs.len = ps.length) && decide (us.length = ps.length) | none => false) && glB c n && noStars us && chkEs T.C c xs us) = true := h
          simp only [Bool.and_eq_true] at h
          obtain ⟨⟨⟨h1, h2⟩, h3⟩, h4⟩ := h
          split at h1
          · rename_i m ps q
            simp only [Bool.and_eq_true, decide_eq_true_eq] at h1
            obtain ⟨⟨rfl, h5⟩, h6⟩ := h1
            have sa := sndEs xs g tk h4
            cases us with
            | nil =>
              cases ps with
              | nil =>
                cases xs with
                | nil => exact Snd.plain (snd_call0 g tk q h2) rfl rfl
                | cons _ _ => cases h5
              | cons _ _ => cases h6
            | cons u us => exact Snd.plain (snd_call g tk q h2 sa h3 h5) rfl rfl
          · cases h1
        all_goals exact absurd (show false = true from h) Bool.false_ne_true
      all_goals exact absurd (show false = true from h) Bool.false_ne_true
    all_goals exact absurd (show false = true from h) Bool.false_ne_true
  | .bi k xs, c, X, W, g, tk, e, h => by
    cases e
    case Call fn us ks pos =>
      cases fn
      case Name n p0 =>
        cases ks
        case nil =>
          have h : (decide (n = biN k) && T.C.fr.contains n && glB c n && noStars us && decide (0 < us.length) && chkEsB T.C c xs us) = true := h
          simp only [Bool.and_eq_true, decide_eq_true_eq] at h
          obtain ⟨⟨⟨⟨⟨rfl, h2⟩, h3⟩, h4⟩, h5⟩, h6⟩ := h
          have sa := sndEsB xs g tk h6
          cases us with
          | nil => cases h5
          | cons u us => exact Snd.fresh (snd_bi g h2 h3 sa h4) (fun _ => rfl) (fun _ _ _ q => nomatch q)
        all_goals exact absurd (show false = true from h) Bool.false_ne_true
      all_goals exact absurd (show false = true from h) Bool.false_ne_true
    all_goals exact absurd (show false = true from h) Bool.false_ne_true
  | .mth m a xs, c, X, W, g, tk, e, h => by
    cases e
    case Call fn us ks pos =>
      cases fn
      case Attribute u n ap =>
        cases ks
        case nil =>
          have h : (notCall u && noStars us && (ap.endLine == pos.line) && lookB c a u (chk T.C c a u) && mtN m n && decide (us.length = 1) && decide (xs.len = 1) && chkEsB T.C c xs us) = true := h
          simp only [Bool.and_eq_true, decide_eq_true_eq] at h
          obtain ⟨⟨⟨⟨⟨⟨⟨h1, h2⟩, h3⟩, h4⟩, h5⟩, h8⟩, h9⟩, h6⟩ := h
          have s1 := (look_of g h4 fun k => snd a g tk k).1
          match us, xs, h6, h8, h9 with
          | [v], .cons y .nil, h6, _, _ =>
            have h6 : (noStar v && lookB c y v (chk T.C c y v) && true) = true := h6
            simp only [Bool.and_eq_true, and_true] at h6
            have s2 := (look_of g h6.2 fun k => snd y g tk k).1
            cases m with
            | join =>
              have e5 : n = "join" := of_decide_eq_true h5
              subst e5
              exact Snd.fresh (snd_join h1 h6.1 h3 s1 s2) (fun _ => rfl) (fun _ _ _ q => nomatch q)
            | split =>
              have e5 : n = "split" := of_decide_eq_true h5
              subst e5
              exact Snd.fresh (snd_split h1 h6.1 h3 s1 s2) (fun _ => rfl) (fun _ _ _ q => nomatch q)
            | _ => cases h5
        all_goals exact absurd (show false = true from h) Bool.false_ne_true
      all_goals exact absurd (show false = true from h) Bool.false_ne_true
    all_goals exact absurd (show false = true from h) Bool.false_ne_true
  | .fmt a, c, X, W, g, tk, e, h => by
    cases e
    case FormattedValue u cv sp pos =>
      cases sp
      case none =>
        have h : (decide (cv = -1) && lookB c a u (chk T.C c a u)) = true := h
        simp only [Bool.and_eq_true, decide_eq_true_eq] at h
        obtain ⟨rfl, h1⟩ := h
        exact Snd.noTest (snd_fmt (look_of g h1 fun k => snd a g tk k).1) rfl rfl
      all_goals exact absurd (show false = true from h) Bool.false_ne_true
    all_goals exact absurd (show false = true from h) Bool.false_ne_true
  | .fs xs, c, X, W, g, tk, e, h => by
    cases e
    case JoinedStr us pos =>
      have h : (decide (2 ≤ us.length) && chkEs T.C c xs us) = true := h
      simp only [Bool.and_eq_true, decide_eq_true_eq] at h
      have sa := sndFs xs g tk h.2
      match us, h.1, sa with
      | u :: v :: r, _, sa => exact Snd.noTest (snd_fs sa) rfl rfl
    all_goals exact absurd (show false = true from h) Bool.false_ne_true
  | .lc src t cs el own, c, X, W, g, tk, e, h => by
    cases e
    case ListComp elt gs scope pos =>
      match gs, h with
      | [⟨tg, iter, ifs, z⟩], h =>
        have h : (decide (z = 0) && blkC c.N c.sc scope (ownN c own) && notSet iter && sub (tgS t) own && chkSrc T.C c false src tg iter && chkTg (c.blk scope) t tg && chkQ T.C (c.blk scope) cs ifs && chk T.C (c.blk scope) el elt) = true := h
        simp only [Bool.and_eq_true, decide_eq_true_eq] at h
        obtain ⟨⟨⟨⟨⟨⟨⟨rfl, h1⟩, h2⟩, h3⟩, h4⟩, h5⟩, h6⟩, h7⟩ := h
        have hb : BlkOk X.N X.env.scope scope (ownN c own) := by
          rw [g.N, g.sc]
          exact blkOk_by h1
        have key := snd_lc (T := T) (N := N) (W := W) (pos := pos) (own := ownN c own) g (sndSrc src false g tk h4) hb h2 (fun i hi => by rw [ownN_snd]; exact sub_of h3 i hi)
          (fun s H C cl fp => pg_of (good_blk g) t tg h5) (fun s H C cl fp => sndQ cs (good_blk g) takes_blk h6) (fun s H C cl fp => (snd el (good_blk g) takes_blk h7).st)
        rw [ownN_snd] at key
        exact Snd.fresh key (fun _ => rfl) (fun _ _ _ q => nomatch q)
    all_goals exact absurd (show false = true from h) Bool.false_ne_true
  | .dic0, c, X, W, g, tk, e, h => by
    cases e
    case Dict ks vs pos =>
      cases ks with
      | cons _ _ => exact absurd (show false = true from h) Bool.false_ne_true
      | nil =>
        cases vs with
        | cons _ _ => exact absurd (show false = true from h) Bool.false_ne_true
        | nil => exact Snd.fresh snd_dic0 (fun h => absurd (show false = true from h) Bool.false_ne_true) (fun _ _ _ q => nomatch q)
    all_goals exact absurd (show false = true from h) Bool.false_ne_true
  | .dget a k, c, X, W, g, tk, e, h => by
    cases e
    case Subscript u v pos =>
      have h : (notSlice v && lookB c a u (chk T.C c a u) && lookB c k v (chk T.C c k v)) = true := h
      simp only [Bool.and_eq_true] at h
      obtain ⟨⟨h1, h2⟩, h3⟩ := h
      exact Snd.plain (snd_dget g (by intro w z; cases v <;> first | rfl | (cases h1; done)) (look_of g h2 fun q => snd a g tk q).1 (look_of g h3 fun q => snd k g tk q).1) rfl rfl
    all_goals exact absurd (show false = true from h) Bool.false_ne_true
  | .rgt a, c, X, W, g, tk, e, h => by
    cases e
    case Call fn us ks pos =>
      match fn, us, ks, h with
      | .Name m p1, [.Call (.Name n p0) [u] [] pos1], [], h =>
        have h : (decide (m = "tuple") && decide (n = "range") && T.C.fr.contains "tuple" && T.C.fr.contains "range" && glB c "tuple" && glB c "range" && noStar u && lookB c a u (chk T.C c a u)) = true := h
        simp only [Bool.and_eq_true, decide_eq_true_eq] at h
        obtain ⟨⟨⟨⟨⟨⟨⟨rfl, rfl⟩, h1⟩, h2⟩, h3⟩, h4⟩, h5⟩, h6⟩ := h
        exact Snd.plain (snd_rgt g h2 h4 h1 h3 h5 (look_of g h6 fun k => snd a g tk k).1) rfl rfl
    all_goals exact absurd (show false = true from h) Bool.false_ne_true
  | .callk f (.cons _ _) b pm, c, X, W, g, tk, e, h => by
    cases e
    all_goals exact absurd (show false = true from h) Bool.false_ne_true
  | .callk f .nil b pm, c, X, W, g, tk, e, h => by
    cases e
    case Call fn us ks pos =>
      cases fn
      case Name n p0 =>
        cases us with
        | cons _ _ => exact absurd (show false = true from h) Bool.false_ne_true
        | nil =>
          have h : ((match T.C.fnm f with
            | some (m, ps) => decide (n = m) && decide (pm.length = ps.length)
            | none => false) && glB c n && T.C.kw f (kwN ks, pm) && decide (ks.map (·.arg) = (kwN ks).map some) && decide (b.len = (kwN ks).length) && chkKs T.C c b ks) = true := h
          simp only [Bool.and_eq_true, decide_eq_true_eq] at h
          obtain ⟨⟨⟨⟨⟨h1, h2⟩, h3⟩, h4⟩, h5⟩, h6⟩ := h
          cases q : T.C.fnm f with
          | none => rw [q] at h1; cases h1
          | some r =>
            obtain ⟨m, ps⟩ := r
            rw [q] at h1
            simp only [Bool.and_eq_true, decide_eq_true_eq] at h1
            obtain ⟨rfl, hp⟩ := h1
            exact Snd.plain (snd_callk g tk q h3 h2 (sndKs b g tk h6) h4 h5 hp) rfl rfl
      all_goals exact absurd (show false = true from h) Bool.false_ne_true
    all_goals exact absurd (show false = true from h) Bool.false_ne_true
  | .isi a t, c, X, W, g, tk, e, h => by
    cases e
    case Call fn us ks pos =>
      match fn, us, ks, h with
      | .Name f p0, [u, .Name n p1], [], h =>
        have h : (decide (f = "isinstance") && T.C.fr.contains "isinstance" && glB c f && tyB T.C c t n && noStar u && lookB c a u (chk T.C c a u)) = true := h
        simp only [Bool.and_eq_true, decide_eq_true_eq] at h
        obtain ⟨⟨⟨⟨⟨rfl, h2⟩, h3⟩, h4⟩, h5⟩, h6⟩ := h
        exact Snd.plain (snd_isi g h2 h3 h4 (look_of g h6 fun k => snd a g tk k).1 h5) rfl rfl
    all_goals exact absurd (show false = true from h) Bool.false_ne_true
  | .len a, c, X, W, g, tk, e, h => by
    cases e
    case Call fn us ks pos =>
      match fn, us, ks, h with
      | .Name f p0, [u], [], h =>
        have h : (decide (f = "len") && T.C.fr.contains "len" && glB c f && noStar u && chk T.C c a u) = true := h
        simp only [Bool.and_eq_true, decide_eq_true_eq] at h
        obtain ⟨⟨⟨⟨rfl, h2⟩, h3⟩, h4⟩, h5⟩ := h
        exact Snd.plain (snd_len g h2 h3 (snd a g tk h5).st h4) rfl rfl
    all_goals exact absurd (show false = true from h) Bool.false_ne_true
  | .att a n, c, X, W, g, tk, e, h => by
    cases e
    case Attribute u m pos =>
      have h : (decide (n = m) && notCall u && chk T.C c a u) = true := h
      simp only [Bool.and_eq_true, decide_eq_true_eq] at h
      obtain ⟨⟨rfl, h2⟩, h3⟩ := h
      exact Snd.plain (snd_att g h2 (snd a g tk h3).st) rfl rfl
    all_goals exact absurd (show false = true from h) Bool.false_ne_true
  | .mk k a, c, X, W, g, tk, e, h => by
    cases e
    case Call fn us ks pos =>
      cases fn
      case Name n p0 =>
        cases ks
        case nil =>
          have h : (decide (T.C.cls[k]? = some n) && T.C.mks.contains k && glB c n && noStars us && chkEs T.C c a us) = true := h
          simp only [Bool.and_eq_true, decide_eq_true_eq] at h
          obtain ⟨⟨⟨⟨h1, h2⟩, h3⟩, h4⟩, h5⟩ := h
          have hI := g.th.mks k h2
          have sa := sndEs a g tk h5
          cases us with
          | nil =>
            cases a with
            | nil => exact Snd.plain (snd_mk0 g tk h1 hI h3) rfl rfl
            | cons _ _ => exact absurd (show false = true from h5) Bool.false_ne_true
          | cons u us => exact Snd.plain (snd_mk g tk h1 hI h3 sa h4) rfl rfl
        all_goals exact absurd (show false = true from h) Bool.false_ne_true
      all_goals exact absurd (show false = true from h) Bool.false_ne_true
    all_goals exact absurd (show false = true from h) Bool.false_ne_true
  | .mkk k a b pm, c, X, W, g, tk, e, h => by
    cases e
    all_goals exact absurd (show false = true from h) Bool.false_ne_true
  | .um a m b, c, X, W, g, tk, e, h => by
    cases e
    case Call fn us ks pos =>
      cases fn
      case Attribute u n ap =>
        cases ks
        case nil =>
          have h : (decide (m = n) && notCall u && noStars us && (ap.endLine == pos.line) && decide (us.length < 30) && chk T.C c a u && chkEs T.C c b us) = true := h
          simp only [Bool.and_eq_true, decide_eq_true_eq] at h
          obtain ⟨⟨⟨⟨⟨⟨rfl, h2⟩, h3⟩, h4⟩, h5⟩, h6⟩, h7⟩ := h
          have so := (snd a g tk h6).st
          have sa := sndEs b g tk h7
          cases us with
          | nil =>
            cases b with
            | nil => exact Snd.plain (snd_um0 g tk h2 h4 so) rfl rfl
            | cons _ _ => exact absurd (show false = true from h7) Bool.false_ne_true
          | cons u us => exact Snd.plain (snd_um g tk h2 h3 h4 h5 so sa) rfl rfl
        all_goals exact absurd (show false = true from h) Bool.false_ne_true
      all_goals exact absurd (show false = true from h) Bool.false_ne_true
    all_goals exact absurd (show false = true from h) Bool.false_ne_true
theorem sndEs : ∀ (xs : Es) {c : Sx} {X : Cx} {W : WX} (g : Good T c X) (tk : Takes X W) {es : List Expr}, chkEs T.C c xs es = true → PA X es (tA T N W Rep xs)
  | .nil, c, X, W, g, tk, es, h => by
    cases es with
    | nil => exact sndA_nil
    | cons _ _ => exact absurd (show false = true from h) Bool.false_ne_true
  | .cons a xs, c, X, W, g, tk, es, h => by
    cases es with
    | nil => exact absurd (show false = true from h) Bool.false_ne_true
    | cons u us =>
      have h : (noStar u && chk T.C c a u && chkEs T.C c xs us) = true := h
      simp only [Bool.and_eq_true] at h
      exact sndA_cons kept_rep h.1.1 (snd a g tk h.1.2).st (sndEs xs g tk h.2)
theorem sndKs : ∀ (xs : Es) {c : Sx} {X : Cx} {W : WX} (g : Good T c X) (tk : Takes X W) {es : List Keyword}, chkKs T.C c xs es = true → PK X es (tA T N W Rep xs)
  | .nil, c, X, W, g, tk, es, h => by
    cases es with
    | nil => exact sndK_nil
    | cons _ _ => exact absurd (show false = true from h) Bool.false_ne_true
  | .cons a xs, c, X, W, g, tk, es, h => by
    cases es with
    | nil => exact absurd (show false = true from h) Bool.false_ne_true
    | cons u us =>
      obtain ⟨nm, u, kp⟩ := u
      have h : (chk T.C c a u && chkKs T.C c xs us) = true := h
      rw [Bool.and_eq_true] at h
      exact sndK_cons kept_rep (snd a g tk h.1).st (sndKs xs g tk h.2)
theorem sndEsB : ∀ (xs : Es) {c : Sx} {X : Cx} {W : WX} (g : Good T c X) (tk : Takes X W) {es : List Expr}, chkEsB T.C c xs es = true → PA X es (tA T N W RepB xs)
  | .nil, c, X, W, g, tk, es, h => by
    cases es with
    | nil => exact sndA_nil
    | cons _ _ => exact absurd (show false = true from h) Bool.false_ne_true
  | .cons a xs, c, X, W, g, tk, es, h => by
    cases es with
    | nil => exact absurd (show false = true from h) Bool.false_ne_true
    | cons u us =>
      have h : (noStar u && lookB c a u (chk T.C c a u) && chkEsB T.C c xs us) = true := h
      simp only [Bool.and_eq_true] at h
      exact sndA_cons kept_repB h.1.1 (look_of g h.1.2 fun k => snd a g tk k).1 (sndEsB xs g tk h.2)
theorem sndFs : ∀ (xs : Es) {c : Sx} {X : Cx} {W : WX} (g : Good T c X) (tk : Takes X W) {es : List Expr}, chkEs T.C c xs es = true → PJs T N W X es xs
  | .nil, c, X, W, g, tk, es, h => by
    cases es with
    | nil => exact .nil
    | cons _ _ => exact absurd (show false = true from h) Bool.false_ne_true
  | .cons a xs, c, X, W, g, tk, es, h => by
    cases es with
    | nil => exact absurd (show false = true from h) Bool.false_ne_true
    | cons u us =>
      have h : (noStar u && chk T.C c a u && chkEs T.C c xs us) = true := h
      simp only [Bool.and_eq_true] at h
      exact .cons (snd a g tk h.1.2).st (sndFs xs g tk h.2)
theorem sndO : ∀ (xs : Es) {c : Sx} {X : Cx} {W : WX} (g : Good T c X) (tk : Takes X W) {o : Option Expr}, chkO T.C c xs o = true → PO X o (tO T N W xs)
  | .nil, c, X, W, g, tk, o, h => by
    cases o with
    | none => exact sndO_none
    | some _ => exact absurd (show false = true from h) Bool.false_ne_true
  | .cons a .nil, c, X, W, g, tk, o, h => by
    cases o with
    | none => exact absurd (show false = true from h) Bool.false_ne_true
    | some u => exact sndO_some (look_of g (show lookB c a u (chk T.C c a u) = true from h) fun k => snd a g tk k).1
  | .cons a (.cons _ _), c, X, W, g, tk, o, h => by
    cases o <;> exact absurd (show false = true from h) Bool.false_ne_true
theorem sndQ : ∀ (xs : Es) {c : Sx} {X : Cx} {W : WX} (g : Good T c X) (tk : Takes X W) {es : List Expr}, chkQ T.C c xs es = true → PTs X es (tQ T N W xs)
  | .nil, c, X, W, g, tk, es, h => by
    cases es with
    | nil => exact sndQ_nil
    | cons _ _ => exact absurd (show false = true from h) Bool.false_ne_true
  | .cons a .nil, c, X, W, g, tk, es, h => by
    match es, h with
    | [u], h =>
      have h : (lookB c a u (chk T.C c a u) && testE a) = true := h
      rw [Bool.and_eq_true] at h
      exact sndQ_one ((look_of g h.1 fun k => snd a g tk k).2 h.2)
    | [], h => exact absurd (show false = true from h) Bool.false_ne_true
    | _ :: _ :: _, h => exact absurd (show false = true from h) Bool.false_ne_true
  | .cons a (.cons _ _), c, X, W, g, tk, es, h => by
    match es, h with
    | [u], h => exact absurd (show false = true from h) Bool.false_ne_true
    | [], h => exact absurd (show false = true from h) Bool.false_ne_true
    | _ :: _ :: _, h => exact absurd (show false = true from h) Bool.false_ne_true
theorem sndSrc : ∀ (src : Src) (weak : Bool) {c : Sx} {X : Cx} {W : WX} (g : Good T c X) (tk : Takes X W) {tg iter : Expr}, chkSrc T.C c weak src tg iter = true → PI X tg iter (tS T N W weak src)
  | .seq a, weak, c, X, W, g, tk, tg, e, h => by
    cases weak with
    | true => exact sndS_seq g (snd a g tk (show chk T.C c a e = true from h)).st
    | false => exact sndS_seq g (look_of g (show lookB c a e (chk T.C c a e) = true from h) fun k => snd a g tk k).1
  | .rg1 a, weak, c, X, W, g, tk, tg, e, h => by
    cases e
    case Call fn us ks pos =>
      cases fn
      case Name n p0 =>
        match us, ks, h with
        | [u], [], h =>
          have h : (decide (n = "range") && T.C.fr.contains n && glB c n && noStar u && lookB c a u (chk T.C c a u)) = true := h
          simp only [Bool.and_eq_true, decide_eq_true_eq] at h
          obtain ⟨⟨⟨⟨rfl, h1⟩, h2⟩, h3⟩, h4⟩ := h
          exact sndS_rg1 g h1 h2 h3 (look_of g h4 fun k => snd a g tk k).1
      all_goals exact absurd (show false = true from h) Bool.false_ne_true
    all_goals exact absurd (show false = true from h) Bool.false_ne_true
  | .rg2 a b, weak, c, X, W, g, tk, tg, e, h => by
    cases e
    case Call fn us ks pos =>
      cases fn
      case Name n p0 =>
        match us, ks, h with
        | [u, v], [], h =>
          have h : (decide (n = "range") && T.C.fr.contains n && glB c n && noStar u && noStar v && lookB c a u (chk T.C c a u) && lookB c b v (chk T.C c b v)) = true := h
          simp only [Bool.and_eq_true, decide_eq_true_eq] at h
          obtain ⟨⟨⟨⟨⟨⟨rfl, h1⟩, h2⟩, h3⟩, h5⟩, h4⟩, h6⟩ := h
          exact sndS_rg2 g h1 h2 h3 h5 (look_of g h4 fun k => snd a g tk k).1 (look_of g h6 fun k => snd b g tk k).1
      all_goals exact absurd (show false = true from h) Bool.false_ne_true
    all_goals exact absurd (show false = true from h) Bool.false_ne_true
  | .rg3 a b d, weak, c, X, W, g, tk, tg, e, h => by
    cases e
    case Call fn us ks pos =>
      cases fn
      case Name n p0 =>
        match us, ks, h with
        | [u, v, w], [], h =>
          have h : (decide (n = "range") && T.C.fr.contains n && glB c n && noStar u && noStar v && noStar w && lookB c a u (chk T.C c a u) && lookB c b v (chk T.C c b v) && lookB c d w (chk T.C c d w)) = true := h
          simp only [Bool.and_eq_true, decide_eq_true_eq] at h
          obtain ⟨⟨⟨⟨⟨⟨⟨⟨rfl, h1⟩, h2⟩, h3⟩, h5⟩, h7⟩, h4⟩, h6⟩, h8⟩ := h
          exact sndS_rg3 g h1 h2 h3 h5 h7 (look_of g h4 fun k => snd a g tk k).1 (look_of g h6 fun k => snd b g tk k).1 (look_of g h8 fun k => snd d g tk k).1
      all_goals exact absurd (show false = true from h) Bool.false_ne_true
    all_goals exact absurd (show false = true from h) Bool.false_ne_true
  | .rev a, weak, c, X, W, g, tk, tg, e, h => by
    cases tg <;> cases e <;> exact absurd (show false = true from h) Bool.false_ne_true
  | .enum a, weak, c, X, W, g, tk, tg, e, h => by
    cases tg
    case Tuple elts kk tp =>
      cases e
      case Call fn us ks pos =>
        cases fn
        case Name n p0 =>
          match us, ks, h with
          | [u], [], h =>
            have h : (decide (n = "enumerate") && T.C.fr.contains n && glB c n && noStar u && (if weak then chk T.C c a u else lookB c a u (chk T.C c a u))) = true := h
            simp only [Bool.and_eq_true, decide_eq_true_eq] at h
            obtain ⟨⟨⟨⟨rfl, h1⟩, h2⟩, h3⟩, h4⟩ := h
            refine sndS_enum g h1 h2 h3 ?_
            cases weak with
            | true => exact (snd a g tk h4).st
            | false => exact (look_of g h4 fun k => snd a g tk k).1
        all_goals exact absurd (show false = true from h) Bool.false_ne_true
      all_goals exact absurd (show false = true from h) Bool.false_ne_true
    all_goals (cases e <;> exact absurd (show false = true from h) Bool.false_ne_true)
  | .zip a b, weak, c, X, W, g, tk, tg, e, h => by
    cases tg
    case Tuple elts kk tp =>
      cases e
      case Call fn us ks pos =>
        cases fn
        case Name n p0 =>
          match us, ks, h with
          | [u, v], [], h =>
            have h : (decide (n = "zip") && T.C.fr.contains n && glB c n && noStar u && noStar v && (if weak then chk T.C c a u && chk T.C c b v else lookB c a u (chk T.C c a u) && lookB c b v (chk T.C c b v))) = true := h
            simp only [Bool.and_eq_true, decide_eq_true_eq] at h
            obtain ⟨⟨⟨⟨⟨rfl, h1⟩, h2⟩, h3⟩, h5⟩, h4⟩ := h
            have h4' : (if weak then chk T.C c a u && chk T.C c b v else lookB c a u (chk T.C c a u) && lookB c b v (chk T.C c b v)) = true := h4
            cases weak with
            | true =>
              have h4 : (chk T.C c a u && chk T.C c b v) = true := h4'
              rw [Bool.and_eq_true] at h4
              exact sndS_zip g h1 h2 h3 h5 (snd a g tk h4.1).st (snd b g tk h4.2).st
            | false =>
              have h4 : (lookB c a u (chk T.C c a u) && lookB c b v (chk T.C c b v)) = true := h4'
              rw [Bool.and_eq_true] at h4
              exact sndS_zip g h1 h2 h3 h5 (look_of g h4.1 fun k => snd a g tk k).1 (look_of g h4.2 fun k => snd b g tk k).1
        all_goals exact absurd (show false = true from h) Bool.false_ne_true
      all_goals exact absurd (show false = true from h) Bool.false_ne_true
    all_goals (cases e <;> exact absurd (show false = true from h) Bool.false_ne_true)
end
end
end Lv
set_option Elab.async false
set_option linter.all false
set_option maxRecDepth 100000
set_option maxHeartbeats 8000000
/-! Lv15: the checker of statements, and that it is right. -/
namespace Lv
open PySem PySem.Spec PyProof.Rows L2
def isLoc (c : Sx) (n : Str) : Bool := match c.sc.names.lookup n with
  | some .local => true
  | _ => false
/-- a name that may be stored -/
def locB (c : Sx) (i : Nat) (n : Str) : Bool := decide (c.N[i]? = some n) && (match c.sc.names.lookup n with
  | some .local => true
  | some .cell => c.fnB n
  | _ => false)
/-- a comprehension that is stored from within its own block -/
def swp (c : Sx) (n : Str) (pn : Pos) : Expr → Bool
  | .ListComp _ _ s p => isLoc c n && (pn.line == p.line) && !(s.names.any fun (m, k) => m == n && (k == .local || k == .cell))
  | .SetComp _ _ _ _ => true
  | .DictComp _ _ _ _ _ => true
  | _ => false
def notComp : Expr → Bool
  | .ListComp _ _ _ _ => false
  | .SetComp _ _ _ _ => false
  | .DictComp _ _ _ _ _ => false
  | _ => true
def notTup : Expr → Bool
  | .Tuple _ _ _ => false
  | _ => true
mutual
def chkAt (C : Tc) (c : Sx) : At → Expr → Bool
  | .name i, .Name n _ => locB c i n
  | .sub a k, .Subscript x y _ => notSlice y && lookB c a x (chk C c a x) && lookB c k y (chk C c k y)
  | .tup ts, .Tuple es _ _ => chkAts C c ts es
  | _, _ => false
def chkAts (C : Tc) (c : Sx) : List At → List Expr → Bool
  | [], [] => true
  | t :: ts, e :: es => chkAt C c t e && chkAts C c ts es
  | _, _ => false
end
/-- a, b = x, y stored from the right -/
def swapB (c : Sx) (n m : Str) (px py : Pos) (a b : Expr) : Bool :=
  isLoc c n && isLoc c m && !(n == m) && (px.line == py.line) && noStar a && noStar b && !(foldedForSure 8 a && foldedForSure 8 b) && !(constantsAlone 8 a && constantsAlone 8 b)
def lcB (x : E) (e : Expr) : Bool := match x, e with
  | .lc _ _ _ _ _, .ListComp _ [_] _ _ => true
  | _, _ => false
def starN : Expr → Bool
  | .Starred _ _ => true
  | _ => false
/-- values of a tuple that are stored from the left, one by one -/
def swNo (c : Sx) : Expr → Expr → Bool
  | .Tuple ts _ _, .Tuple vs _ _ => !(ts.length == 2 || ts.length == 3) || vs.length != ts.length || (ts.filterMap fun
    | .Name id pos => if isLoc c id && pos.line == ((ts.head?.map (·.pos.line)).getD 0) then some id else none
    | _ => none).length != ts.length
  | .List _ _, .Tuple _ _ _ => false
  | _, _ => true
def setB (C : Tc) (c : Sx) (i : Nat) (x : E) (e : Expr) : List Expr → Bool
  | [.Name n pn] => locB c i n && chk C c x e && (!swp c n pn e || (lcB x e && isFr x))
  | _ => false
def setOB (C : Tc) (c : Sx) (i : Nat) (x : E) (e : Expr) : List Expr → Bool
  | [.Name n pn] => locB c i n && chk C c x e && isFr x && (!swp c n pn e || lcB x e)
  | _ => false
def parB (C : Tc) (c : Sx) (i j : Nat) (x y : E) (oi oj : Bool) : Expr → List Expr → Bool
  | .Tuple [a, b] _ _, [.Tuple [.Name n px, .Name m py] _ _] => decide (c.N[i]? = some n) && decide (c.N[j]? = some m) && decide (i ≠ j) && swapB c n m px py a b && chk C c x a && chk C c y b && (!oi || isFr x) && (!oj || isFr y)
  | _, _ => false
def asgB (C : Tc) (c : Sx) (t : At) (x : E) (e : Expr) : List Expr → Bool
  | [tg] => swNo c tg e && notComp e && chkAt C c t tg && chk C c x e
  | _ => false
def appB (C : Tc) (c : Sx) (i : Nat) (x : E) : Expr → Bool
  | .Call (.Attribute (.Name n _) f ap) [e] [] q => decide (f = "append") && varB c i n && (ap.endLine == q.line) && noStar e && chk C c x e
  | _ => false
def setiB (C : Tc) (c : Sx) (i : Nat) (k x : E) (e : Expr) : List Expr → Bool
  | [.Subscript (.Name n _) b _] => varB c i n && notSlice b && notTup e && notComp e && lookB c k b (chk C c k b) && chk C c x e
  | _ => false
def staB (C : Tc) (c : Sx) (a : E) (f : Str) (x : E) (e : Expr) : List Expr → Bool
  | [.Attribute o n _] => decide (f = n) && notComp e && chk C c a o && chk C c x e
  | _ => false
mutual
def chkS (C : Tc) (c : Sx) : S → Stmt → Bool
  | .set i x, .Assign ts e _ => setB C c i x e ts
  | .setO i x, .Assign ts e _ => setOB C c i x e ts
  | .par i j x y oi oj, .Assign ts e _ => parB C c i j x y oi oj e ts
  | .asg t x, .Assign ts e _ => asgB C c t x e ts
  | .aug i o x, .AugAssign (.Name n _) o' e _ => decide (o = o') && (decide (o = .Add) || decide (o = .Sub)) && locB c i n && chk C c x e
  | .app i x, .Expr u _ => appB C c i x u
  | .seti i k x, .Assign ts e _ => setiB C c i k x e ts
  | .setd i k x, .Assign ts e _ => setiB C c i k x e ts
  | .sta a f x, .Assign ts e _ => staB C c a f x e ts
  | .ex x, .Expr e _ => notComp e && lookB c x e (chk C c x e)
  | .ret x, .Return (some e) _ => chk C c x e
  | .retN, .Return none _ => true
  | .ifs x a b, .If e s1 s2 _ => lookB c x e (chk C c x e) && testE x && chkSs C c a s1 && chkSs C c b s2
  | .lop src t b, .For tg iter bs [] _ => notSet iter && chkSrc C c true src tg iter && chkTg c t tg && chkSs C c b bs
  | .whl x b, .While e bs [] _ => lookB c x e (chk C c x e) && testE x && chkSs C c b bs
  | .brk, .Break _ => true
  | .cnt, .Continue _ => true
  | .pas, .Pass _ => true
  | .bad, _ => true
  | .thru b, .Try bs (_ :: _) [] [] _ => chkSs C c b bs
  | _, _ => false
def chkSs (C : Tc) (c : Sx) : Ss → List Stmt → Bool
  | .nil, [] => true
  | .cons s ss, st :: sts => chkS C c s st && chkSs C c ss sts
  | .frz _ ss, sts => chkSs C c ss sts
  | _, _ => false
end
/-- a context of statements -/
structure GoodS (T : Th) (c : Sx) (W : WX) (X : Cx) : Prop where
  g : Good T c X
  tk : Takes X W
  ps : PassesOwn (model X.prog X.w) X.A X.env X.xe
  kd : c.sc.kind = .function
section
variable {T : Th} {c : Sx} {N : En} {W : WX} {X : Cx} {a b e : Expr} {es : List Expr} {x y z : E} {pos p0 : Pos} {st : S} {ss : Ss} {stm : Stmt} {sts : List Stmt}
theorem GoodS.nox (g : GoodS T c W X) : GoodS T c W0 X.nox := ⟨⟨g.g.th, g.g.calm, g.g.room, g.g.gd, g.g.sc, g.g.N, g.g.nd, g.g.fn⟩, fun u s' ⟨a, B, sI, pins, σ, H, cls, d, e, I, nb, up, sky, na, os, ag, w⟩ => w, PassesOwn.never, g.kd⟩
theorem loc_of (g : Good T c X) {i : Nat} {n : Str} (h : locB c i n = true) : X.N[i]? = some n ∧ Loc X.env.scope n ∧ (X.fn n = true ∨ X.env.scope.names.lookup n = some .local) := by
  unfold locB at h
  rw [Bool.and_eq_true, decide_eq_true_eq] at h
  rw [g.N]
  refine ⟨h.1, ?_⟩
  rw [g.sc]
  have h2 := h.2
  split at h2
  · rename_i q; exact ⟨.inl q, .inr q⟩
  · rename_i q; exact ⟨.inr q, .inl (g.fn n h2)⟩
  · cases h2
theorem isLoc_of (g : Good T c X) {n : Str} (h : isLoc c n = true) : X.env.scope.names.lookup n = some .local := by
  unfold isLoc at h
  rw [g.sc]
  split at h
  · assumption
  · cases h
theorem blk_fn (g : GoodS T c W X) : X.env.blockKind = .function := by
  unfold PySem.Env.blockKind
  rw [g.g.sc, g.kd]
  rfl
theorem sw_no {n : Str} {pn : Pos} {l : Nat} (g : GoodS T c W X) (h : swp c n pn e = false) : swapsWith e (some (.Name n pn)) l X.env = pure false := by
  cases e <;> first | rfl | (cases h; done) | skip
  rename_i elt gs s p
  have hb := blk_fn g
  unfold swapsWith
  simp only [hb, Expr.pos]
  have e1 : (X.env.kindOf n == some .local) = isLoc c n := by
    show (X.env.scope.names.lookup n == some .local) = isLoc c n
    rw [g.g.sc]
    unfold isLoc
    cases c.sc.names.lookup n with
    | none => rfl
    | some k => cases k <;> rfl
  rw [e1]
  have h : (isLoc c n && (pn.line == p.line) && !(s.names.any fun (m, k) => m == n && (k == .local || k == .cell))) = false := h
  show (pure ((ScopeKind.function == ScopeKind.function) && isLoc c n && pn.line == p.line && !(s.names.any fun (m, k) => m == n && (k == .local || k == .cell))) : Sem Bool) = pure false
  have e2 : (ScopeKind.function == ScopeKind.function) = true := rfl
  rw [e2, Bool.true_and, h]
theorem sw_yes {n : Str} {pn : Pos} {l : Nat} {elt : Expr} {gs : List Comprehension} {s : Scope} {p : Pos} (g : GoodS T c W X) (h : swp c n pn (.ListComp elt gs s p) = true) : isLoc c n = true ∧ swapsWith (.ListComp elt gs s p) (some (.Name n pn)) l X.env = pure true := by
  have h : (isLoc c n && (pn.line == p.line) && !(s.names.any fun (m, k) => m == n && (k == .local || k == .cell))) = true := h
  simp only [Bool.and_eq_true, Bool.not_eq_true'] at h
  refine ⟨h.1.1, sw_true (by rw [g.g.sc]; exact g.kd) (isLoc_of g.g h.1.1) h.1.2 h.2⟩
theorem sw_sole {tg : Expr} {l : Nat} (h : notComp e = true) : swapsWithSole [tg] e l X.env = pure false := by
  cases e <;> first | rfl | (cases h; done)
theorem sw_none {l : Nat} (h : notComp e = true) : swapsWith e none l X.env = pure false := by
  cases e <;> first | rfl | (cases h; done)
theorem sw_st {tg : Expr} (h : notTup e = true) : swappedStores [tg] e X.env = pure none := by
  cases tg <;> cases e <;> first | rfl | (cases h; done)
theorem loc_eq (g : Good T c X) (n : Str) : (X.env.kindOf n == some .local) = isLoc c n := by
  show (X.env.scope.names.lookup n == some .local) = isLoc c n
  rw [g.sc]
  unfold isLoc
  cases c.sc.names.lookup n with
  | none => rfl
  | some k => cases k <;> rfl
theorem sw_st2 (g : GoodS T c W X) {tg : Expr} (h : swNo c tg e = true) : swappedStores [tg] e X.env = pure none := by
  by_cases q : notTup e = true
  · exact sw_st q
  · cases e
    case Tuple vs k2 p2 =>
      cases tg
      case Tuple ts k1 p1 =>
        have h : (!(ts.length == 2 || ts.length == 3) || vs.length != ts.length || (ts.filterMap fun
          | .Name id pos => if isLoc c id && pos.line == ((ts.head?.map (·.pos.line)).getD 0) then some id else none
          | _ => none).length != ts.length) = true := h
        have hb := blk_fn g
        have fe : (ts.filterMap fun
          | .Name id pos => if X.env.kindOf id == some .local && pos.line == ((ts.head?.map (·.pos.line)).getD 0) then some id else none
          | _ => none) = (ts.filterMap fun
          | .Name id pos => if isLoc c id && pos.line == ((ts.head?.map (·.pos.line)).getD 0) then some id else none
          | _ => none) := by
          congr 1
          funext u
          cases u <;> first | rfl | skip
          simp only [loc_eq g.g]
        unfold swappedStores
        simp only [hb]
        by_cases h1 : (!(ts.length == 2 || ts.length == 3) || vs.length != ts.length || ScopeKind.function != ScopeKind.function) = true
        · exact if_pos h1
        · refine (if_neg h1).trans ?_
          split
          · rfl
          · have h2 : (!(ts.length == 2 || ts.length == 3) || vs.length != ts.length) = false := by
              have e0 : (ScopeKind.function != ScopeKind.function) = false := rfl
              rw [e0, Bool.or_false] at h1
              simpa using h1
            rw [h2, Bool.false_or] at h
            refine if_pos ?_
            rw [Bool.or_eq_true]
            left
            have z := congrArg List.length fe
            rw [← z] at h
            exact h
      all_goals first | rfl | (cases h; done)
    all_goals exact absurd rfl q
theorem asg_one {t : At} {tg : Expr} (h : chkAt T.C c t tg = true) : ∀ (es : List Expr) (env : PySem.Env), assignEach (tg :: es) env = (false, assign tg env) :: assignEach es env := by
  intro es env
  cases tg <;> first | rfl | (cases t <;> (unfold chkAt at h; cases h))
theorem asgs_len : ∀ {ts : List At} {es : List Expr} {env : PySem.Env}, chkAts T.C c ts es = true → (assignEach es env).length = ts.length ∧ (assignEach es env).findIdx? (·.1) = none
  | [], [], _, _ => ⟨rfl, rfl⟩
  | [], _ :: _, _, h => by unfold chkAts at h; cases h
  | _ :: _, [], _, h => by unfold chkAts at h; cases h
  | t :: ts, e :: es, env, h => by
    unfold chkAts at h
    rw [Bool.and_eq_true] at h
    obtain ⟨h1, h2⟩ := asgs_len (env := env) h.2
    rw [asg_one h.1]
    refine ⟨by rw [List.length_cons, List.length_cons, h1], ?_⟩
    rw [List.findIdx?_cons, h2]
    rfl
mutual
theorem sndAt (g : Good T c X) (tk : Takes X W) : ∀ (t : At) {e : Expr}, chkAt T.C c t e = true → PG X e (gA T N W t)
  | .name i, e, h => by
    cases e
    case Name n pos =>
      have h : locB c i n = true := by unfold chkAt at h; exact h
      obtain ⟨h1, h2, h3⟩ := loc_of g h
      exact pgA_name (pg_name (by rw [g.N]; exact g.nd) h1 h2 h3)
    all_goals (unfold chkAt at h; cases h)
  | .sub a k, e, h => by
    cases e
    case Subscript u v pos =>
      have h : (notSlice v && lookB c a u (chk T.C c a u) && lookB c k v (chk T.C c k v)) = true := by unfold chkAt at h; exact h
      simp only [Bool.and_eq_true] at h
      have s1 := (look_of g h.1.2 fun q => snd (N := N) a g tk q).1
      have s2 := (look_of g h.2 fun q => snd (N := N) k g tk q).1
      exact pgA_sub (b := v) s1 s2 (pg_sub s1 s2 set_list (by intro w; cases v <;> first | rfl | (cases h.1.1; done)))
    all_goals (unfold chkAt at h; cases h)
  | .tup ts, e, h => by
    cases e
    case Tuple es k pos =>
      have h : chkAts T.C c ts es = true := by unfold chkAt at h; exact h
      obtain ⟨h1, h2⟩ := asgs_len (env := X.env) h
      exact pgA_tup g.calm (sndAts g tk ts h) h1 h2
    all_goals (unfold chkAt at h; cases h)
theorem sndAts (g : Good T c X) (tk : Takes X W) : ∀ (ts : List At) {es : List Expr}, chkAts T.C c ts es = true → PGs X es (gAs T N W ts)
  | [], [], _ => pgsA_nil
  | [], _ :: _, h => by unfold chkAts at h; cases h
  | _ :: _, [], h => by unfold chkAts at h; cases h
  | t :: ts, e :: es, h => by
    unfold chkAts at h
    rw [Bool.and_eq_true] at h
    exact pgsA_cons (sndAt g tk t h.1) (sndAts g tk ts h.2) (by rw [asg_one h.1]; rfl)
end
theorem no_st {a b : Expr} (ha : noStar a = true) (hb : noStar b = true) : ([a, b].any fun | .Starred .. => true | _ => false) = false := by
  simp only [List.any_cons, List.any_nil, Bool.or_false, Bool.or_eq_false_iff]
  exact ⟨by cases a <;> first | rfl | (cases ha; done), by cases b <;> first | rfl | (cases hb; done)⟩
theorem swap_of (g : GoodS T c W X) {n m : Str} {px py pt pt2 : Pos} {k1 k2 : Nat} (h : swapB c n m px py a b = true) : swappedStores [.Tuple [.Name n px, .Name m py] k1 pt] (.Tuple [a, b] k2 pt2) X.env = pure (some [n, m]) := by
  unfold swapB at h
  simp only [Bool.and_eq_true, Bool.not_eq_true'] at h
  obtain ⟨⟨⟨⟨⟨⟨⟨h1, h2⟩, h3⟩, h4⟩, h5⟩, h6⟩, h7⟩, h8⟩ := h
  have hb := blk_fn g
  have e1 := isLoc_of g.g h1
  have e2 := isLoc_of g.g h2
  have k1 : (X.env.kindOf n == some .local) = true := by
    show (X.env.scope.names.lookup n == some .local) = true
    rw [e1]; rfl
  have k2 : (X.env.kindOf m == some .local) = true := by
    show (X.env.scope.names.lookup m == some .local) = true
    rw [e2]; rfl
  have e4 : px.line = py.line := eq_of_beq h4
  have st := no_st h5 h6
  have f1 : [a, b].all (foldedForSure 8) = false := by
    rw [List.all_cons, List.all_cons, List.all_nil, Bool.and_true]
    exact h7
  have f2 : [a, b].all (constantsAlone 8) = false := by
    rw [List.all_cons, List.all_cons, List.all_nil, Bool.and_true]
    exact h8
  have nm : ([Expr.Name n px, Expr.Name m py].filterMap fun
    | .Name id pos => if X.env.kindOf id == some .local && pos.line == px.line then some id else none
    | _ => none) = [n, m] := by
    rw [List.filterMap_cons, List.filterMap_cons, List.filterMap_nil]
    simp only [k1, k2, e4, beq_self_eq_true, Bool.and_true, if_true]
  have dd : [n, m].eraseDups.length = 2 := by
    have : (m == n) = false := by
      cases q : m == n with
      | false => rfl
      | true => rw [eq_of_beq q, beq_self_eq_true] at h3; cases h3
    simp only [List.eraseDups_cons, List.filter_cons, List.filter_nil, this, Bool.not_false, if_true, List.eraseDups_nil, List.length_cons, List.length_nil]
  unfold swappedStores
  simp only [hb]
  refine (if_neg Bool.false_ne_true).trans ?_
  refine (if_neg (fun h => Bool.false_ne_true (st.symm.trans h))).trans ?_
  generalize hn : List.filterMap _ _ = L
  have e : L = [n, m] := hn.symm.trans nm
  subst e
  refine (if_neg (fun h => ?_)).trans ?_
  · rw [dd] at h
    exact Bool.false_ne_true h
  refine (if_neg (fun h => Bool.false_ne_true (f1.symm.trans h))).trans ?_
  exact if_neg (fun h => Bool.false_ne_true (f2.symm.trans h))
theorem asg_E (g : GoodS T c W X) {i : Nat} {n : Str} {pn : Pos} (h1 : locB c i n = true) (h2 : chk T.C c x e = true) (h3 : swp c n pn e = false) : PS X (.Assign [.Name n pn] e pos) (tAsg (tE T N W Rep x) (gName i)) := by
  obtain ⟨l1, l2, l3⟩ := loc_of g.g h1
  exact ps_set (by rw [g.g.N]; exact g.g.nd) l1 l2 (snd x g.g g.tk h2).st (sw_no g h3) l3
theorem asg_F (g : GoodS T c W X) {i : Nat} {n : Str} {pn : Pos} (h1 : locB c i n = true) (h2 : chk T.C c x e = true) (h3 : (!swp c n pn e || lcB x e) = true) (hf : isFr x = true) : PS X (.Assign [.Name n pn] e pos) (tAsg (tF T N W x) (gName i)) := by
  obtain ⟨l1, l2, l3⟩ := loc_of g.g h1
  cases q : swp c n pn e with
  | false => exact ps_set (by rw [g.g.N]; exact g.g.nd) l1 l2 ((snd x g.g g.tk h2).fr hf) (sw_no g q) l3
  | true =>
    rw [q] at h3
    have h3 : lcB x e = true := h3
    unfold lcB at h3
    split at h3
    · rename_i src t cs el own elt gen scope p _
      obtain ⟨s1, s2⟩ := sw_yes (l := pos.line) g q
      obtain ⟨tg, iter, ifs, z⟩ := gen
      have L := lc_parts h2
      have z0 := L.z0
      subst z0
      have hb : BlkOk X.N X.env.scope scope (ownN c own) := by
        rw [g.g.N, g.g.sc]
        exact blkOk_by L.blk
      have key := snd_setLc (T := T) (N := N) (W := W) (pos := p) (own := ownN c own) g.g (sndSrc src false g.g g.tk L.src) hb L.ns (fun i hi => by rw [ownN_snd]; exact sub_of L.sb i hi) l1 (isLoc_of g.g s1) s2
        (fun s H C cl fp => pg_of (good_blk g.g) t tg L.tg) (fun s H C cl fp => sndQ cs (good_blk g.g) takes_blk L.cs) (fun s H C cl fp => (snd el (good_blk g.g) takes_blk L.el).st)
      rw [ownN_snd] at key
      exact key
    · cases h3
mutual
theorem sndS : ∀ (st : S) {c : Sx} {W : WX} {X : Cx} (g : GoodS T c W X) {stm : Stmt}, chkS T.C c st stm = true → PS X stm (tSt T N W st)
  | .set i x, c, W, X, g, stm, h => by
    cases stm
    case Assign ts e pos =>
      have h : setB T.C c i x e ts = true := by unfold chkS at h; exact h
      unfold setB at h
      split at h
      · rename_i n pn
        simp only [Bool.and_eq_true] at h
        by_cases hf : isFr x = true
        · exact snd_set (asg_F g h.1.1 h.1.2 (by rw [hf, Bool.and_true] at h; exact h.2) hf)
        · have hf : isFr x = false := by cases q : isFr x <;> first | rfl | exact absurd q hf
          rw [hf, Bool.and_false, Bool.or_false, Bool.not_eq_true'] at h
          exact snd_setE (asg_E g h.1.1 h.1.2 h.2)
      · cases h
    all_goals (unfold chkS at h; cases h)
  | .setO i x, c, W, X, g, stm, h => by
    cases stm
    case Assign ts e pos =>
      have h : setOB T.C c i x e ts = true := by unfold chkS at h; exact h
      unfold setOB at h
      split at h
      · rename_i n pn
        simp only [Bool.and_eq_true] at h
        exact snd_setO (asg_F g h.1.1.1 h.1.1.2 h.2 h.1.2)
      · cases h
    all_goals (unfold chkS at h; cases h)
  | .par i j x y oi oj, c, W, X, g, stm, h => by
    cases stm
    case Assign ts e pos =>
      have h : parB T.C c i j x y oi oj e ts = true := by unfold chkS at h; exact h
      unfold parB at h
      split at h
      · rename_i a b k2 p2 n px m py k1 p1 _
        simp only [Bool.and_eq_true, decide_eq_true_eq] at h
        obtain ⟨⟨⟨⟨⟨⟨⟨h1, h2⟩, h3⟩, h4⟩, h5⟩, h6⟩, h7⟩, h8⟩ := h
        have hs := swap_of (k1 := k1) (k2 := k2) (pt := p1) (pt2 := p2) g h4
        unfold swapB at h4
        simp only [Bool.and_eq_true] at h4
        obtain ⟨⟨⟨⟨⟨⟨⟨l1, l2⟩, l3⟩, l4⟩, l5⟩, l6⟩, l7⟩, l8⟩ := h4
        have sa := snd (N := N) x g.g g.tk h5
        have sb := snd (N := N) y g.g g.tk h6
        exact snd_par g.g (by rw [g.g.N]; exact h1) (by rw [g.g.N]; exact h2) h3 (isLoc_of g.g l1) (isLoc_of g.g l2) l5 l6 (pe_ro sa.st fun q => sa.fr (by rw [q] at h7; exact h7)) (pe_ro sb.st fun q => sb.fr (by rw [q] at h8; exact h8)) hs
      · cases h
    all_goals (unfold chkS at h; cases h)
  | .asg t x, c, W, X, g, stm, h => by
    cases stm
    case Assign ts e pos =>
      have h : asgB T.C c t x e ts = true := by unfold chkS at h; exact h
      unfold asgB at h
      split at h
      · rename_i tg
        simp only [Bool.and_eq_true] at h
        exact snd_asg (snd x g.g g.tk h.2).st (sndAt g.g g.tk t h.1.2) (sw_sole h.1.1.2) (sw_st2 g h.1.1.1) (by rw [asg_one h.1.2]; rfl)
      · cases h
    all_goals (unfold chkS at h; cases h)
  | .aug i o x, c, W, X, g, stm, h => by
    cases stm
    case AugAssign tg o' e pos =>
      cases tg
      case Name n pn =>
        have h : (decide (o = o') && (decide (o = .Add) || decide (o = .Sub)) && locB c i n && chk T.C c x e) = true := by unfold chkS at h; exact h
        simp only [Bool.and_eq_true, Bool.or_eq_true, decide_eq_true_eq] at h
        obtain ⟨⟨⟨rfl, h2⟩, h3⟩, h4⟩ := h
        obtain ⟨l1, l2, l3⟩ := loc_of g.g h3
        exact snd_aug h2 g.g l2 l3 l1 (snd x g.g g.tk h4).st
      all_goals (unfold chkS at h; cases h)
    all_goals (unfold chkS at h; cases h)
  | .app i x, c, W, X, g, stm, h => by
    cases stm
    case Expr u pos =>
      have h : appB T.C c i x u = true := by unfold chkS at h; exact h
      unfold appB at h
      split at h
      · rename_i n pn f ap e q
        simp only [Bool.and_eq_true, decide_eq_true_eq] at h
        obtain ⟨⟨⟨⟨rfl, h2⟩, h3⟩, h4⟩, h5⟩ := h
        exact snd_app g.g h2 h3 h4 (snd x g.g g.tk h5).st
      · cases h
    all_goals (unfold chkS at h; cases h)
  | .seti i k x, c, W, X, g, stm, h => by
    cases stm
    case Assign ts e pos =>
      have h : setiB T.C c i k x e ts = true := by unfold chkS at h; exact h
      unfold setiB at h
      split at h
      · rename_i n pn b pb _
        simp only [Bool.and_eq_true] at h
        obtain ⟨⟨⟨⟨⟨h1, h2⟩, h3⟩, h4⟩, h5⟩, h6⟩ := h
        have sb := (look_of (N := N) g.g h5 fun q => snd k g.g g.tk q).1
        exact snd_seti g.g h1 (snd x g.g g.tk h6).st sb (sw_sole h4) (sw_st h3) (pg_sub (pe_slot g.g h1) sb set_list (by intro w; cases b <;> first | rfl | (cases h2; done)))
      · cases h
    all_goals (unfold chkS at h; cases h)
  | .setd i k x, c, W, X, g, stm, h => by
    cases stm
    case Assign ts e pos =>
      have h : setiB T.C c i k x e ts = true := by unfold chkS at h; exact h
      unfold setiB at h
      split at h
      · rename_i n pn b pb _
        simp only [Bool.and_eq_true] at h
        obtain ⟨⟨⟨⟨⟨h1, h2⟩, h3⟩, h4⟩, h5⟩, h6⟩ := h
        have sb := (look_of (N := N) g.g h5 fun q => snd k g.g g.tk q).1
        exact snd_setd g.g h1 (snd x g.g g.tk h6).st sb (by cases e <;> first | rfl | (cases h4; done))
      · cases h
    all_goals (unfold chkS at h; cases h)
  | .sta a f x, c, W, X, g, stm, h => by
    cases stm
    case Assign ts e pos =>
      have h : staB T.C c a f x e ts = true := by unfold chkS at h; exact h
      unfold staB at h
      split at h
      · rename_i o n p2
        simp only [Bool.and_eq_true, decide_eq_true_eq] at h
        obtain ⟨⟨⟨rfl, h2⟩, h3⟩, h4⟩ := h
        exact snd_sta g.g (snd a g.g g.tk h3).st (snd x g.g g.tk h4).st (by cases e <;> first | rfl | (cases h2; done))
      · cases h
    all_goals (unfold chkS at h; cases h)
  | .ex x, c, W, X, g, stm, h => by
    cases stm
    case Expr e pos =>
      have h : (notComp e && lookB c x e (chk T.C c x e)) = true := by unfold chkS at h; exact h
      rw [Bool.and_eq_true] at h
      exact snd_ex (sw_none h.1) (look_of g.g h.2 fun k => snd x g.g g.tk k).1
    all_goals (unfold chkS at h; cases h)
  | .ret x, c, W, X, g, stm, h => by
    cases stm
    case Return o pos =>
      cases o
      case some e => exact snd_ret (snd x g.g g.tk (by unfold chkS at h; exact h)).st
      all_goals (unfold chkS at h; cases h)
    all_goals (unfold chkS at h; cases h)
  | .retN, c, W, X, g, stm, h => by
    cases stm
    case Return o pos =>
      cases o
      case none => exact snd_retN
      all_goals (unfold chkS at h; cases h)
    all_goals (unfold chkS at h; cases h)
  | .ifs x a b, c, W, X, g, stm, h => by
    cases stm
    case If e s1 s2 pos =>
      have h : (lookB c x e (chk T.C c x e) && testE x && chkSs T.C c a s1 && chkSs T.C c b s2) = true := by unfold chkS at h; exact h
      simp only [Bool.and_eq_true] at h
      exact snd_ifs ((look_of g.g h.1.1.1 fun k => snd x g.g g.tk k).2 h.1.1.2) (sndSs a g h.1.2) (sndSs b g h.2)
    all_goals (unfold chkS at h; cases h)
  | .lop src t b, c, W, X, g, stm, h => by
    cases stm
    case For tg iter bs els pos =>
      cases els
      case nil =>
        have h : (notSet iter && chkSrc T.C c true src tg iter && chkTg c t tg && chkSs T.C c b bs) = true := by unfold chkS at h; exact h
        simp only [Bool.and_eq_true] at h
        exact snd_lop g.g g.ps (sndSrc src true g.g g.tk h.1.1.2) h.1.1.1 (pg_of g.g t tg h.1.2) (sndSs b g h.2)
      all_goals (unfold chkS at h; cases h)
    all_goals (unfold chkS at h; cases h)
  | .whl x b, c, W, X, g, stm, h => by
    cases stm
    case While e bs els pos =>
      cases els
      case nil =>
        have h : (lookB c x e (chk T.C c x e) && testE x && chkSs T.C c b bs) = true := by unfold chkS at h; exact h
        simp only [Bool.and_eq_true] at h
        exact snd_whl g.ps ((look_of g.g h.1.1 fun k => snd x g.g g.tk k).2 h.1.2) (sndSs b g h.2)
      all_goals (unfold chkS at h; cases h)
    all_goals (unfold chkS at h; cases h)
  | .brk, c, W, X, g, stm, h => by
    cases stm
    case Break pos => exact snd_brk
    all_goals (unfold chkS at h; cases h)
  | .cnt, c, W, X, g, stm, h => by
    cases stm
    case Continue pos => exact snd_cnt
    all_goals (unfold chkS at h; cases h)
  | .pas, c, W, X, g, stm, h => by
    cases stm
    case Pass pos => exact snd_pas
    all_goals (unfold chkS at h; cases h)
  | .bad, c, W, X, g, stm, h => snd_bad
  | .thru b, c, W, X, g, stm, h => by
    cases stm
    case Try bs hs els fin pos =>
      match hs, els, fin, h with
      | h0 :: hs, [], [], h =>
        have h : chkSs T.C c b bs = true := by unfold chkS at h; exact h
        exact thru_read (sndSs b g.nox h)
      | [], _, _, h => unfold chkS at h; cases h
      | _ :: _, _ :: _, _, h => unfold chkS at h; cases h
      | _ :: _, [], _ :: _, h => unfold chkS at h; cases h
    all_goals (unfold chkS at h; cases h)
theorem sndSs : ∀ (ss : Ss) {c : Sx} {W : WX} {X : Cx} (g : GoodS T c W X) {sts : List Stmt}, chkSs T.C c ss sts = true → PSs X sts (tSs T N W ss)
  | .nil, c, W, X, g, sts, h => by
    cases sts with
    | nil => exact snd_nil
    | cons _ _ => unfold chkSs at h; cases h
  | .cons s ss, c, W, X, g, sts, h => by
    cases sts with
    | nil => unfold chkSs at h; cases h
    | cons u us =>
      have h : (chkS T.C c s u && chkSs T.C c ss us) = true := by unfold chkSs at h; exact h
      rw [Bool.and_eq_true] at h
      exact snd_cons (sndS s g h.1) (sndSs ss g h.2)
  | .frz i ss, c, W, X, g, sts, h => snd_frz (sndSs ss g (by unfold chkSs at h; exact h))
end
end
end Lv
set_option Elab.async false
set_option linter.all false
set_option maxRecDepth 100000
set_option maxHeartbeats 8000000
/-! Lv16: defs, levels, the law's call. -/
namespace Lv
open PySem PySem.Spec PyProof.Rows L2
section
variable {T : Th} {P : Program} {w : World} {K : PySem.W.Frag} {mg : Str → Option Value} {base : Heap}
theorem RepL.vals_len {M : Md} {p : Rho} {H : Hp} {ds : List D} {vs : List V} (r : RepL M p H ds vs) {n : Nat} (h : vs.length = n) : ds.length = n := by rw [r.length]; exact h
theorem start_get {N : List Str} {vs : List V} {i : Nat} (h : i < N.length) : (L2.start N vs)[i]? = if i < vs.length then (vs[i]?).map some else some none := by
  unfold L2.start
  by_cases hi : i < vs.length
  · rw [if_pos hi, List.getElem?_append_left (by simpa using hi), List.getElem?_map]
  · rw [if_neg hi, List.getElem?_append_right (by simpa using hi), List.getElem?_replicate, if_pos (by rw [List.length_map]; omega)]
/-- a def's entry -/
theorem entry_ok {M : Md} {p : Rho} {s : Sto} {ds : List D} {vs : List V} {H : Hp} {N : List Str} {n : Nat} (ck : CellsOk M p H s) (r : RepL M p H ds vs) (hn : n = N.length) (hl : vs.length ≤ N.length) :
    Ok M ⟨p, H⟩ p (ds.map .val ++ List.replicate (n - ds.length) .und) s (L2.start N vs) H := by
  have e := r.length
  have le : (ds.map Sl.val ++ List.replicate (n - ds.length) Sl.und).length = N.length := by
    rw [List.length_append, List.length_map, List.length_replicate]
    omega
  have lst : (L2.start N vs).length = N.length := by
    unfold L2.start
    rw [List.length_append, List.length_map, List.length_replicate]
    omega
  have nown : ∀ (i : Nat) (x : Sl), (ds.map Sl.val ++ List.replicate (n - ds.length) Sl.und)[i]? = some x → isOwn x = false := fun i x h => by
    have hm := List.mem_of_getElem? h
    rw [List.mem_append] at hm
    rcases hm with hm | hm
    · obtain ⟨d, _, rfl⟩ := List.mem_map.mp hm
      rfl
    · rw [(List.mem_replicate.mp hm).2]
      rfl
  refine ⟨Step.refl p H, ck, by rw [le, lst], fun i x h => ?_, fun i x a h hx => ?_, fun i j x y a h1 h2 hx => ?_⟩
  · have hi : i < N.length := by rw [← le]; exact (List.getElem?_eq_some_iff.mp h).1
    rw [start_get hi]
    by_cases q : i < vs.length
    · rw [if_pos q]
      rw [List.getElem?_append_left (by rw [List.length_map, e]; exact q), List.getElem?_map] at h
      cases q2 : ds[i]? with
      | none => rw [q2] at h; cases h
      | some d =>
        rw [q2] at h
        cases h
        obtain ⟨v, e1, r1⟩ := r.get q2
        exact ⟨some v, by rw [e1]; rfl, v, rfl, r1⟩
    · rw [if_neg q]
      rw [List.getElem?_append_right (by rw [List.length_map]; omega), List.getElem?_replicate] at h
      split at h
      · cases h
        exact ⟨none, rfl, trivial⟩
      · cases h
  · rw [nown i x h] at hx; cases hx
  · rw [nown i x h1] at hx; cases hx
/-- a def by its body -/
theorem fnG_of (th : ThOk T P w K mg base) {x qual : Str} {params : Arguments} {body : List Stmt} {scope : Scope} {dvs : List V} {kws : List (Str × V)} {f : Addr} {fdd : FuncData} {N ps : List Str} (F : FunD K x qual params body scope dvs kws f fdd) (S : FnScope N ps scope) {fd : Fd} (hn : fd.n = N.length)
    (hc : chkSs T.C ⟨scope, N, fun _ => true⟩ fd.b body = true) : FnG P w K mg base (T.k + 3) f fdd ps (spF T.M (fun ds s => runF T.G T.call T.mkc fd ds s) ps.length) := by
  obtain ⟨oc, od, dV, kV, doc, pm, an, cdv, ct, osl, rfl, lk, hcd, _, _⟩ := F.ex
  refine ⟨fun vs H Q E h => spF_len h, fun A outer s H args us vs Q E hr gd e0 hb r hsp => ?_⟩
  have hl := spF_len hsp
  have KX : K.In s.heap := e0.mod.kin.keeps fun b o e => (e0.bs b o e).1
  have lim : s.heap.NoLimit := e0.mod.nolimit.keeps fun b o e => (e0.bs b o e).1
  have hkind : ∀ y ∈ ps.zip us, scope.names.lookup y.1 = some .local ∨ (scope.names.lookup y.1 = some .cell ∧ ((cellsFrom (s.heap.objs.size + 1) scope.names []).lookup y.1).isSome = true) := by
    rintro ⟨n, v⟩ hy
    rcases S.par n (List.of_mem_zip hy).1 with q | q
    · exact Or.inl q
    · exact Or.inr ⟨q, PySem.W.cellsFrom_some _ _ _ (.inl q)⟩
  refine codeAny_call_function hr.depth (KX _ _ lk) rfl S.co S.gen rfl (PySem.W.codeRec_of KX hcd) (hb _ _ _ _ (wpAny_newFunctionEnv_cells S.kind hkind fun env he s1 xc => ?_))
  subst he
  refine ⟨lim.keeps xc.toInCall.keep, codeAny_func ?_⟩
  obtain ⟨p, sto, ds, ck, rl, hd, hsp⟩ := hsp
  let X := cxOf (L2.CX P w) P w K mg base N qual scope f cdv A outer s H E
  have gs : GoodS T ⟨scope, N, fun _ => true⟩ (fun cls d _ H => E cls d H) X := ⟨⟨th, rfl, hr.deeper _, gd, rfl, rfl, S.nd, fun _ _ => rfl⟩, takes_of rfl rfl rfl rfl, passes_of rfl, S.kind⟩
  have body := sndSs (N := ⟨p, H⟩) fd.b gs hc
  have I : Inv X [] (L2.start N vs) H s1 := inv_start S hr.hd e0 hl r xc
  have hpl : vs.length ≤ N.length := by
    have := congrArg List.length S.pre
    rw [List.length_take] at this
    omega
  have o := entry_ok (n := fd.n) ck rl hn hpl
  have rd : tSs T ⟨p, H⟩ (fun cls d _ H => E cls d H) fd.b { nx := fun _ H' => Q .non H', rt := Q } (L2.start N vs) H := by
    refine ⟨p, _, sto, o, ?_⟩
    unfold runF at hsp
    dsimp only at hsp
    cases q : evSs T.G T.call T.mkc fd.b (ds.map .val ++ List.replicate (fd.n - ds.length) .und) sto with
    | nxt env1 s2 =>
      rw [q] at hsp
      exact fun σ' p' H' o' _ => hsp .non p' H' o'.st o'.cells .non
    | ret d s2 =>
      rw [q] at hsp
      exact fun v p' H' st' ck' r' => hsp v p' H' st' ck' r'
    | exc y env1 s2 =>
      rw [q] at hsp
      exact fun cls dd σ' p' H' o' er => hsp cls dd p' H' o'.st o'.cells er
    | brk env1 s2 => rw [q] at hsp; exact hsp.elim
    | cnt env1 s2 => rw [q] at hsp; exact hsp.elim
    | stk => rw [q] at hsp; exact hsp.elim
  refine wpAny_mono (body.run [] s1 (L2.start N vs) H _ I rd) (fun fl s' hs => ?_) fun e s' hs => hs
  have fin : ∀ {σ' : L2.St} {H' : Hp} {v : V} {u : Value}, Inv X [] σ' H' s' → RelV v u → Q v H' → CE outer P w H s Q u s' :=
    fun {σ' H' v u} J rv q => ⟨v, H', J.os, J.bare, J.base, J.hok, rv, q⟩
  cases fl with
  | next =>
    obtain ⟨σ', H', J, q⟩ := hs
    exact fin (v := V.non) (u := Value.none) J rfl q
  | ret u =>
    obtain ⟨v, σ', H', J, rv, q⟩ := hs
    exact fin J rv q
  | brk => exact hs.elim fun _ hs => hs.elim fun _ hs => hs.2.elim
  | cont => exact hs.elim fun _ hs => hs.elim fun _ hs => hs.2.elim
end
/-! ### levels -/
/-- a package: its defs by number, its getters -/
structure Pk where
  G : Gt
  C : Tc
  tab : Nat → Option Fd
def callF (p : Pk) : Nat → Nat → List D → Sto → R D
  | 0, _, _, _ => .stk
  | n + 1, f, ds, s => match p.tab f with
    | some fd => runF p.G (callF p n) (mkF p.G (callF p n)) fd ds s
    | none => .stk
def Pk.th (p : Pk) (M : Md) (n : Nat) : Th := ⟨M, p.G, callF p n, mkF p.G (callF p n), 3 * n, p.C⟩
/-- one def, at an address: its statement keeps to its term -/
structure DfAt (p : Pk) (K : PySem.W.Frag) (f : Nat) (fa : Addr) (ps : List Str) : Prop where
  ex : ∃ (fdd : FuncData) (x qual : Str) (params : Arguments) (body : List Stmt) (scope : Scope) (dvs : List V) (kws : List (Str × V)) (N : List Str) (fd : Fd), Binds K fdd ps [] ∧
    FunD K x qual params body scope dvs kws fa fdd ∧ FnScope N ps scope ∧ p.tab f = some fd ∧ fd.n = N.length ∧ chkSs p.C ⟨scope, N, fun _ => true⟩ fd.b body = true ∧ ∀ q, p.C.kw f q = true → KB K fdd ps q
/-- what must be so of a package behind the top -/
structure PkOk (p : Pk) (M : Md) (K : PySem.W.Frag) (mg : Str → Option Value) : Prop where
  kk : M.K = K
  free : ∀ x, p.C.fr.contains x = true → mg x = none
  cstB : ∀ x, p.C.cst.contains x = true → (p.G.cst x).isSome = true
  cst : ∀ x d, p.G.cst x = some d → ∃ u v, mg x = some u ∧ RelV v u ∧ ownOf d = none ∧ ∀ q H, Rep M q H d v
  fn : ∀ f nm ps, p.C.fnm f = some (nm, ps) → ∃ fa, mg nm = some (.ref fa) ∧ PySem.W.keepIn K (.ref fa) = true ∧ DfAt p K f fa ps
  cln : p.C.cls.length = p.G.ncl
  cls : ∀ k n, p.C.cls[k]? = some n → mg n = some (.ref (M.cA k)) ∧ ClOk K (M.cA k)
  isT : ∀ k, k < p.G.ncl → ∀ s ∈ allNm, PySem.W.kitOne K (.type s) (.ref (M.cA k)) = some false ∧ PySem.W.kitOne K (.ref (M.cA k)) (.type s) = some false
  isC : ∀ k j, k < p.G.ncl → j < p.G.ncl → PySem.W.kitOne K (.ref (M.cA k)) (.ref (M.cA j)) = some (decide (j = k))
  att : ∀ k x, p.G.att k x = some .fld → Cls K (M.cA k) ∧ NoAttr K (M.cA k) x
  prop : ∀ k x f, p.G.att k x = some (.prop f) → Cls K (M.cA k) ∧ ∃ pr ga ps, PropOf K (M.cA k) x pr ga ∧ ps.length = 1 ∧ DfAt p K f ga ps
  mth : ∀ k x f n, p.G.mth k x = some (f, n) → Cls K (M.cA k) ∧ ∃ ga ps, Meth K (M.cA k) x ga ∧ n = ps.length ∧ DfAt p K f ga ps
  mks : ∀ k, p.C.mks.contains k = true → (p.G.ini k).isSome = true
  ini : ∀ k f n, p.G.ini k = some (f, n) → ∃ ga ps, Mk K (M.cA k) ga ∧ n = ps.length ∧ DfAt p K f ga ps
section
variable {p : Pk} {M : Md} {P : Program} {w : World} {K : PySem.W.Frag} {mg : Str → Option Value} {base : Heap}
theorem FnG.imp {k : Nat} {f : Addr} {fd : FuncData} {ps : List Str} {sp sp' : Sp} (F : FnG P w K mg base k f fd ps sp) (h : ∀ vs H Q E, sp' vs H Q E → sp vs H Q E) : FnG P w K mg base k f fd ps sp' :=
  ⟨fun vs H Q E q => F.len vs H Q E (h _ _ _ _ q), fun A outer s H args us vs Q E hr gd e0 hb r q => F.run A outer s H args us vs Q E hr gd e0 hb r (h _ _ _ _ q)⟩
/-- a def's promise at each level -/
theorem fn_up {n : Nat} (th : ThOk (p.th M n) P w K mg base) {f : Nat} {fa : Addr} {ps : List Str} (d : DfAt p K f fa ps) : ∃ fdd, Binds K fdd ps [] ∧ FnG P w K mg base (3 * (n + 1)) fa fdd ps (spF M (callF p (n + 1) f) ps.length) ∧ ∀ q, p.C.kw f q = true → KB K fdd ps q := by
  obtain ⟨fdd, _, _, _, _, _, _, _, N, fd, h3, h4, h5, h6, h7, h8, h9⟩ := d.ex
  refine ⟨fdd, h3, ?_, h9⟩
  have key := fnG_of th h4 h5 h7 h8
  refine FnG.imp key fun vs H Q E q => ?_
  obtain ⟨pp, s, ds, a, b, c, q⟩ := q
  refine ⟨pp, s, ds, a, b, c, ?_⟩
  have e : callF p (n + 1) f ds s = runF (p.th M n).G (p.th M n).call (p.th M n).mkc fd ds s := by
    rw [callF, h6]
    rfl
  rw [e] at q
  exact q
theorem fn_zero {f : Nat} {fa : Addr} {ps : List Str} (d : DfAt p K f fa ps) : ∃ fdd, Binds K fdd ps [] ∧ FnG P w K mg base (3 * 0) fa fdd ps (spF M (callF p 0 f) ps.length) ∧ ∀ q, p.C.kw f q = true → KB K fdd ps q := by
  obtain ⟨fdd, _, _, _, _, _, _, _, N, fd, h3, _, _, _, _, _, h9⟩ := d.ex
  have no : ∀ vs H Q E, ¬ spF M (callF p 0 f) ps.length vs H Q E := fun vs H Q E ⟨_, _, _, _, _, _, q⟩ => q
  exact ⟨fdd, h3, ⟨fun vs H Q E q => (no vs H Q E q).elim, fun A outer s H args us vs Q E hr gd e0 hb r q => (no vs H Q E q).elim⟩, h9⟩
theorem th_of (ok : PkOk p M K mg) (n : Nat) (F : ∀ {f : Nat} {fa : Addr} {ps : List Str}, DfAt p K f fa ps → ∃ fdd, Binds K fdd ps [] ∧ FnG P w K mg base (3 * n) fa fdd ps (spF M (callF p n f) ps.length) ∧ ∀ q, p.C.kw f q = true → KB K fdd ps q) : ThOk (p.th M n) P w K mg base where
  kk := ok.kk
  mk_ := rfl
  cln := ok.cln
  cls := ok.cls
  isT := ok.isT
  isC := ok.isC
  att := ok.att
  free := ok.free
  cstB := ok.cstB
  cst := ok.cst
  mks := ok.mks
  fn := fun f nm ps h => by
    obtain ⟨fa, h1, h2, d⟩ := ok.fn f nm ps h
    obtain ⟨fdd, b, g, kb⟩ := F d
    exact ⟨fa, fdd, h1, h2, b, g, kb⟩
  prop := fun k x f h => by
    obtain ⟨c, pr, ga, ps, h1, h2, d⟩ := ok.prop k x f h
    obtain ⟨fdd, b, g, _⟩ := F d
    exact ⟨c, pr, ga, fdd, ps, h1, h2, b, g⟩
  mth := fun k x f n h => by
    obtain ⟨c, ga, ps, h1, h2, d⟩ := ok.mth k x f n h
    obtain ⟨fdd, b, g, _⟩ := F d
    exact ⟨c, ga, fdd, ps, h1, b, h2, g⟩
  ini := fun k f n h => by
    obtain ⟨ga, ps, h1, h2, d⟩ := ok.ini k f n h
    obtain ⟨fdd, b, g, _⟩ := F d
    exact ⟨ga, fdd, ps, h1, b, h2, g⟩
theorem th_ok (ok : PkOk p M K mg) : ∀ n, ThOk (p.th M n) P w K mg base
  | 0 => th_of ok 0 fun d => fn_zero d
  | n + 1 => th_of ok (n + 1) fun d => fn_up (th_ok ok n) d
end
end Lv
set_option Elab.async false
set_option linter.all false
set_option maxRecDepth 100000
set_option maxHeartbeats 8000000
/-! Lv17: the law's call, from its worth. -/
namespace Lv
open PySem PySem.Spec PyProof.Rows L2
section
variable {P : Program} {w : World} {K : PySem.W.Frag} {mg mb : Str → Option Value} {k : Nat} {fa a : Addr} {fd : FuncData} {x : Str} {sh : Shared} {us : List Value} {ns : List Int} {sp : Sp}
/-- the end that a law's walk asks for -/
def LawEnd (sh : Shared) (r : Result) (s2 : Shared) : Prop := r = .ok (.ret (.bool true)) ∧ PySem.OldK sh.heap s2.heap ∧ s2.os = sh.os ∧ AllBare s2.gens
/-- nothing is known of the heap but the script -/
structure Alone (K : PySem.W.Frag) (P : Program) (w : World) (sh : Shared) (a : Addr) (H : Hp) : Prop where
  hok : HOk P w H sh.heap
  one : ∀ b u, H b = some u → b = a ∧ ∃ o xs, u = .frz o (.lst xs)
  out : ∀ u, H a = some u → K.lookup a = none
theorem hid_in {H : Hp} (al : Alone K P w sh a H) (KX : K.In sh.heap) : K.In (hidT sh.heap H) := fun b o e => by
  refine hidT_get (KX b o e) ?_
  cases q : H b with
  | none => rfl
  | some u =>
    obtain ⟨rfl, _⟩ := al.one b u q
    rw [al.out u q] at e
    cases e
theorem hid_ns {H : Hp} (al : Alone K P w sh a H) (ha : sh.heap.get? a = some { cls := .type "list", data := .seq us.toArray }) {b : Addr} {m : Str → Option Value} (n : sh.heap.Ns b m) : (hidT sh.heap H).Ns b m := by
  obtain ⟨o, es, ep, e, d, r⟩ := n
  refine ⟨o, es, ep, hidT_get e ?_, d, r⟩
  cases q : H b with
  | none => rfl
  | some u =>
    obtain ⟨rfl, _⟩ := al.one b u q
    rw [ha] at e
    cases e
    cases (show Data.seq us.toArray _ = Data.dict es ep from d)
theorem law_core (KX : K.In sh.heap) (n1 : sh.heap.Ns mainGlobals mg) (n2 : sh.heap.Ns builtinsNs mb) (bb : ∀ x : Str, x ≠ "__name__" → mb x = bootBuiltins x) (lim : sh.heap.NoLimit) (g0 : sh.gens = #[])
    (ha : sh.heap.get? a = some { cls := .type "list", data := .seq us.toArray }) (hr : Room k callerA)
    (F : ∀ base : Heap, K.In base → base.Ns mainGlobals mg → ∃ fd, Binds K fd [x] [] ∧ FnG P w K mg base k fa fd [x] sp)
    {H : Hp} (al : Alone K P w sh a H) (hsp : sp [.ref a] H (fun v _ => v = .bl true) fun _ _ _ => False) : codeAny (model P w) callerA (.call (.ref fa) ⟨[.ref a], []⟩) (LawEnd sh) sh := by
  have hb := hid_in al KX
  have hg := hid_ns al ha n1
  have md : Mod K mg (hidT sh.heap H) := ⟨hb, hg, ⟨mb, hid_ns al ha n2, bb⟩, lim.imp fun mc h => ⟨hid_ns al ha h.1, h.2⟩⟩
  have en : Env0 P w K mg (hidT sh.heap H) callerA [] sh H := ⟨rfl, md, fun _ _ e => of_hidT e, Nat.le_of_eq (hidT_size _ _), trivial, fun b q => (nomatch q), al.hok, .of_eq g0⟩
  obtain ⟨fd, bd, Ff⟩ := F _ hb hg
  refine codeAny_mono (Ff.run callerA [] sh H ⟨[.ref a], []⟩ [.ref a] [.ref a] _ _ hr rfl en (bd sh [.ref a] KX rfl) (.cons rfl .nil) hsp) fun r s2 h => ?_
  cases r with
  | error e =>
    obtain ⟨_, _, _, _, _, _, _, _, _, _, _, _, q⟩ := h
    exact q.elim
  | ok fl =>
    cases fl with
    | ret u =>
      obtain ⟨v, H2, os, bare, un, ok2, rv, q⟩ := h
      cases (show v = .bl true from q)
      cases (show u = Value.bool true from rv)
      refine ⟨rfl, PySem.OldK.of_keep fun b o e => ?_, os, bare⟩
      cases z : H b with
      | none => exact un.keep b o e z (fun q => nomatch q) (by simp)
      | some u =>
        obtain ⟨rfl, ob, xs, rfl⟩ := al.one b u z
        have e1 := (al.hok b _ z).1
        rw [e] at e1
        cases e1
        exact (ok2 b _ (un.frzs b _ _ z)).1
    | next => exact h.elim
    | brk => exact h.elim
    | cont => exact h.elim
/-- a list of ints, as the script is -/
def scrO (us : List Value) : Obj := { cls := .type "list", data := .seq us.toArray }
theorem cells0 {M : Md} {H : Hp} {p : Rho} (hc : p.cs = []) (tr : ∀ a, p.F a → H a ≠ none) : CellsOk M p H [] :=
  ⟨by rw [hc]; rfl, by rw [hc]; exact List.nodup_nil, fun b h => (by rw [hc] at h; cases h), tr, fun n b c h => by rw [hc] at h; simp at h⟩
theorem law_run {M : Md} {cf : List D → Sto → R D} {st : Sto} (hM : M.K = K) (KX : K.In sh.heap) (n1 : sh.heap.Ns mainGlobals mg) (n2 : sh.heap.Ns builtinsNs mb) (bb : ∀ x : Str, x ≠ "__name__" → mb x = bootBuiltins x) (lim : sh.heap.NoLimit) (g0 : sh.gens = #[])
    (ha : sh.heap.get? a = some { cls := .type "list", data := .seq us.toArray }) (hi : IntsAre us ns) (hl : ns.length ≤ sizeLine) (hr : Room k callerA)
    (F : ∀ base : Heap, K.In base → base.Ns mainGlobals mg → ∃ fd, Binds K fd [x] [] ∧ FnG P w K mg base k fa fd [x] (spF M cf 1))
    (hcf : cf [.scr ns] [] = .ok (.bl true) st) : codeAny (model P w) callerA (.call (.ref fa) ⟨[.ref a], []⟩) (LawEnd sh) sh := by
  have rv := vals_ints hi
  have fin : ∀ {H : Hp} {p : Rho}, CellsOk M p H [] → ScrAt M p H a ns → spF M cf 1 [.ref a] H (fun v _ => v = .bl true) fun _ _ _ => False := fun {H p} ck sc => by
    refine ⟨p, [], [.scr ns], ck, .cons (.scr sc) .nil, rfl, ?_⟩
    rw [hcf]
    intro v p' H' _ _ r
    cases r
    rfl
  cases q : K.lookup a with
  | some o =>
    have e := KX a o q
    rw [ha] at e
    cases e
    have al : Alone K P w sh a fun _ => none := ⟨fun b u z => (nomatch (show (none : Option HO) = some u from z)), fun b u z => (nomatch z), fun u z => (nomatch z)⟩
    refine law_core KX n1 n2 bb lim g0 ha hr F al (fin (p := ⟨fun _ => False, []⟩) (cells0 rfl fun _ h => h.elim) (.inr ?_))
    exact ⟨_, us.toArray, _, hM ▸ q, rfl, rfl, rfl, by rw [List.size_toArray, hi.length]; exact hl, by simpa using rv⟩
  | none =>
    let H : Hp := fun b => if b = a then some (.frz (scrO us) (.lst (ns.map V.int))) else none
    have Ha : H a = some (.frz (scrO us) (.lst (ns.map V.int))) := if_pos rfl
    have Hx : ∀ b u, H b = some u → b = a ∧ u = .frz (scrO us) (.lst (ns.map V.int)) := fun b u z => by
      by_cases e : b = a
      · have z2 := (if_pos e).symm.trans z
        cases z2
        exact ⟨e, rfl⟩
      · have z2 := (if_neg e).symm.trans z
        cases z2
    have al : Alone K P w sh a H := by
      refine ⟨fun b u z => ?_, fun b u z => ?_, fun u z => q⟩
      · obtain ⟨rfl, rfl⟩ := Hx b u z
        exact ⟨ha, by rw [List.length_map]; exact hl, us, _, rv, ha⟩
      · obtain ⟨e1, e2⟩ := Hx b u z
        exact ⟨e1, _, _, e2⟩
    refine law_core KX n1 n2 bb lim g0 ha hr F al (fin (p := ⟨fun b => b = a, []⟩) (cells0 rfl fun b h => ?_) (.inl ⟨rfl, _, Ha⟩))
    have h : b = a := h
    subst h
    rw [Ha]
    simp
end
/-- a law, walked: F gives the written part, the package, the law's def -/
theorem walk_go {l : PySem.W.OpenLaw} {n j : Nat} {q : Program} {loose : List Str} {XP : (Str → Option Value) → Heap → Prop} {YP : World → Heap → Prop} {d : DefRec} {x : Str} {pk : Pk} {f : Nat}
    (hn : l.most = some n) (hn2 : n ≤ sizeLine) (hdf : d.params.defaults = []) (hr : Room (3 * j) callerA) (hf : pk.C.fnm f = some (d.name, [x]))
    (F : ∀ (w : World) (mg : Str → Option Value) (h : Heap), YP w h → h.Ns mainGlobals mg → ∃ (M : Md), M.K.In h ∧ PkOk pk M M.K mg)
    (worth : ∀ ns : List Int, ns.length ≤ n → ∃ st, callF pk j f [.scr ns] [] = .ok (.bl true) st) : PySem.W.WalkO q loose XP YP l.row.toRowW d [] (fun f vs => PySem.call f vs) := by
  refine Att.attach_call hn hdf fun w s0 sh mg mb fa o pm cd doc a us ns G Y ho hd hcd hmg hobj hints hlen hg => ?_
  obtain ⟨M, KX, ok⟩ := F w mg _ Y G.T.g
  obtain ⟨st, e⟩ := worth ns hlen
  refine law_run (x := x) (M := M) (cf := callF pk j f) rfl KX G.T.g G.T.b G.T.builtins G.T.nolimit hg hobj hints (Nat.le_trans hlen hn2) hr (fun base _ _ => ?_) e
  obtain ⟨fa2, fd, h1, _, h3, h4, _⟩ := (th_ok (P := l.prog) (w := w) (base := base) ok j).fn f d.name [x] hf
  rw [hmg] at h1
  cases h1
  exact ⟨fd, h3, h4⟩
end Lv
set_option Elab.async false
set_option linter.all false
set_option maxRecDepth 100000
set_option maxHeartbeats 8000000
/-! Lv18: a package as it is printed; the facts that the head gives; the law. -/
namespace Lv
open PySem PySem.Spec PyProof.Rows L2
/-- where a def stands: a global, a class's method, a class's property -/
inductive Pl where
  | glo (x : Str) | met (x m : Str) | prp (x m : Str)
  deriving DecidableEq
def prA (K : PySem.W.Frag) (C : Addr) (x : Str) : Addr := match PySem.W.findIn K (.ref C) x with
  | some (some (.ref p)) => p
  | _ => 0
def gtA (K : PySem.W.Frag) (p : Addr) : Addr := match PySem.W.recIn K p "property" with
  | some (.ref g :: _) => g
  | _ => 0
def Pl.ad (K : PySem.W.Frag) : Pl → Addr
  | .glo x => He.ga K x
  | .met x m => He.ma K (He.ga K x) m
  | .prp x m => gtA K (prA K (He.ga K x) m)
structure Df where
  id : Nat
  pl : Pl
  nm : Str
  qual : Str
  ps : List Str
  N : List Str
  st : Stmt
  kw : List (List Str × List Nat)
def Df.da (d : Df) : He5.DefA := { at_ := fun K => d.pl.ad K, name := d.nm, qual := d.qual, params := defArgs d.st, body := defBody d.st, scope := defScope d.st }
structure Cl where
  nm : Str
  flds : List Str
  props : List (Str × Nat)
  mths : List (Str × Nat)
  ini : Option Nat
/-- a package as printed -/
structure Ly where
  ds : List Df
  cls : List Cl
  fr : List Str
  cst : List (Str × D)
  tab : Nat → Option Fd
def Ly.df (y : Ly) (f : Nat) : Option Df := y.ds.find? fun d => d.id == f
def Ly.np (y : Ly) (f : Nat) : Option (Nat × Nat) := (y.df f).map fun d => (f, d.ps.length)
def Ly.pk (y : Ly) : Pk where
  G := {
    ncl := y.cls.length
    att := fun k x => (y.cls[k]?).bind fun c => if c.flds.contains x then some .fld else (c.props.lookup x).map .prop
    mth := fun k x => (y.cls[k]?).bind fun c => (c.mths.lookup x).bind y.np
    ini := fun k => (y.cls[k]?).bind fun c => c.ini.bind y.np
    cst := fun x => y.cst.lookup x }
  C := {
    kw := fun f q => y.ds.all fun d => !(d.id == f) || d.kw.contains q
    fnm := fun f => (y.df f).bind fun d => match d.pl with
      | .glo x => some (x, d.ps)
      | _ => none
    fr := y.fr
    cst := y.cst.map (·.1)
    cls := y.cls.map (·.nm)
    mks := (List.range y.cls.length).filter fun k => ((y.cls[k]?).bind fun c => c.ini.bind y.np).isSome }
  tab := y.tab
/-! ### the facts -/
def scB (N P : List Str) (sc : Scope) : Bool :=
  decide (sc.kind = .function) && !sc.isCoroutine && !sc.isGenerator && decide N.Nodup && decide (N.take P.length = P) && (P.all fun x => decide (sc.names.lookup x = some .local) || decide (sc.names.lookup x = some .cell)) && sc.names.all fun y => !decide (y.2 = .free)
theorem scB_ok {N P : List Str} {sc : Scope} (h : scB N P sc = true) : FnScope N P sc := by
  unfold scB at h
  simp only [Bool.and_eq_true, Bool.not_eq_true', decide_eq_true_eq, List.all_eq_true, Bool.or_eq_true, decide_eq_false_iff_not] at h
  obtain ⟨⟨⟨⟨⟨⟨a, b⟩, c⟩, d⟩, e⟩, f⟩, g⟩ := h
  exact ⟨a, b, c, d, e, f, g⟩
/-- a def's text keeps to its term -/
def Ly.dfB (y : Ly) (d : Df) : Bool := scB d.N d.ps (defScope d.st) && (match y.tab d.id with
  | some fd => decide (fd.n = d.N.length) && chkSs y.pk.C ⟨defScope d.st, d.N, fun _ => true⟩ fd.b (defBody d.st)
  | none => false)
/-- the classes' lists name defs at their places; a global's def bears its name -/
def Ly.plB (y : Ly) : Bool := (y.cls.all fun c => (c.mths.all fun q => decide ((y.df q.2).map (·.pl) = some (.met c.nm q.1))) && (c.props.all fun q => decide ((y.df q.2).map (fun d => (d.pl, d.ps.length)) = some (.prp c.nm q.1, 1))) && (match c.ini with
  | some f => decide ((y.df f).map (·.pl) = some (.met c.nm "__init__"))
  | none => true)) && y.ds.all fun d => match d.pl with
  | .glo x => decide (x = d.nm)
  | _ => true
def oB (a : Option Value) (b : Option (Option Value)) : Bool := decide (b = some a)
def cloB (K : PySem.W.Frag) (x : Str) : Bool := (He.Fa.cls x).ok K && oB (some (.builtin "object.__class__")) (PySem.W.findIn K (.ref (He.ga K x)) "__class__") && oB (some (.builtin "getset_descriptor.__get__")) (PySem.W.specialIn K (.builtin "object.__class__") "__get__") &&
  decide (PySem.W.takesIn K (.builtin "object.__class__") = some true) && decide (PySem.W.mroIn K (He.ga K x) (.type "object") = some true)
def prpB (K : PySem.W.Frag) (x m : Str) : Bool := oB (some (.ref (prA K (He.ga K x) m))) (PySem.W.findIn K (.ref (He.ga K x)) m) && oB (some (.builtin "property.__get__")) (PySem.W.specialIn K (.ref (prA K (He.ga K x) m)) "__get__") && decide (PySem.W.takesIn K (.ref (prA K (He.ga K x) m)) = some true) && (match PySem.W.recIn K (prA K (He.ga K x) m) "property" with
  | some (.ref g :: _) => true
  | _ => false)
def cstB (K : PySem.W.Frag) (x : Str) : D → Bool
  | .int i => (He.Fa.int x i).ok K
  | .str z => (He.Fa.str x z).ok K
  | _ => false
def Ly.clB (y : Ly) (K : PySem.W.Frag) (c : Cl) : Bool := (He.Fa.glo c.nm).ok K && cloB K c.nm && (c.flds.all fun f => (He.Fa.noat c.nm f).ok K) && (c.mths.all fun q => (He.Fa.meth c.nm q.1).ok K) && (c.props.all fun q => prpB K c.nm q.1) && (match c.ini with
    | some _ => (He.Fa.mkr c.nm).ok K
    | none => true) && (allNm.all fun s => decide (PySem.W.kitOne K (.type s) (.ref (He.ga K c.nm)) = some false) && decide (PySem.W.kitOne K (.ref (He.ga K c.nm)) (.type s) = some false))
def Ly.facts (y : Ly) (K : PySem.W.Frag) : Bool := (y.fr.all fun x => (He.Fa.free x).ok K) && (y.cst.all fun q => cstB K q.1 q.2) && (y.ds.all fun d => match d.pl with
    | .glo x => (He.Fa.glo x).ok K
    | _ => true) && (y.cls.all fun c => y.clB K c) && (List.range y.cls.length).all fun k => (List.range y.cls.length).all fun j => match y.cls[k]?, y.cls[j]? with
      | some a, some b => decide (PySem.W.kitOne K (.ref (He.ga K a.nm)) (.ref (He.ga K b.nm)) = some (decide (j = k)))
      | _, _ => true
/-- what the head reads off the heap -/
def Ly.see (y : Ly) (K : PySem.W.Frag) : He.AlD := (y.facts K && y.ds.all fun d => d.da.ok K, y.ds.map fun d => He5.fnA K (d.pl.ad K))
def Ly.seen (y : Ly) : He.AlD := (true, y.ds.map fun d => d.da.val)
def Ly.part (n : Nat) (g : Addr → Option Obj) : PySem.W.Frag := He.frG g (He5.asA g n)
def Ly.hook (y : Ly) (n : Nat) : PySem.W.Hook where
  α := He.AlD
  obs := fun s => y.see (Ly.part n s.heap.get?)
  val := fun _ => y.seen
  says := fun _ h => ∃ K : PySem.W.Frag, K.In h ∧ y.see K = y.seen
  of := fun _ _ e => ⟨_, He.frG_in, e⟩
  keeps := fun _ _ _ q k => q.elim fun K z => ⟨K, PySem.W.Frag.In.keeps z.1 k, z.2⟩
def Ly.md (y : Ly) (K : PySem.W.Frag) : Md := ⟨fun k => match y.cls[k]? with
  | some c => He.ga K c.nm
  | none => 0, fun _ => [], K⟩
/-- how a def's arguments bind -/
def Df.Bd0 (d : Df) : Prop := ∀ (kV doc pm : Value) (an : Option Addr) (cdv ct : Value) (us : List Value), us.length = d.ps.length → bindArgs (PySem.W.fnOf d.nm d.qual (defArgs d.st) (defBody d.st) (defScope d.st) .none kV doc pm an cdv ct) ⟨us, []⟩ = pure (d.ps.zip us)
/-- how it binds by names alone -/
def Df.Kw (d : Df) (q : List Str × List Nat) : Prop := ∀ (kV doc pm : Value) (an : Option Addr) (cdv ct : Value) (ws : List Value), ws.length = q.1.length → bindArgs (PySem.W.fnOf d.nm d.qual (defArgs d.st) (defBody d.st) (defScope d.st) .none kV doc pm an cdv ct) ⟨[], q.1.zip ws⟩ = pure (d.ps.zip (q.2.map fun k => ws.getD k .none))
inductive AllKw (d : Df) : List (List Str × List Nat) → Prop where
  | nil : AllKw d []
  | cons {q : List Str × List Nat} {qs : List (List Str × List Nat)} (h : d.Kw q) (t : AllKw d qs) : AllKw d (q :: qs)
theorem AllKw.of {d : Df} {l : List (List Str × List Nat)} (h : AllKw d l) : ∀ q ∈ l, d.Kw q := by
  induction h with
  | nil => intro q h; cases h
  | cons h t ih =>
    intro q hq
    rcases List.mem_cons.mp hq with rfl | hq
    · exact h
    · exact ih q hq
def Df.Bd (d : Df) : Prop := d.Bd0 ∧ AllKw d d.kw
inductive AllBd : List Df → Prop where
  | nil : AllBd []
  | cons {d : Df} {ds : List Df} (h : d.Bd) (t : AllBd ds) : AllBd (d :: ds)
theorem AllBd.of {ds : List Df} (h : AllBd ds) : ∀ d ∈ ds, d.Bd := by
  induction h with
  | nil => intro d h; cases h
  | cons h t ih =>
    intro d hd
    rcases List.mem_cons.mp hd with rfl | hd
    · exact h
    · exact ih d hd
section
variable {y : Ly} {K : PySem.W.Frag} {h : Heap} {mg : Str → Option Value}
theorem df_mem {f : Nat} {d : Df} (e : y.df f = some d) : d ∈ y.ds ∧ d.id = f := by
  unfold Ly.df at e
  exact ⟨List.mem_of_find?_eq_some e, by have := List.find?_some e; exact eq_of_beq this⟩
theorem see_def (e : y.see K = y.seen) {d : Df} (hd : d ∈ y.ds) : ∃ fd, FunD K d.nm d.qual (defArgs d.st) (defBody d.st) (defScope d.st) [] [] (d.pl.ad K) fd := by
  have e1 : (y.facts K && y.ds.all fun d => d.da.ok K) = true := congrArg (fun z : He.AlD => z.1) e
  have e2 : (y.ds.map fun d => He5.fnA K (d.pl.ad K)) = y.ds.map fun d => d.da.val := congrArg (fun z : He.AlD => z.2) e
  obtain ⟨i, hi⟩ := List.getElem?_of_mem hd
  have e3 := congrArg (fun l => l[i]?) e2
  simp only [List.getElem?_map, hi, Option.map_some, Option.some.injEq] at e3
  exact He5.DefA.funD (d := d.da) e3 (List.all_eq_true.mp (Bool.and_eq_true_iff.mp e1).2 d hd)
theorem df_at (e : y.see K = y.seen) (st : (y.ds.all fun d => y.dfB d) = true) (bd : AllBd y.ds) {d : Df} (hd : d ∈ y.ds) : DfAt y.pk K d.id (d.pl.ad K) d.ps := by
  obtain ⟨fd, F⟩ := see_def e hd
  have c := List.all_eq_true.mp st d hd
  unfold Ly.dfB at c
  rw [Bool.and_eq_true] at c
  obtain ⟨c1, c2⟩ := c
  cases q : y.tab d.id with
  | none => rw [q] at c2; cases c2
  | some t =>
    rw [q] at c2
    have c2 : (decide (t.n = d.N.length) && chkSs y.pk.C ⟨defScope d.st, d.N, fun _ => true⟩ t.b (defBody d.st)) = true := c2
    rw [Bool.and_eq_true, decide_eq_true_eq] at c2
    refine ⟨fd, d.nm, d.qual, _, _, _, _, _, d.N, t, FunD.bindsN F (bd.of d hd).1, F, scB_ok c1, q, c2.1, c2.2, fun q hq => ?_⟩
    have hq : (y.ds.all fun z => !(z.id == d.id) || z.kw.contains q) = true := hq
    have h1 := List.all_eq_true.mp hq d hd
    rw [show (d.id == d.id) = true from beq_self_eq_true _, Bool.not_true, Bool.false_or] at h1
    have h2 := (bd.of d hd).2.of q (by simpa using h1)
    obtain ⟨oc, od, dV, kV, doc, pm, an, cdv, ct, osl, rfl, lk, hcd, hD, hK⟩ := F.ex
    rcases hD with ⟨_, rfl⟩ | ⟨e, _⟩
    · exact fun s ws _ hl => .of_eq (h2 kV doc pm an cdv ct ws hl)
    · exact absurd rfl e
theorem clo_ok {x : Str} (h : cloB K x = true) : ClOk K (He.ga K x) := by
  unfold cloB oB at h
  simp only [Bool.and_eq_true, decide_eq_true_eq] at h
  obtain ⟨⟨⟨⟨a, b⟩, c⟩, d⟩, e⟩ := h
  exact ⟨He.cls_ok a, b, c, d, e⟩
theorem prp_ok {x m : Str} (h : prpB K x m = true) : PropOf K (He.ga K x) m (prA K (He.ga K x) m) (gtA K (prA K (He.ga K x) m)) := by
  unfold prpB oB at h
  simp only [Bool.and_eq_true, decide_eq_true_eq] at h
  obtain ⟨⟨⟨a, b⟩, c⟩, d⟩ := h
  refine ⟨a, b, c, ?_⟩
  unfold gtA
  split at d
  · rename_i g rest q
    rw [q]
    exact ⟨rest, rfl⟩
  · cases d
theorem pk_ok (KX : K.In h) (ns : h.Ns mainGlobals mg) (e : y.see K = y.seen) (st : (y.ds.all fun d => y.dfB d) = true) (pl : y.plB = true) (bd : AllBd y.ds) : PkOk y.pk (y.md K) K mg := by
  have ef : y.facts K = true := (Bool.and_eq_true_iff.mp (show (y.facts K && y.ds.all fun d => d.da.ok K) = true from congrArg (fun z : He.AlD => z.1) e)).1
  unfold Ly.facts at ef
  simp only [Bool.and_eq_true] at ef
  obtain ⟨⟨⟨⟨f1, f2⟩, f3⟩, f4⟩, f5⟩ := ef
  unfold Ly.plB at pl
  rw [Bool.and_eq_true] at pl
  have cl_at : ∀ {k : Nat} {c : Cl}, y.cls[k]? = some c → y.clB K c = true ∧ (y.md K).cA k = He.ga K c.nm := fun {k c} q => ⟨List.all_eq_true.mp f4 c (List.mem_of_getElem? q), by show (match y.cls[k]? with | some c => He.ga K c.nm | none => 0) = _; rw [q]⟩
  have parts : ∀ {c : Cl}, y.clB K c = true → (He.Fa.glo c.nm).ok K = true ∧ cloB K c.nm = true ∧ (c.flds.all fun f => (He.Fa.noat c.nm f).ok K) = true ∧ (c.mths.all fun q => (He.Fa.meth c.nm q.1).ok K) = true ∧ (c.props.all fun q => prpB K c.nm q.1) = true ∧ (match c.ini with
    | some _ => (He.Fa.mkr c.nm).ok K
    | none => true) = true ∧ (allNm.all fun s => decide (PySem.W.kitOne K (.type s) (.ref (He.ga K c.nm)) = some false) && decide (PySem.W.kitOne K (.ref (He.ga K c.nm)) (.type s) = some false)) = true := fun {c} q => by
    unfold Ly.clB at q
    simp only [Bool.and_eq_true] at q
    obtain ⟨⟨⟨⟨⟨⟨a, b⟩, c⟩, d⟩, e⟩, f⟩, g⟩ := q
    exact ⟨a, b, c, d, e, f, g⟩
  refine { kk := rfl, free := fun x hx => ?_, cstB := fun x hx => ?_, cst := fun x d hx => ?_, fn := fun f nm ps hf => ?_, cln := ?_, cls := fun k n hk => ?_, isT := fun k hk s hs => ?_, isC := fun k j hk hj => ?_, att := fun k x hk => ?_, prop := fun k x f hk => ?_, mth := fun k x f n hk => ?_, mks := fun k hk => ?_, ini := fun k f n hk => ?_ }
  · have hx2 : y.fr.contains x = true := hx
    exact He.free_ok KX ns (List.all_eq_true.mp f1 x (by simpa using hx2))
  · have hx : x ∈ y.cst.map (·.1) := by simpa [Ly.pk] using hx
    obtain ⟨q, hq, rfl⟩ := List.mem_map.mp hx
    show (y.cst.lookup q.1).isSome = true
    have : ∀ l : List (Str × D), q ∈ l → (l.lookup q.1).isSome = true := by
      intro l
      induction l with
      | nil => intro h; cases h
      | cons z l ih =>
        intro h
        obtain ⟨zk, zd⟩ := z
        by_cases e : (q.1 == zk) = true
        · simp only [List.lookup, e]; rfl
        · have e : (q.1 == zk) = false := by cases k : q.1 == zk <;> first | rfl | exact absurd k e
          simp only [List.lookup, e]
          rcases List.mem_cons.mp h with rfl | h
          · simp at e
          · exact ih h
    exact this _ hq
  · have hx : y.cst.lookup x = some d := hx
    have hm := PySem.mem_of_lookup hx
    have c := List.all_eq_true.mp f2 _ hm
    cases d with
    | int i =>
      obtain ⟨t, e⟩ := He.int_ok KX ns (show (He.Fa.int x i).ok K = true from c)
      exact ⟨_, .int i, e, ⟨t, rfl⟩, rfl, fun _ _ => .int i⟩
    | str z =>
      obtain ⟨t, e⟩ := He.str_ok KX ns (show (He.Fa.str x z).ok K = true from c)
      exact ⟨_, .str z, e, ⟨t, rfl⟩, rfl, fun _ _ => .str z⟩
    | _ => exact absurd (show false = true from c) Bool.false_ne_true
  · have hf0 : (y.df f).bind (fun d => match d.pl with | .glo x => some (x, d.ps) | _ => none) = some (nm, ps) := hf
    cases q : y.df f with
    | none => rw [q] at hf0; cases hf0
    | some d =>
      rw [q] at hf0
      obtain ⟨hd, rfl⟩ := df_mem q
      have hf2 : (match d.pl with | .glo x => some (x, d.ps) | _ => none) = some (nm, ps) := hf0
      have g := df_at e st bd hd
      have f3d := List.all_eq_true.mp f3 d hd
      obtain ⟨fdd, F⟩ := see_def e hd
      cases q2 : d.pl with
      | glo x =>
        rw [q2] at hf2 f3d
        cases hf2
        have ea : d.pl.ad K = He.ga K nm := by rw [q2]; rfl
        rw [ea] at g F
        exact ⟨_, He.glo_ok KX ns f3d, F.kp, g⟩
      | met _ _ => rw [q2] at hf2; cases hf2
      | prp _ _ => rw [q2] at hf2; cases hf2
  · show (y.cls.map (·.nm)).length = y.cls.length
    rw [List.length_map]
  · have hk : (y.cls.map (·.nm))[k]? = some n := hk
    rw [List.getElem?_map] at hk
    cases q : y.cls[k]? with
    | none => rw [q] at hk; cases hk
    | some c =>
      rw [q] at hk
      cases hk
      obtain ⟨c1, c2⟩ := cl_at q
      obtain ⟨p1, p2, _⟩ := parts c1
      rw [c2]
      exact ⟨He.glo_ok KX ns p1, clo_ok p2⟩
  · have hk : k < y.cls.length := hk
    have q := List.getElem?_eq_getElem hk
    obtain ⟨c1, c2⟩ := cl_at q
    obtain ⟨_, _, _, _, _, _, p7⟩ := parts c1
    rw [c2]
    have z := List.all_eq_true.mp p7 s hs
    rw [Bool.and_eq_true, decide_eq_true_eq, decide_eq_true_eq] at z
    exact z
  · have hk : k < y.cls.length := hk
    have hj : j < y.cls.length := hj
    have q := List.getElem?_eq_getElem hk
    have q2 := List.getElem?_eq_getElem hj
    have z := List.all_eq_true.mp (List.all_eq_true.mp f5 k (List.mem_range.mpr hk)) j (List.mem_range.mpr hj)
    rw [q, q2] at z
    rw [(cl_at q).2, (cl_at q2).2]
    exact of_decide_eq_true z
  · have hk : (y.cls[k]?).bind (fun c => if c.flds.contains x then some Att.fld else (c.props.lookup x).map .prop) = some .fld := hk
    cases q : y.cls[k]? with
    | none => rw [q] at hk; cases hk
    | some c =>
      rw [q] at hk
      have hk : (if c.flds.contains x then some Att.fld else (c.props.lookup x).map .prop) = some .fld := hk
      obtain ⟨c1, c2⟩ := cl_at q
      obtain ⟨_, p2, p3, _⟩ := parts c1
      rw [c2]
      refine ⟨(clo_ok p2).cl, ?_⟩
      split at hk
      · rename_i hc
        exact He.noat_ok (List.all_eq_true.mp p3 x (by simpa using hc))
      · cases z : c.props.lookup x <;> rw [z] at hk <;> cases hk
  · have hk : (y.cls[k]?).bind (fun c => if c.flds.contains x then some Att.fld else (c.props.lookup x).map .prop) = some (.prop f) := hk
    cases q : y.cls[k]? with
    | none => rw [q] at hk; cases hk
    | some c =>
      rw [q] at hk
      have hk : (if c.flds.contains x then some Att.fld else (c.props.lookup x).map .prop) = some (.prop f) := hk
      obtain ⟨c1, c2⟩ := cl_at q
      obtain ⟨_, p2, _, _, p5, _⟩ := parts c1
      rw [c2]
      refine ⟨(clo_ok p2).cl, ?_⟩
      split at hk
      · cases hk
      · cases z : c.props.lookup x with
        | none => rw [z] at hk; cases hk
        | some f2 =>
          rw [z] at hk
          cases hk
          have hm := PySem.mem_of_lookup z
          have pp := prp_ok (List.all_eq_true.mp p5 _ hm)
          have cc := List.all_eq_true.mp pl.1 c (List.mem_of_getElem? q)
          simp only [Bool.and_eq_true] at cc
          have cp := of_decide_eq_true (List.all_eq_true.mp cc.1.2 _ hm)
          cases z2 : y.df f with
          | none => rw [z2] at cp; cases cp
          | some d =>
            rw [z2] at cp
            have cp2 : some (d.pl, d.ps.length) = some (Pl.prp c.nm x, 1) := cp
            simp only [Option.some.injEq, Prod.mk.injEq] at cp2
            obtain ⟨hd, rfl⟩ := df_mem z2
            have g := df_at e st bd hd
            rw [cp2.1] at g
            exact ⟨_, _, d.ps, pp, cp2.2, g⟩
  · have hk : (y.cls[k]?).bind (fun c => (c.mths.lookup x).bind y.np) = some (f, n) := hk
    cases q : y.cls[k]? with
    | none => rw [q] at hk; cases hk
    | some c =>
      rw [q] at hk
      have hk : (c.mths.lookup x).bind y.np = some (f, n) := hk
      obtain ⟨c1, c2⟩ := cl_at q
      obtain ⟨_, p2, _, p4, _⟩ := parts c1
      rw [c2]
      refine ⟨(clo_ok p2).cl, ?_⟩
      cases z : c.mths.lookup x with
      | none => rw [z] at hk; cases hk
      | some f2 =>
        rw [z] at hk
        have hk : (y.df f2).map (fun d => (f2, d.ps.length)) = some (f, n) := hk
        have hm := PySem.mem_of_lookup z
        have pp := He.meth_ok (List.all_eq_true.mp p4 _ hm)
        have cc := List.all_eq_true.mp pl.1 c (List.mem_of_getElem? q)
        simp only [Bool.and_eq_true] at cc
        have cp := of_decide_eq_true (List.all_eq_true.mp cc.1.1 _ hm)
        cases z2 : y.df f2 with
        | none => rw [z2] at cp; cases cp
        | some d =>
          rw [z2] at cp hk
          cases hk
          have cp2 : some d.pl = some (Pl.met c.nm x) := cp
          simp only [Option.some.injEq] at cp2
          obtain ⟨hd, rfl⟩ := df_mem z2
          have g := df_at e st bd hd
          rw [cp2] at g
          exact ⟨_, d.ps, pp, rfl, g⟩
  · have hk : k ∈ (List.range y.cls.length).filter fun k => ((y.cls[k]?).bind fun c => c.ini.bind y.np).isSome := by simpa [Ly.pk] using hk
    exact (List.mem_filter.mp hk).2
  · have hk : (y.cls[k]?).bind (fun c => c.ini.bind y.np) = some (f, n) := hk
    cases q : y.cls[k]? with
    | none => rw [q] at hk; cases hk
    | some c =>
      rw [q] at hk
      have hk : c.ini.bind y.np = some (f, n) := hk
      obtain ⟨c1, c2⟩ := cl_at q
      obtain ⟨_, _, _, _, _, p6, _⟩ := parts c1
      rw [c2]
      cases z : c.ini with
      | none => rw [z] at hk; cases hk
      | some f2 =>
        rw [z] at hk p6
        have hk : (y.df f2).map (fun d => (f2, d.ps.length)) = some (f, n) := hk
        have pp := He.mkr_ok p6
        have cc := List.all_eq_true.mp pl.1 c (List.mem_of_getElem? q)
        simp only [Bool.and_eq_true, z] at cc
        have cp := of_decide_eq_true cc.2
        cases z2 : y.df f2 with
        | none => rw [z2] at cp; cases cp
        | some d =>
          rw [z2] at cp hk
          cases hk
          have cp2 : some d.pl = some (Pl.met c.nm "__init__") := cp
          simp only [Option.some.injEq] at cp2
          obtain ⟨hd, rfl⟩ := df_mem z2
          have g := df_at e st bd hd
          rw [cp2] at g
          exact ⟨_, d.ps, pp, rfl, g⟩
end
end Lv
set_option Elab.async false
set_option linter.all false
set_option maxRecDepth 100000
set_option maxHeartbeats 1000000
/-! P1: the small language evaluated step by step: each step's rest has a name, so that rows for simp only stay at the head. -/
namespace Lv
open PySem
theorem rf {α : Sort _} {a b : α} (h : a = b) : a = b := h
abbrev CF := Nat → List D → Sto → R D
section
variable {α β : Type}
variable {G : Gt} {c m : CF} {env : Env} {s : Sto}
/-! rests -/
def kBin (G : Gt) (c m : CF) (o : Operator) (b : E) (env : Env) : D → Sto → R D := fun x s1 => (ev G c m b env s1).bind fun y s2 => lift (dBin o x y) s2
def kBin2 (o : Operator) (x : D) : D → Sto → R D := fun y s2 => lift (dBin o x y) s2
def kNeg : D → Sto → R D := fun x s1 => match x with
  | .int i => .ok (.int (-i)) s1
  | _ => .stk
def kCmp (G : Gt) (c m : CF) (o : CmpOp) (b : E) (env : Env) : D → Sto → R D := fun x s1 => (ev G c m b env s1).bind fun y s2 => lift ((dCmp o x y).map .bl) s2
def kCmp2 (o : CmpOp) (x : D) : D → Sto → R D := fun y s2 => lift ((dCmp o x y).map .bl) s2
def cChn (G : Gt) (c m : CF) (o2 : CmpOp) (y : D) (e : E) (env : Env) (s2 : Sto) : Option Bool → R D
  | some true => (ev G c m e env s2).bind fun z s3 => lift ((dCmp o2 y z).map .bl) s3
  | some false => .ok (.bl false) s2
  | none => .stk
def kChn (G : Gt) (c m : CF) (o1 o2 : CmpOp) (b e : E) (env : Env) : D → Sto → R D := fun x s1 => (ev G c m b env s1).bind fun y s2 => cChn G c m o2 y e env s2 (dCmp o1 x y)
def kChn2 (G : Gt) (c m : CF) (o1 o2 : CmpOp) (x : D) (e : E) (env : Env) : D → Sto → R D := fun y s2 => cChn G c m o2 y e env s2 (dCmp o1 x y)
def kAnd (G : Gt) (c m : CF) (b : E) (env : Env) : D → Sto → R D := fun x s1 => match x with
  | .bl true => ev G c m b env s1
  | .bl false => .ok (.bl false) s1
  | _ => .stk
def kOr (G : Gt) (c m : CF) (b : E) (env : Env) : D → Sto → R D := fun x s1 => match x with
  | .bl true => .ok (.bl true) s1
  | .bl false => ev G c m b env s1
  | _ => .stk
def kNot : D → Sto → R D := fun x s1 => match x with
  | .bl b => .ok (.bl (!b)) s1
  | _ => .stk
def cIte (G : Gt) (c m : CF) (a b : E) (env : Env) (s : Sto) : Option Bool → R D
  | some true => ev G c m a env s
  | some false => ev G c m b env s
  | none => .stk
def kIte (G : Gt) (c m : CF) (a b : E) (env : Env) : D → Sto → R D := fun x s1 => cIte G c m a b env s1 (dTru x)
def kIdx (G : Gt) (c m : CF) (i : E) (env : Env) : D → Sto → R D := fun x s1 => (ev G c m i env s1).bind fun y s2 => lift (dIdxS s2 x y) s2
def kIdx2 (x : D) : D → Sto → R D := fun y s2 => lift (dIdxS s2 x y) s2
def kSl (G : Gt) (c m : CF) (lo hi : Es) (env : Env) : D → Sto → R D := fun x s1 => ((evs G c m lo env s1).bind fun l s2 => lift (optI l) s2).bind fun l' s2 =>
      ((evs G c m hi env s2).bind fun h s3 => lift (optI h) s3).bind fun h' s3 => lift (dSl x l' h') s3
def kOptI : List D → Sto → R (Option Int) := fun l s => lift (optI l) s
def kSl2 (G : Gt) (c m : CF) (x : D) (hi : Es) (env : Env) : Option Int → Sto → R D := fun l' s2 => ((evs G c m hi env s2).bind kOptI).bind fun h' s3 => lift (dSl x l' h') s3
def kSl3 (x : D) (l' : Option Int) : Option Int → Sto → R D := fun h' s3 => lift (dSl x l' h') s3
def kDget2 (x : D) : D → Sto → R D := fun y s2 => lift (dDget x y) s2
def kDget (G : Gt) (c m : CF) (k : E) (env : Env) : D → Sto → R D := fun x s1 => (ev G c m k env s1).bind (kDget2 x)
def kRgt : D → Sto → R D := fun x s1 => match x with
    | .int j => if 0 ≤ j ∧ j ≤ 16777216 then .ok (.tup (rangeD 0 j.toNat 1)) s1 else .stk
    | _ => .stk
def kTup : List D → Sto → R D := fun ds s => .ok (.tup ds) s
def kLst : List D → Sto → R D := fun ds s => .ok (.lst ds) s
def kCel : List D → Sto → R D := fun ds s1 => .ok (.ref s1.length) (s1 ++ [.lst ds])
def kCall (c : CF) (f : Nat) : List D → Sto → R D := fun ds s => c f ds s
def kCallk (G : Gt) (c m : CF) (f : Nat) (ks : Es) (pm : List Nat) (env : Env) : List D → Sto → R D := fun ds s1 => (evs G c m ks env s1).bind fun zs s2 => c f (perm pm ds zs) s2
def kCallk2 (c : CF) (f : Nat) (pm : List Nat) (ds : List D) : List D → Sto → R D := fun zs s2 => c f (perm pm ds zs) s2
def kBi (b : Bi) : List D → Sto → R D := fun ds s1 => lift (dBi b ds) s1
def cMth (G : Gt) (c m : CF) (t : Mt) (es : Es) (env : Env) (x : D) (s1 : Sto) : Bool → R D
  | true => (evs G c m es env s1).bind fun ds s2 => lift (dMt t x ds) s2
  | false => .stk
def kMth (G : Gt) (c m : CF) (t : Mt) (es : Es) (env : Env) : D → Sto → R D := fun x s1 => cMth G c m t es env x s1 (recv t x)
def kMth2 (t : Mt) (x : D) : List D → Sto → R D := fun ds s2 => lift (dMt t x ds) s2
def kIsi (n : Nat) (t : Ty) : D → Sto → R D := fun x s1 => lift ((dIsi n t s1 x).map .bl) s1
def kLen (G : Gt) (c : CF) : D → Sto → R D := fun d s1 => lenK G c d s1
/-- a comprehension's turn -/
def lcF (G : Gt) (c m : CF) (t : Tg) (cs : Es) (el : E) (own : List Nat) (env : Env) (d : D) (s2 : Sto) : R (Option D) := match bindT t d (wipeE env own) with
    | none => .stk
    | some env' => (evTs G c m cs env' s2).bind fun b s3 => if b then (ev G c m el env' s3).bind fun y s4 => .ok (some y) s4 else .ok none s3
def kLst5 : List D → Sto → R D := fun ys s5 => .ok (.lst ys) s5
def kLc (G : Gt) (c m : CF) (t : Tg) (cs : Es) (el : E) (own : List Nat) (env : Env) : List D → Sto → R D := fun ds s1 => if okL ds.length then ((lcGo (lcF G c m t cs el own env) ds s1).noX).bind kLst5 else .stk
def cLc2 (G : Gt) (c m : CF) (cs : Es) (el : E) (s2 : Sto) : Option Env → R (Option D)
  | none => .stk
  | some env' => (evTs G c m cs env' s2).bind fun b s3 => if b then (ev G c m el env' s3).bind fun y s4 => .ok (some y) s4 else .ok none s3
def kLc3 (G : Gt) (c m : CF) (el : E) (env' : Env) : Bool → Sto → R (Option D) := fun b s3 => if b then (ev G c m el env' s3).bind fun y s4 => .ok (some y) s4 else .ok none s3
def kSome : D → Sto → R (Option D) := fun y s4 => .ok (some y) s4
def kFmt : D → Sto → R D := fun x s1 => lift (dFmt x) s1
def kFs (G : Gt) (c m : CF) (es : Es) (acc : Str) (env : Env) : D → Sto → R D := fun d s1 => match d with
    | .str y => if okL (acc ++ y).length then evFs G c m es (acc ++ y) env s1 else .stk
    | _ => .stk
def kMk (m : CF) (k : Nat) : List D → Sto → R D := fun ds s1 => m k ds s1
def kMkk (G : Gt) (c m : CF) (k : Nat) (ks : Es) (pm : List Nat) (env : Env) : List D → Sto → R D := fun ds s1 => (evs G c m ks env s1).bind fun zs s2 => m k (perm pm ds zs) s2
def kMkk2 (m : CF) (k : Nat) (pm : List Nat) (ds : List D) : List D → Sto → R D := fun zs s2 => m k (perm pm ds zs) s2
/-- an attribute of an instance -/
def cAtt (G : Gt) (c : CF) (x : Str) (d : D) (s1 : Sto) : Option (Nat × Nat × List (Str × D)) → R D
  | some (_, k, fs) => (match G.att k x with
      | some .fld => lift (fs.lookup x) s1
      | some (.prop f) => (c f [d] s1).noX
      | none => .stk)
  | none => .stk
def kAtt (G : Gt) (c : CF) (x : Str) : D → Sto → R D := fun d s1 => cAtt G c x d s1 (insOf s1 d)
def cUm (G : Gt) (c m : CF) (x : Str) (es : Es) (env : Env) (d : D) (s1 : Sto) : Option (Nat × Nat × List (Str × D)) → R D
  | some (_, k, fs) => (match G.mth k x, fs.lookup x with
      | some (f, n), none => (evs G c m es env s1).bind fun ds s2 => if ds.length + 1 = n then c f (d :: ds) s2 else .stk
      | _, _ => .stk)
  | none => .stk
def kUm (G : Gt) (c m : CF) (x : Str) (es : Es) (env : Env) : D → Sto → R D := fun d s1 => cUm G c m x es env d s1 (insOf s1 d)
def kUm2 (c : CF) (f n : Nat) (d : D) : List D → Sto → R D := fun ds s2 => if ds.length + 1 = n then c f (d :: ds) s2 else .stk
def kEvs (G : Gt) (c m : CF) (es : Es) (env : Env) : D → Sto → R (List D) := fun d s1 => (evs G c m es env s1).bind fun ds s2 => .ok (d :: ds) s2
def kCons (d : D) : List D → Sto → R (List D) := fun ds s2 => .ok (d :: ds) s2
def kTru : D → Sto → R Bool := fun x s1 => lift (dTru x) s1
def kItems : D → Sto → R (List D) := fun x s1 => lift (dItems x) s1
def kRg1 : D → Sto → R (List D) := fun x s1 => match x with
    | .int j => if ok62 j then .ok (rangeD 0 j.toNat 1) s1 else .stk
    | _ => .stk
def kRg2b (x : D) : D → Sto → R (List D) := fun y s2 => match x, y with
    | .int i, .int j => if ok62 i && ok62 j then .ok (rangeD i (j - i).toNat 1) s2 else .stk
    | _, _ => .stk
def kRg2 (G : Gt) (c m : CF) (b : E) (env : Env) : D → Sto → R (List D) := fun x s1 => (ev G c m b env s1).bind (kRg2b x)
def kRg3c (x y : D) : D → Sto → R (List D) := fun z s3 => match x, y, z with
    | .int i, .int j, .int c => if c = -1 ∧ ok62 i = true ∧ ok62 j = true then .ok (rangeD i (i - j).toNat (-1)) s3 else .stk
    | _, _, _ => .stk
def kRg3b (G : Gt) (c m : CF) (d : E) (env : Env) (x : D) : D → Sto → R (List D) := fun y s2 => (ev G c m d env s2).bind (kRg3c x y)
def kRg3 (G : Gt) (c m : CF) (b d : E) (env : Env) : D → Sto → R (List D) := fun x s1 => (ev G c m b env s1).bind (kRg3b G c m d env x)
def kEnum : D → Sto → R (List D) := fun x s1 => match x with
    | .lst xs => .ok (dEnum 0 xs) s1
    | .tup xs => .ok (dEnum 0 xs) s1
    | _ => .stk
def kZip2 (x : D) : D → Sto → R (List D) := fun y s2 => match seqD x, seqD y with
    | some xs, some ys => .ok (dZip xs ys) s2
    | _, _ => .stk
def kZip (G : Gt) (c m : CF) (b : E) (env : Env) : D → Sto → R (List D) := fun x s1 => (ev G c m b env s1).bind (kZip2 x)
def kRev : D → Sto → R (List D) := fun x s1 => match x with
    | .lst xs => .ok xs.reverse s1
    | _ => .stk
def vOf (s : Sto) : Option Sl → R D
  | some (.val d) => .ok d s
  | _ => .stk
def oOf (s : Sto) : Option Sl → R D
  | some (.own xs) => .ok (.lst xs) s
  | some (.owd kvs) => .ok (.dic kvs) s
  | _ => .stk
/-! steps -/
theorem e_non : ev G c m .non env s = .ok .non s := rf rfl
theorem e_bl (b : Bool) : ev G c m (.bl b) env s = .ok (.bl b) s := rf rfl
theorem e_int (i : Int) : ev G c m (.int i) env s = .ok (.int i) s := rf rfl
theorem e_str (x : Str) : ev G c m (.str x) env s = .ok (.str x) s := rf rfl
theorem e_var (i : Nat) : ev G c m (.var i) env s = vOf s env[i]? := by
  rw [ev]; cases env[i]? with
  | none => rfl
  | some x => cases x <;> rfl
theorem e_own (i : Nat) : ev G c m (.own i) env s = oOf s env[i]? := by
  rw [ev]; cases env[i]? with
  | none => rfl
  | some x => cases x <;> rfl
theorem e_cst (x : Str) : ev G c m (.cst x) env s = lift (G.cst x) s := rf rfl
theorem e_bin (o : Operator) (a b : E) : ev G c m (.bin o a b) env s = (ev G c m a env s).bind (kBin G c m o b env) := rf rfl
theorem e_neg (a : E) : ev G c m (.neg a) env s = (ev G c m a env s).bind kNeg := rf rfl
theorem e_cmp (o : CmpOp) (a b : E) : ev G c m (.cmp o a b) env s = (ev G c m a env s).bind (kCmp G c m o b env) := rf rfl
theorem e_chn (o1 o2 : CmpOp) (a b d : E) : ev G c m (.chn o1 o2 a b d) env s = (ev G c m a env s).bind (kChn G c m o1 o2 b d env) := rf rfl
theorem e_one (a : E) : ev G c m (.one a) env s = ev G c m a env s := rf rfl
theorem e_and (a b : E) : ev G c m (.and a b) env s = (ev G c m a env s).bind (kAnd G c m b env) := rf rfl
theorem e_or (a b : E) : ev G c m (.or a b) env s = (ev G c m a env s).bind (kOr G c m b env) := rf rfl
theorem e_not (a : E) : ev G c m (.not a) env s = (ev G c m a env s).bind kNot := rf rfl
theorem e_ite (q a b : E) : ev G c m (.ite q a b) env s = (ev G c m q env s).bind (kIte G c m a b env) := rf rfl
theorem e_idx (a i : E) : ev G c m (.idx a i) env s = (ev G c m a env s).bind (kIdx G c m i env) := rf rfl
theorem e_sl (a : E) (lo hi : Es) : ev G c m (.sl a lo hi) env s = (ev G c m a env s).bind (kSl G c m lo hi env) := rf rfl
theorem e_tup (es : Es) : ev G c m (.tup es) env s = (evs G c m es env s).bind kTup := rf rfl
theorem e_lst (es : Es) : ev G c m (.lst es) env s = (evs G c m es env s).bind kLst := rf rfl
theorem e_cel (es : Es) : ev G c m (.cel es) env s = (evs G c m es env s).bind kCel := rf rfl
theorem e_call (f : Nat) (es : Es) : ev G c m (.call f es) env s = (evs G c m es env s).bind (kCall c f) := rf rfl
theorem e_callk (f : Nat) (es ks : Es) (pm : List Nat) : ev G c m (.callk f es ks pm) env s = (evs G c m es env s).bind (kCallk G c m f ks pm env) := rf rfl
theorem e_bi (b : Bi) (es : Es) : ev G c m (.bi b es) env s = (evs G c m es env s).bind (kBi b) := rf rfl
theorem e_mth (t : Mt) (a : E) (es : Es) : ev G c m (.mth t a es) env s = (ev G c m a env s).bind (kMth G c m t es env) := by
  rw [ev]; congr 1; funext x s1; unfold kMth; cases recv t x <;> rfl
theorem e_isi (a : E) (t : Ty) : ev G c m (.isi a t) env s = (ev G c m a env s).bind (kIsi G.ncl t) := rf rfl
theorem e_len (a : E) : ev G c m (.len a) env s = (ev G c m a env s).bind (kLen G c) := rf rfl
theorem e_lc (src : Src) (t : Tg) (cs : Es) (el : E) (own : List Nat) : ev G c m (.lc src t cs el own) env s = (evSrc G c m src env s).bind (kLc G c m t cs el own env) := rf rfl
theorem e_fmt (a : E) : ev G c m (.fmt a) env s = (ev G c m a env s).bind kFmt := rf rfl
theorem e_fs (es : Es) : ev G c m (.fs es) env s = evFs G c m es Str.empty env s := rf rfl
theorem e_att (a : E) (x : Str) : ev G c m (.att a x) env s = (ev G c m a env s).bind (kAtt G c x) := by
  rw [ev]; congr 1
theorem e_mk (k : Nat) (es : Es) : ev G c m (.mk k es) env s = (evs G c m es env s).bind (kMk m k) := rf rfl
theorem e_mkk (k : Nat) (es ks : Es) (pm : List Nat) : ev G c m (.mkk k es ks pm) env s = (evs G c m es env s).bind (kMkk G c m k ks pm env) := rf rfl
theorem e_um (a : E) (x : Str) (es : Es) : ev G c m (.um a x es) env s = (ev G c m a env s).bind (kUm G c m x es env) := by
  rw [ev]; congr 1
theorem e_dic0 : ev G c m .dic0 env s = .ok (.dic []) s := rf rfl
theorem e_dget (a k : E) : ev G c m (.dget a k) env s = (ev G c m a env s).bind (kDget G c m k env) := rf rfl
theorem e_rgt (a : E) : ev G c m (.rgt a) env s = (ev G c m a env s).bind kRgt := rf rfl
theorem es_nil : evs G c m .nil env s = .ok [] s := rf rfl
theorem es_cons (a : E) (es : Es) : evs G c m (.cons a es) env s = (ev G c m a env s).bind (kEvs G c m es env) := rf rfl
theorem fs_nil (acc : Str) : evFs G c m .nil acc env s = .ok (.str acc) s := rf rfl
theorem fs_cons (a : E) (es : Es) (acc : Str) : evFs G c m (.cons a es) acc env s = (ev G c m a env s).bind (kFs G c m es acc env) := rf rfl
theorem ts_nil : evTs G c m .nil env s = .ok true s := rf rfl
theorem ts_one (a : E) : evTs G c m (.cons a .nil) env s = (ev G c m a env s).bind kTru := rf rfl
theorem src_seq (a : E) : evSrc G c m (.seq a) env s = (ev G c m a env s).bind kItems := rf rfl
theorem src_rg1 (a : E) : evSrc G c m (.rg1 a) env s = (ev G c m a env s).bind kRg1 := rf rfl
theorem src_rg2 (a b : E) : evSrc G c m (.rg2 a b) env s = (ev G c m a env s).bind (kRg2 G c m b env) := rf rfl
theorem src_rg3 (a b d : E) : evSrc G c m (.rg3 a b d) env s = (ev G c m a env s).bind (kRg3 G c m b d env) := rf rfl
theorem src_enum (a : E) : evSrc G c m (.enum a) env s = (ev G c m a env s).bind kEnum := rf rfl
theorem src_zip (a b : E) : evSrc G c m (.zip a b) env s = (ev G c m a env s).bind (kZip G c m b env) := rf rfl
theorem src_rev (a : E) : evSrc G c m (.rev a) env s = (ev G c m a env s).bind kRev := rf rfl
/-! a rest gets its value -/
theorem k_bin (o : Operator) (b : E) (x : D) : (R.ok x s).bind (kBin G c m o b env) = (ev G c m b env s).bind (kBin2 o x) := rf rfl
theorem k_bin2 (o : Operator) (x y : D) : (R.ok y s).bind (kBin2 o x) = lift (dBin o x y) s := rf rfl
theorem k_neg (i : Int) : (R.ok (.int i) s).bind kNeg = .ok (.int (-i)) s := rf rfl
theorem k_cmp (o : CmpOp) (b : E) (x : D) : (R.ok x s).bind (kCmp G c m o b env) = (ev G c m b env s).bind (kCmp2 o x) := rf rfl
theorem k_cmp2 (o : CmpOp) (x y : D) : (R.ok y s).bind (kCmp2 o x) = lift ((dCmp o x y).map .bl) s := rf rfl
theorem k_chn (o1 o2 : CmpOp) (b e : E) (x : D) : (R.ok x s).bind (kChn G c m o1 o2 b e env) = (ev G c m b env s).bind (kChn2 G c m o1 o2 x e env) := rf rfl
theorem k_chn2 (o1 o2 : CmpOp) (e : E) (x y : D) : (R.ok y s).bind (kChn2 G c m o1 o2 x e env) = cChn G c m o2 y e env s (dCmp o1 x y) := rf rfl
theorem k_chn3 (o2 : CmpOp) (y : D) (e : E) : cChn G c m o2 y e env s (some true) = (ev G c m e env s).bind (kCmp2 o2 y) := rf rfl
theorem k_chn4 (o2 : CmpOp) (y : D) (e : E) : cChn G c m o2 y e env s (some false) = .ok (.bl false) s := rf rfl
theorem k_and1 (b : E) : (R.ok (.bl true) s).bind (kAnd G c m b env) = ev G c m b env s := rf rfl
theorem k_and0 (b : E) : (R.ok (.bl false) s).bind (kAnd G c m b env) = .ok (.bl false) s := rf rfl
theorem k_or1 (b : E) : (R.ok (.bl true) s).bind (kOr G c m b env) = .ok (.bl true) s := rf rfl
theorem k_or0 (b : E) : (R.ok (.bl false) s).bind (kOr G c m b env) = ev G c m b env s := rf rfl
theorem k_not (b : Bool) : (R.ok (.bl b) s).bind kNot = .ok (.bl (!b)) s := rf rfl
theorem k_ite (a b : E) (x : D) : (R.ok x s).bind (kIte G c m a b env) = cIte G c m a b env s (dTru x) := rf rfl
theorem k_ite1 (a b : E) : cIte G c m a b env s (some true) = ev G c m a env s := rf rfl
theorem k_ite0 (a b : E) : cIte G c m a b env s (some false) = ev G c m b env s := rf rfl
theorem k_idx (i : E) (x : D) : (R.ok x s).bind (kIdx G c m i env) = (ev G c m i env s).bind (kIdx2 x) := rf rfl
theorem k_idx2 (x y : D) : (R.ok y s).bind (kIdx2 x) = lift (dIdxS s x y) s := rf rfl
theorem k_sl (lo hi : Es) (x : D) : (R.ok x s).bind (kSl G c m lo hi env) = ((evs G c m lo env s).bind kOptI).bind (kSl2 G c m x hi env) := rf rfl
theorem k_opt (l : List D) : (R.ok l s).bind kOptI = lift (optI l) s := rf rfl
theorem k_sl2 (hi : Es) (x : D) (l : Option Int) : (R.ok l s).bind (kSl2 G c m x hi env) = ((evs G c m hi env s).bind kOptI).bind (kSl3 x l) := rf rfl
theorem k_sl3 (x : D) (l h : Option Int) : (R.ok h s).bind (kSl3 x l) = lift (dSl x l h) s := rf rfl
theorem k_dget (k : E) (x : D) : (R.ok x s).bind (kDget G c m k env) = (ev G c m k env s).bind (kDget2 x) := rf rfl
theorem k_dget2 (x y : D) : (R.ok y s).bind (kDget2 x) = lift (dDget x y) s := rf rfl
theorem k_rgt (j : Int) (h : 0 ≤ j ∧ j ≤ 16777216) : (R.ok (.int j) s).bind kRgt = .ok (.tup (rangeD 0 j.toNat 1)) s := if_pos h
theorem k_tup (ds : List D) : (R.ok ds s).bind kTup = .ok (.tup ds) s := rf rfl
theorem k_lst (ds : List D) : (R.ok ds s).bind kLst = .ok (.lst ds) s := rf rfl
theorem k_lst5 (ds : List D) : (R.ok ds s).bind kLst5 = .ok (.lst ds) s := rf rfl
theorem k_cel (ds : List D) : (R.ok ds s).bind kCel = .ok (.ref s.length) (s ++ [.lst ds]) := rf rfl
theorem k_call (f : Nat) (ds : List D) : (R.ok ds s).bind (kCall c f) = c f ds s := rf rfl
theorem k_callk (f : Nat) (ks : Es) (pm : List Nat) (ds : List D) : (R.ok ds s).bind (kCallk G c m f ks pm env) = (evs G c m ks env s).bind (kCallk2 c f pm ds) := rf rfl
theorem k_callk2 (f : Nat) (pm : List Nat) (ds zs : List D) : (R.ok zs s).bind (kCallk2 c f pm ds) = c f (perm pm ds zs) s := rf rfl
theorem k_bi (b : Bi) (ds : List D) : (R.ok ds s).bind (kBi b) = lift (dBi b ds) s := rf rfl
theorem k_mth (t : Mt) (es : Es) (x : D) : (R.ok x s).bind (kMth G c m t es env) = cMth G c m t es env x s (recv t x) := rf rfl
theorem k_mth1 (t : Mt) (es : Es) (x : D) : cMth G c m t es env x s true = (evs G c m es env s).bind (kMth2 t x) := rf rfl
theorem k_mth2 (t : Mt) (x : D) (ds : List D) : (R.ok ds s).bind (kMth2 t x) = lift (dMt t x ds) s := rf rfl
theorem k_isi (n : Nat) (t : Ty) (x : D) : (R.ok x s).bind (kIsi n t) = lift ((dIsi n t s x).map .bl) s := rf rfl
theorem k_len (d : D) : (R.ok d s).bind (kLen G c) = lenK G c d s := rf rfl
theorem k_lc (t : Tg) (cs : Es) (el : E) (own : List Nat) (ds : List D) (h : okL ds.length = true) : (R.ok ds s).bind (kLc G c m t cs el own env) = ((lcGo (lcF G c m t cs el own env) ds s).noX).bind kLst5 := if_pos h
theorem k_lcF (t : Tg) (cs : Es) (el : E) (own : List Nat) (d : D) : lcF G c m t cs el own env d s = cLc2 G c m cs el s (bindT t d (wipeE env own)) := by
  rw [lcF, cLc2.eq_def]
theorem k_lc2 (cs : Es) (el : E) (env' : Env) : cLc2 G c m cs el s (some env') = (evTs G c m cs env' s).bind (kLc3 G c m el env') := rf rfl
theorem k_lc3t (el : E) : (R.ok true s).bind (kLc3 G c m el env) = (ev G c m el env s).bind kSome := rf rfl
theorem k_lc3f (el : E) : (R.ok false s).bind (kLc3 G c m el env) = .ok none s := rf rfl
theorem k_some (y : D) : (R.ok y s).bind kSome = .ok (some y) s := rf rfl
theorem k_fmt (x : D) : (R.ok x s).bind kFmt = lift (dFmt x) s := rf rfl
theorem k_fs (es : Es) (acc y : Str) (h : okL (acc ++ y).length = true) : (R.ok (.str y) s).bind (kFs G c m es acc env) = evFs G c m es (acc ++ y) env s := if_pos h
theorem k_mk (k : Nat) (ds : List D) : (R.ok ds s).bind (kMk m k) = m k ds s := rf rfl
theorem k_mkk (k : Nat) (ks : Es) (pm : List Nat) (ds : List D) : (R.ok ds s).bind (kMkk G c m k ks pm env) = (evs G c m ks env s).bind (kMkk2 m k pm ds) := rf rfl
theorem k_mkk2 (k : Nat) (pm : List Nat) (ds zs : List D) : (R.ok zs s).bind (kMkk2 m k pm ds) = m k (perm pm ds zs) s := rf rfl
theorem k_att (x : Str) (d : D) : (R.ok d s).bind (kAtt G c x) = cAtt G c x d s (insOf s d) := rf rfl
theorem k_um (x : Str) (es : Es) (d : D) : (R.ok d s).bind (kUm G c m x es env) = cUm G c m x es env d s (insOf s d) := rf rfl
theorem k_evs (es : Es) (d : D) : (R.ok d s).bind (kEvs G c m es env) = (evs G c m es env s).bind (kCons d) := rf rfl
theorem k_cons (d : D) (ds : List D) : (R.ok ds s).bind (kCons d) = .ok (d :: ds) s := rf rfl
theorem k_tru (x : D) : (R.ok x s).bind kTru = lift (dTru x) s := rf rfl
theorem k_items (x : D) : (R.ok x s).bind kItems = lift (dItems x) s := rf rfl
theorem k_rg1 (j : Int) (h : ok62 j = true) : (R.ok (.int j) s).bind kRg1 = .ok (rangeD 0 j.toNat 1) s := if_pos h
theorem k_rg2 (b : E) (x : D) : (R.ok x s).bind (kRg2 G c m b env) = (ev G c m b env s).bind (kRg2b x) := rf rfl
theorem k_rg2b (i j : Int) (h : (ok62 i && ok62 j) = true) : (R.ok (.int j) s).bind (kRg2b (.int i)) = .ok (rangeD i (j - i).toNat 1) s := if_pos h
theorem k_rg3 (b d : E) (x : D) : (R.ok x s).bind (kRg3 G c m b d env) = (ev G c m b env s).bind (kRg3b G c m d env x) := rf rfl
theorem k_rg3b (d : E) (x y : D) : (R.ok y s).bind (kRg3b G c m d env x) = (ev G c m d env s).bind (kRg3c x y) := rf rfl
theorem k_rg3c (i j : Int) (h : ok62 i = true ∧ ok62 j = true) : (R.ok (.int (-1)) s).bind (kRg3c (.int i) (.int j)) = .ok (rangeD i (i - j).toNat (-1)) s := if_pos ⟨rfl, h⟩
theorem k_enumL (xs : List D) : (R.ok (.lst xs) s).bind kEnum = .ok (dEnum 0 xs) s := rf rfl
theorem k_enumT (xs : List D) : (R.ok (.tup xs) s).bind kEnum = .ok (dEnum 0 xs) s := rf rfl
theorem k_zip (b : E) (x : D) : (R.ok x s).bind (kZip G c m b env) = (ev G c m b env s).bind (kZip2 x) := rf rfl
theorem k_zipTT (xs ys : List D) : (R.ok (.tup ys) s).bind (kZip2 (.tup xs)) = .ok (dZip xs ys) s := rf rfl
theorem k_zipLL (xs ys : List D) : (R.ok (.lst ys) s).bind (kZip2 (.lst xs)) = .ok (dZip xs ys) s := rf rfl
theorem k_zipLT (xs ys : List D) : (R.ok (.tup ys) s).bind (kZip2 (.lst xs)) = .ok (dZip xs ys) s := rf rfl
theorem k_zipTL (xs ys : List D) : (R.ok (.lst ys) s).bind (kZip2 (.tup xs)) = .ok (dZip xs ys) s := rf rfl
theorem k_rev (xs : List D) : (R.ok (.lst xs) s).bind kRev = .ok xs.reverse s := rf rfl
theorem v_val (d : D) : vOf s (some (.val d)) = .ok d s := rf rfl
theorem o_owd (kvs : List (L2.Key × D)) : oOf s (some (.owd kvs)) = .ok (.dic kvs) s := rf rfl
theorem o_own (xs : List D) : oOf s (some (.own xs)) = .ok (.lst xs) s := rf rfl
theorem l_some (a : α) : lift (some a) s = .ok a s := rf rfl
theorem x_ok (a : α) : (R.ok a s).noX = .ok a s := rf rfl
theorem o_map (a : α) (f : α → β) : Option.map f (some a) = some (f a) := rf rfl
/-! statements -/
def kSet (i : Nat) (env : Env) : D → Sto → RS := fun d s1 => nxtO (setV env i (.val d)) s1
def kSetO (i : Nat) (env : Env) : D → Sto → RS := fun d s1 => nxtO (setD true env i d) s1
def kPar2 (i j : Nat) (oi oj : Bool) (env : Env) (x : D) : D → Sto → RS := fun y s2 => nxtO ((setD oi env i x).bind fun env1 => setD oj env1 j y) s2
def kPar (G : Gt) (c m : CF) (i j : Nat) (b : E) (oi oj : Bool) (env : Env) : D → Sto → RS := fun x s1 => (ev G c m b env s1).st env (kPar2 i j oi oj env x)
def kAsg (G : Gt) (c m : CF) (t : At) (env : Env) : D → Sto → RS := fun d s1 => evAt G c m t d env s1
def kAug (i : Nat) (o : Operator) (env : Env) (x : D) : D → Sto → RS := fun y s1 => match dAug o x y with
      | some z => nxtO (setV env i (.val z)) s1
      | none => .stk
def cAug (G : Gt) (c m : CF) (i : Nat) (o : Operator) (e : E) (env : Env) (s : Sto) : Option Sl → RS
  | some (.val x) => (ev G c m e env s).st env (kAug i o env x)
  | _ => .stk
def kApp (i : Nat) (env : Env) (xs : List D) : D → Sto → RS := fun d s1 => if okL (xs.length + 1) then .nxt (env.set i (.own (xs ++ [d]))) s1 else .stk
def cApp (G : Gt) (c m : CF) (i : Nat) (e : E) (env : Env) (s : Sto) : Option Sl → RS
  | some (.own xs) => (ev G c m e env s).st env (kApp i env xs)
  | _ => .stk
def kSeti2 (i : Nat) (env : Env) (xs : List D) (d : D) : D → Sto → RS := fun y s2 => match y with
      | .int j => (match setAt xs j d with
        | some ys => .nxt (env.set i (.own ys)) s2
        | none => .stk)
      | _ => .stk
def kSeti (G : Gt) (c m : CF) (i : Nat) (k : E) (env : Env) (xs : List D) : D → Sto → RS := fun d s1 => (ev G c m k env s1).st env (kSeti2 i env xs d)
def cSeti (G : Gt) (c m : CF) (i : Nat) (k e : E) (env : Env) (s : Sto) : Option Sl → RS
  | some (.own xs) => (ev G c m e env s).st env (kSeti G c m i k env xs)
  | _ => .stk
def kSetd2 (i : Nat) (env : Env) (kvs : List (L2.Key × D)) (d : D) : D → Sto → RS := fun y s2 => match kOf y with
      | some key => if okL (kvs.length + 1) then .nxt (env.set i (.owd (dPut kvs key d))) s2 else .stk
      | none => .stk
def kSetd (G : Gt) (c m : CF) (i : Nat) (k : E) (env : Env) (kvs : List (L2.Key × D)) : D → Sto → RS := fun d s1 => (ev G c m k env s1).st env (kSetd2 i env kvs d)
def cSetd (G : Gt) (c m : CF) (i : Nat) (k e : E) (env : Env) (s : Sto) : Option Sl → RS
  | some (.owd kvs) => (ev G c m e env s).st env (kSetd G c m i k env kvs)
  | _ => .stk
def kSta2 (G : Gt) (f : Str) (env : Env) (d : D) : D → Sto → RS := fun x s2 => match insOf s2 x with
    | some (n, k, fs) => (match G.att k f with
      | some .fld => if fs.length < 999 then .nxt env (s2.set n (.ins k (putD f d fs))) else .stk
      | _ => .stk)
    | none => .stk
def kSta (G : Gt) (c m : CF) (a : E) (f : Str) (env : Env) : D → Sto → RS := fun d s1 => (ev G c m a env s1).st env (kSta2 G f env d)
def kEx (env : Env) : D → Sto → RS := fun _ s1 => .nxt env s1
def kRet : D → Sto → RS := fun d s1 => .ret d s1
def cIfs (G : Gt) (c m : CF) (a b : Ss) (env : Env) (s1 : Sto) : Option Bool → RS
  | some true => evSs G c m a env s1
  | some false => evSs G c m b env s1
  | none => .stk
def kIfs (G : Gt) (c m : CF) (a b : Ss) (env : Env) : D → Sto → RS := fun x s1 => cIfs G c m a b env s1 (dTru x)
def kLop (G : Gt) (c m : CF) (t : Tg) (b : Ss) (env : Env) : List D → Sto → RS := fun ds s1 => lopGo t (evSs G c m b) ds env s1
def kSs (G : Gt) (c m : CF) (ss : Ss) : Env → Sto → RS := fun env1 s1 => evSs G c m ss env1 s1
def kAts (G : Gt) (c m : CF) (ts : List At) (ds : List D) : Env → Sto → RS := fun env1 s1 => evAts G c m ts ds env1 s1
def cFrz (G : Gt) (c m : CF) (ss : Ss) (s : Sto) : Option Env → RS
  | some env1 => evSs G c m ss env1 s
  | none => .stk
def kSub2 (env : Env) (d x : D) : D → Sto → RS := fun y s2 => match x, y with
    | .ref n, .int i => (match s2[n]? with
      | some (.lst xs) => (match setAt xs i d with
        | some ys => .nxt env (s2.set n (.lst ys))
        | none => .stk)
      | _ => .stk)
    | _, _ => .stk
def kSub (G : Gt) (c m : CF) (k : E) (env : Env) (d : D) : D → Sto → RS := fun x s1 => (ev G c m k env s1).st env (kSub2 env d x)
theorem s_set (i : Nat) (e : E) : evS G c m (.set i e) env s = (ev G c m e env s).st env (kSet i env) := rf rfl
theorem s_setO (i : Nat) (e : E) : evS G c m (.setO i e) env s = (ev G c m e env s).st env (kSetO i env) := rf rfl
theorem s_par (i j : Nat) (a b : E) (oi oj : Bool) : evS G c m (.par i j a b oi oj) env s = (ev G c m a env s).st env (kPar G c m i j b oi oj env) := rf rfl
theorem s_asg (t : At) (e : E) : evS G c m (.asg t e) env s = (ev G c m e env s).st env (kAsg G c m t env) := rf rfl
theorem s_aug (i : Nat) (o : Operator) (e : E) : evS G c m (.aug i o e) env s = cAug G c m i o e env s env[i]? := by
  rw [evS, cAug.eq_def]; rfl
theorem s_app (i : Nat) (e : E) : evS G c m (.app i e) env s = cApp G c m i e env s env[i]? := by
  rw [evS, cApp.eq_def]; rfl
theorem s_seti (i : Nat) (k e : E) : evS G c m (.seti i k e) env s = cSeti G c m i k e env s env[i]? := by
  rw [evS, cSeti.eq_def]; rfl
theorem s_setd (i : Nat) (k e : E) : evS G c m (.setd i k e) env s = cSetd G c m i k e env s env[i]? := by
  rw [evS, cSetd.eq_def]; rfl
theorem s_sta (a : E) (f : Str) (e : E) : evS G c m (.sta a f e) env s = (ev G c m e env s).st env (kSta G c m a f env) := rf rfl
theorem s_ex (e : E) : evS G c m (.ex e) env s = (ev G c m e env s).st env (kEx env) := rf rfl
theorem s_ret (e : E) : evS G c m (.ret e) env s = (ev G c m e env s).st env kRet := rf rfl
theorem s_retN : evS G c m .retN env s = .ret .non s := rf rfl
theorem s_ifs (q : E) (a b : Ss) : evS G c m (.ifs q a b) env s = (ev G c m q env s).st env (kIfs G c m a b env) := by
  rw [evS]; congr 1
theorem s_lop (src : Src) (t : Tg) (b : Ss) : evS G c m (.lop src t b) env s = (evSrc G c m src env s).st env (kLop G c m t b env) := rf rfl
theorem s_whl (q : E) (b : Ss) : evS G c m (.whl q b) env s = whlGo (ev G c m q) (evSs G c m b) WF env s := rf rfl
theorem s_brk : evS G c m .brk env s = .brk env s := rf rfl
theorem s_cnt : evS G c m .cnt env s = .cnt env s := rf rfl
theorem s_pas : evS G c m .pas env s = .nxt env s := rf rfl
theorem s_thru (b : Ss) : evS G c m (.thru b) env s = (evSs G c m b env s).noX := rf rfl
theorem ss_nil : evSs G c m .nil env s = .nxt env s := rf rfl
theorem ss_cons (a : S) (ss : Ss) : evSs G c m (.cons a ss) env s = (evS G c m a env s).bind (kSs G c m ss) := rf rfl
theorem ss_frz (i : Nat) (ss : Ss) : evSs G c m (.frz i ss) env s = cFrz G c m ss s (frzE env i) := by
  rw [evSs]; cases frzE env i <;> rfl
theorem at_name (i : Nat) (d : D) : evAt G c m (.name i) d env s = nxtO (setV env i (.val d)) s := rf rfl
theorem at_sub (a k : E) (d : D) : evAt G c m (.sub a k) d env s = (ev G c m a env s).st env (kSub G c m k env d) := rf rfl
theorem at_tup (ts : List At) (ds : List D) (h : ds.length = ts.length) : evAt G c m (.tup ts) (.tup ds) env s = evAts G c m ts ds env s := if_pos h
theorem ats_nil : evAts G c m [] [] env s = .nxt env s := rf rfl
theorem ats_cons (t : At) (ts : List At) (d : D) (ds : List D) : evAts G c m (t :: ts) (d :: ds) env s = (evAt G c m t d env s).bind (kAts G c m ts ds) := rf rfl
/-! a statement's rest -/
theorem t_set (i : Nat) (d : D) : (R.ok d s).st env (kSet i env) = nxtO (setV env i (.val d)) s := rf rfl
theorem t_setO (i : Nat) (d : D) : (R.ok d s).st env (kSetO i env) = nxtO (setD true env i d) s := rf rfl
theorem t_par (i j : Nat) (b : E) (oi oj : Bool) (x : D) : (R.ok x s).st env (kPar G c m i j b oi oj env) = (ev G c m b env s).st env (kPar2 i j oi oj env x) := rf rfl
theorem t_par2 (i j : Nat) (oi oj : Bool) (x y : D) : (R.ok y s).st env (kPar2 i j oi oj env x) = nxtO ((setD oi env i x).bind fun env1 => setD oj env1 j y) s := rf rfl
theorem t_asg (t : At) (d : D) : (R.ok d s).st env (kAsg G c m t env) = evAt G c m t d env s := rf rfl
theorem t_aug (i : Nat) (o : Operator) (e : E) (x : D) : cAug G c m i o e env s (some (.val x)) = (ev G c m e env s).st env (kAug i o env x) := rf rfl
theorem t_augA (i : Nat) (a b : Int) : (R.ok (.int b) s).st env (kAug i .Add env (.int a)) = nxtO (setV env i (.val (.int (a + b)))) s := rf rfl
theorem t_augS (i : Nat) (a b : Int) : (R.ok (.int b) s).st env (kAug i .Sub env (.int a)) = nxtO (setV env i (.val (.int (a - b)))) s := rf rfl
theorem t_app (i : Nat) (e : E) (xs : List D) : cApp G c m i e env s (some (.own xs)) = (ev G c m e env s).st env (kApp i env xs) := rf rfl
theorem t_app2 (i : Nat) (xs : List D) (d : D) (h : okL (xs.length + 1) = true) : (R.ok d s).st env (kApp i env xs) = .nxt (env.set i (.own (xs ++ [d]))) s := if_pos h
theorem t_seti (i : Nat) (k e : E) (xs : List D) : cSeti G c m i k e env s (some (.own xs)) = (ev G c m e env s).st env (kSeti G c m i k env xs) := rf rfl
theorem t_seti2 (i : Nat) (k : E) (xs : List D) (d : D) : (R.ok d s).st env (kSeti G c m i k env xs) = (ev G c m k env s).st env (kSeti2 i env xs d) := rf rfl
theorem t_seti3 (i : Nat) (xs ys : List D) (d : D) (j : Int) (h : setAt xs j d = some ys) : (R.ok (.int j) s).st env (kSeti2 i env xs d) = .nxt (env.set i (.own ys)) s := by
  show (match setAt xs j d with
        | some ys => RS.nxt (env.set i (.own ys)) s
        | none => .stk) = _
  rw [h]
theorem t_setd (i : Nat) (k e : E) (kvs : List (L2.Key × D)) : cSetd G c m i k e env s (some (.owd kvs)) = (ev G c m e env s).st env (kSetd G c m i k env kvs) := rf rfl
theorem t_setd2 (i : Nat) (k : E) (kvs : List (L2.Key × D)) (d : D) : (R.ok d s).st env (kSetd G c m i k env kvs) = (ev G c m k env s).st env (kSetd2 i env kvs d) := rf rfl
theorem t_setd3 (i : Nat) (kvs : List (L2.Key × D)) (d y : D) (key : L2.Key) (h : kOf y = some key) (hl : okL (kvs.length + 1) = true) : (R.ok y s).st env (kSetd2 i env kvs d) = .nxt (env.set i (.owd (dPut kvs key d))) s := by
  show (match kOf y with
      | some key => if okL (kvs.length + 1) then RS.nxt (env.set i (.owd (dPut kvs key d))) s else .stk
      | none => .stk) = _
  rw [h]
  exact if_pos hl
theorem t_sta (a : E) (f : Str) (d : D) : (R.ok d s).st env (kSta G c m a f env) = (ev G c m a env s).st env (kSta2 G f env d) := rf rfl
theorem t_ex (d : D) : (R.ok d s).st env (kEx env) = .nxt env s := rf rfl
theorem t_ret (d : D) : (R.ok d s).st env kRet = .ret d s := rf rfl
theorem t_ifs (a b : Ss) (x : D) : (R.ok x s).st env (kIfs G c m a b env) = cIfs G c m a b env s (dTru x) := rf rfl
theorem t_ifs1 (a b : Ss) : cIfs G c m a b env s (some true) = evSs G c m a env s := rf rfl
theorem t_ifs0 (a b : Ss) : cIfs G c m a b env s (some false) = evSs G c m b env s := rf rfl
theorem t_lop (t : Tg) (b : Ss) (ds : List D) : (R.ok ds s).st env (kLop G c m t b env) = lopGo t (evSs G c m b) ds env s := rf rfl
theorem t_ss (ss : Ss) : (RS.nxt env s).bind (kSs G c m ss) = evSs G c m ss env s := rf rfl
theorem t_ssr (ss : Ss) (d : D) : (RS.ret d s).bind (kSs G c m ss) = .ret d s := rf rfl
theorem t_ssb (ss : Ss) : (RS.brk env s).bind (kSs G c m ss) = .brk env s := rf rfl
theorem t_ssc (ss : Ss) : (RS.cnt env s).bind (kSs G c m ss) = .cnt env s := rf rfl
theorem t_ats (ts : List At) (ds : List D) : (RS.nxt env s).bind (kAts G c m ts ds) = evAts G c m ts ds env s := rf rfl
theorem t_frz (ss : Ss) : cFrz G c m ss s (some env) = evSs G c m ss env s := rf rfl
theorem t_sub (k : E) (d x : D) : (R.ok x s).st env (kSub G c m k env d) = (ev G c m k env s).st env (kSub2 env d x) := rf rfl
theorem t_thru : (RS.nxt env s).noX = .nxt env s := rf rfl
theorem t_thrur (d : D) : (RS.ret d s).noX = .ret d s := rf rfl
theorem o_nxt (env1 : Env) : nxtO (some env1) s = .nxt env1 s := rf rfl
theorem v_set0 (a : Sl) (l : Env) (x : Sl) : setV (a :: l) 0 x = some (x :: l) := rf rfl
theorem v_setS (a : Sl) (l : Env) (i : Nat) (x : Sl) : setV (a :: l) (i + 1) x = (setV l i x).map (a :: ·) := by
  unfold setV
  by_cases h : i < l.length
  · rw [if_pos h, if_pos (by simp; omega)]; rfl
  · rw [if_neg h, if_neg (by simp; omega)]; rfl
theorem d_set0 (i : Nat) (d : D) : setD false env i d = setV env i (.val d) := rf rfl
theorem d_setD (i : Nat) (kvs : List (L2.Key × D)) : setD true env i (.dic kvs) = setV env i (.owd kvs) := rf rfl
theorem d_setL (i : Nat) (xs : List D) : setD true env i (.lst xs) = setV env i (.own xs) := rf rfl
theorem o_bind (a : α) (f : α → Option β) : (some a).bind f = f a := rf rfl
theorem z_frz0 (xs : List D) (l : Env) : frzE (.own xs :: l) 0 = some (.val (.lst xs) :: l) := rf rfl
theorem z_frzS (a : Sl) (l : Env) (i : Nat) : frzE (a :: l) (i + 1) = (frzE l i).map (a :: ·) := by
  unfold frzE
  rw [List.getElem?_cons_succ]
  cases l[i]? with
  | none => rfl
  | some x => cases x <;> rfl
end
end Lv
set_option Elab.async false
set_option linter.all false
set_option maxRecDepth 100000
set_option maxHeartbeats 1000000
/-! P2: plain data: ints, lists, loops, comprehensions. -/
namespace Lv
open PySem
section
variable {α β : Type}
inductive F2 {α β : Type} (R : α → β → Prop) : List α → List β → Prop where
  | nil : F2 R [] []
  | cons {a : α} {b : β} {l : List α} {r : List β} (h : R a b) (t : F2 R l r) : F2 R (a :: l) (b :: r)
theorem F2.append {α β : Type} {R : α → β → Prop} {a c : List α} {b d : List β} (h : F2 R a b) (t : F2 R c d) : F2 R (a ++ c) (b ++ d) := by
  induction h with
  | nil => exact t
  | cons p _ ih => exact .cons p ih
theorem F2.length {α β : Type} {R : α → β → Prop} {a : List α} {b : List β} (h : F2 R a b) : a.length = b.length := by
  induction h with
  | nil => rfl
  | cons _ _ ih => rw [List.length_cons, List.length_cons, ih]
theorem F2.get {α β : Type} {R : α → β → Prop} {a : List α} {b : List β} (h : F2 R a b) : ∀ {i : Nat} {x : α}, a[i]? = some x → ∃ y, b[i]? = some y ∧ R x y := by
  induction h with
  | nil => intro i x e; cases e
  | cons p _ ih =>
    intro i x e
    cases i with
    | zero => cases e; exact ⟨_, rfl, p⟩
    | succ i => exact ih e
/-! ints -/
theorem q_add (a b : Int) : dBin .Add (.int a) (.int b) = some (.int (a + b)) := rf rfl
theorem q_sub (a b : Int) : dBin .Sub (.int a) (.int b) = some (.int (a - b)) := rf rfl
theorem q_mod (a b : Int) (h : 0 < b) : dBin .Mod (.int a) (.int b) = some (.int (a % b)) := if_pos h
theorem q_div (a b : Int) (h : 0 < b) (h2 : b < 10 ^ 1000) : dBin .FloorDiv (.int a) (.int b) = some (.int (a / b)) := by
  show (if 0 < b ∧ b.natAbs.log2 < 9000 then some (D.int (a / b)) else none) = _
  refine if_pos ⟨h, ?_⟩
  have e : b.natAbs < 2 ^ 4000 := by
    have : (b.natAbs : Int) = b := Int.natAbs_of_nonneg (by omega)
    have q : (10 : Int) ^ 1000 < ((2 ^ 4000 : Nat) : Int) := by decide +kernel
    omega
  have := (Nat.log2_lt (by omega)).mpr e
  omega
theorem q_mul (a b : Int) (h1 : a.natAbs < 10 ^ 1000) (h2 : b.natAbs < 10 ^ 1000) : dBin .Mult (.int a) (.int b) = some (.int (a * b)) := by
  show (if a.natAbs.log2 + b.natAbs.log2 < 1000000 then some (D.int (a * b)) else none) = _
  have z : ∀ x : Nat, x < 10 ^ 1000 → x.log2 < 4000 := fun x h => by
    by_cases q : x = 0
    · subst q; decide
    · exact (Nat.log2_lt q).mpr (Nat.lt_trans h (by decide +kernel))
  have z1 := z _ h1
  have z2 := z _ h2
  exact if_pos (by omega)
theorem q_pow (a b : Int) (h : 0 ≤ b ∧ b ≤ 1000000 ∧ a.natAbs < 2 ^ 64) : dBin .Pow (.int a) (.int b) = some (.int (a ^ b.toNat)) := if_pos h
theorem q_int (a b : Int) : dEq (.int a) (.int b) = some (decide (a = b)) := rf rfl
theorem q_lt (a b : Int) : dCmp .Lt (.int a) (.int b) = some (decide (a < b)) := rf rfl
theorem q_le (a b : Int) : dCmp .LtE (.int a) (.int b) = some (decide (a ≤ b)) := rf rfl
theorem q_gt (a b : Int) : dCmp .Gt (.int a) (.int b) = some (decide (b < a)) := rf rfl
theorem q_ge (a b : Int) : dCmp .GtE (.int a) (.int b) = some (decide (b ≤ a)) := rf rfl
theorem q_eq (a b : D) : dCmp .Eq a b = dEq a b := by cases a <;> rfl
theorem q_ne (a b : D) : dCmp .NotEq a b = (dEq a b).map (!·) := by cases a <;> rfl
theorem q_is (a : D) : dCmp .Is a .non = some a.isN := by cases a <;> rfl
theorem q_isn (a : D) : dCmp .IsNot a .non = some (!a.isN) := by cases a <;> rfl
theorem q_isb (a b : Bool) : dCmp .Is (.bl a) (.bl b) = some (decide (a = b)) := rf rfl
theorem q_isnb (a b : Bool) : dCmp .IsNot (.bl a) (.bl b) = some (!decide (a = b)) := rf rfl
theorem q_in (a b : D) : dCmp .In a b = dIn a b := by cases a <;> rfl
theorem q_tb (b : Bool) : dTru (.bl b) = some b := rf rfl
theorem q_ti (i : Int) : dTru (.int i) = some (i != 0) := rf rfl
theorem q_lenL (xs : List D) : dBi .len [.lst xs] = some (.int xs.length) := rf rfl
theorem q_lenT (xs : List D) : dBi .len [.tup xs] = some (.int xs.length) := rf rfl
theorem q_lenN (xs : List Int) : dBi .len [.scr xs] = some (.int xs.length) := rf rfl
theorem q_itL (xs : List D) : dItems (.lst xs) = some xs := rf rfl
theorem q_itT (xs : List D) : dItems (.tup xs) = some xs := rf rfl
theorem q_tupL (xs : List D) : dBi .tuple [.lst xs] = some (.tup xs) := rf rfl
theorem q_tupT (xs : List D) : dBi .tuple [.tup xs] = some (.tup xs) := rf rfl
theorem q_lstL (xs : List D) : dBi .list [.lst xs] = some (.lst xs) := rf rfl
theorem q_lstT (xs : List D) : dBi .list [.tup xs] = some (.lst xs) := rf rfl
theorem q_intI (i : Int) : dBi .int [.int i] = some (.int i) := rf rfl
theorem q_intB (b : Bool) : dBi .int [.bl b] = some (.int (if b then 1 else 0)) := rf rfl
theorem q_min2 (a b : Int) : dBi .min [.int a, .int b] = some (.int (if b < a then b else a)) := rf rfl
theorem q_max2 (a b : Int) : dBi .max [.int a, .int b] = some (.int (if b > a then b else a)) := rf rfl
theorem q_abs (a : Int) : dBi .abs [.int a] = some (.int (if a < 0 then -a else a)) := rf rfl
theorem okL_of {n : Nat} (h : n ≤ 16777216) : okL n = true := decide_eq_true h
theorem q_addL (a b : List D) (h : a.length + b.length ≤ 16777216) : dBin .Add (.lst a) (.lst b) = some (.lst (a ++ b)) := if_pos (okL_of h)
theorem q_addT (a b : List D) (h : a.length + b.length ≤ 16777216) : dBin .Add (.tup a) (.tup b) = some (.tup (a ++ b)) := if_pos (okL_of h)
theorem dInts_map (f : α → Int) : ∀ l : List α, dInts (l.map fun x => .int (f x)) = some (l.map f)
  | [] => rfl
  | a :: l => by
    show (dInts (l.map fun x => .int (f x))).map (f a :: ·) = _
    rw [dInts_map f l]; rfl
theorem q_sumL (f : α → Int) (l : List α) : dBi .sum [.lst (l.map fun x => .int (f x))] = some (.int (l.map f).sum) := by
  show (dInts _).map (fun ns => D.int ns.sum) = _
  rw [dInts_map]; rfl
theorem q_sumT (f : α → Int) (l : List α) : dBi .sum [.tup (l.map fun x => .int (f x))] = some (.int (l.map f).sum) := by
  show (dInts _).map (fun ns => D.int ns.sum) = _
  rw [dInts_map]; rfl
/-- the greatest of some ints, at least d -/
def mx (d : Int) (l : List Int) : Int := l.foldl (fun m x => if m < x then x else m) d
theorem mx_cons (d a : Int) (l : List Int) : mx d (a :: l) = mx (if d < a then a else d) l := rfl
theorem mx_ge : ∀ (l : List Int) (d : Int), d ≤ mx d l
  | [], d => Int.le_refl d
  | a :: l, d => by
    have := mx_ge l (if d < a then a else d)
    rw [mx_cons]
    split at this <;> rename_i h <;> simp only [h, if_true, if_false] at this ⊢ <;> omega
theorem mx_mem_le : ∀ (l : List Int) (d x : Int), x ∈ l → x ≤ mx d l
  | a :: l, d, x, h => by
    rw [mx_cons]
    rcases List.mem_cons.mp h with e | h
    · subst e
      have := mx_ge l (if d < x then x else d)
      split at this <;> rename_i h <;> simp only [h, if_true, if_false] at this ⊢ <;> omega
    · exact mx_mem_le l _ x h
theorem mx_le : ∀ (l : List Int) (d b : Int), d ≤ b → (∀ x ∈ l, x ≤ b) → mx d l ≤ b
  | [], d, b, h, _ => h
  | a :: l, d, b, h, t => by
    rw [mx_cons]
    refine mx_le l _ b ?_ fun x hx => t x (List.mem_cons_of_mem _ hx)
    have := t a (List.mem_cons_self ..)
    split <;> omega
theorem mx_is (l : List Int) (d b : Int) (h : d ≤ b) (t : ∀ x ∈ l, x ≤ b) (e : b = d ∨ b ∈ l) : mx d l = b := by
  refine Int.le_antisymm (mx_le l d b h t) ?_
  rcases e with e | e
  · rw [e]; exact mx_ge l d
  · exact mx_mem_le l d b e
theorem mx_mem : ∀ (l : List Int) (d : Int), mx d l = d ∨ mx d l ∈ l
  | [], d => .inl rfl
  | a :: l, d => by
    rw [mx_cons]
    rcases mx_mem l (if d < a then a else d) with h | h
    · rw [h]
      split
      · exact .inr (List.mem_cons_self ..)
      · exact .inl rfl
    · exact .inr (List.mem_cons_of_mem _ h)
theorem q_maxL (f : α → Int) (a : Int) (l : List α) : dBi .max [.lst (.int a :: l.map fun x => .int (f x))] = some (.int (mx a (l.map f))) := by
  show (match dInts (.int a :: l.map fun x => .int (f x)) with
    | some ns => (maxI ns).map D.int
    | none => none) = _
  rw [show dInts (.int a :: l.map fun x => .int (f x)) = some (a :: l.map f) by
    show (dInts (l.map fun x => .int (f x))).map (a :: ·) = _
    rw [dInts_map]; rfl]
  rfl
theorem q_maxM (f : α → Int) (a : α) (l : List α) : dBi .max [.lst ((a :: l).map fun x => .int (f x))] = some (.int (mx (f a) (l.map f))) := q_maxL f (f a) l
theorem dBools_map (f : α → Bool) : ∀ l : List α, dBools (l.map fun x => .bl (f x)) = some (l.map f)
  | [] => rfl
  | a :: l => by
    show (dBools (l.map fun x => .bl (f x))).map (f a :: ·) = _
    rw [dBools_map f l]; rfl
theorem q_allL (f : α → Bool) (l : List α) : dBi .all [.lst (l.map fun x => .bl (f x))] = some (.bl (l.all f)) := by
  show (dBools _).map (fun bs => D.bl (bs.all id)) = _
  rw [dBools_map]
  show some (D.bl ((l.map f).all id)) = _
  rw [List.all_map]; rfl
/-! items -/
theorem atI_of {l : List α} {i : Int} {a : α} (h0 : 0 ≤ i) (h : l[i.toNat]? = some a) : L2.atI l i = some a := by
  have hl := (List.getElem?_eq_some_iff.mp h).1
  have : (if i < l.length then some i.toNat else none) = some i.toNat := if_pos (by omega)
  unfold L2.atI L2.ixN
  rw [if_pos h0, this]
  exact h
theorem atI_n {l : List α} {k : Nat} {a : α} (h : l[k]? = some a) : L2.atI l (k : Int) = some a := atI_of (by omega) (by rw [Int.toNat_natCast]; exact h)
theorem q_ixL {s : Sto} {l : List D} {i : Int} {a : D} (h : L2.atI l i = some a) : dIdxS s (.lst l) (.int i) = some a := h
theorem q_ixT {s : Sto} {l : List D} {i : Int} {a : D} (h : L2.atI l i = some a) : dIdxS s (.tup l) (.int i) = some a := h
theorem q_ixR {s : Sto} {r : Nat} {l : List D} {i : Int} {a : D} (h0 : s[r]? = some (.lst l)) (h : L2.atI l i = some a) : dIdxS s (.ref r) (.int i) = some a := by
  show (match s[r]? with
    | some (.lst xs) => L2.atI xs i
    | _ => none) = _
  rw [h0]
  exact h
theorem q_atI0 (a : α) (l : List α) : L2.atI (a :: l) 0 = some a := atI_of (Int.le_refl 0) rfl
theorem cut_1 (a : D) (l : List D) : cutD (a :: l) (some 1) none = l := by
  simp [cutD, HT.sIx]
theorem cut_to (l : List D) (k : Nat) : cutD l none (some (k : Int)) = l.take k := by
  simp only [cutD, HT.sIx, List.drop_zero, Nat.sub_zero]
  rw [if_neg (by omega), Int.toNat_natCast]
  rcases Nat.le_total k l.length with h | h
  · rw [Nat.min_eq_left h]
  · rw [Nat.min_eq_right h, List.take_of_length_le (Nat.le_refl _), List.take_of_length_le h]
theorem q_slL (l : List D) (lo hi : Option Int) : dSl (.lst l) lo hi = some (.lst (cutD l lo hi)) := rf rfl
/-! what is walked -/
theorem rg_map (n : Nat) : rangeD 0 n 1 = (List.range n).map fun i : Nat => D.int (i : Int) := by
  unfold rangeD
  exact List.map_congr_left fun i _ => by rw [Int.mul_one, Int.zero_add]
theorem en_map (g : α → D) : ∀ (l : List α) (i : Nat), dEnum i (l.map g) = (l.zipIdx i).map fun p => D.tup [.int (p.2 : Int), g p.1]
  | [], i => rfl
  | a :: l, i => by
    show D.tup [.int (i : Int), g a] :: dEnum (i + 1) (l.map g) = _
    rw [en_map g l (i + 1)]; rfl
theorem zip_map (g : α → D) (h : β → D) : ∀ (l : List α) (r : List β), dZip (l.map g) (r.map h) = (l.zip r).map fun p => D.tup [g p.1, h p.2]
  | [], r => by cases r <;> rfl
  | a :: l, [] => rfl
  | a :: l, b :: r => by
    show D.tup [g a, h b] :: dZip (l.map g) (r.map h) = _
    rw [zip_map g h l r]; rfl
/-! comprehensions -/
theorem lc_map {f : D → Sto → R (Option D)} {s : Sto} (g h : α → D) : ∀ l : List α, (∀ x ∈ l, f (g x) s = .ok (some (h x)) s) → lcGo f (l.map g) s = .ok (l.map h) s
  | [], _ => rfl
  | a :: l, t => by
    show (f (g a) s).bind _ = _
    rw [t a (List.mem_cons_self ..)]
    show (lcGo f (l.map g) s).bind _ = _
    rw [lc_map g h l fun x hx => t x (List.mem_cons_of_mem _ hx)]; rfl
theorem lc_filt {f : D → Sto → R (Option D)} {s : Sto} (g h : α → D) (p : α → Bool) : ∀ l : List α, (∀ x ∈ l, f (g x) s = .ok (if p x then some (h x) else none) s) → lcGo f (l.map g) s = .ok ((l.filter p).map h) s
  | [], _ => rfl
  | a :: l, t => by
    show (f (g a) s).bind _ = _
    rw [t a (List.mem_cons_self ..)]
    show (lcGo f (l.map g) s).bind _ = _
    rw [lc_filt g h p l fun x hx => t x (List.mem_cons_of_mem _ hx)]
    cases q : p a with
    | true => rw [List.filter_cons_of_pos q]; rfl
    | false => rw [List.filter_cons_of_neg (by simp [q])]; rfl
/-- with a store that goes on -/
theorem lc_inv {f : D → Sto → R (Option D)} (I : Nat → Sto → Prop) (h : α → D) (g : α → D) : ∀ (l : List α) (k : Nat) (s : Sto), I k s → (∀ x ∈ l, ∀ k s, I k s → ∃ s', f (g x) s = .ok (some (h x)) s' ∧ I (k + 1) s') → ∃ s', lcGo f (l.map g) s = .ok (l.map h) s' ∧ I (k + l.length) s'
  | [], k, s, i, _ => ⟨s, rfl, i⟩
  | a :: l, k, s, i, t => by
    obtain ⟨s1, e1, i1⟩ := t a (List.mem_cons_self ..) k s i
    obtain ⟨s2, e2, i2⟩ := lc_inv I h g l (k + 1) s1 i1 fun x hx => t x (List.mem_cons_of_mem _ hx)
    refine ⟨s2, ?_, ?_⟩
    · show (f (g a) s).bind _ = _
      rw [e1]
      show (lcGo f (l.map g) s1).bind _ = _
      rw [e2]; rfl
    · rw [List.length_cons, Nat.add_comm l.length 1, ← Nat.add_assoc]; exact i2
/-- with values of their own -/
theorem lc_ex {f : D → Sto → R (Option D)} (I : Nat → Sto → Prop) (Pr : α → D → Prop) (g : α → D) (B : Nat) : ∀ (l : List α) (k : Nat) (s : Sto), k + l.length ≤ B → I k s → (∀ x ∈ l, ∀ k s, k < B → I k s → ∃ y s', f (g x) s = .ok (some y) s' ∧ Pr x y ∧ I (k + 1) s') → ∃ ys s', lcGo f (l.map g) s = .ok ys s' ∧ F2 Pr l ys ∧ I (k + l.length) s'
  | [], k, s, hB, i, _ => ⟨[], s, rfl, .nil, i⟩
  | a :: l, k, s, hB, i, t => by
    rw [List.length_cons] at hB
    obtain ⟨y, s1, e1, p1, i1⟩ := t a (List.mem_cons_self ..) k s (by omega) i
    obtain ⟨ys, s2, e2, p2, i2⟩ := lc_ex I Pr g B l (k + 1) s1 (by omega) i1 fun x hx => t x (List.mem_cons_of_mem _ hx)
    refine ⟨y :: ys, s2, ?_, .cons p1 p2, ?_⟩
    · show (f (g a) s).bind _ = _
      rw [e1]
      show (lcGo f (l.map g) s1).bind _ = _
      rw [e2]; rfl
    · rw [List.length_cons, Nat.add_comm l.length 1, ← Nat.add_assoc]; exact i2
/-! loops -/
theorem lop_inv {t : Tg} {f : Env → Sto → RS} (P : List D → Env → Sto → Prop) (st : ∀ d ds env s, P (d :: ds) env s → ∃ env1 env2 s2, bindT t d env = some env1 ∧ f env1 s = .nxt env2 s2 ∧ P ds env2 s2) : ∀ ds env s, P ds env s → ∃ env' s', lopGo t f ds env s = .nxt env' s' ∧ P [] env' s'
  | [], env, s, p => ⟨env, s, rfl, p⟩
  | d :: ds, env, s, p => by
    obtain ⟨env1, env2, s2, e1, e2, p2⟩ := st d ds env s p
    obtain ⟨env', s', e, q⟩ := lop_inv P st ds env2 s2 p2
    refine ⟨env', s', ?_, q⟩
    rw [lopGo, e1]
    show (match f env1 s with
      | .nxt env2 s2 => lopGo t f ds env2 s2
      | .cnt env2 s2 => lopGo t f ds env2 s2
      | .brk env2 s2 => .nxt env2 s2
      | r => r) = _
    rw [e2]
    exact e
theorem lop_cons {t : Tg} {f : Env → Sto → RS} {d : D} {ds : List D} {env env1 env2 : Env} {s s2 : Sto} (e1 : bindT t d env = some env1) (e2 : f env1 s = .nxt env2 s2) : lopGo t f (d :: ds) env s = lopGo t f ds env2 s2 := by
  rw [lopGo, e1]
  show (match f env1 s with
      | .nxt env2 s2 => lopGo t f ds env2 s2
      | .cnt env2 s2 => lopGo t f ds env2 s2
      | .brk env2 s2 => .nxt env2 s2
      | r => r) = _
  rw [e2]
theorem lop_nil {t : Tg} {f : Env → Sto → RS} {env : Env} {s : Sto} : lopGo t f [] env s = .nxt env s := rfl
theorem whl_1 {c : Env → Sto → R D} {f : Env → Sto → RS} {n : Nat} {env env2 : Env} {s s1 s2 : Sto} (h : c env s = .ok (.bl true) s1) (h2 : f env s1 = .nxt env2 s2) : whlGo c f (n + 1) env s = whlGo c f n env2 s2 := by
  rw [whlGo, h]
  show (match f env s1 with
      | .nxt env2 s2 => whlGo c f n env2 s2
      | .cnt env2 s2 => whlGo c f n env2 s2
      | .brk env2 s2 => .nxt env2 s2
      | r => r) = _
  rw [h2]
theorem whl_0 {c : Env → Sto → R D} {f : Env → Sto → RS} {n : Nat} {env : Env} {s s1 : Sto} (h : c env s = .ok (.bl false) s1) : whlGo c f (n + 1) env s = .nxt env s1 := by
  rw [whlGo, h]
  rfl
/-! targets -/
theorem b_name (i : Nat) (d : D) (env : Env) : bindT (.name i) d env = setV env i (.val d) := rf rfl
theorem b_tup (ts : List Tg) (ds : List D) (env : Env) : bindT (.tup ts) (.tup ds) env = bindTs ts ds env := rf rfl
theorem b_nil (env : Env) : bindTs [] [] env = some env := rf rfl
theorem b_cons (t : Tg) (ts : List Tg) (d : D) (ds : List D) (env : Env) : bindTs (t :: ts) (d :: ds) env = (bindT t d env).bind (bindTs ts ds) := by
  rw [bindTs]
  cases bindT t d env <;> rfl
/-! a def's end -/
def kRun : RS → R D
  | .nxt _ s1 => .ok .non s1
  | .ret d s1 => .ok d s1
  | .exc x _ s1 => .exc x s1
  | _ => .stk
theorem r_nxt (env : Env) (s : Sto) : kRun (.nxt env s) = .ok .non s := rf rfl
theorem r_ret (d : D) (s : Sto) : kRun (.ret d s) = .ok d s := rf rfl
end
end Lv
set_option Elab.async false
set_option linter.all false
set_option maxRecDepth 100000
set_option maxHeartbeats 1000000
/-! P3: plain data that is compared and shown; nodes; rows. -/
namespace Lv
open PySem
/-- plain data, at most so deep, of ints and texts that are not too long -/
def D.fit : Nat → D → Prop
  | _, .non => True
  | _, .bl _ => True
  | _, .int i => i.natAbs < 10 ^ 500
  | _, .str x => PyData.strOk x = true ∧ x.length ≤ 5000
  | k + 1, .tup xs => ∀ x ∈ xs, D.fit k x
  | k + 1, .lst xs => ∀ x ∈ xs, D.fit k x
  | _, _ => False
/-- at most how long its text is -/
def D.wt : D → Nat
  | .non => 4
  | .bl _ => 5
  | .int _ => 1921
  | .str x => 10 * x.length + 2
  | .tup xs => 3 + wtL xs
  | .lst xs => 3 + wtL xs
  | _ => 0
where
  wtL : List D → Nat
    | [] => 0
    | d :: ds => d.wt + 2 + wtL ds
abbrev wtL : List D → Nat := D.wt.wtL
theorem ofStr_int (i : Int) : (toString i : Str) = Str.ofString (toString i) := rfl
structure Fits (k : Nat) (d : D) (p : PyData) : Prop where
  py : d.py = some p
  lay : p.canLay0 = true
  dep : p.depth ≤ k
  sho : p.showable = true
  len : p.shown.length ≤ d.wt
structure FitsL (k : Nat) (ds : List D) (ps : List PyData) : Prop where
  py : D.py.pyL ds = some ps
  lay : PyData.canLayAll0 ps = true
  dep : PyData.depthAll ps ≤ k
  sho : PyData.showableAll ps = true
  len : piled (PyData.shownAll ps) ≤ wtL ds
theorem fitsL_of {k : Nat} (h : ∀ d : D, d.fit k → ∃ p, Fits k d p) : ∀ ds : List D, (∀ d ∈ ds, d.fit k) → ∃ ps, FitsL k ds ps
  | [], _ => ⟨[], rfl, rfl, Nat.zero_le _, rfl, Nat.le_refl _⟩
  | d :: ds, t => by
    obtain ⟨p, f⟩ := h d (t d (List.mem_cons_self ..))
    obtain ⟨ps, g⟩ := fitsL_of h ds fun x hx => t x (List.mem_cons_of_mem _ hx)
    refine ⟨p :: ps, ?_, ?_, ?_, ?_, ?_⟩
    · rw [D.py.pyL, f.py, g.py]
    · rw [PyData.canLayAll0, f.lay, g.lay]; rfl
    · rw [PyData.depthAll]; exact Nat.max_le.mpr ⟨f.dep, g.dep⟩
    · rw [PyData.showableAll, f.sho, g.sho]; rfl
    · rw [PyData.shownAll, piled_cons]
      have := f.len
      have := g.len
      show _ ≤ d.wt + 2 + wtL ds
      omega
theorem listText_le (ts : List Str) : (listText ts).length ≤ piled ts + 3 := by
  have z : ∀ (ts : List Str) (k : Nat) (acc : Str), (textFrom k acc ts).length ≤ acc.length + piled ts := by
    intro ts
    induction ts with
    | nil => intro k acc; exact Nat.le_refl _
    | cons t r ih =>
      intro k acc
      have := ih (k + 1) (acc ++ (if k > 0 then ", " else "" : String) ++ t)
      rw [piled_cons]
      have e : (acc ++ (if k > 0 then ", " else "" : String) ++ t).length ≤ acc.length + 2 + t.length := by
        rw [strLen_append, strLen_append]
        split
        · exact Nat.le_refl _
        · show acc.length + 0 + t.length ≤ _; omega
      show (textFrom (k + 1) (acc ++ (if k > 0 then ", " else "" : String) ++ t) r).length ≤ _
      omega
  unfold listText
  rw [strLen_append]
  have := z ts 0 "["
  have e1 : (("[" : String) : Str).length = 1 := rfl
  have e2 : (("]" : String) : Str).length = 1 := rfl
  rw [e1] at this
  rw [e2]
  omega
theorem tupleText_le (ts : List Str) : (tupleText ts).length ≤ piled ts + 3 := by
  unfold tupleText
  rw [strLen_append, strLen_append]
  have e1 : ((("(" : String) : Str)).length = 1 := rfl
  have e3 : (((if ts.length == 1 then ",)" else ")" : String) : Str)).length ≤ 2 := by split <;> decide
  rw [e1]
  by_cases h : ts = []
  · subst h
    show 1 + 0 + _ ≤ 0 + 3
    omega
  · have := join_length_add ts h
    omega
theorem log_500 {x : Nat} (h : x < 10 ^ 500) : x.log2 < 1920 := by
  by_cases q : x = 0
  · subst q; decide
  · exact (Nat.log2_lt q).mpr (Nat.lt_trans h (by decide +kernel))
theorem strOk_16 {x : Str} (h : PyData.strOk x = true) : ∀ c ∈ x.cps.toList, c < 16 ^ 8 := by
  unfold PyData.strOk at h
  rw [Array.all_eq_true'] at h
  intro c hc
  have := of_decide_eq_true (h c (by simpa using hc))
  omega
theorem fits_of : ∀ (k : Nat) (d : D), d.fit k → ∃ p, Fits k d p
  | k, .non, _ => ⟨.none, rfl, rfl, Nat.zero_le _, rfl, Nat.le_refl _⟩
  | k, .bl b, _ => ⟨.bool b, rfl, rfl, Nat.zero_le _, rfl, by cases b <;> decide⟩
  | k, .int i, h => by
    have h : i.natAbs < 10 ^ 500 := by cases k <;> exact h
    exact ⟨.int i, rfl, rfl, Nat.zero_le _, decide_eq_true (log_500 h), PyProof.Rows.int_text_len_1921 (log_500 h)⟩
  | k, .str x, h => by
    have h : PyData.strOk x = true ∧ x.length ≤ 5000 := by cases k <;> exact h
    exact ⟨.str x, rfl, h.1, Nat.zero_le _, rfl, PySem.StrLaws.reprText_len x (strOk_16 h.1)⟩
  | k + 1, .tup xs, h => by
    obtain ⟨ps, g⟩ := fitsL_of (fits_of k) xs h
    refine ⟨.tuple ps, ?_, ?_, ?_, ?_, ?_⟩
    · rw [D.py, g.py]; rfl
    · rw [PyData.canLay0]; exact g.lay
    · rw [PyData.depth]; exact Nat.succ_le_succ g.dep
    · rw [PyData.showable]; exact g.sho
    · rw [PyData.shown]
      have := tupleText_le (PyData.shownAll ps)
      have := g.len
      show _ ≤ 3 + wtL xs
      omega
  | k + 1, .lst xs, h => by
    obtain ⟨ps, g⟩ := fitsL_of (fits_of k) xs h
    refine ⟨.list ps, ?_, ?_, ?_, ?_, ?_⟩
    · rw [D.py, g.py]; rfl
    · rw [PyData.canLay0]; exact g.lay
    · rw [PyData.depth]; exact Nat.succ_le_succ g.dep
    · rw [PyData.showable]; exact g.sho
    · rw [PyData.shown]
      have := listText_le (PyData.shownAll ps)
      have := g.len
      show _ ≤ 3 + wtL xs
      omega
  | 0, .tup xs, h => h.elim
  | 0, .lst xs, h => h.elim
  | k, .dic kvs, h => by cases k <;> exact h.elim
  | k, .obj c fs, h => by cases k <;> exact h.elim
  | k, .ref n, h => by cases k <;> exact h.elim
  | k, .scr ns, h => by cases k <;> exact h.elim
theorem fit_up : ∀ (k j : Nat) (d : D), k ≤ j → d.fit k → d.fit j
  | k, j, .non, _, _ => by cases j <;> trivial
  | k, j, .bl _, _, _ => by cases j <;> trivial
  | k, j, .int i, _, h => by cases k <;> cases j <;> exact h
  | k, j, .str x, _, h => by cases k <;> cases j <;> exact h
  | k + 1, j + 1, .tup xs, l, h => fun x hx => fit_up k j x (Nat.le_of_succ_le_succ l) (h x hx)
  | k + 1, j + 1, .lst xs, l, h => fun x hx => fit_up k j x (Nat.le_of_succ_le_succ l) (h x hx)
  | 0, j, .tup xs, l, h => h.elim
  | 0, j, .lst xs, l, h => h.elim
  | k + 1, 0, .tup xs, l, h => absurd l (by omega)
  | k + 1, 0, .lst xs, l, h => absurd l (by omega)
  | k, j, .dic kvs, _, h => by cases k <;> exact h.elim
  | k, j, .obj c fs, _, h => by cases k <;> exact h.elim
  | k, j, .ref n, _, h => by cases k <;> exact h.elim
  | k, j, .scr ns, _, h => by cases k <;> exact h.elim
theorem shaped_of {k : Nat} {d : D} {p : PyData} (f : Fits k d p) (h : k ≤ 64) : SeqAt.shaped p = true := by
  unfold SeqAt.shaped
  rw [f.lay, Bool.true_and]
  exact decide_eq_true (Nat.le_trans f.dep h)
theorem eqD_self {d : D} (h : d.fit 64) : dEqD d d = some true := by
  obtain ⟨p, f⟩ := fits_of 64 d h
  have q := shaped_of f (Nat.le_refl _)
  unfold dEqD
  rw [f.py]
  show (if SeqAt.shaped p && SeqAt.shaped p then some (PyData.eqv p p) else none) = _
  rw [q, SeqAt.eqv_refl p f.lay]; rfl
theorem eq_self {d : D} (h : d.fit 64) : dEq d d = some true := by
  cases d with
  | str x =>
    show some (x.cps.toList == x.cps.toList) = _
    rw [beq_self_eq_true]
  | _ => exact eqD_self h
/-- a list, held against the empty one -/
theorem eq_nilL {xs : List D} (h : (D.lst xs).fit 64) : dEq (.lst xs) (.lst []) = some xs.isEmpty := by
  obtain ⟨ps, g⟩ := fitsL_of (fits_of 63) xs h
  have e : (D.lst xs).py = some (.list ps) := by rw [D.py, g.py]; rfl
  have q : SeqAt.shaped (.list ps) = true := by
    unfold SeqAt.shaped
    rw [show (PyData.list ps).canLay0 = true by rw [PyData.canLay0]; exact g.lay, Bool.true_and]
    refine decide_eq_true ?_
    rw [PyData.depth]; exact Nat.succ_le_succ g.dep
  show dEqD (.lst xs) (.lst []) = _
  unfold dEqD
  rw [e, show (D.lst []).py = some (.list []) from rfl]
  show (if SeqAt.shaped (.list ps) && SeqAt.shaped (.list []) then some (PyData.eqv (.list ps) (.list [])) else none) = _
  rw [q]
  have hp := g.py
  cases xs with
  | nil => cases hp; rfl
  | cons a r =>
    cases ps with
    | nil =>
      rw [D.py.pyL] at hp
      split at hp <;> cases hp
    | cons b s => rfl
theorem repr_fit {d : D} (h : d.fit 64) (hw : d.wt ≤ 16777216) : ∃ x, dRepr d = some (.str x) := by
  obtain ⟨p, f⟩ := fits_of 64 d h
  refine ⟨p.shown, ?_⟩
  unfold dRepr
  rw [f.py]
  show (if p.showable && okL p.shown.length && decide (p.depth ≤ 64) then some (D.str p.shown) else none) = _
  have := f.len
  rw [f.sho, okL_of (by omega), decide_eq_true f.dep]; rfl
theorem q_repr (d : D) : dBi .repr [d] = dRepr d := rfl
theorem eqS_self (x : Str) : dEq (.str x) (.str x) = some true := by
  show some (x.cps.toList == x.cps.toList) = _
  rw [beq_self_eq_true]
theorem strOk_of_all {x : Str} (h : ∀ c ∈ x.cps.toList, c < 0x110000) : PyData.strOk x = true := by
  unfold PyData.strOk
  rw [Array.all_eq_true']
  intro c hc
  exact decide_eq_true (h c (by simpa using hc))
theorem pyL_str : ∀ l : List Str, D.py.pyL (l.map .str) = some (l.map .str)
  | [] => rfl
  | a :: l => by
    show D.py.pyL (.str a :: l.map .str) = _
    rw [D.py.pyL, pyL_str l]; rfl
theorem in_strs {x : Str} {l : List Str} (hx : PyData.strOk x = true) (hl : ∀ y ∈ l, PyData.strOk y = true) : dIn (.str x) (.lst (l.map .str)) = some (decide (x ∈ l)) := by
  have e : (D.lst (l.map .str)).py = some (.list (l.map .str)) := by rw [D.py, pyL_str]; rfl
  have dz : ∀ l : List Str, PyData.depthAll (l.map .str) = 0 := by
    intro l
    induction l with
    | nil => rfl
    | cons a r ih =>
      show PyData.depthAll (.str a :: r.map .str) = 0
      rw [PyData.depthAll, ih]; rfl
  have q : SeqAt.shaped (.list (l.map .str)) = true := by
    unfold SeqAt.shaped
    rw [show (PyData.list (l.map .str)).canLay0 = true by
      rw [PyData.canLay0, PyProof.Rows.canLayAll_strs']; exact List.all_eq_true.mpr hl, Bool.true_and]
    refine decide_eq_true ?_
    rw [PyData.depth, dz]; decide
  have q2 : SeqAt.shaped (.str x) = true := by
    unfold SeqAt.shaped
    rw [show (PyData.str x).canLay0 = true from hx]; rfl
  show (match (D.str x).py, (D.lst (l.map .str)).py with
    | some p, some (.list qs) => if SeqAt.shaped p && SeqAt.shaped (.list qs) then some (qs.any fun z => PyData.eqv z p) else none
    | _, _ => none) = _
  rw [e]
  show (if SeqAt.shaped (.str x) && SeqAt.shaped (.list (l.map .str)) then some ((l.map PyData.str).any fun z => PyData.eqv z (.str x)) else none) = _
  rw [q, q2, if_pos (show (true && true) = true from rfl)]
  congr 1
  rw [List.any_map, Bool.eq_iff_iff, List.any_eq_true, decide_eq_true_eq]
  constructor
  · rintro ⟨y, hy, h⟩
    have : y = x := by
      have h : (y == x) = true := h
      exact eq_of_beq h
    exact this ▸ hy
  · intro h
    exact ⟨x, h, by show (x == x) = true; exact beq_self_eq_true x⟩
/-! names -/
/-- whether a text is a name -/
def nameB (x : Str) : Bool := decide (1 ≤ (x.length : Int)) && decide ((x.length : Int) ≤ 8) && (match x.cps.toList with
  | [] => false
  | c :: _ => decide (c ∈ ("abcdefghijklmnopqrstuvwxyz" : Str).cps.toList)) && x.cps.toList.all fun c => decide (c ∈ ("abcdefghijklmnopqrstuvwxyz" : Str).cps.toList) || decide (c ∈ ("0123456789" : Str).cps.toList)
theorem letters_ok : ∀ c ∈ ("abcdefghijklmnopqrstuvwxyz" : Str).cps.toList, c < 0x110000 := by decide +kernel
theorem digits_ok : ∀ c ∈ ("0123456789" : Str).cps.toList, c < 0x110000 := by decide +kernel
theorem nameB_ok {x : Str} (h : nameB x = true) : PyData.strOk x = true ∧ x.length ≤ 8 := by
  unfold nameB at h
  simp only [Bool.and_eq_true, decide_eq_true_eq, List.all_eq_true, Bool.or_eq_true] at h
  refine ⟨strOk_of_all fun c hc => ?_, by omega⟩
  rcases h.2 c hc with q | q
  · exact letters_ok c q
  · exact digits_ok c q
/-! nodes -/
inductive Nd where
  | mk (m : Int) (x : Str) (ps : List Nd)
def Nd.ps : Nd → List Nd
  | .mk _ _ ps => ps
def Nd.m : Nd → Int
  | .mk m _ _ => m
def Nd.x : Nd → Str
  | .mk _ x _ => x
def Nd.d : Nd → D
  | .mk m x ps => .tup [.int m, .str x, .tup (dL ps)]
where
  dL : List Nd → List D
    | [] => []
    | a :: r => a.d :: dL r
abbrev dNs : List Nd → List D := Nd.d.dL
theorem Nd.d_eq (a : Nd) : a.d = .tup [.int a.m, .str a.x, .tup (dNs a.ps)] := by
  cases a
  rfl
theorem dNs_map : ∀ l : List Nd, dNs l = l.map Nd.d
  | [] => rfl
  | a :: r => by
    show a.d :: dNs r = _
    rw [dNs_map r]
    rfl
theorem dNs_append (a b : List Nd) : dNs (a ++ b) = dNs a ++ dNs b := by
  rw [dNs_map, dNs_map, dNs_map, List.map_append]
/-- how many, parts of parts among them -/
def Nd.size : Nd → Nat
  | .mk _ _ ps => 1 + sL ps
where
  sL : List Nd → Nat
    | [] => 0
    | a :: r => a.size + sL r
abbrev sizeL : List Nd → Nat := Nd.size.sL
theorem size_ps (a : Nd) : a.size = 1 + sizeL a.ps := by
  cases a
  rw [Nd.size]
  rfl
theorem sizeL_cons (a : Nd) (r : List Nd) : sizeL (a :: r) = a.size + sizeL r := rfl
theorem sizeL_append : ∀ a b : List Nd, sizeL (a ++ b) = sizeL a + sizeL b
  | [], b => by show sizeL b = 0 + sizeL b; omega
  | x :: a, b => by
    show x.size + sizeL (a ++ b) = (x.size + sizeL a) + sizeL b
    rw [sizeL_append a b]
    omega
theorem len_size : ∀ l : List Nd, l.length ≤ sizeL l
  | [] => Nat.le_refl _
  | a :: r => by
    have h := len_size r
    have e := size_ps a
    show r.length + 1 ≤ a.size + sizeL r
    omega
/-- all, each ahead of its parts -/
def Nd.pre : Nd → List Nd
  | .mk m x ps => .mk m x ps :: pL ps
where
  pL : List Nd → List Nd
    | [] => []
    | a :: r => a.pre ++ pL r
abbrev preL : List Nd → List Nd := Nd.pre.pL
theorem pre_eq (a : Nd) : a.pre = a :: preL a.ps := by
  cases a
  rw [Nd.pre]
  rfl
theorem preL_cons (a : Nd) (r : List Nd) : preL (a :: r) = a.pre ++ preL r := rfl
theorem preL_append : ∀ a b : List Nd, preL (a ++ b) = preL a ++ preL b
  | [], b => rfl
  | x :: a, b => by
    show x.pre ++ preL (a ++ b) = (x.pre ++ preL a) ++ preL b
    rw [preL_append a b, List.append_assoc]
theorem preL_step (a : Nd) (r : List Nd) : preL (a :: r) = a :: preL (a.ps ++ r) := by
  rw [preL_cons, pre_eq, preL_append]; rfl
mutual
theorem pre_len : ∀ a : Nd, a.pre.length = a.size
  | .mk m x ps => by
    rw [Nd.pre, Nd.size, List.length_cons, preL_len ps]; exact Nat.add_comm _ _
theorem preL_len : ∀ l : List Nd, (preL l).length = sizeL l
  | [] => rfl
  | a :: r => by
    show (a.pre ++ preL r).length = a.size + sizeL r
    rw [List.length_append, pre_len a, preL_len r]
end
/-- a node that the package takes, its parts aside -/
structure NdOk (a : Nd) : Prop where
  m1 : 1 ≤ a.m
  m2 : a.m ≤ 10 ^ 30
  nm : nameB a.x = true
theorem ok_ps {a : Nd} {r : List Nd} (t : ∀ b ∈ preL (a :: r), NdOk b) : ∀ b ∈ preL (a.ps ++ r), NdOk b := fun b hb => t b (by rw [preL_step]; exact List.mem_cons_of_mem _ hb)
theorem ok_hd {a : Nd} {r : List Nd} (t : ∀ b ∈ preL (a :: r), NdOk b) : NdOk a := t a (by rw [preL_step]; exact List.mem_cons_self ..)
theorem int_30 {i : Int} (h1 : 0 ≤ i) (h2 : i ≤ 10 ^ 30) : i.natAbs < 10 ^ 500 := by
  have e : (i.natAbs : Int) = i := Int.natAbs_of_nonneg h1
  have q : (10 : Int) ^ 30 < ((10 ^ 500 : Nat) : Int) := by decide +kernel
  omega
mutual
theorem nd_fit : ∀ a : Nd, (∀ b ∈ a.pre, NdOk b) → a.d.fit (2 * a.size)
  | .mk m x ps, t => by
    have h := nds_fit ps fun b hb => t b (by rw [Nd.pre]; exact List.mem_cons_of_mem _ hb)
    have o : NdOk (.mk m x ps) := t _ (by rw [Nd.pre]; exact List.mem_cons_self ..)
    rw [Nd.d, Nd.size, show 2 * (1 + Nd.size.sL ps) = 2 * sizeL ps + 1 + 1 by show _ = 2 * Nd.size.sL ps + 1 + 1; omega]
    intro y hy
    rcases List.mem_cons.mp hy with e | hy
    · subst e; exact int_30 (by have := o.m1; exact Int.le_trans (by decide) this) o.m2
    rcases List.mem_cons.mp hy with e | hy
    · subst e; exact ⟨(nameB_ok o.nm).1, by have := (nameB_ok o.nm).2; show x.length ≤ 5000; exact Nat.le_trans this (by decide)⟩
    rcases List.mem_cons.mp hy with e | hy
    · subst e; exact h
    · cases hy
theorem nds_fit : ∀ l : List Nd, (∀ b ∈ preL l, NdOk b) → ∀ d ∈ dNs l, d.fit (2 * sizeL l)
  | [], t => fun d hd => by cases hd
  | a :: r, t => fun d hd => by
    rcases List.mem_cons.mp hd with e | hd
    · subst e
      exact fit_up _ _ _ (by show 2 * a.size ≤ 2 * (a.size + sizeL r); omega) (nd_fit a fun b hb => t b (by rw [preL_cons]; exact List.mem_append_left _ hb))
    · exact fit_up _ _ _ (by show 2 * sizeL r ≤ 2 * (a.size + sizeL r); omega) (nds_fit r (fun b hb => t b (by rw [preL_cons]; exact List.mem_append_right _ hb)) d hd)
end
theorem nds_fitL {l : List Nd} (t : ∀ b ∈ preL l, NdOk b) (h : sizeL l ≤ 31) : (D.lst (dNs l)).fit 64 := fun d hd => fit_up (2 * sizeL l) 63 _ (by omega) (nds_fit l t d hd)
theorem nds_fitT {l : List Nd} (t : ∀ b ∈ preL l, NdOk b) (h : sizeL l ≤ 31) : (D.tup (dNs l)).fit 64 := fun d hd => fit_up (2 * sizeL l) 63 _ (by omega) (nds_fit l t d hd)
/-! rows -/
structure Row where
  name : Str
  many : Int
  level : Int
  total : Int
  home : Option Nat
def hD : Option Nat → D
  | none => .non
  | some k => .int (k : Int)
def Row.d (r : Row) : D := .tup [.str r.name, .int r.many, .int r.level, .int r.total, hD r.home]
def Nd.rows : Nd → Int → Int → Option Nat → Nat → List Row
  | .mk m x ps, lv, tm, h, k => ⟨x, m, lv, tm * m, h⟩ :: rL ps (lv + 1) (tm * m) (some k) (k + 1)
where
  rL : List Nd → Int → Int → Option Nat → Nat → List Row
    | [], _, _, _, _ => []
    | a :: r, lv, tm, h, k => a.rows lv tm h k ++ rL r lv tm h (k + a.size)
abbrev rowsL : List Nd → Int → Int → Option Nat → Nat → List Row := Nd.rows.rL
theorem rows_eq (a : Nd) (lv tm : Int) (h : Option Nat) (k : Nat) : a.rows lv tm h k = ⟨a.x, a.m, lv, tm * a.m, h⟩ :: rowsL a.ps (lv + 1) (tm * a.m) (some k) (k + 1) := by
  cases a
  rw [Nd.rows]
  rfl
theorem rowsL_cons (a : Nd) (r : List Nd) (lv tm : Int) (h : Option Nat) (k : Nat) : rowsL (a :: r) lv tm h k = a.rows lv tm h k ++ rowsL r lv tm h (k + a.size) := rfl
mutual
theorem rows_len : ∀ (a : Nd) (lv tm : Int) (h : Option Nat) (k : Nat), (a.rows lv tm h k).length = a.size
  | .mk m x ps, lv, tm, h, k => by
    rw [Nd.rows, Nd.size, List.length_cons, rowsL_len ps]; exact Nat.add_comm _ _
theorem rowsL_len : ∀ (l : List Nd) (lv tm : Int) (h : Option Nat) (k : Nat), (rowsL l lv tm h k).length = sizeL l
  | [], _, _, _, _ => rfl
  | a :: r, lv, tm, h, k => by
    show (a.rows lv tm h k ++ rowsL r lv tm h (k + a.size)).length = a.size + sizeL r
    rw [List.length_append, rows_len a, rowsL_len r]
end
theorem rowsL_append : ∀ (a b : List Nd) (lv tm : Int) (h : Option Nat) (k : Nat), rowsL (a ++ b) lv tm h k = rowsL a lv tm h k ++ rowsL b lv tm h (k + sizeL a)
  | [], b, lv, tm, h, k => rfl
  | x :: a, b, lv, tm, h, k => by
    show x.rows lv tm h k ++ rowsL (a ++ b) lv tm h (k + x.size) = (x.rows lv tm h k ++ rowsL a lv tm h (k + x.size)) ++ rowsL b lv tm h (k + (x.size + sizeL a))
    rw [rowsL_append a b, List.append_assoc, Nat.add_assoc]
/-- all kinds of some nodes -/
def kinds (l : List Nd) : List Row := rowsL l 1 1 none 0
/-- nodes that make a Work -/
structure WOk (l : List Nd) : Prop where
  ok : ∀ b ∈ preL l, NdOk b
  sz : sizeL l ≤ 20
  ne : l ≠ []
  nd : ((preL l).map Nd.x).Nodup
  tot : ((kinds l).map Row.total).sum ≤ 10 ^ 60
end Lv
set_option Elab.async false
set_option linter.all false
set_option maxRecDepth 100000
set_option maxHeartbeats 1000000
/-! P4: what the package's functions compute, in plain terms. -/
namespace Lv
open PySem
theorem lop_find {α : Type} {t : Tg} {f : Env → Sto → RS} {s : Sto} (g : α → D) (P : Env → Prop) (q : α → Option D) : ∀ l : List α, (∀ x ∈ l, ∀ env, P env → ∃ env1, bindT t (g x) env = some env1 ∧ ((∃ d, q x = some d ∧ f env1 s = .ret d s) ∨ (q x = none ∧ ∃ env2, f env1 s = .nxt env2 s ∧ P env2))) → ∀ env, P env →
    (∃ d, l.findSome? q = some d ∧ lopGo t f (l.map g) env s = .ret d s) ∨ (l.findSome? q = none ∧ ∃ env', lopGo t f (l.map g) env s = .nxt env' s ∧ P env')
  | [], _, env, p => .inr ⟨rfl, env, rfl, p⟩
  | a :: l, h, env, p => by
    obtain ⟨env1, e1, h1⟩ := h a (List.mem_cons_self ..) env p
    rcases h1 with ⟨d, q1, e2⟩ | ⟨q1, env2, e2, p2⟩
    · refine .inl ⟨d, by rw [List.findSome?_cons, q1], ?_⟩
      rw [List.map_cons, lopGo, e1]
      show (match f env1 s with
        | .nxt env2 s2 => lopGo t f (l.map g) env2 s2
        | .cnt env2 s2 => lopGo t f (l.map g) env2 s2
        | .brk env2 s2 => .nxt env2 s2
        | r => r) = _
      rw [e2]
    · rw [List.findSome?_cons, q1, List.map_cons, lop_cons e1 e2]
      exact lop_find g P q l (fun x hx => h x (List.mem_cons_of_mem _ hx)) env2 p2
/-- the total of kind k -/
def tot (R : List Row) (k : Nat) : Int := ((R[k]?).map Row.total).getD 0
def inB (x a b : Int) : Bool := decide (a ≤ x) && decide (x ≤ b)
/-- the first number that is wrong -/
def wrongNo (R : List Row) (v : List Int) : Option D := v.zipIdx.findSome? fun p => if inB p.1 0 (tot R p.2) then none else some (.tup [.int (p.2 : Int)])
/-- the first part that lacks -/
def lackQ (v u : List Int) (p : Row × Nat) : Option D := match p.1.home with
  | none => none
  | some h => if v.getD p.2 0 < p.1.many * u.getD h 0 then some (.str p.1.name) else none
def lack (R : List Row) (v u : List Int) : Option D := R.zipIdx.findSome? (lackQ v u)
theorem lackQ_none {v u : List Int} {p : Row × Nat} (h : p.1.home = none) : lackQ v u p = none := by
  unfold lackQ; rw [h]
theorem lackQ_some {v u : List Int} {p : Row × Nat} {k : Nat} (h : p.1.home = some k) : lackQ v u p = if v.getD p.2 0 < p.1.many * u.getD k 0 then some (.str p.1.name) else none := by
  unfold lackQ; rw [h]
def leftV (R : List Row) (v : List Int) : List Int := (R.zip v).map fun p => p.1.total - p.2
def minI2 (a b : Int) : Int := if b < a then b else a
def doStep (v : List Int) (f : List Int) (p : Row × Nat) : List Int := match p.1.home with
  | none => f
  | some h => f.set h (minI2 (f.getD h 0) (v.getD p.2 0 / p.1.many))
def doF (R : List Row) (v : List Int) : List Int := R.zipIdx.foldl (doStep v) (R.map Row.total)
def doV (R : List Row) (v : List Int) : List Int := ((doF R v).zip v).map fun p => p.1 - p.2
def up (a b : Int) : Int := -(-a / b)
/-- the greatest level of a kind of which there are some -/
def topOf (z : List (Int × Int)) : Int := mx 0 ((z.filter fun p => decide (0 < p.2)).map (·.1))
/-- how many are above level k -/
def abv (z : List (Int × Int)) (k : Nat) : Int := ((z.filter fun p => decide ((k : Int) < p.1)).map (·.2)).sum
def sums (z : List (Int × Int)) : List Int := (List.range (topOf z).toNat).map (abv z)
def hoursFor (z : List (Int × Int)) (h : Int) : Int := mx 0 ((sums z).zipIdx.map fun p => (p.2 : Int) + up p.1 h)
/-- the homes of some rows are among those ahead -/
def HomesOk (R : List Row) : Prop := ∀ r ∈ R, ∀ h, r.home = some h → h < R.length
theorem setAt_n {xs : List D} {k : Nat} {d : D} (h : k < xs.length) : setAt xs (k : Int) d = some (xs.set k d) := by
  unfold setAt L2.ixN
  rw [if_pos (by omega), if_pos (by omega), Int.toNat_natCast]; rfl
theorem getD_of {α : Type} {l : List α} {k : Nat} {a d : α} (h : l[k]? = some a) : l.getD k d = a := by
  rw [List.getD_eq_getElem?_getD, h]; rfl
theorem ixI {v : List Int} {k : Nat} (h : k < v.length) (s : Sto) : dIdxS s (.tup (v.map .int)) (.int (k : Int)) = some (.int (v.getD k 0)) := by
  refine q_ixT (atI_n ?_)
  rw [List.getElem?_map, List.getD_eq_getElem?_getD, List.getElem?_eq_getElem h]; rfl
theorem ixIL {v : List Int} {k : Nat} (h : k < v.length) (s : Sto) : dIdxS s (.lst (v.map .int)) (.int (k : Int)) = some (.int (v.getD k 0)) := by
  refine q_ixL (atI_n ?_)
  rw [List.getElem?_map, List.getD_eq_getElem?_getD, List.getElem?_eq_getElem h]; rfl
theorem doStep_none {v f : List Int} {p : Row × Nat} (h : p.1.home = none) : doStep v f p = f := by
  unfold doStep; rw [h]
theorem doStep_some {v f : List Int} {p : Row × Nat} {k : Nat} (h : p.1.home = some k) : doStep v f p = f.set k (minI2 (f.getD k 0) (v.getD p.2 0 / p.1.many)) := by
  unfold doStep; rw [h]
theorem len_doStep (v f : List Int) (p : Row × Nat) : (doStep v f p).length = f.length := by
  unfold doStep
  split
  · rfl
  · rw [List.length_set]
theorem len_doFold (v : List Int) : ∀ (l : List (Row × Nat)) (f : List Int), (l.foldl (doStep v) f).length = f.length
  | [], f => rfl
  | p :: l, f => by
    rw [List.foldl_cons, len_doFold v l, len_doStep]
theorem len_doF (R : List Row) (v : List Int) : (doF R v).length = R.length := by
  unfold doF
  rw [len_doFold, List.length_map]
end Lv
set_option Elab.async false
set_option linter.all false
set_option maxRecDepth 100000
set_option maxHeartbeats 1000000
set_option exponentiation.threshold 2000
/-! P5: facts of rows. -/
namespace Lv
open PySem
mutual
theorem rows_all (Q : Nd → Row → Prop) (hq : ∀ (a : Nd) (lv tm : Int) (h : Option Nat), Q a ⟨a.x, a.m, lv, tm * a.m, h⟩) : ∀ (a : Nd) (lv tm : Int) (h : Option Nat) (k : Nat), ∀ r ∈ a.rows lv tm h k, ∃ b ∈ a.pre, Q b r
  | .mk m x ps, lv, tm, h, k, r, hr => by
    rw [Nd.rows] at hr
    rw [Nd.pre]
    rcases List.mem_cons.mp hr with e | hr
    · subst e; exact ⟨_, List.mem_cons_self .., hq (.mk m x ps) lv tm h⟩
    · obtain ⟨b, hb, q⟩ := rowsL_all Q hq ps _ _ _ _ r hr
      exact ⟨b, List.mem_cons_of_mem _ hb, q⟩
theorem rowsL_all (Q : Nd → Row → Prop) (hq : ∀ (a : Nd) (lv tm : Int) (h : Option Nat), Q a ⟨a.x, a.m, lv, tm * a.m, h⟩) : ∀ (l : List Nd) (lv tm : Int) (h : Option Nat) (k : Nat), ∀ r ∈ rowsL l lv tm h k, ∃ b ∈ preL l, Q b r
  | [], lv, tm, h, k, r, hr => by cases hr
  | a :: l, lv, tm, h, k, r, hr => by
    rcases List.mem_append.mp hr with hr | hr
    · obtain ⟨b, hb, q⟩ := rows_all Q hq a _ _ _ _ r hr
      exact ⟨b, List.mem_append_left _ hb, q⟩
    · obtain ⟨b, hb, q⟩ := rowsL_all Q hq l _ _ _ _ r hr
      exact ⟨b, List.mem_append_right _ hb, q⟩
end
mutual
theorem rows_home : ∀ (a : Nd) (lv tm : Int) (h : Option Nat) (k : Nat), ∀ r ∈ a.rows lv tm h k, r.home = h ∨ ∃ j, r.home = some j ∧ k ≤ j ∧ j < k + a.size
  | .mk m x ps, lv, tm, h, k, r, hr => by
    rw [Nd.rows] at hr
    rw [Nd.size]
    rcases List.mem_cons.mp hr with e | hr
    · subst e; exact .inl rfl
    · rcases rowsL_home ps _ _ _ _ r hr with q | ⟨j, q, h1, h2⟩
      · exact .inr ⟨k, q, Nat.le_refl _, by omega⟩
      · exact .inr ⟨j, q, by omega, by have : j < k + 1 + Nd.size.sL ps := h2; omega⟩
theorem rowsL_home : ∀ (l : List Nd) (lv tm : Int) (h : Option Nat) (k : Nat), ∀ r ∈ rowsL l lv tm h k, r.home = h ∨ ∃ j, r.home = some j ∧ k ≤ j ∧ j < k + sizeL l
  | [], lv, tm, h, k, r, hr => by cases hr
  | a :: l, lv, tm, h, k, r, hr => by
    have sz := sizeL_cons a l
    rcases List.mem_append.mp hr with hr | hr
    · rcases rows_home a _ _ _ _ r hr with q | ⟨j, q, h1, h2⟩
      · exact .inl q
      · exact .inr ⟨j, q, h1, by omega⟩
    · rcases rowsL_home l _ _ _ _ r hr with q | ⟨j, q, h1, h2⟩
      · exact .inl q
      · exact .inr ⟨j, q, by omega, by omega⟩
end
mutual
theorem rows_lev : ∀ (a : Nd) (lv tm : Int) (h : Option Nat) (k : Nat), ∀ r ∈ a.rows lv tm h k, lv ≤ r.level ∧ r.level < lv + a.size
  | .mk m x ps, lv, tm, h, k, r, hr => by
    rw [Nd.rows] at hr
    rw [Nd.size]
    rcases List.mem_cons.mp hr with e | hr
    · subst e; exact ⟨Int.le_refl _, by show lv < _; omega⟩
    · have q := rowsL_lev ps _ _ _ _ r hr
      have e : sizeL ps = Nd.size.sL ps := rfl
      omega
theorem rowsL_lev : ∀ (l : List Nd) (lv tm : Int) (h : Option Nat) (k : Nat), ∀ r ∈ rowsL l lv tm h k, lv ≤ r.level ∧ r.level < lv + sizeL l
  | [], lv, tm, h, k, r, hr => by cases hr
  | a :: l, lv, tm, h, k, r, hr => by
    have sz := sizeL_cons a l
    rcases List.mem_append.mp hr with hr | hr
    · have q := rows_lev a _ _ _ _ r hr
      omega
    · have q := rowsL_lev l _ _ _ _ r hr
      omega
end
mutual
theorem rows_tot : ∀ (a : Nd) (lv tm : Int) (h : Option Nat) (k : Nat), (∀ b ∈ a.pre, NdOk b) → 1 ≤ tm → ∀ r ∈ a.rows lv tm h k, 1 ≤ r.total
  | .mk m x ps, lv, tm, h, k, ok, ht, r, hr => by
    rw [Nd.rows] at hr
    rw [Nd.pre] at ok
    have o : 1 ≤ m := (ok _ (List.mem_cons_self ..)).m1
    have o2 : 1 ≤ tm * m := by
      have := Int.mul_le_mul ht o (by decide) (by omega)
      omega
    rcases List.mem_cons.mp hr with e | hr
    · subst e; exact o2
    · exact rowsL_tot ps _ _ _ _ (fun b hb => ok b (List.mem_cons_of_mem _ hb)) o2 r hr
theorem rowsL_tot : ∀ (l : List Nd) (lv tm : Int) (h : Option Nat) (k : Nat), (∀ b ∈ preL l, NdOk b) → 1 ≤ tm → ∀ r ∈ rowsL l lv tm h k, 1 ≤ r.total
  | [], lv, tm, h, k, ok, ht, r, hr => by cases hr
  | a :: l, lv, tm, h, k, ok, ht, r, hr => by
    rcases List.mem_append.mp hr with hr | hr
    · exact rows_tot a _ _ _ _ (fun b hb => ok b (List.mem_append_left _ hb)) ht r hr
    · exact rowsL_tot l _ _ _ _ (fun b hb => ok b (List.mem_append_right _ hb)) ht r hr
end
theorem sum_ge : ∀ (l : List Int), (∀ x ∈ l, 0 ≤ x) → 0 ≤ l.sum ∧ ∀ x ∈ l, x ≤ l.sum
  | [], _ => ⟨Int.le_refl _, fun x h => nomatch h⟩
  | a :: l, h => by
    obtain ⟨h1, h2⟩ := sum_ge l fun x hx => h x (List.mem_cons_of_mem _ hx)
    have h3 := h a (List.mem_cons_self ..)
    rw [List.sum_cons]
    refine ⟨by omega, fun x hx => ?_⟩
    rcases List.mem_cons.mp hx with e | hx
    · subst e; omega
    · have := h2 x hx; omega
/-- facts of a Work's rows -/
structure KOk (R : List Row) : Prop where
  len : R.length ≤ 20
  ne : R ≠ []
  homes : HomesOk R
  many : ∀ q ∈ R, 1 ≤ q.many ∧ q.many ≤ 10 ^ 30
  lev : ∀ q ∈ R, 1 ≤ q.level ∧ q.level ≤ 20
  tot1 : ∀ q ∈ R, 1 ≤ q.total ∧ q.total ≤ 10 ^ 60
  tot : (R.map Row.total).sum ≤ 10 ^ 60
theorem kok {l : List Nd} (w : WOk l) : KOk (kinds l) where
  len := by unfold kinds; rw [rowsL_len]; exact w.sz
  ne := by
    intro h
    have e := congrArg List.length h
    unfold kinds at e
    rw [rowsL_len, List.length_nil] at e
    have e2 := len_size l
    exact w.ne (List.length_eq_zero_iff.mp (by omega))
  homes := fun r hr h e => by
    unfold kinds at hr ⊢
    rw [rowsL_len]
    rcases rowsL_home l _ _ _ _ r hr with q | ⟨j, q, h1, h2⟩
    · rw [e] at q; cases q
    · rw [e] at q; cases q; omega
  many := fun q hq => by
    obtain ⟨b, hb, e⟩ := rowsL_all (fun a r => r.many = a.m) (fun _ _ _ _ => rfl) l _ _ _ _ q hq
    rw [e]
    exact ⟨(w.ok b hb).m1, (w.ok b hb).m2⟩
  lev := fun q hq => by
    have := rowsL_lev l _ _ _ _ q hq
    have := w.sz
    omega
  tot1 := fun q hq => by
    have t := rowsL_tot l 1 1 none 0 w.ok (by decide)
    refine ⟨t q hq, ?_⟩
    have := (sum_ge ((kinds l).map Row.total) fun x hx => by
      obtain ⟨r, hr, rfl⟩ := List.mem_map.mp hx
      have := t r hr
      omega).2 q.total (List.mem_map_of_mem hq)
    have := w.tot
    omega
  tot := w.tot
theorem findSome_none {α β : Type} {f : α → Option β} : ∀ {l : List α}, l.findSome? f = none → ∀ x ∈ l, f x = none := by
  intro l h x hx
  exact List.findSome?_eq_none_iff.mp h x hx
/-- numbers that are not wrong are small -/
theorem wrong_small {R : List Row} (k : KOk R) {v : List Int} (hv : v.length = R.length) (h : wrongNo R v = none) : ∀ x ∈ v, 0 ≤ x ∧ x ≤ 10 ^ 60 := by
  intro x hx
  obtain ⟨i, hi, rfl⟩ := List.getElem_of_mem hx
  have := findSome_none h (v[i], i) (by rw [List.mem_zipIdx_iff_getElem?]; exact List.getElem?_eq_getElem hi)
  dsimp only at this
  have hr : i < R.length := by omega
  have e : tot R i = R[i].total := by unfold tot; rw [List.getElem?_eq_getElem hr]; rfl
  have t := (k.tot1 _ (List.getElem_mem hr)).2
  rw [e] at this
  unfold inB at this
  split at this
  · rename_i c
    simp only [Bool.and_eq_true, decide_eq_true_eq] at c
    omega
  · cases this
theorem abs_60 {x : Int} (h : 0 ≤ x ∧ x ≤ 10 ^ 60) : x.natAbs < 10 ^ 1000 := by
  have e : (x.natAbs : Int) = x := Int.natAbs_of_nonneg h.1
  have q : (10 : Int) ^ 60 < ((10 ^ 1000 : Nat) : Int) := by decide +kernel
  omega
/-- whether numbers are a state -/
def okSt (R : List Row) (v : List Int) : Bool := (wrongNo R v).isNone && (lack R v v).isNone
theorem eq_tup0 (k : Nat) : dEq (.tup [.int (k : Int)]) (.tup []) = some false := rfl
theorem wrongNo_form {R : List Row} {v : List Int} {d : D} (h : wrongNo R v = some d) : ∃ k : Nat, d = .tup [.int (k : Int)] := by
  unfold wrongNo at h
  obtain ⟨p, hp, e⟩ := List.exists_of_findSome?_eq_some h
  split at e
  · cases e
  · cases e; exact ⟨_, rfl⟩
theorem lack_form {R : List Row} {v u : List Int} {d : D} (h : lack R v u = some d) : ∃ x : Str, d = .str x := by
  unfold lack at h
  obtain ⟨p, hp, e⟩ := List.exists_of_findSome?_eq_some h
  unfold lackQ at e
  split at e
  · cases e
  · split at e
    · cases e; exact ⟨_, rfl⟩
    · cases e
end Lv
set_option Elab.async false
set_option linter.all false
set_option maxRecDepth 100000
set_option maxHeartbeats 1000000
set_option exponentiation.threshold 2000
/-! P6: nodes that are drawn, put together from the last kind on. -/
namespace Lv
open PySem
def labs : List Str := ["a", "b9", "hull", "zzzzzzz0", "p", "q1q1q1q1", "x", "mast", "y", "z", "c", "d", "e", "f", "g", "h", "i", "j", "k", "l"]
def lab (t k : Nat) : Str := labs.getD ((t + 7 * k) % 20) "a"
theorem lab_name : ∀ t, t < 20 → ∀ k, k < 21 → nameB (lab t k) = true := by decide +kernel
theorem lab_nodup : ∀ t, t < 20 → ((List.range' 1 20).map (lab t)).Nodup := by decide +kernel
/-- what is counted over nodes: so much by each name -/
structure Cnt (f : List Nd → Nat) (g : Str → Nat) : Prop where
  nil : f [] = 0
  cons : ∀ m x ps l, f (.mk m x ps :: l) = g x + f ps + f l
theorem cnt_size : Cnt sizeL fun _ => 1 := ⟨rfl, fun m x ps l => by
  rw [sizeL_cons, size_ps]; rfl⟩
theorem cnt_name (y : Str) : Cnt (fun l => ((preL l).map Nd.x).count y) fun x => if x = y then 1 else 0 := ⟨rfl, fun m x ps l => by
  show ((preL (.mk m x ps :: l)).map Nd.x).count y = _
  rw [preL_cons, pre_eq, List.map_append, List.count_append, List.map_cons, List.count_cons]
  show ((preL ps).map Nd.x).count y + (if (x == y) = true then 1 else 0) + _ = _
  by_cases c : x = y
  · subst c
    rw [if_pos (beq_self_eq_true x), if_pos rfl]; omega
  · rw [if_neg (by simpa using c), if_neg c]; omega⟩
theorem sum_set (f : List Nd → Nat) : ∀ (l : List (List Nd)) (h K : Nat) (a b : List Nd), l[h]? = some b → h < K → (((l.set h a).take K).map f).sum + f b = ((l.take K).map f).sum + f a
  | [], h, K, a, b, e, _ => by cases e
  | x :: l, 0, K + 1, a, b, e, _ => by
    cases e
    simp only [List.set_cons_zero, List.take_succ_cons, List.map_cons, List.sum_cons]
    omega
  | x :: l, h + 1, K + 1, a, b, e, hk => by
    have e : l[h]? = some b := e
    have ih := sum_set f l h K a b e (by omega)
    simp only [List.set_cons_succ, List.take_succ_cons, List.map_cons, List.sum_cons]
    omega
structure TI (M : Int) (t cnt : Nat) (parts : List (List Nd)) (K : Nat) : Prop where
  len : parts.length = cnt + 1
  ok : ∀ l ∈ parts, ∀ b ∈ preL l, NdOk b ∧ b.m ≤ M
  sm : ∀ f g, Cnt f g → ((parts.take (K + 1)).map f).sum = ((List.range' (K + 1) (cnt - K)).map fun k => g (lab t k)).sum
theorem ti_start (M : Int) (t cnt : Nat) : TI M t cnt (List.replicate (cnt + 1) []) cnt where
  len := List.length_replicate
  ok := fun l hl b hb => by
    rw [(List.mem_replicate.mp hl).2] at hb
    cases hb
  sm := fun f g c => by
    rw [Nat.sub_self]
    have : ∀ n, ((List.replicate n ([] : List Nd)).map f).sum = 0 := by
      intro n
      induction n with
      | zero => rfl
      | succ n ih => rw [List.replicate_succ, List.map_cons, List.sum_cons, ih, c.nil]
    rw [List.take_replicate]
    exact this _
theorem ti_step {M : Int} {t cnt K : Nat} {parts : List (List Nd)} (T : TI M t cnt parts (K + 1)) (hK : K + 1 ≤ cnt) {h : Nat} (hh : h < K + 1) {m : Int} {ps l : List Nd} (e1 : parts[K + 1]? = some ps) (e2 : parts[h]? = some l) (hm : 1 ≤ m) (hm2 : m ≤ 10 ^ 30) (hm3 : m ≤ M) (nm : nameB (lab t (K + 1)) = true) : TI M t cnt (parts.set h (.mk m (lab t (K + 1)) ps :: l)) K where
  len := by rw [List.length_set]; exact T.len
  ok := fun q hq b hb => by
    rcases List.mem_or_eq_of_mem_set hq with hq | hq
    · exact T.ok q hq b hb
    · subst hq
      rw [preL_cons, pre_eq] at hb
      rcases List.mem_cons.mp hb with e | hb
      · subst e; exact ⟨⟨hm, hm2, nm⟩, hm3⟩
      · rcases List.mem_append.mp hb with hb | hb
        · exact T.ok ps (List.mem_of_getElem? e1) b hb
        · exact T.ok l (List.mem_of_getElem? e2) b hb
  sm := fun f g c => by
    have s1 := sum_set f parts h (K + 1) (.mk m (lab t (K + 1)) ps :: l) l e2 hh
    have s2 := T.sm f g c
    rw [List.take_add_one, e1, List.map_append, List.sum_append] at s2
    have s3 : ((List.map f (some ps).toList)).sum = f ps := by show f ps + 0 = _; omega
    rw [s3] at s2
    rw [c.cons] at s1
    have s4 : ((List.range' (K + 1) (cnt - K)).map fun k => g (lab t k)).sum = g (lab t (K + 1)) + ((List.range' (K + 1 + 1) (cnt - (K + 1))).map fun k => g (lab t k)).sum := by
      rw [show cnt - K = (cnt - (K + 1)) + 1 by omega, List.range'_succ, List.map_cons, List.sum_cons]
    omega
theorem count_sum (y : Str) : ∀ (l : List Str), (l.map fun x => if x = y then 1 else 0).sum = l.count y
  | [] => rfl
  | x :: l => by
    rw [List.map_cons, List.sum_cons, count_sum y l, List.count_cons]
    by_cases c : x = y
    · subst c
      rw [if_pos rfl, if_pos (beq_self_eq_true x)]; omega
    · rw [if_neg c, if_neg (by simpa using c)]; omega
theorem one_sum : ∀ (l : List Nat), (l.map fun _ => 1).sum = l.length
  | [] => rfl
  | x :: l => by
    rw [List.map_cons, List.sum_cons, one_sum l, List.length_cons]; omega
theorem ti_end {M : Int} {t cnt : Nat} {parts : List (List Nd)} (T : TI M t cnt parts 0) (ht : t < 20) (hc : cnt ≤ 20) {l : List Nd} (e : parts[0]? = some l) : sizeL l = cnt ∧ ((preL l).map Nd.x).Nodup ∧ ∀ b ∈ preL l, NdOk b ∧ b.m ≤ M := by
  have tk : parts.take 1 = [l] := by
    cases parts with
    | nil => cases e
    | cons a r => cases e; rfl
  have key : ∀ f g, Cnt f g → f l = ((List.range' 1 cnt).map fun k => g (lab t k)).sum := fun f g c => by
    have := T.sm f g c
    rw [tk] at this
    have q : ([l].map f).sum = f l := by show f l + 0 = _; omega
    rw [q] at this
    exact this
  refine ⟨?_, ?_, T.ok l (List.mem_of_getElem? e)⟩
  · rw [key _ _ cnt_size, one_sum, List.length_range']
  · rw [List.nodup_iff_count]
    intro y
    rw [key _ _ (cnt_name y)]
    have q : ((List.range' 1 cnt).map fun k => if lab t k = y then 1 else 0).sum = ((List.range' 1 cnt).map (lab t)).count y := by
      rw [← count_sum, List.map_map]; rfl
    rw [q]
    have nd := lab_nodup t ht
    have sub : ((List.range' 1 cnt).map (lab t)).Sublist ((List.range' 1 20).map (lab t)) := by
      refine List.Sublist.map _ ?_
      have : List.range' 1 20 = List.range' 1 cnt ++ List.range' (1 + cnt) (20 - cnt) := by
        rw [List.range'_append_1]; congr 1; omega
      rw [this]
      exact List.sublist_append_left _ _
    exact List.nodup_iff_count.mp (sub.nodup nd) y
theorem mem_le_sum : ∀ (l : List Nat) (x : Nat), x ∈ l → x ≤ l.sum
  | a :: l, x, h => by
    rw [List.sum_cons]
    rcases List.mem_cons.mp h with e | h
    · subst e; omega
    · have := mem_le_sum l x h; omega
theorem ti_small {M : Int} {t cnt K : Nat} {parts : List (List Nd)} (T : TI M t cnt parts K) {h : Nat} {l : List Nd} (e : parts[h]? = some l) (hh : h ≤ K) : l.length ≤ cnt := by
  have s := T.sm _ _ cnt_size
  rw [one_sum, List.length_range'] at s
  have hm : l ∈ parts.take (K + 1) := List.mem_of_getElem? (i := h) (by rw [List.getElem?_take_of_lt (by omega)]; exact e)
  have := mem_le_sum _ _ (List.mem_map_of_mem (f := sizeL) hm)
  have := len_size l
  omega
/-- so many, downwards -/
def dn : Nat → List D
  | 0 => []
  | k + 1 => .int ((k + 1 : Nat) : Int) :: dn k
theorem dn_range : ∀ k : Nat, rangeD (k : Int) k (-1) = dn k
  | 0 => rfl
  | k + 1 => by
    rw [dn, ← dn_range k]
    unfold rangeD
    rw [List.range_succ_eq_map, List.map_cons, List.map_map]
    refine congr (congrArg List.cons ?_) (List.map_congr_left fun i _ => ?_)
    · refine congrArg D.int ?_
      show ((k + 1 : Nat) : Int) + ((0 : Nat) : Int) * -1 = ((k + 1 : Nat) : Int)
      omega
    · refine congrArg D.int ?_
      show ((k + 1 : Nat) : Int) + ((i + 1 : Nat) : Int) * -1 = (k : Int) + (i : Int) * -1
      omega
/-- the law's own rows: the home by its name -/
structure LRow where
  name : Str
  many : Int
  level : Int
  total : Int
  home : Option Str
def hS : Option Str → D
  | none => .non
  | some x => .str x
def LRow.d (r : LRow) : D := .tup [.str r.name, .int r.many, .int r.level, .int r.total, hS r.home]
def Nd.lr : Nd → Int → Int → Option Str → List LRow
  | .mk m x ps, lv, tm, h => ⟨x, m, lv, tm * m, h⟩ :: lL ps (lv + 1) (tm * m) (some x)
where
  lL : List Nd → Int → Int → Option Str → List LRow
    | [], _, _, _ => []
    | a :: r, lv, tm, h => a.lr lv tm h ++ lL r lv tm h
abbrev lrL : List Nd → Int → Int → Option Str → List LRow := Nd.lr.lL
theorem lr_eq (a : Nd) (lv tm : Int) (h : Option Str) : a.lr lv tm h = ⟨a.x, a.m, lv, tm * a.m, h⟩ :: lrL a.ps (lv + 1) (tm * a.m) (some a.x) := by
  cases a
  rw [Nd.lr]
  rfl
theorem lrL_cons (a : Nd) (r : List Nd) (lv tm : Int) (h : Option Str) : lrL (a :: r) lv tm h = a.lr lv tm h ++ lrL r lv tm h := rfl
theorem lrL_append : ∀ (a b : List Nd) (lv tm : Int) (h : Option Str), lrL (a ++ b) lv tm h = lrL a lv tm h ++ lrL b lv tm h
  | [], b, lv, tm, h => rfl
  | x :: a, b, lv, tm, h => by
    show x.lr lv tm h ++ lrL (a ++ b) lv tm h = (x.lr lv tm h ++ lrL a lv tm h) ++ lrL b lv tm h
    rw [lrL_append a b, List.append_assoc]
mutual
theorem lr_len : ∀ (a : Nd) (lv tm : Int) (h : Option Str), (a.lr lv tm h).length = a.size
  | .mk m x ps, lv, tm, h => by
    rw [Nd.lr, Nd.size, List.length_cons, lrL_len ps]; exact Nat.add_comm _ _
theorem lrL_len : ∀ (l : List Nd) (lv tm : Int) (h : Option Str), (lrL l lv tm h).length = sizeL l
  | [], _, _, _ => rfl
  | a :: r, lv, tm, h => by
    show (a.lr lv tm h ++ lrL r lv tm h).length = a.size + sizeL r
    rw [List.length_append, lr_len a, lrL_len r]
end
/-- what both rows of a kind have alike -/
structure Al (r : Row) (q : LRow) : Prop where
  name : r.name = q.name
  many : r.many = q.many
  level : r.level = q.level
  total : r.total = q.total
mutual
theorem rows_al : ∀ (a : Nd) (lv tm : Int) (h : Option Nat) (k : Nat) (h' : Option Str), F2 Al (a.rows lv tm h k) (a.lr lv tm h')
  | .mk m x ps, lv, tm, h, k, h' => by
    rw [Nd.rows, Nd.lr]
    exact .cons ⟨rfl, rfl, rfl, rfl⟩ (rowsL_al ps _ _ _ _ _)
theorem rowsL_al : ∀ (l : List Nd) (lv tm : Int) (h : Option Nat) (k : Nat) (h' : Option Str), F2 Al (rowsL l lv tm h k) (lrL l lv tm h')
  | [], _, _, _, _, _ => .nil
  | a :: r, lv, tm, h, k, h' => by
    show F2 Al (a.rows lv tm h k ++ rowsL r lv tm h (k + a.size)) (a.lr lv tm h' ++ lrL r lv tm h')
    exact F2.append (rows_al a _ _ _ _ _) (rowsL_al r _ _ _ _ _)
end
def lkinds (l : List Nd) : List LRow := lrL l 1 1 none
theorem al_map {f : Row → Int} {g : LRow → Int} (h : ∀ r q, Al r q → f r = g q) {R : List Row} {L : List LRow} (a : F2 Al R L) : R.map f = L.map g := by
  induction a with
  | nil => rfl
  | cons p _ ih => rw [List.map_cons, List.map_cons, ih, h _ _ p]
theorem kinds_al (l : List Nd) : F2 Al (kinds l) (lkinds l) := rowsL_al l _ _ _ _ _
theorem lk_tot (l : List Nd) : (lkinds l).map LRow.total = (kinds l).map Row.total := (al_map (fun _ _ p => p.total) (kinds_al l)).symm
theorem lk_lev (l : List Nd) : (lkinds l).map LRow.level = (kinds l).map Row.level := (al_map (fun _ _ p => p.level) (kinds_al l)).symm
end Lv
set_option Elab.async false
set_option linter.all false
set_option maxRecDepth 100000
set_option maxHeartbeats 1000000
set_option exponentiation.threshold 2000
/-! P7: homes; what can be done; hours one behind another. -/
namespace Lv
open PySem
/-- how the row at p stands to its home -/
def HomeIn (G : List Row) (h : Option Nat) (lv tm : Int) (k p : Nat) (q : Row) : Prop :=
  (q.home = h ∧ q.level = lv ∧ q.total = tm * q.many) ∨ ∃ i g, q.home = some i ∧ k ≤ i ∧ i < p ∧ G[i]? = some g ∧ q.level = g.level + 1 ∧ q.total = g.total * q.many
mutual
theorem rows_hin (G : List Row) : ∀ (a : Nd) (lv tm : Int) (h : Option Nat) (k : Nat), (∀ i q, (a.rows lv tm h k)[i]? = some q → G[k + i]? = some q) → ∀ i q, (a.rows lv tm h k)[i]? = some q → HomeIn G h lv tm k (k + i) q
  | .mk m x ps, lv, tm, h, k, hG, i, q, e => by
    have rq := rows_eq (.mk m x ps) lv tm h k
    rw [rq] at e hG
    cases i with
    | zero => cases e; exact .inl ⟨rfl, rfl, rfl⟩
    | succ i =>
      have e : (rowsL ps (lv + 1) (tm * m) (some k) (k + 1))[i]? = some q := e
      have h0 := hG 0 _ rfl
      have ih := rowsL_hin G ps (lv + 1) (tm * m) (some k) (k + 1) (fun i q e => by
        have := hG (i + 1) q e
        rw [show k + 1 + i = k + (i + 1) by omega]; exact this) i q e
      rcases ih with ⟨h1, h2, h3⟩ | ⟨j, g, h1, h2, h3, h4, h5, h6⟩
      · exact .inr ⟨k, _, h1, Nat.le_refl _, by omega, h0, h2, h3⟩
      · exact .inr ⟨j, g, h1, by omega, by omega, h4, h5, h6⟩
theorem rowsL_hin (G : List Row) : ∀ (l : List Nd) (lv tm : Int) (h : Option Nat) (k : Nat), (∀ i q, (rowsL l lv tm h k)[i]? = some q → G[k + i]? = some q) → ∀ i q, (rowsL l lv tm h k)[i]? = some q → HomeIn G h lv tm k (k + i) q
  | [], lv, tm, h, k, hG, i, q, e => by cases e
  | a :: l, lv, tm, h, k, hG, i, q, e => by
    rw [rowsL_cons] at e hG
    have len := rows_len a lv tm h k
    by_cases c : i < a.size
    · rw [List.getElem?_append_left (by omega)] at e
      exact rows_hin G a lv tm h k (fun i q e => hG i q (by rw [List.getElem?_append_left ((List.getElem?_eq_some_iff.mp e).1)]; exact e)) i q e
    · rw [List.getElem?_append_right (by omega), len] at e
      have ih := rowsL_hin G l lv tm h (k + a.size) (fun i q e => by
        have := hG (a.size + i) q (by rw [List.getElem?_append_right (by omega), len, Nat.add_sub_cancel_left]; exact e)
        rw [Nat.add_assoc]; exact this) (i - a.size) q e
      rcases ih with h1 | ⟨j, g, h1, h2, h3, h4, h5, h6⟩
      · exact .inl h1
      · exact .inr ⟨j, g, h1, by omega, by omega, h4, h5, h6⟩
end
/-- homes stand ahead; levels and totals go by them -/
def KX (R : List Row) : Prop := ∀ (p : Nat) (q : Row), R[p]? = some q → (q.home = none ∧ q.level = 1 ∧ q.total = q.many) ∨ ∃ (i : Nat) (g : Row), q.home = some i ∧ i < p ∧ R[i]? = some g ∧ q.level = g.level + 1 ∧ q.total = g.total * q.many
theorem kx (l : List Nd) : KX (kinds l) := by
  intro p q e
  have := rowsL_hin (kinds l) l 1 1 none 0 (fun i q e => by rw [Nat.zero_add]; exact e) p q e
  rcases this with ⟨h1, h2, h3⟩ | ⟨i, g, h1, h2, h3, h4, h5, h6⟩
  · exact .inl ⟨h1, h2, by rw [h3, Int.one_mul]⟩
  · exact .inr ⟨i, g, h1, by omega, h4, h5, h6⟩
/-! what can be done -/
theorem getD_set {l : List Int} {h i : Nat} {x : Int} (hh : h < l.length) : (l.set h x).getD i 0 = if h = i then x else l.getD i 0 := by
  rw [List.getD_eq_getElem?_getD, List.getD_eq_getElem?_getD]
  by_cases c : h = i
  · subst c
    rw [if_pos rfl, List.getElem?_set_self hh]; rfl
  · rw [if_neg c, List.getElem?_set_ne c]
theorem minI2_le (a b : Int) : minI2 a b ≤ a ∧ minI2 a b ≤ b ∧ (minI2 a b = a ∨ minI2 a b = b) := by
  unfold minI2
  split <;> omega
/-- the fold: at most what was, at most each part's; and one of these -/
theorem fold_le (v : List Int) : ∀ (Z : List (Row × Nat)) (f : List Int), (∀ p ∈ Z, ∀ h, p.1.home = some h → h < f.length) → ∀ i,
    (Z.foldl (doStep v) f).getD i 0 ≤ f.getD i 0 ∧ (∀ p ∈ Z, p.1.home = some i → (Z.foldl (doStep v) f).getD i 0 ≤ v.getD p.2 0 / p.1.many) ∧
    ((Z.foldl (doStep v) f).getD i 0 = f.getD i 0 ∨ ∃ p ∈ Z, p.1.home = some i ∧ (Z.foldl (doStep v) f).getD i 0 = v.getD p.2 0 / p.1.many)
  | [], f, hz, i => ⟨Int.le_refl _, fun p hp => (nomatch hp), .inl rfl⟩
  | p :: Z, f, hz, i => by
    rw [List.foldl_cons]
    obtain ⟨h1, h2, h3⟩ := fold_le v Z (doStep v f p) (fun q hq h e => by rw [len_doStep]; exact hz q (List.mem_cons_of_mem _ hq) h e) i
    cases q : p.1.home with
    | none =>
      rw [doStep_none q] at h1 h2 h3 ⊢
      refine ⟨h1, fun r hr e => ?_, ?_⟩
      · rcases List.mem_cons.mp hr with c | hr
        · subst c; rw [q] at e; cases e
        · exact h2 r hr e
      · rcases h3 with h3 | ⟨r, hr, e1, e2⟩
        · exact .inl h3
        · exact .inr ⟨r, List.mem_cons_of_mem _ hr, e1, e2⟩
    | some h =>
      have hl := hz p (List.mem_cons_self ..) h q
      have e0 : (doStep v f p).getD i 0 = if h = i then minI2 (f.getD h 0) (v.getD p.2 0 / p.1.many) else f.getD i 0 := by
        rw [doStep_some q, getD_set hl]
      rw [e0] at h1 h3
      obtain ⟨m1, m2, m3⟩ := minI2_le (f.getD h 0) (v.getD p.2 0 / p.1.many)
      by_cases c : h = i
      · subst c
        rw [if_pos rfl] at h1 h3
        refine ⟨by omega, fun r hr e => ?_, ?_⟩
        · rcases List.mem_cons.mp hr with c | hr
          · subst c; omega
          · exact h2 r hr e
        · rcases h3 with h3 | ⟨r, hr, e1, e2⟩
          · rcases m3 with m3 | m3
            · exact .inl (by omega)
            · exact .inr ⟨p, List.mem_cons_self .., q, by omega⟩
          · exact .inr ⟨r, List.mem_cons_of_mem _ hr, e1, e2⟩
      · rw [if_neg c] at h1 h3
        refine ⟨h1, fun r hr e => ?_, ?_⟩
        · rcases List.mem_cons.mp hr with c2 | hr
          · subst c2; rw [q] at e; cases e; exact absurd rfl c
          · exact h2 r hr e
        · rcases h3 with h3 | ⟨r, hr, e1, e2⟩
          · exact .inl h3
          · exact .inr ⟨r, List.mem_cons_of_mem _ hr, e1, e2⟩
/-- values of rows by index -/
def rT (R : List Row) (k : Nat) : Int := (R.map Row.total).getD k 0
theorem rT_of {R : List Row} {k : Nat} {q : Row} (e : R[k]? = some q) : rT R k = q.total := by
  unfold rT
  rw [List.getD_eq_getElem?_getD, List.getElem?_map, e]; rfl
theorem tot_eq {R : List Row} (k : Nat) : tot R k = rT R k := by
  unfold tot rT
  rw [List.getD_eq_getElem?_getD, List.getElem?_map]
theorem mem_zip {R : List Row} {q : Row} {j : Nat} (e : R[j]? = some q) : (q, j) ∈ R.zipIdx := by
  rw [List.mem_zipIdx_iff_getElem?]; exact e
theorem zip_mem {R : List Row} {p : Row × Nat} (h : p ∈ R.zipIdx) : R[p.2]? = some p.1 := by
  rw [List.mem_zipIdx_iff_getElem?] at h; exact h
theorem doF_all {R : List Row} (K : KOk R) (v : List Int) (i : Nat) : (doF R v).getD i 0 ≤ rT R i ∧ (∀ j q, R[j]? = some q → q.home = some i → (doF R v).getD i 0 ≤ v.getD j 0 / q.many) ∧
    ((doF R v).getD i 0 = rT R i ∨ ∃ j q, R[j]? = some q ∧ q.home = some i ∧ (doF R v).getD i 0 = v.getD j 0 / q.many) := by
  have hz : ∀ p ∈ R.zipIdx, ∀ h, p.1.home = some h → h < (R.map Row.total).length := fun p hp h e => by
    rw [List.length_map]
    exact K.homes p.1 (List.mem_of_getElem? (zip_mem hp)) h e
  obtain ⟨h1, h2, h3⟩ := fold_le v R.zipIdx (R.map Row.total) hz i
  refine ⟨h1, fun j q e e2 => h2 (q, j) (mem_zip e) e2, ?_⟩
  rcases h3 with h3 | ⟨p, hp, e1, e2⟩
  · exact .inl h3
  · exact .inr ⟨p.2, p.1, zip_mem hp, e1, e2⟩
/-! states -/
/-- numbers are a state, by index -/
structure St (R : List Row) (v : List Int) : Prop where
  len : v.length = R.length
  lo : ∀ i, i < R.length → 0 ≤ v.getD i 0
  hi : ∀ i, i < R.length → v.getD i 0 ≤ rT R i
  part : ∀ j q i, R[j]? = some q → q.home = some i → q.many * v.getD i 0 ≤ v.getD j 0
theorem gD_mem {v : List Int} {i : Nat} (h : i < v.length) : v[i] = v.getD i 0 := by
  rw [List.getD_eq_getElem?_getD, List.getElem?_eq_getElem h]; rfl
theorem stOk {R : List Row} {v : List Int} (s : St R v) : okSt R v = true := by
  have a : wrongNo R v = none := by
    unfold wrongNo
    rw [List.findSome?_eq_none_iff]
    intro p hp
    rw [List.mem_zipIdx_iff_getElem?] at hp
    obtain ⟨h1, h2⟩ := List.getElem?_eq_some_iff.mp hp
    have h3 := gD_mem h1
    rw [h2] at h3
    have := s.lo p.2 (by rw [← s.len]; exact h1)
    have := s.hi p.2 (by rw [← s.len]; exact h1)
    refine if_pos ?_
    unfold inB
    rw [tot_eq, decide_eq_true (by omega), decide_eq_true (by omega)]; rfl
  have b : lack R v v = none := by
    unfold lack
    rw [List.findSome?_eq_none_iff]
    intro p hp
    have e := zip_mem hp
    cases q : p.1.home with
    | none => exact lackQ_none q
    | some h =>
      rw [lackQ_some q]
      have := s.part p.2 p.1 h e q
      exact if_neg (by omega)
  unfold okSt
  rw [a, b]; rfl
theorem doV_get {R : List Row} {v : List Int} (h : v.length = R.length) (i : Nat) (hi : i < R.length) : (doV R v).getD i 0 = (doF R v).getD i 0 - v.getD i 0 := by
  unfold doV
  have z : ((doF R v).zip v)[i]? = some ((doF R v).getD i 0, v.getD i 0) := by
    refine List.getElem?_zip_eq_some.mpr ⟨?_, ?_⟩
    · show (doF R v)[i]? = some ((doF R v).getD i 0)
      rw [List.getD_eq_getElem?_getD, List.getElem?_eq_getElem (by rw [len_doF]; exact hi)]; rfl
    · show v[i]? = some (v.getD i 0)
      rw [List.getD_eq_getElem?_getD, List.getElem?_eq_getElem (by omega)]; rfl
  rw [List.getD_eq_getElem?_getD, List.getElem?_map, z]; rfl
theorem leftV_get {R : List Row} {v : List Int} (h : v.length = R.length) (i : Nat) (hi : i < R.length) : (leftV R v).getD i 0 = rT R i - v.getD i 0 := by
  unfold leftV
  have z : (R.zip v)[i]? = some (R[i], v.getD i 0) := by
    refine List.getElem?_zip_eq_some.mpr ⟨List.getElem?_eq_getElem hi, ?_⟩
    show v[i]? = some (v.getD i 0)
    rw [List.getD_eq_getElem?_getD, List.getElem?_eq_getElem (by omega)]; rfl
  rw [List.getD_eq_getElem?_getD, List.getElem?_map, z, rT_of (List.getElem?_eq_getElem hi)]; rfl
theorem len_doV {R : List Row} {v : List Int} (h : v.length = R.length) : (doV R v).length = R.length := by
  unfold doV
  rw [List.length_map, List.length_zip, len_doF]; omega
theorem len_leftV {R : List Row} {v : List Int} (h : v.length = R.length) : (leftV R v).length = R.length := by
  unfold leftV
  rw [List.length_map, List.length_zip]; omega
theorem lt_len {R : List Row} {j : Nat} {q : Row} (e : R[j]? = some q) : j < R.length := (List.getElem?_eq_some_iff.mp e).1
/-- what can be done: at least what is done -/
theorem doF_ge {R : List Row} (K : KOk R) {v : List Int} (s : St R v) {i : Nat} (hi : i < R.length) : v.getD i 0 ≤ (doF R v).getD i 0 := by
  obtain ⟨_, _, h3⟩ := doF_all K v i
  rcases h3 with h3 | ⟨j, q, e1, e2, e3⟩
  · rw [h3]; exact s.hi i hi
  · rw [e3]
    have m := (K.many q (List.mem_of_getElem? e1)).1
    have := s.part j q i e1 e2
    rw [Int.le_ediv_iff_mul_le (by omega), Int.mul_comm]; exact this
/-- later: more is done, up to what can be -/
structure Lat (R : List Row) (v u : List Int) : Prop where
  len : u.length = R.length
  ge : ∀ i, i < R.length → v.getD i 0 ≤ u.getD i 0
  le : ∀ i, i < R.length → u.getD i 0 ≤ (doF R v).getD i 0
theorem later_st {R : List Row} (K : KOk R) {v u : List Int} (s : St R v) (t : Lat R v u) : St R u where
  len := t.len
  lo := fun i hi => Int.le_trans (s.lo i hi) (t.ge i hi)
  hi := fun i hi => Int.le_trans (t.le i hi) (doF_all K v i).1
  part := fun j q i e e2 => by
    have hi := K.homes q (List.mem_of_getElem? e) i e2
    have h1 := t.le i hi
    have h2 := (doF_all K v i).2.1 j q e e2
    have h3 := t.ge j (lt_len e)
    have m := (K.many q (List.mem_of_getElem? e)).1
    have h4 : u.getD i 0 * q.many ≤ v.getD j 0 := (Int.le_ediv_iff_mul_le (by omega)).mp (Int.le_trans h1 h2)
    rw [Int.mul_comm]; omega
/-- more done: no less can be done -/
theorem doF_mono {R : List Row} (K : KOk R) {v u : List Int} (h : ∀ i, i < R.length → v.getD i 0 ≤ u.getD i 0) (i : Nat) : (doF R v).getD i 0 ≤ (doF R u).getD i 0 := by
  obtain ⟨h1, h2, _⟩ := doF_all K v i
  obtain ⟨_, _, h3⟩ := doF_all K u i
  rcases h3 with h3 | ⟨j, q, e1, e2, e3⟩
  · rw [h3]; exact h1
  · rw [e3]
    have m := (K.many q (List.mem_of_getElem? e1)).1
    exact Int.le_trans (h2 j q e1 e2) (Int.ediv_le_ediv (by omega) (h j (lt_len e1)))
/-- nothing can be done: all is done -/
theorem done_all {R : List Row} (K : KOk R) (X : KX R) {v : List Int} (s : St R v) (h : ∀ i, i < R.length → (doF R v).getD i 0 = v.getD i 0) : ∀ d i, i < R.length → R.length ≤ i + d → v.getD i 0 = rT R i := by
  intro d
  induction d with
  | zero => intro i hi hd; omega
  | succ d ih =>
    intro i hi hd
    obtain ⟨_, _, h3⟩ := doF_all K v i
    rcases h3 with h3 | ⟨j, q, e1, e2, e3⟩
    · rw [← h i hi, h3]
    · have hij : i < j := by
        rcases X j q e1 with ⟨z, _⟩ | ⟨i', g, z1, z2, z3, z4, z5⟩
        · rw [e2] at z; cases z
        · rw [e2] at z1; cases z1; exact z2
      have full := ih j (lt_len e1) (by omega)
      have tq : rT R j = q.total := rT_of e1
      have m := (K.many q (List.mem_of_getElem? e1)).1
      rcases X j q e1 with ⟨z, _⟩ | ⟨i', g, z1, z2, z3, z4, z5⟩
      · rw [e2] at z; cases z
      · rw [e2] at z1; cases z1
        rw [← h i hi, e3, full, tq, z5, Int.mul_ediv_cancel _ (by omega), rT_of z3]
/-! all that can be done, at once, hour by hour -/
/-- done behind t hours -/
def Dn (R : List Row) : Nat → Nat → Prop
  | 0, _ => False
  | t + 1, i => ∀ j q, R[j]? = some q → q.home = some i → Dn R t j
theorem dn_up {R : List Row} : ∀ t i, Dn R t i → Dn R (t + 1) i
  | 0, i, h => h.elim
  | t + 1, i, h => fun j q e e2 => dn_up t j (h j q e e2)
structure Pg (R : List Row) (t : Nat) (v : List Int) : Prop where
  len : v.length = R.length
  yes : ∀ i, i < R.length → Dn R t i → v.getD i 0 = rT R i
  no : ∀ i, i < R.length → ¬ Dn R t i → v.getD i 0 = 0
theorem rT_pos {R : List Row} (K : KOk R) {i : Nat} (hi : i < R.length) : 1 ≤ rT R i := by
  rw [rT_of (List.getElem?_eq_getElem hi)]
  exact (K.tot1 _ (List.getElem_mem hi)).1
theorem pg_st {R : List Row} (K : KOk R) (X : KX R) {t : Nat} {v : List Int} (p : Pg R t v) : St R v where
  len := p.len
  lo := fun i hi => by
    by_cases c : Dn R t i
    · rw [p.yes i hi c]; have := rT_pos K hi; omega
    · rw [p.no i hi c]; exact Int.le_refl _
  hi := fun i hi => by
    by_cases c : Dn R t i
    · rw [p.yes i hi c]; exact Int.le_refl _
    · rw [p.no i hi c]; have := rT_pos K hi; omega
  part := fun j q i e e2 => by
    have hi := K.homes q (List.mem_of_getElem? e) i e2
    have hj := lt_len e
    have tj := rT_pos K hj
    by_cases c : Dn R t i
    · have cj : Dn R t j := by
        cases t with
        | zero => exact c.elim
        | succ t => exact dn_up t j (c j q e e2)
      rw [p.yes i hi c, p.yes j hj cj]
      rcases X j q e with ⟨z, _⟩ | ⟨i', g, z1, z2, z3, z4, z5⟩
      · rw [e2] at z; cases z
      · rw [e2] at z1; cases z1
        rw [rT_of e, rT_of z3, z5, Int.mul_comm]; exact Int.le_refl _
    · rw [p.no i hi c, Int.mul_zero]
      by_cases cj : Dn R t j
      · rw [p.yes j hj cj]; omega
      · rw [p.no j hj cj]; exact Int.le_refl _
theorem pg_step {R : List Row} (K : KOk R) (X : KX R) {t : Nat} {v u : List Int} (p : Pg R t v) (hl : u.length = R.length) (hu : ∀ i, i < R.length → u.getD i 0 = (doF R v).getD i 0) : Pg R (t + 1) u := by
  have full : ∀ j q i, R[j]? = some q → q.home = some i → Dn R t j → v.getD j 0 / q.many = rT R i := fun j q i e e2 c => by
    rw [p.yes j (lt_len e) c]
    have m := (K.many q (List.mem_of_getElem? e)).1
    rcases X j q e with ⟨z, _⟩ | ⟨i', g, z1, z2, z3, z4, z5⟩
    · rw [e2] at z; cases z
    · rw [e2] at z1; cases z1
      rw [rT_of e, rT_of z3, z5, Int.mul_ediv_cancel _ (by omega)]
  refine ⟨hl, fun i hi c => ?_, fun i hi c => ?_⟩
  · rw [hu i hi]
    obtain ⟨_, _, h3⟩ := doF_all K v i
    rcases h3 with h3 | ⟨j, q, e1, e2, e3⟩
    · exact h3
    · rw [e3]; exact full j q i e1 e2 (c j q e1 e2)
  · rw [hu i hi]
    have : ∃ j q, R[j]? = some q ∧ q.home = some i ∧ ¬ Dn R t j := by
      refine Classical.byContradiction fun hn => c fun j q e e2 => Classical.byContradiction fun h => hn ⟨j, q, e, e2, h⟩
    obtain ⟨j, q, e1, e2, e3⟩ := this
    have h2 := (doF_all K v i).2.1 j q e1 e2
    rw [p.no j (lt_len e1) e3, Int.zero_ediv] at h2
    have h4 := doF_ge K (pg_st K X p) hi
    have h5 := (pg_st K X p).lo i hi
    omega
theorem dn_low {R : List Row} (X : KX R) {L : Int} (hL : ∀ q ∈ R, q.level ≤ L) : ∀ (t : Nat) i q, R[i]? = some q → L < q.level + t → Dn R t i
  | 0, i, q, e, h => by
    have := hL q (List.mem_of_getElem? e)
    omega
  | t + 1, i, q, e, h => fun j r e1 e2 => by
    rcases X j r e1 with ⟨z, _⟩ | ⟨i', g, z1, z2, z3, z4, z5⟩
    · rw [e2] at z; cases z
    · rw [e2] at z1; cases z1
      rw [e] at z3; cases z3
      exact dn_low X hL t j r e1 (by omega)
theorem dn_not {R : List Row} (X : KX R) : ∀ (t : Nat) i q, R[i]? = some q → ¬ Dn R t i → ∃ j r, R[j]? = some r ∧ r.home = none ∧ ¬ Dn R (t + (q.level - 1).toNat) j := by
  have key : ∀ (m : Nat) (t : Nat) i q, R[i]? = some q → i < m → ¬ Dn R t i → 1 ≤ q.level ∧ ∃ j r, R[j]? = some r ∧ r.home = none ∧ ¬ Dn R (t + (q.level - 1).toNat) j := by
    intro m
    induction m with
    | zero => intro t i q e hm; omega
    | succ m ih =>
      intro t i q e hm h
      rcases X i q e with ⟨z1, z2, z3⟩ | ⟨i', g, z1, z2, z3, z4, z5⟩
      · exact ⟨by omega, i, q, e, z1, by rw [z2]; exact h⟩
      · have h2 : ¬ Dn R (t + 1) i' := fun c => h (c i q e z1)
        obtain ⟨l1, j, r, e1, e2, e3⟩ := ih (t + 1) i' g z3 (by omega) h2
        refine ⟨by omega, j, r, e1, e2, ?_⟩
        rw [show t + (q.level - 1).toNat = t + 1 + (g.level - 1).toNat by omega]
        exact e3
  intro t i q e h
  exact (key (i + 1) t i q e (by omega) h).2
end Lv
set_option Elab.async false
set_option linter.all false
set_option maxRecDepth 100000
set_option maxHeartbeats 1000000
set_option exponentiation.threshold 2000
/-! P8: tuples of ints. -/
namespace Lv
open PySem
theorem q_sumT2 (l : List Int) : dBi .sum [.tup (l.map .int)] = some (.int l.sum) := by
  have := q_sumT (fun x : Int => x) l
  rw [List.map_id'] at this
  exact this
theorem fit_ints (k : Nat) (l : List Int) (h : ∀ x ∈ l, x.natAbs < 10 ^ 500) : (D.tup (l.map .int)).fit (k + 1) := by
  intro d hd
  obtain ⟨x, hx, rfl⟩ := List.mem_map.mp hd
  cases k <;> exact h x hx
theorem wt_ints : ∀ l : List Int, wtL (l.map .int) = 1923 * l.length
  | [] => rfl
  | a :: l => by
    show (D.int a).wt + 2 + wtL (l.map .int) = _
    rw [wt_ints l, List.length_cons]
    show 1921 + 2 + _ = _
    omega
theorem q_mulT (x : Int) (j : Nat) (h : j ≤ 1000) : dBin .Mult (.tup [.int x]) (.int (j : Int)) = some (.tup ((List.replicate j x).map .int)) := by
  show (if -1000 ≤ (j : Int) ∧ (j : Int) ≤ 1000 ∧ [D.int x].length ≤ 1000 then some (D.tup (List.replicate (j : Int).toNat [D.int x]).flatten) else none) = _
  rw [if_pos ⟨by omega, by omega, by show 1 ≤ 1000; decide⟩, Int.toNat_natCast]
  congr 2
  rw [List.flatten_replicate_singleton, List.map_replicate]
theorem eq_bl (a : Bool) : dEq (.bl a) (.bl a) = some true := by cases a <;> rfl
theorem eq_nil0 : dEq (.lst []) (.lst []) = some true := rfl
theorem isn_true : dCmp .IsNot (.bl true) (.bl true) = some false := rf rfl
theorem abs_60' {x : Int} (h : 0 ≤ x ∧ x ≤ 10 ^ 60) : x.natAbs < 10 ^ 500 := by
  have e : (x.natAbs : Int) = x := Int.natAbs_of_nonneg h.1
  have q : (10 : Int) ^ 60 < ((10 ^ 500 : Nat) : Int) := by decide +kernel
  omega
def addV (v w : List Int) : List Int := (v.zip w).map fun p => p.1 + p.2
def subV (v w : List Int) : List Int := (v.zip w).map fun p => p.1 - p.2
theorem zip_get {v w : List Int} {i : Nat} (h : i < v.length) (h2 : i < w.length) : (v.zip w)[i]? = some (v.getD i 0, w.getD i 0) := by
  refine List.getElem?_zip_eq_some.mpr ⟨?_, ?_⟩
  · show v[i]? = some (v.getD i 0)
    rw [List.getD_eq_getElem?_getD, List.getElem?_eq_getElem h]; rfl
  · show w[i]? = some (w.getD i 0)
    rw [List.getD_eq_getElem?_getD, List.getElem?_eq_getElem h2]; rfl
theorem addV_get {v w : List Int} {i : Nat} (h : i < v.length) (h2 : i < w.length) : (addV v w).getD i 0 = v.getD i 0 + w.getD i 0 := by
  unfold addV
  rw [List.getD_eq_getElem?_getD, List.getElem?_map, zip_get h h2]; rfl
theorem subV_get {v w : List Int} {i : Nat} (h : i < v.length) (h2 : i < w.length) : (subV v w).getD i 0 = v.getD i 0 - w.getD i 0 := by
  unfold subV
  rw [List.getD_eq_getElem?_getD, List.getElem?_map, zip_get h h2]; rfl
theorem len_addV {v w : List Int} (h : v.length = w.length) : (addV v w).length = w.length := by
  unfold addV; rw [List.length_map, List.length_zip]; omega
theorem len_subV {v w : List Int} (h : v.length = w.length) : (subV v w).length = w.length := by
  unfold subV; rw [List.length_map, List.length_zip]; omega
theorem zip_ints (v w : List Int) : dZip (v.map .int) (w.map .int) = (v.zip w).map fun p => D.tup [.int p.1, .int p.2] := zip_map _ _ _ _
theorem ext_getD {v w : List Int} (h : v.length = w.length) (e : ∀ i, i < v.length → v.getD i 0 = w.getD i 0) : v = w := by
  refine List.ext_getElem h fun i h1 h2 => ?_
  rw [gD_mem h1, gD_mem h2]
  exact e i h1
theorem sum_zero {l : List Int} (h : ∀ i, i < l.length → l.getD i 0 = 0) : l.sum = 0 := by
  have z : ∀ (l : List Int), (∀ x ∈ l, x = 0) → l.sum = 0 := by
    intro l
    induction l with
    | nil => intro _; rfl
    | cons a l ih =>
      intro h
      rw [List.sum_cons, h a (List.mem_cons_self ..), ih fun x hx => h x (List.mem_cons_of_mem _ hx)]; rfl
  refine z l fun x hx => ?_
  obtain ⟨i, hi, rfl⟩ := List.getElem_of_mem hx
  rw [gD_mem hi]; exact h i hi
theorem sum_ge0 {l : List Int} (h : ∀ i, i < l.length → 0 ≤ l.getD i 0) : 0 ≤ l.sum ∧ ∀ i, i < l.length → l.getD i 0 ≤ l.sum := by
  have q := sum_ge l fun x hx => by
    obtain ⟨i, hi, rfl⟩ := List.getElem_of_mem hx
    rw [gD_mem hi]; exact h i hi
  refine ⟨q.1, fun i hi => ?_⟩
  rw [← gD_mem hi]
  exact q.2 _ (List.getElem_mem hi)
theorem filt_no {α : Type} (l : List α) : l.filter (fun _ => false) = [] := by
  rw [List.filter_eq_nil_iff]
  intro a _ h
  cases h
theorem F2.ints {α : Type} {P : α → Int → Prop} {l : List α} {ys : List D} (h : F2 (fun c y => ∃ h : Int, y = D.int h ∧ P c h) l ys) : ∃ hr : List Int, ys = hr.map D.int ∧ F2 P l hr := by
  induction h with
  | nil => exact ⟨[], rfl, .nil⟩
  | cons p _ ih =>
    obtain ⟨h, rfl, q⟩ := p
    obtain ⟨hr, rfl, t⟩ := ih
    exact ⟨h :: hr, rfl, .cons q t⟩
theorem F2.getD {P : Int → Int → Prop} {l hr : List Int} (h : F2 P l hr) {i : Nat} (hi : i < l.length) : P (l.getD i 0) (hr.getD i 0) := by
  obtain ⟨y, e, q⟩ := h.get (List.getElem?_eq_getElem hi)
  rw [← gD_mem hi, List.getD_eq_getElem?_getD, e]
  exact q
/-- nothing can be done just where nothing is left -/
theorem sums_zero {R : List Row} (K : KOk R) (X : KX R) {v : List Int} (s : St R v) : ((doV R v).sum = 0) ↔ ((leftV R v).sum = 0) := by
  have ld := len_doV (R := R) s.len
  have ll := len_leftV (R := R) s.len
  have d0 : ∀ i, i < R.length → 0 ≤ (doV R v).getD i 0 := fun i hi => by
    rw [doV_get s.len i hi]
    have := doF_ge K s hi
    omega
  have l0 : ∀ i, i < R.length → 0 ≤ (leftV R v).getD i 0 := fun i hi => by
    rw [leftV_get s.len i hi]
    have := s.hi i hi
    omega
  constructor
  · intro h
    have q := sum_ge0 (l := doV R v) (fun i hi => d0 i (by omega))
    have z : ∀ i, i < R.length → (doF R v).getD i 0 = v.getD i 0 := fun i hi => by
      have h1 := q.2 i (by omega)
      have h2 := d0 i hi
      have h3 := doV_get s.len i hi
      omega
    refine sum_zero fun i hi => ?_
    rw [leftV_get s.len i (by omega), done_all K X s z R.length i (by omega) (by omega)]
    omega
  · intro h
    have q := sum_ge0 (l := leftV R v) (fun i hi => l0 i (by omega))
    refine sum_zero fun i hi => ?_
    have h1 := q.2 i (by omega)
    have h2 := leftV_get s.len i (by omega)
    have h3 := d0 i (by omega)
    have h4 := doV_get s.len i (by omega)
    have h5 := (doF_all K v i).1
    omega
end Lv
set_option Elab.async false
set_option linter.all false
set_option maxRecDepth 100000
set_option maxHeartbeats 1000000
set_option exponentiation.threshold 2000
/-! P9: homes by names; tables by names. -/
namespace Lv
open PySem
/-- the home by its name is the home by its index -/
def HN (G : List Row) (r : Row) (q : LRow) : Prop := (r.home = none ∧ q.home = none) ∨ ∃ (i : Nat) (g : Row), r.home = some i ∧ G[i]? = some g ∧ q.home = some g.name
def HNb (G : List Row) (h : Option Nat) (h' : Option Str) : Prop := (h = none ∧ h' = none) ∨ ∃ (i : Nat) (g : Row), h = some i ∧ G[i]? = some g ∧ h' = some g.name
mutual
theorem rows_hn (G : List Row) : ∀ (a : Nd) (lv tm : Int) (h : Option Nat) (k : Nat) (h' : Option Str), HNb G h h' → (∀ i q, (a.rows lv tm h k)[i]? = some q → G[k + i]? = some q) → F2 (HN G) (a.rows lv tm h k) (a.lr lv tm h')
  | .mk m x ps, lv, tm, h, k, h', b, hG => by
    have rq := rows_eq (.mk m x ps) lv tm h k
    rw [rq] at hG ⊢
    rw [lr_eq]
    have h0 := hG 0 _ rfl
    exact .cons b (rowsL_hn G ps (lv + 1) (tm * m) (some k) (k + 1) (some x) (.inr ⟨k, _, rfl, h0, rfl⟩) fun i q e => by
      have := hG (i + 1) q e
      rw [show k + 1 + i = k + (i + 1) by omega]; exact this)
theorem rowsL_hn (G : List Row) : ∀ (l : List Nd) (lv tm : Int) (h : Option Nat) (k : Nat) (h' : Option Str), HNb G h h' → (∀ i q, (rowsL l lv tm h k)[i]? = some q → G[k + i]? = some q) → F2 (HN G) (rowsL l lv tm h k) (lrL l lv tm h')
  | [], _, _, _, _, _, _, _ => .nil
  | a :: l, lv, tm, h, k, h', b, hG => by
    rw [rowsL_cons] at hG ⊢
    rw [lrL_cons]
    have len := rows_len a lv tm h k
    exact F2.append (rows_hn G a lv tm h k h' b fun i q e => hG i q (by rw [List.getElem?_append_left ((List.getElem?_eq_some_iff.mp e).1)]; exact e)) (rowsL_hn G l lv tm h (k + a.size) h' b fun i q e => by
      have := hG (a.size + i) q (by rw [List.getElem?_append_right (by omega), len, Nat.add_sub_cancel_left]; exact e)
      rw [Nat.add_assoc]; exact this)
end
theorem kinds_hn (l : List Nd) : F2 (HN (kinds l)) (kinds l) (lkinds l) := rowsL_hn (kinds l) l 1 1 none 0 none (.inl ⟨rfl, rfl⟩) fun i q e => by rw [Nat.zero_add]; exact e
mutual
theorem rows_names : ∀ (a : Nd) (lv tm : Int) (h : Option Nat) (k : Nat), (a.rows lv tm h k).map Row.name = a.pre.map Nd.x
  | .mk m x ps, lv, tm, h, k => by
    rw [Nd.rows, Nd.pre, List.map_cons, List.map_cons]
    have e : (Nd.rows.rL ps (lv + 1) (tm * m) (some k) (k + 1)).map Row.name = (Nd.pre.pL ps).map Nd.x := rowsL_names ps _ _ _ _
    rw [e]; rfl
theorem rowsL_names : ∀ (l : List Nd) (lv tm : Int) (h : Option Nat) (k : Nat), (rowsL l lv tm h k).map Row.name = (preL l).map Nd.x
  | [], _, _, _, _ => rfl
  | a :: l, lv, tm, h, k => by
    show (a.rows lv tm h k ++ rowsL l lv tm h (k + a.size)).map Row.name = (a.pre ++ preL l).map Nd.x
    rw [List.map_append, List.map_append, rows_names a, rowsL_names l]
end
theorem al_name {R : List Row} {L : List LRow} (a : F2 Al R L) : L.map LRow.name = R.map Row.name := by
  induction a with
  | nil => rfl
  | cons p _ ih => rw [List.map_cons, List.map_cons, ih, p.name]
theorem lk_names (l : List Nd) : (lkinds l).map LRow.name = (preL l).map Nd.x := by
  rw [al_name (kinds_al l)]
  exact rowsL_names l _ _ _ _
/-- names tell rows apart -/
theorem name_inj {L : List LRow} (nd : (L.map LRow.name).Nodup) {i j : Nat} {p q : LRow} (h1 : L[i]? = some p) (h2 : L[j]? = some q) (e : p.name = q.name) : i = j := by
  obtain ⟨a1, a2⟩ := List.getElem?_eq_some_iff.mp h1
  obtain ⟨b1, b2⟩ := List.getElem?_eq_some_iff.mp h2
  refine (List.getElem_inj (xs := L.map LRow.name) (h₀ := by rw [List.length_map]; exact a1) (h₁ := by rw [List.length_map]; exact b1) nd).mp ?_
  rw [List.getElem_map, List.getElem_map, a2, b2, e]
/-- a table of numbers by the rows' names -/
def tbl (pr : List LRow) (vs : List Int) : List (L2.Key × D) := (pr.zip vs).map fun p => (.inr p.1.name, .int p.2)
theorem tbl_get : ∀ {pr : List LRow} {vs : List Int} {i : Nat} {q : LRow} {x : Int}, (pr.map LRow.name).Nodup → pr[i]? = some q → vs[i]? = some x → dGet (tbl pr vs) (.inr q.name) = some (.int x)
  | [], vs, i, q, x, nd, h, _ => by cases h
  | a :: pr, [], i, q, x, nd, _, h => by cases h
  | a :: pr, y :: vs, 0, q, x, nd, h1, h2 => by
    cases h1
    cases h2
    simp [dGet, tbl, List.find?_cons]
  | a :: pr, y :: vs, i + 1, q, x, nd, h1, h2 => by
    have h1 : pr[i]? = some q := h1
    have h2 : vs[i]? = some x := h2
    rw [List.map_cons, List.nodup_cons] at nd
    have ne : ¬ a.name = q.name := fun e => nd.1 (by rw [e]; exact List.mem_map_of_mem (List.mem_of_getElem? h1))
    have ih := tbl_get nd.2 h1 h2
    have e : dGet (tbl (a :: pr) (y :: vs)) (.inr q.name) = dGet (tbl pr vs) (.inr q.name) := by
      simp [dGet, tbl, List.find?_cons, ne]
    rw [e]; exact ih
theorem tbl_new {pr : List LRow} {vs : List Int} {q : LRow} {x : Int} (hl : pr.length = vs.length) (h : q.name ∉ pr.map LRow.name) : dPut (tbl pr vs) (.inr q.name) (.int x) = tbl (pr ++ [q]) (vs ++ [x]) := by
  have no : ((tbl pr vs).any fun kv => decide (kv.1 = Sum.inr q.name)) = false := by
    rw [List.any_eq_false]
    intro kv hk
    obtain ⟨p, hp, rfl⟩ := List.mem_map.mp hk
    have : p.1.name ≠ q.name := fun e => h (by rw [← e]; exact List.mem_map_of_mem (List.of_mem_zip hp).1)
    simpa using this
  unfold dPut
  rw [no, if_neg (by decide)]
  unfold tbl
  rw [List.zip_append hl, List.map_append]; rfl
theorem tbl_again {pr : List LRow} {vs : List Int} {q : LRow} {x y : Int} (hl : pr.length = vs.length) (h : q.name ∉ pr.map LRow.name) : dPut (tbl (pr ++ [q]) (vs ++ [x])) (.inr q.name) (.int y) = tbl (pr ++ [q]) (vs ++ [y]) := by
  have yes : ((tbl (pr ++ [q]) (vs ++ [x])).any fun kv => decide (kv.1 = Sum.inr q.name)) = true := by
    rw [List.any_eq_true]
    refine ⟨(.inr q.name, .int x), ?_, by simp⟩
    unfold tbl
    rw [List.zip_append hl, List.map_append]
    exact List.mem_append_right _ (List.mem_cons_self ..)
  have key : ∀ (pr : List LRow) (vs : List Int), q.name ∉ pr.map LRow.name → ((pr.zip vs).map fun p => ((Sum.inr p.1.name : L2.Key), D.int p.2)).map (fun kv => if kv.1 = Sum.inr q.name then (kv.1, D.int y) else kv) = (pr.zip vs).map fun p => ((Sum.inr p.1.name : L2.Key), D.int p.2) := by
    intro pr vs h
    rw [List.map_map]
    refine List.map_congr_left fun p hp => ?_
    have : p.1.name ≠ q.name := fun e => h (by rw [← e]; exact List.mem_map_of_mem (List.of_mem_zip hp).1)
    show (if (Sum.inr p.1.name : L2.Key) = Sum.inr q.name then _ else _) = _
    rw [if_neg (by simpa using this)]
  unfold dPut
  rw [yes, if_pos rfl]
  unfold tbl
  rw [List.zip_append hl, List.zip_append hl, List.map_append, List.map_append, List.map_append, key pr vs h]
  show _ ++ [if (Sum.inr q.name : L2.Key) = Sum.inr q.name then (Sum.inr q.name, D.int y) else _] = _
  rw [if_pos rfl]; rfl
/-- the least of some numbers, drawn together from the left, at most d -/
theorem min_unique {a b : Int} (h1 : a ≤ b) (h2 : b ≤ a) : a = b := by omega
end Lv
set_option Elab.async false
set_option linter.all false
set_option maxRecDepth 100000
set_option maxHeartbeats 0
namespace Lk16
open PySem PySem.Spec PyProof.Rows L2 Lv
abbrev LR : PySem.W.OpenLaw := PySem.Challenge.rw_levelhands_k16_whole_left_and_doable
def top (i : Nat) : Stmt := LR.prog.main.body.getD i (.Pass ⟨0, 0, 0, 0⟩)
/-- law : 0 _law_script, 1 _law_turn -/
def B39 : Ss := (.cons (.ret (.bi .all (.cons (.lc (.rg1 (.bi .max (.cons (.int 2) (.cons (.bi .min (.cons (.bi .len (.cons (.var 0) .nil)) (.cons (.int 4) .nil))) .nil)))) (.name 1) .nil (.call 1 (.cons (.call 2 (.cons (.var 0) (.cons (.var 1) .nil))) .nil)) [1]) .nil))) .nil)
def F39 : Fd := ⟨2, B39⟩
/-- _law_quiet : 0 _law_jug_here, 1 _law_is_right -/
def B1 : Ss := (.cons (.thru (.cons (.set 1 (.call 55 (.cons (.var 0) .nil))) .nil)) (.cons (.ret (.var 1)) .nil))
def F1 : Fd := ⟨2, B1⟩
/-- _law_jug : 0 _law_script, 1 _law_turn, 2 _law_figure, 3 _law_seed, 4 _law_each -/
def B2 : Ss := (.cons (.set 2 (.ite (.cmp .Lt (.var 1) (.bi .len (.cons (.var 0) .nil))) (.idx (.var 0) (.var 1)) (.bin .Add (.bin .Mult (.int 41) (.var 1)) (.int 6)))) (.cons (.set 3 (.bin .Add (.int 160481183) (.bin .Mult (.int 42013) (.var 1)))) (.cons (.lop (.seq (.bin .Add (.lst (.cons (.var 2) .nil)) (.sl (.var 0) .nil (.cons (.int 6) .nil)))) (.name 4) (.cons (.set 3 (.bin .Mod (.bi .int (.cons (.bin .Add (.bin .Mult (.var 3) (.int 51071)) (.var 4)) .nil)) (.int 2147483399))) .nil)) (.cons (.ret (.cel (.cons (.ite (.cmp .GtE (.bi .abs (.cons (.var 2) .nil)) (.bin .Pow (.int 10) (.int 18))) (.bi .abs (.cons (.var 2) .nil)) (.int 0)) (.cons (.var 3) (.cons (.int 0) .nil))))) .nil))))
def F2 : Fd := ⟨5, B2⟩
/-- _law_right : 0 _law_jug_here, 1 _law_turn, 2 _law_nodes_here, 3 _law_rows_here, 4 _law_page, 5 _law_mine, 6 _law_some, 7 _law_row, 8 _law_again -/
def B55 : Ss := (.cons (.lop (.rg1 (.int 2)) (.name 1) (.cons (.set 2 (.call 41 (.cons (.var 0) (.cons (.int 9) (.cons (.var 1) .nil))))) (.cons (.set 3 (.call 44 (.cons (.var 2) (.cons (.int 1) (.cons (.int 1) (.cons .non .nil)))))) (.cons (.ifs (.cmp .LtE (.bi .sum (.cons (.lc (.seq (.var 3)) (.name 7) .nil (.idx (.var 7) (.int 3)) [7]) .nil)) (.bin .Pow (.int 10) (.int 60))) (.cons (.par 5 6 (.mk 0 (.cons (.var 2) .nil)) (.lst (.cons (.bin .Mult (.tup (.cons (.int 0) .nil)) (.bi .len (.cons (.var 3) .nil))) (.cons (.bi .tuple (.cons (.lc (.seq (.var 3)) (.name 7) .nil (.idx (.var 7) (.int 3)) [7]) .nil)) .nil))) false false) (.cons (.lop (.seq (.bin .Add (.var 6) (.lc (.rg1 (.int 4)) (.name 8) .nil (.call 56 (.cons (.var 0) (.cons (.var 3) .nil))) [8]))) (.name 4) (.cons (.ifs (.not (.call 57 (.cons (.var 5) (.cons (.var 3) (.cons (.var 4) .nil))))) (.cons (.ret (.bl false)) .nil) .nil) .nil)) .nil)) .nil) .nil)))) (.cons (.ret (.bl true)) .nil))
def F55 : Fd := ⟨9, B55⟩
/-- _law_trunks : 0 _law_jug_here, 1 _law_high, 2 _law_way, 3 _law_labels, 4 _law_turn, 5 _law_homes, 6 _law_parts_here, 7 _law_k, 8 _law_count, 9 _law_label -/
def B41 : Ss := (.cons (.par 8 3 (.bin .Add (.int 1) (.call 7 (.cons (.var 0) (.cons (.var 1) .nil)))) (.lst (.cons (.str "a") (.cons (.str "b9") (.cons (.str "hull") (.cons (.str "zzzzzzz0") (.cons (.str "p") (.cons (.str "q1q1q1q1") (.cons (.str "x") (.cons (.str "mast") (.cons (.str "y") (.cons (.str "z") .nil))))))))))) false false) (.cons (.set 3 (.bin .Add (.var 3) (.lst (.cons (.str "c") (.cons (.str "d") (.cons (.str "e") (.cons (.str "f") (.cons (.str "g") (.cons (.str "h") (.cons (.str "i") (.cons (.str "j") (.cons (.str "k") (.cons (.str "l") .nil))))))))))))) (.cons (.set 4 (.call 7 (.cons (.var 0) (.cons (.int 20) .nil)))) (.cons (.set 5 (.bin .Add (.lst (.cons (.int 0) .nil)) (.lc (.rg2 (.int 1) (.var 8)) (.name 7) .nil (.call 7 (.cons (.var 0) (.cons (.bin .Add (.var 7) (.int 1)) .nil))) [7]))) (.cons (.setO 6 (.lc (.rg1 (.bin .Add (.var 8) (.int 1))) (.name 7) .nil (.lst .nil) [7])) (.cons (.lop (.rg3 (.var 8) (.int 0) (.neg (.int 1))) (.name 7) (.cons (.set 9 (.idx (.var 3) (.bin .Mod (.bi .int (.cons (.bin .Add (.var 4) (.bin .Mult (.int 7) (.var 7))) .nil)) (.int 20)))) (.cons (.seti 6 (.idx (.var 5) (.bin .Sub (.var 7) (.int 1))) (.bin .Add (.lst (.cons (.tup (.cons (.call 45 (.cons (.var 0) (.cons (.var 2) .nil))) (.cons (.var 9) (.cons (.bi .tuple (.cons (.idx (.own 6) (.var 7)) .nil)) .nil)))) .nil)) (.idx (.own 6) (.idx (.var 5) (.bin .Sub (.var 7) (.int 1)))))) .nil))) (.cons (.ret (.bi .tuple (.cons (.idx (.own 6) (.int 0)) .nil))) .nil)))))))
def F41 : Fd := ⟨10, B41⟩
/-- _law_kinds : 0 _law_nodes_here, 1 _law_rank, 2 _law_times, 3 _law_home, 4 _law_found, 5 _law_count, 6 _law_label, 7 _law_parts_here -/
def B44 : Ss := (.cons (.setO 4 (.lst .nil)) (.cons (.lop (.seq (.var 0)) (.tup [(.name 5), (.name 6), (.name 7)]) (.cons (.app 4 (.tup (.cons (.var 6) (.cons (.var 5) (.cons (.var 1) (.cons (.bin .Mult (.var 2) (.var 5)) (.cons (.var 3) .nil))))))) (.cons (.setO 4 (.bin .Add (.own 4) (.call 44 (.cons (.var 7) (.cons (.bin .Add (.var 1) (.int 1)) (.cons (.bin .Mult (.var 2) (.var 5)) (.cons (.var 6) .nil))))))) .nil))) (.frz 4 (.cons (.ret (.var 4)) .nil))))
def F44 : Fd := ⟨8, B44⟩
/-- Work.__init__ : 0 self, 1 nodes, 2 wrong, 3 rows, 4 pieces, 5 kind -/
def B8 : Ss := (.cons (.set 2 (.call 13 (.cons (.var 1) .nil))) (.cons (.ifs (.cmp .NotEq (.var 2) (.tup .nil)) (.cons .bad .nil) .nil) (.cons (.set 3 (.bi .tuple (.cons (.call 14 (.cons (.var 1) .nil)) .nil))) (.cons (.set 4 (.bi .sum (.cons (.lc (.seq (.var 3)) (.name 5) .nil (.idx (.var 5) (.int 3)) [5]) .nil))) (.cons (.ifs (.cmp .Gt (.var 4) (.cst "MOST_PIECES")) (.cons .bad .nil) .nil) (.cons (.sta (.var 0) "trunks" (.var 1)) (.cons (.sta (.var 0) "rows" (.var 3)) .nil)))))))
def F8 : Fd := ⟨6, B8⟩
/-- _law_state : 0 _law_jug_here, 1 _law_rows_here, 2 _law_table_here, 3 _law_label, 4 _law_count, 5 _law_level, 6 _law_total, 7 _law_home, 8 _law_low, 9 _law_rest, 10 _law_way, 11 _law_row -/
def B56 : Ss := (.cons (.setO 2 .dic0) (.cons (.lop (.seq (.var 1)) (.tup [(.name 3), (.name 4), (.name 5), (.name 6), (.name 7)]) (.cons (.set 8 (.ite (.cmp .Is (.var 7) .non) (.int 0) (.bin .Mult (.dget (.own 2) (.var 7)) (.var 4)))) (.cons (.set 9 (.bin .Sub (.var 6) (.var 8))) (.cons (.set 10 (.call 7 (.cons (.var 0) (.cons (.int 6) .nil)))) (.cons (.setd 2 (.var 3) (.bin .Add (.var 8) (.idx (.lst (.cons (.int 0) (.cons (.int 0) (.cons (.var 9) (.cons (.bi .min (.cons (.int 1) (.cons (.var 9) .nil))) (.cons (.bin .FloorDiv (.var 9) (.int 2)) (.cons (.bi .max (.cons (.int 0) (.cons (.bin .Sub (.var 9) (.int 1)) .nil))) .nil))))))) (.var 10)))) (.cons (.ifs (.and (.cmp .Is (.var 7) .non) (.one (.cmp .Eq (.call 7 (.cons (.var 0) (.cons (.int 2) .nil))) (.int 0)))) (.cons (.setd 2 (.var 3) (.int 0)) .nil) .nil) .nil)))))) (.cons (.ret (.bi .tuple (.cons (.lc (.seq (.var 1)) (.name 11) .nil (.dget (.own 2) (.idx (.var 11) (.int 0))) [11]) .nil))) .nil)))
def F56 : Fd := ⟨12, B56⟩
/-- _law_state_right : 0 _law_mine, 1 _law_rows_here, 2 _law_page, 3 _law_due, 4 _law_k, 5 _law_done_here, 6 _law_over, 7 _law_row, 8 _law_number -/
def B57 : Ss := (.cons (.set 3 (.bi .tuple (.cons (.lc (.zip (.var 1) (.var 2)) (.tup [(.name 7), (.name 8)]) .nil (.bin .Sub (.idx (.var 7) (.int 3)) (.var 8)) [7, 8]) .nil))) (.cons (.ifs (.cmp .NotEq (.bi .repr (.cons (.lst (.cons (.call 12 (.cons (.var 0) (.cons (.var 2) .nil))) (.cons (.callk 12 .nil (.cons (.var 2) (.cons (.var 0) .nil)) [1, 0]) .nil))) .nil)) (.bi .repr (.cons (.lst (.cons (.var 3) (.cons (.var 3) .nil))) .nil))) (.cons (.ret (.bl false)) .nil) .nil) (.cons (.set 3 (.bi .tuple (.cons (.lc (.rg1 (.bi .len (.cons (.var 2) .nil))) (.name 4) .nil (.bin .Sub (.call 58 (.cons (.var 1) (.cons (.var 2) (.cons (.var 4) .nil)))) (.idx (.var 2) (.var 4))) [4]) .nil))) (.cons (.ifs (.cmp .NotEq (.bi .repr (.cons (.lst (.cons (.call 11 (.cons (.var 0) (.cons (.var 2) .nil))) (.cons (.callk 11 .nil (.cons (.var 2) (.cons (.var 0) .nil)) [1, 0]) .nil))) .nil)) (.bi .repr (.cons (.lst (.cons (.var 3) (.cons (.var 3) .nil))) .nil))) (.cons (.ret (.bl false)) .nil) .nil) (.cons (.lop (.rg1 (.bi .len (.cons (.var 2) .nil))) (.name 4) (.cons (.set 5 (.bin .Add (.bin .Add (.sl (.var 2) .nil (.cons (.var 4) .nil)) (.tup (.cons (.bin .Add (.idx (.var 2) (.var 4)) (.idx (.var 3) (.var 4))) .nil))) (.sl (.var 2) (.cons (.bin .Add (.var 4) (.int 1)) .nil) .nil))) (.cons (.set 6 (.bin .Add (.bin .Add (.sl (.var 2) .nil (.cons (.var 4) .nil)) (.tup (.cons (.bin .Add (.bin .Add (.idx (.var 2) (.var 4)) (.idx (.var 3) (.var 4))) (.int 1)) .nil))) (.sl (.var 2) (.cons (.bin .Add (.var 4) (.int 1)) .nil) .nil))) (.cons (.ifs (.or (.cmp .IsNot (.call 9 (.cons (.var 0) (.cons (.var 5) .nil))) (.bl true)) (.one (.cmp .IsNot (.call 9 (.cons (.var 0) (.cons (.var 6) .nil))) (.bl false)))) (.cons (.ret (.bl false)) .nil) .nil) .nil)))) (.cons (.ret (.bl true)) .nil))))))
def F57 : Fd := ⟨9, B57⟩
/-- _law_pour : 0 _law_jug_here, 1 _law_many_ways, 2 _law_digit -/
def B7 : Ss := (.cons (.ifs (.cmp .Gt (.idx (.var 0) (.int 0)) (.int 0)) (.cons (.asg (.tup [(.sub (.var 0) (.int 0)), (.name 2)]) (.bi .divmod (.cons (.idx (.var 0) (.int 0)) (.cons (.var 1) .nil)))) (.cons (.ret (.var 2)) .nil)) .nil) (.cons (.asg (.sub (.var 0) (.int 2)) (.bin .Add (.idx (.var 0) (.int 2)) (.int 1))) (.cons (.asg (.sub (.var 0) (.int 1)) (.bin .Mod (.bi .int (.cons (.bin .Add (.bin .Mult (.idx (.var 0) (.int 1)) (.int 46021)) (.bin .Mult (.int 25013) (.idx (.var 0) (.int 2)))) .nil)) (.int 2147483399))) (.cons (.ret (.bin .Mod (.bi .int (.cons (.bin .FloorDiv (.idx (.var 0) (.int 1)) (.int 1024)) .nil)) (.var 1))) .nil))))
def F7 : Fd := ⟨3, B7⟩
/-- _law_lot : 0 _law_jug_here, 1 _law_way, 2 _law_small -/
def B45 : Ss := (.cons (.set 2 (.idx (.lst (.cons (.int 1) (.cons (.int 1) (.cons (.int 2) (.cons (.int 3) (.cons (.int 5) (.cons (.int 7) .nil))))))) (.call 7 (.cons (.var 0) (.cons (.int 6) .nil))))) (.cons (.ret (.ite (.cmp .Eq (.var 1) (.int 0)) (.var 2) (.idx (.lst (.cons (.var 2) (.cons (.var 2) (.cons (.bin .Add (.bin .Pow (.int 10) (.int 6)) (.int 3)) (.cons (.bin .Pow (.int 2) (.int 40)) (.cons (.bin .Pow (.int 10) (.int 14)) .nil)))))) (.call 7 (.cons (.var 0) (.cons (.int 5) .nil)))))) .nil))
def F45 : Fd := ⟨3, B45⟩
/-- wrong_node : 0 nodes, 1 rows, 2 at, 3 row, 4 other -/
def B13 : Ss := (.cons (.ifs (.or (.not (.isi (.var 0) .tuple)) (.one (.cmp .Eq (.bi .len (.cons (.var 0) .nil)) (.int 0)))) (.cons (.ret (.tup (.cons .non .nil))) .nil) .nil) (.cons (.set 1 (.call 23 (.cons (.var 0) .nil))) (.cons (.lop (.enum (.var 1)) (.tup [(.name 2), (.name 3)]) (.cons (.ifs (.or (.not (.call 24 (.cons (.var 3) .nil))) (.or (.cmp .GtE (.var 2) (.cst "MOST_KINDS")) (.one (.cmp .In (.idx (.var 3) (.int 1)) (.lc (.seq (.sl (.var 1) .nil (.cons (.var 2) .nil))) (.name 4) .nil (.idx (.var 4) (.int 1)) [4]))))) (.cons (.ret (.tup (.cons (.var 2) .nil))) .nil) .nil) .nil)) (.cons (.ret (.tup .nil)) .nil))))
def F13 : Fd := ⟨5, B13⟩
/-- all_kinds : 0 nodes -/
def B14 : Ss := (.cons (.ret (.call 25 (.cons (.var 0) (.cons (.int 1) (.cons (.int 1) (.cons (.tup (.cons .non (.cons (.neg (.int 1)) .nil))) .nil)))))) .nil)
def F14 : Fd := ⟨1, B14⟩
/-- left : 0 work, 1 done -/
def B12 : Ss := (.cons (.ex (.call 20 (.cons (.var 0) (.cons (.var 1) .nil)))) (.cons (.ret (.call 22 (.cons (.var 0) (.cons (.var 1) .nil)))) .nil))
def F12 : Fd := ⟨2, B12⟩
/-- _law_most : 0 _law_rows_here, 1 _law_page, 2 _law_k, 3 _law_found, 4 _law_row, 5 _law_number -/
def B58 : Ss := (.cons (.set 3 (.idx (.idx (.var 0) (.var 2)) (.int 3))) (.cons (.lop (.zip (.var 0) (.var 1)) (.tup [(.name 4), (.name 5)]) (.cons (.ifs (.cmp .Eq (.idx (.var 4) (.int 4)) (.idx (.idx (.var 0) (.var 2)) (.int 0))) (.cons (.set 3 (.bi .min (.cons (.var 3) (.cons (.bin .FloorDiv (.var 5) (.idx (.var 4) (.int 1))) .nil)))) .nil) .nil) .nil)) (.cons (.ret (.var 3)) .nil)))
def F58 : Fd := ⟨6, B58⟩
/-- doable : 0 work, 1 done -/
def B11 : Ss := (.cons (.ex (.call 20 (.cons (.var 0) (.cons (.var 1) .nil)))) (.cons (.ret (.call 21 (.cons (.var 0) (.cons (.var 1) .nil)))) .nil))
def F11 : Fd := ⟨2, B11⟩
/-- is_state : 0 work, 1 value -/
def B9 : Ss := (.cons (.ex (.call 15 (.cons (.var 0) .nil))) (.cons (.ret (.call 16 (.cons (.var 0) (.cons (.var 1) .nil)))) .nil))
def F9 : Fd := ⟨2, B9⟩
/-- listed : 0 nodes, 1 found, 2 rest -/
def B23 : Ss := (.cons (.par 1 2 (.lst .nil) (.bi .list (.cons (.var 0) .nil)) true false) (.cons (.whl (.and (.cmp .NotEq (.var 2) (.lst .nil)) (.one (.cmp .LtE (.bi .len (.cons (.own 1) .nil)) (.cst "MOST_KINDS")))) (.cons (.app 1 (.idx (.var 2) (.int 0))) (.cons (.set 2 (.bin .Add (.ite (.call 24 (.cons (.idx (.var 2) (.int 0)) .nil)) (.bi .list (.cons (.idx (.idx (.var 2) (.int 0)) (.int 2)) .nil)) (.lst .nil)) (.sl (.var 2) (.cons (.int 1) .nil) .nil))) .nil))) (.frz 1 (.cons (.ret (.var 1)) .nil))))
def F23 : Fd := ⟨3, B23⟩
/-- is_node : 0 value -/
def B24 : Ss := (.cons (.ifs (.or (.not (.isi (.var 0) .tuple)) (.or (.cmp .NotEq (.bi .len (.cons (.var 0) .nil)) (.int 3)) (.one (.not (.call 34 (.cons (.idx (.var 0) (.int 1)) .nil)))))) (.cons (.ret (.bl false)) .nil) .nil) (.cons (.ret (.and (.call 33 (.cons (.idx (.var 0) (.int 0)) (.cons (.int 1) (.cons (.cst "MOST_MANY") .nil)))) (.one (.isi (.idx (.var 0) (.int 2)) .tuple)))) .nil))
def F24 : Fd := ⟨1, B24⟩
/-- kinds_of : 0 nodes, 1 level, 2 times, 3 home, 4 found, 5 many, 6 name, 7 parts, 8 at -/
def B25 : Ss := (.cons (.setO 4 (.lst .nil)) (.cons (.lop (.seq (.var 0)) (.tup [(.name 5), (.name 6), (.name 7)]) (.cons (.set 8 (.bin .Add (.bin .Add (.idx (.var 3) (.int 1)) (.bi .len (.cons (.own 4) .nil))) (.int 1))) (.cons (.app 4 (.tup (.cons (.var 6) (.cons (.var 5) (.cons (.var 1) (.cons (.bin .Mult (.var 2) (.var 5)) (.cons (.idx (.var 3) (.int 0)) .nil))))))) (.cons (.setO 4 (.bin .Add (.own 4) (.call 25 (.cons (.var 7) (.cons (.bin .Add (.var 1) (.int 1)) (.cons (.bin .Mult (.var 2) (.var 5)) (.cons (.tup (.cons (.var 8) (.cons (.var 8) .nil))) .nil))))))) .nil)))) (.frz 4 (.cons (.ret (.var 4)) .nil))))
def F25 : Fd := ⟨9, B25⟩
/-- check_both : 0 work, 1 done -/
def B20 : Ss := (.cons (.ex (.call 15 (.cons (.var 0) .nil))) (.cons (.ex (.call 18 (.cons (.var 0) (.cons (.var 1) .nil)))) .nil))
def F20 : Fd := ⟨2, B20⟩
/-- left_of : 0 work, 1 done, 2 total, 3 number -/
def B22 : Ss := (.cons (.ret (.bi .tuple (.cons (.lc (.zip (.att (.var 0) "totals") (.var 1)) (.tup [(.name 2), (.name 3)]) .nil (.bin .Sub (.var 2) (.var 3)) [2, 3]) .nil))) .nil)
def F22 : Fd := ⟨4, B22⟩
/-- doable_of : 0 work, 1 done, 2 found, 3 at, 4 name, 5 many, 6 level, 7 total, 8 home, 9 most, 10 number -/
def B21 : Ss := (.cons (.setO 2 (.bi .list (.cons (.att (.var 0) "totals") .nil))) (.cons (.lop (.enum (.att (.var 0) "kinds")) (.tup [(.name 3), (.tup [(.name 4), (.name 5), (.name 6), (.name 7), (.name 8)])]) (.cons (.ifs (.cmp .IsNot (.var 8) .non) (.cons (.seti 2 (.var 8) (.bi .min (.cons (.idx (.own 2) (.var 8)) (.cons (.bin .FloorDiv (.idx (.var 1) (.var 3)) (.var 5)) .nil)))) .nil) .nil) .nil)) (.frz 2 (.cons (.ret (.bi .tuple (.cons (.lc (.zip (.var 2) (.var 1)) (.tup [(.name 9), (.name 10)]) .nil (.bin .Sub (.var 9) (.var 10)) [9, 10]) .nil))) .nil))))
def F21 : Fd := ⟨11, B21⟩
/-- check_work : 0 value -/
def B15 : Ss := (.cons (.ifs (.not (.isi (.var 0) (.cls 0))) (.cons .bad .nil) .nil) .nil)
def F15 : Fd := ⟨1, B15⟩
/-- are_done : 0 work, 1 value -/
def B16 : Ss := (.cons (.ret (.and (.cmp .Eq (.call 26 (.cons (.var 0) (.cons (.var 1) .nil))) (.tup .nil)) (.one (.cmp .Is (.call 27 (.cons (.var 0) (.cons (.var 1) (.cons (.var 1) .nil)))) .non)))) .nil)
def F16 : Fd := ⟨2, B16⟩
/-- is_within : 0 value, 1 least, 2 most -/
def B33 : Ss := (.cons (.ret (.and (.call 37 (.cons (.var 0) .nil)) (.one (.chn .LtE .LtE (.var 1) (.var 0) (.var 2))))) .nil)
def F33 : Fd := ⟨3, B33⟩
/-- is_name : 0 value, 1 sign -/
def B34 : Ss := (.cons (.ifs (.or (.not (.isi (.var 0) .str)) (.one (.not (.chn .LtE .LtE (.int 1) (.bi .len (.cons (.var 0) .nil)) (.cst "LONGEST_NAME"))))) (.cons (.ret (.bl false)) .nil) .nil) (.cons (.ret (.and (.cmp .In (.idx (.var 0) (.int 0)) (.cst "LETTERS")) (.one (.bi .all (.cons (.lc (.seq (.var 0)) (.name 1) .nil (.or (.cmp .In (.var 1) (.cst "LETTERS")) (.one (.cmp .In (.var 1) (.cst "DIGITS")))) [1]) .nil))))) .nil))
def F34 : Fd := ⟨2, B34⟩
/-- check_state : 0 work, 1 done, 2 wrong, 3 lack -/
def B18 : Ss := (.cons (.set 2 (.call 26 (.cons (.var 0) (.cons (.var 1) .nil)))) (.cons (.ifs (.cmp .NotEq (.var 2) (.tup .nil)) (.cons .bad .nil) .nil) (.cons (.set 3 (.call 27 (.cons (.var 0) (.cons (.var 1) (.cons (.var 1) .nil))))) (.cons (.ifs (.cmp .IsNot (.var 3) .non) (.cons .bad .nil) .nil) .nil))))
def F18 : Fd := ⟨4, B18⟩
/-- Work.totals : 0 self, 1 kind -/
def B31 : Ss := (.cons (.ret (.bi .tuple (.cons (.lc (.seq (.att (.var 0) "rows")) (.name 1) .nil (.idx (.var 1) (.int 3)) [1]) .nil))) .nil)
def F31 : Fd := ⟨2, B31⟩
/-- Work.kinds : 0 self -/
def B32 : Ss := (.cons (.ret (.att (.var 0) "rows")) .nil)
def F32 : Fd := ⟨1, B32⟩
/-- wrong_number : 0 work, 1 value, 2 at, 3 number -/
def B26 : Ss := (.cons (.ifs (.or (.not (.isi (.var 1) .tuple)) (.one (.cmp .NotEq (.bi .len (.cons (.var 1) .nil)) (.len (.var 0))))) (.cons (.ret (.tup (.cons .non .nil))) .nil) .nil) (.cons (.lop (.enum (.var 1)) (.tup [(.name 2), (.name 3)]) (.cons (.ifs (.not (.call 33 (.cons (.var 3) (.cons (.int 0) (.cons (.idx (.idx (.att (.var 0) "kinds") (.var 2)) (.int 3)) .nil))))) (.cons (.ret (.tup (.cons (.var 2) .nil))) .nil) .nil) .nil)) (.cons (.ret (.tup .nil)) .nil)))
def F26 : Fd := ⟨4, B26⟩
/-- first_lack : 0 work, 1 before, 2 after, 3 at, 4 name, 5 many, 6 level, 7 total, 8 home -/
def B27 : Ss := (.cons (.lop (.enum (.att (.var 0) "kinds")) (.tup [(.name 3), (.tup [(.name 4), (.name 5), (.name 6), (.name 7), (.name 8)])]) (.cons (.ifs (.and (.cmp .IsNot (.var 8) .non) (.one (.cmp .Lt (.idx (.var 1) (.var 3)) (.bin .Mult (.var 5) (.idx (.var 2) (.var 8)))))) (.cons (.ret (.var 4)) .nil) .nil) .nil)) (.cons (.ret .non) .nil))
def F27 : Fd := ⟨9, B27⟩
/-- is_integer : 0 value -/
def B37 : Ss := (.cons (.ret (.and (.isi (.var 0) .int) (.one (.not (.isi (.var 0) .bool))))) .nil)
def F37 : Fd := ⟨1, B37⟩
/-- Work.__len__ : 0 self -/
def B38 : Ss := (.cons (.ret (.bi .len (.cons (.att (.var 0) "rows") .nil))) .nil)
def F38 : Fd := ⟨1, B38⟩
def tab : Nat → Option Fd
  | 39 => some F39
  | 1 => some F1
  | 2 => some F2
  | 55 => some F55
  | 41 => some F41
  | 44 => some F44
  | 8 => some F8
  | 56 => some F56
  | 57 => some F57
  | 7 => some F7
  | 45 => some F45
  | 13 => some F13
  | 14 => some F14
  | 12 => some F12
  | 58 => some F58
  | 11 => some F11
  | 9 => some F9
  | 23 => some F23
  | 24 => some F24
  | 25 => some F25
  | 20 => some F20
  | 22 => some F22
  | 21 => some F21
  | 15 => some F15
  | 16 => some F16
  | 33 => some F33
  | 34 => some F34
  | 18 => some F18
  | 31 => some F31
  | 32 => some F32
  | 26 => some F26
  | 27 => some F27
  | 37 => some F37
  | 38 => some F38
  | _ => none
def D39 : Df := ⟨39, .glo "law", "law", "law", ["_law_script"], ["_law_script", "_law_turn"], top 58, []⟩
def D1 : Df := ⟨1, .glo "_law_quiet", "_law_quiet", "_law_quiet", ["_law_jug_here"], ["_law_jug_here", "_law_is_right"], top 57, []⟩
def D2 : Df := ⟨2, .glo "_law_jug", "_law_jug", "_law_jug", ["_law_script", "_law_turn"], ["_law_script", "_law_turn", "_law_figure", "_law_seed", "_law_each"], top 48, []⟩
def D55 : Df := ⟨55, .glo "_law_right", "_law_right", "_law_right", ["_law_jug_here"], ["_law_jug_here", "_law_turn", "_law_nodes_here", "_law_rows_here", "_law_page", "_law_mine", "_law_some", "_law_row", "_law_again"], top 56, []⟩
def D41 : Df := ⟨41, .glo "_law_trunks", "_law_trunks", "_law_trunks", ["_law_jug_here", "_law_high", "_law_way"], ["_law_jug_here", "_law_high", "_law_way", "_law_labels", "_law_turn", "_law_homes", "_law_parts_here", "_law_k", "_law_count", "_law_label"], top 51, []⟩
def D44 : Df := ⟨44, .glo "_law_kinds", "_law_kinds", "_law_kinds", ["_law_nodes_here", "_law_rank", "_law_times", "_law_home"], ["_law_nodes_here", "_law_rank", "_law_times", "_law_home", "_law_found", "_law_count", "_law_label", "_law_parts_here"], top 52, []⟩
def D8 : Df := ⟨8, .met "Work" "__init__", "__init__", "Work.__init__", ["self", "nodes"], ["self", "nodes", "wrong", "rows", "pieces", "kind"], inClass (top 33) 0, []⟩
def D56 : Df := ⟨56, .glo "_law_state", "_law_state", "_law_state", ["_law_jug_here", "_law_rows_here"], ["_law_jug_here", "_law_rows_here", "_law_table_here", "_law_label", "_law_count", "_law_level", "_law_total", "_law_home", "_law_low", "_law_rest", "_law_way", "_law_row"], top 53, []⟩
def D57 : Df := ⟨57, .glo "_law_state_right", "_law_state_right", "_law_state_right", ["_law_mine", "_law_rows_here", "_law_page"], ["_law_mine", "_law_rows_here", "_law_page", "_law_due", "_law_k", "_law_done_here", "_law_over", "_law_row", "_law_number"], top 55, []⟩
def D7 : Df := ⟨7, .glo "_law_pour", "_law_pour", "_law_pour", ["_law_jug_here", "_law_many_ways"], ["_law_jug_here", "_law_many_ways", "_law_digit"], top 49, []⟩
def D45 : Df := ⟨45, .glo "_law_lot", "_law_lot", "_law_lot", ["_law_jug_here", "_law_way"], ["_law_jug_here", "_law_way", "_law_small"], top 50, []⟩
def D13 : Df := ⟨13, .glo "wrong_node", "wrong_node", "wrong_node", ["nodes"], ["nodes", "rows", "at", "row", "other"], top 26, []⟩
def D14 : Df := ⟨14, .glo "all_kinds", "all_kinds", "all_kinds", ["nodes"], ["nodes"], top 28, []⟩
def D12 : Df := ⟨12, .glo "left", "left", "left", ["work", "done"], ["work", "done"], top 45, [(["done", "work"], [1, 0])]⟩
def D58 : Df := ⟨58, .glo "_law_most", "_law_most", "_law_most", ["_law_rows_here", "_law_page", "_law_k"], ["_law_rows_here", "_law_page", "_law_k", "_law_found", "_law_row", "_law_number"], top 54, []⟩
def D11 : Df := ⟨11, .glo "doable", "doable", "doable", ["work", "done"], ["work", "done"], top 46, [(["done", "work"], [1, 0])]⟩
def D9 : Df := ⟨9, .glo "is_state", "is_state", "is_state", ["work", "value"], ["work", "value"], top 44, []⟩
def D23 : Df := ⟨23, .glo "listed", "listed", "listed", ["nodes"], ["nodes", "found", "rest"], top 25, []⟩
def D24 : Df := ⟨24, .glo "is_node", "is_node", "is_node", ["value"], ["value"], top 24, []⟩
def D25 : Df := ⟨25, .glo "kinds_of", "kinds_of", "kinds_of", ["nodes", "level", "times", "home"], ["nodes", "level", "times", "home", "found", "many", "name", "parts", "at"], top 27, []⟩
def D20 : Df := ⟨20, .glo "check_both", "check_both", "check_both", ["work", "done"], ["work", "done"], top 43, []⟩
def D22 : Df := ⟨22, .glo "left_of", "left_of", "left_of", ["work", "done"], ["work", "done", "total", "number"], top 41, []⟩
def D21 : Df := ⟨21, .glo "doable_of", "doable_of", "doable_of", ["work", "done"], ["work", "done", "found", "at", "name", "many", "level", "total", "home", "most", "number"], top 42, []⟩
def D15 : Df := ⟨15, .glo "check_work", "check_work", "check_work", ["value"], ["value"], top 35, []⟩
def D16 : Df := ⟨16, .glo "are_done", "are_done", "are_done", ["work", "value"], ["work", "value"], top 39, []⟩
def D33 : Df := ⟨33, .glo "is_within", "is_within", "is_within", ["value", "least", "most"], ["value", "least", "most"], top 20, []⟩
def D34 : Df := ⟨34, .glo "is_name", "is_name", "is_name", ["value"], ["value", "sign"], top 21, []⟩
def D18 : Df := ⟨18, .glo "check_state", "check_state", "check_state", ["work", "done"], ["work", "done", "wrong", "lack"], top 40, []⟩
def D31 : Df := ⟨31, .prp "Work" "totals", "totals", "Work.totals", ["self"], ["self", "kind"], inClass (top 33) 6, []⟩
def D32 : Df := ⟨32, .prp "Work" "kinds", "kinds", "Work.kinds", ["self"], ["self"], inClass (top 33) 3, []⟩
def D26 : Df := ⟨26, .glo "wrong_number", "wrong_number", "wrong_number", ["work", "value"], ["work", "value", "at", "number"], top 37, []⟩
def D27 : Df := ⟨27, .glo "first_lack", "first_lack", "first_lack", ["work", "before", "after"], ["work", "before", "after", "at", "name", "many", "level", "total", "home"], top 38, []⟩
def D37 : Df := ⟨37, .glo "is_integer", "is_integer", "is_integer", ["value"], ["value"], top 19, []⟩
def D38 : Df := ⟨38, .met "Work" "__len__", "__len__", "Work.__len__", ["self"], ["self"], inClass (top 33) 11, []⟩
def y : Ly := ⟨[D39, D1, D2, D55, D41, D44, D8, D56, D57, D7, D45, D13, D14, D12, D58, D11, D9, D23, D24, D25, D20, D22, D21, D15, D16, D33, D34, D18, D31, D32, D26, D27, D37, D38], [⟨"Work", ["rows", "trunks"], [("totals", 31), ("kinds", 32)], [("__len__", 38)], some 8⟩], ["abs", "all", "bool", "divmod", "enumerate", "int", "isinstance", "len", "list", "max", "min", "range", "repr", "str", "sum", "tuple", "zip"], [("MOST_MANY", .int 1000000000000000000000000000000), ("MOST_KINDS", .int 20), ("MOST_PIECES", .int 1000000000000000000000000000000000000000000000000000000000000), ("LETTERS", .str "abcdefghijklmnopqrstuvwxyz"), ("DIGITS", .str "0123456789"), ("LONGEST_NAME", .int 8)], tab⟩
theorem bd : AllBd y.ds := .cons ⟨fun _ _ _ _ _ _ us hl => match us, hl with | [_], _ => rfl, .nil⟩ (.cons ⟨fun _ _ _ _ _ _ us hl => match us, hl with | [_], _ => rfl, .nil⟩ (.cons ⟨fun _ _ _ _ _ _ us hl => match us, hl with | [_, _], _ => rfl, .nil⟩ (.cons ⟨fun _ _ _ _ _ _ us hl => match us, hl with | [_], _ => rfl, .nil⟩ (.cons ⟨fun _ _ _ _ _ _ us hl => match us, hl with | [_, _, _], _ => rfl, .nil⟩ (.cons ⟨fun _ _ _ _ _ _ us hl => match us, hl with | [_, _, _, _], _ => rfl, .nil⟩ (.cons ⟨fun _ _ _ _ _ _ us hl => match us, hl with | [_, _], _ => rfl, .nil⟩ (.cons ⟨fun _ _ _ _ _ _ us hl => match us, hl with | [_, _], _ => rfl, .nil⟩ (.cons ⟨fun _ _ _ _ _ _ us hl => match us, hl with | [_, _, _], _ => rfl, .nil⟩ (.cons ⟨fun _ _ _ _ _ _ us hl => match us, hl with | [_, _], _ => rfl, .nil⟩ (.cons ⟨fun _ _ _ _ _ _ us hl => match us, hl with | [_, _], _ => rfl, .nil⟩ (.cons ⟨fun _ _ _ _ _ _ us hl => match us, hl with | [_], _ => rfl, .nil⟩ (.cons ⟨fun _ _ _ _ _ _ us hl => match us, hl with | [_], _ => rfl, .nil⟩ (.cons ⟨fun _ _ _ _ _ _ us hl => match us, hl with | [_, _], _ => rfl, (.cons (fun _ _ _ _ _ _ ws hl => match ws, hl with | [_, _], _ => rfl) .nil)⟩ (.cons ⟨fun _ _ _ _ _ _ us hl => match us, hl with | [_, _, _], _ => rfl, .nil⟩ (.cons ⟨fun _ _ _ _ _ _ us hl => match us, hl with | [_, _], _ => rfl, (.cons (fun _ _ _ _ _ _ ws hl => match ws, hl with | [_, _], _ => rfl) .nil)⟩ (.cons ⟨fun _ _ _ _ _ _ us hl => match us, hl with | [_, _], _ => rfl, .nil⟩ (.cons ⟨fun _ _ _ _ _ _ us hl => match us, hl with | [_], _ => rfl, .nil⟩ (.cons ⟨fun _ _ _ _ _ _ us hl => match us, hl with | [_], _ => rfl, .nil⟩ (.cons ⟨fun _ _ _ _ _ _ us hl => match us, hl with | [_, _, _, _], _ => rfl, .nil⟩ (.cons ⟨fun _ _ _ _ _ _ us hl => match us, hl with | [_, _], _ => rfl, .nil⟩ (.cons ⟨fun _ _ _ _ _ _ us hl => match us, hl with | [_, _], _ => rfl, .nil⟩ (.cons ⟨fun _ _ _ _ _ _ us hl => match us, hl with | [_, _], _ => rfl, .nil⟩ (.cons ⟨fun _ _ _ _ _ _ us hl => match us, hl with | [_], _ => rfl, .nil⟩ (.cons ⟨fun _ _ _ _ _ _ us hl => match us, hl with | [_, _], _ => rfl, .nil⟩ (.cons ⟨fun _ _ _ _ _ _ us hl => match us, hl with | [_, _, _], _ => rfl, .nil⟩ (.cons ⟨fun _ _ _ _ _ _ us hl => match us, hl with | [_], _ => rfl, .nil⟩ (.cons ⟨fun _ _ _ _ _ _ us hl => match us, hl with | [_, _], _ => rfl, .nil⟩ (.cons ⟨fun _ _ _ _ _ _ us hl => match us, hl with | [_], _ => rfl, .nil⟩ (.cons ⟨fun _ _ _ _ _ _ us hl => match us, hl with | [_], _ => rfl, .nil⟩ (.cons ⟨fun _ _ _ _ _ _ us hl => match us, hl with | [_, _], _ => rfl, .nil⟩ (.cons ⟨fun _ _ _ _ _ _ us hl => match us, hl with | [_, _, _], _ => rfl, .nil⟩ (.cons ⟨fun _ _ _ _ _ _ us hl => match us, hl with | [_], _ => rfl, .nil⟩ (.cons ⟨fun _ _ _ _ _ _ us hl => match us, hl with | [_], _ => rfl, .nil⟩ .nil)))))))))))))))))))))))))))))))))
theorem st_ok : (y.ds.all fun d => y.dfB d) = true := by decide +kernel
theorem pl_ok : y.plB = true := by decide +kernel
def loose0 : List PySem.Str := ["_wall", "WrongValue", "InvalidText", "NotWork", "InvalidNodes", "InvalidState", "WrongName", "UnknownName", "NoAnswer", "NoState", "TooMany", "MOST_MANY", "MOST_KINDS", "MOST_PIECES", "LETTERS", "DIGITS", "LONGEST_NAME", "is_integer", "is_within", "is_name", "read_number", "is_node", "listed", "wrong_node", "kinds_of", "all_kinds", "lines_of", "read_line", "nodes_at", "read_work"]
def loose1 : List PySem.Str := ["Work", "place_of", "check_work", "wrong_number", "first_lack", "are_done", "check_state", "left_of", "doable_of", "check_both", "is_state", "left", "doable", "_law_jug", "_law_pour", "_law_lot", "_law_trunks", "_law_kinds", "_law_state", "_law_most", "_law_state_right", "_law_right", "_law_quiet"]
def loose : List PySem.Str := loose0 ++ loose1
abbrev RW : PySem.W.OpenRow := PySem.W.OpenLaw.row LR
abbrev hk : PySem.W.Hook := y.hook 6
def ob (s : PySem.W.SharedT) : He.AlD := y.see (Ly.part 6 (HandSHeadRun.getT s))
theorem ob_eq (s : PySem.W.SharedT) : ob s = hk.obs s.abs := by
  have e : HandSHeadRun.getT s = s.abs.heap.get? := funext (HandSHeadRun.getT_eq s)
  show y.see (Ly.part 6 (HandSHeadRun.getT s)) = y.see (Ly.part 6 s.abs.heap.get?)
  rw [e]
end Lk16
set_option Elab.async false
set_option linter.all false
set_option maxRecDepth 100000
set_option maxHeartbeats 1000000
namespace Lk16
open Lv PySem
def cf (n f : Nat) (ds : List D) (s : Sto) : R D := callF y.pk n f ds s
def G0 : Gt := y.pk.G
def mf (n : Nat) : Lv.CF := mkF G0 (cf n)
theorem cf_run (n f : Nat) (fd : Fd) (h : tab f = some fd) (ds : List D) (s : Sto) : cf (n + 1) f ds s = kRun (evSs G0 (cf n) (mf n) fd.b (ds.map .val ++ List.replicate (fd.n - ds.length) .und) s) := by
  show callF y.pk (n + 1) f ds s = _
  rw [callF, show y.pk.tab f = some fd from h]
  rfl
/-- law -/
theorem u39 (n : Nat) (a0 : D) (s : Sto) : cf (n + 1) 39 [a0] s = kRun (evSs G0 (cf n) (mf n) B39 [.val a0, .und] s) := cf_run n 39 F39 rfl [a0] s
/-- _law_quiet -/
theorem u1 (n : Nat) (a0 : D) (s : Sto) : cf (n + 1) 1 [a0] s = kRun (evSs G0 (cf n) (mf n) B1 [.val a0, .und] s) := cf_run n 1 F1 rfl [a0] s
/-- _law_jug -/
theorem u2 (n : Nat) (a0 a1 : D) (s : Sto) : cf (n + 1) 2 [a0, a1] s = kRun (evSs G0 (cf n) (mf n) B2 [.val a0, .val a1, .und, .und, .und] s) := cf_run n 2 F2 rfl [a0, a1] s
/-- _law_right -/
theorem u55 (n : Nat) (a0 : D) (s : Sto) : cf (n + 1) 55 [a0] s = kRun (evSs G0 (cf n) (mf n) B55 [.val a0, .und, .und, .und, .und, .und, .und, .und, .und] s) := cf_run n 55 F55 rfl [a0] s
/-- _law_trunks -/
theorem u41 (n : Nat) (a0 a1 a2 : D) (s : Sto) : cf (n + 1) 41 [a0, a1, a2] s = kRun (evSs G0 (cf n) (mf n) B41 [.val a0, .val a1, .val a2, .und, .und, .und, .und, .und, .und, .und] s) := cf_run n 41 F41 rfl [a0, a1, a2] s
/-- _law_kinds -/
theorem u44 (n : Nat) (a0 a1 a2 a3 : D) (s : Sto) : cf (n + 1) 44 [a0, a1, a2, a3] s = kRun (evSs G0 (cf n) (mf n) B44 [.val a0, .val a1, .val a2, .val a3, .und, .und, .und, .und] s) := cf_run n 44 F44 rfl [a0, a1, a2, a3] s
/-- Work.__init__ -/
theorem u8 (n : Nat) (a0 a1 : D) (s : Sto) : cf (n + 1) 8 [a0, a1] s = kRun (evSs G0 (cf n) (mf n) B8 [.val a0, .val a1, .und, .und, .und, .und] s) := cf_run n 8 F8 rfl [a0, a1] s
/-- _law_state -/
theorem u56 (n : Nat) (a0 a1 : D) (s : Sto) : cf (n + 1) 56 [a0, a1] s = kRun (evSs G0 (cf n) (mf n) B56 [.val a0, .val a1, .und, .und, .und, .und, .und, .und, .und, .und, .und, .und] s) := cf_run n 56 F56 rfl [a0, a1] s
/-- _law_state_right -/
theorem u57 (n : Nat) (a0 a1 a2 : D) (s : Sto) : cf (n + 1) 57 [a0, a1, a2] s = kRun (evSs G0 (cf n) (mf n) B57 [.val a0, .val a1, .val a2, .und, .und, .und, .und, .und, .und] s) := cf_run n 57 F57 rfl [a0, a1, a2] s
/-- _law_pour -/
theorem u7 (n : Nat) (a0 a1 : D) (s : Sto) : cf (n + 1) 7 [a0, a1] s = kRun (evSs G0 (cf n) (mf n) B7 [.val a0, .val a1, .und] s) := cf_run n 7 F7 rfl [a0, a1] s
/-- _law_lot -/
theorem u45 (n : Nat) (a0 a1 : D) (s : Sto) : cf (n + 1) 45 [a0, a1] s = kRun (evSs G0 (cf n) (mf n) B45 [.val a0, .val a1, .und] s) := cf_run n 45 F45 rfl [a0, a1] s
/-- wrong_node -/
theorem u13 (n : Nat) (a0 : D) (s : Sto) : cf (n + 1) 13 [a0] s = kRun (evSs G0 (cf n) (mf n) B13 [.val a0, .und, .und, .und, .und] s) := cf_run n 13 F13 rfl [a0] s
/-- all_kinds -/
theorem u14 (n : Nat) (a0 : D) (s : Sto) : cf (n + 1) 14 [a0] s = kRun (evSs G0 (cf n) (mf n) B14 [.val a0] s) := cf_run n 14 F14 rfl [a0] s
/-- left -/
theorem u12 (n : Nat) (a0 a1 : D) (s : Sto) : cf (n + 1) 12 [a0, a1] s = kRun (evSs G0 (cf n) (mf n) B12 [.val a0, .val a1] s) := cf_run n 12 F12 rfl [a0, a1] s
/-- _law_most -/
theorem u58 (n : Nat) (a0 a1 a2 : D) (s : Sto) : cf (n + 1) 58 [a0, a1, a2] s = kRun (evSs G0 (cf n) (mf n) B58 [.val a0, .val a1, .val a2, .und, .und, .und] s) := cf_run n 58 F58 rfl [a0, a1, a2] s
/-- doable -/
theorem u11 (n : Nat) (a0 a1 : D) (s : Sto) : cf (n + 1) 11 [a0, a1] s = kRun (evSs G0 (cf n) (mf n) B11 [.val a0, .val a1] s) := cf_run n 11 F11 rfl [a0, a1] s
/-- is_state -/
theorem u9 (n : Nat) (a0 a1 : D) (s : Sto) : cf (n + 1) 9 [a0, a1] s = kRun (evSs G0 (cf n) (mf n) B9 [.val a0, .val a1] s) := cf_run n 9 F9 rfl [a0, a1] s
/-- listed -/
theorem u23 (n : Nat) (a0 : D) (s : Sto) : cf (n + 1) 23 [a0] s = kRun (evSs G0 (cf n) (mf n) B23 [.val a0, .und, .und] s) := cf_run n 23 F23 rfl [a0] s
/-- is_node -/
theorem u24 (n : Nat) (a0 : D) (s : Sto) : cf (n + 1) 24 [a0] s = kRun (evSs G0 (cf n) (mf n) B24 [.val a0] s) := cf_run n 24 F24 rfl [a0] s
/-- kinds_of -/
theorem u25 (n : Nat) (a0 a1 a2 a3 : D) (s : Sto) : cf (n + 1) 25 [a0, a1, a2, a3] s = kRun (evSs G0 (cf n) (mf n) B25 [.val a0, .val a1, .val a2, .val a3, .und, .und, .und, .und, .und] s) := cf_run n 25 F25 rfl [a0, a1, a2, a3] s
/-- check_both -/
theorem u20 (n : Nat) (a0 a1 : D) (s : Sto) : cf (n + 1) 20 [a0, a1] s = kRun (evSs G0 (cf n) (mf n) B20 [.val a0, .val a1] s) := cf_run n 20 F20 rfl [a0, a1] s
/-- left_of -/
theorem u22 (n : Nat) (a0 a1 : D) (s : Sto) : cf (n + 1) 22 [a0, a1] s = kRun (evSs G0 (cf n) (mf n) B22 [.val a0, .val a1, .und, .und] s) := cf_run n 22 F22 rfl [a0, a1] s
/-- doable_of -/
theorem u21 (n : Nat) (a0 a1 : D) (s : Sto) : cf (n + 1) 21 [a0, a1] s = kRun (evSs G0 (cf n) (mf n) B21 [.val a0, .val a1, .und, .und, .und, .und, .und, .und, .und, .und, .und] s) := cf_run n 21 F21 rfl [a0, a1] s
/-- check_work -/
theorem u15 (n : Nat) (a0 : D) (s : Sto) : cf (n + 1) 15 [a0] s = kRun (evSs G0 (cf n) (mf n) B15 [.val a0] s) := cf_run n 15 F15 rfl [a0] s
/-- are_done -/
theorem u16 (n : Nat) (a0 a1 : D) (s : Sto) : cf (n + 1) 16 [a0, a1] s = kRun (evSs G0 (cf n) (mf n) B16 [.val a0, .val a1] s) := cf_run n 16 F16 rfl [a0, a1] s
/-- is_within -/
theorem u33 (n : Nat) (a0 a1 a2 : D) (s : Sto) : cf (n + 1) 33 [a0, a1, a2] s = kRun (evSs G0 (cf n) (mf n) B33 [.val a0, .val a1, .val a2] s) := cf_run n 33 F33 rfl [a0, a1, a2] s
/-- is_name -/
theorem u34 (n : Nat) (a0 : D) (s : Sto) : cf (n + 1) 34 [a0] s = kRun (evSs G0 (cf n) (mf n) B34 [.val a0, .und] s) := cf_run n 34 F34 rfl [a0] s
/-- check_state -/
theorem u18 (n : Nat) (a0 a1 : D) (s : Sto) : cf (n + 1) 18 [a0, a1] s = kRun (evSs G0 (cf n) (mf n) B18 [.val a0, .val a1, .und, .und] s) := cf_run n 18 F18 rfl [a0, a1] s
/-- Work.totals -/
theorem u31 (n : Nat) (a0 : D) (s : Sto) : cf (n + 1) 31 [a0] s = kRun (evSs G0 (cf n) (mf n) B31 [.val a0, .und] s) := cf_run n 31 F31 rfl [a0] s
/-- Work.kinds -/
theorem u32 (n : Nat) (a0 : D) (s : Sto) : cf (n + 1) 32 [a0] s = kRun (evSs G0 (cf n) (mf n) B32 [.val a0] s) := cf_run n 32 F32 rfl [a0] s
/-- wrong_number -/
theorem u26 (n : Nat) (a0 a1 : D) (s : Sto) : cf (n + 1) 26 [a0, a1] s = kRun (evSs G0 (cf n) (mf n) B26 [.val a0, .val a1, .und, .und] s) := cf_run n 26 F26 rfl [a0, a1] s
/-- first_lack -/
theorem u27 (n : Nat) (a0 a1 a2 : D) (s : Sto) : cf (n + 1) 27 [a0, a1, a2] s = kRun (evSs G0 (cf n) (mf n) B27 [.val a0, .val a1, .val a2, .und, .und, .und, .und, .und, .und] s) := cf_run n 27 F27 rfl [a0, a1, a2] s
/-- is_integer -/
theorem u37 (n : Nat) (a0 : D) (s : Sto) : cf (n + 1) 37 [a0] s = kRun (evSs G0 (cf n) (mf n) B37 [.val a0] s) := cf_run n 37 F37 rfl [a0] s
/-- Work.__len__ -/
theorem u38 (n : Nat) (a0 : D) (s : Sto) : cf (n + 1) 38 [a0] s = kRun (evSs G0 (cf n) (mf n) B38 [.val a0] s) := cf_run n 38 F38 rfl [a0] s
end Lk16
set_option Elab.async false
set_option linter.all false
set_option maxRecDepth 100000
set_option maxHeartbeats 1000000
/-! names, nodes: the package's own looks at values -/
namespace Lk16
open Lv PySem
theorem cst_many : G0.cst "MOST_MANY" = some (.int (10 ^ 30)) := rfl
theorem cst_kinds : G0.cst "MOST_KINDS" = some (.int 20) := rfl
theorem cst_pieces : G0.cst "MOST_PIECES" = some (.int (10 ^ 60)) := rfl
theorem cst_letters : G0.cst "LETTERS" = some (.str "abcdefghijklmnopqrstuvwxyz") := rfl
theorem cst_digits : G0.cst "DIGITS" = some (.str "0123456789") := rfl
theorem cst_long : G0.cst "LONGEST_NAME" = some (.int 8) := rfl
theorem i_int (n : Nat) (i : Int) (s : Sto) : dIsi n .int s (.int i) = some true := rfl
theorem i_intb (n : Nat) (i : Int) (s : Sto) : dIsi n .bool s (.int i) = some false := rfl
theorem i_tup (n : Nat) (s : Sto) (xs : List D) : dIsi n .tuple s (.tup xs) = some true := rfl
theorem i_str (n : Nat) (s : Sto) (x : Str) : dIsi n .str s (.str x) = some true := rfl
theorem is_integer_int (n : Nat) (i : Int) (s : Sto) : cf (n + 1) 37 [.int i] s = .ok (.bl true) s := by
  rw [u37]
  simp only [B37, e_non, e_bl, e_int, e_str, e_var, e_own, e_cst, e_bin, e_neg, e_cmp, e_chn, e_one, e_and, e_or, e_not, e_ite, e_idx, e_sl, e_tup, e_lst, e_cel, e_call, e_callk, e_bi, e_mth, e_isi, e_len, e_lc, e_fmt, e_fs, e_att, e_mk, e_mkk, e_um, e_dic0, e_dget, e_rgt, es_nil, es_cons, fs_nil, fs_cons, ts_nil, ts_one, src_seq, src_rg1, src_rg2, src_rg3, src_enum, src_zip, src_rev, k_bin, k_bin2, k_neg, k_cmp, k_cmp2, k_chn, k_chn2, k_chn3, k_chn4, k_and1, k_and0, k_or1, k_or0, k_not, k_ite, k_ite1, k_ite0, k_idx, k_idx2, k_sl, k_opt, k_sl2, k_sl3, k_dget, k_dget2, k_rgt, k_tup, k_lst, k_lst5, k_cel, k_call, k_callk, k_callk2, k_bi, k_mth, k_mth1, k_mth2, k_isi, k_len, k_lc, k_lcF, k_lc2, k_lc3t, k_lc3f, k_some, k_fmt, k_fs, k_mk, k_mkk, k_mkk2, k_att, k_um, k_evs, k_cons, k_tru, k_items, k_rg1, k_rg2, k_rg2b, k_rg3, k_rg3b, k_rg3c, k_enumL, k_enumT, k_zip, k_zipTT, k_zipLL, k_zipLT, k_zipTL, k_rev, v_val, o_owd, o_own, l_some, x_ok, o_map, s_set, s_setO, s_par, s_asg, s_aug, s_app, s_seti, s_setd, s_sta, s_ex, s_ret, s_retN, s_ifs, s_lop, s_whl, s_brk, s_cnt, s_pas, s_thru, ss_nil, ss_cons, ss_frz, at_name, at_sub, at_tup, ats_nil, ats_cons, t_set, t_setO, t_par, t_par2, t_asg, t_aug, t_augA, t_augS, t_app, t_app2, t_seti, t_seti2, t_seti3, t_setd, t_setd2, t_setd3, t_sta, t_ex, t_ret, t_ifs, t_ifs1, t_ifs0, t_lop, t_ss, t_ssr, t_ssb, t_ssc, t_ats, t_frz, t_sub, t_thru, t_thrur, o_nxt, v_set0, v_setS, d_set0, d_setD, d_setL, o_bind, z_frz0, z_frzS, List.getElem?_cons_zero, List.getElem?_cons_succ, i_int, i_intb, Bool.not_false, r_ret]
theorem is_within_int (n : Nat) (i a b : Int) (s : Sto) : cf (n + 2) 33 [.int i, .int a, .int b] s = .ok (.bl (decide (a ≤ i) && decide (i ≤ b))) s := by
  rw [u33]
  simp only [B33, e_non, e_bl, e_int, e_str, e_var, e_own, e_cst, e_bin, e_neg, e_cmp, e_chn, e_one, e_and, e_or, e_not, e_ite, e_idx, e_sl, e_tup, e_lst, e_cel, e_call, e_callk, e_bi, e_mth, e_isi, e_len, e_lc, e_fmt, e_fs, e_att, e_mk, e_mkk, e_um, e_dic0, e_dget, e_rgt, es_nil, es_cons, fs_nil, fs_cons, ts_nil, ts_one, src_seq, src_rg1, src_rg2, src_rg3, src_enum, src_zip, src_rev, k_bin, k_bin2, k_neg, k_cmp, k_cmp2, k_chn, k_chn2, k_chn3, k_chn4, k_and1, k_and0, k_or1, k_or0, k_not, k_ite, k_ite1, k_ite0, k_idx, k_idx2, k_sl, k_opt, k_sl2, k_sl3, k_dget, k_dget2, k_rgt, k_tup, k_lst, k_lst5, k_cel, k_call, k_callk, k_callk2, k_bi, k_mth, k_mth1, k_mth2, k_isi, k_len, k_lc, k_lcF, k_lc2, k_lc3t, k_lc3f, k_some, k_fmt, k_fs, k_mk, k_mkk, k_mkk2, k_att, k_um, k_evs, k_cons, k_tru, k_items, k_rg1, k_rg2, k_rg2b, k_rg3, k_rg3b, k_rg3c, k_enumL, k_enumT, k_zip, k_zipTT, k_zipLL, k_zipLT, k_zipTL, k_rev, v_val, o_owd, o_own, l_some, x_ok, o_map, s_set, s_setO, s_par, s_asg, s_aug, s_app, s_seti, s_setd, s_sta, s_ex, s_ret, s_retN, s_ifs, s_lop, s_whl, s_brk, s_cnt, s_pas, s_thru, ss_nil, ss_cons, ss_frz, at_name, at_sub, at_tup, ats_nil, ats_cons, t_set, t_setO, t_par, t_par2, t_asg, t_aug, t_augA, t_augS, t_app, t_app2, t_seti, t_seti2, t_seti3, t_setd, t_setd2, t_setd3, t_sta, t_ex, t_ret, t_ifs, t_ifs1, t_ifs0, t_lop, t_ss, t_ssr, t_ssb, t_ssc, t_ats, t_frz, t_sub, t_thru, t_thrur, o_nxt, v_set0, v_setS, d_set0, d_setD, d_setL, o_bind, z_frz0, z_frzS, List.getElem?_cons_zero, List.getElem?_cons_succ, is_integer_int, q_le, r_ret]
  cases decide (a ≤ i) <;> simp only [e_non, e_bl, e_int, e_str, e_var, e_own, e_cst, e_bin, e_neg, e_cmp, e_chn, e_one, e_and, e_or, e_not, e_ite, e_idx, e_sl, e_tup, e_lst, e_cel, e_call, e_callk, e_bi, e_mth, e_isi, e_len, e_lc, e_fmt, e_fs, e_att, e_mk, e_mkk, e_um, e_dic0, e_dget, e_rgt, es_nil, es_cons, fs_nil, fs_cons, ts_nil, ts_one, src_seq, src_rg1, src_rg2, src_rg3, src_enum, src_zip, src_rev, k_bin, k_bin2, k_neg, k_cmp, k_cmp2, k_chn, k_chn2, k_chn3, k_chn4, k_and1, k_and0, k_or1, k_or0, k_not, k_ite, k_ite1, k_ite0, k_idx, k_idx2, k_sl, k_opt, k_sl2, k_sl3, k_dget, k_dget2, k_rgt, k_tup, k_lst, k_lst5, k_cel, k_call, k_callk, k_callk2, k_bi, k_mth, k_mth1, k_mth2, k_isi, k_len, k_lc, k_lcF, k_lc2, k_lc3t, k_lc3f, k_some, k_fmt, k_fs, k_mk, k_mkk, k_mkk2, k_att, k_um, k_evs, k_cons, k_tru, k_items, k_rg1, k_rg2, k_rg2b, k_rg3, k_rg3b, k_rg3c, k_enumL, k_enumT, k_zip, k_zipTT, k_zipLL, k_zipLT, k_zipTL, k_rev, v_val, o_owd, o_own, l_some, x_ok, o_map, s_set, s_setO, s_par, s_asg, s_aug, s_app, s_seti, s_setd, s_sta, s_ex, s_ret, s_retN, s_ifs, s_lop, s_whl, s_brk, s_cnt, s_pas, s_thru, ss_nil, ss_cons, ss_frz, at_name, at_sub, at_tup, ats_nil, ats_cons, t_set, t_setO, t_par, t_par2, t_asg, t_aug, t_augA, t_augS, t_app, t_app2, t_seti, t_seti2, t_seti3, t_setd, t_setd2, t_setd3, t_sta, t_ex, t_ret, t_ifs, t_ifs1, t_ifs0, t_lop, t_ss, t_ssr, t_ssb, t_ssc, t_ats, t_frz, t_sub, t_thru, t_thrur, o_nxt, v_set0, v_setS, d_set0, d_setD, d_setL, o_bind, z_frz0, z_frzS, List.getElem?_cons_zero, List.getElem?_cons_succ, q_le, r_ret, Bool.true_and, Bool.false_and]
theorem q_lenS (x : Str) (h : x.length ≤ 16777216) : dBi .len [.str x] = some (.int x.length) := if_pos (okL_of h)
theorem q_inS (c : Nat) (z : Str) : dIn (.str ⟨#[c]⟩) (.str z) = some (decide (c ∈ z.cps.toList)) := rfl
theorem q_itS (z : Str) : dItems (.str z) = some (z.cps.toList.map fun c => .str ⟨#[c]⟩) := rfl
theorem is_name_str (n : Nat) (x : Str) (h : x.length ≤ 16777216) (s : Sto) : cf (n + 1) 34 [.str x] s = .ok (.bl (nameB x)) s := by
  rw [u34]
  simp only [B34, e_non, e_bl, e_int, e_str, e_var, e_own, e_cst, e_bin, e_neg, e_cmp, e_chn, e_one, e_and, e_or, e_not, e_ite, e_idx, e_sl, e_tup, e_lst, e_cel, e_call, e_callk, e_bi, e_mth, e_isi, e_len, e_lc, e_fmt, e_fs, e_att, e_mk, e_mkk, e_um, e_dic0, e_dget, e_rgt, es_nil, es_cons, fs_nil, fs_cons, ts_nil, ts_one, src_seq, src_rg1, src_rg2, src_rg3, src_enum, src_zip, src_rev, k_bin, k_bin2, k_neg, k_cmp, k_cmp2, k_chn, k_chn2, k_chn3, k_chn4, k_and1, k_and0, k_or1, k_or0, k_not, k_ite, k_ite1, k_ite0, k_idx, k_idx2, k_sl, k_opt, k_sl2, k_sl3, k_dget, k_dget2, k_rgt, k_tup, k_lst, k_lst5, k_cel, k_call, k_callk, k_callk2, k_bi, k_mth, k_mth1, k_mth2, k_isi, k_len, k_lc, k_lcF, k_lc2, k_lc3t, k_lc3f, k_some, k_fmt, k_fs, k_mk, k_mkk, k_mkk2, k_att, k_um, k_evs, k_cons, k_tru, k_items, k_rg1, k_rg2, k_rg2b, k_rg3, k_rg3b, k_rg3c, k_enumL, k_enumT, k_zip, k_zipTT, k_zipLL, k_zipLT, k_zipTL, k_rev, v_val, o_owd, o_own, l_some, x_ok, o_map, s_set, s_setO, s_par, s_asg, s_aug, s_app, s_seti, s_setd, s_sta, s_ex, s_ret, s_retN, s_ifs, s_lop, s_whl, s_brk, s_cnt, s_pas, s_thru, ss_nil, ss_cons, ss_frz, at_name, at_sub, at_tup, ats_nil, ats_cons, t_set, t_setO, t_par, t_par2, t_asg, t_aug, t_augA, t_augS, t_app, t_app2, t_seti, t_seti2, t_seti3, t_setd, t_setd2, t_setd3, t_sta, t_ex, t_ret, t_ifs, t_ifs1, t_ifs0, t_lop, t_ss, t_ssr, t_ssb, t_ssc, t_ats, t_frz, t_sub, t_thru, t_thrur, o_nxt, v_set0, v_setS, d_set0, d_setD, d_setL, o_bind, z_frz0, z_frzS, List.getElem?_cons_zero, List.getElem?_cons_succ, i_str, Bool.not_true, q_lenS x h, q_le, cst_long]
  unfold nameB
  by_cases h1 : (1 : Int) ≤ x.length
  · simp only [h1, decide_true, Bool.true_and, e_non, e_bl, e_int, e_str, e_var, e_own, e_cst, e_bin, e_neg, e_cmp, e_chn, e_one, e_and, e_or, e_not, e_ite, e_idx, e_sl, e_tup, e_lst, e_cel, e_call, e_callk, e_bi, e_mth, e_isi, e_len, e_lc, e_fmt, e_fs, e_att, e_mk, e_mkk, e_um, e_dic0, e_dget, e_rgt, es_nil, es_cons, fs_nil, fs_cons, ts_nil, ts_one, src_seq, src_rg1, src_rg2, src_rg3, src_enum, src_zip, src_rev, k_bin, k_bin2, k_neg, k_cmp, k_cmp2, k_chn, k_chn2, k_chn3, k_chn4, k_and1, k_and0, k_or1, k_or0, k_not, k_ite, k_ite1, k_ite0, k_idx, k_idx2, k_sl, k_opt, k_sl2, k_sl3, k_dget, k_dget2, k_rgt, k_tup, k_lst, k_lst5, k_cel, k_call, k_callk, k_callk2, k_bi, k_mth, k_mth1, k_mth2, k_isi, k_len, k_lc, k_lcF, k_lc2, k_lc3t, k_lc3f, k_some, k_fmt, k_fs, k_mk, k_mkk, k_mkk2, k_att, k_um, k_evs, k_cons, k_tru, k_items, k_rg1, k_rg2, k_rg2b, k_rg3, k_rg3b, k_rg3c, k_enumL, k_enumT, k_zip, k_zipTT, k_zipLL, k_zipLT, k_zipTL, k_rev, v_val, o_owd, o_own, l_some, x_ok, o_map, s_set, s_setO, s_par, s_asg, s_aug, s_app, s_seti, s_setd, s_sta, s_ex, s_ret, s_retN, s_ifs, s_lop, s_whl, s_brk, s_cnt, s_pas, s_thru, ss_nil, ss_cons, ss_frz, at_name, at_sub, at_tup, ats_nil, ats_cons, t_set, t_setO, t_par, t_par2, t_asg, t_aug, t_augA, t_augS, t_app, t_app2, t_seti, t_seti2, t_seti3, t_setd, t_setd2, t_setd3, t_sta, t_ex, t_ret, t_ifs, t_ifs1, t_ifs0, t_lop, t_ss, t_ssr, t_ssb, t_ssc, t_ats, t_frz, t_sub, t_thru, t_thrur, o_nxt, v_set0, v_setS, d_set0, d_setD, d_setL, o_bind, z_frz0, z_frzS, List.getElem?_cons_zero, List.getElem?_cons_succ, q_le, cst_long]
    by_cases h2 : (x.length : Int) ≤ 8
    · simp only [h2, decide_true, Bool.true_and, e_non, e_bl, e_int, e_str, e_var, e_own, e_cst, e_bin, e_neg, e_cmp, e_chn, e_one, e_and, e_or, e_not, e_ite, e_idx, e_sl, e_tup, e_lst, e_cel, e_call, e_callk, e_bi, e_mth, e_isi, e_len, e_lc, e_fmt, e_fs, e_att, e_mk, e_mkk, e_um, e_dic0, e_dget, e_rgt, es_nil, es_cons, fs_nil, fs_cons, ts_nil, ts_one, src_seq, src_rg1, src_rg2, src_rg3, src_enum, src_zip, src_rev, k_bin, k_bin2, k_neg, k_cmp, k_cmp2, k_chn, k_chn2, k_chn3, k_chn4, k_and1, k_and0, k_or1, k_or0, k_not, k_ite, k_ite1, k_ite0, k_idx, k_idx2, k_sl, k_opt, k_sl2, k_sl3, k_dget, k_dget2, k_rgt, k_tup, k_lst, k_lst5, k_cel, k_call, k_callk, k_callk2, k_bi, k_mth, k_mth1, k_mth2, k_isi, k_len, k_lc, k_lcF, k_lc2, k_lc3t, k_lc3f, k_some, k_fmt, k_fs, k_mk, k_mkk, k_mkk2, k_att, k_um, k_evs, k_cons, k_tru, k_items, k_rg1, k_rg2, k_rg2b, k_rg3, k_rg3b, k_rg3c, k_enumL, k_enumT, k_zip, k_zipTT, k_zipLL, k_zipLT, k_zipTL, k_rev, v_val, o_owd, o_own, l_some, x_ok, o_map, s_set, s_setO, s_par, s_asg, s_aug, s_app, s_seti, s_setd, s_sta, s_ex, s_ret, s_retN, s_ifs, s_lop, s_whl, s_brk, s_cnt, s_pas, s_thru, ss_nil, ss_cons, ss_frz, at_name, at_sub, at_tup, ats_nil, ats_cons, t_set, t_setO, t_par, t_par2, t_asg, t_aug, t_augA, t_augS, t_app, t_app2, t_seti, t_seti2, t_seti3, t_setd, t_setd2, t_setd3, t_sta, t_ex, t_ret, t_ifs, t_ifs1, t_ifs0, t_lop, t_ss, t_ssr, t_ssb, t_ssc, t_ats, t_frz, t_sub, t_thru, t_thrur, o_nxt, v_set0, v_setS, d_set0, d_setD, d_setL, o_bind, z_frz0, z_frzS, List.getElem?_cons_zero, List.getElem?_cons_succ, q_le, cst_long, Bool.not_true, q_tb]
      cases e : x.cps.toList with
      | nil =>
        exfalso
        have : x.length = x.cps.toList.length := by simp [Str.length]
        rw [e] at this
        simp at this
        omega
      | cons c r =>
        have ix : dIdxS s (.str x) (.int 0) = some (.str ⟨#[c]⟩) := by
          show (if okL x.length then (L2.atI x.cps.toList 0).map fun c => D.str ⟨#[c]⟩ else none) = _
          rw [if_pos (okL_of h), e, q_atI0]; rfl
        simp only [ix, e_non, e_bl, e_int, e_str, e_var, e_own, e_cst, e_bin, e_neg, e_cmp, e_chn, e_one, e_and, e_or, e_not, e_ite, e_idx, e_sl, e_tup, e_lst, e_cel, e_call, e_callk, e_bi, e_mth, e_isi, e_len, e_lc, e_fmt, e_fs, e_att, e_mk, e_mkk, e_um, e_dic0, e_dget, e_rgt, es_nil, es_cons, fs_nil, fs_cons, ts_nil, ts_one, src_seq, src_rg1, src_rg2, src_rg3, src_enum, src_zip, src_rev, k_bin, k_bin2, k_neg, k_cmp, k_cmp2, k_chn, k_chn2, k_chn3, k_chn4, k_and1, k_and0, k_or1, k_or0, k_not, k_ite, k_ite1, k_ite0, k_idx, k_idx2, k_sl, k_opt, k_sl2, k_sl3, k_dget, k_dget2, k_rgt, k_tup, k_lst, k_lst5, k_cel, k_call, k_callk, k_callk2, k_bi, k_mth, k_mth1, k_mth2, k_isi, k_len, k_lc, k_lcF, k_lc2, k_lc3t, k_lc3f, k_some, k_fmt, k_fs, k_mk, k_mkk, k_mkk2, k_att, k_um, k_evs, k_cons, k_tru, k_items, k_rg1, k_rg2, k_rg2b, k_rg3, k_rg3b, k_rg3c, k_enumL, k_enumT, k_zip, k_zipTT, k_zipLL, k_zipLT, k_zipTL, k_rev, v_val, o_owd, o_own, l_some, x_ok, o_map, s_set, s_setO, s_par, s_asg, s_aug, s_app, s_seti, s_setd, s_sta, s_ex, s_ret, s_retN, s_ifs, s_lop, s_whl, s_brk, s_cnt, s_pas, s_thru, ss_nil, ss_cons, ss_frz, at_name, at_sub, at_tup, ats_nil, ats_cons, t_set, t_setO, t_par, t_par2, t_asg, t_aug, t_augA, t_augS, t_app, t_app2, t_seti, t_seti2, t_seti3, t_setd, t_setd2, t_setd3, t_sta, t_ex, t_ret, t_ifs, t_ifs1, t_ifs0, t_lop, t_ss, t_ssr, t_ssb, t_ssc, t_ats, t_frz, t_sub, t_thru, t_thrur, o_nxt, v_set0, v_setS, d_set0, d_setD, d_setL, o_bind, z_frz0, z_frzS, List.getElem?_cons_zero, List.getElem?_cons_succ, cst_letters, q_in, q_inS]
        cases decide (c ∈ ("abcdefghijklmnopqrstuvwxyz" : Str).cps.toList) with
        | false => simp only [e_non, e_bl, e_int, e_str, e_var, e_own, e_cst, e_bin, e_neg, e_cmp, e_chn, e_one, e_and, e_or, e_not, e_ite, e_idx, e_sl, e_tup, e_lst, e_cel, e_call, e_callk, e_bi, e_mth, e_isi, e_len, e_lc, e_fmt, e_fs, e_att, e_mk, e_mkk, e_um, e_dic0, e_dget, e_rgt, es_nil, es_cons, fs_nil, fs_cons, ts_nil, ts_one, src_seq, src_rg1, src_rg2, src_rg3, src_enum, src_zip, src_rev, k_bin, k_bin2, k_neg, k_cmp, k_cmp2, k_chn, k_chn2, k_chn3, k_chn4, k_and1, k_and0, k_or1, k_or0, k_not, k_ite, k_ite1, k_ite0, k_idx, k_idx2, k_sl, k_opt, k_sl2, k_sl3, k_dget, k_dget2, k_rgt, k_tup, k_lst, k_lst5, k_cel, k_call, k_callk, k_callk2, k_bi, k_mth, k_mth1, k_mth2, k_isi, k_len, k_lc, k_lcF, k_lc2, k_lc3t, k_lc3f, k_some, k_fmt, k_fs, k_mk, k_mkk, k_mkk2, k_att, k_um, k_evs, k_cons, k_tru, k_items, k_rg1, k_rg2, k_rg2b, k_rg3, k_rg3b, k_rg3c, k_enumL, k_enumT, k_zip, k_zipTT, k_zipLL, k_zipLT, k_zipTL, k_rev, v_val, o_owd, o_own, l_some, x_ok, o_map, s_set, s_setO, s_par, s_asg, s_aug, s_app, s_seti, s_setd, s_sta, s_ex, s_ret, s_retN, s_ifs, s_lop, s_whl, s_brk, s_cnt, s_pas, s_thru, ss_nil, ss_cons, ss_frz, at_name, at_sub, at_tup, ats_nil, ats_cons, t_set, t_setO, t_par, t_par2, t_asg, t_aug, t_augA, t_augS, t_app, t_app2, t_seti, t_seti2, t_seti3, t_setd, t_setd2, t_setd3, t_sta, t_ex, t_ret, t_ifs, t_ifs1, t_ifs0, t_lop, t_ss, t_ssr, t_ssb, t_ssc, t_ats, t_frz, t_sub, t_thru, t_thrur, o_nxt, v_set0, v_setS, d_set0, d_setD, d_setL, o_bind, z_frz0, z_frzS, List.getElem?_cons_zero, List.getElem?_cons_succ, r_ret, Bool.false_and]
        | true =>
          have hl : okL ((c :: r).map fun c => D.str ⟨#[c]⟩).length = true := okL_of (by
            have : x.length = x.cps.toList.length := by simp [Str.length]
            rw [List.length_map, ← e, ← this]; exact h)
          simp only [e_non, e_bl, e_int, e_str, e_var, e_own, e_cst, e_bin, e_neg, e_cmp, e_chn, e_one, e_and, e_or, e_not, e_ite, e_idx, e_sl, e_tup, e_lst, e_cel, e_call, e_callk, e_bi, e_mth, e_isi, e_len, e_lc, e_fmt, e_fs, e_att, e_mk, e_mkk, e_um, e_dic0, e_dget, e_rgt, es_nil, es_cons, fs_nil, fs_cons, ts_nil, ts_one, src_seq, src_rg1, src_rg2, src_rg3, src_enum, src_zip, src_rev, k_bin, k_bin2, k_neg, k_cmp, k_cmp2, k_chn, k_chn2, k_chn3, k_chn4, k_and1, k_and0, k_or1, k_or0, k_not, k_ite, k_ite1, k_ite0, k_idx, k_idx2, k_sl, k_opt, k_sl2, k_sl3, k_dget, k_dget2, k_rgt, k_tup, k_lst, k_lst5, k_cel, k_call, k_callk, k_callk2, k_bi, k_mth, k_mth1, k_mth2, k_isi, k_len, k_lc, k_lcF, k_lc2, k_lc3t, k_lc3f, k_some, k_fmt, k_fs, k_mk, k_mkk, k_mkk2, k_att, k_um, k_evs, k_cons, k_tru, k_items, k_rg1, k_rg2, k_rg2b, k_rg3, k_rg3b, k_rg3c, k_enumL, k_enumT, k_zip, k_zipTT, k_zipLL, k_zipLT, k_zipTL, k_rev, v_val, o_owd, o_own, l_some, x_ok, o_map, s_set, s_setO, s_par, s_asg, s_aug, s_app, s_seti, s_setd, s_sta, s_ex, s_ret, s_retN, s_ifs, s_lop, s_whl, s_brk, s_cnt, s_pas, s_thru, ss_nil, ss_cons, ss_frz, at_name, at_sub, at_tup, ats_nil, ats_cons, t_set, t_setO, t_par, t_par2, t_asg, t_aug, t_augA, t_augS, t_app, t_app2, t_seti, t_seti2, t_seti3, t_setd, t_setd2, t_setd3, t_sta, t_ex, t_ret, t_ifs, t_ifs1, t_ifs0, t_lop, t_ss, t_ssr, t_ssb, t_ssc, t_ats, t_frz, t_sub, t_thru, t_thrur, o_nxt, v_set0, v_setS, d_set0, d_setD, d_setL, o_bind, z_frz0, z_frzS, List.getElem?_cons_zero, List.getElem?_cons_succ, q_itS, e, hl]
          rw [lc_map (fun c => D.str ⟨#[c]⟩) (fun c => D.bl (decide (c ∈ ("abcdefghijklmnopqrstuvwxyz" : Str).cps.toList) || decide (c ∈ ("0123456789" : Str).cps.toList))) (c :: r) fun d _ => by
            simp only [e_non, e_bl, e_int, e_str, e_var, e_own, e_cst, e_bin, e_neg, e_cmp, e_chn, e_one, e_and, e_or, e_not, e_ite, e_idx, e_sl, e_tup, e_lst, e_cel, e_call, e_callk, e_bi, e_mth, e_isi, e_len, e_lc, e_fmt, e_fs, e_att, e_mk, e_mkk, e_um, e_dic0, e_dget, e_rgt, es_nil, es_cons, fs_nil, fs_cons, ts_nil, ts_one, src_seq, src_rg1, src_rg2, src_rg3, src_enum, src_zip, src_rev, k_bin, k_bin2, k_neg, k_cmp, k_cmp2, k_chn, k_chn2, k_chn3, k_chn4, k_and1, k_and0, k_or1, k_or0, k_not, k_ite, k_ite1, k_ite0, k_idx, k_idx2, k_sl, k_opt, k_sl2, k_sl3, k_dget, k_dget2, k_rgt, k_tup, k_lst, k_lst5, k_cel, k_call, k_callk, k_callk2, k_bi, k_mth, k_mth1, k_mth2, k_isi, k_len, k_lc, k_lcF, k_lc2, k_lc3t, k_lc3f, k_some, k_fmt, k_fs, k_mk, k_mkk, k_mkk2, k_att, k_um, k_evs, k_cons, k_tru, k_items, k_rg1, k_rg2, k_rg2b, k_rg3, k_rg3b, k_rg3c, k_enumL, k_enumT, k_zip, k_zipTT, k_zipLL, k_zipLT, k_zipTL, k_rev, v_val, o_owd, o_own, l_some, x_ok, o_map, s_set, s_setO, s_par, s_asg, s_aug, s_app, s_seti, s_setd, s_sta, s_ex, s_ret, s_retN, s_ifs, s_lop, s_whl, s_brk, s_cnt, s_pas, s_thru, ss_nil, ss_cons, ss_frz, at_name, at_sub, at_tup, ats_nil, ats_cons, t_set, t_setO, t_par, t_par2, t_asg, t_aug, t_augA, t_augS, t_app, t_app2, t_seti, t_seti2, t_seti3, t_setd, t_setd2, t_setd3, t_sta, t_ex, t_ret, t_ifs, t_ifs1, t_ifs0, t_lop, t_ss, t_ssr, t_ssb, t_ssc, t_ats, t_frz, t_sub, t_thru, t_thrur, o_nxt, v_set0, v_setS, d_set0, d_setD, d_setL, o_bind, z_frz0, z_frzS, List.getElem?_cons_zero, List.getElem?_cons_succ, wipeE, List.set, b_name, cst_letters, cst_digits, q_in, q_inS]
            cases decide (d ∈ ("abcdefghijklmnopqrstuvwxyz" : Str).cps.toList) <;> simp only [e_non, e_bl, e_int, e_str, e_var, e_own, e_cst, e_bin, e_neg, e_cmp, e_chn, e_one, e_and, e_or, e_not, e_ite, e_idx, e_sl, e_tup, e_lst, e_cel, e_call, e_callk, e_bi, e_mth, e_isi, e_len, e_lc, e_fmt, e_fs, e_att, e_mk, e_mkk, e_um, e_dic0, e_dget, e_rgt, es_nil, es_cons, fs_nil, fs_cons, ts_nil, ts_one, src_seq, src_rg1, src_rg2, src_rg3, src_enum, src_zip, src_rev, k_bin, k_bin2, k_neg, k_cmp, k_cmp2, k_chn, k_chn2, k_chn3, k_chn4, k_and1, k_and0, k_or1, k_or0, k_not, k_ite, k_ite1, k_ite0, k_idx, k_idx2, k_sl, k_opt, k_sl2, k_sl3, k_dget, k_dget2, k_rgt, k_tup, k_lst, k_lst5, k_cel, k_call, k_callk, k_callk2, k_bi, k_mth, k_mth1, k_mth2, k_isi, k_len, k_lc, k_lcF, k_lc2, k_lc3t, k_lc3f, k_some, k_fmt, k_fs, k_mk, k_mkk, k_mkk2, k_att, k_um, k_evs, k_cons, k_tru, k_items, k_rg1, k_rg2, k_rg2b, k_rg3, k_rg3b, k_rg3c, k_enumL, k_enumT, k_zip, k_zipTT, k_zipLL, k_zipLT, k_zipTL, k_rev, v_val, o_owd, o_own, l_some, x_ok, o_map, s_set, s_setO, s_par, s_asg, s_aug, s_app, s_seti, s_setd, s_sta, s_ex, s_ret, s_retN, s_ifs, s_lop, s_whl, s_brk, s_cnt, s_pas, s_thru, ss_nil, ss_cons, ss_frz, at_name, at_sub, at_tup, ats_nil, ats_cons, t_set, t_setO, t_par, t_par2, t_asg, t_aug, t_augA, t_augS, t_app, t_app2, t_seti, t_seti2, t_seti3, t_setd, t_setd2, t_setd3, t_sta, t_ex, t_ret, t_ifs, t_ifs1, t_ifs0, t_lop, t_ss, t_ssr, t_ssb, t_ssc, t_ats, t_frz, t_sub, t_thru, t_thrur, o_nxt, v_set0, v_setS, d_set0, d_setD, d_setL, o_bind, z_frz0, z_frzS, List.getElem?_cons_zero, List.getElem?_cons_succ, cst_letters, cst_digits, q_in, q_inS, Bool.true_or, Bool.false_or]]
          simp only [e_non, e_bl, e_int, e_str, e_var, e_own, e_cst, e_bin, e_neg, e_cmp, e_chn, e_one, e_and, e_or, e_not, e_ite, e_idx, e_sl, e_tup, e_lst, e_cel, e_call, e_callk, e_bi, e_mth, e_isi, e_len, e_lc, e_fmt, e_fs, e_att, e_mk, e_mkk, e_um, e_dic0, e_dget, e_rgt, es_nil, es_cons, fs_nil, fs_cons, ts_nil, ts_one, src_seq, src_rg1, src_rg2, src_rg3, src_enum, src_zip, src_rev, k_bin, k_bin2, k_neg, k_cmp, k_cmp2, k_chn, k_chn2, k_chn3, k_chn4, k_and1, k_and0, k_or1, k_or0, k_not, k_ite, k_ite1, k_ite0, k_idx, k_idx2, k_sl, k_opt, k_sl2, k_sl3, k_dget, k_dget2, k_rgt, k_tup, k_lst, k_lst5, k_cel, k_call, k_callk, k_callk2, k_bi, k_mth, k_mth1, k_mth2, k_isi, k_len, k_lc, k_lcF, k_lc2, k_lc3t, k_lc3f, k_some, k_fmt, k_fs, k_mk, k_mkk, k_mkk2, k_att, k_um, k_evs, k_cons, k_tru, k_items, k_rg1, k_rg2, k_rg2b, k_rg3, k_rg3b, k_rg3c, k_enumL, k_enumT, k_zip, k_zipTT, k_zipLL, k_zipLT, k_zipTL, k_rev, v_val, o_owd, o_own, l_some, x_ok, o_map, s_set, s_setO, s_par, s_asg, s_aug, s_app, s_seti, s_setd, s_sta, s_ex, s_ret, s_retN, s_ifs, s_lop, s_whl, s_brk, s_cnt, s_pas, s_thru, ss_nil, ss_cons, ss_frz, at_name, at_sub, at_tup, ats_nil, ats_cons, t_set, t_setO, t_par, t_par2, t_asg, t_aug, t_augA, t_augS, t_app, t_app2, t_seti, t_seti2, t_seti3, t_setd, t_setd2, t_setd3, t_sta, t_ex, t_ret, t_ifs, t_ifs1, t_ifs0, t_lop, t_ss, t_ssr, t_ssb, t_ssc, t_ats, t_frz, t_sub, t_thru, t_thrur, o_nxt, v_set0, v_setS, d_set0, d_setD, d_setL, o_bind, z_frz0, z_frzS, List.getElem?_cons_zero, List.getElem?_cons_succ, q_allL, r_ret, Bool.true_and]
    · simp only [h2, decide_false, Bool.true_and, e_non, e_bl, e_int, e_str, e_var, e_own, e_cst, e_bin, e_neg, e_cmp, e_chn, e_one, e_and, e_or, e_not, e_ite, e_idx, e_sl, e_tup, e_lst, e_cel, e_call, e_callk, e_bi, e_mth, e_isi, e_len, e_lc, e_fmt, e_fs, e_att, e_mk, e_mkk, e_um, e_dic0, e_dget, e_rgt, es_nil, es_cons, fs_nil, fs_cons, ts_nil, ts_one, src_seq, src_rg1, src_rg2, src_rg3, src_enum, src_zip, src_rev, k_bin, k_bin2, k_neg, k_cmp, k_cmp2, k_chn, k_chn2, k_chn3, k_chn4, k_and1, k_and0, k_or1, k_or0, k_not, k_ite, k_ite1, k_ite0, k_idx, k_idx2, k_sl, k_opt, k_sl2, k_sl3, k_dget, k_dget2, k_rgt, k_tup, k_lst, k_lst5, k_cel, k_call, k_callk, k_callk2, k_bi, k_mth, k_mth1, k_mth2, k_isi, k_len, k_lc, k_lcF, k_lc2, k_lc3t, k_lc3f, k_some, k_fmt, k_fs, k_mk, k_mkk, k_mkk2, k_att, k_um, k_evs, k_cons, k_tru, k_items, k_rg1, k_rg2, k_rg2b, k_rg3, k_rg3b, k_rg3c, k_enumL, k_enumT, k_zip, k_zipTT, k_zipLL, k_zipLT, k_zipTL, k_rev, v_val, o_owd, o_own, l_some, x_ok, o_map, s_set, s_setO, s_par, s_asg, s_aug, s_app, s_seti, s_setd, s_sta, s_ex, s_ret, s_retN, s_ifs, s_lop, s_whl, s_brk, s_cnt, s_pas, s_thru, ss_nil, ss_cons, ss_frz, at_name, at_sub, at_tup, ats_nil, ats_cons, t_set, t_setO, t_par, t_par2, t_asg, t_aug, t_augA, t_augS, t_app, t_app2, t_seti, t_seti2, t_seti3, t_setd, t_setd2, t_setd3, t_sta, t_ex, t_ret, t_ifs, t_ifs1, t_ifs0, t_lop, t_ss, t_ssr, t_ssb, t_ssc, t_ats, t_frz, t_sub, t_thru, t_thrur, o_nxt, v_set0, v_setS, d_set0, d_setD, d_setL, o_bind, z_frz0, z_frzS, List.getElem?_cons_zero, List.getElem?_cons_succ, Bool.not_false, q_tb, r_ret, Bool.false_and]
  · simp only [h1, decide_false, e_non, e_bl, e_int, e_str, e_var, e_own, e_cst, e_bin, e_neg, e_cmp, e_chn, e_one, e_and, e_or, e_not, e_ite, e_idx, e_sl, e_tup, e_lst, e_cel, e_call, e_callk, e_bi, e_mth, e_isi, e_len, e_lc, e_fmt, e_fs, e_att, e_mk, e_mkk, e_um, e_dic0, e_dget, e_rgt, es_nil, es_cons, fs_nil, fs_cons, ts_nil, ts_one, src_seq, src_rg1, src_rg2, src_rg3, src_enum, src_zip, src_rev, k_bin, k_bin2, k_neg, k_cmp, k_cmp2, k_chn, k_chn2, k_chn3, k_chn4, k_and1, k_and0, k_or1, k_or0, k_not, k_ite, k_ite1, k_ite0, k_idx, k_idx2, k_sl, k_opt, k_sl2, k_sl3, k_dget, k_dget2, k_rgt, k_tup, k_lst, k_lst5, k_cel, k_call, k_callk, k_callk2, k_bi, k_mth, k_mth1, k_mth2, k_isi, k_len, k_lc, k_lcF, k_lc2, k_lc3t, k_lc3f, k_some, k_fmt, k_fs, k_mk, k_mkk, k_mkk2, k_att, k_um, k_evs, k_cons, k_tru, k_items, k_rg1, k_rg2, k_rg2b, k_rg3, k_rg3b, k_rg3c, k_enumL, k_enumT, k_zip, k_zipTT, k_zipLL, k_zipLT, k_zipTL, k_rev, v_val, o_owd, o_own, l_some, x_ok, o_map, s_set, s_setO, s_par, s_asg, s_aug, s_app, s_seti, s_setd, s_sta, s_ex, s_ret, s_retN, s_ifs, s_lop, s_whl, s_brk, s_cnt, s_pas, s_thru, ss_nil, ss_cons, ss_frz, at_name, at_sub, at_tup, ats_nil, ats_cons, t_set, t_setO, t_par, t_par2, t_asg, t_aug, t_augA, t_augS, t_app, t_app2, t_seti, t_seti2, t_seti3, t_setd, t_setd2, t_setd3, t_sta, t_ex, t_ret, t_ifs, t_ifs1, t_ifs0, t_lop, t_ss, t_ssr, t_ssb, t_ssc, t_ats, t_frz, t_sub, t_thru, t_thrur, o_nxt, v_set0, v_setS, d_set0, d_setD, d_setL, o_bind, z_frz0, z_frzS, List.getElem?_cons_zero, List.getElem?_cons_succ, Bool.not_false, q_tb, r_ret, Bool.false_and]
end Lk16
set_option Elab.async false
set_option linter.all false
set_option maxRecDepth 100000
set_option maxHeartbeats 1000000
/-! nodes: listed, wrong_node, kinds_of, a Work made -/
namespace Lk16
open Lv PySem
theorem len8 {x : Str} (h : nameB x = true) : x.length ≤ 16777216 := Nat.le_trans (nameB_ok h).2 (by decide)
theorem is_node_ok {a : Nd} (o : NdOk a) (n : Nat) (s : Sto) : cf (n + 3) 24 [a.d] s = .ok (.bl true) s := by
  obtain ⟨m, x, ps⟩ := a
  have e1 : dIdxS s (.tup [.int m, .str x, .tup (dNs ps)]) (.int 1) = some (.str x) := rfl
  have e0 : dIdxS s (.tup [.int m, .str x, .tup (dNs ps)]) (.int 0) = some (.int m) := rfl
  have e2 : dIdxS s (.tup [.int m, .str x, .tup (dNs ps)]) (.int 2) = some (.tup (dNs ps)) := rfl
  have h1 : 1 ≤ m := o.m1
  have h2 : m ≤ 10 ^ 30 := o.m2
  have h3 : nameB x = true := o.nm
  rw [u24, Nd.d_eq]
  show kRun (evSs G0 (cf (n + 2)) (mf (n + 2)) B24 [.val (.tup [.int m, .str x, .tup (dNs ps)])] s) = _
  have e3 : dBi .len [.tup [.int m, .str x, .tup (dNs ps)]] = some (.int 3) := rfl
  simp only [B24, e_non, e_bl, e_int, e_str, e_var, e_own, e_cst, e_bin, e_neg, e_cmp, e_chn, e_one, e_and, e_or, e_not, e_ite, e_idx, e_sl, e_tup, e_lst, e_cel, e_call, e_callk, e_bi, e_mth, e_isi, e_len, e_lc, e_fmt, e_fs, e_att, e_mk, e_mkk, e_um, e_dic0, e_dget, e_rgt, es_nil, es_cons, fs_nil, fs_cons, ts_nil, ts_one, src_seq, src_rg1, src_rg2, src_rg3, src_enum, src_zip, src_rev, k_bin, k_bin2, k_neg, k_cmp, k_cmp2, k_chn, k_chn2, k_chn3, k_chn4, k_and1, k_and0, k_or1, k_or0, k_not, k_ite, k_ite1, k_ite0, k_idx, k_idx2, k_sl, k_opt, k_sl2, k_sl3, k_dget, k_dget2, k_rgt, k_tup, k_lst, k_lst5, k_cel, k_call, k_callk, k_callk2, k_bi, k_mth, k_mth1, k_mth2, k_isi, k_len, k_lc, k_lcF, k_lc2, k_lc3t, k_lc3f, k_some, k_fmt, k_fs, k_mk, k_mkk, k_mkk2, k_att, k_um, k_evs, k_cons, k_tru, k_items, k_rg1, k_rg2, k_rg2b, k_rg3, k_rg3b, k_rg3c, k_enumL, k_enumT, k_zip, k_zipTT, k_zipLL, k_zipLT, k_zipTL, k_rev, v_val, o_owd, o_own, l_some, x_ok, o_map, s_set, s_setO, s_par, s_asg, s_aug, s_app, s_seti, s_setd, s_sta, s_ex, s_ret, s_retN, s_ifs, s_lop, s_whl, s_brk, s_cnt, s_pas, s_thru, ss_nil, ss_cons, ss_frz, at_name, at_sub, at_tup, ats_nil, ats_cons, t_set, t_setO, t_par, t_par2, t_asg, t_aug, t_augA, t_augS, t_app, t_app2, t_seti, t_seti2, t_seti3, t_setd, t_setd2, t_setd3, t_sta, t_ex, t_ret, t_ifs, t_ifs1, t_ifs0, t_lop, t_ss, t_ssr, t_ssb, t_ssc, t_ats, t_frz, t_sub, t_thru, t_thrur, o_nxt, v_set0, v_setS, d_set0, d_setD, d_setL, o_bind, z_frz0, z_frzS, List.getElem?_cons_zero, List.getElem?_cons_succ, i_tup, Bool.not_true, e3, q_ne, q_int, decide_true, e1, is_name_str _ x (len8 h3), h3, q_tb, e0, cst_many, is_within_int, h1, h2, Bool.and_true, e2, r_ret]
/-- the loop of listed -/
theorem listed_c (n : Nat) (d : D) (acc : List D) (l : List Nd) (s : Sto) (t : ∀ a ∈ preL l, NdOk a) (h : sizeL l ≤ 31) : ev G0 (cf n) (mf n) (.and (.cmp .NotEq (.var 2) (.lst .nil)) (.one (.cmp .LtE (.bi .len (.cons (.own 1) .nil)) (.cst "MOST_KINDS")))) [.val d, .own acc, .val (.lst (dNs l))] s = .ok (.bl (!l.isEmpty && decide ((acc.length : Int) ≤ 20))) s := by
  have e : (dNs l).isEmpty = l.isEmpty := by cases l <;> rfl
  simp only [e_non, e_bl, e_int, e_str, e_var, e_own, e_cst, e_bin, e_neg, e_cmp, e_chn, e_one, e_and, e_or, e_not, e_ite, e_idx, e_sl, e_tup, e_lst, e_cel, e_call, e_callk, e_bi, e_mth, e_isi, e_len, e_lc, e_fmt, e_fs, e_att, e_mk, e_mkk, e_um, e_dic0, e_dget, e_rgt, es_nil, es_cons, fs_nil, fs_cons, ts_nil, ts_one, src_seq, src_rg1, src_rg2, src_rg3, src_enum, src_zip, src_rev, k_bin, k_bin2, k_neg, k_cmp, k_cmp2, k_chn, k_chn2, k_chn3, k_chn4, k_and1, k_and0, k_or1, k_or0, k_not, k_ite, k_ite1, k_ite0, k_idx, k_idx2, k_sl, k_opt, k_sl2, k_sl3, k_dget, k_dget2, k_rgt, k_tup, k_lst, k_lst5, k_cel, k_call, k_callk, k_callk2, k_bi, k_mth, k_mth1, k_mth2, k_isi, k_len, k_lc, k_lcF, k_lc2, k_lc3t, k_lc3f, k_some, k_fmt, k_fs, k_mk, k_mkk, k_mkk2, k_att, k_um, k_evs, k_cons, k_tru, k_items, k_rg1, k_rg2, k_rg2b, k_rg3, k_rg3b, k_rg3c, k_enumL, k_enumT, k_zip, k_zipTT, k_zipLL, k_zipLT, k_zipTL, k_rev, v_val, o_owd, o_own, l_some, x_ok, o_map, s_set, s_setO, s_par, s_asg, s_aug, s_app, s_seti, s_setd, s_sta, s_ex, s_ret, s_retN, s_ifs, s_lop, s_whl, s_brk, s_cnt, s_pas, s_thru, ss_nil, ss_cons, ss_frz, at_name, at_sub, at_tup, ats_nil, ats_cons, t_set, t_setO, t_par, t_par2, t_asg, t_aug, t_augA, t_augS, t_app, t_app2, t_seti, t_seti2, t_seti3, t_setd, t_setd2, t_setd3, t_sta, t_ex, t_ret, t_ifs, t_ifs1, t_ifs0, t_lop, t_ss, t_ssr, t_ssb, t_ssc, t_ats, t_frz, t_sub, t_thru, t_thrur, o_nxt, v_set0, v_setS, d_set0, d_setD, d_setL, o_bind, z_frz0, z_frzS, List.getElem?_cons_zero, List.getElem?_cons_succ, q_ne, eq_nilL (nds_fitL t h), e]
  cases l.isEmpty <;> simp only [e_non, e_bl, e_int, e_str, e_var, e_own, e_cst, e_bin, e_neg, e_cmp, e_chn, e_one, e_and, e_or, e_not, e_ite, e_idx, e_sl, e_tup, e_lst, e_cel, e_call, e_callk, e_bi, e_mth, e_isi, e_len, e_lc, e_fmt, e_fs, e_att, e_mk, e_mkk, e_um, e_dic0, e_dget, e_rgt, es_nil, es_cons, fs_nil, fs_cons, ts_nil, ts_one, src_seq, src_rg1, src_rg2, src_rg3, src_enum, src_zip, src_rev, k_bin, k_bin2, k_neg, k_cmp, k_cmp2, k_chn, k_chn2, k_chn3, k_chn4, k_and1, k_and0, k_or1, k_or0, k_not, k_ite, k_ite1, k_ite0, k_idx, k_idx2, k_sl, k_opt, k_sl2, k_sl3, k_dget, k_dget2, k_rgt, k_tup, k_lst, k_lst5, k_cel, k_call, k_callk, k_callk2, k_bi, k_mth, k_mth1, k_mth2, k_isi, k_len, k_lc, k_lcF, k_lc2, k_lc3t, k_lc3f, k_some, k_fmt, k_fs, k_mk, k_mkk, k_mkk2, k_att, k_um, k_evs, k_cons, k_tru, k_items, k_rg1, k_rg2, k_rg2b, k_rg3, k_rg3b, k_rg3c, k_enumL, k_enumT, k_zip, k_zipTT, k_zipLL, k_zipLT, k_zipTL, k_rev, v_val, o_owd, o_own, l_some, x_ok, o_map, s_set, s_setO, s_par, s_asg, s_aug, s_app, s_seti, s_setd, s_sta, s_ex, s_ret, s_retN, s_ifs, s_lop, s_whl, s_brk, s_cnt, s_pas, s_thru, ss_nil, ss_cons, ss_frz, at_name, at_sub, at_tup, ats_nil, ats_cons, t_set, t_setO, t_par, t_par2, t_asg, t_aug, t_augA, t_augS, t_app, t_app2, t_seti, t_seti2, t_seti3, t_setd, t_setd2, t_setd3, t_sta, t_ex, t_ret, t_ifs, t_ifs1, t_ifs0, t_lop, t_ss, t_ssr, t_ssb, t_ssc, t_ats, t_frz, t_sub, t_thru, t_thrur, o_nxt, v_set0, v_setS, d_set0, d_setD, d_setL, o_bind, z_frz0, z_frzS, List.getElem?_cons_zero, List.getElem?_cons_succ, q_lenL, cst_kinds, q_le, Bool.not_true, Bool.not_false, Bool.true_and, Bool.false_and]
theorem sl_1 (a : D) (l : List D) : dSl (.lst (a :: l)) (some 1) none = some (.lst l) := by
  rw [q_slL, cut_1]
theorem listed_b (n : Nat) (d : D) (acc : List D) (a : Nd) (r : List Nd) (s : Sto) (o : NdOk a) (h : acc.length < 1000) (hz : sizeL (a :: r) ≤ 30) : evSs G0 (cf (n + 3)) (mf (n + 3)) (.cons (.app 1 (.idx (.var 2) (.int 0))) (.cons (.set 2 (.bin .Add (.ite (.call 24 (.cons (.idx (.var 2) (.int 0)) .nil)) (.bi .list (.cons (.idx (.idx (.var 2) (.int 0)) (.int 2)) .nil)) (.lst .nil)) (.sl (.var 2) (.cons (.int 1) .nil) .nil))) .nil)) [.val d, .own acc, .val (.lst (dNs (a :: r)))] s = .nxt [.val d, .own (acc ++ [a.d]), .val (.lst (dNs (a.ps ++ r)))] s := by
  have e : dNs (a :: r) = a.d :: dNs r := rfl
  have ok : okL (acc.length + 1) = true := okL_of (by omega)
  have i0 : dIdxS s (.lst (a.d :: dNs r)) (.int 0) = some a.d := q_atI0 _ _
  have i2 : dIdxS s a.d (.int 2) = some (.tup (dNs a.ps)) := by rw [Nd.d_eq]; rfl
  have z : (dNs a.ps).length + (dNs r).length ≤ 16777216 := by
    rw [dNs_map, dNs_map, List.length_map, List.length_map]
    have z1 := len_size a.ps
    have z2 := len_size r
    have z3 := size_ps a
    have z4 := sizeL_cons a r
    omega
  rw [e, dNs_append]
  simp only [e_non, e_bl, e_int, e_str, e_var, e_own, e_cst, e_bin, e_neg, e_cmp, e_chn, e_one, e_and, e_or, e_not, e_ite, e_idx, e_sl, e_tup, e_lst, e_cel, e_call, e_callk, e_bi, e_mth, e_isi, e_len, e_lc, e_fmt, e_fs, e_att, e_mk, e_mkk, e_um, e_dic0, e_dget, e_rgt, es_nil, es_cons, fs_nil, fs_cons, ts_nil, ts_one, src_seq, src_rg1, src_rg2, src_rg3, src_enum, src_zip, src_rev, k_bin, k_bin2, k_neg, k_cmp, k_cmp2, k_chn, k_chn2, k_chn3, k_chn4, k_and1, k_and0, k_or1, k_or0, k_not, k_ite, k_ite1, k_ite0, k_idx, k_idx2, k_sl, k_opt, k_sl2, k_sl3, k_dget, k_dget2, k_rgt, k_tup, k_lst, k_lst5, k_cel, k_call, k_callk, k_callk2, k_bi, k_mth, k_mth1, k_mth2, k_isi, k_len, k_lc, k_lcF, k_lc2, k_lc3t, k_lc3f, k_some, k_fmt, k_fs, k_mk, k_mkk, k_mkk2, k_att, k_um, k_evs, k_cons, k_tru, k_items, k_rg1, k_rg2, k_rg2b, k_rg3, k_rg3b, k_rg3c, k_enumL, k_enumT, k_zip, k_zipTT, k_zipLL, k_zipLT, k_zipTL, k_rev, v_val, o_owd, o_own, l_some, x_ok, o_map, s_set, s_setO, s_par, s_asg, s_aug, s_app, s_seti, s_setd, s_sta, s_ex, s_ret, s_retN, s_ifs, s_lop, s_whl, s_brk, s_cnt, s_pas, s_thru, ss_nil, ss_cons, ss_frz, at_name, at_sub, at_tup, ats_nil, ats_cons, t_set, t_setO, t_par, t_par2, t_asg, t_aug, t_augA, t_augS, t_app, t_app2, t_seti, t_seti2, t_seti3, t_setd, t_setd2, t_setd3, t_sta, t_ex, t_ret, t_ifs, t_ifs1, t_ifs0, t_lop, t_ss, t_ssr, t_ssb, t_ssc, t_ats, t_frz, t_sub, t_thru, t_thrur, o_nxt, v_set0, v_setS, d_set0, d_setD, d_setL, o_bind, z_frz0, z_frzS, List.getElem?_cons_zero, List.getElem?_cons_succ, i0, ok, List.set, is_node_ok o, q_tb, i2, q_lstT, optI, sl_1, q_addL _ _ z]
theorem listed_go (n : Nat) (d : D) (s : Sto) : ∀ (m : Nat) (l : List Nd) (acc : List D) (W : Nat), sizeL l ≤ m → acc.length + sizeL l ≤ 20 → (∀ a ∈ preL l, NdOk a) → m < W →
    whlGo (ev G0 (cf (n + 3)) (mf (n + 3)) (.and (.cmp .NotEq (.var 2) (.lst .nil)) (.one (.cmp .LtE (.bi .len (.cons (.own 1) .nil)) (.cst "MOST_KINDS"))))) (evSs G0 (cf (n + 3)) (mf (n + 3)) (.cons (.app 1 (.idx (.var 2) (.int 0))) (.cons (.set 2 (.bin .Add (.ite (.call 24 (.cons (.idx (.var 2) (.int 0)) .nil)) (.bi .list (.cons (.idx (.idx (.var 2) (.int 0)) (.int 2)) .nil)) (.lst .nil)) (.sl (.var 2) (.cons (.int 1) .nil) .nil))) .nil))) W [.val d, .own acc, .val (.lst (dNs l))] s = .nxt [.val d, .own (acc ++ (preL l).map Nd.d), .val (.lst [])] s
  | m, [], acc, W + 1, hm, hz, t, hw => by
    have c := listed_c (n + 3) d acc [] s t (by show 0 ≤ 31; omega)
    rw [whl_0 c]
    show _ = RS.nxt [.val d, .own (acc ++ []), .val (.lst [])] s
    rw [List.append_nil]; rfl
  | 0, a :: r, acc, W, hm, hz, t, hw => by
    have e := sizeL_cons a r
    have := size_ps a
    omega
  | m + 1, a :: r, acc, W + 1, hm, hz, t, hw => by
    have e := sizeL_cons a r
    have e1 := size_ps a
    have e2 : sizeL (a.ps ++ r) = sizeL a.ps + sizeL r := sizeL_append _ _
    have c := listed_c (n + 3) d acc (a :: r) s t (by omega)
    rw [show (!(a :: r).isEmpty && decide ((acc.length : Int) ≤ 20)) = true by
      rw [show (a :: r).isEmpty = false from rfl, decide_eq_true (by omega)]; rfl] at c
    rw [whl_1 c (listed_b n d acc a r s (ok_hd t) (by omega) (by omega)), listed_go n d s m (a.ps ++ r) (acc ++ [a.d]) W (by omega) (by rw [List.length_append]; show acc.length + 1 + _ ≤ 20; omega) (ok_ps t) (by omega), preL_step, List.append_assoc]
    rfl
theorem listed_ok (n : Nat) (l : List Nd) (s : Sto) (t : ∀ a ∈ preL l, NdOk a) (h : sizeL l ≤ 20) : cf (n + 4) 23 [.tup (dNs l)] s = .ok (.lst ((preL l).map Nd.d)) s := by
  rw [u23]
  simp only [B23, e_non, e_bl, e_int, e_str, e_var, e_own, e_cst, e_bin, e_neg, e_cmp, e_chn, e_one, e_and, e_or, e_not, e_ite, e_idx, e_sl, e_tup, e_lst, e_cel, e_call, e_callk, e_bi, e_mth, e_isi, e_len, e_lc, e_fmt, e_fs, e_att, e_mk, e_mkk, e_um, e_dic0, e_dget, e_rgt, es_nil, es_cons, fs_nil, fs_cons, ts_nil, ts_one, src_seq, src_rg1, src_rg2, src_rg3, src_enum, src_zip, src_rev, k_bin, k_bin2, k_neg, k_cmp, k_cmp2, k_chn, k_chn2, k_chn3, k_chn4, k_and1, k_and0, k_or1, k_or0, k_not, k_ite, k_ite1, k_ite0, k_idx, k_idx2, k_sl, k_opt, k_sl2, k_sl3, k_dget, k_dget2, k_rgt, k_tup, k_lst, k_lst5, k_cel, k_call, k_callk, k_callk2, k_bi, k_mth, k_mth1, k_mth2, k_isi, k_len, k_lc, k_lcF, k_lc2, k_lc3t, k_lc3f, k_some, k_fmt, k_fs, k_mk, k_mkk, k_mkk2, k_att, k_um, k_evs, k_cons, k_tru, k_items, k_rg1, k_rg2, k_rg2b, k_rg3, k_rg3b, k_rg3c, k_enumL, k_enumT, k_zip, k_zipTT, k_zipLL, k_zipLT, k_zipTL, k_rev, v_val, o_owd, o_own, l_some, x_ok, o_map, s_set, s_setO, s_par, s_asg, s_aug, s_app, s_seti, s_setd, s_sta, s_ex, s_ret, s_retN, s_ifs, s_lop, s_whl, s_brk, s_cnt, s_pas, s_thru, ss_nil, ss_cons, ss_frz, at_name, at_sub, at_tup, ats_nil, ats_cons, t_set, t_setO, t_par, t_par2, t_asg, t_aug, t_augA, t_augS, t_app, t_app2, t_seti, t_seti2, t_seti3, t_setd, t_setd2, t_setd3, t_sta, t_ex, t_ret, t_ifs, t_ifs1, t_ifs0, t_lop, t_ss, t_ssr, t_ssb, t_ssc, t_ats, t_frz, t_sub, t_thru, t_thrur, o_nxt, v_set0, v_setS, d_set0, d_setD, d_setL, o_bind, z_frz0, z_frzS, List.getElem?_cons_zero, List.getElem?_cons_succ, q_lstT]
  rw [listed_go n (.tup (dNs l)) s 20 l [] WF h (by show 0 + _ ≤ 20; omega) t (by decide)]
  simp only [e_non, e_bl, e_int, e_str, e_var, e_own, e_cst, e_bin, e_neg, e_cmp, e_chn, e_one, e_and, e_or, e_not, e_ite, e_idx, e_sl, e_tup, e_lst, e_cel, e_call, e_callk, e_bi, e_mth, e_isi, e_len, e_lc, e_fmt, e_fs, e_att, e_mk, e_mkk, e_um, e_dic0, e_dget, e_rgt, es_nil, es_cons, fs_nil, fs_cons, ts_nil, ts_one, src_seq, src_rg1, src_rg2, src_rg3, src_enum, src_zip, src_rev, k_bin, k_bin2, k_neg, k_cmp, k_cmp2, k_chn, k_chn2, k_chn3, k_chn4, k_and1, k_and0, k_or1, k_or0, k_not, k_ite, k_ite1, k_ite0, k_idx, k_idx2, k_sl, k_opt, k_sl2, k_sl3, k_dget, k_dget2, k_rgt, k_tup, k_lst, k_lst5, k_cel, k_call, k_callk, k_callk2, k_bi, k_mth, k_mth1, k_mth2, k_isi, k_len, k_lc, k_lcF, k_lc2, k_lc3t, k_lc3f, k_some, k_fmt, k_fs, k_mk, k_mkk, k_mkk2, k_att, k_um, k_evs, k_cons, k_tru, k_items, k_rg1, k_rg2, k_rg2b, k_rg3, k_rg3b, k_rg3c, k_enumL, k_enumT, k_zip, k_zipTT, k_zipLL, k_zipLT, k_zipTL, k_rev, v_val, o_owd, o_own, l_some, x_ok, o_map, s_set, s_setO, s_par, s_asg, s_aug, s_app, s_seti, s_setd, s_sta, s_ex, s_ret, s_retN, s_ifs, s_lop, s_whl, s_brk, s_cnt, s_pas, s_thru, ss_nil, ss_cons, ss_frz, at_name, at_sub, at_tup, ats_nil, ats_cons, t_set, t_setO, t_par, t_par2, t_asg, t_aug, t_augA, t_augS, t_app, t_app2, t_seti, t_seti2, t_seti3, t_setd, t_setd2, t_setd3, t_sta, t_ex, t_ret, t_ifs, t_ifs1, t_ifs0, t_lop, t_ss, t_ssr, t_ssb, t_ssc, t_ats, t_frz, t_sub, t_thru, t_thrur, o_nxt, v_set0, v_setS, d_set0, d_setD, d_setL, o_bind, z_frz0, z_frzS, List.getElem?_cons_zero, List.getElem?_cons_succ, r_ret, List.nil_append]
end Lk16
set_option Elab.async false
set_option linter.all false
set_option maxRecDepth 100000
set_option maxHeartbeats 1000000
/-! wrong_node, kinds_of, a Work made -/
namespace Lk16
open Lv PySem
theorem wrong_node_ok (n : Nat) (l : List Nd) (s : Sto) (w : WOk l) : cf (n + 5) 13 [.tup (dNs l)] s = .ok (.tup []) s := by
  rw [u13]
  have l0 : (dNs l).length ≠ 0 := by
    rw [dNs_map, List.length_map]
    intro h
    exact w.ne (List.length_eq_zero_iff.mp h)
  have l0' : ((dNs l).length : Int) ≠ 0 := by omega
  simp only [B13, e_non, e_bl, e_int, e_str, e_var, e_own, e_cst, e_bin, e_neg, e_cmp, e_chn, e_one, e_and, e_or, e_not, e_ite, e_idx, e_sl, e_tup, e_lst, e_cel, e_call, e_callk, e_bi, e_mth, e_isi, e_len, e_lc, e_fmt, e_fs, e_att, e_mk, e_mkk, e_um, e_dic0, e_dget, e_rgt, es_nil, es_cons, fs_nil, fs_cons, ts_nil, ts_one, src_seq, src_rg1, src_rg2, src_rg3, src_enum, src_zip, src_rev, k_bin, k_bin2, k_neg, k_cmp, k_cmp2, k_chn, k_chn2, k_chn3, k_chn4, k_and1, k_and0, k_or1, k_or0, k_not, k_ite, k_ite1, k_ite0, k_idx, k_idx2, k_sl, k_opt, k_sl2, k_sl3, k_dget, k_dget2, k_rgt, k_tup, k_lst, k_lst5, k_cel, k_call, k_callk, k_callk2, k_bi, k_mth, k_mth1, k_mth2, k_isi, k_len, k_lc, k_lcF, k_lc2, k_lc3t, k_lc3f, k_some, k_fmt, k_fs, k_mk, k_mkk, k_mkk2, k_att, k_um, k_evs, k_cons, k_tru, k_items, k_rg1, k_rg2, k_rg2b, k_rg3, k_rg3b, k_rg3c, k_enumL, k_enumT, k_zip, k_zipTT, k_zipLL, k_zipLT, k_zipTL, k_rev, v_val, o_owd, o_own, l_some, x_ok, o_map, s_set, s_setO, s_par, s_asg, s_aug, s_app, s_seti, s_setd, s_sta, s_ex, s_ret, s_retN, s_ifs, s_lop, s_whl, s_brk, s_cnt, s_pas, s_thru, ss_nil, ss_cons, ss_frz, at_name, at_sub, at_tup, ats_nil, ats_cons, t_set, t_setO, t_par, t_par2, t_asg, t_aug, t_augA, t_augS, t_app, t_app2, t_seti, t_seti2, t_seti3, t_setd, t_setd2, t_setd3, t_sta, t_ex, t_ret, t_ifs, t_ifs1, t_ifs0, t_lop, t_ss, t_ssr, t_ssb, t_ssc, t_ats, t_frz, t_sub, t_thru, t_thrur, o_nxt, v_set0, v_setS, d_set0, d_setD, d_setL, o_bind, z_frz0, z_frzS, List.getElem?_cons_zero, List.getElem?_cons_succ, i_tup, Bool.not_true, q_lenT, q_eq, q_int, l0', decide_false, q_tb, listed_ok _ l s w.ok w.sz, en_map]
  have go := lop_inv (t := .tup [.name 2, .name 3]) (f := evSs G0 (cf (n + 4)) (mf (n + 4)) (.cons (.ifs (.or (.not (.call 24 (.cons (.var 3) .nil))) (.or (.cmp .GtE (.var 2) (.cst "MOST_KINDS")) (.one (.cmp .In (.idx (.var 3) (.int 1)) (.lc (.seq (.sl (.var 1) .nil (.cons (.var 2) .nil))) (.name 4) .nil (.idx (.var 4) (.int 1)) [4]))))) (.cons (.ret (.tup (.cons (.var 2) .nil))) .nil) .nil) .nil))
    (fun ds env s' => ∃ (pr rs : List Nd) (e2 e3 e4 : Sl), preL l = pr ++ rs ∧ ds = (rs.zipIdx pr.length).map (fun p => D.tup [.int (p.2 : Int), p.1.d]) ∧ env = [.val (.tup (dNs l)), .val (.lst ((preL l).map Nd.d)), e2, e3, e4] ∧ s' = s)
    (fun d ds env s' h => by
      obtain ⟨pr, rs, e2, e3, e4, h1, h2, h3, rfl⟩ := h
      cases rs with
      | nil => cases h2
      | cons a rs =>
        cases h2
        subst h3
        have hk : pr.length < 20 := by
          have := congrArg List.length h1
          rw [preL_len, List.length_append, List.length_cons] at this
          have := w.sz
          omega
        have oa : NdOk a := w.ok a (by rw [h1]; exact List.mem_append_right _ (List.mem_cons_self ..))
        have i1 : dIdxS s' a.d (.int 1) = some (.str a.x) := by rw [Nd.d_eq]; rfl
        have cut : dSl (.lst ((preL l).map Nd.d)) none (some (pr.length : Int)) = some (.lst (pr.map Nd.d)) := by
          rw [q_slL, cut_to, ← List.map_take, h1, List.take_left' rfl]
        have hin : dIn (.str a.x) (.lst (pr.map fun b => D.str b.x)) = some false := by
          have e : (pr.map fun b => D.str b.x) = (pr.map Nd.x).map D.str := by rw [List.map_map]; rfl
          rw [e, in_strs (nameB_ok oa.nm).1 (fun y hy => by
            obtain ⟨b, hb, rfl⟩ := List.mem_map.mp hy
            exact (nameB_ok (w.ok b (by rw [h1]; exact List.mem_append_left _ hb)).nm).1)]
          refine congrArg some (decide_eq_false fun hm => ?_)
          have nd := w.nd
          rw [h1, List.map_append, List.map_cons] at nd
          exact (List.nodup_append.mp nd).2.2 _ hm _ (List.mem_cons_self ..) rfl
        refine ⟨[.val (.tup (dNs l)), .val (.lst ((preL l).map Nd.d)), .val (.int pr.length), .val a.d, e4], [.val (.tup (dNs l)), .val (.lst ((preL l).map Nd.d)), .val (.int pr.length), .val a.d, e4], s', ?_, ?_, ?_⟩
        · simp only [b_tup, b_cons, b_name, b_nil, e_non, e_bl, e_int, e_str, e_var, e_own, e_cst, e_bin, e_neg, e_cmp, e_chn, e_one, e_and, e_or, e_not, e_ite, e_idx, e_sl, e_tup, e_lst, e_cel, e_call, e_callk, e_bi, e_mth, e_isi, e_len, e_lc, e_fmt, e_fs, e_att, e_mk, e_mkk, e_um, e_dic0, e_dget, e_rgt, es_nil, es_cons, fs_nil, fs_cons, ts_nil, ts_one, src_seq, src_rg1, src_rg2, src_rg3, src_enum, src_zip, src_rev, k_bin, k_bin2, k_neg, k_cmp, k_cmp2, k_chn, k_chn2, k_chn3, k_chn4, k_and1, k_and0, k_or1, k_or0, k_not, k_ite, k_ite1, k_ite0, k_idx, k_idx2, k_sl, k_opt, k_sl2, k_sl3, k_dget, k_dget2, k_rgt, k_tup, k_lst, k_lst5, k_cel, k_call, k_callk, k_callk2, k_bi, k_mth, k_mth1, k_mth2, k_isi, k_len, k_lc, k_lcF, k_lc2, k_lc3t, k_lc3f, k_some, k_fmt, k_fs, k_mk, k_mkk, k_mkk2, k_att, k_um, k_evs, k_cons, k_tru, k_items, k_rg1, k_rg2, k_rg2b, k_rg3, k_rg3b, k_rg3c, k_enumL, k_enumT, k_zip, k_zipTT, k_zipLL, k_zipLT, k_zipTL, k_rev, v_val, o_owd, o_own, l_some, x_ok, o_map, s_set, s_setO, s_par, s_asg, s_aug, s_app, s_seti, s_setd, s_sta, s_ex, s_ret, s_retN, s_ifs, s_lop, s_whl, s_brk, s_cnt, s_pas, s_thru, ss_nil, ss_cons, ss_frz, at_name, at_sub, at_tup, ats_nil, ats_cons, t_set, t_setO, t_par, t_par2, t_asg, t_aug, t_augA, t_augS, t_app, t_app2, t_seti, t_seti2, t_seti3, t_setd, t_setd2, t_setd3, t_sta, t_ex, t_ret, t_ifs, t_ifs1, t_ifs0, t_lop, t_ss, t_ssr, t_ssb, t_ssc, t_ats, t_frz, t_sub, t_thru, t_thrur, o_nxt, v_set0, v_setS, d_set0, d_setD, d_setL, o_bind, z_frz0, z_frzS, List.getElem?_cons_zero, List.getElem?_cons_succ]
        · have g : ¬ (20 : Int) ≤ (pr.length : Int) := by omega
          simp only [e_non, e_bl, e_int, e_str, e_var, e_own, e_cst, e_bin, e_neg, e_cmp, e_chn, e_one, e_and, e_or, e_not, e_ite, e_idx, e_sl, e_tup, e_lst, e_cel, e_call, e_callk, e_bi, e_mth, e_isi, e_len, e_lc, e_fmt, e_fs, e_att, e_mk, e_mkk, e_um, e_dic0, e_dget, e_rgt, es_nil, es_cons, fs_nil, fs_cons, ts_nil, ts_one, src_seq, src_rg1, src_rg2, src_rg3, src_enum, src_zip, src_rev, k_bin, k_bin2, k_neg, k_cmp, k_cmp2, k_chn, k_chn2, k_chn3, k_chn4, k_and1, k_and0, k_or1, k_or0, k_not, k_ite, k_ite1, k_ite0, k_idx, k_idx2, k_sl, k_opt, k_sl2, k_sl3, k_dget, k_dget2, k_rgt, k_tup, k_lst, k_lst5, k_cel, k_call, k_callk, k_callk2, k_bi, k_mth, k_mth1, k_mth2, k_isi, k_len, k_lc, k_lcF, k_lc2, k_lc3t, k_lc3f, k_some, k_fmt, k_fs, k_mk, k_mkk, k_mkk2, k_att, k_um, k_evs, k_cons, k_tru, k_items, k_rg1, k_rg2, k_rg2b, k_rg3, k_rg3b, k_rg3c, k_enumL, k_enumT, k_zip, k_zipTT, k_zipLL, k_zipLT, k_zipTL, k_rev, v_val, o_owd, o_own, l_some, x_ok, o_map, s_set, s_setO, s_par, s_asg, s_aug, s_app, s_seti, s_setd, s_sta, s_ex, s_ret, s_retN, s_ifs, s_lop, s_whl, s_brk, s_cnt, s_pas, s_thru, ss_nil, ss_cons, ss_frz, at_name, at_sub, at_tup, ats_nil, ats_cons, t_set, t_setO, t_par, t_par2, t_asg, t_aug, t_augA, t_augS, t_app, t_app2, t_seti, t_seti2, t_seti3, t_setd, t_setd2, t_setd3, t_sta, t_ex, t_ret, t_ifs, t_ifs1, t_ifs0, t_lop, t_ss, t_ssr, t_ssb, t_ssc, t_ats, t_frz, t_sub, t_thru, t_thrur, o_nxt, v_set0, v_setS, d_set0, d_setD, d_setL, o_bind, z_frz0, z_frzS, List.getElem?_cons_zero, List.getElem?_cons_succ, is_node_ok oa, Bool.not_true, cst_kinds, q_ge, g, decide_false, i1, optI, cut, q_itL]
          have ok : okL (pr.map Nd.d).length = true := okL_of (by rw [List.length_map]; omega)
          rw [k_lc _ _ _ _ _ ok, lc_map Nd.d (fun b => D.str b.x) pr fun b _ => by
            have ib : ∀ s, dIdxS s b.d (.int 1) = some (.str b.x) := fun s => by rw [Nd.d_eq]; rfl
            simp only [e_non, e_bl, e_int, e_str, e_var, e_own, e_cst, e_bin, e_neg, e_cmp, e_chn, e_one, e_and, e_or, e_not, e_ite, e_idx, e_sl, e_tup, e_lst, e_cel, e_call, e_callk, e_bi, e_mth, e_isi, e_len, e_lc, e_fmt, e_fs, e_att, e_mk, e_mkk, e_um, e_dic0, e_dget, e_rgt, es_nil, es_cons, fs_nil, fs_cons, ts_nil, ts_one, src_seq, src_rg1, src_rg2, src_rg3, src_enum, src_zip, src_rev, k_bin, k_bin2, k_neg, k_cmp, k_cmp2, k_chn, k_chn2, k_chn3, k_chn4, k_and1, k_and0, k_or1, k_or0, k_not, k_ite, k_ite1, k_ite0, k_idx, k_idx2, k_sl, k_opt, k_sl2, k_sl3, k_dget, k_dget2, k_rgt, k_tup, k_lst, k_lst5, k_cel, k_call, k_callk, k_callk2, k_bi, k_mth, k_mth1, k_mth2, k_isi, k_len, k_lc, k_lcF, k_lc2, k_lc3t, k_lc3f, k_some, k_fmt, k_fs, k_mk, k_mkk, k_mkk2, k_att, k_um, k_evs, k_cons, k_tru, k_items, k_rg1, k_rg2, k_rg2b, k_rg3, k_rg3b, k_rg3c, k_enumL, k_enumT, k_zip, k_zipTT, k_zipLL, k_zipLT, k_zipTL, k_rev, v_val, o_owd, o_own, l_some, x_ok, o_map, s_set, s_setO, s_par, s_asg, s_aug, s_app, s_seti, s_setd, s_sta, s_ex, s_ret, s_retN, s_ifs, s_lop, s_whl, s_brk, s_cnt, s_pas, s_thru, ss_nil, ss_cons, ss_frz, at_name, at_sub, at_tup, ats_nil, ats_cons, t_set, t_setO, t_par, t_par2, t_asg, t_aug, t_augA, t_augS, t_app, t_app2, t_seti, t_seti2, t_seti3, t_setd, t_setd2, t_setd3, t_sta, t_ex, t_ret, t_ifs, t_ifs1, t_ifs0, t_lop, t_ss, t_ssr, t_ssb, t_ssc, t_ats, t_frz, t_sub, t_thru, t_thrur, o_nxt, v_set0, v_setS, d_set0, d_setD, d_setL, o_bind, z_frz0, z_frzS, List.getElem?_cons_zero, List.getElem?_cons_succ, wipeE, List.set, b_name, ib]]
          simp only [e_non, e_bl, e_int, e_str, e_var, e_own, e_cst, e_bin, e_neg, e_cmp, e_chn, e_one, e_and, e_or, e_not, e_ite, e_idx, e_sl, e_tup, e_lst, e_cel, e_call, e_callk, e_bi, e_mth, e_isi, e_len, e_lc, e_fmt, e_fs, e_att, e_mk, e_mkk, e_um, e_dic0, e_dget, e_rgt, es_nil, es_cons, fs_nil, fs_cons, ts_nil, ts_one, src_seq, src_rg1, src_rg2, src_rg3, src_enum, src_zip, src_rev, k_bin, k_bin2, k_neg, k_cmp, k_cmp2, k_chn, k_chn2, k_chn3, k_chn4, k_and1, k_and0, k_or1, k_or0, k_not, k_ite, k_ite1, k_ite0, k_idx, k_idx2, k_sl, k_opt, k_sl2, k_sl3, k_dget, k_dget2, k_rgt, k_tup, k_lst, k_lst5, k_cel, k_call, k_callk, k_callk2, k_bi, k_mth, k_mth1, k_mth2, k_isi, k_len, k_lc, k_lcF, k_lc2, k_lc3t, k_lc3f, k_some, k_fmt, k_fs, k_mk, k_mkk, k_mkk2, k_att, k_um, k_evs, k_cons, k_tru, k_items, k_rg1, k_rg2, k_rg2b, k_rg3, k_rg3b, k_rg3c, k_enumL, k_enumT, k_zip, k_zipTT, k_zipLL, k_zipLT, k_zipTL, k_rev, v_val, o_owd, o_own, l_some, x_ok, o_map, s_set, s_setO, s_par, s_asg, s_aug, s_app, s_seti, s_setd, s_sta, s_ex, s_ret, s_retN, s_ifs, s_lop, s_whl, s_brk, s_cnt, s_pas, s_thru, ss_nil, ss_cons, ss_frz, at_name, at_sub, at_tup, ats_nil, ats_cons, t_set, t_setO, t_par, t_par2, t_asg, t_aug, t_augA, t_augS, t_app, t_app2, t_seti, t_seti2, t_seti3, t_setd, t_setd2, t_setd3, t_sta, t_ex, t_ret, t_ifs, t_ifs1, t_ifs0, t_lop, t_ss, t_ssr, t_ssb, t_ssc, t_ats, t_frz, t_sub, t_thru, t_thrur, o_nxt, v_set0, v_setS, d_set0, d_setD, d_setL, o_bind, z_frz0, z_frzS, List.getElem?_cons_zero, List.getElem?_cons_succ, q_in, hin, q_tb]
        · exact ⟨pr ++ [a], rs, .val (.int pr.length), .val a.d, e4, by rw [h1, List.append_assoc]; rfl, by rw [List.length_append]; rfl, rfl, rfl⟩)
    ((preL l).zipIdx.map fun p => D.tup [.int (p.2 : Int), p.1.d]) [.val (.tup (dNs l)), .val (.lst ((preL l).map Nd.d)), .und, .und, .und] s ⟨[], preL l, _, _, _, rfl, rfl, rfl, rfl⟩
  obtain ⟨env', s', e, pr, rs, e2, e3, e4, h1, h2, h3, rfl⟩ := go
  rw [e]
  simp only [e_non, e_bl, e_int, e_str, e_var, e_own, e_cst, e_bin, e_neg, e_cmp, e_chn, e_one, e_and, e_or, e_not, e_ite, e_idx, e_sl, e_tup, e_lst, e_cel, e_call, e_callk, e_bi, e_mth, e_isi, e_len, e_lc, e_fmt, e_fs, e_att, e_mk, e_mkk, e_um, e_dic0, e_dget, e_rgt, es_nil, es_cons, fs_nil, fs_cons, ts_nil, ts_one, src_seq, src_rg1, src_rg2, src_rg3, src_enum, src_zip, src_rev, k_bin, k_bin2, k_neg, k_cmp, k_cmp2, k_chn, k_chn2, k_chn3, k_chn4, k_and1, k_and0, k_or1, k_or0, k_not, k_ite, k_ite1, k_ite0, k_idx, k_idx2, k_sl, k_opt, k_sl2, k_sl3, k_dget, k_dget2, k_rgt, k_tup, k_lst, k_lst5, k_cel, k_call, k_callk, k_callk2, k_bi, k_mth, k_mth1, k_mth2, k_isi, k_len, k_lc, k_lcF, k_lc2, k_lc3t, k_lc3f, k_some, k_fmt, k_fs, k_mk, k_mkk, k_mkk2, k_att, k_um, k_evs, k_cons, k_tru, k_items, k_rg1, k_rg2, k_rg2b, k_rg3, k_rg3b, k_rg3c, k_enumL, k_enumT, k_zip, k_zipTT, k_zipLL, k_zipLT, k_zipTL, k_rev, v_val, o_owd, o_own, l_some, x_ok, o_map, s_set, s_setO, s_par, s_asg, s_aug, s_app, s_seti, s_setd, s_sta, s_ex, s_ret, s_retN, s_ifs, s_lop, s_whl, s_brk, s_cnt, s_pas, s_thru, ss_nil, ss_cons, ss_frz, at_name, at_sub, at_tup, ats_nil, ats_cons, t_set, t_setO, t_par, t_par2, t_asg, t_aug, t_augA, t_augS, t_app, t_app2, t_seti, t_seti2, t_seti3, t_setd, t_setd2, t_setd3, t_sta, t_ex, t_ret, t_ifs, t_ifs1, t_ifs0, t_lop, t_ss, t_ssr, t_ssb, t_ssc, t_ats, t_frz, t_sub, t_thru, t_thrur, o_nxt, v_set0, v_setS, d_set0, d_setD, d_setL, o_bind, z_frz0, z_frzS, List.getElem?_cons_zero, List.getElem?_cons_succ, r_ret]
/-- bounds of products -/
theorem tm_step {tm m : Int} {e : Nat} (h0 : 0 ≤ tm) (h : tm ≤ 10 ^ (30 * e)) (h1 : 1 ≤ m) (h2 : m ≤ 10 ^ 30) : 0 ≤ tm * m ∧ tm * m ≤ 10 ^ (30 * (e + 1)) := by
  refine ⟨Int.mul_nonneg h0 (by omega), ?_⟩
  rw [show 30 * (e + 1) = 30 * e + 30 by omega, Int.pow_add]
  exact Int.mul_le_mul h h2 (by omega) (Int.pow_nonneg (by decide))
theorem tm_abs {tm : Int} {e : Nat} (h0 : 0 ≤ tm) (h : tm ≤ 10 ^ (30 * e)) (he : e ≤ 32) : tm.natAbs < 10 ^ 1000 := by
  have e1 : (tm.natAbs : Int) = tm := Int.natAbs_of_nonneg h0
  have e2 : (10 : Int) ^ (30 * e) ≤ 10 ^ 960 := by
    have := Nat.pow_le_pow_right (n := 10) (by decide) (show 30 * e ≤ 960 by omega)
    exact_mod_cast this
  have e3 : (10 : Int) ^ 960 < ((10 ^ 1000 : Nat) : Int) := by decide +kernel
  omega
theorem m_abs {m : Int} (h1 : 1 ≤ m) (h2 : m ≤ 10 ^ 30) : m.natAbs < 10 ^ 1000 := Nat.lt_trans (int_30 (by omega) h2) (by decide +kernel)
theorem kinds_of_ok (n : Nat) (s : Sto) : ∀ (N : Nat) (l : List Nd) (lv tm : Int) (h : Option Nat) (k e : Nat), sizeL l ≤ N → N ≤ 100 → (∀ b ∈ preL l, NdOk b) → 0 ≤ tm → tm ≤ 10 ^ (30 * e) → e + sizeL l ≤ 31 →
    cf (n + 1 + N) 25 [.tup (dNs l), .int lv, .int tm, .tup [hD h, .int ((k : Int) - 1)]] s = .ok (.lst ((rowsL l lv tm h k).map Row.d)) s := by
  intro N
  induction N with
  | zero =>
    intro l lv tm h k e hN hN2 ok h0 h1 he
    cases l with
    | cons a r =>
      have := sizeL_cons a r
      have := size_ps a
      omega
    | nil =>
      rw [show n + 1 + 0 = n + 1 from rfl, u25]
      simp only [B25, e_non, e_bl, e_int, e_str, e_var, e_own, e_cst, e_bin, e_neg, e_cmp, e_chn, e_one, e_and, e_or, e_not, e_ite, e_idx, e_sl, e_tup, e_lst, e_cel, e_call, e_callk, e_bi, e_mth, e_isi, e_len, e_lc, e_fmt, e_fs, e_att, e_mk, e_mkk, e_um, e_dic0, e_dget, e_rgt, es_nil, es_cons, fs_nil, fs_cons, ts_nil, ts_one, src_seq, src_rg1, src_rg2, src_rg3, src_enum, src_zip, src_rev, k_bin, k_bin2, k_neg, k_cmp, k_cmp2, k_chn, k_chn2, k_chn3, k_chn4, k_and1, k_and0, k_or1, k_or0, k_not, k_ite, k_ite1, k_ite0, k_idx, k_idx2, k_sl, k_opt, k_sl2, k_sl3, k_dget, k_dget2, k_rgt, k_tup, k_lst, k_lst5, k_cel, k_call, k_callk, k_callk2, k_bi, k_mth, k_mth1, k_mth2, k_isi, k_len, k_lc, k_lcF, k_lc2, k_lc3t, k_lc3f, k_some, k_fmt, k_fs, k_mk, k_mkk, k_mkk2, k_att, k_um, k_evs, k_cons, k_tru, k_items, k_rg1, k_rg2, k_rg2b, k_rg3, k_rg3b, k_rg3c, k_enumL, k_enumT, k_zip, k_zipTT, k_zipLL, k_zipLT, k_zipTL, k_rev, v_val, o_owd, o_own, l_some, x_ok, o_map, s_set, s_setO, s_par, s_asg, s_aug, s_app, s_seti, s_setd, s_sta, s_ex, s_ret, s_retN, s_ifs, s_lop, s_whl, s_brk, s_cnt, s_pas, s_thru, ss_nil, ss_cons, ss_frz, at_name, at_sub, at_tup, ats_nil, ats_cons, t_set, t_setO, t_par, t_par2, t_asg, t_aug, t_augA, t_augS, t_app, t_app2, t_seti, t_seti2, t_seti3, t_setd, t_setd2, t_setd3, t_sta, t_ex, t_ret, t_ifs, t_ifs1, t_ifs0, t_lop, t_ss, t_ssr, t_ssb, t_ssc, t_ats, t_frz, t_sub, t_thru, t_thrur, o_nxt, v_set0, v_setS, d_set0, d_setD, d_setL, o_bind, z_frz0, z_frzS, List.getElem?_cons_zero, List.getElem?_cons_succ, q_itT]
      rw [show dNs [] = [] from rfl, lop_nil]
      simp only [e_non, e_bl, e_int, e_str, e_var, e_own, e_cst, e_bin, e_neg, e_cmp, e_chn, e_one, e_and, e_or, e_not, e_ite, e_idx, e_sl, e_tup, e_lst, e_cel, e_call, e_callk, e_bi, e_mth, e_isi, e_len, e_lc, e_fmt, e_fs, e_att, e_mk, e_mkk, e_um, e_dic0, e_dget, e_rgt, es_nil, es_cons, fs_nil, fs_cons, ts_nil, ts_one, src_seq, src_rg1, src_rg2, src_rg3, src_enum, src_zip, src_rev, k_bin, k_bin2, k_neg, k_cmp, k_cmp2, k_chn, k_chn2, k_chn3, k_chn4, k_and1, k_and0, k_or1, k_or0, k_not, k_ite, k_ite1, k_ite0, k_idx, k_idx2, k_sl, k_opt, k_sl2, k_sl3, k_dget, k_dget2, k_rgt, k_tup, k_lst, k_lst5, k_cel, k_call, k_callk, k_callk2, k_bi, k_mth, k_mth1, k_mth2, k_isi, k_len, k_lc, k_lcF, k_lc2, k_lc3t, k_lc3f, k_some, k_fmt, k_fs, k_mk, k_mkk, k_mkk2, k_att, k_um, k_evs, k_cons, k_tru, k_items, k_rg1, k_rg2, k_rg2b, k_rg3, k_rg3b, k_rg3c, k_enumL, k_enumT, k_zip, k_zipTT, k_zipLL, k_zipLT, k_zipTL, k_rev, v_val, o_owd, o_own, l_some, x_ok, o_map, s_set, s_setO, s_par, s_asg, s_aug, s_app, s_seti, s_setd, s_sta, s_ex, s_ret, s_retN, s_ifs, s_lop, s_whl, s_brk, s_cnt, s_pas, s_thru, ss_nil, ss_cons, ss_frz, at_name, at_sub, at_tup, ats_nil, ats_cons, t_set, t_setO, t_par, t_par2, t_asg, t_aug, t_augA, t_augS, t_app, t_app2, t_seti, t_seti2, t_seti3, t_setd, t_setd2, t_setd3, t_sta, t_ex, t_ret, t_ifs, t_ifs1, t_ifs0, t_lop, t_ss, t_ssr, t_ssb, t_ssc, t_ats, t_frz, t_sub, t_thru, t_thrur, o_nxt, v_set0, v_setS, d_set0, d_setD, d_setL, o_bind, z_frz0, z_frzS, List.getElem?_cons_zero, List.getElem?_cons_succ, r_ret]
      rfl
  | succ N ih =>
    intro l lv tm h k e hN hN2 ok h0 h1 he
    rw [show n + 1 + (N + 1) = (n + 1 + N) + 1 by omega, u25]
    simp only [B25, e_non, e_bl, e_int, e_str, e_var, e_own, e_cst, e_bin, e_neg, e_cmp, e_chn, e_one, e_and, e_or, e_not, e_ite, e_idx, e_sl, e_tup, e_lst, e_cel, e_call, e_callk, e_bi, e_mth, e_isi, e_len, e_lc, e_fmt, e_fs, e_att, e_mk, e_mkk, e_um, e_dic0, e_dget, e_rgt, es_nil, es_cons, fs_nil, fs_cons, ts_nil, ts_one, src_seq, src_rg1, src_rg2, src_rg3, src_enum, src_zip, src_rev, k_bin, k_bin2, k_neg, k_cmp, k_cmp2, k_chn, k_chn2, k_chn3, k_chn4, k_and1, k_and0, k_or1, k_or0, k_not, k_ite, k_ite1, k_ite0, k_idx, k_idx2, k_sl, k_opt, k_sl2, k_sl3, k_dget, k_dget2, k_rgt, k_tup, k_lst, k_lst5, k_cel, k_call, k_callk, k_callk2, k_bi, k_mth, k_mth1, k_mth2, k_isi, k_len, k_lc, k_lcF, k_lc2, k_lc3t, k_lc3f, k_some, k_fmt, k_fs, k_mk, k_mkk, k_mkk2, k_att, k_um, k_evs, k_cons, k_tru, k_items, k_rg1, k_rg2, k_rg2b, k_rg3, k_rg3b, k_rg3c, k_enumL, k_enumT, k_zip, k_zipTT, k_zipLL, k_zipLT, k_zipTL, k_rev, v_val, o_owd, o_own, l_some, x_ok, o_map, s_set, s_setO, s_par, s_asg, s_aug, s_app, s_seti, s_setd, s_sta, s_ex, s_ret, s_retN, s_ifs, s_lop, s_whl, s_brk, s_cnt, s_pas, s_thru, ss_nil, ss_cons, ss_frz, at_name, at_sub, at_tup, ats_nil, ats_cons, t_set, t_setO, t_par, t_par2, t_asg, t_aug, t_augA, t_augS, t_app, t_app2, t_seti, t_seti2, t_seti3, t_setd, t_setd2, t_setd3, t_sta, t_ex, t_ret, t_ifs, t_ifs1, t_ifs0, t_lop, t_ss, t_ssr, t_ssb, t_ssc, t_ats, t_frz, t_sub, t_thru, t_thrur, o_nxt, v_set0, v_setS, d_set0, d_setD, d_setL, o_bind, z_frz0, z_frzS, List.getElem?_cons_zero, List.getElem?_cons_succ, q_itT]
    have go := lop_inv (t := .tup [.name 5, .name 6, .name 7]) (f := evSs G0 (cf (n + 1 + N)) (mf (n + 1 + N)) (.cons (.set 8 (.bin .Add (.bin .Add (.idx (.var 3) (.int 1)) (.bi .len (.cons (.own 4) .nil))) (.int 1))) (.cons (.app 4 (.tup (.cons (.var 6) (.cons (.var 5) (.cons (.var 1) (.cons (.bin .Mult (.var 2) (.var 5)) (.cons (.idx (.var 3) (.int 0)) .nil))))))) (.cons (.setO 4 (.bin .Add (.own 4) (.call 25 (.cons (.var 7) (.cons (.bin .Add (.var 1) (.int 1)) (.cons (.bin .Mult (.var 2) (.var 5)) (.cons (.tup (.cons (.var 8) (.cons (.var 8) .nil))) .nil))))))) .nil))))
      (fun ds env s' => ∃ (pr rs : List Nd) (e5 e6 e7 e8 : Sl), l = pr ++ rs ∧ ds = dNs rs ∧ env = [.val (.tup (dNs l)), .val (.int lv), .val (.int tm), .val (.tup [hD h, .int ((k : Int) - 1)]), .own ((rowsL pr lv tm h k).map Row.d), e5, e6, e7, e8] ∧ s' = s)
      (fun d ds env s' hp => by
        obtain ⟨pr, rs, e5, e6, e7, e8, h2, h3, h4, rfl⟩ := hp
        cases rs with
        | nil => cases h3
        | cons a rs =>
          cases h3
          subst h4
          have oa : NdOk a := ok a (by rw [h2, preL_append, preL_step]; exact List.mem_append_right _ (List.mem_cons_self ..))
          have sz : sizeL l = sizeL pr + (a.size + sizeL rs) := by rw [h2, sizeL_append]; rfl
          have sa := size_ps a
          have tb := tm_step h0 h1 oa.m1 oa.m2
          have mu : dBin .Mult (.int tm) (.int a.m) = some (.int (tm * a.m)) := q_mul _ _ (tm_abs h0 h1 (by omega)) (m_abs oa.m1 oa.m2)
          have i1 : ∀ s, dIdxS s (.tup [hD h, .int ((k : Int) - 1)]) (.int 1) = some (.int ((k : Int) - 1)) := fun s => rfl
          have i0 : ∀ s, dIdxS s (.tup [hD h, .int ((k : Int) - 1)]) (.int 0) = some (hD h) := fun s => rfl
          have len : ((rowsL pr lv tm h k).map Row.d).length = sizeL pr := by rw [List.length_map, rowsL_len]
          have ok1 : okL (sizeL pr + 1) = true := okL_of (by omega)
          have call := ih a.ps (lv + 1) (tm * a.m) (some (k + sizeL pr)) (k + sizeL pr + 1) (e + 1) (by omega) (by omega) (fun b hb => ok b (by rw [h2, preL_append, preL_step, preL_append]; exact List.mem_append_right _ (List.mem_cons_of_mem _ (List.mem_append_left _ hb)))) tb.1 tb.2 (by omega)
          have at_ : (k : Int) - 1 + (sizeL pr : Int) + 1 = ((k + sizeL pr : Nat) : Int) := by omega
          have at2 : (((k + sizeL pr + 1 : Nat) : Int) - 1) = ((k + sizeL pr : Nat) : Int) := by omega
          rw [at2] at call
          have fin : (rowsL pr lv tm h k).map Row.d ++ [D.tup [.str a.x, .int a.m, .int lv, .int (tm * a.m), hD h]] ++ (rowsL a.ps (lv + 1) (tm * a.m) (some (k + sizeL pr)) (k + sizeL pr + 1)).map Row.d = (rowsL (pr ++ [a]) lv tm h k).map Row.d := by
            rw [rowsL_append, List.map_append, rowsL_cons, rows_eq]
            simp only [List.cons_append, List.append_assoc, List.map_cons, List.map_append, List.nil_append, Row.d, show ∀ k, rowsL [] lv tm h k = [] from fun _ => rfl, List.map_nil, List.append_nil]
          have okA : ((rowsL pr lv tm h k).map Row.d ++ [D.tup [.str a.x, .int a.m, .int lv, .int (tm * a.m), hD h]]).length + ((rowsL a.ps (lv + 1) (tm * a.m) (some (k + sizeL pr)) (k + sizeL pr + 1)).map Row.d).length ≤ 16777216 := by
            rw [List.length_append, len, List.length_map, rowsL_len]
            show sizeL pr + 1 + _ ≤ _
            omega
          have call' : cf (n + 1 + N) 25 [.tup (dNs a.ps), .int (lv + 1), .int (tm * a.m), .tup [.int ((k + sizeL pr : Nat) : Int), .int ((k + sizeL pr : Nat) : Int)]] s' = _ := call
          refine ⟨[.val (.tup (dNs l)), .val (.int lv), .val (.int tm), .val (.tup [hD h, .int ((k : Int) - 1)]), .own ((rowsL pr lv tm h k).map Row.d), .val (.int a.m), .val (.str a.x), .val (.tup (dNs a.ps)), e8], [.val (.tup (dNs l)), .val (.int lv), .val (.int tm), .val (.tup [hD h, .int ((k : Int) - 1)]), .own ((rowsL (pr ++ [a]) lv tm h k).map Row.d), .val (.int a.m), .val (.str a.x), .val (.tup (dNs a.ps)), .val (.int ((k + sizeL pr : Nat) : Int))], s', ?_, ?_, ⟨pr ++ [a], rs, .val (.int a.m), .val (.str a.x), .val (.tup (dNs a.ps)), .val (.int ((k + sizeL pr : Nat) : Int)), by rw [h2, List.append_assoc]; rfl, rfl, rfl, rfl⟩⟩
          · rw [Nd.d_eq]
            simp only [b_tup, b_cons, b_name, b_nil, e_non, e_bl, e_int, e_str, e_var, e_own, e_cst, e_bin, e_neg, e_cmp, e_chn, e_one, e_and, e_or, e_not, e_ite, e_idx, e_sl, e_tup, e_lst, e_cel, e_call, e_callk, e_bi, e_mth, e_isi, e_len, e_lc, e_fmt, e_fs, e_att, e_mk, e_mkk, e_um, e_dic0, e_dget, e_rgt, es_nil, es_cons, fs_nil, fs_cons, ts_nil, ts_one, src_seq, src_rg1, src_rg2, src_rg3, src_enum, src_zip, src_rev, k_bin, k_bin2, k_neg, k_cmp, k_cmp2, k_chn, k_chn2, k_chn3, k_chn4, k_and1, k_and0, k_or1, k_or0, k_not, k_ite, k_ite1, k_ite0, k_idx, k_idx2, k_sl, k_opt, k_sl2, k_sl3, k_dget, k_dget2, k_rgt, k_tup, k_lst, k_lst5, k_cel, k_call, k_callk, k_callk2, k_bi, k_mth, k_mth1, k_mth2, k_isi, k_len, k_lc, k_lcF, k_lc2, k_lc3t, k_lc3f, k_some, k_fmt, k_fs, k_mk, k_mkk, k_mkk2, k_att, k_um, k_evs, k_cons, k_tru, k_items, k_rg1, k_rg2, k_rg2b, k_rg3, k_rg3b, k_rg3c, k_enumL, k_enumT, k_zip, k_zipTT, k_zipLL, k_zipLT, k_zipTL, k_rev, v_val, o_owd, o_own, l_some, x_ok, o_map, s_set, s_setO, s_par, s_asg, s_aug, s_app, s_seti, s_setd, s_sta, s_ex, s_ret, s_retN, s_ifs, s_lop, s_whl, s_brk, s_cnt, s_pas, s_thru, ss_nil, ss_cons, ss_frz, at_name, at_sub, at_tup, ats_nil, ats_cons, t_set, t_setO, t_par, t_par2, t_asg, t_aug, t_augA, t_augS, t_app, t_app2, t_seti, t_seti2, t_seti3, t_setd, t_setd2, t_setd3, t_sta, t_ex, t_ret, t_ifs, t_ifs1, t_ifs0, t_lop, t_ss, t_ssr, t_ssb, t_ssc, t_ats, t_frz, t_sub, t_thru, t_thrur, o_nxt, v_set0, v_setS, d_set0, d_setD, d_setL, o_bind, z_frz0, z_frzS, List.getElem?_cons_zero, List.getElem?_cons_succ]
          · simp only [e_non, e_bl, e_int, e_str, e_var, e_own, e_cst, e_bin, e_neg, e_cmp, e_chn, e_one, e_and, e_or, e_not, e_ite, e_idx, e_sl, e_tup, e_lst, e_cel, e_call, e_callk, e_bi, e_mth, e_isi, e_len, e_lc, e_fmt, e_fs, e_att, e_mk, e_mkk, e_um, e_dic0, e_dget, e_rgt, es_nil, es_cons, fs_nil, fs_cons, ts_nil, ts_one, src_seq, src_rg1, src_rg2, src_rg3, src_enum, src_zip, src_rev, k_bin, k_bin2, k_neg, k_cmp, k_cmp2, k_chn, k_chn2, k_chn3, k_chn4, k_and1, k_and0, k_or1, k_or0, k_not, k_ite, k_ite1, k_ite0, k_idx, k_idx2, k_sl, k_opt, k_sl2, k_sl3, k_dget, k_dget2, k_rgt, k_tup, k_lst, k_lst5, k_cel, k_call, k_callk, k_callk2, k_bi, k_mth, k_mth1, k_mth2, k_isi, k_len, k_lc, k_lcF, k_lc2, k_lc3t, k_lc3f, k_some, k_fmt, k_fs, k_mk, k_mkk, k_mkk2, k_att, k_um, k_evs, k_cons, k_tru, k_items, k_rg1, k_rg2, k_rg2b, k_rg3, k_rg3b, k_rg3c, k_enumL, k_enumT, k_zip, k_zipTT, k_zipLL, k_zipLT, k_zipTL, k_rev, v_val, o_owd, o_own, l_some, x_ok, o_map, s_set, s_setO, s_par, s_asg, s_aug, s_app, s_seti, s_setd, s_sta, s_ex, s_ret, s_retN, s_ifs, s_lop, s_whl, s_brk, s_cnt, s_pas, s_thru, ss_nil, ss_cons, ss_frz, at_name, at_sub, at_tup, ats_nil, ats_cons, t_set, t_setO, t_par, t_par2, t_asg, t_aug, t_augA, t_augS, t_app, t_app2, t_seti, t_seti2, t_seti3, t_setd, t_setd2, t_setd3, t_sta, t_ex, t_ret, t_ifs, t_ifs1, t_ifs0, t_lop, t_ss, t_ssr, t_ssb, t_ssc, t_ats, t_frz, t_sub, t_thru, t_thrur, o_nxt, v_set0, v_setS, d_set0, d_setD, d_setL, o_bind, z_frz0, z_frzS, List.getElem?_cons_zero, List.getElem?_cons_succ, i1, q_lenL, len, q_add, at_, mu, i0, ok1, List.set, call', q_addL _ _ okA, fin])
      (dNs l) [.val (.tup (dNs l)), .val (.int lv), .val (.int tm), .val (.tup [hD h, .int ((k : Int) - 1)]), .own [], .und, .und, .und, .und] s ⟨[], l, _, _, _, _, rfl, rfl, rfl, rfl⟩
    obtain ⟨env', s', e', pr, rs, e5, e6, e7, e8, h2, h3, h4, rfl⟩ := go
    cases rs with
    | cons a r => cases h3
    | nil =>
      rw [List.append_nil] at h2
      subst h2
      rw [e']
      subst h4
      simp only [e_non, e_bl, e_int, e_str, e_var, e_own, e_cst, e_bin, e_neg, e_cmp, e_chn, e_one, e_and, e_or, e_not, e_ite, e_idx, e_sl, e_tup, e_lst, e_cel, e_call, e_callk, e_bi, e_mth, e_isi, e_len, e_lc, e_fmt, e_fs, e_att, e_mk, e_mkk, e_um, e_dic0, e_dget, e_rgt, es_nil, es_cons, fs_nil, fs_cons, ts_nil, ts_one, src_seq, src_rg1, src_rg2, src_rg3, src_enum, src_zip, src_rev, k_bin, k_bin2, k_neg, k_cmp, k_cmp2, k_chn, k_chn2, k_chn3, k_chn4, k_and1, k_and0, k_or1, k_or0, k_not, k_ite, k_ite1, k_ite0, k_idx, k_idx2, k_sl, k_opt, k_sl2, k_sl3, k_dget, k_dget2, k_rgt, k_tup, k_lst, k_lst5, k_cel, k_call, k_callk, k_callk2, k_bi, k_mth, k_mth1, k_mth2, k_isi, k_len, k_lc, k_lcF, k_lc2, k_lc3t, k_lc3f, k_some, k_fmt, k_fs, k_mk, k_mkk, k_mkk2, k_att, k_um, k_evs, k_cons, k_tru, k_items, k_rg1, k_rg2, k_rg2b, k_rg3, k_rg3b, k_rg3c, k_enumL, k_enumT, k_zip, k_zipTT, k_zipLL, k_zipLT, k_zipTL, k_rev, v_val, o_owd, o_own, l_some, x_ok, o_map, s_set, s_setO, s_par, s_asg, s_aug, s_app, s_seti, s_setd, s_sta, s_ex, s_ret, s_retN, s_ifs, s_lop, s_whl, s_brk, s_cnt, s_pas, s_thru, ss_nil, ss_cons, ss_frz, at_name, at_sub, at_tup, ats_nil, ats_cons, t_set, t_setO, t_par, t_par2, t_asg, t_aug, t_augA, t_augS, t_app, t_app2, t_seti, t_seti2, t_seti3, t_setd, t_setd2, t_setd3, t_sta, t_ex, t_ret, t_ifs, t_ifs1, t_ifs0, t_lop, t_ss, t_ssr, t_ssb, t_ssc, t_ats, t_frz, t_sub, t_thru, t_thrur, o_nxt, v_set0, v_setS, d_set0, d_setD, d_setL, o_bind, z_frz0, z_frzS, List.getElem?_cons_zero, List.getElem?_cons_succ, r_ret]
theorem all_kinds_ok (n : Nat) (l : List Nd) (s : Sto) (w : WOk l) : cf (n + 22) 14 [.tup (dNs l)] s = .ok (.lst ((kinds l).map Row.d)) s := by
  rw [u14]
  have e := kinds_of_ok n s 20 l 1 1 none 0 0 w.sz (by decide) w.ok (by decide) (by decide) (by have := w.sz; omega)
  have e' : cf (n + 21) 25 [.tup (dNs l), .int 1, .int 1, .tup [.non, .int (-1)]] s = .ok (.lst ((rowsL l 1 1 none 0).map Row.d)) s := by
    have z : n + 1 + 20 = n + 21 := by omega
    rw [z] at e
    exact e
  simp only [B14, e_non, e_bl, e_int, e_str, e_var, e_own, e_cst, e_bin, e_neg, e_cmp, e_chn, e_one, e_and, e_or, e_not, e_ite, e_idx, e_sl, e_tup, e_lst, e_cel, e_call, e_callk, e_bi, e_mth, e_isi, e_len, e_lc, e_fmt, e_fs, e_att, e_mk, e_mkk, e_um, e_dic0, e_dget, e_rgt, es_nil, es_cons, fs_nil, fs_cons, ts_nil, ts_one, src_seq, src_rg1, src_rg2, src_rg3, src_enum, src_zip, src_rev, k_bin, k_bin2, k_neg, k_cmp, k_cmp2, k_chn, k_chn2, k_chn3, k_chn4, k_and1, k_and0, k_or1, k_or0, k_not, k_ite, k_ite1, k_ite0, k_idx, k_idx2, k_sl, k_opt, k_sl2, k_sl3, k_dget, k_dget2, k_rgt, k_tup, k_lst, k_lst5, k_cel, k_call, k_callk, k_callk2, k_bi, k_mth, k_mth1, k_mth2, k_isi, k_len, k_lc, k_lcF, k_lc2, k_lc3t, k_lc3f, k_some, k_fmt, k_fs, k_mk, k_mkk, k_mkk2, k_att, k_um, k_evs, k_cons, k_tru, k_items, k_rg1, k_rg2, k_rg2b, k_rg3, k_rg3b, k_rg3c, k_enumL, k_enumT, k_zip, k_zipTT, k_zipLL, k_zipLT, k_zipTL, k_rev, v_val, o_owd, o_own, l_some, x_ok, o_map, s_set, s_setO, s_par, s_asg, s_aug, s_app, s_seti, s_setd, s_sta, s_ex, s_ret, s_retN, s_ifs, s_lop, s_whl, s_brk, s_cnt, s_pas, s_thru, ss_nil, ss_cons, ss_frz, at_name, at_sub, at_tup, ats_nil, ats_cons, t_set, t_setO, t_par, t_par2, t_asg, t_aug, t_augA, t_augS, t_app, t_app2, t_seti, t_seti2, t_seti3, t_setd, t_setd2, t_setd3, t_sta, t_ex, t_ret, t_ifs, t_ifs1, t_ifs0, t_lop, t_ss, t_ssr, t_ssb, t_ssc, t_ats, t_frz, t_sub, t_thru, t_thrur, o_nxt, v_set0, v_setS, d_set0, d_setD, d_setL, o_bind, z_frz0, z_frzS, List.getElem?_cons_zero, List.getElem?_cons_succ, e', r_ret]
  rfl
/-- the cell of a Work -/
def wkC (l : List Nd) : Cell := .ins 0 [("trunks", .tup (dNs l)), ("rows", .tup ((kinds l).map Row.d))]
theorem ins_of {s : Sto} {n k : Nat} {fs : List (Str × D)} (h : s[n]? = some (.ins k fs)) : insOf s (.ref n) = some (n, k, fs) := by
  show (match s[n]? with
    | some (.ins c fs) => some (n, c, fs)
    | _ => none) = _
  rw [h]
theorem t_sta2 {G : Gt} {f : Str} {env : Lv.Env} {d : D} {s : Sto} {n k : Nat} {fs : List (Str × D)} (h : s[n]? = some (.ins k fs)) (hf : G.att k f = some .fld) (hl : fs.length < 999) : (R.ok (.ref n) s).st env (kSta2 G f env d) = .nxt env (s.set n (.ins k (putD f d fs))) := by
  show (match insOf s (.ref n) with
    | some (n, k, fs) => (match G.att k f with
      | some .fld => if fs.length < 999 then RS.nxt env (s.set n (.ins k (putD f d fs))) else .stk
      | _ => .stk)
    | none => .stk) = _
  rw [ins_of h]
  show (match G.att k f with
      | some .fld => if fs.length < 999 then RS.nxt env (s.set n (.ins k (putD f d fs))) else .stk
      | _ => .stk) = _
  rw [hf]
  exact if_pos hl
theorem set_last (s : Sto) (a b : Cell) : (s ++ [a]).set s.length b = s ++ [b] := by
  rw [List.set_append_right _ _ (Nat.le_refl _), Nat.sub_self]; rfl
theorem get_last (s : Sto) (a : Cell) : (s ++ [a])[s.length]? = some a := by
  rw [List.getElem?_append_right (Nat.le_refl _), Nat.sub_self]; rfl
theorem init_ok (n : Nat) (l : List Nd) (s : Sto) (w : WOk l) : cf (n + 23) 8 [.ref s.length, .tup (dNs l)] (s ++ [.ins 0 []]) = .ok .non (s ++ [wkC l]) := by
  rw [u8]
  have eq0 : dEq (.tup []) (.tup []) = some true := rfl
  have ln : ((kinds l).map Row.d).length ≤ 16777216 := by
    rw [List.length_map]
    unfold kinds
    rw [rowsL_len]
    have := w.sz
    omega
  have ok : okL ((kinds l).map Row.d).length = true := okL_of ln
  have sm : ¬ (10 : Int) ^ 60 < ((kinds l).map Row.total).sum := by have := w.tot; omega
  have su := q_sumL Row.total (kinds l)
  simp only [B8, e_non, e_bl, e_int, e_str, e_var, e_own, e_cst, e_bin, e_neg, e_cmp, e_chn, e_one, e_and, e_or, e_not, e_ite, e_idx, e_sl, e_tup, e_lst, e_cel, e_call, e_callk, e_bi, e_mth, e_isi, e_len, e_lc, e_fmt, e_fs, e_att, e_mk, e_mkk, e_um, e_dic0, e_dget, e_rgt, es_nil, es_cons, fs_nil, fs_cons, ts_nil, ts_one, src_seq, src_rg1, src_rg2, src_rg3, src_enum, src_zip, src_rev, k_bin, k_bin2, k_neg, k_cmp, k_cmp2, k_chn, k_chn2, k_chn3, k_chn4, k_and1, k_and0, k_or1, k_or0, k_not, k_ite, k_ite1, k_ite0, k_idx, k_idx2, k_sl, k_opt, k_sl2, k_sl3, k_dget, k_dget2, k_rgt, k_tup, k_lst, k_lst5, k_cel, k_call, k_callk, k_callk2, k_bi, k_mth, k_mth1, k_mth2, k_isi, k_len, k_lc, k_lcF, k_lc2, k_lc3t, k_lc3f, k_some, k_fmt, k_fs, k_mk, k_mkk, k_mkk2, k_att, k_um, k_evs, k_cons, k_tru, k_items, k_rg1, k_rg2, k_rg2b, k_rg3, k_rg3b, k_rg3c, k_enumL, k_enumT, k_zip, k_zipTT, k_zipLL, k_zipLT, k_zipTL, k_rev, v_val, o_owd, o_own, l_some, x_ok, o_map, s_set, s_setO, s_par, s_asg, s_aug, s_app, s_seti, s_setd, s_sta, s_ex, s_ret, s_retN, s_ifs, s_lop, s_whl, s_brk, s_cnt, s_pas, s_thru, ss_nil, ss_cons, ss_frz, at_name, at_sub, at_tup, ats_nil, ats_cons, t_set, t_setO, t_par, t_par2, t_asg, t_aug, t_augA, t_augS, t_app, t_app2, t_seti, t_seti2, t_seti3, t_setd, t_setd2, t_setd3, t_sta, t_ex, t_ret, t_ifs, t_ifs1, t_ifs0, t_lop, t_ss, t_ssr, t_ssb, t_ssc, t_ats, t_frz, t_sub, t_thru, t_thrur, o_nxt, v_set0, v_setS, d_set0, d_setD, d_setL, o_bind, z_frz0, z_frzS, List.getElem?_cons_zero, List.getElem?_cons_succ, wrong_node_ok _ l _ w, q_ne, eq0, Bool.not_true, q_tb, all_kinds_ok _ l _ w, q_tupL, q_itT]
  rw [k_lc _ _ _ _ _ ok, lc_map Row.d (fun r => D.int r.total) (kinds l) fun b _ => by
    have ib : ∀ s, dIdxS s b.d (.int 3) = some (.int b.total) := fun s => rfl
    simp only [e_non, e_bl, e_int, e_str, e_var, e_own, e_cst, e_bin, e_neg, e_cmp, e_chn, e_one, e_and, e_or, e_not, e_ite, e_idx, e_sl, e_tup, e_lst, e_cel, e_call, e_callk, e_bi, e_mth, e_isi, e_len, e_lc, e_fmt, e_fs, e_att, e_mk, e_mkk, e_um, e_dic0, e_dget, e_rgt, es_nil, es_cons, fs_nil, fs_cons, ts_nil, ts_one, src_seq, src_rg1, src_rg2, src_rg3, src_enum, src_zip, src_rev, k_bin, k_bin2, k_neg, k_cmp, k_cmp2, k_chn, k_chn2, k_chn3, k_chn4, k_and1, k_and0, k_or1, k_or0, k_not, k_ite, k_ite1, k_ite0, k_idx, k_idx2, k_sl, k_opt, k_sl2, k_sl3, k_dget, k_dget2, k_rgt, k_tup, k_lst, k_lst5, k_cel, k_call, k_callk, k_callk2, k_bi, k_mth, k_mth1, k_mth2, k_isi, k_len, k_lc, k_lcF, k_lc2, k_lc3t, k_lc3f, k_some, k_fmt, k_fs, k_mk, k_mkk, k_mkk2, k_att, k_um, k_evs, k_cons, k_tru, k_items, k_rg1, k_rg2, k_rg2b, k_rg3, k_rg3b, k_rg3c, k_enumL, k_enumT, k_zip, k_zipTT, k_zipLL, k_zipLT, k_zipTL, k_rev, v_val, o_owd, o_own, l_some, x_ok, o_map, s_set, s_setO, s_par, s_asg, s_aug, s_app, s_seti, s_setd, s_sta, s_ex, s_ret, s_retN, s_ifs, s_lop, s_whl, s_brk, s_cnt, s_pas, s_thru, ss_nil, ss_cons, ss_frz, at_name, at_sub, at_tup, ats_nil, ats_cons, t_set, t_setO, t_par, t_par2, t_asg, t_aug, t_augA, t_augS, t_app, t_app2, t_seti, t_seti2, t_seti3, t_setd, t_setd2, t_setd3, t_sta, t_ex, t_ret, t_ifs, t_ifs1, t_ifs0, t_lop, t_ss, t_ssr, t_ssb, t_ssc, t_ats, t_frz, t_sub, t_thru, t_thrur, o_nxt, v_set0, v_setS, d_set0, d_setD, d_setL, o_bind, z_frz0, z_frzS, List.getElem?_cons_zero, List.getElem?_cons_succ, wipeE, List.set, b_name, ib]]
  simp only [e_non, e_bl, e_int, e_str, e_var, e_own, e_cst, e_bin, e_neg, e_cmp, e_chn, e_one, e_and, e_or, e_not, e_ite, e_idx, e_sl, e_tup, e_lst, e_cel, e_call, e_callk, e_bi, e_mth, e_isi, e_len, e_lc, e_fmt, e_fs, e_att, e_mk, e_mkk, e_um, e_dic0, e_dget, e_rgt, es_nil, es_cons, fs_nil, fs_cons, ts_nil, ts_one, src_seq, src_rg1, src_rg2, src_rg3, src_enum, src_zip, src_rev, k_bin, k_bin2, k_neg, k_cmp, k_cmp2, k_chn, k_chn2, k_chn3, k_chn4, k_and1, k_and0, k_or1, k_or0, k_not, k_ite, k_ite1, k_ite0, k_idx, k_idx2, k_sl, k_opt, k_sl2, k_sl3, k_dget, k_dget2, k_rgt, k_tup, k_lst, k_lst5, k_cel, k_call, k_callk, k_callk2, k_bi, k_mth, k_mth1, k_mth2, k_isi, k_len, k_lc, k_lcF, k_lc2, k_lc3t, k_lc3f, k_some, k_fmt, k_fs, k_mk, k_mkk, k_mkk2, k_att, k_um, k_evs, k_cons, k_tru, k_items, k_rg1, k_rg2, k_rg2b, k_rg3, k_rg3b, k_rg3c, k_enumL, k_enumT, k_zip, k_zipTT, k_zipLL, k_zipLT, k_zipTL, k_rev, v_val, o_owd, o_own, l_some, x_ok, o_map, s_set, s_setO, s_par, s_asg, s_aug, s_app, s_seti, s_setd, s_sta, s_ex, s_ret, s_retN, s_ifs, s_lop, s_whl, s_brk, s_cnt, s_pas, s_thru, ss_nil, ss_cons, ss_frz, at_name, at_sub, at_tup, ats_nil, ats_cons, t_set, t_setO, t_par, t_par2, t_asg, t_aug, t_augA, t_augS, t_app, t_app2, t_seti, t_seti2, t_seti3, t_setd, t_setd2, t_setd3, t_sta, t_ex, t_ret, t_ifs, t_ifs1, t_ifs0, t_lop, t_ss, t_ssr, t_ssb, t_ssc, t_ats, t_frz, t_sub, t_thru, t_thrur, o_nxt, v_set0, v_setS, d_set0, d_setD, d_setL, o_bind, z_frz0, z_frzS, List.getElem?_cons_zero, List.getElem?_cons_succ, su, cst_pieces, q_gt, sm, decide_false, q_tb]
  rw [t_sta2 (get_last s _) rfl (by decide), set_last]
  simp only [e_non, e_bl, e_int, e_str, e_var, e_own, e_cst, e_bin, e_neg, e_cmp, e_chn, e_one, e_and, e_or, e_not, e_ite, e_idx, e_sl, e_tup, e_lst, e_cel, e_call, e_callk, e_bi, e_mth, e_isi, e_len, e_lc, e_fmt, e_fs, e_att, e_mk, e_mkk, e_um, e_dic0, e_dget, e_rgt, es_nil, es_cons, fs_nil, fs_cons, ts_nil, ts_one, src_seq, src_rg1, src_rg2, src_rg3, src_enum, src_zip, src_rev, k_bin, k_bin2, k_neg, k_cmp, k_cmp2, k_chn, k_chn2, k_chn3, k_chn4, k_and1, k_and0, k_or1, k_or0, k_not, k_ite, k_ite1, k_ite0, k_idx, k_idx2, k_sl, k_opt, k_sl2, k_sl3, k_dget, k_dget2, k_rgt, k_tup, k_lst, k_lst5, k_cel, k_call, k_callk, k_callk2, k_bi, k_mth, k_mth1, k_mth2, k_isi, k_len, k_lc, k_lcF, k_lc2, k_lc3t, k_lc3f, k_some, k_fmt, k_fs, k_mk, k_mkk, k_mkk2, k_att, k_um, k_evs, k_cons, k_tru, k_items, k_rg1, k_rg2, k_rg2b, k_rg3, k_rg3b, k_rg3c, k_enumL, k_enumT, k_zip, k_zipTT, k_zipLL, k_zipLT, k_zipTL, k_rev, v_val, o_owd, o_own, l_some, x_ok, o_map, s_set, s_setO, s_par, s_asg, s_aug, s_app, s_seti, s_setd, s_sta, s_ex, s_ret, s_retN, s_ifs, s_lop, s_whl, s_brk, s_cnt, s_pas, s_thru, ss_nil, ss_cons, ss_frz, at_name, at_sub, at_tup, ats_nil, ats_cons, t_set, t_setO, t_par, t_par2, t_asg, t_aug, t_augA, t_augS, t_app, t_app2, t_seti, t_seti2, t_seti3, t_setd, t_setd2, t_setd3, t_sta, t_ex, t_ret, t_ifs, t_ifs1, t_ifs0, t_lop, t_ss, t_ssr, t_ssb, t_ssc, t_ats, t_frz, t_sub, t_thru, t_thrur, o_nxt, v_set0, v_setS, d_set0, d_setD, d_setL, o_bind, z_frz0, z_frzS, List.getElem?_cons_zero, List.getElem?_cons_succ]
  rw [t_sta2 (get_last s _) rfl (by show 1 < 999; decide), set_last]
  simp only [e_non, e_bl, e_int, e_str, e_var, e_own, e_cst, e_bin, e_neg, e_cmp, e_chn, e_one, e_and, e_or, e_not, e_ite, e_idx, e_sl, e_tup, e_lst, e_cel, e_call, e_callk, e_bi, e_mth, e_isi, e_len, e_lc, e_fmt, e_fs, e_att, e_mk, e_mkk, e_um, e_dic0, e_dget, e_rgt, es_nil, es_cons, fs_nil, fs_cons, ts_nil, ts_one, src_seq, src_rg1, src_rg2, src_rg3, src_enum, src_zip, src_rev, k_bin, k_bin2, k_neg, k_cmp, k_cmp2, k_chn, k_chn2, k_chn3, k_chn4, k_and1, k_and0, k_or1, k_or0, k_not, k_ite, k_ite1, k_ite0, k_idx, k_idx2, k_sl, k_opt, k_sl2, k_sl3, k_dget, k_dget2, k_rgt, k_tup, k_lst, k_lst5, k_cel, k_call, k_callk, k_callk2, k_bi, k_mth, k_mth1, k_mth2, k_isi, k_len, k_lc, k_lcF, k_lc2, k_lc3t, k_lc3f, k_some, k_fmt, k_fs, k_mk, k_mkk, k_mkk2, k_att, k_um, k_evs, k_cons, k_tru, k_items, k_rg1, k_rg2, k_rg2b, k_rg3, k_rg3b, k_rg3c, k_enumL, k_enumT, k_zip, k_zipTT, k_zipLL, k_zipLT, k_zipTL, k_rev, v_val, o_owd, o_own, l_some, x_ok, o_map, s_set, s_setO, s_par, s_asg, s_aug, s_app, s_seti, s_setd, s_sta, s_ex, s_ret, s_retN, s_ifs, s_lop, s_whl, s_brk, s_cnt, s_pas, s_thru, ss_nil, ss_cons, ss_frz, at_name, at_sub, at_tup, ats_nil, ats_cons, t_set, t_setO, t_par, t_par2, t_asg, t_aug, t_augA, t_augS, t_app, t_app2, t_seti, t_seti2, t_seti3, t_setd, t_setd2, t_setd3, t_sta, t_ex, t_ret, t_ifs, t_ifs1, t_ifs0, t_lop, t_ss, t_ssr, t_ssb, t_ssc, t_ats, t_frz, t_sub, t_thru, t_thrur, o_nxt, v_set0, v_setS, d_set0, d_setD, d_setL, o_bind, z_frz0, z_frzS, List.getElem?_cons_zero, List.getElem?_cons_succ, r_nxt]
  rfl
theorem mk_ok (n : Nat) (l : List Nd) (s : Sto) (w : WOk l) : mf (n + 23) 0 [.tup (dNs l)] s = .ok (.ref s.length) (s ++ [wkC l]) := by
  have e := init_ok n l s w
  show mkF G0 (cf (n + 23)) 0 [.tup (dNs l)] s = _
  unfold mkF
  have g : G0.ini 0 = some (8, 2) := rfl
  rw [g]
  show (cf (n + 23) 8 [.ref s.length, .tup (dNs l)] (s ++ [.ins 0 []])).bind _ = _
  rw [e]
  rfl
end Lk16
set_option Elab.async false
set_option linter.all false
set_option maxRecDepth 100000
set_option maxHeartbeats 1000000
/-! a Work's attributes; hours; states -/
namespace Lk16
open Lv PySem
/-- there is a Work at r -/
def WkAt (s : Sto) (r : Nat) (l : List Nd) : Prop := s[r]? = some (wkC l)
theorem i_wk {s : Sto} {r : Nat} {l : List Nd} (h : WkAt s r l) : dIsi G0.ncl (.cls 0) s (.ref r) = some true := by
  show (if tyOk 1 (.cls 0) then (match s[r]? with
    | some (.lst _) => some (subT "list" (.cls 0))
    | some (.ins c _) => if c < 1 then some (decide (Ty.cls 0 = .cls c)) else none
    | none => none) else none) = _
  rw [h]
  rfl
theorem att_rows {c : Lv.CF} {s : Sto} {r : Nat} {l : List Nd} (h : WkAt s r l) : cAtt G0 c "rows" (.ref r) s (insOf s (.ref r)) = .ok (.tup ((kinds l).map Row.d)) s := by
  rw [ins_of h]
  rfl
theorem att_trunks {c : Lv.CF} {s : Sto} {r : Nat} {l : List Nd} (h : WkAt s r l) : cAtt G0 c "trunks" (.ref r) s (insOf s (.ref r)) = .ok (.tup (dNs l)) s := by
  rw [ins_of h]
  rfl
theorem rows_ok {l : List Nd} (w : WOk l) : (kinds l).length ≤ 20 := by
  unfold kinds
  rw [rowsL_len]
  exact w.sz
theorem okK {l : List Nd} (w : WOk l) : okL ((kinds l).map Row.d).length = true := okL_of (by
  rw [List.length_map]
  have := rows_ok w
  omega)
theorem kinds_prop (n : Nat) {s : Sto} {r : Nat} {l : List Nd} (h : WkAt s r l) : cf (n + 1) 32 [.ref r] s = .ok (.tup ((kinds l).map Row.d)) s := by
  rw [u32]
  simp only [B32, e_non, e_bl, e_int, e_str, e_var, e_own, e_cst, e_bin, e_neg, e_cmp, e_chn, e_one, e_and, e_or, e_not, e_ite, e_idx, e_sl, e_tup, e_lst, e_cel, e_call, e_callk, e_bi, e_mth, e_isi, e_len, e_lc, e_fmt, e_fs, e_att, e_mk, e_mkk, e_um, e_dic0, e_dget, e_rgt, es_nil, es_cons, fs_nil, fs_cons, ts_nil, ts_one, src_seq, src_rg1, src_rg2, src_rg3, src_enum, src_zip, src_rev, k_bin, k_bin2, k_neg, k_cmp, k_cmp2, k_chn, k_chn2, k_chn3, k_chn4, k_and1, k_and0, k_or1, k_or0, k_not, k_ite, k_ite1, k_ite0, k_idx, k_idx2, k_sl, k_opt, k_sl2, k_sl3, k_dget, k_dget2, k_rgt, k_tup, k_lst, k_lst5, k_cel, k_call, k_callk, k_callk2, k_bi, k_mth, k_mth1, k_mth2, k_isi, k_len, k_lc, k_lcF, k_lc2, k_lc3t, k_lc3f, k_some, k_fmt, k_fs, k_mk, k_mkk, k_mkk2, k_att, k_um, k_evs, k_cons, k_tru, k_items, k_rg1, k_rg2, k_rg2b, k_rg3, k_rg3b, k_rg3c, k_enumL, k_enumT, k_zip, k_zipTT, k_zipLL, k_zipLT, k_zipTL, k_rev, v_val, o_owd, o_own, l_some, x_ok, o_map, s_set, s_setO, s_par, s_asg, s_aug, s_app, s_seti, s_setd, s_sta, s_ex, s_ret, s_retN, s_ifs, s_lop, s_whl, s_brk, s_cnt, s_pas, s_thru, ss_nil, ss_cons, ss_frz, at_name, at_sub, at_tup, ats_nil, ats_cons, t_set, t_setO, t_par, t_par2, t_asg, t_aug, t_augA, t_augS, t_app, t_app2, t_seti, t_seti2, t_seti3, t_setd, t_setd2, t_setd3, t_sta, t_ex, t_ret, t_ifs, t_ifs1, t_ifs0, t_lop, t_ss, t_ssr, t_ssb, t_ssc, t_ats, t_frz, t_sub, t_thru, t_thrur, o_nxt, v_set0, v_setS, d_set0, d_setD, d_setL, o_bind, z_frz0, z_frzS, List.getElem?_cons_zero, List.getElem?_cons_succ, att_rows h, r_ret]
theorem totals_prop (n : Nat) {s : Sto} {r : Nat} {l : List Nd} (w : WOk l) (h : WkAt s r l) : cf (n + 1) 31 [.ref r] s = .ok (.tup ((kinds l).map fun k => .int k.total)) s := by
  rw [u31]
  simp only [B31, e_non, e_bl, e_int, e_str, e_var, e_own, e_cst, e_bin, e_neg, e_cmp, e_chn, e_one, e_and, e_or, e_not, e_ite, e_idx, e_sl, e_tup, e_lst, e_cel, e_call, e_callk, e_bi, e_mth, e_isi, e_len, e_lc, e_fmt, e_fs, e_att, e_mk, e_mkk, e_um, e_dic0, e_dget, e_rgt, es_nil, es_cons, fs_nil, fs_cons, ts_nil, ts_one, src_seq, src_rg1, src_rg2, src_rg3, src_enum, src_zip, src_rev, k_bin, k_bin2, k_neg, k_cmp, k_cmp2, k_chn, k_chn2, k_chn3, k_chn4, k_and1, k_and0, k_or1, k_or0, k_not, k_ite, k_ite1, k_ite0, k_idx, k_idx2, k_sl, k_opt, k_sl2, k_sl3, k_dget, k_dget2, k_rgt, k_tup, k_lst, k_lst5, k_cel, k_call, k_callk, k_callk2, k_bi, k_mth, k_mth1, k_mth2, k_isi, k_len, k_lc, k_lcF, k_lc2, k_lc3t, k_lc3f, k_some, k_fmt, k_fs, k_mk, k_mkk, k_mkk2, k_att, k_um, k_evs, k_cons, k_tru, k_items, k_rg1, k_rg2, k_rg2b, k_rg3, k_rg3b, k_rg3c, k_enumL, k_enumT, k_zip, k_zipTT, k_zipLL, k_zipLT, k_zipTL, k_rev, v_val, o_owd, o_own, l_some, x_ok, o_map, s_set, s_setO, s_par, s_asg, s_aug, s_app, s_seti, s_setd, s_sta, s_ex, s_ret, s_retN, s_ifs, s_lop, s_whl, s_brk, s_cnt, s_pas, s_thru, ss_nil, ss_cons, ss_frz, at_name, at_sub, at_tup, ats_nil, ats_cons, t_set, t_setO, t_par, t_par2, t_asg, t_aug, t_augA, t_augS, t_app, t_app2, t_seti, t_seti2, t_seti3, t_setd, t_setd2, t_setd3, t_sta, t_ex, t_ret, t_ifs, t_ifs1, t_ifs0, t_lop, t_ss, t_ssr, t_ssb, t_ssc, t_ats, t_frz, t_sub, t_thru, t_thrur, o_nxt, v_set0, v_setS, d_set0, d_setD, d_setL, o_bind, z_frz0, z_frzS, List.getElem?_cons_zero, List.getElem?_cons_succ, att_rows h, q_itT]
  rw [k_lc _ _ _ _ _ (okK w), lc_map Row.d (fun r => D.int r.total) (kinds l) fun b _ => by
    have ib : ∀ s, dIdxS s b.d (.int 3) = some (.int b.total) := fun s => rfl
    simp only [e_non, e_bl, e_int, e_str, e_var, e_own, e_cst, e_bin, e_neg, e_cmp, e_chn, e_one, e_and, e_or, e_not, e_ite, e_idx, e_sl, e_tup, e_lst, e_cel, e_call, e_callk, e_bi, e_mth, e_isi, e_len, e_lc, e_fmt, e_fs, e_att, e_mk, e_mkk, e_um, e_dic0, e_dget, e_rgt, es_nil, es_cons, fs_nil, fs_cons, ts_nil, ts_one, src_seq, src_rg1, src_rg2, src_rg3, src_enum, src_zip, src_rev, k_bin, k_bin2, k_neg, k_cmp, k_cmp2, k_chn, k_chn2, k_chn3, k_chn4, k_and1, k_and0, k_or1, k_or0, k_not, k_ite, k_ite1, k_ite0, k_idx, k_idx2, k_sl, k_opt, k_sl2, k_sl3, k_dget, k_dget2, k_rgt, k_tup, k_lst, k_lst5, k_cel, k_call, k_callk, k_callk2, k_bi, k_mth, k_mth1, k_mth2, k_isi, k_len, k_lc, k_lcF, k_lc2, k_lc3t, k_lc3f, k_some, k_fmt, k_fs, k_mk, k_mkk, k_mkk2, k_att, k_um, k_evs, k_cons, k_tru, k_items, k_rg1, k_rg2, k_rg2b, k_rg3, k_rg3b, k_rg3c, k_enumL, k_enumT, k_zip, k_zipTT, k_zipLL, k_zipLT, k_zipTL, k_rev, v_val, o_owd, o_own, l_some, x_ok, o_map, s_set, s_setO, s_par, s_asg, s_aug, s_app, s_seti, s_setd, s_sta, s_ex, s_ret, s_retN, s_ifs, s_lop, s_whl, s_brk, s_cnt, s_pas, s_thru, ss_nil, ss_cons, ss_frz, at_name, at_sub, at_tup, ats_nil, ats_cons, t_set, t_setO, t_par, t_par2, t_asg, t_aug, t_augA, t_augS, t_app, t_app2, t_seti, t_seti2, t_seti3, t_setd, t_setd2, t_setd3, t_sta, t_ex, t_ret, t_ifs, t_ifs1, t_ifs0, t_lop, t_ss, t_ssr, t_ssb, t_ssc, t_ats, t_frz, t_sub, t_thru, t_thrur, o_nxt, v_set0, v_setS, d_set0, d_setD, d_setL, o_bind, z_frz0, z_frzS, List.getElem?_cons_zero, List.getElem?_cons_succ, wipeE, List.set, b_name, ib]]
  simp only [e_non, e_bl, e_int, e_str, e_var, e_own, e_cst, e_bin, e_neg, e_cmp, e_chn, e_one, e_and, e_or, e_not, e_ite, e_idx, e_sl, e_tup, e_lst, e_cel, e_call, e_callk, e_bi, e_mth, e_isi, e_len, e_lc, e_fmt, e_fs, e_att, e_mk, e_mkk, e_um, e_dic0, e_dget, e_rgt, es_nil, es_cons, fs_nil, fs_cons, ts_nil, ts_one, src_seq, src_rg1, src_rg2, src_rg3, src_enum, src_zip, src_rev, k_bin, k_bin2, k_neg, k_cmp, k_cmp2, k_chn, k_chn2, k_chn3, k_chn4, k_and1, k_and0, k_or1, k_or0, k_not, k_ite, k_ite1, k_ite0, k_idx, k_idx2, k_sl, k_opt, k_sl2, k_sl3, k_dget, k_dget2, k_rgt, k_tup, k_lst, k_lst5, k_cel, k_call, k_callk, k_callk2, k_bi, k_mth, k_mth1, k_mth2, k_isi, k_len, k_lc, k_lcF, k_lc2, k_lc3t, k_lc3f, k_some, k_fmt, k_fs, k_mk, k_mkk, k_mkk2, k_att, k_um, k_evs, k_cons, k_tru, k_items, k_rg1, k_rg2, k_rg2b, k_rg3, k_rg3b, k_rg3c, k_enumL, k_enumT, k_zip, k_zipTT, k_zipLL, k_zipLT, k_zipTL, k_rev, v_val, o_owd, o_own, l_some, x_ok, o_map, s_set, s_setO, s_par, s_asg, s_aug, s_app, s_seti, s_setd, s_sta, s_ex, s_ret, s_retN, s_ifs, s_lop, s_whl, s_brk, s_cnt, s_pas, s_thru, ss_nil, ss_cons, ss_frz, at_name, at_sub, at_tup, ats_nil, ats_cons, t_set, t_setO, t_par, t_par2, t_asg, t_aug, t_augA, t_augS, t_app, t_app2, t_seti, t_seti2, t_seti3, t_setd, t_setd2, t_setd3, t_sta, t_ex, t_ret, t_ifs, t_ifs1, t_ifs0, t_lop, t_ss, t_ssr, t_ssb, t_ssc, t_ats, t_frz, t_sub, t_thru, t_thrur, o_nxt, v_set0, v_setS, d_set0, d_setD, d_setL, o_bind, z_frz0, z_frzS, List.getElem?_cons_zero, List.getElem?_cons_succ, q_tupL, r_ret]
theorem att_kinds {n : Nat} {s : Sto} {r : Nat} {l : List Nd} (h : WkAt s r l) : cAtt G0 (cf (n + 1)) "kinds" (.ref r) s (insOf s (.ref r)) = .ok (.tup ((kinds l).map Row.d)) s := by
  rw [ins_of h]
  show (cf (n + 1) 32 [.ref r] s).noX = _
  rw [kinds_prop n h]; rfl
theorem att_totals {n : Nat} {s : Sto} {r : Nat} {l : List Nd} (w : WOk l) (h : WkAt s r l) : cAtt G0 (cf (n + 1)) "totals" (.ref r) s (insOf s (.ref r)) = .ok (.tup ((kinds l).map fun k => .int k.total)) s := by
  rw [ins_of h]
  show (cf (n + 1) 31 [.ref r] s).noX = _
  rw [totals_prop n w h]; rfl
theorem len_call {G : Gt} {c : Lv.CF} {d : D} {s : Sto} {n k f : Nat} {fs : List (Str × D)} {j : Int} (h : insOf s d = some (n, k, fs)) (hm : G.mth k "__len__" = some (f, 1)) (e : c f [d] s = .ok (.int j) s) (h0 : 0 ≤ j) (h1 : j < 2 ^ 63) : lenK G c d s = .ok (.int j) s := by
  unfold lenK
  rw [h]
  dsimp only
  rw [hm]
  dsimp only
  rw [if_pos rfl, e]
  have z : 0 ≤ j ∧ j < 2 ^ 63 := ⟨h0, h1⟩
  show (if 0 ≤ j ∧ j < 2 ^ 63 then R.ok (D.int j) s else R.stk) = _
  rw [if_pos z]
theorem len_ok (n : Nat) {s : Sto} {r : Nat} {l : List Nd} (w : WOk l) (h : WkAt s r l) : lenK G0 (cf (n + 1)) (.ref r) s = .ok (.int ((kinds l).length : Int)) s := by
  have e : cf (n + 1) 38 [.ref r] s = .ok (.int ((kinds l).length : Int)) s := by
    rw [u38]
    simp only [B38, e_non, e_bl, e_int, e_str, e_var, e_own, e_cst, e_bin, e_neg, e_cmp, e_chn, e_one, e_and, e_or, e_not, e_ite, e_idx, e_sl, e_tup, e_lst, e_cel, e_call, e_callk, e_bi, e_mth, e_isi, e_len, e_lc, e_fmt, e_fs, e_att, e_mk, e_mkk, e_um, e_dic0, e_dget, e_rgt, es_nil, es_cons, fs_nil, fs_cons, ts_nil, ts_one, src_seq, src_rg1, src_rg2, src_rg3, src_enum, src_zip, src_rev, k_bin, k_bin2, k_neg, k_cmp, k_cmp2, k_chn, k_chn2, k_chn3, k_chn4, k_and1, k_and0, k_or1, k_or0, k_not, k_ite, k_ite1, k_ite0, k_idx, k_idx2, k_sl, k_opt, k_sl2, k_sl3, k_dget, k_dget2, k_rgt, k_tup, k_lst, k_lst5, k_cel, k_call, k_callk, k_callk2, k_bi, k_mth, k_mth1, k_mth2, k_isi, k_len, k_lc, k_lcF, k_lc2, k_lc3t, k_lc3f, k_some, k_fmt, k_fs, k_mk, k_mkk, k_mkk2, k_att, k_um, k_evs, k_cons, k_tru, k_items, k_rg1, k_rg2, k_rg2b, k_rg3, k_rg3b, k_rg3c, k_enumL, k_enumT, k_zip, k_zipTT, k_zipLL, k_zipLT, k_zipTL, k_rev, v_val, o_owd, o_own, l_some, x_ok, o_map, s_set, s_setO, s_par, s_asg, s_aug, s_app, s_seti, s_setd, s_sta, s_ex, s_ret, s_retN, s_ifs, s_lop, s_whl, s_brk, s_cnt, s_pas, s_thru, ss_nil, ss_cons, ss_frz, at_name, at_sub, at_tup, ats_nil, ats_cons, t_set, t_setO, t_par, t_par2, t_asg, t_aug, t_augA, t_augS, t_app, t_app2, t_seti, t_seti2, t_seti3, t_setd, t_setd2, t_setd3, t_sta, t_ex, t_ret, t_ifs, t_ifs1, t_ifs0, t_lop, t_ss, t_ssr, t_ssb, t_ssc, t_ats, t_frz, t_sub, t_thru, t_thrur, o_nxt, v_set0, v_setS, d_set0, d_setD, d_setL, o_bind, z_frz0, z_frzS, List.getElem?_cons_zero, List.getElem?_cons_succ, att_rows h, q_lenT, r_ret, List.length_map]
  have := rows_ok w
  exact len_call (ins_of h) rfl e (by omega) (by omega)
/-! checks -/
theorem check_work_ok (n : Nat) {s : Sto} {r : Nat} {l : List Nd} (h : WkAt s r l) : cf (n + 1) 15 [.ref r] s = .ok .non s := by
  rw [u15]
  simp only [B15, e_non, e_bl, e_int, e_str, e_var, e_own, e_cst, e_bin, e_neg, e_cmp, e_chn, e_one, e_and, e_or, e_not, e_ite, e_idx, e_sl, e_tup, e_lst, e_cel, e_call, e_callk, e_bi, e_mth, e_isi, e_len, e_lc, e_fmt, e_fs, e_att, e_mk, e_mkk, e_um, e_dic0, e_dget, e_rgt, es_nil, es_cons, fs_nil, fs_cons, ts_nil, ts_one, src_seq, src_rg1, src_rg2, src_rg3, src_enum, src_zip, src_rev, k_bin, k_bin2, k_neg, k_cmp, k_cmp2, k_chn, k_chn2, k_chn3, k_chn4, k_and1, k_and0, k_or1, k_or0, k_not, k_ite, k_ite1, k_ite0, k_idx, k_idx2, k_sl, k_opt, k_sl2, k_sl3, k_dget, k_dget2, k_rgt, k_tup, k_lst, k_lst5, k_cel, k_call, k_callk, k_callk2, k_bi, k_mth, k_mth1, k_mth2, k_isi, k_len, k_lc, k_lcF, k_lc2, k_lc3t, k_lc3f, k_some, k_fmt, k_fs, k_mk, k_mkk, k_mkk2, k_att, k_um, k_evs, k_cons, k_tru, k_items, k_rg1, k_rg2, k_rg2b, k_rg3, k_rg3b, k_rg3c, k_enumL, k_enumT, k_zip, k_zipTT, k_zipLL, k_zipLT, k_zipTL, k_rev, v_val, o_owd, o_own, l_some, x_ok, o_map, s_set, s_setO, s_par, s_asg, s_aug, s_app, s_seti, s_setd, s_sta, s_ex, s_ret, s_retN, s_ifs, s_lop, s_whl, s_brk, s_cnt, s_pas, s_thru, ss_nil, ss_cons, ss_frz, at_name, at_sub, at_tup, ats_nil, ats_cons, t_set, t_setO, t_par, t_par2, t_asg, t_aug, t_augA, t_augS, t_app, t_app2, t_seti, t_seti2, t_seti3, t_setd, t_setd2, t_setd3, t_sta, t_ex, t_ret, t_ifs, t_ifs1, t_ifs0, t_lop, t_ss, t_ssr, t_ssb, t_ssc, t_ats, t_frz, t_sub, t_thru, t_thrur, o_nxt, v_set0, v_setS, d_set0, d_setD, d_setL, o_bind, z_frz0, z_frzS, List.getElem?_cons_zero, List.getElem?_cons_succ, i_wk h, Bool.not_true, q_tb, r_nxt]
/-! hours -/
end Lk16
set_option Elab.async false
set_option linter.all false
set_option maxRecDepth 100000
set_option maxHeartbeats 1000000
/-! hours for numbers; states -/
namespace Lk16
open Lv PySem
theorem wrong_number_ok (n : Nat) {s : Sto} {r : Nat} {l : List Nd} (w : WOk l) (h : WkAt s r l) (v : List Int) (hv : v.length = (kinds l).length) : cf (n + 3) 26 [.ref r, .tup (v.map .int)] s = .ok ((wrongNo (kinds l) v).getD (.tup [])) s := by
  rw [u26]
  have hv' : ((v.length : Nat) : Int) = ((kinds l).length : Int) := by omega
  simp only [B26, e_non, e_bl, e_int, e_str, e_var, e_own, e_cst, e_bin, e_neg, e_cmp, e_chn, e_one, e_and, e_or, e_not, e_ite, e_idx, e_sl, e_tup, e_lst, e_cel, e_call, e_callk, e_bi, e_mth, e_isi, e_len, e_lc, e_fmt, e_fs, e_att, e_mk, e_mkk, e_um, e_dic0, e_dget, e_rgt, es_nil, es_cons, fs_nil, fs_cons, ts_nil, ts_one, src_seq, src_rg1, src_rg2, src_rg3, src_enum, src_zip, src_rev, k_bin, k_bin2, k_neg, k_cmp, k_cmp2, k_chn, k_chn2, k_chn3, k_chn4, k_and1, k_and0, k_or1, k_or0, k_not, k_ite, k_ite1, k_ite0, k_idx, k_idx2, k_sl, k_opt, k_sl2, k_sl3, k_dget, k_dget2, k_rgt, k_tup, k_lst, k_lst5, k_cel, k_call, k_callk, k_callk2, k_bi, k_mth, k_mth1, k_mth2, k_isi, k_len, k_lc, k_lcF, k_lc2, k_lc3t, k_lc3f, k_some, k_fmt, k_fs, k_mk, k_mkk, k_mkk2, k_att, k_um, k_evs, k_cons, k_tru, k_items, k_rg1, k_rg2, k_rg2b, k_rg3, k_rg3b, k_rg3c, k_enumL, k_enumT, k_zip, k_zipTT, k_zipLL, k_zipLT, k_zipTL, k_rev, v_val, o_owd, o_own, l_some, x_ok, o_map, s_set, s_setO, s_par, s_asg, s_aug, s_app, s_seti, s_setd, s_sta, s_ex, s_ret, s_retN, s_ifs, s_lop, s_whl, s_brk, s_cnt, s_pas, s_thru, ss_nil, ss_cons, ss_frz, at_name, at_sub, at_tup, ats_nil, ats_cons, t_set, t_setO, t_par, t_par2, t_asg, t_aug, t_augA, t_augS, t_app, t_app2, t_seti, t_seti2, t_seti3, t_setd, t_setd2, t_setd3, t_sta, t_ex, t_ret, t_ifs, t_ifs1, t_ifs0, t_lop, t_ss, t_ssr, t_ssb, t_ssc, t_ats, t_frz, t_sub, t_thru, t_thrur, o_nxt, v_set0, v_setS, d_set0, d_setD, d_setL, o_bind, z_frz0, z_frzS, List.getElem?_cons_zero, List.getElem?_cons_succ, i_tup, Bool.not_true, q_lenT, List.length_map, len_ok _ w h, q_ne, q_int, hv', decide_true, q_tb, en_map]
  have go := lop_find (t := .tup [.name 2, .name 3]) (s := s) (f := evSs G0 (cf (n + 2)) (mf (n + 2)) (.cons (.ifs (.not (.call 33 (.cons (.var 3) (.cons (.int 0) (.cons (.idx (.idx (.att (.var 0) "kinds") (.var 2)) (.int 3)) .nil))))) (.cons (.ret (.tup (.cons (.var 2) .nil))) .nil) .nil) .nil))
    (fun p : Int × Nat => D.tup [.int (p.2 : Int), .int p.1]) (fun env => ∃ e2 e3, env = [.val (.ref r), .val (.tup (v.map .int)), e2, e3])
    (fun p => if inB p.1 0 (tot (kinds l) p.2) then none else some (.tup [.int (p.2 : Int)])) v.zipIdx (fun p hp env he => by
      obtain ⟨e2, e3, rfl⟩ := he
      have hk : p.2 < (kinds l).length := by
        have := List.mem_zipIdx hp
        omega
      obtain ⟨rw_, hrw⟩ : ∃ q, (kinds l)[p.2]? = some q := ⟨_, List.getElem?_eq_getElem hk⟩
      have i1 : dIdxS s (.tup ((kinds l).map Row.d)) (.int (p.2 : Int)) = some rw_.d := q_ixT (atI_n (by rw [List.getElem?_map, hrw]; rfl))
      have i2 : dIdxS s rw_.d (.int 3) = some (.int rw_.total) := rfl
      have tq : tot (kinds l) p.2 = rw_.total := by unfold tot; rw [hrw]; rfl
      refine ⟨[.val (.ref r), .val (.tup (v.map .int)), .val (.int (p.2 : Int)), .val (.int p.1)], by simp only [b_tup, b_cons, b_name, b_nil, e_non, e_bl, e_int, e_str, e_var, e_own, e_cst, e_bin, e_neg, e_cmp, e_chn, e_one, e_and, e_or, e_not, e_ite, e_idx, e_sl, e_tup, e_lst, e_cel, e_call, e_callk, e_bi, e_mth, e_isi, e_len, e_lc, e_fmt, e_fs, e_att, e_mk, e_mkk, e_um, e_dic0, e_dget, e_rgt, es_nil, es_cons, fs_nil, fs_cons, ts_nil, ts_one, src_seq, src_rg1, src_rg2, src_rg3, src_enum, src_zip, src_rev, k_bin, k_bin2, k_neg, k_cmp, k_cmp2, k_chn, k_chn2, k_chn3, k_chn4, k_and1, k_and0, k_or1, k_or0, k_not, k_ite, k_ite1, k_ite0, k_idx, k_idx2, k_sl, k_opt, k_sl2, k_sl3, k_dget, k_dget2, k_rgt, k_tup, k_lst, k_lst5, k_cel, k_call, k_callk, k_callk2, k_bi, k_mth, k_mth1, k_mth2, k_isi, k_len, k_lc, k_lcF, k_lc2, k_lc3t, k_lc3f, k_some, k_fmt, k_fs, k_mk, k_mkk, k_mkk2, k_att, k_um, k_evs, k_cons, k_tru, k_items, k_rg1, k_rg2, k_rg2b, k_rg3, k_rg3b, k_rg3c, k_enumL, k_enumT, k_zip, k_zipTT, k_zipLL, k_zipLT, k_zipTL, k_rev, v_val, o_owd, o_own, l_some, x_ok, o_map, s_set, s_setO, s_par, s_asg, s_aug, s_app, s_seti, s_setd, s_sta, s_ex, s_ret, s_retN, s_ifs, s_lop, s_whl, s_brk, s_cnt, s_pas, s_thru, ss_nil, ss_cons, ss_frz, at_name, at_sub, at_tup, ats_nil, ats_cons, t_set, t_setO, t_par, t_par2, t_asg, t_aug, t_augA, t_augS, t_app, t_app2, t_seti, t_seti2, t_seti3, t_setd, t_setd2, t_setd3, t_sta, t_ex, t_ret, t_ifs, t_ifs1, t_ifs0, t_lop, t_ss, t_ssr, t_ssb, t_ssc, t_ats, t_frz, t_sub, t_thru, t_thrur, o_nxt, v_set0, v_setS, d_set0, d_setD, d_setL, o_bind, z_frz0, z_frzS, List.getElem?_cons_zero, List.getElem?_cons_succ], ?_⟩
      simp only [tq]
      unfold inB
      simp only [e_non, e_bl, e_int, e_str, e_var, e_own, e_cst, e_bin, e_neg, e_cmp, e_chn, e_one, e_and, e_or, e_not, e_ite, e_idx, e_sl, e_tup, e_lst, e_cel, e_call, e_callk, e_bi, e_mth, e_isi, e_len, e_lc, e_fmt, e_fs, e_att, e_mk, e_mkk, e_um, e_dic0, e_dget, e_rgt, es_nil, es_cons, fs_nil, fs_cons, ts_nil, ts_one, src_seq, src_rg1, src_rg2, src_rg3, src_enum, src_zip, src_rev, k_bin, k_bin2, k_neg, k_cmp, k_cmp2, k_chn, k_chn2, k_chn3, k_chn4, k_and1, k_and0, k_or1, k_or0, k_not, k_ite, k_ite1, k_ite0, k_idx, k_idx2, k_sl, k_opt, k_sl2, k_sl3, k_dget, k_dget2, k_rgt, k_tup, k_lst, k_lst5, k_cel, k_call, k_callk, k_callk2, k_bi, k_mth, k_mth1, k_mth2, k_isi, k_len, k_lc, k_lcF, k_lc2, k_lc3t, k_lc3f, k_some, k_fmt, k_fs, k_mk, k_mkk, k_mkk2, k_att, k_um, k_evs, k_cons, k_tru, k_items, k_rg1, k_rg2, k_rg2b, k_rg3, k_rg3b, k_rg3c, k_enumL, k_enumT, k_zip, k_zipTT, k_zipLL, k_zipLT, k_zipTL, k_rev, v_val, o_owd, o_own, l_some, x_ok, o_map, s_set, s_setO, s_par, s_asg, s_aug, s_app, s_seti, s_setd, s_sta, s_ex, s_ret, s_retN, s_ifs, s_lop, s_whl, s_brk, s_cnt, s_pas, s_thru, ss_nil, ss_cons, ss_frz, at_name, at_sub, at_tup, ats_nil, ats_cons, t_set, t_setO, t_par, t_par2, t_asg, t_aug, t_augA, t_augS, t_app, t_app2, t_seti, t_seti2, t_seti3, t_setd, t_setd2, t_setd3, t_sta, t_ex, t_ret, t_ifs, t_ifs1, t_ifs0, t_lop, t_ss, t_ssr, t_ssb, t_ssc, t_ats, t_frz, t_sub, t_thru, t_thrur, o_nxt, v_set0, v_setS, d_set0, d_setD, d_setL, o_bind, z_frz0, z_frzS, List.getElem?_cons_zero, List.getElem?_cons_succ, att_kinds h, i1, i2, is_within_int]
      cases decide (0 ≤ p.1) && decide (p.1 ≤ rw_.total) with
      | true => exact .inr ⟨rfl, [.val (.ref r), .val (.tup (v.map .int)), .val (.int (p.2 : Int)), .val (.int p.1)], by simp only [e_non, e_bl, e_int, e_str, e_var, e_own, e_cst, e_bin, e_neg, e_cmp, e_chn, e_one, e_and, e_or, e_not, e_ite, e_idx, e_sl, e_tup, e_lst, e_cel, e_call, e_callk, e_bi, e_mth, e_isi, e_len, e_lc, e_fmt, e_fs, e_att, e_mk, e_mkk, e_um, e_dic0, e_dget, e_rgt, es_nil, es_cons, fs_nil, fs_cons, ts_nil, ts_one, src_seq, src_rg1, src_rg2, src_rg3, src_enum, src_zip, src_rev, k_bin, k_bin2, k_neg, k_cmp, k_cmp2, k_chn, k_chn2, k_chn3, k_chn4, k_and1, k_and0, k_or1, k_or0, k_not, k_ite, k_ite1, k_ite0, k_idx, k_idx2, k_sl, k_opt, k_sl2, k_sl3, k_dget, k_dget2, k_rgt, k_tup, k_lst, k_lst5, k_cel, k_call, k_callk, k_callk2, k_bi, k_mth, k_mth1, k_mth2, k_isi, k_len, k_lc, k_lcF, k_lc2, k_lc3t, k_lc3f, k_some, k_fmt, k_fs, k_mk, k_mkk, k_mkk2, k_att, k_um, k_evs, k_cons, k_tru, k_items, k_rg1, k_rg2, k_rg2b, k_rg3, k_rg3b, k_rg3c, k_enumL, k_enumT, k_zip, k_zipTT, k_zipLL, k_zipLT, k_zipTL, k_rev, v_val, o_owd, o_own, l_some, x_ok, o_map, s_set, s_setO, s_par, s_asg, s_aug, s_app, s_seti, s_setd, s_sta, s_ex, s_ret, s_retN, s_ifs, s_lop, s_whl, s_brk, s_cnt, s_pas, s_thru, ss_nil, ss_cons, ss_frz, at_name, at_sub, at_tup, ats_nil, ats_cons, t_set, t_setO, t_par, t_par2, t_asg, t_aug, t_augA, t_augS, t_app, t_app2, t_seti, t_seti2, t_seti3, t_setd, t_setd2, t_setd3, t_sta, t_ex, t_ret, t_ifs, t_ifs1, t_ifs0, t_lop, t_ss, t_ssr, t_ssb, t_ssc, t_ats, t_frz, t_sub, t_thru, t_thrur, o_nxt, v_set0, v_setS, d_set0, d_setD, d_setL, o_bind, z_frz0, z_frzS, List.getElem?_cons_zero, List.getElem?_cons_succ, Bool.not_true, q_tb], _, _, rfl⟩
      | false => exact .inl ⟨_, rfl, by simp only [e_non, e_bl, e_int, e_str, e_var, e_own, e_cst, e_bin, e_neg, e_cmp, e_chn, e_one, e_and, e_or, e_not, e_ite, e_idx, e_sl, e_tup, e_lst, e_cel, e_call, e_callk, e_bi, e_mth, e_isi, e_len, e_lc, e_fmt, e_fs, e_att, e_mk, e_mkk, e_um, e_dic0, e_dget, e_rgt, es_nil, es_cons, fs_nil, fs_cons, ts_nil, ts_one, src_seq, src_rg1, src_rg2, src_rg3, src_enum, src_zip, src_rev, k_bin, k_bin2, k_neg, k_cmp, k_cmp2, k_chn, k_chn2, k_chn3, k_chn4, k_and1, k_and0, k_or1, k_or0, k_not, k_ite, k_ite1, k_ite0, k_idx, k_idx2, k_sl, k_opt, k_sl2, k_sl3, k_dget, k_dget2, k_rgt, k_tup, k_lst, k_lst5, k_cel, k_call, k_callk, k_callk2, k_bi, k_mth, k_mth1, k_mth2, k_isi, k_len, k_lc, k_lcF, k_lc2, k_lc3t, k_lc3f, k_some, k_fmt, k_fs, k_mk, k_mkk, k_mkk2, k_att, k_um, k_evs, k_cons, k_tru, k_items, k_rg1, k_rg2, k_rg2b, k_rg3, k_rg3b, k_rg3c, k_enumL, k_enumT, k_zip, k_zipTT, k_zipLL, k_zipLT, k_zipTL, k_rev, v_val, o_owd, o_own, l_some, x_ok, o_map, s_set, s_setO, s_par, s_asg, s_aug, s_app, s_seti, s_setd, s_sta, s_ex, s_ret, s_retN, s_ifs, s_lop, s_whl, s_brk, s_cnt, s_pas, s_thru, ss_nil, ss_cons, ss_frz, at_name, at_sub, at_tup, ats_nil, ats_cons, t_set, t_setO, t_par, t_par2, t_asg, t_aug, t_augA, t_augS, t_app, t_app2, t_seti, t_seti2, t_seti3, t_setd, t_setd2, t_setd3, t_sta, t_ex, t_ret, t_ifs, t_ifs1, t_ifs0, t_lop, t_ss, t_ssr, t_ssb, t_ssc, t_ats, t_frz, t_sub, t_thru, t_thrur, o_nxt, v_set0, v_setS, d_set0, d_setD, d_setL, o_bind, z_frz0, z_frzS, List.getElem?_cons_zero, List.getElem?_cons_succ, Bool.not_false, q_tb]⟩) [.val (.ref r), .val (.tup (v.map .int)), .und, .und] ⟨_, _, rfl⟩
  unfold wrongNo
  rcases go with ⟨d, e1, e2⟩ | ⟨e1, env', e2, _⟩
  · rw [e1, e2]
    simp only [e_non, e_bl, e_int, e_str, e_var, e_own, e_cst, e_bin, e_neg, e_cmp, e_chn, e_one, e_and, e_or, e_not, e_ite, e_idx, e_sl, e_tup, e_lst, e_cel, e_call, e_callk, e_bi, e_mth, e_isi, e_len, e_lc, e_fmt, e_fs, e_att, e_mk, e_mkk, e_um, e_dic0, e_dget, e_rgt, es_nil, es_cons, fs_nil, fs_cons, ts_nil, ts_one, src_seq, src_rg1, src_rg2, src_rg3, src_enum, src_zip, src_rev, k_bin, k_bin2, k_neg, k_cmp, k_cmp2, k_chn, k_chn2, k_chn3, k_chn4, k_and1, k_and0, k_or1, k_or0, k_not, k_ite, k_ite1, k_ite0, k_idx, k_idx2, k_sl, k_opt, k_sl2, k_sl3, k_dget, k_dget2, k_rgt, k_tup, k_lst, k_lst5, k_cel, k_call, k_callk, k_callk2, k_bi, k_mth, k_mth1, k_mth2, k_isi, k_len, k_lc, k_lcF, k_lc2, k_lc3t, k_lc3f, k_some, k_fmt, k_fs, k_mk, k_mkk, k_mkk2, k_att, k_um, k_evs, k_cons, k_tru, k_items, k_rg1, k_rg2, k_rg2b, k_rg3, k_rg3b, k_rg3c, k_enumL, k_enumT, k_zip, k_zipTT, k_zipLL, k_zipLT, k_zipTL, k_rev, v_val, o_owd, o_own, l_some, x_ok, o_map, s_set, s_setO, s_par, s_asg, s_aug, s_app, s_seti, s_setd, s_sta, s_ex, s_ret, s_retN, s_ifs, s_lop, s_whl, s_brk, s_cnt, s_pas, s_thru, ss_nil, ss_cons, ss_frz, at_name, at_sub, at_tup, ats_nil, ats_cons, t_set, t_setO, t_par, t_par2, t_asg, t_aug, t_augA, t_augS, t_app, t_app2, t_seti, t_seti2, t_seti3, t_setd, t_setd2, t_setd3, t_sta, t_ex, t_ret, t_ifs, t_ifs1, t_ifs0, t_lop, t_ss, t_ssr, t_ssb, t_ssc, t_ats, t_frz, t_sub, t_thru, t_thrur, o_nxt, v_set0, v_setS, d_set0, d_setD, d_setL, o_bind, z_frz0, z_frzS, List.getElem?_cons_zero, List.getElem?_cons_succ, r_ret, Option.getD_some]
  · rw [e1, e2]
    simp only [e_non, e_bl, e_int, e_str, e_var, e_own, e_cst, e_bin, e_neg, e_cmp, e_chn, e_one, e_and, e_or, e_not, e_ite, e_idx, e_sl, e_tup, e_lst, e_cel, e_call, e_callk, e_bi, e_mth, e_isi, e_len, e_lc, e_fmt, e_fs, e_att, e_mk, e_mkk, e_um, e_dic0, e_dget, e_rgt, es_nil, es_cons, fs_nil, fs_cons, ts_nil, ts_one, src_seq, src_rg1, src_rg2, src_rg3, src_enum, src_zip, src_rev, k_bin, k_bin2, k_neg, k_cmp, k_cmp2, k_chn, k_chn2, k_chn3, k_chn4, k_and1, k_and0, k_or1, k_or0, k_not, k_ite, k_ite1, k_ite0, k_idx, k_idx2, k_sl, k_opt, k_sl2, k_sl3, k_dget, k_dget2, k_rgt, k_tup, k_lst, k_lst5, k_cel, k_call, k_callk, k_callk2, k_bi, k_mth, k_mth1, k_mth2, k_isi, k_len, k_lc, k_lcF, k_lc2, k_lc3t, k_lc3f, k_some, k_fmt, k_fs, k_mk, k_mkk, k_mkk2, k_att, k_um, k_evs, k_cons, k_tru, k_items, k_rg1, k_rg2, k_rg2b, k_rg3, k_rg3b, k_rg3c, k_enumL, k_enumT, k_zip, k_zipTT, k_zipLL, k_zipLT, k_zipTL, k_rev, v_val, o_owd, o_own, l_some, x_ok, o_map, s_set, s_setO, s_par, s_asg, s_aug, s_app, s_seti, s_setd, s_sta, s_ex, s_ret, s_retN, s_ifs, s_lop, s_whl, s_brk, s_cnt, s_pas, s_thru, ss_nil, ss_cons, ss_frz, at_name, at_sub, at_tup, ats_nil, ats_cons, t_set, t_setO, t_par, t_par2, t_asg, t_aug, t_augA, t_augS, t_app, t_app2, t_seti, t_seti2, t_seti3, t_setd, t_setd2, t_setd3, t_sta, t_ex, t_ret, t_ifs, t_ifs1, t_ifs0, t_lop, t_ss, t_ssr, t_ssb, t_ssc, t_ats, t_frz, t_sub, t_thru, t_thrur, o_nxt, v_set0, v_setS, d_set0, d_setD, d_setL, o_bind, z_frz0, z_frzS, List.getElem?_cons_zero, List.getElem?_cons_succ, r_ret, Option.getD_none]
theorem first_lack_ok (n : Nat) {s : Sto} {r : Nat} {l : List Nd} (w : WOk l) (ho : HomesOk (kinds l)) (hm : ∀ q ∈ kinds l, 1 ≤ q.many ∧ q.many ≤ 10 ^ 30) (h : WkAt s r l) (v u : List Int) (hv : v.length = (kinds l).length) (hu : u.length = (kinds l).length) (hb : ∀ x ∈ u, x.natAbs < 10 ^ 1000) : cf (n + 2) 27 [.ref r, .tup (v.map .int), .tup (u.map .int)] s = .ok ((lack (kinds l) v u).getD .non) s := by
  rw [u27]
  simp only [B27, e_non, e_bl, e_int, e_str, e_var, e_own, e_cst, e_bin, e_neg, e_cmp, e_chn, e_one, e_and, e_or, e_not, e_ite, e_idx, e_sl, e_tup, e_lst, e_cel, e_call, e_callk, e_bi, e_mth, e_isi, e_len, e_lc, e_fmt, e_fs, e_att, e_mk, e_mkk, e_um, e_dic0, e_dget, e_rgt, es_nil, es_cons, fs_nil, fs_cons, ts_nil, ts_one, src_seq, src_rg1, src_rg2, src_rg3, src_enum, src_zip, src_rev, k_bin, k_bin2, k_neg, k_cmp, k_cmp2, k_chn, k_chn2, k_chn3, k_chn4, k_and1, k_and0, k_or1, k_or0, k_not, k_ite, k_ite1, k_ite0, k_idx, k_idx2, k_sl, k_opt, k_sl2, k_sl3, k_dget, k_dget2, k_rgt, k_tup, k_lst, k_lst5, k_cel, k_call, k_callk, k_callk2, k_bi, k_mth, k_mth1, k_mth2, k_isi, k_len, k_lc, k_lcF, k_lc2, k_lc3t, k_lc3f, k_some, k_fmt, k_fs, k_mk, k_mkk, k_mkk2, k_att, k_um, k_evs, k_cons, k_tru, k_items, k_rg1, k_rg2, k_rg2b, k_rg3, k_rg3b, k_rg3c, k_enumL, k_enumT, k_zip, k_zipTT, k_zipLL, k_zipLT, k_zipTL, k_rev, v_val, o_owd, o_own, l_some, x_ok, o_map, s_set, s_setO, s_par, s_asg, s_aug, s_app, s_seti, s_setd, s_sta, s_ex, s_ret, s_retN, s_ifs, s_lop, s_whl, s_brk, s_cnt, s_pas, s_thru, ss_nil, ss_cons, ss_frz, at_name, at_sub, at_tup, ats_nil, ats_cons, t_set, t_setO, t_par, t_par2, t_asg, t_aug, t_augA, t_augS, t_app, t_app2, t_seti, t_seti2, t_seti3, t_setd, t_setd2, t_setd3, t_sta, t_ex, t_ret, t_ifs, t_ifs1, t_ifs0, t_lop, t_ss, t_ssr, t_ssb, t_ssc, t_ats, t_frz, t_sub, t_thru, t_thrur, o_nxt, v_set0, v_setS, d_set0, d_setD, d_setL, o_bind, z_frz0, z_frzS, List.getElem?_cons_zero, List.getElem?_cons_succ, att_kinds h, en_map]
  have go := lop_find (t := .tup [.name 3, .tup [.name 4, .name 5, .name 6, .name 7, .name 8]]) (s := s) (f := evSs G0 (cf (n + 1)) (mf (n + 1)) (.cons (.ifs (.and (.cmp .IsNot (.var 8) .non) (.one (.cmp .Lt (.idx (.var 1) (.var 3)) (.bin .Mult (.var 5) (.idx (.var 2) (.var 8)))))) (.cons (.ret (.var 4)) .nil) .nil) .nil))
    (fun p : Row × Nat => D.tup [.int (p.2 : Int), p.1.d]) (fun env => ∃ e3 e4 e5 e6 e7 e8, env = [.val (.ref r), .val (.tup (v.map .int)), .val (.tup (u.map .int)), e3, e4, e5, e6, e7, e8])
    (lackQ v u) (kinds l).zipIdx (fun p hp env he => by
      obtain ⟨e3, e4, e5, e6, e7, e8, rfl⟩ := he
      obtain ⟨row, at_⟩ := p
      have mz := List.mem_zipIdx hp
      have hk : at_ < v.length := by rw [hv]; have := mz.2.1; simpa using this
      have hr : row ∈ kinds l := by rw [mz.2.2]; exact List.getElem_mem _
      refine ⟨[.val (.ref r), .val (.tup (v.map .int)), .val (.tup (u.map .int)), .val (.int (at_ : Int)), .val (.str row.name), .val (.int row.many), .val (.int row.level), .val (.int row.total), .val (hD row.home)], by simp only [b_tup, b_cons, b_name, b_nil, e_non, e_bl, e_int, e_str, e_var, e_own, e_cst, e_bin, e_neg, e_cmp, e_chn, e_one, e_and, e_or, e_not, e_ite, e_idx, e_sl, e_tup, e_lst, e_cel, e_call, e_callk, e_bi, e_mth, e_isi, e_len, e_lc, e_fmt, e_fs, e_att, e_mk, e_mkk, e_um, e_dic0, e_dget, e_rgt, es_nil, es_cons, fs_nil, fs_cons, ts_nil, ts_one, src_seq, src_rg1, src_rg2, src_rg3, src_enum, src_zip, src_rev, k_bin, k_bin2, k_neg, k_cmp, k_cmp2, k_chn, k_chn2, k_chn3, k_chn4, k_and1, k_and0, k_or1, k_or0, k_not, k_ite, k_ite1, k_ite0, k_idx, k_idx2, k_sl, k_opt, k_sl2, k_sl3, k_dget, k_dget2, k_rgt, k_tup, k_lst, k_lst5, k_cel, k_call, k_callk, k_callk2, k_bi, k_mth, k_mth1, k_mth2, k_isi, k_len, k_lc, k_lcF, k_lc2, k_lc3t, k_lc3f, k_some, k_fmt, k_fs, k_mk, k_mkk, k_mkk2, k_att, k_um, k_evs, k_cons, k_tru, k_items, k_rg1, k_rg2, k_rg2b, k_rg3, k_rg3b, k_rg3c, k_enumL, k_enumT, k_zip, k_zipTT, k_zipLL, k_zipLT, k_zipTL, k_rev, v_val, o_owd, o_own, l_some, x_ok, o_map, s_set, s_setO, s_par, s_asg, s_aug, s_app, s_seti, s_setd, s_sta, s_ex, s_ret, s_retN, s_ifs, s_lop, s_whl, s_brk, s_cnt, s_pas, s_thru, ss_nil, ss_cons, ss_frz, at_name, at_sub, at_tup, ats_nil, ats_cons, t_set, t_setO, t_par, t_par2, t_asg, t_aug, t_augA, t_augS, t_app, t_app2, t_seti, t_seti2, t_seti3, t_setd, t_setd2, t_setd3, t_sta, t_ex, t_ret, t_ifs, t_ifs1, t_ifs0, t_lop, t_ss, t_ssr, t_ssb, t_ssc, t_ats, t_frz, t_sub, t_thru, t_thrur, o_nxt, v_set0, v_setS, d_set0, d_setD, d_setL, o_bind, z_frz0, z_frzS, List.getElem?_cons_zero, List.getElem?_cons_succ, Row.d], ?_⟩
      cases q : row.home with
      | none =>
        refine .inr ⟨lackQ_none q, [.val (.ref r), .val (.tup (v.map .int)), .val (.tup (u.map .int)), .val (.int (at_ : Int)), .val (.str row.name), .val (.int row.many), .val (.int row.level), .val (.int row.total), .val (hD none)], ?_, _, _, _, _, _, _, rfl⟩
        simp only [e_non, e_bl, e_int, e_str, e_var, e_own, e_cst, e_bin, e_neg, e_cmp, e_chn, e_one, e_and, e_or, e_not, e_ite, e_idx, e_sl, e_tup, e_lst, e_cel, e_call, e_callk, e_bi, e_mth, e_isi, e_len, e_lc, e_fmt, e_fs, e_att, e_mk, e_mkk, e_um, e_dic0, e_dget, e_rgt, es_nil, es_cons, fs_nil, fs_cons, ts_nil, ts_one, src_seq, src_rg1, src_rg2, src_rg3, src_enum, src_zip, src_rev, k_bin, k_bin2, k_neg, k_cmp, k_cmp2, k_chn, k_chn2, k_chn3, k_chn4, k_and1, k_and0, k_or1, k_or0, k_not, k_ite, k_ite1, k_ite0, k_idx, k_idx2, k_sl, k_opt, k_sl2, k_sl3, k_dget, k_dget2, k_rgt, k_tup, k_lst, k_lst5, k_cel, k_call, k_callk, k_callk2, k_bi, k_mth, k_mth1, k_mth2, k_isi, k_len, k_lc, k_lcF, k_lc2, k_lc3t, k_lc3f, k_some, k_fmt, k_fs, k_mk, k_mkk, k_mkk2, k_att, k_um, k_evs, k_cons, k_tru, k_items, k_rg1, k_rg2, k_rg2b, k_rg3, k_rg3b, k_rg3c, k_enumL, k_enumT, k_zip, k_zipTT, k_zipLL, k_zipLT, k_zipTL, k_rev, v_val, o_owd, o_own, l_some, x_ok, o_map, s_set, s_setO, s_par, s_asg, s_aug, s_app, s_seti, s_setd, s_sta, s_ex, s_ret, s_retN, s_ifs, s_lop, s_whl, s_brk, s_cnt, s_pas, s_thru, ss_nil, ss_cons, ss_frz, at_name, at_sub, at_tup, ats_nil, ats_cons, t_set, t_setO, t_par, t_par2, t_asg, t_aug, t_augA, t_augS, t_app, t_app2, t_seti, t_seti2, t_seti3, t_setd, t_setd2, t_setd3, t_sta, t_ex, t_ret, t_ifs, t_ifs1, t_ifs0, t_lop, t_ss, t_ssr, t_ssb, t_ssc, t_ats, t_frz, t_sub, t_thru, t_thrur, o_nxt, v_set0, v_setS, d_set0, d_setD, d_setL, o_bind, z_frz0, z_frzS, List.getElem?_cons_zero, List.getElem?_cons_succ, hD, q_isn, D.isN, Bool.not_true, q_tb]
      | some k =>
        have hk2 : k < u.length := by rw [hu]; exact ho _ hr _ q
        have ub : (u.getD k 0).natAbs < 10 ^ 1000 := hb _ (by rw [List.getD_eq_getElem?_getD, List.getElem?_eq_getElem hk2]; exact List.getElem_mem _)
        have mu : dBin .Mult (.int row.many) (.int (u.getD k 0)) = some (.int (row.many * u.getD k 0)) := q_mul _ _ (m_abs (hm _ hr).1 (hm _ hr).2) ub
        simp only [e_non, e_bl, e_int, e_str, e_var, e_own, e_cst, e_bin, e_neg, e_cmp, e_chn, e_one, e_and, e_or, e_not, e_ite, e_idx, e_sl, e_tup, e_lst, e_cel, e_call, e_callk, e_bi, e_mth, e_isi, e_len, e_lc, e_fmt, e_fs, e_att, e_mk, e_mkk, e_um, e_dic0, e_dget, e_rgt, es_nil, es_cons, fs_nil, fs_cons, ts_nil, ts_one, src_seq, src_rg1, src_rg2, src_rg3, src_enum, src_zip, src_rev, k_bin, k_bin2, k_neg, k_cmp, k_cmp2, k_chn, k_chn2, k_chn3, k_chn4, k_and1, k_and0, k_or1, k_or0, k_not, k_ite, k_ite1, k_ite0, k_idx, k_idx2, k_sl, k_opt, k_sl2, k_sl3, k_dget, k_dget2, k_rgt, k_tup, k_lst, k_lst5, k_cel, k_call, k_callk, k_callk2, k_bi, k_mth, k_mth1, k_mth2, k_isi, k_len, k_lc, k_lcF, k_lc2, k_lc3t, k_lc3f, k_some, k_fmt, k_fs, k_mk, k_mkk, k_mkk2, k_att, k_um, k_evs, k_cons, k_tru, k_items, k_rg1, k_rg2, k_rg2b, k_rg3, k_rg3b, k_rg3c, k_enumL, k_enumT, k_zip, k_zipTT, k_zipLL, k_zipLT, k_zipTL, k_rev, v_val, o_owd, o_own, l_some, x_ok, o_map, s_set, s_setO, s_par, s_asg, s_aug, s_app, s_seti, s_setd, s_sta, s_ex, s_ret, s_retN, s_ifs, s_lop, s_whl, s_brk, s_cnt, s_pas, s_thru, ss_nil, ss_cons, ss_frz, at_name, at_sub, at_tup, ats_nil, ats_cons, t_set, t_setO, t_par, t_par2, t_asg, t_aug, t_augA, t_augS, t_app, t_app2, t_seti, t_seti2, t_seti3, t_setd, t_setd2, t_setd3, t_sta, t_ex, t_ret, t_ifs, t_ifs1, t_ifs0, t_lop, t_ss, t_ssr, t_ssb, t_ssc, t_ats, t_frz, t_sub, t_thru, t_thrur, o_nxt, v_set0, v_setS, d_set0, d_setD, d_setL, o_bind, z_frz0, z_frzS, List.getElem?_cons_zero, List.getElem?_cons_succ, hD, q_isn, D.isN, Bool.not_false, ixI hk, ixI hk2, mu, q_lt]
        by_cases c : v.getD at_ 0 < row.many * u.getD k 0
        · refine .inl ⟨.str row.name, (lackQ_some q).trans (if_pos c), ?_⟩
          simp only [e_non, e_bl, e_int, e_str, e_var, e_own, e_cst, e_bin, e_neg, e_cmp, e_chn, e_one, e_and, e_or, e_not, e_ite, e_idx, e_sl, e_tup, e_lst, e_cel, e_call, e_callk, e_bi, e_mth, e_isi, e_len, e_lc, e_fmt, e_fs, e_att, e_mk, e_mkk, e_um, e_dic0, e_dget, e_rgt, es_nil, es_cons, fs_nil, fs_cons, ts_nil, ts_one, src_seq, src_rg1, src_rg2, src_rg3, src_enum, src_zip, src_rev, k_bin, k_bin2, k_neg, k_cmp, k_cmp2, k_chn, k_chn2, k_chn3, k_chn4, k_and1, k_and0, k_or1, k_or0, k_not, k_ite, k_ite1, k_ite0, k_idx, k_idx2, k_sl, k_opt, k_sl2, k_sl3, k_dget, k_dget2, k_rgt, k_tup, k_lst, k_lst5, k_cel, k_call, k_callk, k_callk2, k_bi, k_mth, k_mth1, k_mth2, k_isi, k_len, k_lc, k_lcF, k_lc2, k_lc3t, k_lc3f, k_some, k_fmt, k_fs, k_mk, k_mkk, k_mkk2, k_att, k_um, k_evs, k_cons, k_tru, k_items, k_rg1, k_rg2, k_rg2b, k_rg3, k_rg3b, k_rg3c, k_enumL, k_enumT, k_zip, k_zipTT, k_zipLL, k_zipLT, k_zipTL, k_rev, v_val, o_owd, o_own, l_some, x_ok, o_map, s_set, s_setO, s_par, s_asg, s_aug, s_app, s_seti, s_setd, s_sta, s_ex, s_ret, s_retN, s_ifs, s_lop, s_whl, s_brk, s_cnt, s_pas, s_thru, ss_nil, ss_cons, ss_frz, at_name, at_sub, at_tup, ats_nil, ats_cons, t_set, t_setO, t_par, t_par2, t_asg, t_aug, t_augA, t_augS, t_app, t_app2, t_seti, t_seti2, t_seti3, t_setd, t_setd2, t_setd3, t_sta, t_ex, t_ret, t_ifs, t_ifs1, t_ifs0, t_lop, t_ss, t_ssr, t_ssb, t_ssc, t_ats, t_frz, t_sub, t_thru, t_thrur, o_nxt, v_set0, v_setS, d_set0, d_setD, d_setL, o_bind, z_frz0, z_frzS, List.getElem?_cons_zero, List.getElem?_cons_succ, c, decide_true, q_tb]
        · refine .inr ⟨(lackQ_some q).trans (if_neg c), [.val (.ref r), .val (.tup (v.map .int)), .val (.tup (u.map .int)), .val (.int (at_ : Int)), .val (.str row.name), .val (.int row.many), .val (.int row.level), .val (.int row.total), .val (hD (some k))], ?_, _, _, _, _, _, _, rfl⟩
          simp only [e_non, e_bl, e_int, e_str, e_var, e_own, e_cst, e_bin, e_neg, e_cmp, e_chn, e_one, e_and, e_or, e_not, e_ite, e_idx, e_sl, e_tup, e_lst, e_cel, e_call, e_callk, e_bi, e_mth, e_isi, e_len, e_lc, e_fmt, e_fs, e_att, e_mk, e_mkk, e_um, e_dic0, e_dget, e_rgt, es_nil, es_cons, fs_nil, fs_cons, ts_nil, ts_one, src_seq, src_rg1, src_rg2, src_rg3, src_enum, src_zip, src_rev, k_bin, k_bin2, k_neg, k_cmp, k_cmp2, k_chn, k_chn2, k_chn3, k_chn4, k_and1, k_and0, k_or1, k_or0, k_not, k_ite, k_ite1, k_ite0, k_idx, k_idx2, k_sl, k_opt, k_sl2, k_sl3, k_dget, k_dget2, k_rgt, k_tup, k_lst, k_lst5, k_cel, k_call, k_callk, k_callk2, k_bi, k_mth, k_mth1, k_mth2, k_isi, k_len, k_lc, k_lcF, k_lc2, k_lc3t, k_lc3f, k_some, k_fmt, k_fs, k_mk, k_mkk, k_mkk2, k_att, k_um, k_evs, k_cons, k_tru, k_items, k_rg1, k_rg2, k_rg2b, k_rg3, k_rg3b, k_rg3c, k_enumL, k_enumT, k_zip, k_zipTT, k_zipLL, k_zipLT, k_zipTL, k_rev, v_val, o_owd, o_own, l_some, x_ok, o_map, s_set, s_setO, s_par, s_asg, s_aug, s_app, s_seti, s_setd, s_sta, s_ex, s_ret, s_retN, s_ifs, s_lop, s_whl, s_brk, s_cnt, s_pas, s_thru, ss_nil, ss_cons, ss_frz, at_name, at_sub, at_tup, ats_nil, ats_cons, t_set, t_setO, t_par, t_par2, t_asg, t_aug, t_augA, t_augS, t_app, t_app2, t_seti, t_seti2, t_seti3, t_setd, t_setd2, t_setd3, t_sta, t_ex, t_ret, t_ifs, t_ifs1, t_ifs0, t_lop, t_ss, t_ssr, t_ssb, t_ssc, t_ats, t_frz, t_sub, t_thru, t_thrur, o_nxt, v_set0, v_setS, d_set0, d_setD, d_setL, o_bind, z_frz0, z_frzS, List.getElem?_cons_zero, List.getElem?_cons_succ, c, decide_false, q_tb, hD]) [.val (.ref r), .val (.tup (v.map .int)), .val (.tup (u.map .int)), .und, .und, .und, .und, .und, .und] ⟨_, _, _, _, _, _, rfl⟩
  unfold lack
  rcases go with ⟨d, e1, e2⟩ | ⟨e1, env', e2, _⟩
  · rw [e1, e2]
    simp only [e_non, e_bl, e_int, e_str, e_var, e_own, e_cst, e_bin, e_neg, e_cmp, e_chn, e_one, e_and, e_or, e_not, e_ite, e_idx, e_sl, e_tup, e_lst, e_cel, e_call, e_callk, e_bi, e_mth, e_isi, e_len, e_lc, e_fmt, e_fs, e_att, e_mk, e_mkk, e_um, e_dic0, e_dget, e_rgt, es_nil, es_cons, fs_nil, fs_cons, ts_nil, ts_one, src_seq, src_rg1, src_rg2, src_rg3, src_enum, src_zip, src_rev, k_bin, k_bin2, k_neg, k_cmp, k_cmp2, k_chn, k_chn2, k_chn3, k_chn4, k_and1, k_and0, k_or1, k_or0, k_not, k_ite, k_ite1, k_ite0, k_idx, k_idx2, k_sl, k_opt, k_sl2, k_sl3, k_dget, k_dget2, k_rgt, k_tup, k_lst, k_lst5, k_cel, k_call, k_callk, k_callk2, k_bi, k_mth, k_mth1, k_mth2, k_isi, k_len, k_lc, k_lcF, k_lc2, k_lc3t, k_lc3f, k_some, k_fmt, k_fs, k_mk, k_mkk, k_mkk2, k_att, k_um, k_evs, k_cons, k_tru, k_items, k_rg1, k_rg2, k_rg2b, k_rg3, k_rg3b, k_rg3c, k_enumL, k_enumT, k_zip, k_zipTT, k_zipLL, k_zipLT, k_zipTL, k_rev, v_val, o_owd, o_own, l_some, x_ok, o_map, s_set, s_setO, s_par, s_asg, s_aug, s_app, s_seti, s_setd, s_sta, s_ex, s_ret, s_retN, s_ifs, s_lop, s_whl, s_brk, s_cnt, s_pas, s_thru, ss_nil, ss_cons, ss_frz, at_name, at_sub, at_tup, ats_nil, ats_cons, t_set, t_setO, t_par, t_par2, t_asg, t_aug, t_augA, t_augS, t_app, t_app2, t_seti, t_seti2, t_seti3, t_setd, t_setd2, t_setd3, t_sta, t_ex, t_ret, t_ifs, t_ifs1, t_ifs0, t_lop, t_ss, t_ssr, t_ssb, t_ssc, t_ats, t_frz, t_sub, t_thru, t_thrur, o_nxt, v_set0, v_setS, d_set0, d_setD, d_setL, o_bind, z_frz0, z_frzS, List.getElem?_cons_zero, List.getElem?_cons_succ, r_ret, Option.getD_some]
  · rw [e1, e2]
    simp only [e_non, e_bl, e_int, e_str, e_var, e_own, e_cst, e_bin, e_neg, e_cmp, e_chn, e_one, e_and, e_or, e_not, e_ite, e_idx, e_sl, e_tup, e_lst, e_cel, e_call, e_callk, e_bi, e_mth, e_isi, e_len, e_lc, e_fmt, e_fs, e_att, e_mk, e_mkk, e_um, e_dic0, e_dget, e_rgt, es_nil, es_cons, fs_nil, fs_cons, ts_nil, ts_one, src_seq, src_rg1, src_rg2, src_rg3, src_enum, src_zip, src_rev, k_bin, k_bin2, k_neg, k_cmp, k_cmp2, k_chn, k_chn2, k_chn3, k_chn4, k_and1, k_and0, k_or1, k_or0, k_not, k_ite, k_ite1, k_ite0, k_idx, k_idx2, k_sl, k_opt, k_sl2, k_sl3, k_dget, k_dget2, k_rgt, k_tup, k_lst, k_lst5, k_cel, k_call, k_callk, k_callk2, k_bi, k_mth, k_mth1, k_mth2, k_isi, k_len, k_lc, k_lcF, k_lc2, k_lc3t, k_lc3f, k_some, k_fmt, k_fs, k_mk, k_mkk, k_mkk2, k_att, k_um, k_evs, k_cons, k_tru, k_items, k_rg1, k_rg2, k_rg2b, k_rg3, k_rg3b, k_rg3c, k_enumL, k_enumT, k_zip, k_zipTT, k_zipLL, k_zipLT, k_zipTL, k_rev, v_val, o_owd, o_own, l_some, x_ok, o_map, s_set, s_setO, s_par, s_asg, s_aug, s_app, s_seti, s_setd, s_sta, s_ex, s_ret, s_retN, s_ifs, s_lop, s_whl, s_brk, s_cnt, s_pas, s_thru, ss_nil, ss_cons, ss_frz, at_name, at_sub, at_tup, ats_nil, ats_cons, t_set, t_setO, t_par, t_par2, t_asg, t_aug, t_augA, t_augS, t_app, t_app2, t_seti, t_seti2, t_seti3, t_setd, t_setd2, t_setd3, t_sta, t_ex, t_ret, t_ifs, t_ifs1, t_ifs0, t_lop, t_ss, t_ssr, t_ssb, t_ssc, t_ats, t_frz, t_sub, t_thru, t_thrur, o_nxt, v_set0, v_setS, d_set0, d_setD, d_setL, o_bind, z_frz0, z_frzS, List.getElem?_cons_zero, List.getElem?_cons_succ, r_ret, Option.getD_none]
theorem left_of_ok (n : Nat) {s : Sto} {r : Nat} {l : List Nd} (w : WOk l) (h : WkAt s r l) (v : List Int) : cf (n + 2) 22 [.ref r, .tup (v.map .int)] s = .ok (.tup ((leftV (kinds l) v).map .int)) s := by
  rw [u22]
  have zip : dZip ((kinds l).map fun k => D.int k.total) (v.map .int) = ((kinds l).zip v).map fun p => D.tup [.int p.1.total, .int p.2] := zip_map _ _ _ _
  have ok : okL (((kinds l).zip v).map fun p => D.tup [.int p.1.total, .int p.2]).length = true := okL_of (by
    rw [List.length_map, List.length_zip]
    have := rows_ok w
    omega)
  simp only [B22, e_non, e_bl, e_int, e_str, e_var, e_own, e_cst, e_bin, e_neg, e_cmp, e_chn, e_one, e_and, e_or, e_not, e_ite, e_idx, e_sl, e_tup, e_lst, e_cel, e_call, e_callk, e_bi, e_mth, e_isi, e_len, e_lc, e_fmt, e_fs, e_att, e_mk, e_mkk, e_um, e_dic0, e_dget, e_rgt, es_nil, es_cons, fs_nil, fs_cons, ts_nil, ts_one, src_seq, src_rg1, src_rg2, src_rg3, src_enum, src_zip, src_rev, k_bin, k_bin2, k_neg, k_cmp, k_cmp2, k_chn, k_chn2, k_chn3, k_chn4, k_and1, k_and0, k_or1, k_or0, k_not, k_ite, k_ite1, k_ite0, k_idx, k_idx2, k_sl, k_opt, k_sl2, k_sl3, k_dget, k_dget2, k_rgt, k_tup, k_lst, k_lst5, k_cel, k_call, k_callk, k_callk2, k_bi, k_mth, k_mth1, k_mth2, k_isi, k_len, k_lc, k_lcF, k_lc2, k_lc3t, k_lc3f, k_some, k_fmt, k_fs, k_mk, k_mkk, k_mkk2, k_att, k_um, k_evs, k_cons, k_tru, k_items, k_rg1, k_rg2, k_rg2b, k_rg3, k_rg3b, k_rg3c, k_enumL, k_enumT, k_zip, k_zipTT, k_zipLL, k_zipLT, k_zipTL, k_rev, v_val, o_owd, o_own, l_some, x_ok, o_map, s_set, s_setO, s_par, s_asg, s_aug, s_app, s_seti, s_setd, s_sta, s_ex, s_ret, s_retN, s_ifs, s_lop, s_whl, s_brk, s_cnt, s_pas, s_thru, ss_nil, ss_cons, ss_frz, at_name, at_sub, at_tup, ats_nil, ats_cons, t_set, t_setO, t_par, t_par2, t_asg, t_aug, t_augA, t_augS, t_app, t_app2, t_seti, t_seti2, t_seti3, t_setd, t_setd2, t_setd3, t_sta, t_ex, t_ret, t_ifs, t_ifs1, t_ifs0, t_lop, t_ss, t_ssr, t_ssb, t_ssc, t_ats, t_frz, t_sub, t_thru, t_thrur, o_nxt, v_set0, v_setS, d_set0, d_setD, d_setL, o_bind, z_frz0, z_frzS, List.getElem?_cons_zero, List.getElem?_cons_succ, att_totals w h, zip]
  rw [k_lc _ _ _ _ _ ok, lc_map (fun p : Row × Int => D.tup [.int p.1.total, .int p.2]) (fun p => D.int (p.1.total - p.2)) ((kinds l).zip v) fun p _ => by
    simp only [e_non, e_bl, e_int, e_str, e_var, e_own, e_cst, e_bin, e_neg, e_cmp, e_chn, e_one, e_and, e_or, e_not, e_ite, e_idx, e_sl, e_tup, e_lst, e_cel, e_call, e_callk, e_bi, e_mth, e_isi, e_len, e_lc, e_fmt, e_fs, e_att, e_mk, e_mkk, e_um, e_dic0, e_dget, e_rgt, es_nil, es_cons, fs_nil, fs_cons, ts_nil, ts_one, src_seq, src_rg1, src_rg2, src_rg3, src_enum, src_zip, src_rev, k_bin, k_bin2, k_neg, k_cmp, k_cmp2, k_chn, k_chn2, k_chn3, k_chn4, k_and1, k_and0, k_or1, k_or0, k_not, k_ite, k_ite1, k_ite0, k_idx, k_idx2, k_sl, k_opt, k_sl2, k_sl3, k_dget, k_dget2, k_rgt, k_tup, k_lst, k_lst5, k_cel, k_call, k_callk, k_callk2, k_bi, k_mth, k_mth1, k_mth2, k_isi, k_len, k_lc, k_lcF, k_lc2, k_lc3t, k_lc3f, k_some, k_fmt, k_fs, k_mk, k_mkk, k_mkk2, k_att, k_um, k_evs, k_cons, k_tru, k_items, k_rg1, k_rg2, k_rg2b, k_rg3, k_rg3b, k_rg3c, k_enumL, k_enumT, k_zip, k_zipTT, k_zipLL, k_zipLT, k_zipTL, k_rev, v_val, o_owd, o_own, l_some, x_ok, o_map, s_set, s_setO, s_par, s_asg, s_aug, s_app, s_seti, s_setd, s_sta, s_ex, s_ret, s_retN, s_ifs, s_lop, s_whl, s_brk, s_cnt, s_pas, s_thru, ss_nil, ss_cons, ss_frz, at_name, at_sub, at_tup, ats_nil, ats_cons, t_set, t_setO, t_par, t_par2, t_asg, t_aug, t_augA, t_augS, t_app, t_app2, t_seti, t_seti2, t_seti3, t_setd, t_setd2, t_setd3, t_sta, t_ex, t_ret, t_ifs, t_ifs1, t_ifs0, t_lop, t_ss, t_ssr, t_ssb, t_ssc, t_ats, t_frz, t_sub, t_thru, t_thrur, o_nxt, v_set0, v_setS, d_set0, d_setD, d_setL, o_bind, z_frz0, z_frzS, List.getElem?_cons_zero, List.getElem?_cons_succ, wipeE, List.set, b_tup, b_cons, b_name, b_nil, q_sub]]
  simp only [e_non, e_bl, e_int, e_str, e_var, e_own, e_cst, e_bin, e_neg, e_cmp, e_chn, e_one, e_and, e_or, e_not, e_ite, e_idx, e_sl, e_tup, e_lst, e_cel, e_call, e_callk, e_bi, e_mth, e_isi, e_len, e_lc, e_fmt, e_fs, e_att, e_mk, e_mkk, e_um, e_dic0, e_dget, e_rgt, es_nil, es_cons, fs_nil, fs_cons, ts_nil, ts_one, src_seq, src_rg1, src_rg2, src_rg3, src_enum, src_zip, src_rev, k_bin, k_bin2, k_neg, k_cmp, k_cmp2, k_chn, k_chn2, k_chn3, k_chn4, k_and1, k_and0, k_or1, k_or0, k_not, k_ite, k_ite1, k_ite0, k_idx, k_idx2, k_sl, k_opt, k_sl2, k_sl3, k_dget, k_dget2, k_rgt, k_tup, k_lst, k_lst5, k_cel, k_call, k_callk, k_callk2, k_bi, k_mth, k_mth1, k_mth2, k_isi, k_len, k_lc, k_lcF, k_lc2, k_lc3t, k_lc3f, k_some, k_fmt, k_fs, k_mk, k_mkk, k_mkk2, k_att, k_um, k_evs, k_cons, k_tru, k_items, k_rg1, k_rg2, k_rg2b, k_rg3, k_rg3b, k_rg3c, k_enumL, k_enumT, k_zip, k_zipTT, k_zipLL, k_zipLT, k_zipTL, k_rev, v_val, o_owd, o_own, l_some, x_ok, o_map, s_set, s_setO, s_par, s_asg, s_aug, s_app, s_seti, s_setd, s_sta, s_ex, s_ret, s_retN, s_ifs, s_lop, s_whl, s_brk, s_cnt, s_pas, s_thru, ss_nil, ss_cons, ss_frz, at_name, at_sub, at_tup, ats_nil, ats_cons, t_set, t_setO, t_par, t_par2, t_asg, t_aug, t_augA, t_augS, t_app, t_app2, t_seti, t_seti2, t_seti3, t_setd, t_setd2, t_setd3, t_sta, t_ex, t_ret, t_ifs, t_ifs1, t_ifs0, t_lop, t_ss, t_ssr, t_ssb, t_ssc, t_ats, t_frz, t_sub, t_thru, t_thrur, o_nxt, v_set0, v_setS, d_set0, d_setD, d_setL, o_bind, z_frz0, z_frzS, List.getElem?_cons_zero, List.getElem?_cons_succ, q_tupL, r_ret]
  unfold leftV
  rw [List.map_map]; rfl
theorem doable_of_ok (n : Nat) {s : Sto} {r : Nat} {l : List Nd} (w : WOk l) (ho : HomesOk (kinds l)) (hm : ∀ q ∈ kinds l, 1 ≤ q.many ∧ q.many ≤ 10 ^ 30) (h : WkAt s r l) (v : List Int) (hv : v.length = (kinds l).length) : cf (n + 2) 21 [.ref r, .tup (v.map .int)] s = .ok (.tup ((doV (kinds l) v).map .int)) s := by
  rw [u21]
  have t0 : ((kinds l).map fun k => D.int k.total) = ((kinds l).map Row.total).map D.int := by rw [List.map_map]; rfl
  simp only [B21, e_non, e_bl, e_int, e_str, e_var, e_own, e_cst, e_bin, e_neg, e_cmp, e_chn, e_one, e_and, e_or, e_not, e_ite, e_idx, e_sl, e_tup, e_lst, e_cel, e_call, e_callk, e_bi, e_mth, e_isi, e_len, e_lc, e_fmt, e_fs, e_att, e_mk, e_mkk, e_um, e_dic0, e_dget, e_rgt, es_nil, es_cons, fs_nil, fs_cons, ts_nil, ts_one, src_seq, src_rg1, src_rg2, src_rg3, src_enum, src_zip, src_rev, k_bin, k_bin2, k_neg, k_cmp, k_cmp2, k_chn, k_chn2, k_chn3, k_chn4, k_and1, k_and0, k_or1, k_or0, k_not, k_ite, k_ite1, k_ite0, k_idx, k_idx2, k_sl, k_opt, k_sl2, k_sl3, k_dget, k_dget2, k_rgt, k_tup, k_lst, k_lst5, k_cel, k_call, k_callk, k_callk2, k_bi, k_mth, k_mth1, k_mth2, k_isi, k_len, k_lc, k_lcF, k_lc2, k_lc3t, k_lc3f, k_some, k_fmt, k_fs, k_mk, k_mkk, k_mkk2, k_att, k_um, k_evs, k_cons, k_tru, k_items, k_rg1, k_rg2, k_rg2b, k_rg3, k_rg3b, k_rg3c, k_enumL, k_enumT, k_zip, k_zipTT, k_zipLL, k_zipLT, k_zipTL, k_rev, v_val, o_owd, o_own, l_some, x_ok, o_map, s_set, s_setO, s_par, s_asg, s_aug, s_app, s_seti, s_setd, s_sta, s_ex, s_ret, s_retN, s_ifs, s_lop, s_whl, s_brk, s_cnt, s_pas, s_thru, ss_nil, ss_cons, ss_frz, at_name, at_sub, at_tup, ats_nil, ats_cons, t_set, t_setO, t_par, t_par2, t_asg, t_aug, t_augA, t_augS, t_app, t_app2, t_seti, t_seti2, t_seti3, t_setd, t_setd2, t_setd3, t_sta, t_ex, t_ret, t_ifs, t_ifs1, t_ifs0, t_lop, t_ss, t_ssr, t_ssb, t_ssc, t_ats, t_frz, t_sub, t_thru, t_thrur, o_nxt, v_set0, v_setS, d_set0, d_setD, d_setL, o_bind, z_frz0, z_frzS, List.getElem?_cons_zero, List.getElem?_cons_succ, att_totals w h, q_lstT, att_kinds h, en_map, t0]
  have go := lop_inv (t := .tup [.name 3, .tup [.name 4, .name 5, .name 6, .name 7, .name 8]]) (f := evSs G0 (cf (n + 1)) (mf (n + 1)) (.cons (.ifs (.cmp .IsNot (.var 8) .non) (.cons (.seti 2 (.var 8) (.bi .min (.cons (.idx (.own 2) (.var 8)) (.cons (.bin .FloorDiv (.idx (.var 1) (.var 3)) (.var 5)) .nil)))) .nil) .nil) .nil))
    (fun ds env s' => ∃ (pr rs : List (Row × Nat)) (e3 e4 e5 e6 e7 e8 : Sl), (kinds l).zipIdx = pr ++ rs ∧ ds = rs.map (fun p => D.tup [.int (p.2 : Int), p.1.d]) ∧ env = [.val (.ref r), .val (.tup (v.map .int)), .own ((pr.foldl (doStep v) ((kinds l).map Row.total)).map .int), e3, e4, e5, e6, e7, e8, .und, .und] ∧ s' = s)
    (fun d ds env s' hp => by
      obtain ⟨pr, rs, e3, e4, e5, e6, e7, e8, h2, h3, h4, rfl⟩ := hp
      cases rs with
      | nil => cases h3
      | cons p rs =>
        cases h3
        subst h4
        obtain ⟨row, at_⟩ := p
        have hp : (row, at_) ∈ (kinds l).zipIdx := by rw [h2]; exact List.mem_append_right _ (List.mem_cons_self ..)
        have mz := List.mem_zipIdx hp
        have hk : at_ < v.length := by rw [hv]; have := mz.2.1; simpa using this
        have hr : row ∈ kinds l := by rw [mz.2.2]; exact List.getElem_mem _
        have lf : (pr.foldl (doStep v) ((kinds l).map Row.total)).length = (kinds l).length := by rw [len_doFold, List.length_map]
        generalize hF : pr.foldl (doStep v) ((kinds l).map Row.total) = F at lf
        have fin : (pr ++ [(row, at_)]).foldl (doStep v) ((kinds l).map Row.total) = doStep v F (row, at_) := by
          rw [List.foldl_append, hF]; rfl
        refine ⟨[.val (.ref r), .val (.tup (v.map .int)), .own (F.map .int), .val (.int (at_ : Int)), .val (.str row.name), .val (.int row.many), .val (.int row.level), .val (.int row.total), .val (hD row.home), .und, .und], [.val (.ref r), .val (.tup (v.map .int)), .own ((doStep v F (row, at_)).map .int), .val (.int (at_ : Int)), .val (.str row.name), .val (.int row.many), .val (.int row.level), .val (.int row.total), .val (hD row.home), .und, .und], s', ?_, ?_, ⟨pr ++ [(row, at_)], rs, .val (.int (at_ : Int)), .val (.str row.name), .val (.int row.many), .val (.int row.level), .val (.int row.total), .val (hD row.home), by rw [h2, List.append_assoc]; rfl, rfl, by rw [fin], rfl⟩⟩
        · simp only [b_tup, b_cons, b_name, b_nil, e_non, e_bl, e_int, e_str, e_var, e_own, e_cst, e_bin, e_neg, e_cmp, e_chn, e_one, e_and, e_or, e_not, e_ite, e_idx, e_sl, e_tup, e_lst, e_cel, e_call, e_callk, e_bi, e_mth, e_isi, e_len, e_lc, e_fmt, e_fs, e_att, e_mk, e_mkk, e_um, e_dic0, e_dget, e_rgt, es_nil, es_cons, fs_nil, fs_cons, ts_nil, ts_one, src_seq, src_rg1, src_rg2, src_rg3, src_enum, src_zip, src_rev, k_bin, k_bin2, k_neg, k_cmp, k_cmp2, k_chn, k_chn2, k_chn3, k_chn4, k_and1, k_and0, k_or1, k_or0, k_not, k_ite, k_ite1, k_ite0, k_idx, k_idx2, k_sl, k_opt, k_sl2, k_sl3, k_dget, k_dget2, k_rgt, k_tup, k_lst, k_lst5, k_cel, k_call, k_callk, k_callk2, k_bi, k_mth, k_mth1, k_mth2, k_isi, k_len, k_lc, k_lcF, k_lc2, k_lc3t, k_lc3f, k_some, k_fmt, k_fs, k_mk, k_mkk, k_mkk2, k_att, k_um, k_evs, k_cons, k_tru, k_items, k_rg1, k_rg2, k_rg2b, k_rg3, k_rg3b, k_rg3c, k_enumL, k_enumT, k_zip, k_zipTT, k_zipLL, k_zipLT, k_zipTL, k_rev, v_val, o_owd, o_own, l_some, x_ok, o_map, s_set, s_setO, s_par, s_asg, s_aug, s_app, s_seti, s_setd, s_sta, s_ex, s_ret, s_retN, s_ifs, s_lop, s_whl, s_brk, s_cnt, s_pas, s_thru, ss_nil, ss_cons, ss_frz, at_name, at_sub, at_tup, ats_nil, ats_cons, t_set, t_setO, t_par, t_par2, t_asg, t_aug, t_augA, t_augS, t_app, t_app2, t_seti, t_seti2, t_seti3, t_setd, t_setd2, t_setd3, t_sta, t_ex, t_ret, t_ifs, t_ifs1, t_ifs0, t_lop, t_ss, t_ssr, t_ssb, t_ssc, t_ats, t_frz, t_sub, t_thru, t_thrur, o_nxt, v_set0, v_setS, d_set0, d_setD, d_setL, o_bind, z_frz0, z_frzS, List.getElem?_cons_zero, List.getElem?_cons_succ, Row.d]
        · cases q : row.home with
          | none =>
            rw [doStep_none q]
            simp only [e_non, e_bl, e_int, e_str, e_var, e_own, e_cst, e_bin, e_neg, e_cmp, e_chn, e_one, e_and, e_or, e_not, e_ite, e_idx, e_sl, e_tup, e_lst, e_cel, e_call, e_callk, e_bi, e_mth, e_isi, e_len, e_lc, e_fmt, e_fs, e_att, e_mk, e_mkk, e_um, e_dic0, e_dget, e_rgt, es_nil, es_cons, fs_nil, fs_cons, ts_nil, ts_one, src_seq, src_rg1, src_rg2, src_rg3, src_enum, src_zip, src_rev, k_bin, k_bin2, k_neg, k_cmp, k_cmp2, k_chn, k_chn2, k_chn3, k_chn4, k_and1, k_and0, k_or1, k_or0, k_not, k_ite, k_ite1, k_ite0, k_idx, k_idx2, k_sl, k_opt, k_sl2, k_sl3, k_dget, k_dget2, k_rgt, k_tup, k_lst, k_lst5, k_cel, k_call, k_callk, k_callk2, k_bi, k_mth, k_mth1, k_mth2, k_isi, k_len, k_lc, k_lcF, k_lc2, k_lc3t, k_lc3f, k_some, k_fmt, k_fs, k_mk, k_mkk, k_mkk2, k_att, k_um, k_evs, k_cons, k_tru, k_items, k_rg1, k_rg2, k_rg2b, k_rg3, k_rg3b, k_rg3c, k_enumL, k_enumT, k_zip, k_zipTT, k_zipLL, k_zipLT, k_zipTL, k_rev, v_val, o_owd, o_own, l_some, x_ok, o_map, s_set, s_setO, s_par, s_asg, s_aug, s_app, s_seti, s_setd, s_sta, s_ex, s_ret, s_retN, s_ifs, s_lop, s_whl, s_brk, s_cnt, s_pas, s_thru, ss_nil, ss_cons, ss_frz, at_name, at_sub, at_tup, ats_nil, ats_cons, t_set, t_setO, t_par, t_par2, t_asg, t_aug, t_augA, t_augS, t_app, t_app2, t_seti, t_seti2, t_seti3, t_setd, t_setd2, t_setd3, t_sta, t_ex, t_ret, t_ifs, t_ifs1, t_ifs0, t_lop, t_ss, t_ssr, t_ssb, t_ssc, t_ats, t_frz, t_sub, t_thru, t_thrur, o_nxt, v_set0, v_setS, d_set0, d_setD, d_setL, o_bind, z_frz0, z_frzS, List.getElem?_cons_zero, List.getElem?_cons_succ, hD, q_isn, D.isN, Bool.not_true, q_tb]
          | some k =>
            rw [doStep_some q]
            have hk2 : k < F.length := by rw [lf]; exact ho _ hr _ q
            have m1 := (hm _ hr).1
            have m3 := m_abs m1 (hm _ hr).2
            have dv : dBin .FloorDiv (.int (v.getD at_ 0)) (.int row.many) = some (.int (v.getD at_ 0 / row.many)) := q_div _ _ (by omega) (by
              have : (row.many.natAbs : Int) = row.many := Int.natAbs_of_nonneg (by omega)
              have z : ((10 ^ 1000 : Nat) : Int) = 10 ^ 1000 := by norm_cast
              omega)
            have st : setAt (F.map D.int) (k : Int) (.int (minI2 (F.getD k 0) (v.getD at_ 0 / row.many))) = some ((F.set k (minI2 (F.getD k 0) (v.getD at_ 0 / row.many))).map .int) := by
              rw [setAt_n (by rw [List.length_map]; exact hk2), List.map_set]
            have mi : dBi .min [.int (F.getD k 0), .int (v.getD at_ 0 / row.many)] = some (.int (minI2 (F.getD k 0) (v.getD at_ 0 / row.many))) := rfl
            simp only [e_non, e_bl, e_int, e_str, e_var, e_own, e_cst, e_bin, e_neg, e_cmp, e_chn, e_one, e_and, e_or, e_not, e_ite, e_idx, e_sl, e_tup, e_lst, e_cel, e_call, e_callk, e_bi, e_mth, e_isi, e_len, e_lc, e_fmt, e_fs, e_att, e_mk, e_mkk, e_um, e_dic0, e_dget, e_rgt, es_nil, es_cons, fs_nil, fs_cons, ts_nil, ts_one, src_seq, src_rg1, src_rg2, src_rg3, src_enum, src_zip, src_rev, k_bin, k_bin2, k_neg, k_cmp, k_cmp2, k_chn, k_chn2, k_chn3, k_chn4, k_and1, k_and0, k_or1, k_or0, k_not, k_ite, k_ite1, k_ite0, k_idx, k_idx2, k_sl, k_opt, k_sl2, k_sl3, k_dget, k_dget2, k_rgt, k_tup, k_lst, k_lst5, k_cel, k_call, k_callk, k_callk2, k_bi, k_mth, k_mth1, k_mth2, k_isi, k_len, k_lc, k_lcF, k_lc2, k_lc3t, k_lc3f, k_some, k_fmt, k_fs, k_mk, k_mkk, k_mkk2, k_att, k_um, k_evs, k_cons, k_tru, k_items, k_rg1, k_rg2, k_rg2b, k_rg3, k_rg3b, k_rg3c, k_enumL, k_enumT, k_zip, k_zipTT, k_zipLL, k_zipLT, k_zipTL, k_rev, v_val, o_owd, o_own, l_some, x_ok, o_map, s_set, s_setO, s_par, s_asg, s_aug, s_app, s_seti, s_setd, s_sta, s_ex, s_ret, s_retN, s_ifs, s_lop, s_whl, s_brk, s_cnt, s_pas, s_thru, ss_nil, ss_cons, ss_frz, at_name, at_sub, at_tup, ats_nil, ats_cons, t_set, t_setO, t_par, t_par2, t_asg, t_aug, t_augA, t_augS, t_app, t_app2, t_seti, t_seti2, t_seti3, t_setd, t_setd2, t_setd3, t_sta, t_ex, t_ret, t_ifs, t_ifs1, t_ifs0, t_lop, t_ss, t_ssr, t_ssb, t_ssc, t_ats, t_frz, t_sub, t_thru, t_thrur, o_nxt, v_set0, v_setS, d_set0, d_setD, d_setL, o_bind, z_frz0, z_frzS, List.getElem?_cons_zero, List.getElem?_cons_succ, hD, q_isn, D.isN, Bool.not_false, q_tb, ixIL hk2, ixI hk, dv, mi, st, List.set]
            rw [t_seti3 _ _ _ _ _ st]
            simp only [e_non, e_bl, e_int, e_str, e_var, e_own, e_cst, e_bin, e_neg, e_cmp, e_chn, e_one, e_and, e_or, e_not, e_ite, e_idx, e_sl, e_tup, e_lst, e_cel, e_call, e_callk, e_bi, e_mth, e_isi, e_len, e_lc, e_fmt, e_fs, e_att, e_mk, e_mkk, e_um, e_dic0, e_dget, e_rgt, es_nil, es_cons, fs_nil, fs_cons, ts_nil, ts_one, src_seq, src_rg1, src_rg2, src_rg3, src_enum, src_zip, src_rev, k_bin, k_bin2, k_neg, k_cmp, k_cmp2, k_chn, k_chn2, k_chn3, k_chn4, k_and1, k_and0, k_or1, k_or0, k_not, k_ite, k_ite1, k_ite0, k_idx, k_idx2, k_sl, k_opt, k_sl2, k_sl3, k_dget, k_dget2, k_rgt, k_tup, k_lst, k_lst5, k_cel, k_call, k_callk, k_callk2, k_bi, k_mth, k_mth1, k_mth2, k_isi, k_len, k_lc, k_lcF, k_lc2, k_lc3t, k_lc3f, k_some, k_fmt, k_fs, k_mk, k_mkk, k_mkk2, k_att, k_um, k_evs, k_cons, k_tru, k_items, k_rg1, k_rg2, k_rg2b, k_rg3, k_rg3b, k_rg3c, k_enumL, k_enumT, k_zip, k_zipTT, k_zipLL, k_zipLT, k_zipTL, k_rev, v_val, o_owd, o_own, l_some, x_ok, o_map, s_set, s_setO, s_par, s_asg, s_aug, s_app, s_seti, s_setd, s_sta, s_ex, s_ret, s_retN, s_ifs, s_lop, s_whl, s_brk, s_cnt, s_pas, s_thru, ss_nil, ss_cons, ss_frz, at_name, at_sub, at_tup, ats_nil, ats_cons, t_set, t_setO, t_par, t_par2, t_asg, t_aug, t_augA, t_augS, t_app, t_app2, t_seti, t_seti2, t_seti3, t_setd, t_setd2, t_setd3, t_sta, t_ex, t_ret, t_ifs, t_ifs1, t_ifs0, t_lop, t_ss, t_ssr, t_ssb, t_ssc, t_ats, t_frz, t_sub, t_thru, t_thrur, o_nxt, v_set0, v_setS, d_set0, d_setD, d_setL, o_bind, z_frz0, z_frzS, List.getElem?_cons_zero, List.getElem?_cons_succ, List.set])
    ((kinds l).zipIdx.map fun p => D.tup [.int (p.2 : Int), p.1.d]) [.val (.ref r), .val (.tup (v.map .int)), .own (((kinds l).map Row.total).map .int), .und, .und, .und, .und, .und, .und, .und, .und] s ⟨[], _, _, _, _, _, _, _, rfl, rfl, rfl, rfl⟩
  obtain ⟨env', s', e, pr, rs, e3, e4, e5, e6, e7, e8, h2, h3, h4, rfl⟩ := go
  cases rs with
  | cons a z => cases h3
  | nil =>
    rw [List.append_nil] at h2
    have zip : dZip ((doF (kinds l) v).map .int) (v.map .int) = ((doF (kinds l) v).zip v).map fun p => D.tup [.int p.1, .int p.2] := zip_map _ _ _ _
    have ok : okL (((doF (kinds l) v).zip v).map fun p => D.tup [.int p.1, .int p.2]).length = true := okL_of (by
      rw [List.length_map, List.length_zip, len_doF]
      have := rows_ok w
      omega)
    rw [e, h4, ← h2]
    show kRun ((RS.nxt [.val (.ref r), .val (.tup (v.map .int)), .own ((doF (kinds l) v).map .int), e3, e4, e5, e6, e7, e8, .und, .und] s').bind _) = _
    simp only [e_non, e_bl, e_int, e_str, e_var, e_own, e_cst, e_bin, e_neg, e_cmp, e_chn, e_one, e_and, e_or, e_not, e_ite, e_idx, e_sl, e_tup, e_lst, e_cel, e_call, e_callk, e_bi, e_mth, e_isi, e_len, e_lc, e_fmt, e_fs, e_att, e_mk, e_mkk, e_um, e_dic0, e_dget, e_rgt, es_nil, es_cons, fs_nil, fs_cons, ts_nil, ts_one, src_seq, src_rg1, src_rg2, src_rg3, src_enum, src_zip, src_rev, k_bin, k_bin2, k_neg, k_cmp, k_cmp2, k_chn, k_chn2, k_chn3, k_chn4, k_and1, k_and0, k_or1, k_or0, k_not, k_ite, k_ite1, k_ite0, k_idx, k_idx2, k_sl, k_opt, k_sl2, k_sl3, k_dget, k_dget2, k_rgt, k_tup, k_lst, k_lst5, k_cel, k_call, k_callk, k_callk2, k_bi, k_mth, k_mth1, k_mth2, k_isi, k_len, k_lc, k_lcF, k_lc2, k_lc3t, k_lc3f, k_some, k_fmt, k_fs, k_mk, k_mkk, k_mkk2, k_att, k_um, k_evs, k_cons, k_tru, k_items, k_rg1, k_rg2, k_rg2b, k_rg3, k_rg3b, k_rg3c, k_enumL, k_enumT, k_zip, k_zipTT, k_zipLL, k_zipLT, k_zipTL, k_rev, v_val, o_owd, o_own, l_some, x_ok, o_map, s_set, s_setO, s_par, s_asg, s_aug, s_app, s_seti, s_setd, s_sta, s_ex, s_ret, s_retN, s_ifs, s_lop, s_whl, s_brk, s_cnt, s_pas, s_thru, ss_nil, ss_cons, ss_frz, at_name, at_sub, at_tup, ats_nil, ats_cons, t_set, t_setO, t_par, t_par2, t_asg, t_aug, t_augA, t_augS, t_app, t_app2, t_seti, t_seti2, t_seti3, t_setd, t_setd2, t_setd3, t_sta, t_ex, t_ret, t_ifs, t_ifs1, t_ifs0, t_lop, t_ss, t_ssr, t_ssb, t_ssc, t_ats, t_frz, t_sub, t_thru, t_thrur, o_nxt, v_set0, v_setS, d_set0, d_setD, d_setL, o_bind, z_frz0, z_frzS, List.getElem?_cons_zero, List.getElem?_cons_succ, zip]
    rw [k_lc _ _ _ _ _ ok, lc_map (fun p : Int × Int => D.tup [.int p.1, .int p.2]) (fun p => D.int (p.1 - p.2)) ((doF (kinds l) v).zip v) fun p _ => by
      simp only [e_non, e_bl, e_int, e_str, e_var, e_own, e_cst, e_bin, e_neg, e_cmp, e_chn, e_one, e_and, e_or, e_not, e_ite, e_idx, e_sl, e_tup, e_lst, e_cel, e_call, e_callk, e_bi, e_mth, e_isi, e_len, e_lc, e_fmt, e_fs, e_att, e_mk, e_mkk, e_um, e_dic0, e_dget, e_rgt, es_nil, es_cons, fs_nil, fs_cons, ts_nil, ts_one, src_seq, src_rg1, src_rg2, src_rg3, src_enum, src_zip, src_rev, k_bin, k_bin2, k_neg, k_cmp, k_cmp2, k_chn, k_chn2, k_chn3, k_chn4, k_and1, k_and0, k_or1, k_or0, k_not, k_ite, k_ite1, k_ite0, k_idx, k_idx2, k_sl, k_opt, k_sl2, k_sl3, k_dget, k_dget2, k_rgt, k_tup, k_lst, k_lst5, k_cel, k_call, k_callk, k_callk2, k_bi, k_mth, k_mth1, k_mth2, k_isi, k_len, k_lc, k_lcF, k_lc2, k_lc3t, k_lc3f, k_some, k_fmt, k_fs, k_mk, k_mkk, k_mkk2, k_att, k_um, k_evs, k_cons, k_tru, k_items, k_rg1, k_rg2, k_rg2b, k_rg3, k_rg3b, k_rg3c, k_enumL, k_enumT, k_zip, k_zipTT, k_zipLL, k_zipLT, k_zipTL, k_rev, v_val, o_owd, o_own, l_some, x_ok, o_map, s_set, s_setO, s_par, s_asg, s_aug, s_app, s_seti, s_setd, s_sta, s_ex, s_ret, s_retN, s_ifs, s_lop, s_whl, s_brk, s_cnt, s_pas, s_thru, ss_nil, ss_cons, ss_frz, at_name, at_sub, at_tup, ats_nil, ats_cons, t_set, t_setO, t_par, t_par2, t_asg, t_aug, t_augA, t_augS, t_app, t_app2, t_seti, t_seti2, t_seti3, t_setd, t_setd2, t_setd3, t_sta, t_ex, t_ret, t_ifs, t_ifs1, t_ifs0, t_lop, t_ss, t_ssr, t_ssb, t_ssc, t_ats, t_frz, t_sub, t_thru, t_thrur, o_nxt, v_set0, v_setS, d_set0, d_setD, d_setL, o_bind, z_frz0, z_frzS, List.getElem?_cons_zero, List.getElem?_cons_succ, wipeE, List.set, b_tup, b_cons, b_name, b_nil, q_sub]]
    simp only [e_non, e_bl, e_int, e_str, e_var, e_own, e_cst, e_bin, e_neg, e_cmp, e_chn, e_one, e_and, e_or, e_not, e_ite, e_idx, e_sl, e_tup, e_lst, e_cel, e_call, e_callk, e_bi, e_mth, e_isi, e_len, e_lc, e_fmt, e_fs, e_att, e_mk, e_mkk, e_um, e_dic0, e_dget, e_rgt, es_nil, es_cons, fs_nil, fs_cons, ts_nil, ts_one, src_seq, src_rg1, src_rg2, src_rg3, src_enum, src_zip, src_rev, k_bin, k_bin2, k_neg, k_cmp, k_cmp2, k_chn, k_chn2, k_chn3, k_chn4, k_and1, k_and0, k_or1, k_or0, k_not, k_ite, k_ite1, k_ite0, k_idx, k_idx2, k_sl, k_opt, k_sl2, k_sl3, k_dget, k_dget2, k_rgt, k_tup, k_lst, k_lst5, k_cel, k_call, k_callk, k_callk2, k_bi, k_mth, k_mth1, k_mth2, k_isi, k_len, k_lc, k_lcF, k_lc2, k_lc3t, k_lc3f, k_some, k_fmt, k_fs, k_mk, k_mkk, k_mkk2, k_att, k_um, k_evs, k_cons, k_tru, k_items, k_rg1, k_rg2, k_rg2b, k_rg3, k_rg3b, k_rg3c, k_enumL, k_enumT, k_zip, k_zipTT, k_zipLL, k_zipLT, k_zipTL, k_rev, v_val, o_owd, o_own, l_some, x_ok, o_map, s_set, s_setO, s_par, s_asg, s_aug, s_app, s_seti, s_setd, s_sta, s_ex, s_ret, s_retN, s_ifs, s_lop, s_whl, s_brk, s_cnt, s_pas, s_thru, ss_nil, ss_cons, ss_frz, at_name, at_sub, at_tup, ats_nil, ats_cons, t_set, t_setO, t_par, t_par2, t_asg, t_aug, t_augA, t_augS, t_app, t_app2, t_seti, t_seti2, t_seti3, t_setd, t_setd2, t_setd3, t_sta, t_ex, t_ret, t_ifs, t_ifs1, t_ifs0, t_lop, t_ss, t_ssr, t_ssb, t_ssc, t_ats, t_frz, t_sub, t_thru, t_thrur, o_nxt, v_set0, v_setS, d_set0, d_setD, d_setL, o_bind, z_frz0, z_frzS, List.getElem?_cons_zero, List.getElem?_cons_succ, q_tupL, r_ret]
    unfold doV
    rw [List.map_map]; rfl
end Lk16
set_option Elab.async false
set_option linter.all false
set_option maxRecDepth 100000
set_option maxHeartbeats 1000000
/-! states of a Work, asked -/
namespace Lk16
open Lv PySem
theorem are_done_ok (n : Nat) {s : Sto} {r : Nat} {l : List Nd} (w : WOk l) (h : WkAt s r l) (v : List Int) (hv : v.length = (kinds l).length) : cf (n + 4) 16 [.ref r, .tup (v.map .int)] s = .ok (.bl (okSt (kinds l) v)) s := by
  rw [u16]
  have K := kok w
  unfold okSt
  cases q : wrongNo (kinds l) v with
  | some d =>
    obtain ⟨k, rfl⟩ := wrongNo_form q
    simp only [B16, e_non, e_bl, e_int, e_str, e_var, e_own, e_cst, e_bin, e_neg, e_cmp, e_chn, e_one, e_and, e_or, e_not, e_ite, e_idx, e_sl, e_tup, e_lst, e_cel, e_call, e_callk, e_bi, e_mth, e_isi, e_len, e_lc, e_fmt, e_fs, e_att, e_mk, e_mkk, e_um, e_dic0, e_dget, e_rgt, es_nil, es_cons, fs_nil, fs_cons, ts_nil, ts_one, src_seq, src_rg1, src_rg2, src_rg3, src_enum, src_zip, src_rev, k_bin, k_bin2, k_neg, k_cmp, k_cmp2, k_chn, k_chn2, k_chn3, k_chn4, k_and1, k_and0, k_or1, k_or0, k_not, k_ite, k_ite1, k_ite0, k_idx, k_idx2, k_sl, k_opt, k_sl2, k_sl3, k_dget, k_dget2, k_rgt, k_tup, k_lst, k_lst5, k_cel, k_call, k_callk, k_callk2, k_bi, k_mth, k_mth1, k_mth2, k_isi, k_len, k_lc, k_lcF, k_lc2, k_lc3t, k_lc3f, k_some, k_fmt, k_fs, k_mk, k_mkk, k_mkk2, k_att, k_um, k_evs, k_cons, k_tru, k_items, k_rg1, k_rg2, k_rg2b, k_rg3, k_rg3b, k_rg3c, k_enumL, k_enumT, k_zip, k_zipTT, k_zipLL, k_zipLT, k_zipTL, k_rev, v_val, o_owd, o_own, l_some, x_ok, o_map, s_set, s_setO, s_par, s_asg, s_aug, s_app, s_seti, s_setd, s_sta, s_ex, s_ret, s_retN, s_ifs, s_lop, s_whl, s_brk, s_cnt, s_pas, s_thru, ss_nil, ss_cons, ss_frz, at_name, at_sub, at_tup, ats_nil, ats_cons, t_set, t_setO, t_par, t_par2, t_asg, t_aug, t_augA, t_augS, t_app, t_app2, t_seti, t_seti2, t_seti3, t_setd, t_setd2, t_setd3, t_sta, t_ex, t_ret, t_ifs, t_ifs1, t_ifs0, t_lop, t_ss, t_ssr, t_ssb, t_ssc, t_ats, t_frz, t_sub, t_thru, t_thrur, o_nxt, v_set0, v_setS, d_set0, d_setD, d_setL, o_bind, z_frz0, z_frzS, List.getElem?_cons_zero, List.getElem?_cons_succ, wrong_number_ok _ w h v hv, q, Option.getD_some, q_eq, eq_tup0, r_ret, Option.isNone_some, Bool.false_and]
  | none =>
    have e0 : dEq (.tup []) (.tup []) = some true := rfl
    have sm := wrong_small K hv q
    simp only [B16, e_non, e_bl, e_int, e_str, e_var, e_own, e_cst, e_bin, e_neg, e_cmp, e_chn, e_one, e_and, e_or, e_not, e_ite, e_idx, e_sl, e_tup, e_lst, e_cel, e_call, e_callk, e_bi, e_mth, e_isi, e_len, e_lc, e_fmt, e_fs, e_att, e_mk, e_mkk, e_um, e_dic0, e_dget, e_rgt, es_nil, es_cons, fs_nil, fs_cons, ts_nil, ts_one, src_seq, src_rg1, src_rg2, src_rg3, src_enum, src_zip, src_rev, k_bin, k_bin2, k_neg, k_cmp, k_cmp2, k_chn, k_chn2, k_chn3, k_chn4, k_and1, k_and0, k_or1, k_or0, k_not, k_ite, k_ite1, k_ite0, k_idx, k_idx2, k_sl, k_opt, k_sl2, k_sl3, k_dget, k_dget2, k_rgt, k_tup, k_lst, k_lst5, k_cel, k_call, k_callk, k_callk2, k_bi, k_mth, k_mth1, k_mth2, k_isi, k_len, k_lc, k_lcF, k_lc2, k_lc3t, k_lc3f, k_some, k_fmt, k_fs, k_mk, k_mkk, k_mkk2, k_att, k_um, k_evs, k_cons, k_tru, k_items, k_rg1, k_rg2, k_rg2b, k_rg3, k_rg3b, k_rg3c, k_enumL, k_enumT, k_zip, k_zipTT, k_zipLL, k_zipLT, k_zipTL, k_rev, v_val, o_owd, o_own, l_some, x_ok, o_map, s_set, s_setO, s_par, s_asg, s_aug, s_app, s_seti, s_setd, s_sta, s_ex, s_ret, s_retN, s_ifs, s_lop, s_whl, s_brk, s_cnt, s_pas, s_thru, ss_nil, ss_cons, ss_frz, at_name, at_sub, at_tup, ats_nil, ats_cons, t_set, t_setO, t_par, t_par2, t_asg, t_aug, t_augA, t_augS, t_app, t_app2, t_seti, t_seti2, t_seti3, t_setd, t_setd2, t_setd3, t_sta, t_ex, t_ret, t_ifs, t_ifs1, t_ifs0, t_lop, t_ss, t_ssr, t_ssb, t_ssc, t_ats, t_frz, t_sub, t_thru, t_thrur, o_nxt, v_set0, v_setS, d_set0, d_setD, d_setL, o_bind, z_frz0, z_frzS, List.getElem?_cons_zero, List.getElem?_cons_succ, wrong_number_ok _ w h v hv, q, Option.getD_none, q_eq, e0, first_lack_ok _ w K.homes K.many h v v hv hv (fun x hx => abs_60 (sm x hx)), q_is, Option.isNone_none, Bool.true_and, r_ret]
    cases q2 : lack (kinds l) v v with
    | none => rfl
    | some d =>
      obtain ⟨x, rfl⟩ := lack_form q2
      rfl
theorem okSt_two {R : List Row} {v : List Int} (h : okSt R v = true) : wrongNo R v = none ∧ lack R v v = none := by
  unfold okSt at h
  rw [Bool.and_eq_true] at h
  exact ⟨Option.isNone_iff_eq_none.mp h.1, Option.isNone_iff_eq_none.mp h.2⟩
theorem check_state_ok (n : Nat) {s : Sto} {r : Nat} {l : List Nd} (w : WOk l) (h : WkAt s r l) (v : List Int) (hv : v.length = (kinds l).length) (ok : okSt (kinds l) v = true) : cf (n + 4) 18 [.ref r, .tup (v.map .int)] s = .ok .non s := by
  rw [u18]
  have K := kok w
  obtain ⟨q, q2⟩ := okSt_two ok
  have e0 : dEq (.tup []) (.tup []) = some true := rfl
  have sm := wrong_small K hv q
  simp only [B18, e_non, e_bl, e_int, e_str, e_var, e_own, e_cst, e_bin, e_neg, e_cmp, e_chn, e_one, e_and, e_or, e_not, e_ite, e_idx, e_sl, e_tup, e_lst, e_cel, e_call, e_callk, e_bi, e_mth, e_isi, e_len, e_lc, e_fmt, e_fs, e_att, e_mk, e_mkk, e_um, e_dic0, e_dget, e_rgt, es_nil, es_cons, fs_nil, fs_cons, ts_nil, ts_one, src_seq, src_rg1, src_rg2, src_rg3, src_enum, src_zip, src_rev, k_bin, k_bin2, k_neg, k_cmp, k_cmp2, k_chn, k_chn2, k_chn3, k_chn4, k_and1, k_and0, k_or1, k_or0, k_not, k_ite, k_ite1, k_ite0, k_idx, k_idx2, k_sl, k_opt, k_sl2, k_sl3, k_dget, k_dget2, k_rgt, k_tup, k_lst, k_lst5, k_cel, k_call, k_callk, k_callk2, k_bi, k_mth, k_mth1, k_mth2, k_isi, k_len, k_lc, k_lcF, k_lc2, k_lc3t, k_lc3f, k_some, k_fmt, k_fs, k_mk, k_mkk, k_mkk2, k_att, k_um, k_evs, k_cons, k_tru, k_items, k_rg1, k_rg2, k_rg2b, k_rg3, k_rg3b, k_rg3c, k_enumL, k_enumT, k_zip, k_zipTT, k_zipLL, k_zipLT, k_zipTL, k_rev, v_val, o_owd, o_own, l_some, x_ok, o_map, s_set, s_setO, s_par, s_asg, s_aug, s_app, s_seti, s_setd, s_sta, s_ex, s_ret, s_retN, s_ifs, s_lop, s_whl, s_brk, s_cnt, s_pas, s_thru, ss_nil, ss_cons, ss_frz, at_name, at_sub, at_tup, ats_nil, ats_cons, t_set, t_setO, t_par, t_par2, t_asg, t_aug, t_augA, t_augS, t_app, t_app2, t_seti, t_seti2, t_seti3, t_setd, t_setd2, t_setd3, t_sta, t_ex, t_ret, t_ifs, t_ifs1, t_ifs0, t_lop, t_ss, t_ssr, t_ssb, t_ssc, t_ats, t_frz, t_sub, t_thru, t_thrur, o_nxt, v_set0, v_setS, d_set0, d_setD, d_setL, o_bind, z_frz0, z_frzS, List.getElem?_cons_zero, List.getElem?_cons_succ, wrong_number_ok _ w h v hv, q, Option.getD_none, q_ne, e0, Bool.not_true, q_tb, first_lack_ok _ w K.homes K.many h v v hv hv (fun x hx => abs_60 (sm x hx)), q2, q_isn, D.isN, r_nxt]
theorem check_both_ok (n : Nat) {s : Sto} {r : Nat} {l : List Nd} (w : WOk l) (h : WkAt s r l) (v : List Int) (hv : v.length = (kinds l).length) (ok : okSt (kinds l) v = true) : cf (n + 5) 20 [.ref r, .tup (v.map .int)] s = .ok .non s := by
  rw [u20]
  simp only [B20, e_non, e_bl, e_int, e_str, e_var, e_own, e_cst, e_bin, e_neg, e_cmp, e_chn, e_one, e_and, e_or, e_not, e_ite, e_idx, e_sl, e_tup, e_lst, e_cel, e_call, e_callk, e_bi, e_mth, e_isi, e_len, e_lc, e_fmt, e_fs, e_att, e_mk, e_mkk, e_um, e_dic0, e_dget, e_rgt, es_nil, es_cons, fs_nil, fs_cons, ts_nil, ts_one, src_seq, src_rg1, src_rg2, src_rg3, src_enum, src_zip, src_rev, k_bin, k_bin2, k_neg, k_cmp, k_cmp2, k_chn, k_chn2, k_chn3, k_chn4, k_and1, k_and0, k_or1, k_or0, k_not, k_ite, k_ite1, k_ite0, k_idx, k_idx2, k_sl, k_opt, k_sl2, k_sl3, k_dget, k_dget2, k_rgt, k_tup, k_lst, k_lst5, k_cel, k_call, k_callk, k_callk2, k_bi, k_mth, k_mth1, k_mth2, k_isi, k_len, k_lc, k_lcF, k_lc2, k_lc3t, k_lc3f, k_some, k_fmt, k_fs, k_mk, k_mkk, k_mkk2, k_att, k_um, k_evs, k_cons, k_tru, k_items, k_rg1, k_rg2, k_rg2b, k_rg3, k_rg3b, k_rg3c, k_enumL, k_enumT, k_zip, k_zipTT, k_zipLL, k_zipLT, k_zipTL, k_rev, v_val, o_owd, o_own, l_some, x_ok, o_map, s_set, s_setO, s_par, s_asg, s_aug, s_app, s_seti, s_setd, s_sta, s_ex, s_ret, s_retN, s_ifs, s_lop, s_whl, s_brk, s_cnt, s_pas, s_thru, ss_nil, ss_cons, ss_frz, at_name, at_sub, at_tup, ats_nil, ats_cons, t_set, t_setO, t_par, t_par2, t_asg, t_aug, t_augA, t_augS, t_app, t_app2, t_seti, t_seti2, t_seti3, t_setd, t_setd2, t_setd3, t_sta, t_ex, t_ret, t_ifs, t_ifs1, t_ifs0, t_lop, t_ss, t_ssr, t_ssb, t_ssc, t_ats, t_frz, t_sub, t_thru, t_thrur, o_nxt, v_set0, v_setS, d_set0, d_setD, d_setL, o_bind, z_frz0, z_frzS, List.getElem?_cons_zero, List.getElem?_cons_succ, check_work_ok _ h, check_state_ok _ w h v hv ok, r_nxt]
theorem is_state_ok (n : Nat) {s : Sto} {r : Nat} {l : List Nd} (w : WOk l) (h : WkAt s r l) (v : List Int) (hv : v.length = (kinds l).length) : cf (n + 5) 9 [.ref r, .tup (v.map .int)] s = .ok (.bl (okSt (kinds l) v)) s := by
  rw [u9]
  simp only [B9, e_non, e_bl, e_int, e_str, e_var, e_own, e_cst, e_bin, e_neg, e_cmp, e_chn, e_one, e_and, e_or, e_not, e_ite, e_idx, e_sl, e_tup, e_lst, e_cel, e_call, e_callk, e_bi, e_mth, e_isi, e_len, e_lc, e_fmt, e_fs, e_att, e_mk, e_mkk, e_um, e_dic0, e_dget, e_rgt, es_nil, es_cons, fs_nil, fs_cons, ts_nil, ts_one, src_seq, src_rg1, src_rg2, src_rg3, src_enum, src_zip, src_rev, k_bin, k_bin2, k_neg, k_cmp, k_cmp2, k_chn, k_chn2, k_chn3, k_chn4, k_and1, k_and0, k_or1, k_or0, k_not, k_ite, k_ite1, k_ite0, k_idx, k_idx2, k_sl, k_opt, k_sl2, k_sl3, k_dget, k_dget2, k_rgt, k_tup, k_lst, k_lst5, k_cel, k_call, k_callk, k_callk2, k_bi, k_mth, k_mth1, k_mth2, k_isi, k_len, k_lc, k_lcF, k_lc2, k_lc3t, k_lc3f, k_some, k_fmt, k_fs, k_mk, k_mkk, k_mkk2, k_att, k_um, k_evs, k_cons, k_tru, k_items, k_rg1, k_rg2, k_rg2b, k_rg3, k_rg3b, k_rg3c, k_enumL, k_enumT, k_zip, k_zipTT, k_zipLL, k_zipLT, k_zipTL, k_rev, v_val, o_owd, o_own, l_some, x_ok, o_map, s_set, s_setO, s_par, s_asg, s_aug, s_app, s_seti, s_setd, s_sta, s_ex, s_ret, s_retN, s_ifs, s_lop, s_whl, s_brk, s_cnt, s_pas, s_thru, ss_nil, ss_cons, ss_frz, at_name, at_sub, at_tup, ats_nil, ats_cons, t_set, t_setO, t_par, t_par2, t_asg, t_aug, t_augA, t_augS, t_app, t_app2, t_seti, t_seti2, t_seti3, t_setd, t_setd2, t_setd3, t_sta, t_ex, t_ret, t_ifs, t_ifs1, t_ifs0, t_lop, t_ss, t_ssr, t_ssb, t_ssc, t_ats, t_frz, t_sub, t_thru, t_thrur, o_nxt, v_set0, v_setS, d_set0, d_setD, d_setL, o_bind, z_frz0, z_frzS, List.getElem?_cons_zero, List.getElem?_cons_succ, check_work_ok _ h, are_done_ok _ w h v hv, r_ret]
theorem left_ok (n : Nat) {s : Sto} {r : Nat} {l : List Nd} (w : WOk l) (h : WkAt s r l) (v : List Int) (hv : v.length = (kinds l).length) (ok : okSt (kinds l) v = true) : cf (n + 6) 12 [.ref r, .tup (v.map .int)] s = .ok (.tup ((leftV (kinds l) v).map .int)) s := by
  rw [u12]
  simp only [B12, e_non, e_bl, e_int, e_str, e_var, e_own, e_cst, e_bin, e_neg, e_cmp, e_chn, e_one, e_and, e_or, e_not, e_ite, e_idx, e_sl, e_tup, e_lst, e_cel, e_call, e_callk, e_bi, e_mth, e_isi, e_len, e_lc, e_fmt, e_fs, e_att, e_mk, e_mkk, e_um, e_dic0, e_dget, e_rgt, es_nil, es_cons, fs_nil, fs_cons, ts_nil, ts_one, src_seq, src_rg1, src_rg2, src_rg3, src_enum, src_zip, src_rev, k_bin, k_bin2, k_neg, k_cmp, k_cmp2, k_chn, k_chn2, k_chn3, k_chn4, k_and1, k_and0, k_or1, k_or0, k_not, k_ite, k_ite1, k_ite0, k_idx, k_idx2, k_sl, k_opt, k_sl2, k_sl3, k_dget, k_dget2, k_rgt, k_tup, k_lst, k_lst5, k_cel, k_call, k_callk, k_callk2, k_bi, k_mth, k_mth1, k_mth2, k_isi, k_len, k_lc, k_lcF, k_lc2, k_lc3t, k_lc3f, k_some, k_fmt, k_fs, k_mk, k_mkk, k_mkk2, k_att, k_um, k_evs, k_cons, k_tru, k_items, k_rg1, k_rg2, k_rg2b, k_rg3, k_rg3b, k_rg3c, k_enumL, k_enumT, k_zip, k_zipTT, k_zipLL, k_zipLT, k_zipTL, k_rev, v_val, o_owd, o_own, l_some, x_ok, o_map, s_set, s_setO, s_par, s_asg, s_aug, s_app, s_seti, s_setd, s_sta, s_ex, s_ret, s_retN, s_ifs, s_lop, s_whl, s_brk, s_cnt, s_pas, s_thru, ss_nil, ss_cons, ss_frz, at_name, at_sub, at_tup, ats_nil, ats_cons, t_set, t_setO, t_par, t_par2, t_asg, t_aug, t_augA, t_augS, t_app, t_app2, t_seti, t_seti2, t_seti3, t_setd, t_setd2, t_setd3, t_sta, t_ex, t_ret, t_ifs, t_ifs1, t_ifs0, t_lop, t_ss, t_ssr, t_ssb, t_ssc, t_ats, t_frz, t_sub, t_thru, t_thrur, o_nxt, v_set0, v_setS, d_set0, d_setD, d_setL, o_bind, z_frz0, z_frzS, List.getElem?_cons_zero, List.getElem?_cons_succ, check_both_ok _ w h v hv ok, left_of_ok _ w h v, r_ret]
theorem doable_ok (n : Nat) {s : Sto} {r : Nat} {l : List Nd} (w : WOk l) (h : WkAt s r l) (v : List Int) (hv : v.length = (kinds l).length) (ok : okSt (kinds l) v = true) : cf (n + 6) 11 [.ref r, .tup (v.map .int)] s = .ok (.tup ((doV (kinds l) v).map .int)) s := by
  rw [u11]
  simp only [B11, e_non, e_bl, e_int, e_str, e_var, e_own, e_cst, e_bin, e_neg, e_cmp, e_chn, e_one, e_and, e_or, e_not, e_ite, e_idx, e_sl, e_tup, e_lst, e_cel, e_call, e_callk, e_bi, e_mth, e_isi, e_len, e_lc, e_fmt, e_fs, e_att, e_mk, e_mkk, e_um, e_dic0, e_dget, e_rgt, es_nil, es_cons, fs_nil, fs_cons, ts_nil, ts_one, src_seq, src_rg1, src_rg2, src_rg3, src_enum, src_zip, src_rev, k_bin, k_bin2, k_neg, k_cmp, k_cmp2, k_chn, k_chn2, k_chn3, k_chn4, k_and1, k_and0, k_or1, k_or0, k_not, k_ite, k_ite1, k_ite0, k_idx, k_idx2, k_sl, k_opt, k_sl2, k_sl3, k_dget, k_dget2, k_rgt, k_tup, k_lst, k_lst5, k_cel, k_call, k_callk, k_callk2, k_bi, k_mth, k_mth1, k_mth2, k_isi, k_len, k_lc, k_lcF, k_lc2, k_lc3t, k_lc3f, k_some, k_fmt, k_fs, k_mk, k_mkk, k_mkk2, k_att, k_um, k_evs, k_cons, k_tru, k_items, k_rg1, k_rg2, k_rg2b, k_rg3, k_rg3b, k_rg3c, k_enumL, k_enumT, k_zip, k_zipTT, k_zipLL, k_zipLT, k_zipTL, k_rev, v_val, o_owd, o_own, l_some, x_ok, o_map, s_set, s_setO, s_par, s_asg, s_aug, s_app, s_seti, s_setd, s_sta, s_ex, s_ret, s_retN, s_ifs, s_lop, s_whl, s_brk, s_cnt, s_pas, s_thru, ss_nil, ss_cons, ss_frz, at_name, at_sub, at_tup, ats_nil, ats_cons, t_set, t_setO, t_par, t_par2, t_asg, t_aug, t_augA, t_augS, t_app, t_app2, t_seti, t_seti2, t_seti3, t_setd, t_setd2, t_setd3, t_sta, t_ex, t_ret, t_ifs, t_ifs1, t_ifs0, t_lop, t_ss, t_ssr, t_ssb, t_ssc, t_ats, t_frz, t_sub, t_thru, t_thrur, o_nxt, v_set0, v_setS, d_set0, d_setD, d_setL, o_bind, z_frz0, z_frzS, List.getElem?_cons_zero, List.getElem?_cons_succ, check_both_ok _ w h v hv ok, doable_of_ok _ w (kok w).homes (kok w).many h v hv, r_ret]
end Lk16
set_option Elab.async false
set_option linter.all false
set_option maxRecDepth 100000
set_option maxHeartbeats 1000000
set_option exponentiation.threshold 2000
/-! the draws: _law_jug, _law_pour -/
namespace Lk16
open Lv PySem
structure JugAt (s : Sto) (r k : Nat) : Prop where
  ex : ∃ a b c : Int, s[r]? = some (.lst [.int a, .int b, .int c]) ∧ 0 ≤ a ∧ 0 ≤ b ∧ b < 2147483399 ∧ 0 ≤ c ∧ c ≤ k
theorem t_sub2 {env : Lv.Env} {s : Sto} {n : Nat} {xs ys : List D} {i : Int} {d : D} (h : s[n]? = some (.lst xs)) (hs : setAt xs i d = some ys) : (R.ok (.int i) s).st env (kSub2 env d (.ref n)) = .nxt env (s.set n (.lst ys)) := by
  show (match s[n]? with
      | some (.lst xs) => (match setAt xs i d with
        | some ys => RS.nxt env (s.set n (.lst ys))
        | none => .stk)
      | _ => .stk) = _
  rw [h]
  dsimp only
  rw [hs]
theorem lt_of_get {s : Sto} {r : Nat} {c : Cell} (h : s[r]? = some c) : r < s.length := (List.getElem?_eq_some_iff.mp h).1
theorem abs_lt {x b : Int} (h0 : 0 ≤ x) (h : x < b) (hb : b ≤ 10 ^ 900) : x.natAbs < 10 ^ 1000 := by
  have e : (x.natAbs : Int) = x := Int.natAbs_of_nonneg h0
  have q : (10 : Int) ^ 900 < ((10 ^ 1000 : Nat) : Int) := by decide +kernel
  omega
theorem pour_ok (n : Nat) {s : Sto} {r k : Nat} (j : JugAt s r k) (m : Int) (h1 : 1 ≤ m) (h2 : m ≤ 10 ^ 900) (hk : k ≤ 1000000000) : ∃ d c, cf (n + 1) 7 [.ref r, .int m] s = .ok (.int d) (s.set r c) ∧ 0 ≤ d ∧ d < m ∧ JugAt (s.set r c) r (k + 1) := by
  obtain ⟨a, b, c, hs, ha, hb, hb2, hc, hc2⟩ := j.ex
  have hr := lt_of_get hs
  have i0 : dIdxS s (.ref r) (.int 0) = some (.int a) := q_ixR hs rfl
  have i2 : dIdxS s (.ref r) (.int 2) = some (.int c) := q_ixR hs rfl
  have dm : dBi .divmod [.int a, .int m] = some (.tup [.int (a / m), .int (a % m)]) := by
    refine if_pos ⟨by omega, ?_⟩
    have e : m.natAbs < 2 ^ 4000 := by
      have : (m.natAbs : Int) = m := Int.natAbs_of_nonneg (by omega)
      have q : (10 : Int) ^ 900 < ((2 ^ 4000 : Nat) : Int) := by decide +kernel
      omega
    have := (Nat.log2_lt (by omega)).mpr e
    omega
  by_cases c0 : 0 < a
  · refine ⟨a % m, .lst [.int (a / m), .int b, .int c], ?_, Int.emod_nonneg _ (by omega), Int.emod_lt_of_pos _ (by omega), ⟨a / m, b, c, ?_, Int.ediv_nonneg ha (by omega), hb, hb2, hc, by omega⟩⟩
    · rw [u7]
      have st : setAt [D.int a, .int b, .int c] 0 (.int (a / m)) = some [.int (a / m), .int b, .int c] := rfl
      simp only [B7, e_non, e_bl, e_int, e_str, e_var, e_own, e_cst, e_bin, e_neg, e_cmp, e_chn, e_one, e_and, e_or, e_not, e_ite, e_idx, e_sl, e_tup, e_lst, e_cel, e_call, e_callk, e_bi, e_mth, e_isi, e_len, e_lc, e_fmt, e_fs, e_att, e_mk, e_mkk, e_um, e_dic0, e_dget, e_rgt, es_nil, es_cons, fs_nil, fs_cons, ts_nil, ts_one, src_seq, src_rg1, src_rg2, src_rg3, src_enum, src_zip, src_rev, k_bin, k_bin2, k_neg, k_cmp, k_cmp2, k_chn, k_chn2, k_chn3, k_chn4, k_and1, k_and0, k_or1, k_or0, k_not, k_ite, k_ite1, k_ite0, k_idx, k_idx2, k_sl, k_opt, k_sl2, k_sl3, k_dget, k_dget2, k_rgt, k_tup, k_lst, k_lst5, k_cel, k_call, k_callk, k_callk2, k_bi, k_mth, k_mth1, k_mth2, k_isi, k_len, k_lc, k_lcF, k_lc2, k_lc3t, k_lc3f, k_some, k_fmt, k_fs, k_mk, k_mkk, k_mkk2, k_att, k_um, k_evs, k_cons, k_tru, k_items, k_rg1, k_rg2, k_rg2b, k_rg3, k_rg3b, k_rg3c, k_enumL, k_enumT, k_zip, k_zipTT, k_zipLL, k_zipLT, k_zipTL, k_rev, v_val, o_owd, o_own, l_some, x_ok, o_map, s_set, s_setO, s_par, s_asg, s_aug, s_app, s_seti, s_setd, s_sta, s_ex, s_ret, s_retN, s_ifs, s_lop, s_whl, s_brk, s_cnt, s_pas, s_thru, ss_nil, ss_cons, ss_frz, at_name, at_sub, at_tup, ats_nil, ats_cons, t_set, t_setO, t_par, t_par2, t_asg, t_aug, t_augA, t_augS, t_app, t_app2, t_seti, t_seti2, t_seti3, t_setd, t_setd2, t_setd3, t_sta, t_ex, t_ret, t_ifs, t_ifs1, t_ifs0, t_lop, t_ss, t_ssr, t_ssb, t_ssc, t_ats, t_frz, t_sub, t_thru, t_thrur, o_nxt, v_set0, v_setS, d_set0, d_setD, d_setL, o_bind, z_frz0, z_frzS, List.getElem?_cons_zero, List.getElem?_cons_succ, i0, q_gt, c0, decide_true, q_tb, dm]
      rw [at_tup _ _ rfl]
      simp only [e_non, e_bl, e_int, e_str, e_var, e_own, e_cst, e_bin, e_neg, e_cmp, e_chn, e_one, e_and, e_or, e_not, e_ite, e_idx, e_sl, e_tup, e_lst, e_cel, e_call, e_callk, e_bi, e_mth, e_isi, e_len, e_lc, e_fmt, e_fs, e_att, e_mk, e_mkk, e_um, e_dic0, e_dget, e_rgt, es_nil, es_cons, fs_nil, fs_cons, ts_nil, ts_one, src_seq, src_rg1, src_rg2, src_rg3, src_enum, src_zip, src_rev, k_bin, k_bin2, k_neg, k_cmp, k_cmp2, k_chn, k_chn2, k_chn3, k_chn4, k_and1, k_and0, k_or1, k_or0, k_not, k_ite, k_ite1, k_ite0, k_idx, k_idx2, k_sl, k_opt, k_sl2, k_sl3, k_dget, k_dget2, k_rgt, k_tup, k_lst, k_lst5, k_cel, k_call, k_callk, k_callk2, k_bi, k_mth, k_mth1, k_mth2, k_isi, k_len, k_lc, k_lcF, k_lc2, k_lc3t, k_lc3f, k_some, k_fmt, k_fs, k_mk, k_mkk, k_mkk2, k_att, k_um, k_evs, k_cons, k_tru, k_items, k_rg1, k_rg2, k_rg2b, k_rg3, k_rg3b, k_rg3c, k_enumL, k_enumT, k_zip, k_zipTT, k_zipLL, k_zipLT, k_zipTL, k_rev, v_val, o_owd, o_own, l_some, x_ok, o_map, s_set, s_setO, s_par, s_asg, s_aug, s_app, s_seti, s_setd, s_sta, s_ex, s_ret, s_retN, s_ifs, s_lop, s_whl, s_brk, s_cnt, s_pas, s_thru, ss_nil, ss_cons, ss_frz, at_name, at_sub, at_tup, ats_nil, ats_cons, t_set, t_setO, t_par, t_par2, t_asg, t_aug, t_augA, t_augS, t_app, t_app2, t_seti, t_seti2, t_seti3, t_setd, t_setd2, t_setd3, t_sta, t_ex, t_ret, t_ifs, t_ifs1, t_ifs0, t_lop, t_ss, t_ssr, t_ssb, t_ssc, t_ats, t_frz, t_sub, t_thru, t_thrur, o_nxt, v_set0, v_setS, d_set0, d_setD, d_setL, o_bind, z_frz0, z_frzS, List.getElem?_cons_zero, List.getElem?_cons_succ]
      rw [t_sub2 hs st]
      simp only [e_non, e_bl, e_int, e_str, e_var, e_own, e_cst, e_bin, e_neg, e_cmp, e_chn, e_one, e_and, e_or, e_not, e_ite, e_idx, e_sl, e_tup, e_lst, e_cel, e_call, e_callk, e_bi, e_mth, e_isi, e_len, e_lc, e_fmt, e_fs, e_att, e_mk, e_mkk, e_um, e_dic0, e_dget, e_rgt, es_nil, es_cons, fs_nil, fs_cons, ts_nil, ts_one, src_seq, src_rg1, src_rg2, src_rg3, src_enum, src_zip, src_rev, k_bin, k_bin2, k_neg, k_cmp, k_cmp2, k_chn, k_chn2, k_chn3, k_chn4, k_and1, k_and0, k_or1, k_or0, k_not, k_ite, k_ite1, k_ite0, k_idx, k_idx2, k_sl, k_opt, k_sl2, k_sl3, k_dget, k_dget2, k_rgt, k_tup, k_lst, k_lst5, k_cel, k_call, k_callk, k_callk2, k_bi, k_mth, k_mth1, k_mth2, k_isi, k_len, k_lc, k_lcF, k_lc2, k_lc3t, k_lc3f, k_some, k_fmt, k_fs, k_mk, k_mkk, k_mkk2, k_att, k_um, k_evs, k_cons, k_tru, k_items, k_rg1, k_rg2, k_rg2b, k_rg3, k_rg3b, k_rg3c, k_enumL, k_enumT, k_zip, k_zipTT, k_zipLL, k_zipLT, k_zipTL, k_rev, v_val, o_owd, o_own, l_some, x_ok, o_map, s_set, s_setO, s_par, s_asg, s_aug, s_app, s_seti, s_setd, s_sta, s_ex, s_ret, s_retN, s_ifs, s_lop, s_whl, s_brk, s_cnt, s_pas, s_thru, ss_nil, ss_cons, ss_frz, at_name, at_sub, at_tup, ats_nil, ats_cons, t_set, t_setO, t_par, t_par2, t_asg, t_aug, t_augA, t_augS, t_app, t_app2, t_seti, t_seti2, t_seti3, t_setd, t_setd2, t_setd3, t_sta, t_ex, t_ret, t_ifs, t_ifs1, t_ifs0, t_lop, t_ss, t_ssr, t_ssb, t_ssc, t_ats, t_frz, t_sub, t_thru, t_thrur, o_nxt, v_set0, v_setS, d_set0, d_setD, d_setL, o_bind, z_frz0, z_frzS, List.getElem?_cons_zero, List.getElem?_cons_succ, r_ret]
    · rw [List.getElem?_set_self hr]
  · let c1 : Cell := .lst [.int a, .int b, .int (c + 1)]
    let b2 : Int := (b * 46021 + 25013 * (c + 1)) % 2147483399
    have hs1 : (s.set r c1)[r]? = some c1 := List.getElem?_set_self hr
    have j0 : dIdxS (s.set r c1) (.ref r) (.int 1) = some (.int b) := q_ixR hs1 rfl
    have j1 : dIdxS (s.set r c1) (.ref r) (.int 2) = some (.int (c + 1)) := q_ixR hs1 rfl
    let c2 : Cell := .lst [.int a, .int b2, .int (c + 1)]
    have hs2 : (s.set r c2)[r]? = some c2 := List.getElem?_set_self hr
    have k1 : dIdxS (s.set r c2) (.ref r) (.int 1) = some (.int b2) := q_ixR hs2 rfl
    have m1 : dBin .Mult (.int b) (.int 46021) = some (.int (b * 46021)) := q_mul _ _ (abs_lt hb hb2 (by decide +kernel)) (by decide +kernel)
    have m2 : dBin .Mult (.int 25013) (.int (c + 1)) = some (.int (25013 * (c + 1))) := q_mul _ _ (by decide +kernel) (abs_lt (b := 10000000000) (by omega) (by omega) (by decide +kernel))
    have d1 : dBin .FloorDiv (.int b2) (.int 1024) = some (.int (b2 / 1024)) := q_div _ _ (by decide) (by decide +kernel)
    have st1 : setAt [D.int a, .int b, .int c] 2 (.int (c + 1)) = some [.int a, .int b, .int (c + 1)] := rfl
    have st2 : setAt [D.int a, .int b, .int (c + 1)] 1 (.int b2) = some [.int a, .int b2, .int (c + 1)] := rfl
    have b20 : 0 ≤ b2 := Int.emod_nonneg _ (by decide)
    have b21 : b2 < 2147483399 := Int.emod_lt_of_pos _ (by decide)
    refine ⟨(b2 / 1024) % m, c2, ?_, Int.emod_nonneg _ (by omega), Int.emod_lt_of_pos _ (by omega), ⟨a, b2, c + 1, hs2, ha, b20, b21, by omega, by omega⟩⟩
    rw [u7]
    have md : dBin .Mod (.int (b * 46021 + 25013 * (c + 1))) (.int 2147483399) = some (.int b2) := q_mod _ _ (by decide)
    have md2 : dBin .Mod (.int (b2 / 1024)) (.int m) = some (.int ((b2 / 1024) % m)) := q_mod _ _ (by omega)
    simp only [B7, e_non, e_bl, e_int, e_str, e_var, e_own, e_cst, e_bin, e_neg, e_cmp, e_chn, e_one, e_and, e_or, e_not, e_ite, e_idx, e_sl, e_tup, e_lst, e_cel, e_call, e_callk, e_bi, e_mth, e_isi, e_len, e_lc, e_fmt, e_fs, e_att, e_mk, e_mkk, e_um, e_dic0, e_dget, e_rgt, es_nil, es_cons, fs_nil, fs_cons, ts_nil, ts_one, src_seq, src_rg1, src_rg2, src_rg3, src_enum, src_zip, src_rev, k_bin, k_bin2, k_neg, k_cmp, k_cmp2, k_chn, k_chn2, k_chn3, k_chn4, k_and1, k_and0, k_or1, k_or0, k_not, k_ite, k_ite1, k_ite0, k_idx, k_idx2, k_sl, k_opt, k_sl2, k_sl3, k_dget, k_dget2, k_rgt, k_tup, k_lst, k_lst5, k_cel, k_call, k_callk, k_callk2, k_bi, k_mth, k_mth1, k_mth2, k_isi, k_len, k_lc, k_lcF, k_lc2, k_lc3t, k_lc3f, k_some, k_fmt, k_fs, k_mk, k_mkk, k_mkk2, k_att, k_um, k_evs, k_cons, k_tru, k_items, k_rg1, k_rg2, k_rg2b, k_rg3, k_rg3b, k_rg3c, k_enumL, k_enumT, k_zip, k_zipTT, k_zipLL, k_zipLT, k_zipTL, k_rev, v_val, o_owd, o_own, l_some, x_ok, o_map, s_set, s_setO, s_par, s_asg, s_aug, s_app, s_seti, s_setd, s_sta, s_ex, s_ret, s_retN, s_ifs, s_lop, s_whl, s_brk, s_cnt, s_pas, s_thru, ss_nil, ss_cons, ss_frz, at_name, at_sub, at_tup, ats_nil, ats_cons, t_set, t_setO, t_par, t_par2, t_asg, t_aug, t_augA, t_augS, t_app, t_app2, t_seti, t_seti2, t_seti3, t_setd, t_setd2, t_setd3, t_sta, t_ex, t_ret, t_ifs, t_ifs1, t_ifs0, t_lop, t_ss, t_ssr, t_ssb, t_ssc, t_ats, t_frz, t_sub, t_thru, t_thrur, o_nxt, v_set0, v_setS, d_set0, d_setD, d_setL, o_bind, z_frz0, z_frzS, List.getElem?_cons_zero, List.getElem?_cons_succ, i0, q_gt, c0, decide_false, q_tb, i2, q_add]
    rw [t_sub2 hs st1]
    simp only [e_non, e_bl, e_int, e_str, e_var, e_own, e_cst, e_bin, e_neg, e_cmp, e_chn, e_one, e_and, e_or, e_not, e_ite, e_idx, e_sl, e_tup, e_lst, e_cel, e_call, e_callk, e_bi, e_mth, e_isi, e_len, e_lc, e_fmt, e_fs, e_att, e_mk, e_mkk, e_um, e_dic0, e_dget, e_rgt, es_nil, es_cons, fs_nil, fs_cons, ts_nil, ts_one, src_seq, src_rg1, src_rg2, src_rg3, src_enum, src_zip, src_rev, k_bin, k_bin2, k_neg, k_cmp, k_cmp2, k_chn, k_chn2, k_chn3, k_chn4, k_and1, k_and0, k_or1, k_or0, k_not, k_ite, k_ite1, k_ite0, k_idx, k_idx2, k_sl, k_opt, k_sl2, k_sl3, k_dget, k_dget2, k_rgt, k_tup, k_lst, k_lst5, k_cel, k_call, k_callk, k_callk2, k_bi, k_mth, k_mth1, k_mth2, k_isi, k_len, k_lc, k_lcF, k_lc2, k_lc3t, k_lc3f, k_some, k_fmt, k_fs, k_mk, k_mkk, k_mkk2, k_att, k_um, k_evs, k_cons, k_tru, k_items, k_rg1, k_rg2, k_rg2b, k_rg3, k_rg3b, k_rg3c, k_enumL, k_enumT, k_zip, k_zipTT, k_zipLL, k_zipLT, k_zipTL, k_rev, v_val, o_owd, o_own, l_some, x_ok, o_map, s_set, s_setO, s_par, s_asg, s_aug, s_app, s_seti, s_setd, s_sta, s_ex, s_ret, s_retN, s_ifs, s_lop, s_whl, s_brk, s_cnt, s_pas, s_thru, ss_nil, ss_cons, ss_frz, at_name, at_sub, at_tup, ats_nil, ats_cons, t_set, t_setO, t_par, t_par2, t_asg, t_aug, t_augA, t_augS, t_app, t_app2, t_seti, t_seti2, t_seti3, t_setd, t_setd2, t_setd3, t_sta, t_ex, t_ret, t_ifs, t_ifs1, t_ifs0, t_lop, t_ss, t_ssr, t_ssb, t_ssc, t_ats, t_frz, t_sub, t_thru, t_thrur, o_nxt, v_set0, v_setS, d_set0, d_setD, d_setL, o_bind, z_frz0, z_frzS, List.getElem?_cons_zero, List.getElem?_cons_succ, show s.set r (.lst [.int a, .int b, .int (c + 1)]) = s.set r c1 from rfl, j0, j1, m1, m2, q_add, q_intI, md]
    rw [t_sub2 hs1 st2, List.set_set]
    simp only [e_non, e_bl, e_int, e_str, e_var, e_own, e_cst, e_bin, e_neg, e_cmp, e_chn, e_one, e_and, e_or, e_not, e_ite, e_idx, e_sl, e_tup, e_lst, e_cel, e_call, e_callk, e_bi, e_mth, e_isi, e_len, e_lc, e_fmt, e_fs, e_att, e_mk, e_mkk, e_um, e_dic0, e_dget, e_rgt, es_nil, es_cons, fs_nil, fs_cons, ts_nil, ts_one, src_seq, src_rg1, src_rg2, src_rg3, src_enum, src_zip, src_rev, k_bin, k_bin2, k_neg, k_cmp, k_cmp2, k_chn, k_chn2, k_chn3, k_chn4, k_and1, k_and0, k_or1, k_or0, k_not, k_ite, k_ite1, k_ite0, k_idx, k_idx2, k_sl, k_opt, k_sl2, k_sl3, k_dget, k_dget2, k_rgt, k_tup, k_lst, k_lst5, k_cel, k_call, k_callk, k_callk2, k_bi, k_mth, k_mth1, k_mth2, k_isi, k_len, k_lc, k_lcF, k_lc2, k_lc3t, k_lc3f, k_some, k_fmt, k_fs, k_mk, k_mkk, k_mkk2, k_att, k_um, k_evs, k_cons, k_tru, k_items, k_rg1, k_rg2, k_rg2b, k_rg3, k_rg3b, k_rg3c, k_enumL, k_enumT, k_zip, k_zipTT, k_zipLL, k_zipLT, k_zipTL, k_rev, v_val, o_owd, o_own, l_some, x_ok, o_map, s_set, s_setO, s_par, s_asg, s_aug, s_app, s_seti, s_setd, s_sta, s_ex, s_ret, s_retN, s_ifs, s_lop, s_whl, s_brk, s_cnt, s_pas, s_thru, ss_nil, ss_cons, ss_frz, at_name, at_sub, at_tup, ats_nil, ats_cons, t_set, t_setO, t_par, t_par2, t_asg, t_aug, t_augA, t_augS, t_app, t_app2, t_seti, t_seti2, t_seti3, t_setd, t_setd2, t_setd3, t_sta, t_ex, t_ret, t_ifs, t_ifs1, t_ifs0, t_lop, t_ss, t_ssr, t_ssb, t_ssc, t_ats, t_frz, t_sub, t_thru, t_thrur, o_nxt, v_set0, v_setS, d_set0, d_setD, d_setL, o_bind, z_frz0, z_frzS, List.getElem?_cons_zero, List.getElem?_cons_succ, show s.set r (.lst [.int a, .int b2, .int (c + 1)]) = s.set r c2 from rfl, k1, d1, q_intI, md2, r_ret]
theorem jug_ok (n : Nat) (ns : List Int) (t : Nat) (s : Sto) (ht : t ≤ 1000) : ∃ c, cf (n + 1) 2 [.scr ns, .int (t : Int)] s = .ok (.ref s.length) (s ++ [c]) ∧ JugAt (s ++ [c]) s.length 0 := by
  rw [u2]
  have fig : ∀ (c m : Lv.CF), ∃ f : Int, ev G0 c m (.ite (.cmp .Lt (.var 1) (.bi .len (.cons (.var 0) .nil))) (.idx (.var 0) (.var 1)) (.bin .Add (.bin .Mult (.int 41) (.var 1)) (.int 6))) [.val (.scr ns), .val (.int (t : Int)), .und, .und, .und] s = .ok (.int f) s := by
    intro c m
    by_cases h : (t : Int) < ns.length
    · have hl : t < ns.length := by omega
      refine ⟨ns[t], ?_⟩
      have ix : dIdxS s (.scr ns) (.int (t : Int)) = some (.int ns[t]) := by
        show (L2.atI ns (t : Int)).map D.int = _
        rw [atI_n (List.getElem?_eq_getElem hl)]; rfl
      simp only [e_non, e_bl, e_int, e_str, e_var, e_own, e_cst, e_bin, e_neg, e_cmp, e_chn, e_one, e_and, e_or, e_not, e_ite, e_idx, e_sl, e_tup, e_lst, e_cel, e_call, e_callk, e_bi, e_mth, e_isi, e_len, e_lc, e_fmt, e_fs, e_att, e_mk, e_mkk, e_um, e_dic0, e_dget, e_rgt, es_nil, es_cons, fs_nil, fs_cons, ts_nil, ts_one, src_seq, src_rg1, src_rg2, src_rg3, src_enum, src_zip, src_rev, k_bin, k_bin2, k_neg, k_cmp, k_cmp2, k_chn, k_chn2, k_chn3, k_chn4, k_and1, k_and0, k_or1, k_or0, k_not, k_ite, k_ite1, k_ite0, k_idx, k_idx2, k_sl, k_opt, k_sl2, k_sl3, k_dget, k_dget2, k_rgt, k_tup, k_lst, k_lst5, k_cel, k_call, k_callk, k_callk2, k_bi, k_mth, k_mth1, k_mth2, k_isi, k_len, k_lc, k_lcF, k_lc2, k_lc3t, k_lc3f, k_some, k_fmt, k_fs, k_mk, k_mkk, k_mkk2, k_att, k_um, k_evs, k_cons, k_tru, k_items, k_rg1, k_rg2, k_rg2b, k_rg3, k_rg3b, k_rg3c, k_enumL, k_enumT, k_zip, k_zipTT, k_zipLL, k_zipLT, k_zipTL, k_rev, v_val, o_owd, o_own, l_some, x_ok, o_map, s_set, s_setO, s_par, s_asg, s_aug, s_app, s_seti, s_setd, s_sta, s_ex, s_ret, s_retN, s_ifs, s_lop, s_whl, s_brk, s_cnt, s_pas, s_thru, ss_nil, ss_cons, ss_frz, at_name, at_sub, at_tup, ats_nil, ats_cons, t_set, t_setO, t_par, t_par2, t_asg, t_aug, t_augA, t_augS, t_app, t_app2, t_seti, t_seti2, t_seti3, t_setd, t_setd2, t_setd3, t_sta, t_ex, t_ret, t_ifs, t_ifs1, t_ifs0, t_lop, t_ss, t_ssr, t_ssb, t_ssc, t_ats, t_frz, t_sub, t_thru, t_thrur, o_nxt, v_set0, v_setS, d_set0, d_setD, d_setL, o_bind, z_frz0, z_frzS, List.getElem?_cons_zero, List.getElem?_cons_succ, q_lenN, q_lt, h, decide_true, q_tb, ix]
    · refine ⟨41 * t + 6, ?_⟩
      have m1 : dBin .Mult (.int 41) (.int (t : Int)) = some (.int (41 * t)) := q_mul _ _ (by decide +kernel) (abs_lt (b := 10000) (by omega) (by omega) (by decide +kernel))
      simp only [e_non, e_bl, e_int, e_str, e_var, e_own, e_cst, e_bin, e_neg, e_cmp, e_chn, e_one, e_and, e_or, e_not, e_ite, e_idx, e_sl, e_tup, e_lst, e_cel, e_call, e_callk, e_bi, e_mth, e_isi, e_len, e_lc, e_fmt, e_fs, e_att, e_mk, e_mkk, e_um, e_dic0, e_dget, e_rgt, es_nil, es_cons, fs_nil, fs_cons, ts_nil, ts_one, src_seq, src_rg1, src_rg2, src_rg3, src_enum, src_zip, src_rev, k_bin, k_bin2, k_neg, k_cmp, k_cmp2, k_chn, k_chn2, k_chn3, k_chn4, k_and1, k_and0, k_or1, k_or0, k_not, k_ite, k_ite1, k_ite0, k_idx, k_idx2, k_sl, k_opt, k_sl2, k_sl3, k_dget, k_dget2, k_rgt, k_tup, k_lst, k_lst5, k_cel, k_call, k_callk, k_callk2, k_bi, k_mth, k_mth1, k_mth2, k_isi, k_len, k_lc, k_lcF, k_lc2, k_lc3t, k_lc3f, k_some, k_fmt, k_fs, k_mk, k_mkk, k_mkk2, k_att, k_um, k_evs, k_cons, k_tru, k_items, k_rg1, k_rg2, k_rg2b, k_rg3, k_rg3b, k_rg3c, k_enumL, k_enumT, k_zip, k_zipTT, k_zipLL, k_zipLT, k_zipTL, k_rev, v_val, o_owd, o_own, l_some, x_ok, o_map, s_set, s_setO, s_par, s_asg, s_aug, s_app, s_seti, s_setd, s_sta, s_ex, s_ret, s_retN, s_ifs, s_lop, s_whl, s_brk, s_cnt, s_pas, s_thru, ss_nil, ss_cons, ss_frz, at_name, at_sub, at_tup, ats_nil, ats_cons, t_set, t_setO, t_par, t_par2, t_asg, t_aug, t_augA, t_augS, t_app, t_app2, t_seti, t_seti2, t_seti3, t_setd, t_setd2, t_setd3, t_sta, t_ex, t_ret, t_ifs, t_ifs1, t_ifs0, t_lop, t_ss, t_ssr, t_ssb, t_ssc, t_ats, t_frz, t_sub, t_thru, t_thrur, o_nxt, v_set0, v_setS, d_set0, d_setD, d_setL, o_bind, z_frz0, z_frzS, List.getElem?_cons_zero, List.getElem?_cons_succ, q_lenN, q_lt, h, decide_false, q_tb, m1, q_add]
  have m2 : dBin .Mult (.int 42013) (.int (t : Int)) = some (.int (42013 * t)) := q_mul _ _ (by decide +kernel) (abs_lt (b := 10000) (by omega) (by omega) (by decide +kernel))
  obtain ⟨f, hf⟩ := fig (cf n) (mf n)
  have sl : dSl (.scr ns) none (some 6) = some (.lst ((ns.take 6).map .int)) := by
    show some (D.lst (cutD (ns.map .int) none (some ((6 : Nat) : Int)))) = _
    rw [cut_to, List.map_take]
  have ad : dBin .Add (.lst [.int f]) (.lst ((ns.take 6).map .int)) = some (.lst ((f :: ns.take 6).map .int)) := by
    rw [q_addL _ _ (by rw [List.length_map, List.length_take]; show 1 + _ ≤ _; omega)]; rfl
  simp only [B2, ss_cons, s_set, hf, t_set, v_setS, v_set0, o_map, o_nxt, t_ss]
  simp only [e_non, e_bl, e_int, e_str, e_var, e_own, e_cst, e_bin, e_neg, e_cmp, e_chn, e_one, e_and, e_or, e_not, e_ite, e_idx, e_sl, e_tup, e_lst, e_cel, e_call, e_callk, e_bi, e_mth, e_isi, e_len, e_lc, e_fmt, e_fs, e_att, e_mk, e_mkk, e_um, e_dic0, e_dget, e_rgt, es_nil, es_cons, fs_nil, fs_cons, ts_nil, ts_one, src_seq, src_rg1, src_rg2, src_rg3, src_enum, src_zip, src_rev, k_bin, k_bin2, k_neg, k_cmp, k_cmp2, k_chn, k_chn2, k_chn3, k_chn4, k_and1, k_and0, k_or1, k_or0, k_not, k_ite, k_ite1, k_ite0, k_idx, k_idx2, k_sl, k_opt, k_sl2, k_sl3, k_dget, k_dget2, k_rgt, k_tup, k_lst, k_lst5, k_cel, k_call, k_callk, k_callk2, k_bi, k_mth, k_mth1, k_mth2, k_isi, k_len, k_lc, k_lcF, k_lc2, k_lc3t, k_lc3f, k_some, k_fmt, k_fs, k_mk, k_mkk, k_mkk2, k_att, k_um, k_evs, k_cons, k_tru, k_items, k_rg1, k_rg2, k_rg2b, k_rg3, k_rg3b, k_rg3c, k_enumL, k_enumT, k_zip, k_zipTT, k_zipLL, k_zipLT, k_zipTL, k_rev, v_val, o_owd, o_own, l_some, x_ok, o_map, s_set, s_setO, s_par, s_asg, s_aug, s_app, s_seti, s_setd, s_sta, s_ex, s_ret, s_retN, s_ifs, s_lop, s_whl, s_brk, s_cnt, s_pas, s_thru, ss_nil, ss_cons, ss_frz, at_name, at_sub, at_tup, ats_nil, ats_cons, t_set, t_setO, t_par, t_par2, t_asg, t_aug, t_augA, t_augS, t_app, t_app2, t_seti, t_seti2, t_seti3, t_setd, t_setd2, t_setd3, t_sta, t_ex, t_ret, t_ifs, t_ifs1, t_ifs0, t_lop, t_ss, t_ssr, t_ssb, t_ssc, t_ats, t_frz, t_sub, t_thru, t_thrur, o_nxt, v_set0, v_setS, d_set0, d_setD, d_setL, o_bind, z_frz0, z_frzS, List.getElem?_cons_zero, List.getElem?_cons_succ, m2, q_add, optI, sl, ad, q_itL]
  have go := lop_inv (t := .name 4) (f := evSs G0 (cf n) (mf n) (.cons (.set 3 (.bin .Mod (.bi .int (.cons (.bin .Add (.bin .Mult (.var 3) (.int 51071)) (.var 4)) .nil)) (.int 2147483399))) .nil))
    (fun ds env s' => ∃ (l : List Int) (b : Int) (e4 : Sl), ds = l.map .int ∧ env = [.val (.scr ns), .val (.int (t : Int)), .val (.int f), .val (.int b), e4] ∧ 0 ≤ b ∧ b < 2147483399 ∧ s' = s)
    (fun d ds env s' hp => by
      obtain ⟨l, b, e4, h1, h2, hb, hb2, rfl⟩ := hp
      cases l with
      | nil => cases h1
      | cons x l =>
        cases h1
        subst h2
        have m1 : dBin .Mult (.int b) (.int 51071) = some (.int (b * 51071)) := q_mul _ _ (abs_lt hb hb2 (by decide +kernel)) (by decide +kernel)
        have md : dBin .Mod (.int (b * 51071 + x)) (.int 2147483399) = some (.int ((b * 51071 + x) % 2147483399)) := q_mod _ _ (by decide)
        refine ⟨[.val (.scr ns), .val (.int (t : Int)), .val (.int f), .val (.int b), .val (.int x)], [.val (.scr ns), .val (.int (t : Int)), .val (.int f), .val (.int ((b * 51071 + x) % 2147483399)), .val (.int x)], s', ?_, ?_, ⟨l, _, _, rfl, rfl, Int.emod_nonneg _ (by decide), Int.emod_lt_of_pos _ (by decide), rfl⟩⟩
        · simp only [b_name, e_non, e_bl, e_int, e_str, e_var, e_own, e_cst, e_bin, e_neg, e_cmp, e_chn, e_one, e_and, e_or, e_not, e_ite, e_idx, e_sl, e_tup, e_lst, e_cel, e_call, e_callk, e_bi, e_mth, e_isi, e_len, e_lc, e_fmt, e_fs, e_att, e_mk, e_mkk, e_um, e_dic0, e_dget, e_rgt, es_nil, es_cons, fs_nil, fs_cons, ts_nil, ts_one, src_seq, src_rg1, src_rg2, src_rg3, src_enum, src_zip, src_rev, k_bin, k_bin2, k_neg, k_cmp, k_cmp2, k_chn, k_chn2, k_chn3, k_chn4, k_and1, k_and0, k_or1, k_or0, k_not, k_ite, k_ite1, k_ite0, k_idx, k_idx2, k_sl, k_opt, k_sl2, k_sl3, k_dget, k_dget2, k_rgt, k_tup, k_lst, k_lst5, k_cel, k_call, k_callk, k_callk2, k_bi, k_mth, k_mth1, k_mth2, k_isi, k_len, k_lc, k_lcF, k_lc2, k_lc3t, k_lc3f, k_some, k_fmt, k_fs, k_mk, k_mkk, k_mkk2, k_att, k_um, k_evs, k_cons, k_tru, k_items, k_rg1, k_rg2, k_rg2b, k_rg3, k_rg3b, k_rg3c, k_enumL, k_enumT, k_zip, k_zipTT, k_zipLL, k_zipLT, k_zipTL, k_rev, v_val, o_owd, o_own, l_some, x_ok, o_map, s_set, s_setO, s_par, s_asg, s_aug, s_app, s_seti, s_setd, s_sta, s_ex, s_ret, s_retN, s_ifs, s_lop, s_whl, s_brk, s_cnt, s_pas, s_thru, ss_nil, ss_cons, ss_frz, at_name, at_sub, at_tup, ats_nil, ats_cons, t_set, t_setO, t_par, t_par2, t_asg, t_aug, t_augA, t_augS, t_app, t_app2, t_seti, t_seti2, t_seti3, t_setd, t_setd2, t_setd3, t_sta, t_ex, t_ret, t_ifs, t_ifs1, t_ifs0, t_lop, t_ss, t_ssr, t_ssb, t_ssc, t_ats, t_frz, t_sub, t_thru, t_thrur, o_nxt, v_set0, v_setS, d_set0, d_setD, d_setL, o_bind, z_frz0, z_frzS, List.getElem?_cons_zero, List.getElem?_cons_succ]
        · simp only [e_non, e_bl, e_int, e_str, e_var, e_own, e_cst, e_bin, e_neg, e_cmp, e_chn, e_one, e_and, e_or, e_not, e_ite, e_idx, e_sl, e_tup, e_lst, e_cel, e_call, e_callk, e_bi, e_mth, e_isi, e_len, e_lc, e_fmt, e_fs, e_att, e_mk, e_mkk, e_um, e_dic0, e_dget, e_rgt, es_nil, es_cons, fs_nil, fs_cons, ts_nil, ts_one, src_seq, src_rg1, src_rg2, src_rg3, src_enum, src_zip, src_rev, k_bin, k_bin2, k_neg, k_cmp, k_cmp2, k_chn, k_chn2, k_chn3, k_chn4, k_and1, k_and0, k_or1, k_or0, k_not, k_ite, k_ite1, k_ite0, k_idx, k_idx2, k_sl, k_opt, k_sl2, k_sl3, k_dget, k_dget2, k_rgt, k_tup, k_lst, k_lst5, k_cel, k_call, k_callk, k_callk2, k_bi, k_mth, k_mth1, k_mth2, k_isi, k_len, k_lc, k_lcF, k_lc2, k_lc3t, k_lc3f, k_some, k_fmt, k_fs, k_mk, k_mkk, k_mkk2, k_att, k_um, k_evs, k_cons, k_tru, k_items, k_rg1, k_rg2, k_rg2b, k_rg3, k_rg3b, k_rg3c, k_enumL, k_enumT, k_zip, k_zipTT, k_zipLL, k_zipLT, k_zipTL, k_rev, v_val, o_owd, o_own, l_some, x_ok, o_map, s_set, s_setO, s_par, s_asg, s_aug, s_app, s_seti, s_setd, s_sta, s_ex, s_ret, s_retN, s_ifs, s_lop, s_whl, s_brk, s_cnt, s_pas, s_thru, ss_nil, ss_cons, ss_frz, at_name, at_sub, at_tup, ats_nil, ats_cons, t_set, t_setO, t_par, t_par2, t_asg, t_aug, t_augA, t_augS, t_app, t_app2, t_seti, t_seti2, t_seti3, t_setd, t_setd2, t_setd3, t_sta, t_ex, t_ret, t_ifs, t_ifs1, t_ifs0, t_lop, t_ss, t_ssr, t_ssb, t_ssc, t_ats, t_frz, t_sub, t_thru, t_thrur, o_nxt, v_set0, v_setS, d_set0, d_setD, d_setL, o_bind, z_frz0, z_frzS, List.getElem?_cons_zero, List.getElem?_cons_succ, m1, q_add, q_intI, md])
    ((f :: ns.take 6).map .int) [.val (.scr ns), .val (.int (t : Int)), .val (.int f), .val (.int (160481183 + 42013 * t)), .und] s ⟨_, _, _, rfl, rfl, by omega, by omega, rfl⟩
  obtain ⟨env', s', e, l, b, e4, h1, h2, hb, hb2, rfl⟩ := go
  subst h2
  rw [e]
  have pw : dBin .Pow (.int 10) (.int 18) = some (.int 1000000000000000000) := rfl
  by_cases c : (1000000000000000000 : Int) ≤ (if f < 0 then -f else f)
  · refine ⟨.lst [.int (if f < 0 then -f else f), .int b, .int 0], ?_, ⟨_, b, 0, get_last _ _, by omega, hb, hb2, by omega, by omega⟩⟩
    simp only [e_non, e_bl, e_int, e_str, e_var, e_own, e_cst, e_bin, e_neg, e_cmp, e_chn, e_one, e_and, e_or, e_not, e_ite, e_idx, e_sl, e_tup, e_lst, e_cel, e_call, e_callk, e_bi, e_mth, e_isi, e_len, e_lc, e_fmt, e_fs, e_att, e_mk, e_mkk, e_um, e_dic0, e_dget, e_rgt, es_nil, es_cons, fs_nil, fs_cons, ts_nil, ts_one, src_seq, src_rg1, src_rg2, src_rg3, src_enum, src_zip, src_rev, k_bin, k_bin2, k_neg, k_cmp, k_cmp2, k_chn, k_chn2, k_chn3, k_chn4, k_and1, k_and0, k_or1, k_or0, k_not, k_ite, k_ite1, k_ite0, k_idx, k_idx2, k_sl, k_opt, k_sl2, k_sl3, k_dget, k_dget2, k_rgt, k_tup, k_lst, k_lst5, k_cel, k_call, k_callk, k_callk2, k_bi, k_mth, k_mth1, k_mth2, k_isi, k_len, k_lc, k_lcF, k_lc2, k_lc3t, k_lc3f, k_some, k_fmt, k_fs, k_mk, k_mkk, k_mkk2, k_att, k_um, k_evs, k_cons, k_tru, k_items, k_rg1, k_rg2, k_rg2b, k_rg3, k_rg3b, k_rg3c, k_enumL, k_enumT, k_zip, k_zipTT, k_zipLL, k_zipLT, k_zipTL, k_rev, v_val, o_owd, o_own, l_some, x_ok, o_map, s_set, s_setO, s_par, s_asg, s_aug, s_app, s_seti, s_setd, s_sta, s_ex, s_ret, s_retN, s_ifs, s_lop, s_whl, s_brk, s_cnt, s_pas, s_thru, ss_nil, ss_cons, ss_frz, at_name, at_sub, at_tup, ats_nil, ats_cons, t_set, t_setO, t_par, t_par2, t_asg, t_aug, t_augA, t_augS, t_app, t_app2, t_seti, t_seti2, t_seti3, t_setd, t_setd2, t_setd3, t_sta, t_ex, t_ret, t_ifs, t_ifs1, t_ifs0, t_lop, t_ss, t_ssr, t_ssb, t_ssc, t_ats, t_frz, t_sub, t_thru, t_thrur, o_nxt, v_set0, v_setS, d_set0, d_setD, d_setL, o_bind, z_frz0, z_frzS, List.getElem?_cons_zero, List.getElem?_cons_succ, q_abs, pw, q_ge, c, decide_true, q_tb, r_ret]
  · refine ⟨.lst [.int 0, .int b, .int 0], ?_, ⟨0, b, 0, get_last _ _, by omega, hb, hb2, by omega, by omega⟩⟩
    simp only [e_non, e_bl, e_int, e_str, e_var, e_own, e_cst, e_bin, e_neg, e_cmp, e_chn, e_one, e_and, e_or, e_not, e_ite, e_idx, e_sl, e_tup, e_lst, e_cel, e_call, e_callk, e_bi, e_mth, e_isi, e_len, e_lc, e_fmt, e_fs, e_att, e_mk, e_mkk, e_um, e_dic0, e_dget, e_rgt, es_nil, es_cons, fs_nil, fs_cons, ts_nil, ts_one, src_seq, src_rg1, src_rg2, src_rg3, src_enum, src_zip, src_rev, k_bin, k_bin2, k_neg, k_cmp, k_cmp2, k_chn, k_chn2, k_chn3, k_chn4, k_and1, k_and0, k_or1, k_or0, k_not, k_ite, k_ite1, k_ite0, k_idx, k_idx2, k_sl, k_opt, k_sl2, k_sl3, k_dget, k_dget2, k_rgt, k_tup, k_lst, k_lst5, k_cel, k_call, k_callk, k_callk2, k_bi, k_mth, k_mth1, k_mth2, k_isi, k_len, k_lc, k_lcF, k_lc2, k_lc3t, k_lc3f, k_some, k_fmt, k_fs, k_mk, k_mkk, k_mkk2, k_att, k_um, k_evs, k_cons, k_tru, k_items, k_rg1, k_rg2, k_rg2b, k_rg3, k_rg3b, k_rg3c, k_enumL, k_enumT, k_zip, k_zipTT, k_zipLL, k_zipLT, k_zipTL, k_rev, v_val, o_owd, o_own, l_some, x_ok, o_map, s_set, s_setO, s_par, s_asg, s_aug, s_app, s_seti, s_setd, s_sta, s_ex, s_ret, s_retN, s_ifs, s_lop, s_whl, s_brk, s_cnt, s_pas, s_thru, ss_nil, ss_cons, ss_frz, at_name, at_sub, at_tup, ats_nil, ats_cons, t_set, t_setO, t_par, t_par2, t_asg, t_aug, t_augA, t_augS, t_app, t_app2, t_seti, t_seti2, t_seti3, t_setd, t_setd2, t_setd3, t_sta, t_ex, t_ret, t_ifs, t_ifs1, t_ifs0, t_lop, t_ss, t_ssr, t_ssb, t_ssc, t_ats, t_frz, t_sub, t_thru, t_thrur, o_nxt, v_set0, v_setS, d_set0, d_setD, d_setL, o_bind, z_frz0, z_frzS, List.getElem?_cons_zero, List.getElem?_cons_succ, q_abs, pw, q_ge, c, decide_false, q_tb, r_ret]
end Lk16
set_option Elab.async false
set_option linter.all false
set_option maxRecDepth 100000
set_option maxHeartbeats 1000000
set_option exponentiation.threshold 2000
/-! drawn nodes: _law_lot, _law_trunks, _law_kinds -/
namespace Lk16
open Lv PySem
theorem JugAt.lt {s : Sto} {r k : Nat} (j : JugAt s r k) : r < s.length := by
  obtain ⟨a, b, d, h, q⟩ := j.ex
  exact lt_of_get h
theorem JugAt.mono {s : Sto} {r k k' : Nat} (j : JugAt s r k) (h : k ≤ k') : JugAt s r k' := by
  obtain ⟨a, b, c, q, h1, h2, h3, h4, h5⟩ := j.ex
  exact ⟨a, b, c, q, h1, h2, h3, h4, by omega⟩
/-- the store but for the jug -/
structure At (s0 : Sto) (r k : Nat) (s : Sto) : Prop where
  set : ∃ c, s = s0.set r c
  jug : JugAt s r k
theorem At.start {s : Sto} {r k : Nat} (j : JugAt s r k) : At s r k s := by
  obtain ⟨a, b, d, h, q⟩ := j.ex
  obtain ⟨h1, h2⟩ := List.getElem?_eq_some_iff.mp h
  refine ⟨⟨s[r], ?_⟩, j⟩
  exact (List.set_getElem_self h1).symm
theorem At.mono {s0 s : Sto} {r k k' : Nat} (a : At s0 r k s) (h : k ≤ k') : At s0 r k' s := ⟨a.set, a.jug.mono h⟩
theorem At.trans {s0 s1 s2 : Sto} {r k j : Nat} (a : At s0 r k s1) (b : At s1 r j s2) : At s0 r j s2 := by
  obtain ⟨c, rfl⟩ := a.set
  obtain ⟨d, rfl⟩ := b.set
  exact ⟨⟨d, List.set_set ..⟩, b.jug⟩
theorem pour_at {n : Nat} {s0 s : Sto} {r k : Nat} (a : At s0 r k s) (m : Int) (h1 : 1 ≤ m) (h2 : m ≤ 10 ^ 900) (hk : k ≤ 1000000000) : ∃ d s', cf (n + 1) 7 [.ref r, .int m] s = .ok (.int d) s' ∧ 0 ≤ d ∧ d < m ∧ At s0 r (k + 1) s' := by
  obtain ⟨d, c, e, h3, h4, j⟩ := pour_ok n a.jug m h1 h2 hk
  obtain ⟨c0, rfl⟩ := a.set
  exact ⟨d, _, e, h3, h4, ⟨c, List.set_set ..⟩, j⟩
theorem ten {m b : Int} (h : m ≤ b) (hb : b ≤ 10 ^ 900) : m ≤ 10 ^ 900 := Int.le_trans h hb
theorem idx_ints {s : Sto} (l : List Int) (P : Int → Prop) (h : ∀ x ∈ l, P x) (d : Int) (h0 : 0 ≤ d) (h1 : d < l.length) : ∃ x, dIdxS s (.lst (l.map .int)) (.int d) = some (.int x) ∧ P x := by
  obtain ⟨k, rfl⟩ : ∃ k : Nat, d = (k : Int) := ⟨d.toNat, by omega⟩
  have hk : k < l.length := by omega
  refine ⟨l.getD k 0, ixIL hk s, ?_⟩
  rw [List.getD_eq_getElem?_getD, List.getElem?_eq_getElem hk]
  exact h _ (List.getElem_mem hk)
theorem lot_ok (n : Nat) {s0 s : Sto} {r k : Nat} (a : At s0 r k s) (hk : k ≤ 100000000) (way : Int) : ∃ m s', cf (n + 2) 45 [.ref r, .int way] s = .ok (.int m) s' ∧ 1 ≤ m ∧ m ≤ 100000000000000 ∧ (way = 0 → m ≤ 7) ∧ At s0 r (k + 2) s' := by
  rw [u45]
  obtain ⟨d, s1, e1, h1, h2, a1⟩ := pour_at (n := n) a 6 (by decide) (by decide +kernel) (by omega)
  obtain ⟨x, ix, hx⟩ := idx_ints (s := s1) [1, 1, 2, 3, 5, 7] (fun x => 1 ≤ x ∧ x ≤ 7) (by decide) d h1 h2
  have ix' : dIdxS s1 (.lst [.int 1, .int 1, .int 2, .int 3, .int 5, .int 7]) (.int d) = some (.int x) := ix
  have pw1 : dBin .Pow (.int 10) (.int 6) = some (.int 1000000) := rfl
  have pw2 : dBin .Pow (.int 2) (.int 40) = some (.int 1099511627776) := rfl
  have pw3 : dBin .Pow (.int 10) (.int 14) = some (.int 100000000000000) := rfl
  by_cases c : way = 0
  · refine ⟨x, s1, ?_, hx.1, by omega, fun _ => hx.2, a1.mono (by omega)⟩
    simp only [B45, e_non, e_bl, e_int, e_str, e_var, e_own, e_cst, e_bin, e_neg, e_cmp, e_chn, e_one, e_and, e_or, e_not, e_ite, e_idx, e_sl, e_tup, e_lst, e_cel, e_call, e_callk, e_bi, e_mth, e_isi, e_len, e_lc, e_fmt, e_fs, e_att, e_mk, e_mkk, e_um, e_dic0, e_dget, e_rgt, es_nil, es_cons, fs_nil, fs_cons, ts_nil, ts_one, src_seq, src_rg1, src_rg2, src_rg3, src_enum, src_zip, src_rev, k_bin, k_bin2, k_neg, k_cmp, k_cmp2, k_chn, k_chn2, k_chn3, k_chn4, k_and1, k_and0, k_or1, k_or0, k_not, k_ite, k_ite1, k_ite0, k_idx, k_idx2, k_sl, k_opt, k_sl2, k_sl3, k_dget, k_dget2, k_rgt, k_tup, k_lst, k_lst5, k_cel, k_call, k_callk, k_callk2, k_bi, k_mth, k_mth1, k_mth2, k_isi, k_len, k_lc, k_lcF, k_lc2, k_lc3t, k_lc3f, k_some, k_fmt, k_fs, k_mk, k_mkk, k_mkk2, k_att, k_um, k_evs, k_cons, k_tru, k_items, k_rg1, k_rg2, k_rg2b, k_rg3, k_rg3b, k_rg3c, k_enumL, k_enumT, k_zip, k_zipTT, k_zipLL, k_zipLT, k_zipTL, k_rev, v_val, o_owd, o_own, l_some, x_ok, o_map, s_set, s_setO, s_par, s_asg, s_aug, s_app, s_seti, s_setd, s_sta, s_ex, s_ret, s_retN, s_ifs, s_lop, s_whl, s_brk, s_cnt, s_pas, s_thru, ss_nil, ss_cons, ss_frz, at_name, at_sub, at_tup, ats_nil, ats_cons, t_set, t_setO, t_par, t_par2, t_asg, t_aug, t_augA, t_augS, t_app, t_app2, t_seti, t_seti2, t_seti3, t_setd, t_setd2, t_setd3, t_sta, t_ex, t_ret, t_ifs, t_ifs1, t_ifs0, t_lop, t_ss, t_ssr, t_ssb, t_ssc, t_ats, t_frz, t_sub, t_thru, t_thrur, o_nxt, v_set0, v_setS, d_set0, d_setD, d_setL, o_bind, z_frz0, z_frzS, List.getElem?_cons_zero, List.getElem?_cons_succ, q_add, q_sub, q_lt, q_le, q_gt, q_ge, q_eq, q_ne, q_is, q_isn, q_isb, q_isnb, q_in, q_int, q_tb, q_ti, q_lenL, q_lenT, q_lenN, q_itL, q_itT, q_tupL, q_tupT, q_lstL, q_lstT, q_intI, q_intB, q_min2, q_max2, q_abs, q_repr, D.isN, decide_true, decide_false, Bool.not_true, Bool.not_false, r_ret, r_nxt, e1, ix', c]
  · obtain ⟨d2, s2, e2, h3, h4, a2⟩ := pour_at (n := n) a1 5 (by decide) (by decide +kernel) (by omega)
    obtain ⟨y, iy, hy⟩ := idx_ints (s := s2) [x, x, 1000000 + 3, 1099511627776, 100000000000000] (fun y => 1 ≤ y ∧ y ≤ 100000000000000) (fun y hy => by
      rcases List.mem_cons.mp hy with e | hy
      · subst e; omega
      rcases List.mem_cons.mp hy with e | hy
      · subst e; omega
      rcases List.mem_cons.mp hy with e | hy
      · subst e; decide
      rcases List.mem_cons.mp hy with e | hy
      · subst e; decide
      · cases List.mem_singleton.mp hy; decide) d2 h3 h4
    have iy' : dIdxS s2 (.lst [.int x, .int x, .int (1000000 + 3), .int 1099511627776, .int 100000000000000]) (.int d2) = some (.int y) := iy
    refine ⟨y, s2, ?_, hy.1, hy.2, fun h => absurd h c, a2.mono (by omega)⟩
    simp only [B45, e_non, e_bl, e_int, e_str, e_var, e_own, e_cst, e_bin, e_neg, e_cmp, e_chn, e_one, e_and, e_or, e_not, e_ite, e_idx, e_sl, e_tup, e_lst, e_cel, e_call, e_callk, e_bi, e_mth, e_isi, e_len, e_lc, e_fmt, e_fs, e_att, e_mk, e_mkk, e_um, e_dic0, e_dget, e_rgt, es_nil, es_cons, fs_nil, fs_cons, ts_nil, ts_one, src_seq, src_rg1, src_rg2, src_rg3, src_enum, src_zip, src_rev, k_bin, k_bin2, k_neg, k_cmp, k_cmp2, k_chn, k_chn2, k_chn3, k_chn4, k_and1, k_and0, k_or1, k_or0, k_not, k_ite, k_ite1, k_ite0, k_idx, k_idx2, k_sl, k_opt, k_sl2, k_sl3, k_dget, k_dget2, k_rgt, k_tup, k_lst, k_lst5, k_cel, k_call, k_callk, k_callk2, k_bi, k_mth, k_mth1, k_mth2, k_isi, k_len, k_lc, k_lcF, k_lc2, k_lc3t, k_lc3f, k_some, k_fmt, k_fs, k_mk, k_mkk, k_mkk2, k_att, k_um, k_evs, k_cons, k_tru, k_items, k_rg1, k_rg2, k_rg2b, k_rg3, k_rg3b, k_rg3c, k_enumL, k_enumT, k_zip, k_zipTT, k_zipLL, k_zipLT, k_zipTL, k_rev, v_val, o_owd, o_own, l_some, x_ok, o_map, s_set, s_setO, s_par, s_asg, s_aug, s_app, s_seti, s_setd, s_sta, s_ex, s_ret, s_retN, s_ifs, s_lop, s_whl, s_brk, s_cnt, s_pas, s_thru, ss_nil, ss_cons, ss_frz, at_name, at_sub, at_tup, ats_nil, ats_cons, t_set, t_setO, t_par, t_par2, t_asg, t_aug, t_augA, t_augS, t_app, t_app2, t_seti, t_seti2, t_seti3, t_setd, t_setd2, t_setd3, t_sta, t_ex, t_ret, t_ifs, t_ifs1, t_ifs0, t_lop, t_ss, t_ssr, t_ssb, t_ssc, t_ats, t_frz, t_sub, t_thru, t_thrur, o_nxt, v_set0, v_setS, d_set0, d_setD, d_setL, o_bind, z_frz0, z_frzS, List.getElem?_cons_zero, List.getElem?_cons_succ, q_add, q_sub, q_lt, q_le, q_gt, q_ge, q_eq, q_ne, q_is, q_isn, q_isb, q_isnb, q_in, q_int, q_tb, q_ti, q_lenL, q_lenT, q_lenN, q_itL, q_itT, q_tupL, q_tupT, q_lstL, q_lstT, q_intI, q_intB, q_min2, q_max2, q_abs, q_repr, D.isN, decide_true, decide_false, Bool.not_true, Bool.not_false, r_ret, r_nxt, e1, ix', c, pw1, pw2, pw3, e2, iy']
theorem labs_len : labs.length = 20 := rfl
theorem lab_at {s : Sto} (t k : Nat) : dIdxS s (.lst (labs.map .str)) (.int (((t : Int) + 7 * (k : Int)) % 20)) = some (.str (lab t k)) := by
  have e : ((t : Int) + 7 * (k : Int)) % 20 = (((t + 7 * k) % 20 : Nat) : Int) := by omega
  rw [e]
  have hk : (t + 7 * k) % 20 < labs.length := by rw [labs_len]; exact Nat.mod_lt _ (by decide)
  refine q_ixL (atI_n ?_)
  unfold lab
  rw [List.getElem?_map, List.getD_eq_getElem?_getD, List.getElem?_eq_getElem hk]; rfl
theorem trunks_ok (n : Nat) {s0 s : Sto} {r k : Nat} (a : At s0 r k s) (hk : k ≤ 10000000) (high : Nat) (hh : 1 ≤ high) (hh2 : high ≤ 20) (way : Int) : ∃ l s', cf (n + 3) 41 [.ref r, .int (high : Int), .int way] s = .ok (.tup (dNs l)) s' ∧ 1 ≤ sizeL l ∧ sizeL l ≤ high ∧ ((preL l).map Nd.x).Nodup ∧ (∀ b ∈ preL l, NdOk b ∧ b.m ≤ (if way = 0 then 7 else 100000000000000)) ∧ At s0 r (k + 100) s' := by
  rw [u41]
  obtain ⟨d1, s1, e1, h1, h2, a1⟩ := pour_at (n := n + 1) a (high : Int) (by omega) (ten (show (high : Int) ≤ 100 by omega) (by decide +kernel)) (by omega)
  obtain ⟨cnt, hc⟩ : ∃ cnt : Nat, 1 + d1 = (cnt : Int) := ⟨(1 + d1).toNat, by omega⟩
  have c1 : 1 ≤ cnt := by omega
  have c2 : cnt ≤ high := by omega
  obtain ⟨d2, s2, e2, h3, h4, a2⟩ := pour_at (n := n + 1) a1 20 (by decide) (by decide +kernel) (by omega)
  obtain ⟨t, rfl⟩ : ∃ t : Nat, d2 = (t : Int) := ⟨d2.toNat, by omega⟩
  have ht : t < 20 := by omega
  have lb : dBin .Add (.lst [.str "a", .str "b9", .str "hull", .str "zzzzzzz0", .str "p", .str "q1q1q1q1", .str "x", .str "mast", .str "y", .str "z"]) (.lst [.str "c", .str "d", .str "e", .str "f", .str "g", .str "h", .str "i", .str "j", .str "k", .str "l"]) = some (.lst (labs.map .str)) := by
    rw [q_addL _ _ (by show 10 + 10 ≤ 16777216; decide)]; rfl
  have o1 : (ok62 1 && ok62 (cnt : Int)) = true := by
    rw [show ok62 1 = true from rfl, Bool.true_and]
    exact decide_eq_true ⟨by omega, by omega⟩
  have o2 : ok62 ((cnt : Int) + 1) = true := decide_eq_true ⟨by omega, by omega⟩
  have o3 : ok62 (cnt : Int) = true ∧ ok62 0 = true := ⟨decide_eq_true ⟨by omega, by omega⟩, rfl⟩
  -- homes
  have rg : rangeD 1 ((cnt : Int) - 1).toNat 1 = (List.range (cnt - 1)).map fun i : Nat => D.int ((i : Int) + 1) := by
    unfold rangeD
    rw [show ((cnt : Int) - 1).toNat = cnt - 1 by omega]
    exact List.map_congr_left fun i _ => by rw [Int.mul_one, Int.add_comm]
  have okh : okL ((List.range (cnt - 1)).map fun i : Nat => D.int ((i : Int) + 1)).length = true := okL_of (by rw [List.length_map, List.length_range]; omega)
  obtain ⟨ys, s3, e3, p3, a3⟩ := lc_ex (f := lcF G0 (cf (n + 2)) (mf (n + 2)) (.name 7) .nil (.call 7 (.cons (.var 0) (.cons (.bin .Add (.var 7) (.int 1)) .nil))) [7] [.val (.ref r), .val (.int (high : Int)), .val (.int way), .val (.lst (labs.map .str)), .val (.int (t : Int)), .und, .und, .und, .val (.int (cnt : Int)), .und]) (fun j s => At s0 r (k + 2 + j) s) (fun (i : Nat) y => ∃ h : Nat, y = D.int (h : Int) ∧ h < i + 2) (fun i : Nat => D.int ((i : Int) + 1)) 100 (List.range (cnt - 1)) 0 s2 (by rw [List.length_range]; omega) a2 (fun i hi j s hj aj => by
    have := List.mem_range.mp hi
    obtain ⟨d, s', e, g1, g2, a'⟩ := pour_at (n := n + 1) aj ((i : Int) + 1 + 1) (by omega) (ten (show (i : Int) + 1 + 1 ≤ 100 by omega) (by decide +kernel)) (by omega)
    refine ⟨D.int d, s', ?_, ⟨d.toNat, by rw [Int.toNat_of_nonneg g1], by omega⟩, a'⟩
    simp only [e_non, e_bl, e_int, e_str, e_var, e_own, e_cst, e_bin, e_neg, e_cmp, e_chn, e_one, e_and, e_or, e_not, e_ite, e_idx, e_sl, e_tup, e_lst, e_cel, e_call, e_callk, e_bi, e_mth, e_isi, e_len, e_lc, e_fmt, e_fs, e_att, e_mk, e_mkk, e_um, e_dic0, e_dget, e_rgt, es_nil, es_cons, fs_nil, fs_cons, ts_nil, ts_one, src_seq, src_rg1, src_rg2, src_rg3, src_enum, src_zip, src_rev, k_bin, k_bin2, k_neg, k_cmp, k_cmp2, k_chn, k_chn2, k_chn3, k_chn4, k_and1, k_and0, k_or1, k_or0, k_not, k_ite, k_ite1, k_ite0, k_idx, k_idx2, k_sl, k_opt, k_sl2, k_sl3, k_dget, k_dget2, k_rgt, k_tup, k_lst, k_lst5, k_cel, k_call, k_callk, k_callk2, k_bi, k_mth, k_mth1, k_mth2, k_isi, k_len, k_lc, k_lcF, k_lc2, k_lc3t, k_lc3f, k_some, k_fmt, k_fs, k_mk, k_mkk, k_mkk2, k_att, k_um, k_evs, k_cons, k_tru, k_items, k_rg1, k_rg2, k_rg2b, k_rg3, k_rg3b, k_rg3c, k_enumL, k_enumT, k_zip, k_zipTT, k_zipLL, k_zipLT, k_zipTL, k_rev, v_val, o_owd, o_own, l_some, x_ok, o_map, s_set, s_setO, s_par, s_asg, s_aug, s_app, s_seti, s_setd, s_sta, s_ex, s_ret, s_retN, s_ifs, s_lop, s_whl, s_brk, s_cnt, s_pas, s_thru, ss_nil, ss_cons, ss_frz, at_name, at_sub, at_tup, ats_nil, ats_cons, t_set, t_setO, t_par, t_par2, t_asg, t_aug, t_augA, t_augS, t_app, t_app2, t_seti, t_seti2, t_seti3, t_setd, t_setd2, t_setd3, t_sta, t_ex, t_ret, t_ifs, t_ifs1, t_ifs0, t_lop, t_ss, t_ssr, t_ssb, t_ssc, t_ats, t_frz, t_sub, t_thru, t_thrur, o_nxt, v_set0, v_setS, d_set0, d_setD, d_setL, o_bind, z_frz0, z_frzS, List.getElem?_cons_zero, List.getElem?_cons_succ, q_add, q_sub, q_lt, q_le, q_gt, q_ge, q_eq, q_ne, q_is, q_isn, q_isb, q_isnb, q_in, q_int, q_tb, q_ti, q_lenL, q_lenT, q_lenN, q_itL, q_itT, q_tupL, q_tupT, q_lstL, q_lstT, q_intI, q_intB, q_min2, q_max2, q_abs, q_repr, D.isN, decide_true, decide_false, Bool.not_true, Bool.not_false, r_ret, r_nxt, wipeE, List.set, b_name, e])
  rw [List.length_range] at a3
  have hom : ∀ i, i < cnt → ∃ h : Nat, (D.int 0 :: ys)[i]? = some (.int (h : Int)) ∧ h < i + 1 := by
    intro i hi
    cases i with
    | zero => exact ⟨0, rfl, by omega⟩
    | succ i =>
      obtain ⟨y, e, h, rfl, hb⟩ := p3.get (i := i) (x := i) (List.getElem?_range (by omega))
      exact ⟨h, e, by omega⟩
  have ylen : ys.length = cnt - 1 := by rw [← p3.length, List.length_range]
  have adh : dBin .Add (.lst [.int 0]) (.lst ys) = some (.lst (.int 0 :: ys)) := by
    rw [q_addL _ _ (by show 1 + ys.length ≤ _; omega)]; rfl
  have ok6 : okL ((List.range (cnt + 1)).map fun i : Nat => D.int (i : Int)).length = true := okL_of (by rw [List.length_map, List.length_range]; omega)
  have emp : ((List.range (cnt + 1)).map fun _ : Nat => D.lst []) = (List.replicate (cnt + 1) ([] : List Nd)).map fun l => D.lst (dNs l) := by
    rw [List.map_replicate]
    have : ∀ m, (List.range m).map (fun _ => D.lst []) = List.replicate m (D.lst []) := fun m => by rw [List.map_const', List.length_range]
    exact this _
  obtain ⟨Mw, hMw⟩ : ∃ Mw : Int, Mw = (if way = 0 then 7 else 100000000000000) := ⟨_, rfl⟩
  have go := lop_inv (t := .name 7) (f := evSs G0 (cf (n + 2)) (mf (n + 2)) (.cons (.set 9 (.idx (.var 3) (.bin .Mod (.bi .int (.cons (.bin .Add (.var 4) (.bin .Mult (.int 7) (.var 7))) .nil)) (.int 20)))) (.cons (.seti 6 (.idx (.var 5) (.bin .Sub (.var 7) (.int 1))) (.bin .Add (.lst (.cons (.tup (.cons (.call 45 (.cons (.var 0) (.cons (.var 2) .nil))) (.cons (.var 9) (.cons (.bi .tuple (.cons (.idx (.own 6) (.var 7)) .nil)) .nil)))) .nil)) (.idx (.own 6) (.idx (.var 5) (.bin .Sub (.var 7) (.int 1)))))) .nil)))
    (fun ds env s => ∃ (K : Nat) (parts : List (List Nd)) (e7 e9 : Sl), ds = dn K ∧ K ≤ cnt ∧ TI Mw t cnt parts K ∧ env = [.val (.ref r), .val (.int (high : Int)), .val (.int way), .val (.lst (labs.map .str)), .val (.int (t : Int)), .val (.lst (.int 0 :: ys)), .own (parts.map fun l => D.lst (dNs l)), e7, .val (.int (cnt : Int)), e9] ∧ At s0 r (k + 30 + 2 * (cnt - K)) s)
    (fun d ds env s hp => by
      obtain ⟨K, parts, e7, e9, q1, q2, T, q3, aK⟩ := hp
      cases K with
      | zero => cases q1
      | succ K =>
        cases q1
        subst q3
        obtain ⟨h, eh, hb⟩ := hom K (by omega)
        obtain ⟨ps, eps⟩ : ∃ ps, parts[K + 1]? = some ps := ⟨_, List.getElem?_eq_getElem (by rw [T.len]; omega)⟩
        obtain ⟨l, el⟩ : ∃ l, parts[h]? = some l := ⟨_, List.getElem?_eq_getElem (by rw [T.len]; omega)⟩
        have sm := ti_small T el (by omega)
        obtain ⟨m, s', em, m1, m2, m3, a'⟩ := lot_ok n aK (by omega) way
        have mM : m ≤ Mw := by
          rw [hMw]
          split
          · rename_i c; exact m3 c
          · exact m2
        have T' := ti_step T (by omega) hb eps el m1 (Int.le_trans m2 (by decide +kernel)) mM (lab_name t ht (K + 1) (by omega))
        have x1 : ∀ s, dIdxS s (.lst (.int 0 :: ys)) (.int ((K + 1 : Nat) : Int) ) = dIdxS s (.lst (.int 0 :: ys)) (.int ((K + 1 : Nat) : Int)) := fun s => rfl
        have sbK : ((K + 1 : Nat) : Int) - 1 = (K : Int) := by omega
        have x2 : ∀ s, dIdxS s (.lst (.int 0 :: ys)) (.int (K : Int)) = some (.int (h : Int)) := fun s => q_ixL (atI_n eh)
        have x3 : ∀ s, dIdxS s (.lst (parts.map fun l => D.lst (dNs l))) (.int ((K + 1 : Nat) : Int)) = some (.lst (dNs ps)) := fun s => q_ixL (atI_n (by rw [List.getElem?_map, eps]; rfl))
        have x4 : ∀ s, dIdxS s (.lst (parts.map fun l => D.lst (dNs l))) (.int (h : Int)) = some (.lst (dNs l)) := fun s => q_ixL (atI_n (by rw [List.getElem?_map, el]; rfl))
        have ad : dBin .Add (.lst [.tup [.int m, .str (lab t (K + 1)), .tup (dNs ps)]]) (.lst (dNs l)) = some (.lst (dNs (.mk m (lab t (K + 1)) ps :: l))) := by
          rw [q_addL _ _ (by rw [dNs_map l, List.length_map]; show 1 + l.length ≤ _; omega)]; rfl
        have st : setAt (parts.map fun l => D.lst (dNs l)) (h : Int) (.lst (dNs (.mk m (lab t (K + 1)) ps :: l))) = some ((parts.set h (.mk m (lab t (K + 1)) ps :: l)).map fun l => D.lst (dNs l)) := by
          rw [setAt_n (by rw [List.length_map, T.len]; omega), List.map_set]
        have mu : dBin .Mult (.int 7) (.int ((K + 1 : Nat) : Int)) = some (.int (7 * ((K + 1 : Nat) : Int))) := q_mul _ _ (by decide +kernel) (abs_lt (b := 10000) (by omega) (by omega) (by decide +kernel))
        have md : dBin .Mod (.int ((t : Int) + 7 * ((K + 1 : Nat) : Int))) (.int 20) = some (.int (((t : Int) + 7 * ((K + 1 : Nat) : Int)) % 20)) := q_mod _ _ (by decide)
        refine ⟨[.val (.ref r), .val (.int (high : Int)), .val (.int way), .val (.lst (labs.map .str)), .val (.int (t : Int)), .val (.lst (.int 0 :: ys)), .own (parts.map fun l => D.lst (dNs l)), .val (.int ((K + 1 : Nat) : Int)), .val (.int (cnt : Int)), e9], [.val (.ref r), .val (.int (high : Int)), .val (.int way), .val (.lst (labs.map .str)), .val (.int (t : Int)), .val (.lst (.int 0 :: ys)), .own ((parts.set h (.mk m (lab t (K + 1)) ps :: l)).map fun l => D.lst (dNs l)), .val (.int ((K + 1 : Nat) : Int)), .val (.int (cnt : Int)), .val (.str (lab t (K + 1)))], s', ?_, ?_, ⟨K, _, _, _, rfl, by omega, T', rfl, a'.mono (by omega)⟩⟩
        · simp only [b_name, e_non, e_bl, e_int, e_str, e_var, e_own, e_cst, e_bin, e_neg, e_cmp, e_chn, e_one, e_and, e_or, e_not, e_ite, e_idx, e_sl, e_tup, e_lst, e_cel, e_call, e_callk, e_bi, e_mth, e_isi, e_len, e_lc, e_fmt, e_fs, e_att, e_mk, e_mkk, e_um, e_dic0, e_dget, e_rgt, es_nil, es_cons, fs_nil, fs_cons, ts_nil, ts_one, src_seq, src_rg1, src_rg2, src_rg3, src_enum, src_zip, src_rev, k_bin, k_bin2, k_neg, k_cmp, k_cmp2, k_chn, k_chn2, k_chn3, k_chn4, k_and1, k_and0, k_or1, k_or0, k_not, k_ite, k_ite1, k_ite0, k_idx, k_idx2, k_sl, k_opt, k_sl2, k_sl3, k_dget, k_dget2, k_rgt, k_tup, k_lst, k_lst5, k_cel, k_call, k_callk, k_callk2, k_bi, k_mth, k_mth1, k_mth2, k_isi, k_len, k_lc, k_lcF, k_lc2, k_lc3t, k_lc3f, k_some, k_fmt, k_fs, k_mk, k_mkk, k_mkk2, k_att, k_um, k_evs, k_cons, k_tru, k_items, k_rg1, k_rg2, k_rg2b, k_rg3, k_rg3b, k_rg3c, k_enumL, k_enumT, k_zip, k_zipTT, k_zipLL, k_zipLT, k_zipTL, k_rev, v_val, o_owd, o_own, l_some, x_ok, o_map, s_set, s_setO, s_par, s_asg, s_aug, s_app, s_seti, s_setd, s_sta, s_ex, s_ret, s_retN, s_ifs, s_lop, s_whl, s_brk, s_cnt, s_pas, s_thru, ss_nil, ss_cons, ss_frz, at_name, at_sub, at_tup, ats_nil, ats_cons, t_set, t_setO, t_par, t_par2, t_asg, t_aug, t_augA, t_augS, t_app, t_app2, t_seti, t_seti2, t_seti3, t_setd, t_setd2, t_setd3, t_sta, t_ex, t_ret, t_ifs, t_ifs1, t_ifs0, t_lop, t_ss, t_ssr, t_ssb, t_ssc, t_ats, t_frz, t_sub, t_thru, t_thrur, o_nxt, v_set0, v_setS, d_set0, d_setD, d_setL, o_bind, z_frz0, z_frzS, List.getElem?_cons_zero, List.getElem?_cons_succ]
        · simp only [e_non, e_bl, e_int, e_str, e_var, e_own, e_cst, e_bin, e_neg, e_cmp, e_chn, e_one, e_and, e_or, e_not, e_ite, e_idx, e_sl, e_tup, e_lst, e_cel, e_call, e_callk, e_bi, e_mth, e_isi, e_len, e_lc, e_fmt, e_fs, e_att, e_mk, e_mkk, e_um, e_dic0, e_dget, e_rgt, es_nil, es_cons, fs_nil, fs_cons, ts_nil, ts_one, src_seq, src_rg1, src_rg2, src_rg3, src_enum, src_zip, src_rev, k_bin, k_bin2, k_neg, k_cmp, k_cmp2, k_chn, k_chn2, k_chn3, k_chn4, k_and1, k_and0, k_or1, k_or0, k_not, k_ite, k_ite1, k_ite0, k_idx, k_idx2, k_sl, k_opt, k_sl2, k_sl3, k_dget, k_dget2, k_rgt, k_tup, k_lst, k_lst5, k_cel, k_call, k_callk, k_callk2, k_bi, k_mth, k_mth1, k_mth2, k_isi, k_len, k_lc, k_lcF, k_lc2, k_lc3t, k_lc3f, k_some, k_fmt, k_fs, k_mk, k_mkk, k_mkk2, k_att, k_um, k_evs, k_cons, k_tru, k_items, k_rg1, k_rg2, k_rg2b, k_rg3, k_rg3b, k_rg3c, k_enumL, k_enumT, k_zip, k_zipTT, k_zipLL, k_zipLT, k_zipTL, k_rev, v_val, o_owd, o_own, l_some, x_ok, o_map, s_set, s_setO, s_par, s_asg, s_aug, s_app, s_seti, s_setd, s_sta, s_ex, s_ret, s_retN, s_ifs, s_lop, s_whl, s_brk, s_cnt, s_pas, s_thru, ss_nil, ss_cons, ss_frz, at_name, at_sub, at_tup, ats_nil, ats_cons, t_set, t_setO, t_par, t_par2, t_asg, t_aug, t_augA, t_augS, t_app, t_app2, t_seti, t_seti2, t_seti3, t_setd, t_setd2, t_setd3, t_sta, t_ex, t_ret, t_ifs, t_ifs1, t_ifs0, t_lop, t_ss, t_ssr, t_ssb, t_ssc, t_ats, t_frz, t_sub, t_thru, t_thrur, o_nxt, v_set0, v_setS, d_set0, d_setD, d_setL, o_bind, z_frz0, z_frzS, List.getElem?_cons_zero, List.getElem?_cons_succ, q_add, q_sub, q_lt, q_le, q_gt, q_ge, q_eq, q_ne, q_is, q_isn, q_isb, q_isnb, q_in, q_int, q_tb, q_ti, q_lenL, q_lenT, q_lenN, q_itL, q_itT, q_tupL, q_tupT, q_lstL, q_lstT, q_intI, q_intB, q_min2, q_max2, q_abs, q_repr, D.isN, decide_true, decide_false, Bool.not_true, Bool.not_false, r_ret, r_nxt, mu, md, lab_at t (K + 1), em, x3, sbK, x2, x4, ad]
          rw [t_seti3 _ _ _ _ _ st]
          simp only [e_non, e_bl, e_int, e_str, e_var, e_own, e_cst, e_bin, e_neg, e_cmp, e_chn, e_one, e_and, e_or, e_not, e_ite, e_idx, e_sl, e_tup, e_lst, e_cel, e_call, e_callk, e_bi, e_mth, e_isi, e_len, e_lc, e_fmt, e_fs, e_att, e_mk, e_mkk, e_um, e_dic0, e_dget, e_rgt, es_nil, es_cons, fs_nil, fs_cons, ts_nil, ts_one, src_seq, src_rg1, src_rg2, src_rg3, src_enum, src_zip, src_rev, k_bin, k_bin2, k_neg, k_cmp, k_cmp2, k_chn, k_chn2, k_chn3, k_chn4, k_and1, k_and0, k_or1, k_or0, k_not, k_ite, k_ite1, k_ite0, k_idx, k_idx2, k_sl, k_opt, k_sl2, k_sl3, k_dget, k_dget2, k_rgt, k_tup, k_lst, k_lst5, k_cel, k_call, k_callk, k_callk2, k_bi, k_mth, k_mth1, k_mth2, k_isi, k_len, k_lc, k_lcF, k_lc2, k_lc3t, k_lc3f, k_some, k_fmt, k_fs, k_mk, k_mkk, k_mkk2, k_att, k_um, k_evs, k_cons, k_tru, k_items, k_rg1, k_rg2, k_rg2b, k_rg3, k_rg3b, k_rg3c, k_enumL, k_enumT, k_zip, k_zipTT, k_zipLL, k_zipLT, k_zipTL, k_rev, v_val, o_owd, o_own, l_some, x_ok, o_map, s_set, s_setO, s_par, s_asg, s_aug, s_app, s_seti, s_setd, s_sta, s_ex, s_ret, s_retN, s_ifs, s_lop, s_whl, s_brk, s_cnt, s_pas, s_thru, ss_nil, ss_cons, ss_frz, at_name, at_sub, at_tup, ats_nil, ats_cons, t_set, t_setO, t_par, t_par2, t_asg, t_aug, t_augA, t_augS, t_app, t_app2, t_seti, t_seti2, t_seti3, t_setd, t_setd2, t_setd3, t_sta, t_ex, t_ret, t_ifs, t_ifs1, t_ifs0, t_lop, t_ss, t_ssr, t_ssb, t_ssc, t_ats, t_frz, t_sub, t_thru, t_thrur, o_nxt, v_set0, v_setS, d_set0, d_setD, d_setL, o_bind, z_frz0, z_frzS, List.getElem?_cons_zero, List.getElem?_cons_succ, List.set])
    (dn cnt) [.val (.ref r), .val (.int (high : Int)), .val (.int way), .val (.lst (labs.map .str)), .val (.int (t : Int)), .val (.lst (.int 0 :: ys)), .own ((List.replicate (cnt + 1) ([] : List Nd)).map fun l => D.lst (dNs l)), .und, .val (.int (cnt : Int)), .und] s3 ⟨cnt, _, _, _, rfl, Nat.le_refl _, ti_start Mw t cnt, rfl, a3.mono (by omega)⟩
  obtain ⟨env', s', e, K, parts, e7, e9, q1, q2, T, q3, aK⟩ := go
  cases K with
  | succ K => cases q1
  | zero =>
    obtain ⟨l, el⟩ : ∃ l, parts[0]? = some l := ⟨_, List.getElem?_eq_getElem (by rw [T.len]; omega)⟩
    obtain ⟨z1, z2, z3⟩ := ti_end T ht (by omega) el
    have x4 : ∀ s, dIdxS s (.lst (parts.map fun l => D.lst (dNs l))) (.int 0) = some (.lst (dNs l)) := fun s => q_ixL (atI_n (k := 0) (by rw [List.getElem?_map, el]; rfl))
    refine ⟨l, s', ?_, by omega, by omega, z2, by rw [← hMw]; exact z3, aK.mono (by omega)⟩
    have dr := dn_range cnt
    simp only [B41, e_non, e_bl, e_int, e_str, e_var, e_own, e_cst, e_bin, e_neg, e_cmp, e_chn, e_one, e_and, e_or, e_not, e_ite, e_idx, e_sl, e_tup, e_lst, e_cel, e_call, e_callk, e_bi, e_mth, e_isi, e_len, e_lc, e_fmt, e_fs, e_att, e_mk, e_mkk, e_um, e_dic0, e_dget, e_rgt, es_nil, es_cons, fs_nil, fs_cons, ts_nil, ts_one, src_seq, src_rg1, src_rg2, src_rg3, src_enum, src_zip, src_rev, k_bin, k_bin2, k_neg, k_cmp, k_cmp2, k_chn, k_chn2, k_chn3, k_chn4, k_and1, k_and0, k_or1, k_or0, k_not, k_ite, k_ite1, k_ite0, k_idx, k_idx2, k_sl, k_opt, k_sl2, k_sl3, k_dget, k_dget2, k_rgt, k_tup, k_lst, k_lst5, k_cel, k_call, k_callk, k_callk2, k_bi, k_mth, k_mth1, k_mth2, k_isi, k_len, k_lc, k_lcF, k_lc2, k_lc3t, k_lc3f, k_some, k_fmt, k_fs, k_mk, k_mkk, k_mkk2, k_att, k_um, k_evs, k_cons, k_tru, k_items, k_rg1, k_rg2, k_rg2b, k_rg3, k_rg3b, k_rg3c, k_enumL, k_enumT, k_zip, k_zipTT, k_zipLL, k_zipLT, k_zipTL, k_rev, v_val, o_owd, o_own, l_some, x_ok, o_map, s_set, s_setO, s_par, s_asg, s_aug, s_app, s_seti, s_setd, s_sta, s_ex, s_ret, s_retN, s_ifs, s_lop, s_whl, s_brk, s_cnt, s_pas, s_thru, ss_nil, ss_cons, ss_frz, at_name, at_sub, at_tup, ats_nil, ats_cons, t_set, t_setO, t_par, t_par2, t_asg, t_aug, t_augA, t_augS, t_app, t_app2, t_seti, t_seti2, t_seti3, t_setd, t_setd2, t_setd3, t_sta, t_ex, t_ret, t_ifs, t_ifs1, t_ifs0, t_lop, t_ss, t_ssr, t_ssb, t_ssc, t_ats, t_frz, t_sub, t_thru, t_thrur, o_nxt, v_set0, v_setS, d_set0, d_setD, d_setL, o_bind, z_frz0, z_frzS, List.getElem?_cons_zero, List.getElem?_cons_succ, q_add, q_sub, q_lt, q_le, q_gt, q_ge, q_eq, q_ne, q_is, q_isn, q_isb, q_isnb, q_in, q_int, q_tb, q_ti, q_lenL, q_lenT, q_lenN, q_itL, q_itT, q_tupL, q_tupT, q_lstL, q_lstT, q_intI, q_intB, q_min2, q_max2, q_abs, q_repr, D.isN, decide_true, decide_false, Bool.not_true, Bool.not_false, r_ret, r_nxt, e1, hc, lb, e2, o1, rg]
    rw [k_lc _ _ _ _ _ okh, e3]
    have c1' : ((cnt : Int) + 1).toNat = cnt + 1 := by omega
    simp only [e_non, e_bl, e_int, e_str, e_var, e_own, e_cst, e_bin, e_neg, e_cmp, e_chn, e_one, e_and, e_or, e_not, e_ite, e_idx, e_sl, e_tup, e_lst, e_cel, e_call, e_callk, e_bi, e_mth, e_isi, e_len, e_lc, e_fmt, e_fs, e_att, e_mk, e_mkk, e_um, e_dic0, e_dget, e_rgt, es_nil, es_cons, fs_nil, fs_cons, ts_nil, ts_one, src_seq, src_rg1, src_rg2, src_rg3, src_enum, src_zip, src_rev, k_bin, k_bin2, k_neg, k_cmp, k_cmp2, k_chn, k_chn2, k_chn3, k_chn4, k_and1, k_and0, k_or1, k_or0, k_not, k_ite, k_ite1, k_ite0, k_idx, k_idx2, k_sl, k_opt, k_sl2, k_sl3, k_dget, k_dget2, k_rgt, k_tup, k_lst, k_lst5, k_cel, k_call, k_callk, k_callk2, k_bi, k_mth, k_mth1, k_mth2, k_isi, k_len, k_lc, k_lcF, k_lc2, k_lc3t, k_lc3f, k_some, k_fmt, k_fs, k_mk, k_mkk, k_mkk2, k_att, k_um, k_evs, k_cons, k_tru, k_items, k_rg1, k_rg2, k_rg2b, k_rg3, k_rg3b, k_rg3c, k_enumL, k_enumT, k_zip, k_zipTT, k_zipLL, k_zipLT, k_zipTL, k_rev, v_val, o_owd, o_own, l_some, x_ok, o_map, s_set, s_setO, s_par, s_asg, s_aug, s_app, s_seti, s_setd, s_sta, s_ex, s_ret, s_retN, s_ifs, s_lop, s_whl, s_brk, s_cnt, s_pas, s_thru, ss_nil, ss_cons, ss_frz, at_name, at_sub, at_tup, ats_nil, ats_cons, t_set, t_setO, t_par, t_par2, t_asg, t_aug, t_augA, t_augS, t_app, t_app2, t_seti, t_seti2, t_seti3, t_setd, t_setd2, t_setd3, t_sta, t_ex, t_ret, t_ifs, t_ifs1, t_ifs0, t_lop, t_ss, t_ssr, t_ssb, t_ssc, t_ats, t_frz, t_sub, t_thru, t_thrur, o_nxt, v_set0, v_setS, d_set0, d_setD, d_setL, o_bind, z_frz0, z_frzS, List.getElem?_cons_zero, List.getElem?_cons_succ, q_add, q_sub, q_lt, q_le, q_gt, q_ge, q_eq, q_ne, q_is, q_isn, q_isb, q_isnb, q_in, q_int, q_tb, q_ti, q_lenL, q_lenT, q_lenN, q_itL, q_itT, q_tupL, q_tupT, q_lstL, q_lstT, q_intI, q_intB, q_min2, q_max2, q_abs, q_repr, D.isN, decide_true, decide_false, Bool.not_true, Bool.not_false, r_ret, r_nxt, adh, o2, c1', rg_map]
    rw [k_lc _ _ _ _ _ ok6, lc_map (fun i : Nat => D.int (i : Int)) (fun _ => D.lst []) _ fun i _ => by
      simp only [e_non, e_bl, e_int, e_str, e_var, e_own, e_cst, e_bin, e_neg, e_cmp, e_chn, e_one, e_and, e_or, e_not, e_ite, e_idx, e_sl, e_tup, e_lst, e_cel, e_call, e_callk, e_bi, e_mth, e_isi, e_len, e_lc, e_fmt, e_fs, e_att, e_mk, e_mkk, e_um, e_dic0, e_dget, e_rgt, es_nil, es_cons, fs_nil, fs_cons, ts_nil, ts_one, src_seq, src_rg1, src_rg2, src_rg3, src_enum, src_zip, src_rev, k_bin, k_bin2, k_neg, k_cmp, k_cmp2, k_chn, k_chn2, k_chn3, k_chn4, k_and1, k_and0, k_or1, k_or0, k_not, k_ite, k_ite1, k_ite0, k_idx, k_idx2, k_sl, k_opt, k_sl2, k_sl3, k_dget, k_dget2, k_rgt, k_tup, k_lst, k_lst5, k_cel, k_call, k_callk, k_callk2, k_bi, k_mth, k_mth1, k_mth2, k_isi, k_len, k_lc, k_lcF, k_lc2, k_lc3t, k_lc3f, k_some, k_fmt, k_fs, k_mk, k_mkk, k_mkk2, k_att, k_um, k_evs, k_cons, k_tru, k_items, k_rg1, k_rg2, k_rg2b, k_rg3, k_rg3b, k_rg3c, k_enumL, k_enumT, k_zip, k_zipTT, k_zipLL, k_zipLT, k_zipTL, k_rev, v_val, o_owd, o_own, l_some, x_ok, o_map, s_set, s_setO, s_par, s_asg, s_aug, s_app, s_seti, s_setd, s_sta, s_ex, s_ret, s_retN, s_ifs, s_lop, s_whl, s_brk, s_cnt, s_pas, s_thru, ss_nil, ss_cons, ss_frz, at_name, at_sub, at_tup, ats_nil, ats_cons, t_set, t_setO, t_par, t_par2, t_asg, t_aug, t_augA, t_augS, t_app, t_app2, t_seti, t_seti2, t_seti3, t_setd, t_setd2, t_setd3, t_sta, t_ex, t_ret, t_ifs, t_ifs1, t_ifs0, t_lop, t_ss, t_ssr, t_ssb, t_ssc, t_ats, t_frz, t_sub, t_thru, t_thrur, o_nxt, v_set0, v_setS, d_set0, d_setD, d_setL, o_bind, z_frz0, z_frzS, List.getElem?_cons_zero, List.getElem?_cons_succ, wipeE, List.set, b_name], emp]
    have ng : ((cnt : Int) - 0).toNat = cnt := by omega
    simp only [e_non, e_bl, e_int, e_str, e_var, e_own, e_cst, e_bin, e_neg, e_cmp, e_chn, e_one, e_and, e_or, e_not, e_ite, e_idx, e_sl, e_tup, e_lst, e_cel, e_call, e_callk, e_bi, e_mth, e_isi, e_len, e_lc, e_fmt, e_fs, e_att, e_mk, e_mkk, e_um, e_dic0, e_dget, e_rgt, es_nil, es_cons, fs_nil, fs_cons, ts_nil, ts_one, src_seq, src_rg1, src_rg2, src_rg3, src_enum, src_zip, src_rev, k_bin, k_bin2, k_neg, k_cmp, k_cmp2, k_chn, k_chn2, k_chn3, k_chn4, k_and1, k_and0, k_or1, k_or0, k_not, k_ite, k_ite1, k_ite0, k_idx, k_idx2, k_sl, k_opt, k_sl2, k_sl3, k_dget, k_dget2, k_rgt, k_tup, k_lst, k_lst5, k_cel, k_call, k_callk, k_callk2, k_bi, k_mth, k_mth1, k_mth2, k_isi, k_len, k_lc, k_lcF, k_lc2, k_lc3t, k_lc3f, k_some, k_fmt, k_fs, k_mk, k_mkk, k_mkk2, k_att, k_um, k_evs, k_cons, k_tru, k_items, k_rg1, k_rg2, k_rg2b, k_rg3, k_rg3b, k_rg3c, k_enumL, k_enumT, k_zip, k_zipTT, k_zipLL, k_zipLT, k_zipTL, k_rev, v_val, o_owd, o_own, l_some, x_ok, o_map, s_set, s_setO, s_par, s_asg, s_aug, s_app, s_seti, s_setd, s_sta, s_ex, s_ret, s_retN, s_ifs, s_lop, s_whl, s_brk, s_cnt, s_pas, s_thru, ss_nil, ss_cons, ss_frz, at_name, at_sub, at_tup, ats_nil, ats_cons, t_set, t_setO, t_par, t_par2, t_asg, t_aug, t_augA, t_augS, t_app, t_app2, t_seti, t_seti2, t_seti3, t_setd, t_setd2, t_setd3, t_sta, t_ex, t_ret, t_ifs, t_ifs1, t_ifs0, t_lop, t_ss, t_ssr, t_ssb, t_ssc, t_ats, t_frz, t_sub, t_thru, t_thrur, o_nxt, v_set0, v_setS, d_set0, d_setD, d_setL, o_bind, z_frz0, z_frzS, List.getElem?_cons_zero, List.getElem?_cons_succ, q_add, q_sub, q_lt, q_le, q_gt, q_ge, q_eq, q_ne, q_is, q_isn, q_isb, q_isnb, q_in, q_int, q_tb, q_ti, q_lenL, q_lenT, q_lenN, q_itL, q_itT, q_tupL, q_tupT, q_lstL, q_lstT, q_intI, q_intB, q_min2, q_max2, q_abs, q_repr, D.isN, decide_true, decide_false, Bool.not_true, Bool.not_false, r_ret, r_nxt, ng]
    rw [k_rg3c _ _ o3, ng, dr]
    simp only [e_non, e_bl, e_int, e_str, e_var, e_own, e_cst, e_bin, e_neg, e_cmp, e_chn, e_one, e_and, e_or, e_not, e_ite, e_idx, e_sl, e_tup, e_lst, e_cel, e_call, e_callk, e_bi, e_mth, e_isi, e_len, e_lc, e_fmt, e_fs, e_att, e_mk, e_mkk, e_um, e_dic0, e_dget, e_rgt, es_nil, es_cons, fs_nil, fs_cons, ts_nil, ts_one, src_seq, src_rg1, src_rg2, src_rg3, src_enum, src_zip, src_rev, k_bin, k_bin2, k_neg, k_cmp, k_cmp2, k_chn, k_chn2, k_chn3, k_chn4, k_and1, k_and0, k_or1, k_or0, k_not, k_ite, k_ite1, k_ite0, k_idx, k_idx2, k_sl, k_opt, k_sl2, k_sl3, k_dget, k_dget2, k_rgt, k_tup, k_lst, k_lst5, k_cel, k_call, k_callk, k_callk2, k_bi, k_mth, k_mth1, k_mth2, k_isi, k_len, k_lc, k_lcF, k_lc2, k_lc3t, k_lc3f, k_some, k_fmt, k_fs, k_mk, k_mkk, k_mkk2, k_att, k_um, k_evs, k_cons, k_tru, k_items, k_rg1, k_rg2, k_rg2b, k_rg3, k_rg3b, k_rg3c, k_enumL, k_enumT, k_zip, k_zipTT, k_zipLL, k_zipLT, k_zipTL, k_rev, v_val, o_owd, o_own, l_some, x_ok, o_map, s_set, s_setO, s_par, s_asg, s_aug, s_app, s_seti, s_setd, s_sta, s_ex, s_ret, s_retN, s_ifs, s_lop, s_whl, s_brk, s_cnt, s_pas, s_thru, ss_nil, ss_cons, ss_frz, at_name, at_sub, at_tup, ats_nil, ats_cons, t_set, t_setO, t_par, t_par2, t_asg, t_aug, t_augA, t_augS, t_app, t_app2, t_seti, t_seti2, t_seti3, t_setd, t_setd2, t_setd3, t_sta, t_ex, t_ret, t_ifs, t_ifs1, t_ifs0, t_lop, t_ss, t_ssr, t_ssb, t_ssc, t_ats, t_frz, t_sub, t_thru, t_thrur, o_nxt, v_set0, v_setS, d_set0, d_setD, d_setL, o_bind, z_frz0, z_frzS, List.getElem?_cons_zero, List.getElem?_cons_succ]
    rw [e, q3]
    simp only [e_non, e_bl, e_int, e_str, e_var, e_own, e_cst, e_bin, e_neg, e_cmp, e_chn, e_one, e_and, e_or, e_not, e_ite, e_idx, e_sl, e_tup, e_lst, e_cel, e_call, e_callk, e_bi, e_mth, e_isi, e_len, e_lc, e_fmt, e_fs, e_att, e_mk, e_mkk, e_um, e_dic0, e_dget, e_rgt, es_nil, es_cons, fs_nil, fs_cons, ts_nil, ts_one, src_seq, src_rg1, src_rg2, src_rg3, src_enum, src_zip, src_rev, k_bin, k_bin2, k_neg, k_cmp, k_cmp2, k_chn, k_chn2, k_chn3, k_chn4, k_and1, k_and0, k_or1, k_or0, k_not, k_ite, k_ite1, k_ite0, k_idx, k_idx2, k_sl, k_opt, k_sl2, k_sl3, k_dget, k_dget2, k_rgt, k_tup, k_lst, k_lst5, k_cel, k_call, k_callk, k_callk2, k_bi, k_mth, k_mth1, k_mth2, k_isi, k_len, k_lc, k_lcF, k_lc2, k_lc3t, k_lc3f, k_some, k_fmt, k_fs, k_mk, k_mkk, k_mkk2, k_att, k_um, k_evs, k_cons, k_tru, k_items, k_rg1, k_rg2, k_rg2b, k_rg3, k_rg3b, k_rg3c, k_enumL, k_enumT, k_zip, k_zipTT, k_zipLL, k_zipLT, k_zipTL, k_rev, v_val, o_owd, o_own, l_some, x_ok, o_map, s_set, s_setO, s_par, s_asg, s_aug, s_app, s_seti, s_setd, s_sta, s_ex, s_ret, s_retN, s_ifs, s_lop, s_whl, s_brk, s_cnt, s_pas, s_thru, ss_nil, ss_cons, ss_frz, at_name, at_sub, at_tup, ats_nil, ats_cons, t_set, t_setO, t_par, t_par2, t_asg, t_aug, t_augA, t_augS, t_app, t_app2, t_seti, t_seti2, t_seti3, t_setd, t_setd2, t_setd3, t_sta, t_ex, t_ret, t_ifs, t_ifs1, t_ifs0, t_lop, t_ss, t_ssr, t_ssb, t_ssc, t_ats, t_frz, t_sub, t_thru, t_thrur, o_nxt, v_set0, v_setS, d_set0, d_setD, d_setL, o_bind, z_frz0, z_frzS, List.getElem?_cons_zero, List.getElem?_cons_succ, q_add, q_sub, q_lt, q_le, q_gt, q_ge, q_eq, q_ne, q_is, q_isn, q_isb, q_isnb, q_in, q_int, q_tb, q_ti, q_lenL, q_lenT, q_lenN, q_itL, q_itT, q_tupL, q_tupT, q_lstL, q_lstT, q_intI, q_intB, q_min2, q_max2, q_abs, q_repr, D.isN, decide_true, decide_false, Bool.not_true, Bool.not_false, r_ret, r_nxt, x4]
end Lk16
set_option Elab.async false
set_option linter.all false
set_option maxRecDepth 100000
set_option maxHeartbeats 1000000
set_option exponentiation.threshold 2000
/-! the law's own kinds -/
namespace Lk16
open Lv PySem
theorem lkinds_go (n : Nat) (s : Sto) : ∀ (N : Nat) (l : List Nd) (lv tm : Int) (h : Option Str) (e : Nat), sizeL l ≤ N → N ≤ 100 → (∀ b ∈ preL l, NdOk b) → 0 ≤ tm → tm ≤ 10 ^ (30 * e) → e + sizeL l ≤ 31 →
    cf (n + 1 + N) 44 [.tup (dNs l), .int lv, .int tm, hS h] s = .ok (.lst ((lrL l lv tm h).map LRow.d)) s := by
  intro N
  induction N with
  | zero =>
    intro l lv tm h e hN hN2 ok h0 h1 he
    cases l with
    | cons a r =>
      have := sizeL_cons a r
      have := size_ps a
      omega
    | nil =>
      rw [show n + 1 + 0 = n + 1 from rfl, u44]
      simp only [B44, e_non, e_bl, e_int, e_str, e_var, e_own, e_cst, e_bin, e_neg, e_cmp, e_chn, e_one, e_and, e_or, e_not, e_ite, e_idx, e_sl, e_tup, e_lst, e_cel, e_call, e_callk, e_bi, e_mth, e_isi, e_len, e_lc, e_fmt, e_fs, e_att, e_mk, e_mkk, e_um, e_dic0, e_dget, e_rgt, es_nil, es_cons, fs_nil, fs_cons, ts_nil, ts_one, src_seq, src_rg1, src_rg2, src_rg3, src_enum, src_zip, src_rev, k_bin, k_bin2, k_neg, k_cmp, k_cmp2, k_chn, k_chn2, k_chn3, k_chn4, k_and1, k_and0, k_or1, k_or0, k_not, k_ite, k_ite1, k_ite0, k_idx, k_idx2, k_sl, k_opt, k_sl2, k_sl3, k_dget, k_dget2, k_rgt, k_tup, k_lst, k_lst5, k_cel, k_call, k_callk, k_callk2, k_bi, k_mth, k_mth1, k_mth2, k_isi, k_len, k_lc, k_lcF, k_lc2, k_lc3t, k_lc3f, k_some, k_fmt, k_fs, k_mk, k_mkk, k_mkk2, k_att, k_um, k_evs, k_cons, k_tru, k_items, k_rg1, k_rg2, k_rg2b, k_rg3, k_rg3b, k_rg3c, k_enumL, k_enumT, k_zip, k_zipTT, k_zipLL, k_zipLT, k_zipTL, k_rev, v_val, o_owd, o_own, l_some, x_ok, o_map, s_set, s_setO, s_par, s_asg, s_aug, s_app, s_seti, s_setd, s_sta, s_ex, s_ret, s_retN, s_ifs, s_lop, s_whl, s_brk, s_cnt, s_pas, s_thru, ss_nil, ss_cons, ss_frz, at_name, at_sub, at_tup, ats_nil, ats_cons, t_set, t_setO, t_par, t_par2, t_asg, t_aug, t_augA, t_augS, t_app, t_app2, t_seti, t_seti2, t_seti3, t_setd, t_setd2, t_setd3, t_sta, t_ex, t_ret, t_ifs, t_ifs1, t_ifs0, t_lop, t_ss, t_ssr, t_ssb, t_ssc, t_ats, t_frz, t_sub, t_thru, t_thrur, o_nxt, v_set0, v_setS, d_set0, d_setD, d_setL, o_bind, z_frz0, z_frzS, List.getElem?_cons_zero, List.getElem?_cons_succ, q_itT]
      rw [show dNs [] = [] from rfl, lop_nil]
      simp only [e_non, e_bl, e_int, e_str, e_var, e_own, e_cst, e_bin, e_neg, e_cmp, e_chn, e_one, e_and, e_or, e_not, e_ite, e_idx, e_sl, e_tup, e_lst, e_cel, e_call, e_callk, e_bi, e_mth, e_isi, e_len, e_lc, e_fmt, e_fs, e_att, e_mk, e_mkk, e_um, e_dic0, e_dget, e_rgt, es_nil, es_cons, fs_nil, fs_cons, ts_nil, ts_one, src_seq, src_rg1, src_rg2, src_rg3, src_enum, src_zip, src_rev, k_bin, k_bin2, k_neg, k_cmp, k_cmp2, k_chn, k_chn2, k_chn3, k_chn4, k_and1, k_and0, k_or1, k_or0, k_not, k_ite, k_ite1, k_ite0, k_idx, k_idx2, k_sl, k_opt, k_sl2, k_sl3, k_dget, k_dget2, k_rgt, k_tup, k_lst, k_lst5, k_cel, k_call, k_callk, k_callk2, k_bi, k_mth, k_mth1, k_mth2, k_isi, k_len, k_lc, k_lcF, k_lc2, k_lc3t, k_lc3f, k_some, k_fmt, k_fs, k_mk, k_mkk, k_mkk2, k_att, k_um, k_evs, k_cons, k_tru, k_items, k_rg1, k_rg2, k_rg2b, k_rg3, k_rg3b, k_rg3c, k_enumL, k_enumT, k_zip, k_zipTT, k_zipLL, k_zipLT, k_zipTL, k_rev, v_val, o_owd, o_own, l_some, x_ok, o_map, s_set, s_setO, s_par, s_asg, s_aug, s_app, s_seti, s_setd, s_sta, s_ex, s_ret, s_retN, s_ifs, s_lop, s_whl, s_brk, s_cnt, s_pas, s_thru, ss_nil, ss_cons, ss_frz, at_name, at_sub, at_tup, ats_nil, ats_cons, t_set, t_setO, t_par, t_par2, t_asg, t_aug, t_augA, t_augS, t_app, t_app2, t_seti, t_seti2, t_seti3, t_setd, t_setd2, t_setd3, t_sta, t_ex, t_ret, t_ifs, t_ifs1, t_ifs0, t_lop, t_ss, t_ssr, t_ssb, t_ssc, t_ats, t_frz, t_sub, t_thru, t_thrur, o_nxt, v_set0, v_setS, d_set0, d_setD, d_setL, o_bind, z_frz0, z_frzS, List.getElem?_cons_zero, List.getElem?_cons_succ, r_ret]
      rfl
  | succ N ih =>
    intro l lv tm h e hN hN2 ok h0 h1 he
    rw [show n + 1 + (N + 1) = (n + 1 + N) + 1 by omega, u44]
    simp only [B44, e_non, e_bl, e_int, e_str, e_var, e_own, e_cst, e_bin, e_neg, e_cmp, e_chn, e_one, e_and, e_or, e_not, e_ite, e_idx, e_sl, e_tup, e_lst, e_cel, e_call, e_callk, e_bi, e_mth, e_isi, e_len, e_lc, e_fmt, e_fs, e_att, e_mk, e_mkk, e_um, e_dic0, e_dget, e_rgt, es_nil, es_cons, fs_nil, fs_cons, ts_nil, ts_one, src_seq, src_rg1, src_rg2, src_rg3, src_enum, src_zip, src_rev, k_bin, k_bin2, k_neg, k_cmp, k_cmp2, k_chn, k_chn2, k_chn3, k_chn4, k_and1, k_and0, k_or1, k_or0, k_not, k_ite, k_ite1, k_ite0, k_idx, k_idx2, k_sl, k_opt, k_sl2, k_sl3, k_dget, k_dget2, k_rgt, k_tup, k_lst, k_lst5, k_cel, k_call, k_callk, k_callk2, k_bi, k_mth, k_mth1, k_mth2, k_isi, k_len, k_lc, k_lcF, k_lc2, k_lc3t, k_lc3f, k_some, k_fmt, k_fs, k_mk, k_mkk, k_mkk2, k_att, k_um, k_evs, k_cons, k_tru, k_items, k_rg1, k_rg2, k_rg2b, k_rg3, k_rg3b, k_rg3c, k_enumL, k_enumT, k_zip, k_zipTT, k_zipLL, k_zipLT, k_zipTL, k_rev, v_val, o_owd, o_own, l_some, x_ok, o_map, s_set, s_setO, s_par, s_asg, s_aug, s_app, s_seti, s_setd, s_sta, s_ex, s_ret, s_retN, s_ifs, s_lop, s_whl, s_brk, s_cnt, s_pas, s_thru, ss_nil, ss_cons, ss_frz, at_name, at_sub, at_tup, ats_nil, ats_cons, t_set, t_setO, t_par, t_par2, t_asg, t_aug, t_augA, t_augS, t_app, t_app2, t_seti, t_seti2, t_seti3, t_setd, t_setd2, t_setd3, t_sta, t_ex, t_ret, t_ifs, t_ifs1, t_ifs0, t_lop, t_ss, t_ssr, t_ssb, t_ssc, t_ats, t_frz, t_sub, t_thru, t_thrur, o_nxt, v_set0, v_setS, d_set0, d_setD, d_setL, o_bind, z_frz0, z_frzS, List.getElem?_cons_zero, List.getElem?_cons_succ, q_itT]
    have go := lop_inv (t := .tup [.name 5, .name 6, .name 7]) (f := evSs G0 (cf (n + 1 + N)) (mf (n + 1 + N)) (.cons (.app 4 (.tup (.cons (.var 6) (.cons (.var 5) (.cons (.var 1) (.cons (.bin .Mult (.var 2) (.var 5)) (.cons (.var 3) .nil))))))) (.cons (.setO 4 (.bin .Add (.own 4) (.call 44 (.cons (.var 7) (.cons (.bin .Add (.var 1) (.int 1)) (.cons (.bin .Mult (.var 2) (.var 5)) (.cons (.var 6) .nil))))))) .nil)))
      (fun ds env s' => ∃ (pr rs : List Nd) (e5 e6 e7 : Sl), l = pr ++ rs ∧ ds = dNs rs ∧ env = [.val (.tup (dNs l)), .val (.int lv), .val (.int tm), .val (hS h), .own ((lrL pr lv tm h).map LRow.d), e5, e6, e7] ∧ s' = s)
      (fun d ds env s' hp => by
        obtain ⟨pr, rs, e5, e6, e7, h2, h3, h4, rfl⟩ := hp
        cases rs with
        | nil => cases h3
        | cons a rs =>
          cases h3
          subst h4
          have oa : NdOk a := ok a (by rw [h2, preL_append, preL_step]; exact List.mem_append_right _ (List.mem_cons_self ..))
          have sz : sizeL l = sizeL pr + (a.size + sizeL rs) := by rw [h2, sizeL_append]; rfl
          have sa := size_ps a
          have tb := tm_step h0 h1 oa.m1 oa.m2
          have mu : dBin .Mult (.int tm) (.int a.m) = some (.int (tm * a.m)) := q_mul _ _ (tm_abs h0 h1 (by omega)) (m_abs oa.m1 oa.m2)
          have len : ((lrL pr lv tm h).map LRow.d).length = sizeL pr := by rw [List.length_map, lrL_len]
          have ok1 : okL (((lrL pr lv tm h).map LRow.d).length + 1) = true := okL_of (by omega)
          have call := ih a.ps (lv + 1) (tm * a.m) (some a.x) (e + 1) (by omega) (by omega) (fun b hb => ok b (by rw [h2, preL_append, preL_step, preL_append]; exact List.mem_append_right _ (List.mem_cons_of_mem _ (List.mem_append_left _ hb)))) tb.1 tb.2 (by omega)
          have call' : cf (n + 1 + N) 44 [.tup (dNs a.ps), .int (lv + 1), .int (tm * a.m), .str a.x] s' = _ := call
          have fin : (lrL pr lv tm h).map LRow.d ++ [D.tup [.str a.x, .int a.m, .int lv, .int (tm * a.m), hS h]] ++ (lrL a.ps (lv + 1) (tm * a.m) (some a.x)).map LRow.d = (lrL (pr ++ [a]) lv tm h).map LRow.d := by
            rw [lrL_append, List.map_append, lrL_cons, lr_eq]
            simp only [List.cons_append, List.append_assoc, List.map_cons, List.map_append, List.nil_append, LRow.d, show lrL [] lv tm h = [] from rfl, List.map_nil, List.append_nil]
          have okA : ((lrL pr lv tm h).map LRow.d ++ [D.tup [.str a.x, .int a.m, .int lv, .int (tm * a.m), hS h]]).length + ((lrL a.ps (lv + 1) (tm * a.m) (some a.x)).map LRow.d).length ≤ 16777216 := by
            rw [List.length_append, len, List.length_map, lrL_len]
            show sizeL pr + 1 + _ ≤ _
            omega
          refine ⟨[.val (.tup (dNs l)), .val (.int lv), .val (.int tm), .val (hS h), .own ((lrL pr lv tm h).map LRow.d), .val (.int a.m), .val (.str a.x), .val (.tup (dNs a.ps))], [.val (.tup (dNs l)), .val (.int lv), .val (.int tm), .val (hS h), .own ((lrL (pr ++ [a]) lv tm h).map LRow.d), .val (.int a.m), .val (.str a.x), .val (.tup (dNs a.ps))], s', ?_, ?_, ⟨pr ++ [a], rs, .val (.int a.m), .val (.str a.x), .val (.tup (dNs a.ps)), by rw [h2, List.append_assoc]; rfl, rfl, rfl, rfl⟩⟩
          · rw [Nd.d_eq]
            simp only [b_tup, b_cons, b_name, b_nil, e_non, e_bl, e_int, e_str, e_var, e_own, e_cst, e_bin, e_neg, e_cmp, e_chn, e_one, e_and, e_or, e_not, e_ite, e_idx, e_sl, e_tup, e_lst, e_cel, e_call, e_callk, e_bi, e_mth, e_isi, e_len, e_lc, e_fmt, e_fs, e_att, e_mk, e_mkk, e_um, e_dic0, e_dget, e_rgt, es_nil, es_cons, fs_nil, fs_cons, ts_nil, ts_one, src_seq, src_rg1, src_rg2, src_rg3, src_enum, src_zip, src_rev, k_bin, k_bin2, k_neg, k_cmp, k_cmp2, k_chn, k_chn2, k_chn3, k_chn4, k_and1, k_and0, k_or1, k_or0, k_not, k_ite, k_ite1, k_ite0, k_idx, k_idx2, k_sl, k_opt, k_sl2, k_sl3, k_dget, k_dget2, k_rgt, k_tup, k_lst, k_lst5, k_cel, k_call, k_callk, k_callk2, k_bi, k_mth, k_mth1, k_mth2, k_isi, k_len, k_lc, k_lcF, k_lc2, k_lc3t, k_lc3f, k_some, k_fmt, k_fs, k_mk, k_mkk, k_mkk2, k_att, k_um, k_evs, k_cons, k_tru, k_items, k_rg1, k_rg2, k_rg2b, k_rg3, k_rg3b, k_rg3c, k_enumL, k_enumT, k_zip, k_zipTT, k_zipLL, k_zipLT, k_zipTL, k_rev, v_val, o_owd, o_own, l_some, x_ok, o_map, s_set, s_setO, s_par, s_asg, s_aug, s_app, s_seti, s_setd, s_sta, s_ex, s_ret, s_retN, s_ifs, s_lop, s_whl, s_brk, s_cnt, s_pas, s_thru, ss_nil, ss_cons, ss_frz, at_name, at_sub, at_tup, ats_nil, ats_cons, t_set, t_setO, t_par, t_par2, t_asg, t_aug, t_augA, t_augS, t_app, t_app2, t_seti, t_seti2, t_seti3, t_setd, t_setd2, t_setd3, t_sta, t_ex, t_ret, t_ifs, t_ifs1, t_ifs0, t_lop, t_ss, t_ssr, t_ssb, t_ssc, t_ats, t_frz, t_sub, t_thru, t_thrur, o_nxt, v_set0, v_setS, d_set0, d_setD, d_setL, o_bind, z_frz0, z_frzS, List.getElem?_cons_zero, List.getElem?_cons_succ]
          · simp only [e_non, e_bl, e_int, e_str, e_var, e_own, e_cst, e_bin, e_neg, e_cmp, e_chn, e_one, e_and, e_or, e_not, e_ite, e_idx, e_sl, e_tup, e_lst, e_cel, e_call, e_callk, e_bi, e_mth, e_isi, e_len, e_lc, e_fmt, e_fs, e_att, e_mk, e_mkk, e_um, e_dic0, e_dget, e_rgt, es_nil, es_cons, fs_nil, fs_cons, ts_nil, ts_one, src_seq, src_rg1, src_rg2, src_rg3, src_enum, src_zip, src_rev, k_bin, k_bin2, k_neg, k_cmp, k_cmp2, k_chn, k_chn2, k_chn3, k_chn4, k_and1, k_and0, k_or1, k_or0, k_not, k_ite, k_ite1, k_ite0, k_idx, k_idx2, k_sl, k_opt, k_sl2, k_sl3, k_dget, k_dget2, k_rgt, k_tup, k_lst, k_lst5, k_cel, k_call, k_callk, k_callk2, k_bi, k_mth, k_mth1, k_mth2, k_isi, k_len, k_lc, k_lcF, k_lc2, k_lc3t, k_lc3f, k_some, k_fmt, k_fs, k_mk, k_mkk, k_mkk2, k_att, k_um, k_evs, k_cons, k_tru, k_items, k_rg1, k_rg2, k_rg2b, k_rg3, k_rg3b, k_rg3c, k_enumL, k_enumT, k_zip, k_zipTT, k_zipLL, k_zipLT, k_zipTL, k_rev, v_val, o_owd, o_own, l_some, x_ok, o_map, s_set, s_setO, s_par, s_asg, s_aug, s_app, s_seti, s_setd, s_sta, s_ex, s_ret, s_retN, s_ifs, s_lop, s_whl, s_brk, s_cnt, s_pas, s_thru, ss_nil, ss_cons, ss_frz, at_name, at_sub, at_tup, ats_nil, ats_cons, t_set, t_setO, t_par, t_par2, t_asg, t_aug, t_augA, t_augS, t_app, t_app2, t_seti, t_seti2, t_seti3, t_setd, t_setd2, t_setd3, t_sta, t_ex, t_ret, t_ifs, t_ifs1, t_ifs0, t_lop, t_ss, t_ssr, t_ssb, t_ssc, t_ats, t_frz, t_sub, t_thru, t_thrur, o_nxt, v_set0, v_setS, d_set0, d_setD, d_setL, o_bind, z_frz0, z_frzS, List.getElem?_cons_zero, List.getElem?_cons_succ, q_add, mu, ok1, List.set, call', q_addL _ _ okA, fin])
      (dNs l) [.val (.tup (dNs l)), .val (.int lv), .val (.int tm), .val (hS h), .own [], .und, .und, .und] s ⟨[], l, _, _, _, rfl, rfl, rfl, rfl⟩
    obtain ⟨env', s', e', pr, rs, e5, e6, e7, h2, h3, h4, rfl⟩ := go
    cases rs with
    | cons a r => cases h3
    | nil =>
      rw [List.append_nil] at h2
      subst h2
      rw [e']
      subst h4
      simp only [e_non, e_bl, e_int, e_str, e_var, e_own, e_cst, e_bin, e_neg, e_cmp, e_chn, e_one, e_and, e_or, e_not, e_ite, e_idx, e_sl, e_tup, e_lst, e_cel, e_call, e_callk, e_bi, e_mth, e_isi, e_len, e_lc, e_fmt, e_fs, e_att, e_mk, e_mkk, e_um, e_dic0, e_dget, e_rgt, es_nil, es_cons, fs_nil, fs_cons, ts_nil, ts_one, src_seq, src_rg1, src_rg2, src_rg3, src_enum, src_zip, src_rev, k_bin, k_bin2, k_neg, k_cmp, k_cmp2, k_chn, k_chn2, k_chn3, k_chn4, k_and1, k_and0, k_or1, k_or0, k_not, k_ite, k_ite1, k_ite0, k_idx, k_idx2, k_sl, k_opt, k_sl2, k_sl3, k_dget, k_dget2, k_rgt, k_tup, k_lst, k_lst5, k_cel, k_call, k_callk, k_callk2, k_bi, k_mth, k_mth1, k_mth2, k_isi, k_len, k_lc, k_lcF, k_lc2, k_lc3t, k_lc3f, k_some, k_fmt, k_fs, k_mk, k_mkk, k_mkk2, k_att, k_um, k_evs, k_cons, k_tru, k_items, k_rg1, k_rg2, k_rg2b, k_rg3, k_rg3b, k_rg3c, k_enumL, k_enumT, k_zip, k_zipTT, k_zipLL, k_zipLT, k_zipTL, k_rev, v_val, o_owd, o_own, l_some, x_ok, o_map, s_set, s_setO, s_par, s_asg, s_aug, s_app, s_seti, s_setd, s_sta, s_ex, s_ret, s_retN, s_ifs, s_lop, s_whl, s_brk, s_cnt, s_pas, s_thru, ss_nil, ss_cons, ss_frz, at_name, at_sub, at_tup, ats_nil, ats_cons, t_set, t_setO, t_par, t_par2, t_asg, t_aug, t_augA, t_augS, t_app, t_app2, t_seti, t_seti2, t_seti3, t_setd, t_setd2, t_setd3, t_sta, t_ex, t_ret, t_ifs, t_ifs1, t_ifs0, t_lop, t_ss, t_ssr, t_ssb, t_ssc, t_ats, t_frz, t_sub, t_thru, t_thrur, o_nxt, v_set0, v_setS, d_set0, d_setD, d_setL, o_bind, z_frz0, z_frzS, List.getElem?_cons_zero, List.getElem?_cons_succ, r_ret]
theorem lkinds_ok (n : Nat) (l : List Nd) (s : Sto) (h : sizeL l ≤ 20) (ok : ∀ b ∈ preL l, NdOk b) : cf (n + 21) 44 [.tup (dNs l), .int 1, .int 1, .non] s = .ok (.lst ((lkinds l).map LRow.d)) s := by
  have e := lkinds_go n s 20 l 1 1 none 0 h (by decide) ok (by decide) (by decide) (by omega)
  have z : n + 1 + 20 = n + 21 := by omega
  rw [z] at e
  exact e
end Lk16
set_option Elab.async false
set_option linter.all false
set_option maxRecDepth 100000
set_option maxHeartbeats 2000000
set_option exponentiation.threshold 2000
/-! a state drawn -/
namespace Lk16
open Lv PySem
/-- numbers that are a state as far as they go -/
structure Sp (R : List Row) (vs : List Int) : Prop where
  lo : ∀ i, i < vs.length → 0 ≤ vs.getD i 0
  hi : ∀ i, i < vs.length → vs.getD i 0 ≤ rT R i
  part : ∀ j q i, j < vs.length → R[j]? = some q → q.home = some i → q.many * vs.getD i 0 ≤ vs.getD j 0
theorem Sp.nil (R : List Row) : Sp R [] := ⟨fun i h => absurd h (Nat.not_lt_zero _), fun i h => absurd h (Nat.not_lt_zero _), fun j q i h => absurd h (Nat.not_lt_zero _)⟩
theorem getD_app {vs : List Int} {y : Int} {i : Nat} (h : i < vs.length) : (vs ++ [y]).getD i 0 = vs.getD i 0 := by
  rw [List.getD_eq_getElem?_getD, List.getD_eq_getElem?_getD, List.getElem?_append_left h]
theorem getD_end {vs : List Int} {y : Int} : (vs ++ [y]).getD vs.length 0 = y := by
  rw [List.getD_eq_getElem?_getD, List.getElem?_append_right (Nat.le_refl _), Nat.sub_self]; rfl
theorem Sp.step {R : List Row} (X : KX R) {vs : List Int} (S : Sp R vs) {r : Row} (e : R[vs.length]? = some r) {y : Int} (h0 : 0 ≤ y) (h1 : y ≤ r.total) (h2 : ∀ h, r.home = some h → r.many * vs.getD h 0 ≤ y) : Sp R (vs ++ [y]) := by
  have ln : (vs ++ [y]).length = vs.length + 1 := by rw [List.length_append]; rfl
  refine ⟨fun i hi => ?_, fun i hi => ?_, fun j q i hj e1 e2 => ?_⟩
  · by_cases c : i < vs.length
    · rw [getD_app c]; exact S.lo i c
    · have : i = vs.length := by omega
      rw [this, getD_end]; exact h0
  · by_cases c : i < vs.length
    · rw [getD_app c]; exact S.hi i c
    · have : i = vs.length := by omega
      rw [this, getD_end, rT_of e]; exact h1
  · have hi : i < j := by
      rcases X j q e1 with ⟨z, _⟩ | ⟨i', g, z, z2, _⟩
      · rw [e2] at z; cases z
      · rw [e2] at z; cases z; exact z2
    by_cases c : j < vs.length
    · rw [getD_app c, getD_app (by omega)]; exact S.part j q i c e1 e2
    · have : j = vs.length := by omega
      subst this
      rw [e] at e1; cases e1
      rw [getD_end, getD_app hi]; exact h2 i e2
theorem Sp.st {R : List Row} {vs : List Int} (S : Sp R vs) (h : vs.length = R.length) : St R vs := ⟨h, fun i hi => S.lo i (by omega), fun i hi => S.hi i (by omega), fun j q i e1 e2 => S.part j q i (by rw [h]; exact lt_len e1) e1 e2⟩
theorem pick6 {s : Sto} (rest : Int) (h0 : 0 ≤ rest) (d : Int) (d0 : 0 ≤ d) (d1 : d < 6) : ∃ x, dIdxS s (.lst [.int 0, .int 0, .int rest, .int (if rest < 1 then rest else 1), .int (rest / 2), .int (if rest - 1 > 0 then rest - 1 else 0)]) (.int d) = some (.int x) ∧ 0 ≤ x ∧ x ≤ rest := by
  obtain ⟨x, ix, hx⟩ := idx_ints (s := s) [0, 0, rest, (if rest < 1 then rest else 1), rest / 2, (if rest - 1 > 0 then rest - 1 else 0)] (fun x => 0 ≤ x ∧ x ≤ rest) (fun x hx => by
    rcases List.mem_cons.mp hx with e | hx
    · subst e; omega
    rcases List.mem_cons.mp hx with e | hx
    · subst e; omega
    rcases List.mem_cons.mp hx with e | hx
    · subst e; omega
    rcases List.mem_cons.mp hx with e | hx
    · subst e; split <;> omega
    rcases List.mem_cons.mp hx with e | hx
    · subst e; omega
    · cases List.mem_singleton.mp hx; split <;> omega) d d0 d1
  exact ⟨x, ix, hx⟩
theorem dg_ok {pr : List LRow} {vs : List Int} {i : Nat} {q : LRow} {x : Int} (nd : (pr.map LRow.name).Nodup) (h1 : pr[i]? = some q) (h2 : vs[i]? = some x) : dDget (.dic (tbl pr vs)) (.str q.name) = some (.int x) := tbl_get nd h1 h2
theorem len_tbl (pr : List LRow) (vs : List Int) (h : vs.length = pr.length) : (tbl pr vs).length = pr.length := by
  unfold tbl; rw [List.length_map, List.length_zip]; omega
def stB : Ss := (.cons (.set 8 (.ite (.cmp .Is (.var 7) .non) (.int 0) (.bin .Mult (.dget (.own 2) (.var 7)) (.var 4)))) (.cons (.set 9 (.bin .Sub (.var 6) (.var 8))) (.cons (.set 10 (.call 7 (.cons (.var 0) (.cons (.int 6) .nil)))) (.cons (.setd 2 (.var 3) (.bin .Add (.var 8) (.idx (.lst (.cons (.int 0) (.cons (.int 0) (.cons (.var 9) (.cons (.bi .min (.cons (.int 1) (.cons (.var 9) .nil))) (.cons (.bin .FloorDiv (.var 9) (.int 2)) (.cons (.bi .max (.cons (.int 0) (.cons (.bin .Sub (.var 9) (.int 1)) .nil))) .nil))))))) (.var 10)))) (.cons (.ifs (.and (.cmp .Is (.var 7) .non) (.one (.cmp .Eq (.call 7 (.cons (.var 0) (.cons (.int 2) .nil))) (.int 0)))) (.cons (.setd 2 (.var 3) (.int 0)) .nil) .nil) .nil)))))
/-- one row of the state drawn -/
theorem row_drawn (n : Nat) {s0 s : Sto} {r j : Nat} {l : List Nd} (W : WOk l) (aj : At s0 r j s) (hj : j ≤ 2000000) {pr rs : List LRow} {q : LRow} {vs : List Int} (h1 : lkinds l = pr ++ q :: rs) (h3 : vs.length = pr.length) (S : Sp (kinds l) vs) (x1 e8 e9 e10 : Sl) : ∃ y f8 f9 f10 s', evSs G0 (cf (n + 2)) (mf (n + 2)) stB [.val (.ref r), x1, .owd (tbl pr vs), .val (.str q.name), .val (.int q.many), .val (.int q.level), .val (.int q.total), .val (hS q.home), e8, e9, e10, .und] s = .nxt [.val (.ref r), x1, .owd (tbl (pr ++ [q]) (vs ++ [y])), .val (.str q.name), .val (.int q.many), .val (.int q.level), .val (.int q.total), .val (hS q.home), f8, f9, f10, .und] s' ∧ Sp (kinds l) (vs ++ [y]) ∧ At s0 r (j + 2) s' := by
  have K := kok W
  have X := kx l
  have nd : ((lkinds l).map LRow.name).Nodup := by rw [lk_names]; exact W.nd
  have LL : (lkinds l).length = (kinds l).length := ((kinds_al l).length).symm
  have ln := K.len
  have eL : (lkinds l)[vs.length]? = some q := by rw [h1, h3, List.getElem?_append_right (Nat.le_refl _), Nat.sub_self]; rfl
  have hlt : vs.length < (kinds l).length := by rw [← LL]; exact (List.getElem?_eq_some_iff.mp eL).1
  obtain ⟨row, eR⟩ : ∃ row, (kinds l)[vs.length]? = some row := ⟨_, List.getElem?_eq_getElem hlt⟩
  obtain ⟨q1, f1, A⟩ := (kinds_al l).get eR
  obtain ⟨q2, f2, H⟩ := (kinds_hn l).get eR
  rw [eL] at f1 f2
  cases f1
  cases f2
  have mem : row ∈ kinds l := List.mem_of_getElem? eR
  have km := K.many _ mem
  have kt := K.tot1 _ mem
  rw [h1, List.map_append, List.nodup_append] at nd
  have np : q.name ∉ pr.map LRow.name := fun hm => nd.2.2 _ hm _ (by rw [List.map_cons]; exact List.mem_cons_self ..) rfl
  have okt : okL ((tbl pr vs).length + 1) = true := okL_of (by
    rw [len_tbl _ _ h3, ← h3]; omega)
  have okt2 : ∀ y, okL ((tbl (pr ++ [q]) (vs ++ [y])).length + 1) = true := fun y => okL_of (by
    rw [len_tbl _ _ (by rw [List.length_append, List.length_append, h3]; rfl), List.length_append]
    show pr.length + 1 + 1 ≤ _
    omega)
  have kq : kOf (.str q.name) = some (.inr q.name) := rfl
  obtain ⟨d1, s1, p1, d10, d11, a1⟩ := pour_at (n := n + 1) aj 6 (by decide) (by decide +kernel) (by omega)
  rcases H with ⟨hr, hq⟩ | ⟨i, g, hr, hg, hq⟩
  · obtain ⟨rest, hrest⟩ : ∃ rest, q.total - 0 = rest := ⟨_, rfl⟩
    have r0 : 0 ≤ rest ∧ rest = row.total := by
      have := A.total
      omega
    obtain ⟨x, ix, x0, xr⟩ := pick6 (s := s1) rest r0.1 d1 d10 d11
    have dv : dBin .FloorDiv (.int rest) (.int 2) = some (.int (rest / 2)) := q_div _ _ (by decide) (by decide +kernel)
    obtain ⟨d2, s2, p2, d20, d21, a2⟩ := pour_at (n := n + 1) a1 2 (by decide) (by decide +kernel) (by omega)
    by_cases z : d2 = 0
    · refine ⟨0, .val (.int 0), .val (.int rest), .val (.int d1), s2, ?_, S.step X eR (by decide) (by omega) (fun h e => by rw [hr] at e; cases e), a2.mono (by omega)⟩
      unfold stB
      simp only [hq, hS, e_non, e_bl, e_int, e_str, e_var, e_own, e_cst, e_bin, e_neg, e_cmp, e_chn, e_one, e_and, e_or, e_not, e_ite, e_idx, e_sl, e_tup, e_lst, e_cel, e_call, e_callk, e_bi, e_mth, e_isi, e_len, e_lc, e_fmt, e_fs, e_att, e_mk, e_mkk, e_um, e_dic0, e_dget, e_rgt, es_nil, es_cons, fs_nil, fs_cons, ts_nil, ts_one, src_seq, src_rg1, src_rg2, src_rg3, src_enum, src_zip, src_rev, k_bin, k_bin2, k_neg, k_cmp, k_cmp2, k_chn, k_chn2, k_chn3, k_chn4, k_and1, k_and0, k_or1, k_or0, k_not, k_ite, k_ite1, k_ite0, k_idx, k_idx2, k_sl, k_opt, k_sl2, k_sl3, k_dget, k_dget2, k_rgt, k_tup, k_lst, k_lst5, k_cel, k_call, k_callk, k_callk2, k_bi, k_mth, k_mth1, k_mth2, k_isi, k_len, k_lc, k_lcF, k_lc2, k_lc3t, k_lc3f, k_some, k_fmt, k_fs, k_mk, k_mkk, k_mkk2, k_att, k_um, k_evs, k_cons, k_tru, k_items, k_rg1, k_rg2, k_rg2b, k_rg3, k_rg3b, k_rg3c, k_enumL, k_enumT, k_zip, k_zipTT, k_zipLL, k_zipLT, k_zipTL, k_rev, v_val, o_owd, o_own, l_some, x_ok, o_map, s_set, s_setO, s_par, s_asg, s_aug, s_app, s_seti, s_setd, s_sta, s_ex, s_ret, s_retN, s_ifs, s_lop, s_whl, s_brk, s_cnt, s_pas, s_thru, ss_nil, ss_cons, ss_frz, at_name, at_sub, at_tup, ats_nil, ats_cons, t_set, t_setO, t_par, t_par2, t_asg, t_aug, t_augA, t_augS, t_app, t_app2, t_seti, t_seti2, t_seti3, t_setd, t_setd2, t_setd3, t_sta, t_ex, t_ret, t_ifs, t_ifs1, t_ifs0, t_lop, t_ss, t_ssr, t_ssb, t_ssc, t_ats, t_frz, t_sub, t_thru, t_thrur, o_nxt, v_set0, v_setS, d_set0, d_setD, d_setL, o_bind, z_frz0, z_frzS, List.getElem?_cons_zero, List.getElem?_cons_succ, q_add, q_sub, q_lt, q_le, q_gt, q_ge, q_eq, q_ne, q_is, q_isn, q_isb, q_isnb, q_in, q_int, q_tb, q_ti, q_lenL, q_lenT, q_lenN, q_itL, q_itT, q_tupL, q_tupT, q_lstL, q_lstT, q_intI, q_intB, q_min2, q_max2, q_abs, q_repr, D.isN, decide_true, decide_false, Bool.not_true, Bool.not_false, r_ret, r_nxt, hrest, p1, dv, ix]
      rw [t_setd3 _ _ _ _ _ kq okt, tbl_new h3.symm np]
      simp only [e_non, e_bl, e_int, e_str, e_var, e_own, e_cst, e_bin, e_neg, e_cmp, e_chn, e_one, e_and, e_or, e_not, e_ite, e_idx, e_sl, e_tup, e_lst, e_cel, e_call, e_callk, e_bi, e_mth, e_isi, e_len, e_lc, e_fmt, e_fs, e_att, e_mk, e_mkk, e_um, e_dic0, e_dget, e_rgt, es_nil, es_cons, fs_nil, fs_cons, ts_nil, ts_one, src_seq, src_rg1, src_rg2, src_rg3, src_enum, src_zip, src_rev, k_bin, k_bin2, k_neg, k_cmp, k_cmp2, k_chn, k_chn2, k_chn3, k_chn4, k_and1, k_and0, k_or1, k_or0, k_not, k_ite, k_ite1, k_ite0, k_idx, k_idx2, k_sl, k_opt, k_sl2, k_sl3, k_dget, k_dget2, k_rgt, k_tup, k_lst, k_lst5, k_cel, k_call, k_callk, k_callk2, k_bi, k_mth, k_mth1, k_mth2, k_isi, k_len, k_lc, k_lcF, k_lc2, k_lc3t, k_lc3f, k_some, k_fmt, k_fs, k_mk, k_mkk, k_mkk2, k_att, k_um, k_evs, k_cons, k_tru, k_items, k_rg1, k_rg2, k_rg2b, k_rg3, k_rg3b, k_rg3c, k_enumL, k_enumT, k_zip, k_zipTT, k_zipLL, k_zipLT, k_zipTL, k_rev, v_val, o_owd, o_own, l_some, x_ok, o_map, s_set, s_setO, s_par, s_asg, s_aug, s_app, s_seti, s_setd, s_sta, s_ex, s_ret, s_retN, s_ifs, s_lop, s_whl, s_brk, s_cnt, s_pas, s_thru, ss_nil, ss_cons, ss_frz, at_name, at_sub, at_tup, ats_nil, ats_cons, t_set, t_setO, t_par, t_par2, t_asg, t_aug, t_augA, t_augS, t_app, t_app2, t_seti, t_seti2, t_seti3, t_setd, t_setd2, t_setd3, t_sta, t_ex, t_ret, t_ifs, t_ifs1, t_ifs0, t_lop, t_ss, t_ssr, t_ssb, t_ssc, t_ats, t_frz, t_sub, t_thru, t_thrur, o_nxt, v_set0, v_setS, d_set0, d_setD, d_setL, o_bind, z_frz0, z_frzS, List.getElem?_cons_zero, List.getElem?_cons_succ, q_add, q_sub, q_lt, q_le, q_gt, q_ge, q_eq, q_ne, q_is, q_isn, q_isb, q_isnb, q_in, q_int, q_tb, q_ti, q_lenL, q_lenT, q_lenN, q_itL, q_itT, q_tupL, q_tupT, q_lstL, q_lstT, q_intI, q_intB, q_min2, q_max2, q_abs, q_repr, D.isN, decide_true, decide_false, Bool.not_true, Bool.not_false, r_ret, r_nxt, List.set, p2, z]
      rw [t_setd3 _ _ _ _ _ kq (okt2 _), tbl_again h3.symm np]
      simp only [e_non, e_bl, e_int, e_str, e_var, e_own, e_cst, e_bin, e_neg, e_cmp, e_chn, e_one, e_and, e_or, e_not, e_ite, e_idx, e_sl, e_tup, e_lst, e_cel, e_call, e_callk, e_bi, e_mth, e_isi, e_len, e_lc, e_fmt, e_fs, e_att, e_mk, e_mkk, e_um, e_dic0, e_dget, e_rgt, es_nil, es_cons, fs_nil, fs_cons, ts_nil, ts_one, src_seq, src_rg1, src_rg2, src_rg3, src_enum, src_zip, src_rev, k_bin, k_bin2, k_neg, k_cmp, k_cmp2, k_chn, k_chn2, k_chn3, k_chn4, k_and1, k_and0, k_or1, k_or0, k_not, k_ite, k_ite1, k_ite0, k_idx, k_idx2, k_sl, k_opt, k_sl2, k_sl3, k_dget, k_dget2, k_rgt, k_tup, k_lst, k_lst5, k_cel, k_call, k_callk, k_callk2, k_bi, k_mth, k_mth1, k_mth2, k_isi, k_len, k_lc, k_lcF, k_lc2, k_lc3t, k_lc3f, k_some, k_fmt, k_fs, k_mk, k_mkk, k_mkk2, k_att, k_um, k_evs, k_cons, k_tru, k_items, k_rg1, k_rg2, k_rg2b, k_rg3, k_rg3b, k_rg3c, k_enumL, k_enumT, k_zip, k_zipTT, k_zipLL, k_zipLT, k_zipTL, k_rev, v_val, o_owd, o_own, l_some, x_ok, o_map, s_set, s_setO, s_par, s_asg, s_aug, s_app, s_seti, s_setd, s_sta, s_ex, s_ret, s_retN, s_ifs, s_lop, s_whl, s_brk, s_cnt, s_pas, s_thru, ss_nil, ss_cons, ss_frz, at_name, at_sub, at_tup, ats_nil, ats_cons, t_set, t_setO, t_par, t_par2, t_asg, t_aug, t_augA, t_augS, t_app, t_app2, t_seti, t_seti2, t_seti3, t_setd, t_setd2, t_setd3, t_sta, t_ex, t_ret, t_ifs, t_ifs1, t_ifs0, t_lop, t_ss, t_ssr, t_ssb, t_ssc, t_ats, t_frz, t_sub, t_thru, t_thrur, o_nxt, v_set0, v_setS, d_set0, d_setD, d_setL, o_bind, z_frz0, z_frzS, List.getElem?_cons_zero, List.getElem?_cons_succ, q_add, q_sub, q_lt, q_le, q_gt, q_ge, q_eq, q_ne, q_is, q_isn, q_isb, q_isnb, q_in, q_int, q_tb, q_ti, q_lenL, q_lenT, q_lenN, q_itL, q_itT, q_tupL, q_tupT, q_lstL, q_lstT, q_intI, q_intB, q_min2, q_max2, q_abs, q_repr, D.isN, decide_true, decide_false, Bool.not_true, Bool.not_false, r_ret, r_nxt, List.set]
    · refine ⟨0 + x, .val (.int 0), .val (.int rest), .val (.int d1), s2, ?_, S.step X eR (by omega) (by omega) (fun h e => by rw [hr] at e; cases e), a2.mono (by omega)⟩
      unfold stB
      simp only [hq, hS, e_non, e_bl, e_int, e_str, e_var, e_own, e_cst, e_bin, e_neg, e_cmp, e_chn, e_one, e_and, e_or, e_not, e_ite, e_idx, e_sl, e_tup, e_lst, e_cel, e_call, e_callk, e_bi, e_mth, e_isi, e_len, e_lc, e_fmt, e_fs, e_att, e_mk, e_mkk, e_um, e_dic0, e_dget, e_rgt, es_nil, es_cons, fs_nil, fs_cons, ts_nil, ts_one, src_seq, src_rg1, src_rg2, src_rg3, src_enum, src_zip, src_rev, k_bin, k_bin2, k_neg, k_cmp, k_cmp2, k_chn, k_chn2, k_chn3, k_chn4, k_and1, k_and0, k_or1, k_or0, k_not, k_ite, k_ite1, k_ite0, k_idx, k_idx2, k_sl, k_opt, k_sl2, k_sl3, k_dget, k_dget2, k_rgt, k_tup, k_lst, k_lst5, k_cel, k_call, k_callk, k_callk2, k_bi, k_mth, k_mth1, k_mth2, k_isi, k_len, k_lc, k_lcF, k_lc2, k_lc3t, k_lc3f, k_some, k_fmt, k_fs, k_mk, k_mkk, k_mkk2, k_att, k_um, k_evs, k_cons, k_tru, k_items, k_rg1, k_rg2, k_rg2b, k_rg3, k_rg3b, k_rg3c, k_enumL, k_enumT, k_zip, k_zipTT, k_zipLL, k_zipLT, k_zipTL, k_rev, v_val, o_owd, o_own, l_some, x_ok, o_map, s_set, s_setO, s_par, s_asg, s_aug, s_app, s_seti, s_setd, s_sta, s_ex, s_ret, s_retN, s_ifs, s_lop, s_whl, s_brk, s_cnt, s_pas, s_thru, ss_nil, ss_cons, ss_frz, at_name, at_sub, at_tup, ats_nil, ats_cons, t_set, t_setO, t_par, t_par2, t_asg, t_aug, t_augA, t_augS, t_app, t_app2, t_seti, t_seti2, t_seti3, t_setd, t_setd2, t_setd3, t_sta, t_ex, t_ret, t_ifs, t_ifs1, t_ifs0, t_lop, t_ss, t_ssr, t_ssb, t_ssc, t_ats, t_frz, t_sub, t_thru, t_thrur, o_nxt, v_set0, v_setS, d_set0, d_setD, d_setL, o_bind, z_frz0, z_frzS, List.getElem?_cons_zero, List.getElem?_cons_succ, q_add, q_sub, q_lt, q_le, q_gt, q_ge, q_eq, q_ne, q_is, q_isn, q_isb, q_isnb, q_in, q_int, q_tb, q_ti, q_lenL, q_lenT, q_lenN, q_itL, q_itT, q_tupL, q_tupT, q_lstL, q_lstT, q_intI, q_intB, q_min2, q_max2, q_abs, q_repr, D.isN, decide_true, decide_false, Bool.not_true, Bool.not_false, r_ret, r_nxt, hrest, p1, dv, ix]
      rw [t_setd3 _ _ _ _ _ kq okt, tbl_new h3.symm np]
      simp only [e_non, e_bl, e_int, e_str, e_var, e_own, e_cst, e_bin, e_neg, e_cmp, e_chn, e_one, e_and, e_or, e_not, e_ite, e_idx, e_sl, e_tup, e_lst, e_cel, e_call, e_callk, e_bi, e_mth, e_isi, e_len, e_lc, e_fmt, e_fs, e_att, e_mk, e_mkk, e_um, e_dic0, e_dget, e_rgt, es_nil, es_cons, fs_nil, fs_cons, ts_nil, ts_one, src_seq, src_rg1, src_rg2, src_rg3, src_enum, src_zip, src_rev, k_bin, k_bin2, k_neg, k_cmp, k_cmp2, k_chn, k_chn2, k_chn3, k_chn4, k_and1, k_and0, k_or1, k_or0, k_not, k_ite, k_ite1, k_ite0, k_idx, k_idx2, k_sl, k_opt, k_sl2, k_sl3, k_dget, k_dget2, k_rgt, k_tup, k_lst, k_lst5, k_cel, k_call, k_callk, k_callk2, k_bi, k_mth, k_mth1, k_mth2, k_isi, k_len, k_lc, k_lcF, k_lc2, k_lc3t, k_lc3f, k_some, k_fmt, k_fs, k_mk, k_mkk, k_mkk2, k_att, k_um, k_evs, k_cons, k_tru, k_items, k_rg1, k_rg2, k_rg2b, k_rg3, k_rg3b, k_rg3c, k_enumL, k_enumT, k_zip, k_zipTT, k_zipLL, k_zipLT, k_zipTL, k_rev, v_val, o_owd, o_own, l_some, x_ok, o_map, s_set, s_setO, s_par, s_asg, s_aug, s_app, s_seti, s_setd, s_sta, s_ex, s_ret, s_retN, s_ifs, s_lop, s_whl, s_brk, s_cnt, s_pas, s_thru, ss_nil, ss_cons, ss_frz, at_name, at_sub, at_tup, ats_nil, ats_cons, t_set, t_setO, t_par, t_par2, t_asg, t_aug, t_augA, t_augS, t_app, t_app2, t_seti, t_seti2, t_seti3, t_setd, t_setd2, t_setd3, t_sta, t_ex, t_ret, t_ifs, t_ifs1, t_ifs0, t_lop, t_ss, t_ssr, t_ssb, t_ssc, t_ats, t_frz, t_sub, t_thru, t_thrur, o_nxt, v_set0, v_setS, d_set0, d_setD, d_setL, o_bind, z_frz0, z_frzS, List.getElem?_cons_zero, List.getElem?_cons_succ, q_add, q_sub, q_lt, q_le, q_gt, q_ge, q_eq, q_ne, q_is, q_isn, q_isb, q_isnb, q_in, q_int, q_tb, q_ti, q_lenL, q_lenT, q_lenN, q_itL, q_itT, q_tupL, q_tupT, q_lstL, q_lstT, q_intI, q_intB, q_min2, q_max2, q_abs, q_repr, D.isN, decide_true, decide_false, Bool.not_true, Bool.not_false, r_ret, r_nxt, List.set, p2, z]
  · obtain ⟨g', eg, Ag⟩ := (kinds_al l).get hg
    have hi : i < vs.length := by
      rcases X _ _ eR with ⟨z, _⟩ | ⟨i', g2, z, z2, _⟩
      · rw [hr] at z; cases z
      · rw [hr] at z; cases z; exact z2
    have epr : pr[i]? = some g' := by rw [h1, List.getElem?_append_left (by omega)] at eg; exact eg
    have evs : vs[i]? = some (vs.getD i 0) := by rw [List.getD_eq_getElem?_getD, List.getElem?_eq_getElem hi]; rfl
    have dg : dDget (.dic (tbl pr vs)) (.str g.name) = some (.int (vs.getD i 0)) := by rw [Ag.name]; exact dg_ok nd.1 epr evs
    have tt : row.total = g.total * row.many := by
      rcases X _ _ eR with ⟨z, _⟩ | ⟨i', g2, z, _, z3, _, z4⟩
      · rw [hr] at z; cases z
      · rw [hr] at z; cases z; rw [hg] at z3; cases z3; exact z4
    have b0 := S.lo i hi
    have b1 := S.hi i hi
    rw [rT_of hg] at b1
    have gt := K.tot1 _ (List.mem_of_getElem? hg)
    have mu : dBin .Mult (.int (vs.getD i 0)) (.int q.many) = some (.int (vs.getD i 0 * q.many)) := q_mul _ _ (abs_60 ⟨b0, by omega⟩) (by rw [← A.many]; exact m_abs km.1 km.2)
    have l0 : 0 ≤ vs.getD i 0 * row.many := Int.mul_nonneg b0 (by omega)
    have l1 : vs.getD i 0 * row.many ≤ row.total := by rw [tt]; exact Int.mul_le_mul_of_nonneg_right b1 (by omega)
    obtain ⟨low, hlow⟩ : ∃ low, vs.getD i 0 * q.many = low := ⟨_, rfl⟩
    rw [hlow] at mu
    rw [A.many, hlow] at l0 l1
    obtain ⟨rest, hrest⟩ : ∃ rest, q.total - low = rest := ⟨_, rfl⟩
    have r0 : 0 ≤ rest ∧ low + rest = row.total := by
      have := A.total
      omega
    obtain ⟨x, ix, x0, xr⟩ := pick6 (s := s1) rest r0.1 d1 d10 d11
    have dv : dBin .FloorDiv (.int rest) (.int 2) = some (.int (rest / 2)) := q_div _ _ (by decide) (by decide +kernel)
    refine ⟨low + x, .val (.int low), .val (.int rest), .val (.int d1), s1, ?_, S.step X eR (by omega) (by omega) (fun h e => by
      rw [hr] at e; cases e
      rw [A.many, Int.mul_comm, hlow]
      omega), a1.mono (by omega)⟩
    unfold stB
    simp only [hq, hS, e_non, e_bl, e_int, e_str, e_var, e_own, e_cst, e_bin, e_neg, e_cmp, e_chn, e_one, e_and, e_or, e_not, e_ite, e_idx, e_sl, e_tup, e_lst, e_cel, e_call, e_callk, e_bi, e_mth, e_isi, e_len, e_lc, e_fmt, e_fs, e_att, e_mk, e_mkk, e_um, e_dic0, e_dget, e_rgt, es_nil, es_cons, fs_nil, fs_cons, ts_nil, ts_one, src_seq, src_rg1, src_rg2, src_rg3, src_enum, src_zip, src_rev, k_bin, k_bin2, k_neg, k_cmp, k_cmp2, k_chn, k_chn2, k_chn3, k_chn4, k_and1, k_and0, k_or1, k_or0, k_not, k_ite, k_ite1, k_ite0, k_idx, k_idx2, k_sl, k_opt, k_sl2, k_sl3, k_dget, k_dget2, k_rgt, k_tup, k_lst, k_lst5, k_cel, k_call, k_callk, k_callk2, k_bi, k_mth, k_mth1, k_mth2, k_isi, k_len, k_lc, k_lcF, k_lc2, k_lc3t, k_lc3f, k_some, k_fmt, k_fs, k_mk, k_mkk, k_mkk2, k_att, k_um, k_evs, k_cons, k_tru, k_items, k_rg1, k_rg2, k_rg2b, k_rg3, k_rg3b, k_rg3c, k_enumL, k_enumT, k_zip, k_zipTT, k_zipLL, k_zipLT, k_zipTL, k_rev, v_val, o_owd, o_own, l_some, x_ok, o_map, s_set, s_setO, s_par, s_asg, s_aug, s_app, s_seti, s_setd, s_sta, s_ex, s_ret, s_retN, s_ifs, s_lop, s_whl, s_brk, s_cnt, s_pas, s_thru, ss_nil, ss_cons, ss_frz, at_name, at_sub, at_tup, ats_nil, ats_cons, t_set, t_setO, t_par, t_par2, t_asg, t_aug, t_augA, t_augS, t_app, t_app2, t_seti, t_seti2, t_seti3, t_setd, t_setd2, t_setd3, t_sta, t_ex, t_ret, t_ifs, t_ifs1, t_ifs0, t_lop, t_ss, t_ssr, t_ssb, t_ssc, t_ats, t_frz, t_sub, t_thru, t_thrur, o_nxt, v_set0, v_setS, d_set0, d_setD, d_setL, o_bind, z_frz0, z_frzS, List.getElem?_cons_zero, List.getElem?_cons_succ, q_add, q_sub, q_lt, q_le, q_gt, q_ge, q_eq, q_ne, q_is, q_isn, q_isb, q_isnb, q_in, q_int, q_tb, q_ti, q_lenL, q_lenT, q_lenN, q_itL, q_itT, q_tupL, q_tupT, q_lstL, q_lstT, q_intI, q_intB, q_min2, q_max2, q_abs, q_repr, D.isN, decide_true, decide_false, Bool.not_true, Bool.not_false, r_ret, r_nxt, dg, mu, hrest, p1, dv, ix]
    rw [t_setd3 _ _ _ _ _ kq okt, tbl_new h3.symm np]
    simp only [e_non, e_bl, e_int, e_str, e_var, e_own, e_cst, e_bin, e_neg, e_cmp, e_chn, e_one, e_and, e_or, e_not, e_ite, e_idx, e_sl, e_tup, e_lst, e_cel, e_call, e_callk, e_bi, e_mth, e_isi, e_len, e_lc, e_fmt, e_fs, e_att, e_mk, e_mkk, e_um, e_dic0, e_dget, e_rgt, es_nil, es_cons, fs_nil, fs_cons, ts_nil, ts_one, src_seq, src_rg1, src_rg2, src_rg3, src_enum, src_zip, src_rev, k_bin, k_bin2, k_neg, k_cmp, k_cmp2, k_chn, k_chn2, k_chn3, k_chn4, k_and1, k_and0, k_or1, k_or0, k_not, k_ite, k_ite1, k_ite0, k_idx, k_idx2, k_sl, k_opt, k_sl2, k_sl3, k_dget, k_dget2, k_rgt, k_tup, k_lst, k_lst5, k_cel, k_call, k_callk, k_callk2, k_bi, k_mth, k_mth1, k_mth2, k_isi, k_len, k_lc, k_lcF, k_lc2, k_lc3t, k_lc3f, k_some, k_fmt, k_fs, k_mk, k_mkk, k_mkk2, k_att, k_um, k_evs, k_cons, k_tru, k_items, k_rg1, k_rg2, k_rg2b, k_rg3, k_rg3b, k_rg3c, k_enumL, k_enumT, k_zip, k_zipTT, k_zipLL, k_zipLT, k_zipTL, k_rev, v_val, o_owd, o_own, l_some, x_ok, o_map, s_set, s_setO, s_par, s_asg, s_aug, s_app, s_seti, s_setd, s_sta, s_ex, s_ret, s_retN, s_ifs, s_lop, s_whl, s_brk, s_cnt, s_pas, s_thru, ss_nil, ss_cons, ss_frz, at_name, at_sub, at_tup, ats_nil, ats_cons, t_set, t_setO, t_par, t_par2, t_asg, t_aug, t_augA, t_augS, t_app, t_app2, t_seti, t_seti2, t_seti3, t_setd, t_setd2, t_setd3, t_sta, t_ex, t_ret, t_ifs, t_ifs1, t_ifs0, t_lop, t_ss, t_ssr, t_ssb, t_ssc, t_ats, t_frz, t_sub, t_thru, t_thrur, o_nxt, v_set0, v_setS, d_set0, d_setD, d_setL, o_bind, z_frz0, z_frzS, List.getElem?_cons_zero, List.getElem?_cons_succ, q_add, q_sub, q_lt, q_le, q_gt, q_ge, q_eq, q_ne, q_is, q_isn, q_isb, q_isnb, q_in, q_int, q_tb, q_ti, q_lenL, q_lenT, q_lenN, q_itL, q_itT, q_tupL, q_tupT, q_lstL, q_lstT, q_intI, q_intB, q_min2, q_max2, q_abs, q_repr, D.isN, decide_true, decide_false, Bool.not_true, Bool.not_false, r_ret, r_nxt, List.set]
theorem zip_fst {α β : Type} : ∀ (a : List α) (b : List β), b.length = a.length → (a.zip b).map (·.1) = a
  | [], [], _ => rfl
  | x :: a, y :: b, h => by rw [List.zip_cons_cons, List.map_cons, zip_fst a b (by simpa using h)]
  | [], _ :: _, h => by cases h
  | _ :: _, [], h => by cases h
theorem zip_snd {α β : Type} : ∀ (a : List α) (b : List β), b.length = a.length → (a.zip b).map (·.2) = b
  | [], [], _ => rfl
  | x :: a, y :: b, h => by rw [List.zip_cons_cons, List.map_cons, zip_snd a b (by simpa using h)]
  | [], _ :: _, h => by cases h
  | _ :: _, [], h => by cases h
theorem state_ok (n : Nat) {s0 s : Sto} {r k : Nat} {l : List Nd} (W : WOk l) (a : At s0 r k s) (hk : k ≤ 1000000) : ∃ v s', cf (n + 3) 56 [.ref r, .lst ((lkinds l).map LRow.d)] s = .ok (.tup (v.map .int)) s' ∧ St (kinds l) v ∧ At s0 r (k + 40) s' := by
  rw [u56]
  have K := kok W
  have nd : ((lkinds l).map LRow.name).Nodup := by rw [lk_names]; exact W.nd
  have LL : (lkinds l).length = (kinds l).length := ((kinds_al l).length).symm
  have ln := K.len
  obtain ⟨env', s', e, q⟩ := lop_inv (t := .tup [.name 3, .name 4, .name 5, .name 6, .name 7]) (f := evSs G0 (cf (n + 2)) (mf (n + 2)) stB)
    (fun ds env s => ∃ (pr rs : List LRow) (vs : List Int) (e3 e4 e5 e6 e7 e8 e9 e10 : Sl) (j : Nat), lkinds l = pr ++ rs ∧ ds = rs.map LRow.d ∧ env = [.val (.ref r), .val (.lst ((lkinds l).map LRow.d)), .owd (tbl pr vs), e3, e4, e5, e6, e7, e8, e9, e10, .und] ∧ vs.length = pr.length ∧ Sp (kinds l) vs ∧ At s0 r j s ∧ j + 2 * ds.length ≤ k + 40)
    (fun d ds env s hp => by
      obtain ⟨pr, rs, vs, e3, e4, e5, e6, e7, e8, e9, e10, j, h1, h2, rfl, h3, S, aj, hj⟩ := hp
      cases rs with
      | nil => cases h2
      | cons q rs =>
        cases h2
        rw [List.length_cons] at hj
        obtain ⟨y, f8, f9, f10, s', e, S', a'⟩ := row_drawn n W aj (by omega) h1 h3 S (.val (.lst ((lkinds l).map LRow.d))) e8 e9 e10
        exact ⟨_, _, s', by simp only [LRow.d, b_tup, b_cons, b_name, b_nil, e_non, e_bl, e_int, e_str, e_var, e_own, e_cst, e_bin, e_neg, e_cmp, e_chn, e_one, e_and, e_or, e_not, e_ite, e_idx, e_sl, e_tup, e_lst, e_cel, e_call, e_callk, e_bi, e_mth, e_isi, e_len, e_lc, e_fmt, e_fs, e_att, e_mk, e_mkk, e_um, e_dic0, e_dget, e_rgt, es_nil, es_cons, fs_nil, fs_cons, ts_nil, ts_one, src_seq, src_rg1, src_rg2, src_rg3, src_enum, src_zip, src_rev, k_bin, k_bin2, k_neg, k_cmp, k_cmp2, k_chn, k_chn2, k_chn3, k_chn4, k_and1, k_and0, k_or1, k_or0, k_not, k_ite, k_ite1, k_ite0, k_idx, k_idx2, k_sl, k_opt, k_sl2, k_sl3, k_dget, k_dget2, k_rgt, k_tup, k_lst, k_lst5, k_cel, k_call, k_callk, k_callk2, k_bi, k_mth, k_mth1, k_mth2, k_isi, k_len, k_lc, k_lcF, k_lc2, k_lc3t, k_lc3f, k_some, k_fmt, k_fs, k_mk, k_mkk, k_mkk2, k_att, k_um, k_evs, k_cons, k_tru, k_items, k_rg1, k_rg2, k_rg2b, k_rg3, k_rg3b, k_rg3c, k_enumL, k_enumT, k_zip, k_zipTT, k_zipLL, k_zipLT, k_zipTL, k_rev, v_val, o_owd, o_own, l_some, x_ok, o_map, s_set, s_setO, s_par, s_asg, s_aug, s_app, s_seti, s_setd, s_sta, s_ex, s_ret, s_retN, s_ifs, s_lop, s_whl, s_brk, s_cnt, s_pas, s_thru, ss_nil, ss_cons, ss_frz, at_name, at_sub, at_tup, ats_nil, ats_cons, t_set, t_setO, t_par, t_par2, t_asg, t_aug, t_augA, t_augS, t_app, t_app2, t_seti, t_seti2, t_seti3, t_setd, t_setd2, t_setd3, t_sta, t_ex, t_ret, t_ifs, t_ifs1, t_ifs0, t_lop, t_ss, t_ssr, t_ssb, t_ssc, t_ats, t_frz, t_sub, t_thru, t_thrur, o_nxt, v_set0, v_setS, d_set0, d_setD, d_setL, o_bind, z_frz0, z_frzS, List.getElem?_cons_zero, List.getElem?_cons_succ], e, pr ++ [q], rs, vs ++ [y], _, _, _, _, _, _, _, _, _, by rw [h1, List.append_assoc]; rfl, rfl, rfl, by rw [List.length_append, List.length_append, h3]; rfl, S', a', by omega⟩)
    ((lkinds l).map LRow.d) [.val (.ref r), .val (.lst ((lkinds l).map LRow.d)), .owd (tbl [] []), .und, .und, .und, .und, .und, .und, .und, .und, .und] s ⟨[], _, [], _, _, _, _, _, _, _, _, k, rfl, rfl, rfl, rfl, Sp.nil _, a, by rw [List.length_map]; omega⟩
  obtain ⟨pr, rs, vs, e3, e4, e5, e6, e7, e8, e9, e10, j, h1, h2, rfl, h3, S, aj, hj⟩ := q
  cases rs with
  | cons _ _ => cases h2
  | nil =>
    rw [List.append_nil] at h1
    subst h1
    refine ⟨vs, s', ?_, S.st (by omega), aj.mono (by simpa using hj)⟩
    have okr : okL ((lkinds l).map LRow.d).length = true := okL_of (by rw [List.length_map]; omega)
    have t0 : tbl [] [] = [] := rfl
    unfold stB at e
    rw [t0] at e
    have zl : (lkinds l).map LRow.d = ((lkinds l).zip vs).map fun p => p.1.d := by
      have := congrArg (List.map LRow.d) (zip_fst (lkinds l) vs h3)
      rw [List.map_map] at this
      exact this.symm
    have zr : ((lkinds l).zip vs).map (fun p => D.int p.2) = vs.map D.int := by
      have := congrArg (List.map D.int) (zip_snd (lkinds l) vs h3)
      rw [List.map_map] at this
      exact this
    simp only [B56, e_non, e_bl, e_int, e_str, e_var, e_own, e_cst, e_bin, e_neg, e_cmp, e_chn, e_one, e_and, e_or, e_not, e_ite, e_idx, e_sl, e_tup, e_lst, e_cel, e_call, e_callk, e_bi, e_mth, e_isi, e_len, e_lc, e_fmt, e_fs, e_att, e_mk, e_mkk, e_um, e_dic0, e_dget, e_rgt, es_nil, es_cons, fs_nil, fs_cons, ts_nil, ts_one, src_seq, src_rg1, src_rg2, src_rg3, src_enum, src_zip, src_rev, k_bin, k_bin2, k_neg, k_cmp, k_cmp2, k_chn, k_chn2, k_chn3, k_chn4, k_and1, k_and0, k_or1, k_or0, k_not, k_ite, k_ite1, k_ite0, k_idx, k_idx2, k_sl, k_opt, k_sl2, k_sl3, k_dget, k_dget2, k_rgt, k_tup, k_lst, k_lst5, k_cel, k_call, k_callk, k_callk2, k_bi, k_mth, k_mth1, k_mth2, k_isi, k_len, k_lc, k_lcF, k_lc2, k_lc3t, k_lc3f, k_some, k_fmt, k_fs, k_mk, k_mkk, k_mkk2, k_att, k_um, k_evs, k_cons, k_tru, k_items, k_rg1, k_rg2, k_rg2b, k_rg3, k_rg3b, k_rg3c, k_enumL, k_enumT, k_zip, k_zipTT, k_zipLL, k_zipLT, k_zipTL, k_rev, v_val, o_owd, o_own, l_some, x_ok, o_map, s_set, s_setO, s_par, s_asg, s_aug, s_app, s_seti, s_setd, s_sta, s_ex, s_ret, s_retN, s_ifs, s_lop, s_whl, s_brk, s_cnt, s_pas, s_thru, ss_nil, ss_cons, ss_frz, at_name, at_sub, at_tup, ats_nil, ats_cons, t_set, t_setO, t_par, t_par2, t_asg, t_aug, t_augA, t_augS, t_app, t_app2, t_seti, t_seti2, t_seti3, t_setd, t_setd2, t_setd3, t_sta, t_ex, t_ret, t_ifs, t_ifs1, t_ifs0, t_lop, t_ss, t_ssr, t_ssb, t_ssc, t_ats, t_frz, t_sub, t_thru, t_thrur, o_nxt, v_set0, v_setS, d_set0, d_setD, d_setL, o_bind, z_frz0, z_frzS, List.getElem?_cons_zero, List.getElem?_cons_succ, q_add, q_sub, q_lt, q_le, q_gt, q_ge, q_eq, q_ne, q_is, q_isn, q_isb, q_isnb, q_in, q_int, q_tb, q_ti, q_lenL, q_lenT, q_lenN, q_itL, q_itT, q_tupL, q_tupT, q_lstL, q_lstT, q_intI, q_intB, q_min2, q_max2, q_abs, q_repr, D.isN, decide_true, decide_false, Bool.not_true, Bool.not_false, r_ret, r_nxt]
    rw [e]
    simp only [e_non, e_bl, e_int, e_str, e_var, e_own, e_cst, e_bin, e_neg, e_cmp, e_chn, e_one, e_and, e_or, e_not, e_ite, e_idx, e_sl, e_tup, e_lst, e_cel, e_call, e_callk, e_bi, e_mth, e_isi, e_len, e_lc, e_fmt, e_fs, e_att, e_mk, e_mkk, e_um, e_dic0, e_dget, e_rgt, es_nil, es_cons, fs_nil, fs_cons, ts_nil, ts_one, src_seq, src_rg1, src_rg2, src_rg3, src_enum, src_zip, src_rev, k_bin, k_bin2, k_neg, k_cmp, k_cmp2, k_chn, k_chn2, k_chn3, k_chn4, k_and1, k_and0, k_or1, k_or0, k_not, k_ite, k_ite1, k_ite0, k_idx, k_idx2, k_sl, k_opt, k_sl2, k_sl3, k_dget, k_dget2, k_rgt, k_tup, k_lst, k_lst5, k_cel, k_call, k_callk, k_callk2, k_bi, k_mth, k_mth1, k_mth2, k_isi, k_len, k_lc, k_lcF, k_lc2, k_lc3t, k_lc3f, k_some, k_fmt, k_fs, k_mk, k_mkk, k_mkk2, k_att, k_um, k_evs, k_cons, k_tru, k_items, k_rg1, k_rg2, k_rg2b, k_rg3, k_rg3b, k_rg3c, k_enumL, k_enumT, k_zip, k_zipTT, k_zipLL, k_zipLT, k_zipTL, k_rev, v_val, o_owd, o_own, l_some, x_ok, o_map, s_set, s_setO, s_par, s_asg, s_aug, s_app, s_seti, s_setd, s_sta, s_ex, s_ret, s_retN, s_ifs, s_lop, s_whl, s_brk, s_cnt, s_pas, s_thru, ss_nil, ss_cons, ss_frz, at_name, at_sub, at_tup, ats_nil, ats_cons, t_set, t_setO, t_par, t_par2, t_asg, t_aug, t_augA, t_augS, t_app, t_app2, t_seti, t_seti2, t_seti3, t_setd, t_setd2, t_setd3, t_sta, t_ex, t_ret, t_ifs, t_ifs1, t_ifs0, t_lop, t_ss, t_ssr, t_ssb, t_ssc, t_ats, t_frz, t_sub, t_thru, t_thrur, o_nxt, v_set0, v_setS, d_set0, d_setD, d_setL, o_bind, z_frz0, z_frzS, List.getElem?_cons_zero, List.getElem?_cons_succ, q_add, q_sub, q_lt, q_le, q_gt, q_ge, q_eq, q_ne, q_is, q_isn, q_isb, q_isnb, q_in, q_int, q_tb, q_ti, q_lenL, q_lenT, q_lenN, q_itL, q_itT, q_tupL, q_tupT, q_lstL, q_lstT, q_intI, q_intB, q_min2, q_max2, q_abs, q_repr, D.isN, decide_true, decide_false, Bool.not_true, Bool.not_false, r_ret, r_nxt]
    rw [k_lc _ _ _ _ _ okr, zl, lc_map (fun p : LRow × Int => p.1.d) (fun p => D.int p.2) ((lkinds l).zip vs) fun p hp => by
      obtain ⟨i, hi, rfl⟩ := List.getElem_of_mem hp
      rw [List.length_zip] at hi
      have i0 : ∀ s, dIdxS s ((lkinds l).zip vs)[i].1.d (.int 0) = some (.str ((lkinds l).zip vs)[i].1.name) := fun s => rfl
      have dg : dDget (.dic (tbl (lkinds l) vs)) (.str ((lkinds l).zip vs)[i].1.name) = some (.int ((lkinds l).zip vs)[i].2) := by
        rw [List.getElem_zip]
        exact dg_ok nd (List.getElem?_eq_getElem (by omega)) (List.getElem?_eq_getElem (by omega))
      simp only [e_non, e_bl, e_int, e_str, e_var, e_own, e_cst, e_bin, e_neg, e_cmp, e_chn, e_one, e_and, e_or, e_not, e_ite, e_idx, e_sl, e_tup, e_lst, e_cel, e_call, e_callk, e_bi, e_mth, e_isi, e_len, e_lc, e_fmt, e_fs, e_att, e_mk, e_mkk, e_um, e_dic0, e_dget, e_rgt, es_nil, es_cons, fs_nil, fs_cons, ts_nil, ts_one, src_seq, src_rg1, src_rg2, src_rg3, src_enum, src_zip, src_rev, k_bin, k_bin2, k_neg, k_cmp, k_cmp2, k_chn, k_chn2, k_chn3, k_chn4, k_and1, k_and0, k_or1, k_or0, k_not, k_ite, k_ite1, k_ite0, k_idx, k_idx2, k_sl, k_opt, k_sl2, k_sl3, k_dget, k_dget2, k_rgt, k_tup, k_lst, k_lst5, k_cel, k_call, k_callk, k_callk2, k_bi, k_mth, k_mth1, k_mth2, k_isi, k_len, k_lc, k_lcF, k_lc2, k_lc3t, k_lc3f, k_some, k_fmt, k_fs, k_mk, k_mkk, k_mkk2, k_att, k_um, k_evs, k_cons, k_tru, k_items, k_rg1, k_rg2, k_rg2b, k_rg3, k_rg3b, k_rg3c, k_enumL, k_enumT, k_zip, k_zipTT, k_zipLL, k_zipLT, k_zipTL, k_rev, v_val, o_owd, o_own, l_some, x_ok, o_map, s_set, s_setO, s_par, s_asg, s_aug, s_app, s_seti, s_setd, s_sta, s_ex, s_ret, s_retN, s_ifs, s_lop, s_whl, s_brk, s_cnt, s_pas, s_thru, ss_nil, ss_cons, ss_frz, at_name, at_sub, at_tup, ats_nil, ats_cons, t_set, t_setO, t_par, t_par2, t_asg, t_aug, t_augA, t_augS, t_app, t_app2, t_seti, t_seti2, t_seti3, t_setd, t_setd2, t_setd3, t_sta, t_ex, t_ret, t_ifs, t_ifs1, t_ifs0, t_lop, t_ss, t_ssr, t_ssb, t_ssc, t_ats, t_frz, t_sub, t_thru, t_thrur, o_nxt, v_set0, v_setS, d_set0, d_setD, d_setL, o_bind, z_frz0, z_frzS, List.getElem?_cons_zero, List.getElem?_cons_succ, q_add, q_sub, q_lt, q_le, q_gt, q_ge, q_eq, q_ne, q_is, q_isn, q_isb, q_isnb, q_in, q_int, q_tb, q_ti, q_lenL, q_lenT, q_lenN, q_itL, q_itT, q_tupL, q_tupT, q_lstL, q_lstT, q_intI, q_intB, q_min2, q_max2, q_abs, q_repr, D.isN, decide_true, decide_false, Bool.not_true, Bool.not_false, r_ret, r_nxt, wipeE, List.set, b_name, i0, dg], zr]
    simp only [e_non, e_bl, e_int, e_str, e_var, e_own, e_cst, e_bin, e_neg, e_cmp, e_chn, e_one, e_and, e_or, e_not, e_ite, e_idx, e_sl, e_tup, e_lst, e_cel, e_call, e_callk, e_bi, e_mth, e_isi, e_len, e_lc, e_fmt, e_fs, e_att, e_mk, e_mkk, e_um, e_dic0, e_dget, e_rgt, es_nil, es_cons, fs_nil, fs_cons, ts_nil, ts_one, src_seq, src_rg1, src_rg2, src_rg3, src_enum, src_zip, src_rev, k_bin, k_bin2, k_neg, k_cmp, k_cmp2, k_chn, k_chn2, k_chn3, k_chn4, k_and1, k_and0, k_or1, k_or0, k_not, k_ite, k_ite1, k_ite0, k_idx, k_idx2, k_sl, k_opt, k_sl2, k_sl3, k_dget, k_dget2, k_rgt, k_tup, k_lst, k_lst5, k_cel, k_call, k_callk, k_callk2, k_bi, k_mth, k_mth1, k_mth2, k_isi, k_len, k_lc, k_lcF, k_lc2, k_lc3t, k_lc3f, k_some, k_fmt, k_fs, k_mk, k_mkk, k_mkk2, k_att, k_um, k_evs, k_cons, k_tru, k_items, k_rg1, k_rg2, k_rg2b, k_rg3, k_rg3b, k_rg3c, k_enumL, k_enumT, k_zip, k_zipTT, k_zipLL, k_zipLT, k_zipTL, k_rev, v_val, o_owd, o_own, l_some, x_ok, o_map, s_set, s_setO, s_par, s_asg, s_aug, s_app, s_seti, s_setd, s_sta, s_ex, s_ret, s_retN, s_ifs, s_lop, s_whl, s_brk, s_cnt, s_pas, s_thru, ss_nil, ss_cons, ss_frz, at_name, at_sub, at_tup, ats_nil, ats_cons, t_set, t_setO, t_par, t_par2, t_asg, t_aug, t_augA, t_augS, t_app, t_app2, t_seti, t_seti2, t_seti3, t_setd, t_setd2, t_setd3, t_sta, t_ex, t_ret, t_ifs, t_ifs1, t_ifs0, t_lop, t_ss, t_ssr, t_ssb, t_ssc, t_ats, t_frz, t_sub, t_thru, t_thrur, o_nxt, v_set0, v_setS, d_set0, d_setD, d_setL, o_bind, z_frz0, z_frzS, List.getElem?_cons_zero, List.getElem?_cons_succ, q_add, q_sub, q_lt, q_le, q_gt, q_ge, q_eq, q_ne, q_is, q_isn, q_isb, q_isnb, q_in, q_int, q_tb, q_ti, q_lenL, q_lenT, q_lenN, q_itL, q_itT, q_tupL, q_tupT, q_lstL, q_lstT, q_intI, q_intB, q_min2, q_max2, q_abs, q_repr, D.isN, decide_true, decide_false, Bool.not_true, Bool.not_false, r_ret, r_nxt]
end Lk16
set_option Elab.async false
set_option linter.all false
set_option maxRecDepth 100000
set_option maxHeartbeats 2000000
set_option exponentiation.threshold 2000
/-! the most of a kind, by names -/
namespace Lk16
open Lv PySem
theorem eqS (a b : Str) : dEq (.str a) (.str b) = some (decide (a = b)) := by
  obtain ⟨⟨x⟩⟩ := a
  obtain ⟨⟨y⟩⟩ := b
  show some (x == y) = _
  congr 1
  by_cases c : x = y
  · subst c; simp
  · rw [decide_eq_false (fun e => c (by cases e; rfl))]
    simpa using c
theorem eqN (b : Str) (h : PyData.strOk b = true) : dEq .non (.str b) = some false := by
  show dEqD .non (.str b) = _
  unfold dEqD
  show (if SeqAt.shaped .none && SeqAt.shaped (.str b) then some (PyData.eqv .none (.str b)) else none) = _
  have q : SeqAt.shaped (.str b) = true := by
    unfold SeqAt.shaped
    rw [show (PyData.str b).canLay0 = true from h]; rfl
  rw [q]; rfl
theorem name_str {l : List Nd} (W : WOk l) {k : Nat} {q : LRow} (e : (lkinds l)[k]? = some q) : PyData.strOk q.name = true := by
  have h : q.name ∈ (lkinds l).map LRow.name := List.mem_map_of_mem (List.mem_of_getElem? e)
  rw [lk_names] at h
  obtain ⟨b, hb, e⟩ := List.mem_map.mp h
  rw [← e]
  exact (nameB_ok (W.ok b hb).nm).1
theorem eq_home {l : List Nd} (W : WOk l) {j k : Nat} {q qk : LRow} {row : Row} (eR : (kinds l)[j]? = some row) (eL : (lkinds l)[j]? = some q) (ek : (lkinds l)[k]? = some qk) : dEq (hS q.home) (.str qk.name) = some (decide (row.home = some k)) := by
  have nd : ((lkinds l).map LRow.name).Nodup := by rw [lk_names]; exact W.nd
  obtain ⟨q2, f2, H⟩ := (kinds_hn l).get eR
  rw [eL] at f2
  cases f2
  rcases H with ⟨hr, hq⟩ | ⟨i, g, hr, hg, hq⟩
  · rw [hr, hq]
    exact eqN _ (name_str W ek)
  · obtain ⟨g', eg, Ag⟩ := (kinds_al l).get hg
    rw [hr, hq]
    show dEq (.str g.name) (.str qk.name) = _
    rw [eqS]
    congr 1
    by_cases c : i = k
    · subst c
      rw [eg] at ek
      cases ek
      rw [decide_eq_true Ag.name, decide_eq_true rfl]
    · rw [decide_eq_false (fun e => c (name_inj nd eg ek (by rw [← Ag.name]; exact e))), decide_eq_false (fun e => c (by cases e; rfl))]
def mostB : Ss := (.cons (.ifs (.cmp .Eq (.idx (.var 4) (.int 4)) (.idx (.idx (.var 0) (.var 2)) (.int 0))) (.cons (.set 3 (.bi .min (.cons (.var 3) (.cons (.bin .FloorDiv (.var 5) (.idx (.var 4) (.int 1))) .nil)))) .nil) .nil) .nil)
theorem most_ok (n : Nat) {l : List Nd} (W : WOk l) (v : List Int) (hv : v.length = (kinds l).length) (k : Nat) (hk : k < (kinds l).length) (s : Sto) : cf (n + 1) 58 [.lst ((lkinds l).map LRow.d), .tup (v.map .int), .int (k : Int)] s = .ok (.int ((doF (kinds l) v).getD k 0)) s := by
  rw [u58]
  have K := kok W
  have LL : (lkinds l).length = (kinds l).length := ((kinds_al l).length).symm
  obtain ⟨rk, erk⟩ : ∃ rk, (kinds l)[k]? = some rk := ⟨_, List.getElem?_eq_getElem hk⟩
  obtain ⟨qk, ek, Ak⟩ := (kinds_al l).get erk
  have ixk : ∀ s, dIdxS s (.lst ((lkinds l).map LRow.d)) (.int (k : Int)) = some qk.d := fun s => q_ixL (atI_n (by rw [List.getElem?_map, ek]; rfl))
  have i3 : ∀ s, dIdxS s qk.d (.int 3) = some (.int qk.total) := fun s => rfl
  have i0 : ∀ s, dIdxS s qk.d (.int 0) = some (.str qk.name) := fun s => rfl
  have zl : dZip ((lkinds l).map LRow.d) (v.map .int) = ((lkinds l).zip v).map fun p => D.tup [p.1.d, .int p.2] := zip_map _ _ _ _
  obtain ⟨env', s', e, q⟩ := lop_inv (t := .tup [.name 4, .name 5]) (f := evSs G0 (cf n) (mf n) mostB)
    (fun ds env s' => ∃ (pr rs : List (LRow × Int)) (f : Int) (e4 e5 : Sl), (lkinds l).zip v = pr ++ rs ∧ ds = rs.map (fun p => D.tup [p.1.d, .int p.2]) ∧ env = [.val (.lst ((lkinds l).map LRow.d)), .val (.tup (v.map .int)), .val (.int (k : Int)), .val (.int f), e4, e5] ∧ s' = s ∧ f ≤ rT (kinds l) k ∧ (∀ j q, j < pr.length → (kinds l)[j]? = some q → q.home = some k → f ≤ v.getD j 0 / q.many) ∧ (f = rT (kinds l) k ∨ ∃ j q, (kinds l)[j]? = some q ∧ q.home = some k ∧ f = v.getD j 0 / q.many))
    (fun d ds env s' hp => by
      obtain ⟨pr, rs, f, e4, e5, h1, h2, rfl, rfl, c1, c2, c3⟩ := hp
      cases rs with
      | nil => cases h2
      | cons p rs =>
        cases h2
        obtain ⟨q, x⟩ := p
        have ez : ((lkinds l).zip v)[pr.length]? = some (q, x) := by rw [h1, List.getElem?_append_right (Nat.le_refl _), Nat.sub_self]; rfl
        obtain ⟨eL, ex⟩ := List.getElem?_zip_eq_some.mp ez
        have eL : (lkinds l)[pr.length]? = some q := eL
        have ex : v.getD pr.length 0 = x := by rw [List.getD_eq_getElem?_getD, ex]; rfl
        have hlt : pr.length < (kinds l).length := by rw [← LL]; exact (List.getElem?_eq_some_iff.mp eL).1
        obtain ⟨row, eR⟩ : ∃ row, (kinds l)[pr.length]? = some row := ⟨_, List.getElem?_eq_getElem hlt⟩
        obtain ⟨q1, f1, A⟩ := (kinds_al l).get eR
        rw [eL] at f1
        cases f1
        have km := K.many _ (List.mem_of_getElem? eR)
        have eh := eq_home W eR eL ek
        have j4 : ∀ s, dIdxS s q.d (.int 4) = some (hS q.home) := fun s => rfl
        have j1 : ∀ s, dIdxS s q.d (.int 1) = some (.int row.many) := fun s => by rw [A.many]; rfl
        have dv : dBin .FloorDiv (.int x) (.int row.many) = some (.int (x / row.many)) := q_div _ _ (by omega) (Int.lt_of_le_of_lt km.2 (by decide +kernel))
        by_cases c : row.home = some k
        · obtain ⟨f', hf'⟩ : ∃ f', (if x / row.many < f then x / row.many else f) = f' := ⟨_, rfl⟩
          have f1 : f' ≤ f ∧ f' ≤ x / row.many ∧ (f' = f ∨ f' = x / row.many) := by rw [← hf']; split <;> omega
          refine ⟨[.val (.lst ((lkinds l).map LRow.d)), .val (.tup (v.map .int)), .val (.int (k : Int)), .val (.int f), .val q.d, .val (.int x)], [.val (.lst ((lkinds l).map LRow.d)), .val (.tup (v.map .int)), .val (.int (k : Int)), .val (.int f'), .val q.d, .val (.int x)], s', by simp only [b_tup, b_cons, b_name, b_nil, e_non, e_bl, e_int, e_str, e_var, e_own, e_cst, e_bin, e_neg, e_cmp, e_chn, e_one, e_and, e_or, e_not, e_ite, e_idx, e_sl, e_tup, e_lst, e_cel, e_call, e_callk, e_bi, e_mth, e_isi, e_len, e_lc, e_fmt, e_fs, e_att, e_mk, e_mkk, e_um, e_dic0, e_dget, e_rgt, es_nil, es_cons, fs_nil, fs_cons, ts_nil, ts_one, src_seq, src_rg1, src_rg2, src_rg3, src_enum, src_zip, src_rev, k_bin, k_bin2, k_neg, k_cmp, k_cmp2, k_chn, k_chn2, k_chn3, k_chn4, k_and1, k_and0, k_or1, k_or0, k_not, k_ite, k_ite1, k_ite0, k_idx, k_idx2, k_sl, k_opt, k_sl2, k_sl3, k_dget, k_dget2, k_rgt, k_tup, k_lst, k_lst5, k_cel, k_call, k_callk, k_callk2, k_bi, k_mth, k_mth1, k_mth2, k_isi, k_len, k_lc, k_lcF, k_lc2, k_lc3t, k_lc3f, k_some, k_fmt, k_fs, k_mk, k_mkk, k_mkk2, k_att, k_um, k_evs, k_cons, k_tru, k_items, k_rg1, k_rg2, k_rg2b, k_rg3, k_rg3b, k_rg3c, k_enumL, k_enumT, k_zip, k_zipTT, k_zipLL, k_zipLT, k_zipTL, k_rev, v_val, o_owd, o_own, l_some, x_ok, o_map, s_set, s_setO, s_par, s_asg, s_aug, s_app, s_seti, s_setd, s_sta, s_ex, s_ret, s_retN, s_ifs, s_lop, s_whl, s_brk, s_cnt, s_pas, s_thru, ss_nil, ss_cons, ss_frz, at_name, at_sub, at_tup, ats_nil, ats_cons, t_set, t_setO, t_par, t_par2, t_asg, t_aug, t_augA, t_augS, t_app, t_app2, t_seti, t_seti2, t_seti3, t_setd, t_setd2, t_setd3, t_sta, t_ex, t_ret, t_ifs, t_ifs1, t_ifs0, t_lop, t_ss, t_ssr, t_ssb, t_ssc, t_ats, t_frz, t_sub, t_thru, t_thrur, o_nxt, v_set0, v_setS, d_set0, d_setD, d_setL, o_bind, z_frz0, z_frzS, List.getElem?_cons_zero, List.getElem?_cons_succ], ?_, pr ++ [(q, x)], rs, f', _, _, by rw [h1, List.append_assoc]; rfl, rfl, rfl, rfl, by omega, ?_, ?_⟩
          · unfold mostB
            simp only [e_non, e_bl, e_int, e_str, e_var, e_own, e_cst, e_bin, e_neg, e_cmp, e_chn, e_one, e_and, e_or, e_not, e_ite, e_idx, e_sl, e_tup, e_lst, e_cel, e_call, e_callk, e_bi, e_mth, e_isi, e_len, e_lc, e_fmt, e_fs, e_att, e_mk, e_mkk, e_um, e_dic0, e_dget, e_rgt, es_nil, es_cons, fs_nil, fs_cons, ts_nil, ts_one, src_seq, src_rg1, src_rg2, src_rg3, src_enum, src_zip, src_rev, k_bin, k_bin2, k_neg, k_cmp, k_cmp2, k_chn, k_chn2, k_chn3, k_chn4, k_and1, k_and0, k_or1, k_or0, k_not, k_ite, k_ite1, k_ite0, k_idx, k_idx2, k_sl, k_opt, k_sl2, k_sl3, k_dget, k_dget2, k_rgt, k_tup, k_lst, k_lst5, k_cel, k_call, k_callk, k_callk2, k_bi, k_mth, k_mth1, k_mth2, k_isi, k_len, k_lc, k_lcF, k_lc2, k_lc3t, k_lc3f, k_some, k_fmt, k_fs, k_mk, k_mkk, k_mkk2, k_att, k_um, k_evs, k_cons, k_tru, k_items, k_rg1, k_rg2, k_rg2b, k_rg3, k_rg3b, k_rg3c, k_enumL, k_enumT, k_zip, k_zipTT, k_zipLL, k_zipLT, k_zipTL, k_rev, v_val, o_owd, o_own, l_some, x_ok, o_map, s_set, s_setO, s_par, s_asg, s_aug, s_app, s_seti, s_setd, s_sta, s_ex, s_ret, s_retN, s_ifs, s_lop, s_whl, s_brk, s_cnt, s_pas, s_thru, ss_nil, ss_cons, ss_frz, at_name, at_sub, at_tup, ats_nil, ats_cons, t_set, t_setO, t_par, t_par2, t_asg, t_aug, t_augA, t_augS, t_app, t_app2, t_seti, t_seti2, t_seti3, t_setd, t_setd2, t_setd3, t_sta, t_ex, t_ret, t_ifs, t_ifs1, t_ifs0, t_lop, t_ss, t_ssr, t_ssb, t_ssc, t_ats, t_frz, t_sub, t_thru, t_thrur, o_nxt, v_set0, v_setS, d_set0, d_setD, d_setL, o_bind, z_frz0, z_frzS, List.getElem?_cons_zero, List.getElem?_cons_succ, q_add, q_sub, q_lt, q_le, q_gt, q_ge, q_eq, q_ne, q_is, q_isn, q_isb, q_isnb, q_in, q_int, q_tb, q_ti, q_lenL, q_lenT, q_lenN, q_itL, q_itT, q_tupL, q_tupT, q_lstL, q_lstT, q_intI, q_intB, q_min2, q_max2, q_abs, q_repr, D.isN, decide_true, decide_false, Bool.not_true, Bool.not_false, r_ret, r_nxt, j4, ixk, i0, eh, decide_eq_true c, j1, dv, hf']
          · intro j q' hj e1 e2
            rw [List.length_append] at hj
            by_cases cj : j < pr.length
            · have := c2 j q' cj e1 e2
              omega
            · have : j = pr.length := by simp at hj; omega
              subst this
              rw [eR] at e1
              cases e1
              rw [ex]
              exact f1.2.1
          · rcases f1.2.2 with e | e
            · rw [e]; exact c3
            · exact .inr ⟨pr.length, row, eR, c, by rw [ex]; exact e⟩
        · refine ⟨[.val (.lst ((lkinds l).map LRow.d)), .val (.tup (v.map .int)), .val (.int (k : Int)), .val (.int f), .val q.d, .val (.int x)], [.val (.lst ((lkinds l).map LRow.d)), .val (.tup (v.map .int)), .val (.int (k : Int)), .val (.int f), .val q.d, .val (.int x)], s', by simp only [b_tup, b_cons, b_name, b_nil, e_non, e_bl, e_int, e_str, e_var, e_own, e_cst, e_bin, e_neg, e_cmp, e_chn, e_one, e_and, e_or, e_not, e_ite, e_idx, e_sl, e_tup, e_lst, e_cel, e_call, e_callk, e_bi, e_mth, e_isi, e_len, e_lc, e_fmt, e_fs, e_att, e_mk, e_mkk, e_um, e_dic0, e_dget, e_rgt, es_nil, es_cons, fs_nil, fs_cons, ts_nil, ts_one, src_seq, src_rg1, src_rg2, src_rg3, src_enum, src_zip, src_rev, k_bin, k_bin2, k_neg, k_cmp, k_cmp2, k_chn, k_chn2, k_chn3, k_chn4, k_and1, k_and0, k_or1, k_or0, k_not, k_ite, k_ite1, k_ite0, k_idx, k_idx2, k_sl, k_opt, k_sl2, k_sl3, k_dget, k_dget2, k_rgt, k_tup, k_lst, k_lst5, k_cel, k_call, k_callk, k_callk2, k_bi, k_mth, k_mth1, k_mth2, k_isi, k_len, k_lc, k_lcF, k_lc2, k_lc3t, k_lc3f, k_some, k_fmt, k_fs, k_mk, k_mkk, k_mkk2, k_att, k_um, k_evs, k_cons, k_tru, k_items, k_rg1, k_rg2, k_rg2b, k_rg3, k_rg3b, k_rg3c, k_enumL, k_enumT, k_zip, k_zipTT, k_zipLL, k_zipLT, k_zipTL, k_rev, v_val, o_owd, o_own, l_some, x_ok, o_map, s_set, s_setO, s_par, s_asg, s_aug, s_app, s_seti, s_setd, s_sta, s_ex, s_ret, s_retN, s_ifs, s_lop, s_whl, s_brk, s_cnt, s_pas, s_thru, ss_nil, ss_cons, ss_frz, at_name, at_sub, at_tup, ats_nil, ats_cons, t_set, t_setO, t_par, t_par2, t_asg, t_aug, t_augA, t_augS, t_app, t_app2, t_seti, t_seti2, t_seti3, t_setd, t_setd2, t_setd3, t_sta, t_ex, t_ret, t_ifs, t_ifs1, t_ifs0, t_lop, t_ss, t_ssr, t_ssb, t_ssc, t_ats, t_frz, t_sub, t_thru, t_thrur, o_nxt, v_set0, v_setS, d_set0, d_setD, d_setL, o_bind, z_frz0, z_frzS, List.getElem?_cons_zero, List.getElem?_cons_succ], ?_, pr ++ [(q, x)], rs, f, _, _, by rw [h1, List.append_assoc]; rfl, rfl, rfl, rfl, c1, ?_, c3⟩
          · unfold mostB
            simp only [e_non, e_bl, e_int, e_str, e_var, e_own, e_cst, e_bin, e_neg, e_cmp, e_chn, e_one, e_and, e_or, e_not, e_ite, e_idx, e_sl, e_tup, e_lst, e_cel, e_call, e_callk, e_bi, e_mth, e_isi, e_len, e_lc, e_fmt, e_fs, e_att, e_mk, e_mkk, e_um, e_dic0, e_dget, e_rgt, es_nil, es_cons, fs_nil, fs_cons, ts_nil, ts_one, src_seq, src_rg1, src_rg2, src_rg3, src_enum, src_zip, src_rev, k_bin, k_bin2, k_neg, k_cmp, k_cmp2, k_chn, k_chn2, k_chn3, k_chn4, k_and1, k_and0, k_or1, k_or0, k_not, k_ite, k_ite1, k_ite0, k_idx, k_idx2, k_sl, k_opt, k_sl2, k_sl3, k_dget, k_dget2, k_rgt, k_tup, k_lst, k_lst5, k_cel, k_call, k_callk, k_callk2, k_bi, k_mth, k_mth1, k_mth2, k_isi, k_len, k_lc, k_lcF, k_lc2, k_lc3t, k_lc3f, k_some, k_fmt, k_fs, k_mk, k_mkk, k_mkk2, k_att, k_um, k_evs, k_cons, k_tru, k_items, k_rg1, k_rg2, k_rg2b, k_rg3, k_rg3b, k_rg3c, k_enumL, k_enumT, k_zip, k_zipTT, k_zipLL, k_zipLT, k_zipTL, k_rev, v_val, o_owd, o_own, l_some, x_ok, o_map, s_set, s_setO, s_par, s_asg, s_aug, s_app, s_seti, s_setd, s_sta, s_ex, s_ret, s_retN, s_ifs, s_lop, s_whl, s_brk, s_cnt, s_pas, s_thru, ss_nil, ss_cons, ss_frz, at_name, at_sub, at_tup, ats_nil, ats_cons, t_set, t_setO, t_par, t_par2, t_asg, t_aug, t_augA, t_augS, t_app, t_app2, t_seti, t_seti2, t_seti3, t_setd, t_setd2, t_setd3, t_sta, t_ex, t_ret, t_ifs, t_ifs1, t_ifs0, t_lop, t_ss, t_ssr, t_ssb, t_ssc, t_ats, t_frz, t_sub, t_thru, t_thrur, o_nxt, v_set0, v_setS, d_set0, d_setD, d_setL, o_bind, z_frz0, z_frzS, List.getElem?_cons_zero, List.getElem?_cons_succ, q_add, q_sub, q_lt, q_le, q_gt, q_ge, q_eq, q_ne, q_is, q_isn, q_isb, q_isnb, q_in, q_int, q_tb, q_ti, q_lenL, q_lenT, q_lenN, q_itL, q_itT, q_tupL, q_tupT, q_lstL, q_lstT, q_intI, q_intB, q_min2, q_max2, q_abs, q_repr, D.isN, decide_true, decide_false, Bool.not_true, Bool.not_false, r_ret, r_nxt, j4, ixk, i0, eh, decide_eq_false c]
          · intro j q' hj e1 e2
            rw [List.length_append] at hj
            by_cases cj : j < pr.length
            · exact c2 j q' cj e1 e2
            · have : j = pr.length := by simp at hj; omega
              subst this
              rw [eR] at e1
              cases e1
              exact absurd e2 c)
    (((lkinds l).zip v).map fun p => D.tup [p.1.d, .int p.2]) [.val (.lst ((lkinds l).map LRow.d)), .val (.tup (v.map .int)), .val (.int (k : Int)), .val (.int qk.total), .und, .und] s ⟨[], _, _, _, _, rfl, rfl, rfl, rfl, by rw [rT_of erk, Ak.total]; exact Int.le_refl _, fun j q h => absurd h (Nat.not_lt_zero _), .inl (by rw [rT_of erk, Ak.total])⟩
  obtain ⟨pr, rs, f, e4, e5, h1, h2, rfl, rfl, c1, c2, c3⟩ := q
  cases rs with
  | cons _ _ => cases h2
  | nil =>
    rw [List.append_nil] at h1
    have lp : pr.length = (kinds l).length := by rw [← h1, List.length_zip]; omega
    obtain ⟨g1, g2, g3⟩ := doF_all K v k
    have fin : f = (doF (kinds l) v).getD k 0 := by
      refine min_unique ?_ ?_
      · rcases g3 with g | ⟨j, q, e1, e2, e3⟩
        · rw [g]; exact c1
        · rw [e3]; exact c2 j q (by rw [lp]; exact lt_len e1) e1 e2
      · rcases c3 with g | ⟨j, q, e1, e2, e3⟩
        · rw [g]; exact g1
        · rw [e3]; exact g2 j q e1 e2
    rw [← fin]
    unfold mostB at e
    simp only [B58, e_non, e_bl, e_int, e_str, e_var, e_own, e_cst, e_bin, e_neg, e_cmp, e_chn, e_one, e_and, e_or, e_not, e_ite, e_idx, e_sl, e_tup, e_lst, e_cel, e_call, e_callk, e_bi, e_mth, e_isi, e_len, e_lc, e_fmt, e_fs, e_att, e_mk, e_mkk, e_um, e_dic0, e_dget, e_rgt, es_nil, es_cons, fs_nil, fs_cons, ts_nil, ts_one, src_seq, src_rg1, src_rg2, src_rg3, src_enum, src_zip, src_rev, k_bin, k_bin2, k_neg, k_cmp, k_cmp2, k_chn, k_chn2, k_chn3, k_chn4, k_and1, k_and0, k_or1, k_or0, k_not, k_ite, k_ite1, k_ite0, k_idx, k_idx2, k_sl, k_opt, k_sl2, k_sl3, k_dget, k_dget2, k_rgt, k_tup, k_lst, k_lst5, k_cel, k_call, k_callk, k_callk2, k_bi, k_mth, k_mth1, k_mth2, k_isi, k_len, k_lc, k_lcF, k_lc2, k_lc3t, k_lc3f, k_some, k_fmt, k_fs, k_mk, k_mkk, k_mkk2, k_att, k_um, k_evs, k_cons, k_tru, k_items, k_rg1, k_rg2, k_rg2b, k_rg3, k_rg3b, k_rg3c, k_enumL, k_enumT, k_zip, k_zipTT, k_zipLL, k_zipLT, k_zipTL, k_rev, v_val, o_owd, o_own, l_some, x_ok, o_map, s_set, s_setO, s_par, s_asg, s_aug, s_app, s_seti, s_setd, s_sta, s_ex, s_ret, s_retN, s_ifs, s_lop, s_whl, s_brk, s_cnt, s_pas, s_thru, ss_nil, ss_cons, ss_frz, at_name, at_sub, at_tup, ats_nil, ats_cons, t_set, t_setO, t_par, t_par2, t_asg, t_aug, t_augA, t_augS, t_app, t_app2, t_seti, t_seti2, t_seti3, t_setd, t_setd2, t_setd3, t_sta, t_ex, t_ret, t_ifs, t_ifs1, t_ifs0, t_lop, t_ss, t_ssr, t_ssb, t_ssc, t_ats, t_frz, t_sub, t_thru, t_thrur, o_nxt, v_set0, v_setS, d_set0, d_setD, d_setL, o_bind, z_frz0, z_frzS, List.getElem?_cons_zero, List.getElem?_cons_succ, q_add, q_sub, q_lt, q_le, q_gt, q_ge, q_eq, q_ne, q_is, q_isn, q_isb, q_isnb, q_in, q_int, q_tb, q_ti, q_lenL, q_lenT, q_lenN, q_itL, q_itT, q_tupL, q_tupT, q_lstL, q_lstT, q_intI, q_intB, q_min2, q_max2, q_abs, q_repr, D.isN, decide_true, decide_false, Bool.not_true, Bool.not_false, r_ret, r_nxt, ixk, i3, zl, e]
end Lk16
set_option Elab.async false
set_option linter.all false
set_option maxRecDepth 100000
set_option maxHeartbeats 2000000
set_option exponentiation.threshold 2000
/-! left and doable are right -/
namespace Lk16
open Lv PySem
theorem cut_from (l : List D) (k : Nat) : cutD l (some (k : Int)) none = l.drop k := by
  simp only [cutD, HT.sIx]
  rw [if_neg (by omega), Int.toNat_natCast]
  rcases Nat.le_total k l.length with h | h
  · rw [Nat.min_eq_left h, List.take_of_length_le (by rw [List.length_drop]; omega)]
  · rw [Nat.min_eq_right h, Nat.sub_self, List.take_zero, List.drop_eq_nil_of_le h]
theorem slT_to (v : List Int) (k : Nat) : dSl (.tup (v.map .int)) none (some (k : Int)) = some (.tup ((v.take k).map .int)) := by
  show some (D.tup (cutD (v.map .int) none (some (k : Int)))) = _
  rw [cut_to, List.map_take]
theorem slT_from (v : List Int) (k : Nat) : dSl (.tup (v.map .int)) (some ((k : Int) + 1)) none = some (.tup ((v.drop (k + 1)).map .int)) := by
  show some (D.tup (cutD (v.map .int) (some ((k + 1 : Nat) : Int)) none)) = _
  rw [cut_from, List.map_drop]
theorem addI1 (a : List Int) (x : Int) (h : a.length ≤ 1000) : dBin .Add (.tup (a.map .int)) (.tup [.int x]) = some (.tup ((a ++ [x]).map .int)) := by
  rw [q_addT _ _ (by rw [List.length_map]; show a.length + 1 ≤ _; omega), List.map_append]; rfl
theorem addII (a b : List Int) (h : a.length ≤ 1000) (h2 : b.length ≤ 1000) : dBin .Add (.tup (a.map .int)) (.tup (b.map .int)) = some (.tup ((a ++ b).map .int)) := by
  rw [q_addT _ _ (by rw [List.length_map, List.length_map]; omega), List.map_append]
theorem sub_tot {α : Type} (f : α → Int) : ∀ (A : List α) (v : List Int), (A.zip v).map (fun p => f p.1 - p.2) = subV (A.map f) v
  | [], v => by cases v <;> rfl
  | a :: A, [] => rfl
  | a :: A, x :: v => by
    have ih := sub_tot f A v
    unfold subV at ih ⊢
    rw [List.map_cons, List.zip_cons_cons, List.zip_cons_cons, List.map_cons, List.map_cons, ih]
theorem range_getD (V : List Int) : (List.range V.length).map (fun i => V.getD i 0) = V := by
  refine List.ext_getElem (by simp) fun i h1 h2 => ?_
  rw [List.getElem_map, List.getElem_range, gD_mem h2]
theorem okSt_St {R : List Row} {u : List Int} (h : u.length = R.length) (o : okSt R u = true) : St R u := by
  obtain ⟨a, b⟩ := okSt_two o
  unfold wrongNo at a
  unfold lack at b
  rw [List.findSome?_eq_none_iff] at a b
  have A : ∀ i, i < R.length → inB (u.getD i 0) 0 (rT R i) = true := fun i hi => by
    have z := a (u.getD i 0, i) (by
      rw [List.mem_zipIdx_iff_getElem?, List.getD_eq_getElem?_getD]
      show u[i]? = some (u[i]?.getD 0)
      rw [List.getElem?_eq_getElem (by omega)]; rfl)
    rw [← tot_eq]
    by_cases c : inB (u.getD i 0) 0 (tot R i) = true
    · exact c
    · have z : (if inB (u.getD i 0) 0 (tot R i) = true then none else some (D.tup [.int (i : Int)])) = none := z
      rw [if_neg c] at z
      cases z
  have B : ∀ i, i < R.length → 0 ≤ u.getD i 0 ∧ u.getD i 0 ≤ rT R i := fun i hi => by
    have := A i hi
    unfold inB at this
    rw [Bool.and_eq_true] at this
    exact ⟨of_decide_eq_true this.1, of_decide_eq_true this.2⟩
  refine ⟨h, fun i hi => (B i hi).1, fun i hi => (B i hi).2, fun j q i e e2 => ?_⟩
  have z := b (q, j) (mem_zip e)
  rw [lackQ_some (p := (q, j)) e2] at z
  by_cases c : u.getD j 0 < q.many * u.getD i 0
  · rw [if_pos c] at z
    cases z
  · omega
theorem over_bad {R : List Row} (K : KOk R) (X : KX R) {v : List Int} (hv : v.length = R.length) {k : Nat} (hk : k < R.length) {x : Int} (hx : (doF R v).getD k 0 < x) : okSt R (v.set k x) = false := by
  cases o : okSt R (v.set k x) with
  | false => rfl
  | true =>
    have S := okSt_St (by rw [List.length_set]; exact hv) o
    obtain ⟨_, _, h3⟩ := doF_all K v k
    rcases h3 with h3 | ⟨j, q, e1, e2, e3⟩
    · have := S.hi k hk
      rw [getD_set (by omega), if_pos rfl] at this
      omega
    · have z := S.part j q k e1 e2
      have ne : ¬ k = j := by
        rcases X j q e1 with ⟨z, _⟩ | ⟨i', g, z, z2, _⟩
        · rw [e2] at z; cases z
        · rw [e2] at z; cases z; omega
      rw [getD_set (by omega), if_pos rfl, getD_set (by omega), if_neg ne] at z
      have m := (K.many q (List.mem_of_getElem? e1)).1
      have := (Int.le_ediv_iff_mul_le (show 0 < q.many by omega)).mpr (by rw [Int.mul_comm]; exact z)
      omega
theorem up_St {R : List Row} (K : KOk R) {v : List Int} (S : St R v) {k : Nat} (hk : k < R.length) {x : Int} (h1 : v.getD k 0 ≤ x) (h2 : x ≤ (doF R v).getD k 0) : St R (v.set k x) := by
  refine later_st K S ⟨by rw [List.length_set]; exact S.len, fun i hi => ?_, fun i hi => ?_⟩
  · rw [getD_set (by rw [S.len]; exact hk)]
    split
    · rename_i c; subst c; exact h1
    · exact Int.le_refl _
  · rw [getD_set (by rw [S.len]; exact hk)]
    split
    · rename_i c; subst c; exact h2
    · exact doF_ge K S hi
theorem ints_small {R : List Row} (K : KOk R) {v : List Int} (hl : v.length = R.length) (h : ∀ i, i < R.length → 0 ≤ v.getD i 0 ∧ v.getD i 0 ≤ rT R i) : ∀ x ∈ v, x.natAbs < 10 ^ 500 := by
  intro x hx
  obtain ⟨i, hi, rfl⟩ := List.getElem_of_mem hx
  rw [gD_mem hi]
  have := h i (by omega)
  have t := (K.tot1 _ (List.getElem_mem (show i < R.length by omega))).2
  rw [← rT_of (List.getElem?_eq_getElem (show i < R.length by omega))] at t
  exact abs_60' ⟨this.1, by omega⟩
theorem two_repr (V : List Int) (hl : V.length ≤ 20) (hb : ∀ x ∈ V, x.natAbs < 10 ^ 500) : ∃ z, dRepr (.lst [.tup (V.map .int), .tup (V.map .int)]) = some (.str z) := by
  refine repr_fit ?_ ?_
  · intro d hd
    rcases List.mem_cons.mp hd with e | hd
    · subst e; exact fit_ints 62 _ hb
    rcases List.mem_cons.mp hd with e | hd
    · subst e; exact fit_ints 62 _ hb
    · cases hd
  · simp only [D.wt, D.wt.wtL, wt_ints, List.length_map]
    omega
theorem perm2 (a b : D) : perm [1, 0] [] [a, b] = [b, a] := rfl
theorem state_right_ok (n : Nat) {s : Sto} {i : Nat} {l : List Nd} (W : WOk l) (wk : WkAt s i l) {v : List Int} (S : St (kinds l) v) : cf (n + 11) 57 [.ref i, .lst ((lkinds l).map LRow.d), .tup (v.map .int)] s = .ok (.bl true) s := by
  rw [u57]
  have K := kok W
  have X := kx l
  have ln := K.len
  have LL : (lkinds l).length = (kinds l).length := ((kinds_al l).length).symm
  have lf := left_ok (n + 4) W wk v S.len (stOk S)
  have db := doable_ok (n + 4) W wk v S.len (stOk S)
  have zl : dZip ((lkinds l).map LRow.d) (v.map .int) = ((lkinds l).zip v).map fun p => D.tup [p.1.d, .int p.2] := zip_map _ _ _ _
  have okz : okL (((lkinds l).zip v).map fun p => D.tup [p.1.d, .int p.2]).length = true := okL_of (by rw [List.length_map, List.length_zip]; omega)
  have zd : ((lkinds l).zip v).map (fun p => D.int (p.1.total - p.2)) = (leftV (kinds l) v).map .int := by
    have := congrArg (List.map D.int) (sub_tot LRow.total (lkinds l) v)
    rw [List.map_map, lk_tot, ← sub_tot Row.total (kinds l) v] at this
    exact this
  obtain ⟨rst, hrst⟩ : ∃ rst, leftV (kinds l) v = rst := ⟨_, rfl⟩
  obtain ⟨can, hcan⟩ : ∃ can, doV (kinds l) v = can := ⟨_, rfl⟩
  have lr : rst.length = (kinds l).length := by rw [← hrst]; exact len_leftV S.len
  have lc : can.length = (kinds l).length := by rw [← hcan]; exact len_doV S.len
  have c0 : ∀ i, i < (kinds l).length → 0 ≤ can.getD i 0 ∧ can.getD i 0 ≤ rst.getD i 0 ∧ can.getD i 0 = (doF (kinds l) v).getD i 0 - v.getD i 0 ∧ rst.getD i 0 = rT (kinds l) i - v.getD i 0 := fun i hi => by
    have h1 := doV_get S.len i hi
    have h2 := leftV_get S.len i hi
    have h3 := doF_ge K S hi
    have h4 := (doF_all K v i).1
    rw [hcan] at h1
    rw [hrst] at h2
    omega
  rw [hrst] at lf zd
  rw [hcan] at db
  obtain ⟨z1, rp1⟩ := two_repr rst (by omega) (ints_small K lr fun i hi => by have := c0 i hi; have := S.lo i hi; omega)
  obtain ⟨z2, rp2⟩ := two_repr can (by omega) (ints_small K lc fun i hi => by have := c0 i hi; have := S.lo i hi; omega)
  have vl : ((v.length : Nat) : Int) = ((kinds l).length : Int) := by rw [S.len]
  have o62 : ok62 ((kinds l).length : Int) = true := decide_eq_true ⟨by omega, by omega⟩
  have okr : okL ((List.range (kinds l).length).map fun i : Nat => D.int (i : Int)).length = true := okL_of (by rw [List.length_map, List.length_range]; omega)
  have cr : (List.range (kinds l).length).map (fun i => D.int ((doF (kinds l) v).getD i 0 - v.getD i 0)) = can.map .int := by
    have := congrArg (List.map D.int) (range_getD can)
    rw [List.map_map, lc] at this
    rw [← this]
    refine List.map_congr_left fun i hi => ?_
    rw [← (c0 i (List.mem_range.mp hi)).2.2.1]; rfl
  simp only [B57, e_non, e_bl, e_int, e_str, e_var, e_own, e_cst, e_bin, e_neg, e_cmp, e_chn, e_one, e_and, e_or, e_not, e_ite, e_idx, e_sl, e_tup, e_lst, e_cel, e_call, e_callk, e_bi, e_mth, e_isi, e_len, e_lc, e_fmt, e_fs, e_att, e_mk, e_mkk, e_um, e_dic0, e_dget, e_rgt, es_nil, es_cons, fs_nil, fs_cons, ts_nil, ts_one, src_seq, src_rg1, src_rg2, src_rg3, src_enum, src_zip, src_rev, k_bin, k_bin2, k_neg, k_cmp, k_cmp2, k_chn, k_chn2, k_chn3, k_chn4, k_and1, k_and0, k_or1, k_or0, k_not, k_ite, k_ite1, k_ite0, k_idx, k_idx2, k_sl, k_opt, k_sl2, k_sl3, k_dget, k_dget2, k_rgt, k_tup, k_lst, k_lst5, k_cel, k_call, k_callk, k_callk2, k_bi, k_mth, k_mth1, k_mth2, k_isi, k_len, k_lc, k_lcF, k_lc2, k_lc3t, k_lc3f, k_some, k_fmt, k_fs, k_mk, k_mkk, k_mkk2, k_att, k_um, k_evs, k_cons, k_tru, k_items, k_rg1, k_rg2, k_rg2b, k_rg3, k_rg3b, k_rg3c, k_enumL, k_enumT, k_zip, k_zipTT, k_zipLL, k_zipLT, k_zipTL, k_rev, v_val, o_owd, o_own, l_some, x_ok, o_map, s_set, s_setO, s_par, s_asg, s_aug, s_app, s_seti, s_setd, s_sta, s_ex, s_ret, s_retN, s_ifs, s_lop, s_whl, s_brk, s_cnt, s_pas, s_thru, ss_nil, ss_cons, ss_frz, at_name, at_sub, at_tup, ats_nil, ats_cons, t_set, t_setO, t_par, t_par2, t_asg, t_aug, t_augA, t_augS, t_app, t_app2, t_seti, t_seti2, t_seti3, t_setd, t_setd2, t_setd3, t_sta, t_ex, t_ret, t_ifs, t_ifs1, t_ifs0, t_lop, t_ss, t_ssr, t_ssb, t_ssc, t_ats, t_frz, t_sub, t_thru, t_thrur, o_nxt, v_set0, v_setS, d_set0, d_setD, d_setL, o_bind, z_frz0, z_frzS, List.getElem?_cons_zero, List.getElem?_cons_succ, q_add, q_sub, q_lt, q_le, q_gt, q_ge, q_eq, q_ne, q_is, q_isn, q_isb, q_isnb, q_in, q_int, q_tb, q_ti, q_lenL, q_lenT, q_lenN, q_itL, q_itT, q_tupL, q_tupT, q_lstL, q_lstT, q_intI, q_intB, q_min2, q_max2, q_abs, q_repr, D.isN, decide_true, decide_false, Bool.not_true, Bool.not_false, r_ret, r_nxt, zl]
  rw [k_lc _ _ _ _ _ okz, lc_map (fun p : LRow × Int => D.tup [p.1.d, .int p.2]) (fun p => D.int (p.1.total - p.2)) ((lkinds l).zip v) fun p _ => by
    have i3 : ∀ s, dIdxS s p.1.d (.int 3) = some (.int p.1.total) := fun s => rfl
    simp only [e_non, e_bl, e_int, e_str, e_var, e_own, e_cst, e_bin, e_neg, e_cmp, e_chn, e_one, e_and, e_or, e_not, e_ite, e_idx, e_sl, e_tup, e_lst, e_cel, e_call, e_callk, e_bi, e_mth, e_isi, e_len, e_lc, e_fmt, e_fs, e_att, e_mk, e_mkk, e_um, e_dic0, e_dget, e_rgt, es_nil, es_cons, fs_nil, fs_cons, ts_nil, ts_one, src_seq, src_rg1, src_rg2, src_rg3, src_enum, src_zip, src_rev, k_bin, k_bin2, k_neg, k_cmp, k_cmp2, k_chn, k_chn2, k_chn3, k_chn4, k_and1, k_and0, k_or1, k_or0, k_not, k_ite, k_ite1, k_ite0, k_idx, k_idx2, k_sl, k_opt, k_sl2, k_sl3, k_dget, k_dget2, k_rgt, k_tup, k_lst, k_lst5, k_cel, k_call, k_callk, k_callk2, k_bi, k_mth, k_mth1, k_mth2, k_isi, k_len, k_lc, k_lcF, k_lc2, k_lc3t, k_lc3f, k_some, k_fmt, k_fs, k_mk, k_mkk, k_mkk2, k_att, k_um, k_evs, k_cons, k_tru, k_items, k_rg1, k_rg2, k_rg2b, k_rg3, k_rg3b, k_rg3c, k_enumL, k_enumT, k_zip, k_zipTT, k_zipLL, k_zipLT, k_zipTL, k_rev, v_val, o_owd, o_own, l_some, x_ok, o_map, s_set, s_setO, s_par, s_asg, s_aug, s_app, s_seti, s_setd, s_sta, s_ex, s_ret, s_retN, s_ifs, s_lop, s_whl, s_brk, s_cnt, s_pas, s_thru, ss_nil, ss_cons, ss_frz, at_name, at_sub, at_tup, ats_nil, ats_cons, t_set, t_setO, t_par, t_par2, t_asg, t_aug, t_augA, t_augS, t_app, t_app2, t_seti, t_seti2, t_seti3, t_setd, t_setd2, t_setd3, t_sta, t_ex, t_ret, t_ifs, t_ifs1, t_ifs0, t_lop, t_ss, t_ssr, t_ssb, t_ssc, t_ats, t_frz, t_sub, t_thru, t_thrur, o_nxt, v_set0, v_setS, d_set0, d_setD, d_setL, o_bind, z_frz0, z_frzS, List.getElem?_cons_zero, List.getElem?_cons_succ, q_add, q_sub, q_lt, q_le, q_gt, q_ge, q_eq, q_ne, q_is, q_isn, q_isb, q_isnb, q_in, q_int, q_tb, q_ti, q_lenL, q_lenT, q_lenN, q_itL, q_itT, q_tupL, q_tupT, q_lstL, q_lstT, q_intI, q_intB, q_min2, q_max2, q_abs, q_repr, D.isN, decide_true, decide_false, Bool.not_true, Bool.not_false, r_ret, r_nxt, wipeE, List.set, b_tup, b_cons, b_name, b_nil, i3], zd]
  simp only [e_non, e_bl, e_int, e_str, e_var, e_own, e_cst, e_bin, e_neg, e_cmp, e_chn, e_one, e_and, e_or, e_not, e_ite, e_idx, e_sl, e_tup, e_lst, e_cel, e_call, e_callk, e_bi, e_mth, e_isi, e_len, e_lc, e_fmt, e_fs, e_att, e_mk, e_mkk, e_um, e_dic0, e_dget, e_rgt, es_nil, es_cons, fs_nil, fs_cons, ts_nil, ts_one, src_seq, src_rg1, src_rg2, src_rg3, src_enum, src_zip, src_rev, k_bin, k_bin2, k_neg, k_cmp, k_cmp2, k_chn, k_chn2, k_chn3, k_chn4, k_and1, k_and0, k_or1, k_or0, k_not, k_ite, k_ite1, k_ite0, k_idx, k_idx2, k_sl, k_opt, k_sl2, k_sl3, k_dget, k_dget2, k_rgt, k_tup, k_lst, k_lst5, k_cel, k_call, k_callk, k_callk2, k_bi, k_mth, k_mth1, k_mth2, k_isi, k_len, k_lc, k_lcF, k_lc2, k_lc3t, k_lc3f, k_some, k_fmt, k_fs, k_mk, k_mkk, k_mkk2, k_att, k_um, k_evs, k_cons, k_tru, k_items, k_rg1, k_rg2, k_rg2b, k_rg3, k_rg3b, k_rg3c, k_enumL, k_enumT, k_zip, k_zipTT, k_zipLL, k_zipLT, k_zipTL, k_rev, v_val, o_owd, o_own, l_some, x_ok, o_map, s_set, s_setO, s_par, s_asg, s_aug, s_app, s_seti, s_setd, s_sta, s_ex, s_ret, s_retN, s_ifs, s_lop, s_whl, s_brk, s_cnt, s_pas, s_thru, ss_nil, ss_cons, ss_frz, at_name, at_sub, at_tup, ats_nil, ats_cons, t_set, t_setO, t_par, t_par2, t_asg, t_aug, t_augA, t_augS, t_app, t_app2, t_seti, t_seti2, t_seti3, t_setd, t_setd2, t_setd3, t_sta, t_ex, t_ret, t_ifs, t_ifs1, t_ifs0, t_lop, t_ss, t_ssr, t_ssb, t_ssc, t_ats, t_frz, t_sub, t_thru, t_thrur, o_nxt, v_set0, v_setS, d_set0, d_setD, d_setL, o_bind, z_frz0, z_frzS, List.getElem?_cons_zero, List.getElem?_cons_succ, q_add, q_sub, q_lt, q_le, q_gt, q_ge, q_eq, q_ne, q_is, q_isn, q_isb, q_isnb, q_in, q_int, q_tb, q_ti, q_lenL, q_lenT, q_lenN, q_itL, q_itT, q_tupL, q_tupT, q_lstL, q_lstT, q_intI, q_intB, q_min2, q_max2, q_abs, q_repr, D.isN, decide_true, decide_false, Bool.not_true, Bool.not_false, r_ret, r_nxt, lf, perm2, rp1, eqS_self, List.length_map, vl, o62, Int.toNat_natCast, rg_map]
  rw [k_lc _ _ _ _ _ okr, lc_map (fun i : Nat => D.int (i : Int)) (fun i => D.int ((doF (kinds l) v).getD i 0 - v.getD i 0)) (List.range (kinds l).length) fun q hq => by
    have hq := List.mem_range.mp hq
    have mo := most_ok (n + 9) W v S.len q hq s
    have x1 : ∀ s, dIdxS s (.tup (v.map .int)) (.int (q : Int)) = some (.int (v.getD q 0)) := fun s => ixI (by rw [S.len]; exact hq) s
    simp only [e_non, e_bl, e_int, e_str, e_var, e_own, e_cst, e_bin, e_neg, e_cmp, e_chn, e_one, e_and, e_or, e_not, e_ite, e_idx, e_sl, e_tup, e_lst, e_cel, e_call, e_callk, e_bi, e_mth, e_isi, e_len, e_lc, e_fmt, e_fs, e_att, e_mk, e_mkk, e_um, e_dic0, e_dget, e_rgt, es_nil, es_cons, fs_nil, fs_cons, ts_nil, ts_one, src_seq, src_rg1, src_rg2, src_rg3, src_enum, src_zip, src_rev, k_bin, k_bin2, k_neg, k_cmp, k_cmp2, k_chn, k_chn2, k_chn3, k_chn4, k_and1, k_and0, k_or1, k_or0, k_not, k_ite, k_ite1, k_ite0, k_idx, k_idx2, k_sl, k_opt, k_sl2, k_sl3, k_dget, k_dget2, k_rgt, k_tup, k_lst, k_lst5, k_cel, k_call, k_callk, k_callk2, k_bi, k_mth, k_mth1, k_mth2, k_isi, k_len, k_lc, k_lcF, k_lc2, k_lc3t, k_lc3f, k_some, k_fmt, k_fs, k_mk, k_mkk, k_mkk2, k_att, k_um, k_evs, k_cons, k_tru, k_items, k_rg1, k_rg2, k_rg2b, k_rg3, k_rg3b, k_rg3c, k_enumL, k_enumT, k_zip, k_zipTT, k_zipLL, k_zipLT, k_zipTL, k_rev, v_val, o_owd, o_own, l_some, x_ok, o_map, s_set, s_setO, s_par, s_asg, s_aug, s_app, s_seti, s_setd, s_sta, s_ex, s_ret, s_retN, s_ifs, s_lop, s_whl, s_brk, s_cnt, s_pas, s_thru, ss_nil, ss_cons, ss_frz, at_name, at_sub, at_tup, ats_nil, ats_cons, t_set, t_setO, t_par, t_par2, t_asg, t_aug, t_augA, t_augS, t_app, t_app2, t_seti, t_seti2, t_seti3, t_setd, t_setd2, t_setd3, t_sta, t_ex, t_ret, t_ifs, t_ifs1, t_ifs0, t_lop, t_ss, t_ssr, t_ssb, t_ssc, t_ats, t_frz, t_sub, t_thru, t_thrur, o_nxt, v_set0, v_setS, d_set0, d_setD, d_setL, o_bind, z_frz0, z_frzS, List.getElem?_cons_zero, List.getElem?_cons_succ, q_add, q_sub, q_lt, q_le, q_gt, q_ge, q_eq, q_ne, q_is, q_isn, q_isb, q_isnb, q_in, q_int, q_tb, q_ti, q_lenL, q_lenT, q_lenN, q_itL, q_itT, q_tupL, q_tupT, q_lstL, q_lstT, q_intI, q_intB, q_min2, q_max2, q_abs, q_repr, D.isN, decide_true, decide_false, Bool.not_true, Bool.not_false, r_ret, r_nxt, wipeE, List.set, b_name, mo, x1], cr]
  simp only [e_non, e_bl, e_int, e_str, e_var, e_own, e_cst, e_bin, e_neg, e_cmp, e_chn, e_one, e_and, e_or, e_not, e_ite, e_idx, e_sl, e_tup, e_lst, e_cel, e_call, e_callk, e_bi, e_mth, e_isi, e_len, e_lc, e_fmt, e_fs, e_att, e_mk, e_mkk, e_um, e_dic0, e_dget, e_rgt, es_nil, es_cons, fs_nil, fs_cons, ts_nil, ts_one, src_seq, src_rg1, src_rg2, src_rg3, src_enum, src_zip, src_rev, k_bin, k_bin2, k_neg, k_cmp, k_cmp2, k_chn, k_chn2, k_chn3, k_chn4, k_and1, k_and0, k_or1, k_or0, k_not, k_ite, k_ite1, k_ite0, k_idx, k_idx2, k_sl, k_opt, k_sl2, k_sl3, k_dget, k_dget2, k_rgt, k_tup, k_lst, k_lst5, k_cel, k_call, k_callk, k_callk2, k_bi, k_mth, k_mth1, k_mth2, k_isi, k_len, k_lc, k_lcF, k_lc2, k_lc3t, k_lc3f, k_some, k_fmt, k_fs, k_mk, k_mkk, k_mkk2, k_att, k_um, k_evs, k_cons, k_tru, k_items, k_rg1, k_rg2, k_rg2b, k_rg3, k_rg3b, k_rg3c, k_enumL, k_enumT, k_zip, k_zipTT, k_zipLL, k_zipLT, k_zipTL, k_rev, v_val, o_owd, o_own, l_some, x_ok, o_map, s_set, s_setO, s_par, s_asg, s_aug, s_app, s_seti, s_setd, s_sta, s_ex, s_ret, s_retN, s_ifs, s_lop, s_whl, s_brk, s_cnt, s_pas, s_thru, ss_nil, ss_cons, ss_frz, at_name, at_sub, at_tup, ats_nil, ats_cons, t_set, t_setO, t_par, t_par2, t_asg, t_aug, t_augA, t_augS, t_app, t_app2, t_seti, t_seti2, t_seti3, t_setd, t_setd2, t_setd3, t_sta, t_ex, t_ret, t_ifs, t_ifs1, t_ifs0, t_lop, t_ss, t_ssr, t_ssb, t_ssc, t_ats, t_frz, t_sub, t_thru, t_thrur, o_nxt, v_set0, v_setS, d_set0, d_setD, d_setL, o_bind, z_frz0, z_frzS, List.getElem?_cons_zero, List.getElem?_cons_succ, q_add, q_sub, q_lt, q_le, q_gt, q_ge, q_eq, q_ne, q_is, q_isn, q_isb, q_isnb, q_in, q_int, q_tb, q_ti, q_lenL, q_lenT, q_lenN, q_itL, q_itT, q_tupL, q_tupT, q_lstL, q_lstT, q_intI, q_intB, q_min2, q_max2, q_abs, q_repr, D.isN, decide_true, decide_false, Bool.not_true, Bool.not_false, r_ret, r_nxt, db, perm2, rp2, eqS_self, List.length_map, vl, o62, Int.toNat_natCast, rg_map]
  obtain ⟨env', s', e, q⟩ := lop_inv (t := .name 4) (f := evSs G0 (cf (n + 10)) (mf (n + 10)) (.cons (.set 5 (.bin .Add (.bin .Add (.sl (.var 2) .nil (.cons (.var 4) .nil)) (.tup (.cons (.bin .Add (.idx (.var 2) (.var 4)) (.idx (.var 3) (.var 4))) .nil))) (.sl (.var 2) (.cons (.bin .Add (.var 4) (.int 1)) .nil) .nil))) (.cons (.set 6 (.bin .Add (.bin .Add (.sl (.var 2) .nil (.cons (.var 4) .nil)) (.tup (.cons (.bin .Add (.bin .Add (.idx (.var 2) (.var 4)) (.idx (.var 3) (.var 4))) (.int 1)) .nil))) (.sl (.var 2) (.cons (.bin .Add (.var 4) (.int 1)) .nil) .nil))) (.cons (.ifs (.or (.cmp .IsNot (.call 9 (.cons (.var 0) (.cons (.var 5) .nil))) (.bl true)) (.one (.cmp .IsNot (.call 9 (.cons (.var 0) (.cons (.var 6) .nil))) (.bl false)))) (.cons (.ret (.bl false)) .nil) .nil) .nil))))
    (fun ds env s' => ∃ (rs : List Nat) (e4 e5 e6 : Sl), ds = rs.map (fun i : Nat => D.int (i : Int)) ∧ (∀ q ∈ rs, q < (kinds l).length) ∧ env = [.val (.ref i), .val (.lst ((lkinds l).map LRow.d)), .val (.tup (v.map .int)), .val (.tup (can.map .int)), e4, e5, e6, .und, .und] ∧ s' = s)
    (fun d ds env s' hp => by
      obtain ⟨rs, e4, e5, e6, h1, h2, rfl, rfl⟩ := hp
      cases rs with
      | nil => cases h1
      | cons q rs =>
        cases h1
        have hq := h2 q (List.mem_cons_self ..)
        have hqv : q < v.length := by rw [S.len]; exact hq
        have c := c0 q hq
        have x1 : ∀ s, dIdxS s (.tup (v.map .int)) (.int (q : Int)) = some (.int (v.getD q 0)) := fun s => ixI hqv s
        have x2 : ∀ s, dIdxS s (.tup (can.map .int)) (.int (q : Int)) = some (.int (can.getD q 0)) := fun s => ixI (by omega) s
        have s1 := slT_to v q
        have s2 := slT_from v q
        have lt : (v.take q).length ≤ 20 := by rw [List.length_take]; omega
        have ld : (v.drop (q + 1)).length ≤ 20 := by rw [List.length_drop]; have := S.len; omega
        have a1 : ∀ x, dBin .Add (.tup ((v.take q).map .int)) (.tup [.int x]) = some (.tup ((v.take q ++ [x]).map .int)) := fun x => addI1 _ x (by omega)
        have a2 : ∀ x : Int, dBin .Add (.tup ((v.take q ++ [x]).map .int)) (.tup ((v.drop (q + 1)).map .int)) = some (.tup ((v.set q x).map .int)) := fun x => by
          rw [addII _ _ (by rw [List.length_append]; show _ + 1 ≤ _; omega) (by omega), List.set_eq_take_append_cons_drop, if_pos hqv, List.append_assoc]; rfl
        have k1 := is_state_ok (n + 5) W wk (v.set q (v.getD q 0 + can.getD q 0)) (by rw [List.length_set]; exact S.len)
        rw [stOk (up_St K S hq (by omega) (by omega))] at k1
        have k2 := is_state_ok (n + 5) W wk (v.set q (v.getD q 0 + can.getD q 0 + 1)) (by rw [List.length_set]; exact S.len)
        rw [over_bad K X S.len hq (by omega)] at k2
        refine ⟨[.val (.ref i), .val (.lst ((lkinds l).map LRow.d)), .val (.tup (v.map .int)), .val (.tup (can.map .int)), .val (.int (q : Int)), e5, e6, .und, .und], [.val (.ref i), .val (.lst ((lkinds l).map LRow.d)), .val (.tup (v.map .int)), .val (.tup (can.map .int)), .val (.int (q : Int)), .val (.tup ((v.set q (v.getD q 0 + can.getD q 0)).map .int)), .val (.tup ((v.set q (v.getD q 0 + can.getD q 0 + 1)).map .int)), .und, .und], s', by simp only [b_name, e_non, e_bl, e_int, e_str, e_var, e_own, e_cst, e_bin, e_neg, e_cmp, e_chn, e_one, e_and, e_or, e_not, e_ite, e_idx, e_sl, e_tup, e_lst, e_cel, e_call, e_callk, e_bi, e_mth, e_isi, e_len, e_lc, e_fmt, e_fs, e_att, e_mk, e_mkk, e_um, e_dic0, e_dget, e_rgt, es_nil, es_cons, fs_nil, fs_cons, ts_nil, ts_one, src_seq, src_rg1, src_rg2, src_rg3, src_enum, src_zip, src_rev, k_bin, k_bin2, k_neg, k_cmp, k_cmp2, k_chn, k_chn2, k_chn3, k_chn4, k_and1, k_and0, k_or1, k_or0, k_not, k_ite, k_ite1, k_ite0, k_idx, k_idx2, k_sl, k_opt, k_sl2, k_sl3, k_dget, k_dget2, k_rgt, k_tup, k_lst, k_lst5, k_cel, k_call, k_callk, k_callk2, k_bi, k_mth, k_mth1, k_mth2, k_isi, k_len, k_lc, k_lcF, k_lc2, k_lc3t, k_lc3f, k_some, k_fmt, k_fs, k_mk, k_mkk, k_mkk2, k_att, k_um, k_evs, k_cons, k_tru, k_items, k_rg1, k_rg2, k_rg2b, k_rg3, k_rg3b, k_rg3c, k_enumL, k_enumT, k_zip, k_zipTT, k_zipLL, k_zipLT, k_zipTL, k_rev, v_val, o_owd, o_own, l_some, x_ok, o_map, s_set, s_setO, s_par, s_asg, s_aug, s_app, s_seti, s_setd, s_sta, s_ex, s_ret, s_retN, s_ifs, s_lop, s_whl, s_brk, s_cnt, s_pas, s_thru, ss_nil, ss_cons, ss_frz, at_name, at_sub, at_tup, ats_nil, ats_cons, t_set, t_setO, t_par, t_par2, t_asg, t_aug, t_augA, t_augS, t_app, t_app2, t_seti, t_seti2, t_seti3, t_setd, t_setd2, t_setd3, t_sta, t_ex, t_ret, t_ifs, t_ifs1, t_ifs0, t_lop, t_ss, t_ssr, t_ssb, t_ssc, t_ats, t_frz, t_sub, t_thru, t_thrur, o_nxt, v_set0, v_setS, d_set0, d_setD, d_setL, o_bind, z_frz0, z_frzS, List.getElem?_cons_zero, List.getElem?_cons_succ], ?_, rs, _, _, _, rfl, fun x hx => h2 x (List.mem_cons_of_mem _ hx), rfl, rfl⟩
        simp only [e_non, e_bl, e_int, e_str, e_var, e_own, e_cst, e_bin, e_neg, e_cmp, e_chn, e_one, e_and, e_or, e_not, e_ite, e_idx, e_sl, e_tup, e_lst, e_cel, e_call, e_callk, e_bi, e_mth, e_isi, e_len, e_lc, e_fmt, e_fs, e_att, e_mk, e_mkk, e_um, e_dic0, e_dget, e_rgt, es_nil, es_cons, fs_nil, fs_cons, ts_nil, ts_one, src_seq, src_rg1, src_rg2, src_rg3, src_enum, src_zip, src_rev, k_bin, k_bin2, k_neg, k_cmp, k_cmp2, k_chn, k_chn2, k_chn3, k_chn4, k_and1, k_and0, k_or1, k_or0, k_not, k_ite, k_ite1, k_ite0, k_idx, k_idx2, k_sl, k_opt, k_sl2, k_sl3, k_dget, k_dget2, k_rgt, k_tup, k_lst, k_lst5, k_cel, k_call, k_callk, k_callk2, k_bi, k_mth, k_mth1, k_mth2, k_isi, k_len, k_lc, k_lcF, k_lc2, k_lc3t, k_lc3f, k_some, k_fmt, k_fs, k_mk, k_mkk, k_mkk2, k_att, k_um, k_evs, k_cons, k_tru, k_items, k_rg1, k_rg2, k_rg2b, k_rg3, k_rg3b, k_rg3c, k_enumL, k_enumT, k_zip, k_zipTT, k_zipLL, k_zipLT, k_zipTL, k_rev, v_val, o_owd, o_own, l_some, x_ok, o_map, s_set, s_setO, s_par, s_asg, s_aug, s_app, s_seti, s_setd, s_sta, s_ex, s_ret, s_retN, s_ifs, s_lop, s_whl, s_brk, s_cnt, s_pas, s_thru, ss_nil, ss_cons, ss_frz, at_name, at_sub, at_tup, ats_nil, ats_cons, t_set, t_setO, t_par, t_par2, t_asg, t_aug, t_augA, t_augS, t_app, t_app2, t_seti, t_seti2, t_seti3, t_setd, t_setd2, t_setd3, t_sta, t_ex, t_ret, t_ifs, t_ifs1, t_ifs0, t_lop, t_ss, t_ssr, t_ssb, t_ssc, t_ats, t_frz, t_sub, t_thru, t_thrur, o_nxt, v_set0, v_setS, d_set0, d_setD, d_setL, o_bind, z_frz0, z_frzS, List.getElem?_cons_zero, List.getElem?_cons_succ, q_add, q_sub, q_lt, q_le, q_gt, q_ge, q_eq, q_ne, q_is, q_isn, q_isb, q_isnb, q_in, q_int, q_tb, q_ti, q_lenL, q_lenT, q_lenN, q_itL, q_itT, q_tupL, q_tupT, q_lstL, q_lstT, q_intI, q_intB, q_min2, q_max2, q_abs, q_repr, D.isN, decide_true, decide_false, Bool.not_true, Bool.not_false, r_ret, r_nxt, optI, s1, s2, x1, x2, a1, a2, k1, k2])
    ((List.range (kinds l).length).map fun i : Nat => D.int (i : Int)) [.val (.ref i), .val (.lst ((lkinds l).map LRow.d)), .val (.tup (v.map .int)), .val (.tup (can.map .int)), .und, .und, .und, .und, .und] s ⟨_, _, _, _, rfl, fun q hq => List.mem_range.mp hq, rfl, rfl⟩
  obtain ⟨rs, e4, e5, e6, h1, h2, rfl, rfl⟩ := q
  rw [e]
  simp only [e_non, e_bl, e_int, e_str, e_var, e_own, e_cst, e_bin, e_neg, e_cmp, e_chn, e_one, e_and, e_or, e_not, e_ite, e_idx, e_sl, e_tup, e_lst, e_cel, e_call, e_callk, e_bi, e_mth, e_isi, e_len, e_lc, e_fmt, e_fs, e_att, e_mk, e_mkk, e_um, e_dic0, e_dget, e_rgt, es_nil, es_cons, fs_nil, fs_cons, ts_nil, ts_one, src_seq, src_rg1, src_rg2, src_rg3, src_enum, src_zip, src_rev, k_bin, k_bin2, k_neg, k_cmp, k_cmp2, k_chn, k_chn2, k_chn3, k_chn4, k_and1, k_and0, k_or1, k_or0, k_not, k_ite, k_ite1, k_ite0, k_idx, k_idx2, k_sl, k_opt, k_sl2, k_sl3, k_dget, k_dget2, k_rgt, k_tup, k_lst, k_lst5, k_cel, k_call, k_callk, k_callk2, k_bi, k_mth, k_mth1, k_mth2, k_isi, k_len, k_lc, k_lcF, k_lc2, k_lc3t, k_lc3f, k_some, k_fmt, k_fs, k_mk, k_mkk, k_mkk2, k_att, k_um, k_evs, k_cons, k_tru, k_items, k_rg1, k_rg2, k_rg2b, k_rg3, k_rg3b, k_rg3c, k_enumL, k_enumT, k_zip, k_zipTT, k_zipLL, k_zipLT, k_zipTL, k_rev, v_val, o_owd, o_own, l_some, x_ok, o_map, s_set, s_setO, s_par, s_asg, s_aug, s_app, s_seti, s_setd, s_sta, s_ex, s_ret, s_retN, s_ifs, s_lop, s_whl, s_brk, s_cnt, s_pas, s_thru, ss_nil, ss_cons, ss_frz, at_name, at_sub, at_tup, ats_nil, ats_cons, t_set, t_setO, t_par, t_par2, t_asg, t_aug, t_augA, t_augS, t_app, t_app2, t_seti, t_seti2, t_seti3, t_setd, t_setd2, t_setd3, t_sta, t_ex, t_ret, t_ifs, t_ifs1, t_ifs0, t_lop, t_ss, t_ssr, t_ssb, t_ssc, t_ats, t_frz, t_sub, t_thru, t_thrur, o_nxt, v_set0, v_setS, d_set0, d_setD, d_setL, o_bind, z_frz0, z_frzS, List.getElem?_cons_zero, List.getElem?_cons_succ, q_add, q_sub, q_lt, q_le, q_gt, q_ge, q_eq, q_ne, q_is, q_isn, q_isb, q_isnb, q_in, q_int, q_tb, q_ti, q_lenL, q_lenT, q_lenN, q_itL, q_itT, q_tupL, q_tupT, q_lstL, q_lstT, q_intI, q_intB, q_min2, q_max2, q_abs, q_repr, D.isN, decide_true, decide_false, Bool.not_true, Bool.not_false, r_ret, r_nxt]
end Lk16
set_option Elab.async false
set_option linter.all false
set_option maxRecDepth 100000
set_option maxHeartbeats 4000000
set_option exponentiation.threshold 2000
/-! k16: the law's end -/
namespace Lk16
open Lv PySem
theorem wk_at {s0 s : Sto} {r i k : Nat} {l : List Nd} (a : At s0 r k s) (w : WkAt s0 i l) (h : i ≠ r) : WkAt s i l := by
  obtain ⟨c, rfl⟩ := a.set
  exact (List.getElem?_set_ne (fun e => h e.symm)).trans w
theorem jug_app {s : Sto} {r k : Nat} {c : Cell} (j : JugAt s r k) : JugAt (s ++ [c]) r k := by
  obtain ⟨a, b, d, h, q⟩ := j.ex
  exact ⟨a, b, d, by rw [List.getElem?_append_left (lt_of_get h)]; exact h, q⟩
theorem rep0 (n i : Nat) : (List.replicate n (0 : Int)).getD i 0 = 0 := by
  rw [List.getD_eq_getElem?_getD, List.getElem?_replicate]
  split <;> rfl
theorem zero_St {R : List Row} (K : KOk R) : St R (List.replicate R.length (0 : Int)) := by
  refine ⟨List.length_replicate, fun i hi => by rw [rep0]; exact Int.le_refl _, fun i hi => ?_, fun j q i e e2 => by rw [rep0, rep0, Int.mul_zero]; exact Int.le_refl _⟩
  rw [rep0]
  have := rT_pos K hi
  omega
theorem full_St {R : List Row} (K : KOk R) (X : KX R) : St R (R.map Row.total) := by
  refine ⟨List.length_map .., fun i hi => ?_, fun i hi => Int.le_refl _, fun j q i e e2 => ?_⟩
  · have := rT_pos K hi
    unfold rT at this
    omega
  · show q.many * rT R i ≤ rT R j
    rw [rT_of e]
    rcases X j q e with ⟨z, _⟩ | ⟨i', g, z, z2, z3, _, z5⟩
    · rw [e2] at z; cases z
    · rw [e2] at z
      cases z
      rw [rT_of z3, z5, Int.mul_comm]; exact Int.le_refl _
def tI (v : List Int) : D := .tup (v.map .int)
theorem f2_tI {α : Type} {P : List Int → Prop} {l : List α} {ys : List D} (h : Lv.F2 (fun _ y => ∃ v, y = tI v ∧ P v) l ys) : ∃ Vs : List (List Int), ys = Vs.map tI ∧ ∀ v ∈ Vs, P v := by
  induction h with
  | nil => exact ⟨[], rfl, fun v hv => nomatch hv⟩
  | cons p _ ih =>
    obtain ⟨v, rfl, hv⟩ := p
    obtain ⟨Vs, rfl, hVs⟩ := ih
    exact ⟨v :: Vs, rfl, fun x hx => by
      rcases List.mem_cons.mp hx with rfl | hx
      · exact hv
      · exact hVs x hx⟩
theorem pages_ok (n : Nat) {s : Sto} {i : Nat} {l : List Nd} (W : WOk l) (wk : WkAt s i l) (Vs : List (List Int)) (h : ∀ v ∈ Vs, St (kinds l) v) (e0 e1 e2 e4 e6 e7 e8 : Sl) : ∃ e4', lopGo (.name 4) (evSs G0 (cf (n + 30)) (mf (n + 30)) (.cons (.ifs (.not (.call 57 (.cons (.var 5) (.cons (.var 3) (.cons (.var 4) .nil))))) (.cons (.ret (.bl false)) .nil) .nil) .nil)) (Vs.map tI) [e0, e1, e2, .val (.lst ((lkinds l).map LRow.d)), e4, .val (.ref i), e6, e7, e8] s = .nxt [e0, e1, e2, .val (.lst ((lkinds l).map LRow.d)), e4', .val (.ref i), e6, e7, e8] s := by
  obtain ⟨env', s', e, q⟩ := lop_inv (t := .name 4) (f := evSs G0 (cf (n + 30)) (mf (n + 30)) (.cons (.ifs (.not (.call 57 (.cons (.var 5) (.cons (.var 3) (.cons (.var 4) .nil))))) (.cons (.ret (.bl false)) .nil) .nil) .nil))
    (fun ds env s' => ∃ (rs : List (List Int)) (e4 : Sl), ds = rs.map tI ∧ (∀ v ∈ rs, St (kinds l) v) ∧ env = [e0, e1, e2, .val (.lst ((lkinds l).map LRow.d)), e4, .val (.ref i), e6, e7, e8] ∧ s' = s)
    (fun d ds env s' hp => by
      obtain ⟨rs, e4, h1, h2, rfl, rfl⟩ := hp
      cases rs with
      | nil => cases h1
      | cons v rs =>
        cases h1
        have sr := state_right_ok (n + 19) W wk (h2 v (List.mem_cons_self ..))
        refine ⟨[e0, e1, e2, .val (.lst ((lkinds l).map LRow.d)), .val (tI v), .val (.ref i), e6, e7, e8], [e0, e1, e2, .val (.lst ((lkinds l).map LRow.d)), .val (tI v), .val (.ref i), e6, e7, e8], s', by simp only [b_name, e_non, e_bl, e_int, e_str, e_var, e_own, e_cst, e_bin, e_neg, e_cmp, e_chn, e_one, e_and, e_or, e_not, e_ite, e_idx, e_sl, e_tup, e_lst, e_cel, e_call, e_callk, e_bi, e_mth, e_isi, e_len, e_lc, e_fmt, e_fs, e_att, e_mk, e_mkk, e_um, e_dic0, e_dget, e_rgt, es_nil, es_cons, fs_nil, fs_cons, ts_nil, ts_one, src_seq, src_rg1, src_rg2, src_rg3, src_enum, src_zip, src_rev, k_bin, k_bin2, k_neg, k_cmp, k_cmp2, k_chn, k_chn2, k_chn3, k_chn4, k_and1, k_and0, k_or1, k_or0, k_not, k_ite, k_ite1, k_ite0, k_idx, k_idx2, k_sl, k_opt, k_sl2, k_sl3, k_dget, k_dget2, k_rgt, k_tup, k_lst, k_lst5, k_cel, k_call, k_callk, k_callk2, k_bi, k_mth, k_mth1, k_mth2, k_isi, k_len, k_lc, k_lcF, k_lc2, k_lc3t, k_lc3f, k_some, k_fmt, k_fs, k_mk, k_mkk, k_mkk2, k_att, k_um, k_evs, k_cons, k_tru, k_items, k_rg1, k_rg2, k_rg2b, k_rg3, k_rg3b, k_rg3c, k_enumL, k_enumT, k_zip, k_zipTT, k_zipLL, k_zipLT, k_zipTL, k_rev, v_val, o_owd, o_own, l_some, x_ok, o_map, s_set, s_setO, s_par, s_asg, s_aug, s_app, s_seti, s_setd, s_sta, s_ex, s_ret, s_retN, s_ifs, s_lop, s_whl, s_brk, s_cnt, s_pas, s_thru, ss_nil, ss_cons, ss_frz, at_name, at_sub, at_tup, ats_nil, ats_cons, t_set, t_setO, t_par, t_par2, t_asg, t_aug, t_augA, t_augS, t_app, t_app2, t_seti, t_seti2, t_seti3, t_setd, t_setd2, t_setd3, t_sta, t_ex, t_ret, t_ifs, t_ifs1, t_ifs0, t_lop, t_ss, t_ssr, t_ssb, t_ssc, t_ats, t_frz, t_sub, t_thru, t_thrur, o_nxt, v_set0, v_setS, d_set0, d_setD, d_setL, o_bind, z_frz0, z_frzS, List.getElem?_cons_zero, List.getElem?_cons_succ], ?_, rs, _, rfl, fun x hx => h2 x (List.mem_cons_of_mem _ hx), rfl, rfl⟩
        unfold tI
        simp only [e_non, e_bl, e_int, e_str, e_var, e_own, e_cst, e_bin, e_neg, e_cmp, e_chn, e_one, e_and, e_or, e_not, e_ite, e_idx, e_sl, e_tup, e_lst, e_cel, e_call, e_callk, e_bi, e_mth, e_isi, e_len, e_lc, e_fmt, e_fs, e_att, e_mk, e_mkk, e_um, e_dic0, e_dget, e_rgt, es_nil, es_cons, fs_nil, fs_cons, ts_nil, ts_one, src_seq, src_rg1, src_rg2, src_rg3, src_enum, src_zip, src_rev, k_bin, k_bin2, k_neg, k_cmp, k_cmp2, k_chn, k_chn2, k_chn3, k_chn4, k_and1, k_and0, k_or1, k_or0, k_not, k_ite, k_ite1, k_ite0, k_idx, k_idx2, k_sl, k_opt, k_sl2, k_sl3, k_dget, k_dget2, k_rgt, k_tup, k_lst, k_lst5, k_cel, k_call, k_callk, k_callk2, k_bi, k_mth, k_mth1, k_mth2, k_isi, k_len, k_lc, k_lcF, k_lc2, k_lc3t, k_lc3f, k_some, k_fmt, k_fs, k_mk, k_mkk, k_mkk2, k_att, k_um, k_evs, k_cons, k_tru, k_items, k_rg1, k_rg2, k_rg2b, k_rg3, k_rg3b, k_rg3c, k_enumL, k_enumT, k_zip, k_zipTT, k_zipLL, k_zipLT, k_zipTL, k_rev, v_val, o_owd, o_own, l_some, x_ok, o_map, s_set, s_setO, s_par, s_asg, s_aug, s_app, s_seti, s_setd, s_sta, s_ex, s_ret, s_retN, s_ifs, s_lop, s_whl, s_brk, s_cnt, s_pas, s_thru, ss_nil, ss_cons, ss_frz, at_name, at_sub, at_tup, ats_nil, ats_cons, t_set, t_setO, t_par, t_par2, t_asg, t_aug, t_augA, t_augS, t_app, t_app2, t_seti, t_seti2, t_seti3, t_setd, t_setd2, t_setd3, t_sta, t_ex, t_ret, t_ifs, t_ifs1, t_ifs0, t_lop, t_ss, t_ssr, t_ssb, t_ssc, t_ats, t_frz, t_sub, t_thru, t_thrur, o_nxt, v_set0, v_setS, d_set0, d_setD, d_setL, o_bind, z_frz0, z_frzS, List.getElem?_cons_zero, List.getElem?_cons_succ, q_add, q_sub, q_lt, q_le, q_gt, q_ge, q_eq, q_ne, q_is, q_isn, q_isb, q_isnb, q_in, q_int, q_tb, q_ti, q_lenL, q_lenT, q_lenN, q_itL, q_itT, q_tupL, q_tupT, q_lstL, q_lstT, q_intI, q_intB, q_min2, q_max2, q_abs, q_repr, D.isN, decide_true, decide_false, Bool.not_true, Bool.not_false, r_ret, r_nxt, sr])
    (Vs.map tI) [e0, e1, e2, .val (.lst ((lkinds l).map LRow.d)), e4, .val (.ref i), e6, e7, e8] s ⟨_, _, rfl, h, rfl, rfl⟩
  obtain ⟨rs, e4', h1, h2, rfl, rfl⟩ := q
  exact ⟨_, e⟩
theorem right_ok (n : Nat) {s : Sto} {r : Nat} (j : JugAt s r 0) : ∃ s', cf (n + 31) 55 [.ref r] s = .ok (.bl true) s' := by
  rw [u55]
  have pw : dBin .Pow (.int 10) (.int 60) = some (.int 1000000000000000000000000000000000000000000000000000000000000) := rfl
  have o62 : ok62 2 = true := rfl
  have o4 : ok62 4 = true := rfl
  simp only [B55, e_non, e_bl, e_int, e_str, e_var, e_own, e_cst, e_bin, e_neg, e_cmp, e_chn, e_one, e_and, e_or, e_not, e_ite, e_idx, e_sl, e_tup, e_lst, e_cel, e_call, e_callk, e_bi, e_mth, e_isi, e_len, e_lc, e_fmt, e_fs, e_att, e_mk, e_mkk, e_um, e_dic0, e_dget, e_rgt, es_nil, es_cons, fs_nil, fs_cons, ts_nil, ts_one, src_seq, src_rg1, src_rg2, src_rg3, src_enum, src_zip, src_rev, k_bin, k_bin2, k_neg, k_cmp, k_cmp2, k_chn, k_chn2, k_chn3, k_chn4, k_and1, k_and0, k_or1, k_or0, k_not, k_ite, k_ite1, k_ite0, k_idx, k_idx2, k_sl, k_opt, k_sl2, k_sl3, k_dget, k_dget2, k_rgt, k_tup, k_lst, k_lst5, k_cel, k_call, k_callk, k_callk2, k_bi, k_mth, k_mth1, k_mth2, k_isi, k_len, k_lc, k_lcF, k_lc2, k_lc3t, k_lc3f, k_some, k_fmt, k_fs, k_mk, k_mkk, k_mkk2, k_att, k_um, k_evs, k_cons, k_tru, k_items, k_rg1, k_rg2, k_rg2b, k_rg3, k_rg3b, k_rg3c, k_enumL, k_enumT, k_zip, k_zipTT, k_zipLL, k_zipLT, k_zipTL, k_rev, v_val, o_owd, o_own, l_some, x_ok, o_map, s_set, s_setO, s_par, s_asg, s_aug, s_app, s_seti, s_setd, s_sta, s_ex, s_ret, s_retN, s_ifs, s_lop, s_whl, s_brk, s_cnt, s_pas, s_thru, ss_nil, ss_cons, ss_frz, at_name, at_sub, at_tup, ats_nil, ats_cons, t_set, t_setO, t_par, t_par2, t_asg, t_aug, t_augA, t_augS, t_app, t_app2, t_seti, t_seti2, t_seti3, t_setd, t_setd2, t_setd3, t_sta, t_ex, t_ret, t_ifs, t_ifs1, t_ifs0, t_lop, t_ss, t_ssr, t_ssb, t_ssc, t_ats, t_frz, t_sub, t_thru, t_thrur, o_nxt, v_set0, v_setS, d_set0, d_setD, d_setL, o_bind, z_frz0, z_frzS, List.getElem?_cons_zero, List.getElem?_cons_succ, o62]
  have go := lop_inv (t := .name 1) (f := evSs G0 (cf (n + 30)) (mf (n + 30)) (.cons (.set 2 (.call 41 (.cons (.var 0) (.cons (.int 9) (.cons (.var 1) .nil))))) (.cons (.set 3 (.call 44 (.cons (.var 2) (.cons (.int 1) (.cons (.int 1) (.cons .non .nil)))))) (.cons (.ifs (.cmp .LtE (.bi .sum (.cons (.lc (.seq (.var 3)) (.name 7) .nil (.idx (.var 7) (.int 3)) [7]) .nil)) (.bin .Pow (.int 10) (.int 60))) (.cons (.par 5 6 (.mk 0 (.cons (.var 2) .nil)) (.lst (.cons (.bin .Mult (.tup (.cons (.int 0) .nil)) (.bi .len (.cons (.var 3) .nil))) (.cons (.bi .tuple (.cons (.lc (.seq (.var 3)) (.name 7) .nil (.idx (.var 7) (.int 3)) [7]) .nil)) .nil))) false false) (.cons (.lop (.seq (.bin .Add (.var 6) (.lc (.rg1 (.int 4)) (.name 8) .nil (.call 56 (.cons (.var 0) (.cons (.var 3) .nil))) [8]))) (.name 4) (.cons (.ifs (.not (.call 57 (.cons (.var 5) (.cons (.var 3) (.cons (.var 4) .nil))))) (.cons (.ret (.bl false)) .nil) .nil) .nil)) .nil)) .nil) .nil))))
    (fun ds env s => ∃ (L : List Int) (j : Nat) (e1 e2 e3 e4 e5 e6 e7 e8 : Sl), ds = L.map .int ∧ env = [.val (.ref r), e1, e2, e3, e4, e5, e6, e7, e8] ∧ JugAt s r j ∧ j + 2000 * L.length ≤ 10000)
    (fun d ds env s hp => by
      obtain ⟨L, j, e1, e2, e3, e4, e5, e6, e7, e8, h1, rfl, J, hj⟩ := hp
      cases L with
      | nil => cases h1
      | cons w L =>
        cases h1
        rw [List.length_cons] at hj
        obtain ⟨l, s1, et, z1, z2, z3, z4, a1⟩ := trunks_ok (n + 27) (At.start J) (by omega) 9 (by decide) (by decide) w
        have et' : cf (n + 30) 41 [.ref r, .int 9, .int w] s = .ok (.tup (dNs l)) s1 := et
        have nok : ∀ b ∈ preL l, NdOk b := fun b hb => (z4 b hb).1
        have lk := lkinds_ok (n + 9) l s1 (by omega) nok
        have okl : okL ((lkinds l).map LRow.d).length = true := okL_of (by
          rw [List.length_map]
          unfold lkinds
          rw [lrL_len]
          omega)
        have sm := q_sumL LRow.total (lkinds l)
        rw [lk_tot] at sm
        by_cases c : ((kinds l).map Row.total).sum ≤ 1000000000000000000000000000000000000000000000000000000000000
        · have W : WOk l := ⟨nok, by omega, (by intro h; rw [h] at z1; exact absurd z1 (by decide)), z3, c⟩
          have K := kok W
          have ln := K.len
          have LL : (lkinds l).length = (kinds l).length := ((kinds_al l).length).symm
          have mk := mk_ok (n + 7) l s1 W
          have wk : WkAt (s1 ++ [wkC l]) s1.length l := get_last _ _
          have lr := a1.jug.lt
          have a2 := At.start (jug_app (c := wkC l) a1.jug)
          have mu := q_mulT 0 (kinds l).length (by omega)
          have tl : (lkinds l).map (fun r => D.int r.total) = ((kinds l).map Row.total).map .int := by rw [← lk_tot, List.map_map]; rfl
          have okr : okL ((List.range 4).map fun i : Nat => D.int (i : Int)).length = true := rfl
          obtain ⟨ys, s3, es, ps, a3⟩ := lc_ex (f := lcF G0 (cf (n + 30)) (mf (n + 30)) (.name 8) .nil (.call 56 (.cons (.var 0) (.cons (.var 3) .nil))) [8] [.val (.ref r), .val (.int w), .val (.tup (dNs l)), .val (.lst ((lkinds l).map LRow.d)), e4, .val (.ref s1.length), .val (.lst [.tup ((List.replicate (kinds l).length (0 : Int)).map .int), .tup (((kinds l).map Row.total).map .int)]), e7, e8]) (fun q s => At (s1 ++ [wkC l]) r (j + 100 + 40 * q) s) (fun (_ : Nat) y => ∃ v, y = tI v ∧ St (kinds l) v) (fun i : Nat => D.int (i : Int)) 4 (List.range 4) 0 (s1 ++ [wkC l]) (by decide) (a2.mono (by omega)) (fun x hx q s hq aq => by
            obtain ⟨v, s', e, S, a'⟩ := state_ok (n + 27) W aq (by omega)
            refine ⟨tI v, s', ?_, ⟨v, rfl, S⟩, a'.mono (by omega)⟩
            unfold tI
            simp only [e_non, e_bl, e_int, e_str, e_var, e_own, e_cst, e_bin, e_neg, e_cmp, e_chn, e_one, e_and, e_or, e_not, e_ite, e_idx, e_sl, e_tup, e_lst, e_cel, e_call, e_callk, e_bi, e_mth, e_isi, e_len, e_lc, e_fmt, e_fs, e_att, e_mk, e_mkk, e_um, e_dic0, e_dget, e_rgt, es_nil, es_cons, fs_nil, fs_cons, ts_nil, ts_one, src_seq, src_rg1, src_rg2, src_rg3, src_enum, src_zip, src_rev, k_bin, k_bin2, k_neg, k_cmp, k_cmp2, k_chn, k_chn2, k_chn3, k_chn4, k_and1, k_and0, k_or1, k_or0, k_not, k_ite, k_ite1, k_ite0, k_idx, k_idx2, k_sl, k_opt, k_sl2, k_sl3, k_dget, k_dget2, k_rgt, k_tup, k_lst, k_lst5, k_cel, k_call, k_callk, k_callk2, k_bi, k_mth, k_mth1, k_mth2, k_isi, k_len, k_lc, k_lcF, k_lc2, k_lc3t, k_lc3f, k_some, k_fmt, k_fs, k_mk, k_mkk, k_mkk2, k_att, k_um, k_evs, k_cons, k_tru, k_items, k_rg1, k_rg2, k_rg2b, k_rg3, k_rg3b, k_rg3c, k_enumL, k_enumT, k_zip, k_zipTT, k_zipLL, k_zipLT, k_zipTL, k_rev, v_val, o_owd, o_own, l_some, x_ok, o_map, s_set, s_setO, s_par, s_asg, s_aug, s_app, s_seti, s_setd, s_sta, s_ex, s_ret, s_retN, s_ifs, s_lop, s_whl, s_brk, s_cnt, s_pas, s_thru, ss_nil, ss_cons, ss_frz, at_name, at_sub, at_tup, ats_nil, ats_cons, t_set, t_setO, t_par, t_par2, t_asg, t_aug, t_augA, t_augS, t_app, t_app2, t_seti, t_seti2, t_seti3, t_setd, t_setd2, t_setd3, t_sta, t_ex, t_ret, t_ifs, t_ifs1, t_ifs0, t_lop, t_ss, t_ssr, t_ssb, t_ssc, t_ats, t_frz, t_sub, t_thru, t_thrur, o_nxt, v_set0, v_setS, d_set0, d_setD, d_setL, o_bind, z_frz0, z_frzS, List.getElem?_cons_zero, List.getElem?_cons_succ, wipeE, List.set, b_name, e])
          obtain ⟨Vs, rfl, hVs⟩ := f2_tI ps
          have lV : Vs.length = 4 := by
            have := ps.length
            rw [List.length_map, List.length_range] at this
            exact this.symm
          have ad : dBin .Add (.lst [.tup ((List.replicate (kinds l).length (0 : Int)).map .int), .tup (((kinds l).map Row.total).map .int)]) (.lst (Vs.map tI)) = some (.lst ((List.replicate (kinds l).length (0 : Int) :: (kinds l).map Row.total :: Vs).map tI)) := q_addL _ _ (by rw [List.length_map, lV]; show 2 + 4 ≤ _; decide)
          obtain ⟨e4', pg⟩ := pages_ok n W (wk_at a3 wk (show s1.length ≠ r by omega)) (List.replicate (kinds l).length (0 : Int) :: (kinds l).map Row.total :: Vs) (fun v hv => by
            rcases List.mem_cons.mp hv with rfl | hv
            · exact zero_St K
            rcases List.mem_cons.mp hv with rfl | hv
            · exact full_St K (kx l)
            · exact hVs v hv) (.val (.ref r)) (.val (.int w)) (.val (.tup (dNs l))) e4 (.val (.lst [.tup ((List.replicate (kinds l).length (0 : Int)).map .int), .tup (((kinds l).map Row.total).map .int)])) e7 e8
          refine ⟨[.val (.ref r), .val (.int w), e2, e3, e4, e5, e6, e7, e8], [.val (.ref r), .val (.int w), .val (.tup (dNs l)), .val (.lst ((lkinds l).map LRow.d)), e4', .val (.ref s1.length), .val (.lst [.tup ((List.replicate (kinds l).length (0 : Int)).map .int), .tup (((kinds l).map Row.total).map .int)]), e7, e8], s3, by simp only [b_name, e_non, e_bl, e_int, e_str, e_var, e_own, e_cst, e_bin, e_neg, e_cmp, e_chn, e_one, e_and, e_or, e_not, e_ite, e_idx, e_sl, e_tup, e_lst, e_cel, e_call, e_callk, e_bi, e_mth, e_isi, e_len, e_lc, e_fmt, e_fs, e_att, e_mk, e_mkk, e_um, e_dic0, e_dget, e_rgt, es_nil, es_cons, fs_nil, fs_cons, ts_nil, ts_one, src_seq, src_rg1, src_rg2, src_rg3, src_enum, src_zip, src_rev, k_bin, k_bin2, k_neg, k_cmp, k_cmp2, k_chn, k_chn2, k_chn3, k_chn4, k_and1, k_and0, k_or1, k_or0, k_not, k_ite, k_ite1, k_ite0, k_idx, k_idx2, k_sl, k_opt, k_sl2, k_sl3, k_dget, k_dget2, k_rgt, k_tup, k_lst, k_lst5, k_cel, k_call, k_callk, k_callk2, k_bi, k_mth, k_mth1, k_mth2, k_isi, k_len, k_lc, k_lcF, k_lc2, k_lc3t, k_lc3f, k_some, k_fmt, k_fs, k_mk, k_mkk, k_mkk2, k_att, k_um, k_evs, k_cons, k_tru, k_items, k_rg1, k_rg2, k_rg2b, k_rg3, k_rg3b, k_rg3c, k_enumL, k_enumT, k_zip, k_zipTT, k_zipLL, k_zipLT, k_zipTL, k_rev, v_val, o_owd, o_own, l_some, x_ok, o_map, s_set, s_setO, s_par, s_asg, s_aug, s_app, s_seti, s_setd, s_sta, s_ex, s_ret, s_retN, s_ifs, s_lop, s_whl, s_brk, s_cnt, s_pas, s_thru, ss_nil, ss_cons, ss_frz, at_name, at_sub, at_tup, ats_nil, ats_cons, t_set, t_setO, t_par, t_par2, t_asg, t_aug, t_augA, t_augS, t_app, t_app2, t_seti, t_seti2, t_seti3, t_setd, t_setd2, t_setd3, t_sta, t_ex, t_ret, t_ifs, t_ifs1, t_ifs0, t_lop, t_ss, t_ssr, t_ssb, t_ssc, t_ats, t_frz, t_sub, t_thru, t_thrur, o_nxt, v_set0, v_setS, d_set0, d_setD, d_setL, o_bind, z_frz0, z_frzS, List.getElem?_cons_zero, List.getElem?_cons_succ], ?_, L, _, _, _, _, _, _, _, _, _, rfl, rfl, a3.jug, by simp only [List.length_range]; omega⟩
          simp only [e_non, e_bl, e_int, e_str, e_var, e_own, e_cst, e_bin, e_neg, e_cmp, e_chn, e_one, e_and, e_or, e_not, e_ite, e_idx, e_sl, e_tup, e_lst, e_cel, e_call, e_callk, e_bi, e_mth, e_isi, e_len, e_lc, e_fmt, e_fs, e_att, e_mk, e_mkk, e_um, e_dic0, e_dget, e_rgt, es_nil, es_cons, fs_nil, fs_cons, ts_nil, ts_one, src_seq, src_rg1, src_rg2, src_rg3, src_enum, src_zip, src_rev, k_bin, k_bin2, k_neg, k_cmp, k_cmp2, k_chn, k_chn2, k_chn3, k_chn4, k_and1, k_and0, k_or1, k_or0, k_not, k_ite, k_ite1, k_ite0, k_idx, k_idx2, k_sl, k_opt, k_sl2, k_sl3, k_dget, k_dget2, k_rgt, k_tup, k_lst, k_lst5, k_cel, k_call, k_callk, k_callk2, k_bi, k_mth, k_mth1, k_mth2, k_isi, k_len, k_lc, k_lcF, k_lc2, k_lc3t, k_lc3f, k_some, k_fmt, k_fs, k_mk, k_mkk, k_mkk2, k_att, k_um, k_evs, k_cons, k_tru, k_items, k_rg1, k_rg2, k_rg2b, k_rg3, k_rg3b, k_rg3c, k_enumL, k_enumT, k_zip, k_zipTT, k_zipLL, k_zipLT, k_zipTL, k_rev, v_val, o_owd, o_own, l_some, x_ok, o_map, s_set, s_setO, s_par, s_asg, s_aug, s_app, s_seti, s_setd, s_sta, s_ex, s_ret, s_retN, s_ifs, s_lop, s_whl, s_brk, s_cnt, s_pas, s_thru, ss_nil, ss_cons, ss_frz, at_name, at_sub, at_tup, ats_nil, ats_cons, t_set, t_setO, t_par, t_par2, t_asg, t_aug, t_augA, t_augS, t_app, t_app2, t_seti, t_seti2, t_seti3, t_setd, t_setd2, t_setd3, t_sta, t_ex, t_ret, t_ifs, t_ifs1, t_ifs0, t_lop, t_ss, t_ssr, t_ssb, t_ssc, t_ats, t_frz, t_sub, t_thru, t_thrur, o_nxt, v_set0, v_setS, d_set0, d_setD, d_setL, o_bind, z_frz0, z_frzS, List.getElem?_cons_zero, List.getElem?_cons_succ, q_add, q_sub, q_lt, q_le, q_gt, q_ge, q_eq, q_ne, q_is, q_isn, q_isb, q_isnb, q_in, q_int, q_tb, q_ti, q_lenL, q_lenT, q_lenN, q_itL, q_itT, q_tupL, q_tupT, q_lstL, q_lstT, q_intI, q_intB, q_min2, q_max2, q_abs, q_repr, D.isN, decide_true, decide_false, Bool.not_true, Bool.not_false, r_ret, r_nxt, et', lk]
          rw [k_lc _ _ _ _ _ okl, lc_map LRow.d (fun r => D.int r.total) (lkinds l) fun b _ => by
            have ib : ∀ s, dIdxS s b.d (.int 3) = some (.int b.total) := fun s => rfl
            simp only [e_non, e_bl, e_int, e_str, e_var, e_own, e_cst, e_bin, e_neg, e_cmp, e_chn, e_one, e_and, e_or, e_not, e_ite, e_idx, e_sl, e_tup, e_lst, e_cel, e_call, e_callk, e_bi, e_mth, e_isi, e_len, e_lc, e_fmt, e_fs, e_att, e_mk, e_mkk, e_um, e_dic0, e_dget, e_rgt, es_nil, es_cons, fs_nil, fs_cons, ts_nil, ts_one, src_seq, src_rg1, src_rg2, src_rg3, src_enum, src_zip, src_rev, k_bin, k_bin2, k_neg, k_cmp, k_cmp2, k_chn, k_chn2, k_chn3, k_chn4, k_and1, k_and0, k_or1, k_or0, k_not, k_ite, k_ite1, k_ite0, k_idx, k_idx2, k_sl, k_opt, k_sl2, k_sl3, k_dget, k_dget2, k_rgt, k_tup, k_lst, k_lst5, k_cel, k_call, k_callk, k_callk2, k_bi, k_mth, k_mth1, k_mth2, k_isi, k_len, k_lc, k_lcF, k_lc2, k_lc3t, k_lc3f, k_some, k_fmt, k_fs, k_mk, k_mkk, k_mkk2, k_att, k_um, k_evs, k_cons, k_tru, k_items, k_rg1, k_rg2, k_rg2b, k_rg3, k_rg3b, k_rg3c, k_enumL, k_enumT, k_zip, k_zipTT, k_zipLL, k_zipLT, k_zipTL, k_rev, v_val, o_owd, o_own, l_some, x_ok, o_map, s_set, s_setO, s_par, s_asg, s_aug, s_app, s_seti, s_setd, s_sta, s_ex, s_ret, s_retN, s_ifs, s_lop, s_whl, s_brk, s_cnt, s_pas, s_thru, ss_nil, ss_cons, ss_frz, at_name, at_sub, at_tup, ats_nil, ats_cons, t_set, t_setO, t_par, t_par2, t_asg, t_aug, t_augA, t_augS, t_app, t_app2, t_seti, t_seti2, t_seti3, t_setd, t_setd2, t_setd3, t_sta, t_ex, t_ret, t_ifs, t_ifs1, t_ifs0, t_lop, t_ss, t_ssr, t_ssb, t_ssc, t_ats, t_frz, t_sub, t_thru, t_thrur, o_nxt, v_set0, v_setS, d_set0, d_setD, d_setL, o_bind, z_frz0, z_frzS, List.getElem?_cons_zero, List.getElem?_cons_succ, wipeE, List.set, b_name, ib]]
          simp only [e_non, e_bl, e_int, e_str, e_var, e_own, e_cst, e_bin, e_neg, e_cmp, e_chn, e_one, e_and, e_or, e_not, e_ite, e_idx, e_sl, e_tup, e_lst, e_cel, e_call, e_callk, e_bi, e_mth, e_isi, e_len, e_lc, e_fmt, e_fs, e_att, e_mk, e_mkk, e_um, e_dic0, e_dget, e_rgt, es_nil, es_cons, fs_nil, fs_cons, ts_nil, ts_one, src_seq, src_rg1, src_rg2, src_rg3, src_enum, src_zip, src_rev, k_bin, k_bin2, k_neg, k_cmp, k_cmp2, k_chn, k_chn2, k_chn3, k_chn4, k_and1, k_and0, k_or1, k_or0, k_not, k_ite, k_ite1, k_ite0, k_idx, k_idx2, k_sl, k_opt, k_sl2, k_sl3, k_dget, k_dget2, k_rgt, k_tup, k_lst, k_lst5, k_cel, k_call, k_callk, k_callk2, k_bi, k_mth, k_mth1, k_mth2, k_isi, k_len, k_lc, k_lcF, k_lc2, k_lc3t, k_lc3f, k_some, k_fmt, k_fs, k_mk, k_mkk, k_mkk2, k_att, k_um, k_evs, k_cons, k_tru, k_items, k_rg1, k_rg2, k_rg2b, k_rg3, k_rg3b, k_rg3c, k_enumL, k_enumT, k_zip, k_zipTT, k_zipLL, k_zipLT, k_zipTL, k_rev, v_val, o_owd, o_own, l_some, x_ok, o_map, s_set, s_setO, s_par, s_asg, s_aug, s_app, s_seti, s_setd, s_sta, s_ex, s_ret, s_retN, s_ifs, s_lop, s_whl, s_brk, s_cnt, s_pas, s_thru, ss_nil, ss_cons, ss_frz, at_name, at_sub, at_tup, ats_nil, ats_cons, t_set, t_setO, t_par, t_par2, t_asg, t_aug, t_augA, t_augS, t_app, t_app2, t_seti, t_seti2, t_seti3, t_setd, t_setd2, t_setd3, t_sta, t_ex, t_ret, t_ifs, t_ifs1, t_ifs0, t_lop, t_ss, t_ssr, t_ssb, t_ssc, t_ats, t_frz, t_sub, t_thru, t_thrur, o_nxt, v_set0, v_setS, d_set0, d_setD, d_setL, o_bind, z_frz0, z_frzS, List.getElem?_cons_zero, List.getElem?_cons_succ, q_add, q_sub, q_lt, q_le, q_gt, q_ge, q_eq, q_ne, q_is, q_isn, q_isb, q_isnb, q_in, q_int, q_tb, q_ti, q_lenL, q_lenT, q_lenN, q_itL, q_itT, q_tupL, q_tupT, q_lstL, q_lstT, q_intI, q_intB, q_min2, q_max2, q_abs, q_repr, D.isN, decide_true, decide_false, Bool.not_true, Bool.not_false, r_ret, r_nxt, sm, pw, c, mk, List.length_map, LL, mu]
          rw [k_lc _ _ _ _ _ okl, lc_map LRow.d (fun r => D.int r.total) (lkinds l) fun b _ => by
            have ib : ∀ s, dIdxS s b.d (.int 3) = some (.int b.total) := fun s => rfl
            simp only [e_non, e_bl, e_int, e_str, e_var, e_own, e_cst, e_bin, e_neg, e_cmp, e_chn, e_one, e_and, e_or, e_not, e_ite, e_idx, e_sl, e_tup, e_lst, e_cel, e_call, e_callk, e_bi, e_mth, e_isi, e_len, e_lc, e_fmt, e_fs, e_att, e_mk, e_mkk, e_um, e_dic0, e_dget, e_rgt, es_nil, es_cons, fs_nil, fs_cons, ts_nil, ts_one, src_seq, src_rg1, src_rg2, src_rg3, src_enum, src_zip, src_rev, k_bin, k_bin2, k_neg, k_cmp, k_cmp2, k_chn, k_chn2, k_chn3, k_chn4, k_and1, k_and0, k_or1, k_or0, k_not, k_ite, k_ite1, k_ite0, k_idx, k_idx2, k_sl, k_opt, k_sl2, k_sl3, k_dget, k_dget2, k_rgt, k_tup, k_lst, k_lst5, k_cel, k_call, k_callk, k_callk2, k_bi, k_mth, k_mth1, k_mth2, k_isi, k_len, k_lc, k_lcF, k_lc2, k_lc3t, k_lc3f, k_some, k_fmt, k_fs, k_mk, k_mkk, k_mkk2, k_att, k_um, k_evs, k_cons, k_tru, k_items, k_rg1, k_rg2, k_rg2b, k_rg3, k_rg3b, k_rg3c, k_enumL, k_enumT, k_zip, k_zipTT, k_zipLL, k_zipLT, k_zipTL, k_rev, v_val, o_owd, o_own, l_some, x_ok, o_map, s_set, s_setO, s_par, s_asg, s_aug, s_app, s_seti, s_setd, s_sta, s_ex, s_ret, s_retN, s_ifs, s_lop, s_whl, s_brk, s_cnt, s_pas, s_thru, ss_nil, ss_cons, ss_frz, at_name, at_sub, at_tup, ats_nil, ats_cons, t_set, t_setO, t_par, t_par2, t_asg, t_aug, t_augA, t_augS, t_app, t_app2, t_seti, t_seti2, t_seti3, t_setd, t_setd2, t_setd3, t_sta, t_ex, t_ret, t_ifs, t_ifs1, t_ifs0, t_lop, t_ss, t_ssr, t_ssb, t_ssc, t_ats, t_frz, t_sub, t_thru, t_thrur, o_nxt, v_set0, v_setS, d_set0, d_setD, d_setL, o_bind, z_frz0, z_frzS, List.getElem?_cons_zero, List.getElem?_cons_succ, wipeE, List.set, b_name, ib]]
          simp only [e_non, e_bl, e_int, e_str, e_var, e_own, e_cst, e_bin, e_neg, e_cmp, e_chn, e_one, e_and, e_or, e_not, e_ite, e_idx, e_sl, e_tup, e_lst, e_cel, e_call, e_callk, e_bi, e_mth, e_isi, e_len, e_lc, e_fmt, e_fs, e_att, e_mk, e_mkk, e_um, e_dic0, e_dget, e_rgt, es_nil, es_cons, fs_nil, fs_cons, ts_nil, ts_one, src_seq, src_rg1, src_rg2, src_rg3, src_enum, src_zip, src_rev, k_bin, k_bin2, k_neg, k_cmp, k_cmp2, k_chn, k_chn2, k_chn3, k_chn4, k_and1, k_and0, k_or1, k_or0, k_not, k_ite, k_ite1, k_ite0, k_idx, k_idx2, k_sl, k_opt, k_sl2, k_sl3, k_dget, k_dget2, k_rgt, k_tup, k_lst, k_lst5, k_cel, k_call, k_callk, k_callk2, k_bi, k_mth, k_mth1, k_mth2, k_isi, k_len, k_lc, k_lcF, k_lc2, k_lc3t, k_lc3f, k_some, k_fmt, k_fs, k_mk, k_mkk, k_mkk2, k_att, k_um, k_evs, k_cons, k_tru, k_items, k_rg1, k_rg2, k_rg2b, k_rg3, k_rg3b, k_rg3c, k_enumL, k_enumT, k_zip, k_zipTT, k_zipLL, k_zipLT, k_zipTL, k_rev, v_val, o_owd, o_own, l_some, x_ok, o_map, s_set, s_setO, s_par, s_asg, s_aug, s_app, s_seti, s_setd, s_sta, s_ex, s_ret, s_retN, s_ifs, s_lop, s_whl, s_brk, s_cnt, s_pas, s_thru, ss_nil, ss_cons, ss_frz, at_name, at_sub, at_tup, ats_nil, ats_cons, t_set, t_setO, t_par, t_par2, t_asg, t_aug, t_augA, t_augS, t_app, t_app2, t_seti, t_seti2, t_seti3, t_setd, t_setd2, t_setd3, t_sta, t_ex, t_ret, t_ifs, t_ifs1, t_ifs0, t_lop, t_ss, t_ssr, t_ssb, t_ssc, t_ats, t_frz, t_sub, t_thru, t_thrur, o_nxt, v_set0, v_setS, d_set0, d_setD, d_setL, o_bind, z_frz0, z_frzS, List.getElem?_cons_zero, List.getElem?_cons_succ, q_add, q_sub, q_lt, q_le, q_gt, q_ge, q_eq, q_ne, q_is, q_isn, q_isb, q_isnb, q_in, q_int, q_tb, q_ti, q_lenL, q_lenT, q_lenN, q_itL, q_itT, q_tupL, q_tupT, q_lstL, q_lstT, q_intI, q_intB, q_min2, q_max2, q_abs, q_repr, D.isN, decide_true, decide_false, Bool.not_true, Bool.not_false, r_ret, r_nxt, tl, o4, rg_map]
          rw [show (4 : Int).toNat = 4 from rfl, k_lc _ _ _ _ _ okr, es]
          simp only [e_non, e_bl, e_int, e_str, e_var, e_own, e_cst, e_bin, e_neg, e_cmp, e_chn, e_one, e_and, e_or, e_not, e_ite, e_idx, e_sl, e_tup, e_lst, e_cel, e_call, e_callk, e_bi, e_mth, e_isi, e_len, e_lc, e_fmt, e_fs, e_att, e_mk, e_mkk, e_um, e_dic0, e_dget, e_rgt, es_nil, es_cons, fs_nil, fs_cons, ts_nil, ts_one, src_seq, src_rg1, src_rg2, src_rg3, src_enum, src_zip, src_rev, k_bin, k_bin2, k_neg, k_cmp, k_cmp2, k_chn, k_chn2, k_chn3, k_chn4, k_and1, k_and0, k_or1, k_or0, k_not, k_ite, k_ite1, k_ite0, k_idx, k_idx2, k_sl, k_opt, k_sl2, k_sl3, k_dget, k_dget2, k_rgt, k_tup, k_lst, k_lst5, k_cel, k_call, k_callk, k_callk2, k_bi, k_mth, k_mth1, k_mth2, k_isi, k_len, k_lc, k_lcF, k_lc2, k_lc3t, k_lc3f, k_some, k_fmt, k_fs, k_mk, k_mkk, k_mkk2, k_att, k_um, k_evs, k_cons, k_tru, k_items, k_rg1, k_rg2, k_rg2b, k_rg3, k_rg3b, k_rg3c, k_enumL, k_enumT, k_zip, k_zipTT, k_zipLL, k_zipLT, k_zipTL, k_rev, v_val, o_owd, o_own, l_some, x_ok, o_map, s_set, s_setO, s_par, s_asg, s_aug, s_app, s_seti, s_setd, s_sta, s_ex, s_ret, s_retN, s_ifs, s_lop, s_whl, s_brk, s_cnt, s_pas, s_thru, ss_nil, ss_cons, ss_frz, at_name, at_sub, at_tup, ats_nil, ats_cons, t_set, t_setO, t_par, t_par2, t_asg, t_aug, t_augA, t_augS, t_app, t_app2, t_seti, t_seti2, t_seti3, t_setd, t_setd2, t_setd3, t_sta, t_ex, t_ret, t_ifs, t_ifs1, t_ifs0, t_lop, t_ss, t_ssr, t_ssb, t_ssc, t_ats, t_frz, t_sub, t_thru, t_thrur, o_nxt, v_set0, v_setS, d_set0, d_setD, d_setL, o_bind, z_frz0, z_frzS, List.getElem?_cons_zero, List.getElem?_cons_succ, q_add, q_sub, q_lt, q_le, q_gt, q_ge, q_eq, q_ne, q_is, q_isn, q_isb, q_isnb, q_in, q_int, q_tb, q_ti, q_lenL, q_lenT, q_lenN, q_itL, q_itT, q_tupL, q_tupT, q_lstL, q_lstT, q_intI, q_intB, q_min2, q_max2, q_abs, q_repr, D.isN, decide_true, decide_false, Bool.not_true, Bool.not_false, r_ret, r_nxt, ad]
          rw [pg]
          simp only [e_non, e_bl, e_int, e_str, e_var, e_own, e_cst, e_bin, e_neg, e_cmp, e_chn, e_one, e_and, e_or, e_not, e_ite, e_idx, e_sl, e_tup, e_lst, e_cel, e_call, e_callk, e_bi, e_mth, e_isi, e_len, e_lc, e_fmt, e_fs, e_att, e_mk, e_mkk, e_um, e_dic0, e_dget, e_rgt, es_nil, es_cons, fs_nil, fs_cons, ts_nil, ts_one, src_seq, src_rg1, src_rg2, src_rg3, src_enum, src_zip, src_rev, k_bin, k_bin2, k_neg, k_cmp, k_cmp2, k_chn, k_chn2, k_chn3, k_chn4, k_and1, k_and0, k_or1, k_or0, k_not, k_ite, k_ite1, k_ite0, k_idx, k_idx2, k_sl, k_opt, k_sl2, k_sl3, k_dget, k_dget2, k_rgt, k_tup, k_lst, k_lst5, k_cel, k_call, k_callk, k_callk2, k_bi, k_mth, k_mth1, k_mth2, k_isi, k_len, k_lc, k_lcF, k_lc2, k_lc3t, k_lc3f, k_some, k_fmt, k_fs, k_mk, k_mkk, k_mkk2, k_att, k_um, k_evs, k_cons, k_tru, k_items, k_rg1, k_rg2, k_rg2b, k_rg3, k_rg3b, k_rg3c, k_enumL, k_enumT, k_zip, k_zipTT, k_zipLL, k_zipLT, k_zipTL, k_rev, v_val, o_owd, o_own, l_some, x_ok, o_map, s_set, s_setO, s_par, s_asg, s_aug, s_app, s_seti, s_setd, s_sta, s_ex, s_ret, s_retN, s_ifs, s_lop, s_whl, s_brk, s_cnt, s_pas, s_thru, ss_nil, ss_cons, ss_frz, at_name, at_sub, at_tup, ats_nil, ats_cons, t_set, t_setO, t_par, t_par2, t_asg, t_aug, t_augA, t_augS, t_app, t_app2, t_seti, t_seti2, t_seti3, t_setd, t_setd2, t_setd3, t_sta, t_ex, t_ret, t_ifs, t_ifs1, t_ifs0, t_lop, t_ss, t_ssr, t_ssb, t_ssc, t_ats, t_frz, t_sub, t_thru, t_thrur, o_nxt, v_set0, v_setS, d_set0, d_setD, d_setL, o_bind, z_frz0, z_frzS, List.getElem?_cons_zero, List.getElem?_cons_succ, q_add, q_sub, q_lt, q_le, q_gt, q_ge, q_eq, q_ne, q_is, q_isn, q_isb, q_isnb, q_in, q_int, q_tb, q_ti, q_lenL, q_lenT, q_lenN, q_itL, q_itT, q_tupL, q_tupT, q_lstL, q_lstT, q_intI, q_intB, q_min2, q_max2, q_abs, q_repr, D.isN, decide_true, decide_false, Bool.not_true, Bool.not_false, r_ret, r_nxt]
        · refine ⟨[.val (.ref r), .val (.int w), e2, e3, e4, e5, e6, e7, e8], [.val (.ref r), .val (.int w), .val (.tup (dNs l)), .val (.lst ((lkinds l).map LRow.d)), e4, e5, e6, e7, e8], s1, by simp only [b_name, e_non, e_bl, e_int, e_str, e_var, e_own, e_cst, e_bin, e_neg, e_cmp, e_chn, e_one, e_and, e_or, e_not, e_ite, e_idx, e_sl, e_tup, e_lst, e_cel, e_call, e_callk, e_bi, e_mth, e_isi, e_len, e_lc, e_fmt, e_fs, e_att, e_mk, e_mkk, e_um, e_dic0, e_dget, e_rgt, es_nil, es_cons, fs_nil, fs_cons, ts_nil, ts_one, src_seq, src_rg1, src_rg2, src_rg3, src_enum, src_zip, src_rev, k_bin, k_bin2, k_neg, k_cmp, k_cmp2, k_chn, k_chn2, k_chn3, k_chn4, k_and1, k_and0, k_or1, k_or0, k_not, k_ite, k_ite1, k_ite0, k_idx, k_idx2, k_sl, k_opt, k_sl2, k_sl3, k_dget, k_dget2, k_rgt, k_tup, k_lst, k_lst5, k_cel, k_call, k_callk, k_callk2, k_bi, k_mth, k_mth1, k_mth2, k_isi, k_len, k_lc, k_lcF, k_lc2, k_lc3t, k_lc3f, k_some, k_fmt, k_fs, k_mk, k_mkk, k_mkk2, k_att, k_um, k_evs, k_cons, k_tru, k_items, k_rg1, k_rg2, k_rg2b, k_rg3, k_rg3b, k_rg3c, k_enumL, k_enumT, k_zip, k_zipTT, k_zipLL, k_zipLT, k_zipTL, k_rev, v_val, o_owd, o_own, l_some, x_ok, o_map, s_set, s_setO, s_par, s_asg, s_aug, s_app, s_seti, s_setd, s_sta, s_ex, s_ret, s_retN, s_ifs, s_lop, s_whl, s_brk, s_cnt, s_pas, s_thru, ss_nil, ss_cons, ss_frz, at_name, at_sub, at_tup, ats_nil, ats_cons, t_set, t_setO, t_par, t_par2, t_asg, t_aug, t_augA, t_augS, t_app, t_app2, t_seti, t_seti2, t_seti3, t_setd, t_setd2, t_setd3, t_sta, t_ex, t_ret, t_ifs, t_ifs1, t_ifs0, t_lop, t_ss, t_ssr, t_ssb, t_ssc, t_ats, t_frz, t_sub, t_thru, t_thrur, o_nxt, v_set0, v_setS, d_set0, d_setD, d_setL, o_bind, z_frz0, z_frzS, List.getElem?_cons_zero, List.getElem?_cons_succ], ?_, L, j + 100, _, _, _, _, _, _, _, _, rfl, rfl, a1.jug, by omega⟩
          simp only [e_non, e_bl, e_int, e_str, e_var, e_own, e_cst, e_bin, e_neg, e_cmp, e_chn, e_one, e_and, e_or, e_not, e_ite, e_idx, e_sl, e_tup, e_lst, e_cel, e_call, e_callk, e_bi, e_mth, e_isi, e_len, e_lc, e_fmt, e_fs, e_att, e_mk, e_mkk, e_um, e_dic0, e_dget, e_rgt, es_nil, es_cons, fs_nil, fs_cons, ts_nil, ts_one, src_seq, src_rg1, src_rg2, src_rg3, src_enum, src_zip, src_rev, k_bin, k_bin2, k_neg, k_cmp, k_cmp2, k_chn, k_chn2, k_chn3, k_chn4, k_and1, k_and0, k_or1, k_or0, k_not, k_ite, k_ite1, k_ite0, k_idx, k_idx2, k_sl, k_opt, k_sl2, k_sl3, k_dget, k_dget2, k_rgt, k_tup, k_lst, k_lst5, k_cel, k_call, k_callk, k_callk2, k_bi, k_mth, k_mth1, k_mth2, k_isi, k_len, k_lc, k_lcF, k_lc2, k_lc3t, k_lc3f, k_some, k_fmt, k_fs, k_mk, k_mkk, k_mkk2, k_att, k_um, k_evs, k_cons, k_tru, k_items, k_rg1, k_rg2, k_rg2b, k_rg3, k_rg3b, k_rg3c, k_enumL, k_enumT, k_zip, k_zipTT, k_zipLL, k_zipLT, k_zipTL, k_rev, v_val, o_owd, o_own, l_some, x_ok, o_map, s_set, s_setO, s_par, s_asg, s_aug, s_app, s_seti, s_setd, s_sta, s_ex, s_ret, s_retN, s_ifs, s_lop, s_whl, s_brk, s_cnt, s_pas, s_thru, ss_nil, ss_cons, ss_frz, at_name, at_sub, at_tup, ats_nil, ats_cons, t_set, t_setO, t_par, t_par2, t_asg, t_aug, t_augA, t_augS, t_app, t_app2, t_seti, t_seti2, t_seti3, t_setd, t_setd2, t_setd3, t_sta, t_ex, t_ret, t_ifs, t_ifs1, t_ifs0, t_lop, t_ss, t_ssr, t_ssb, t_ssc, t_ats, t_frz, t_sub, t_thru, t_thrur, o_nxt, v_set0, v_setS, d_set0, d_setD, d_setL, o_bind, z_frz0, z_frzS, List.getElem?_cons_zero, List.getElem?_cons_succ, q_add, q_sub, q_lt, q_le, q_gt, q_ge, q_eq, q_ne, q_is, q_isn, q_isb, q_isnb, q_in, q_int, q_tb, q_ti, q_lenL, q_lenT, q_lenN, q_itL, q_itT, q_tupL, q_tupT, q_lstL, q_lstT, q_intI, q_intB, q_min2, q_max2, q_abs, q_repr, D.isN, decide_true, decide_false, Bool.not_true, Bool.not_false, r_ret, r_nxt, et', lk]
          rw [k_lc _ _ _ _ _ okl, lc_map LRow.d (fun r => D.int r.total) (lkinds l) fun b _ => by
            have ib : ∀ s, dIdxS s b.d (.int 3) = some (.int b.total) := fun s => rfl
            simp only [e_non, e_bl, e_int, e_str, e_var, e_own, e_cst, e_bin, e_neg, e_cmp, e_chn, e_one, e_and, e_or, e_not, e_ite, e_idx, e_sl, e_tup, e_lst, e_cel, e_call, e_callk, e_bi, e_mth, e_isi, e_len, e_lc, e_fmt, e_fs, e_att, e_mk, e_mkk, e_um, e_dic0, e_dget, e_rgt, es_nil, es_cons, fs_nil, fs_cons, ts_nil, ts_one, src_seq, src_rg1, src_rg2, src_rg3, src_enum, src_zip, src_rev, k_bin, k_bin2, k_neg, k_cmp, k_cmp2, k_chn, k_chn2, k_chn3, k_chn4, k_and1, k_and0, k_or1, k_or0, k_not, k_ite, k_ite1, k_ite0, k_idx, k_idx2, k_sl, k_opt, k_sl2, k_sl3, k_dget, k_dget2, k_rgt, k_tup, k_lst, k_lst5, k_cel, k_call, k_callk, k_callk2, k_bi, k_mth, k_mth1, k_mth2, k_isi, k_len, k_lc, k_lcF, k_lc2, k_lc3t, k_lc3f, k_some, k_fmt, k_fs, k_mk, k_mkk, k_mkk2, k_att, k_um, k_evs, k_cons, k_tru, k_items, k_rg1, k_rg2, k_rg2b, k_rg3, k_rg3b, k_rg3c, k_enumL, k_enumT, k_zip, k_zipTT, k_zipLL, k_zipLT, k_zipTL, k_rev, v_val, o_owd, o_own, l_some, x_ok, o_map, s_set, s_setO, s_par, s_asg, s_aug, s_app, s_seti, s_setd, s_sta, s_ex, s_ret, s_retN, s_ifs, s_lop, s_whl, s_brk, s_cnt, s_pas, s_thru, ss_nil, ss_cons, ss_frz, at_name, at_sub, at_tup, ats_nil, ats_cons, t_set, t_setO, t_par, t_par2, t_asg, t_aug, t_augA, t_augS, t_app, t_app2, t_seti, t_seti2, t_seti3, t_setd, t_setd2, t_setd3, t_sta, t_ex, t_ret, t_ifs, t_ifs1, t_ifs0, t_lop, t_ss, t_ssr, t_ssb, t_ssc, t_ats, t_frz, t_sub, t_thru, t_thrur, o_nxt, v_set0, v_setS, d_set0, d_setD, d_setL, o_bind, z_frz0, z_frzS, List.getElem?_cons_zero, List.getElem?_cons_succ, wipeE, List.set, b_name, ib]]
          simp only [e_non, e_bl, e_int, e_str, e_var, e_own, e_cst, e_bin, e_neg, e_cmp, e_chn, e_one, e_and, e_or, e_not, e_ite, e_idx, e_sl, e_tup, e_lst, e_cel, e_call, e_callk, e_bi, e_mth, e_isi, e_len, e_lc, e_fmt, e_fs, e_att, e_mk, e_mkk, e_um, e_dic0, e_dget, e_rgt, es_nil, es_cons, fs_nil, fs_cons, ts_nil, ts_one, src_seq, src_rg1, src_rg2, src_rg3, src_enum, src_zip, src_rev, k_bin, k_bin2, k_neg, k_cmp, k_cmp2, k_chn, k_chn2, k_chn3, k_chn4, k_and1, k_and0, k_or1, k_or0, k_not, k_ite, k_ite1, k_ite0, k_idx, k_idx2, k_sl, k_opt, k_sl2, k_sl3, k_dget, k_dget2, k_rgt, k_tup, k_lst, k_lst5, k_cel, k_call, k_callk, k_callk2, k_bi, k_mth, k_mth1, k_mth2, k_isi, k_len, k_lc, k_lcF, k_lc2, k_lc3t, k_lc3f, k_some, k_fmt, k_fs, k_mk, k_mkk, k_mkk2, k_att, k_um, k_evs, k_cons, k_tru, k_items, k_rg1, k_rg2, k_rg2b, k_rg3, k_rg3b, k_rg3c, k_enumL, k_enumT, k_zip, k_zipTT, k_zipLL, k_zipLT, k_zipTL, k_rev, v_val, o_owd, o_own, l_some, x_ok, o_map, s_set, s_setO, s_par, s_asg, s_aug, s_app, s_seti, s_setd, s_sta, s_ex, s_ret, s_retN, s_ifs, s_lop, s_whl, s_brk, s_cnt, s_pas, s_thru, ss_nil, ss_cons, ss_frz, at_name, at_sub, at_tup, ats_nil, ats_cons, t_set, t_setO, t_par, t_par2, t_asg, t_aug, t_augA, t_augS, t_app, t_app2, t_seti, t_seti2, t_seti3, t_setd, t_setd2, t_setd3, t_sta, t_ex, t_ret, t_ifs, t_ifs1, t_ifs0, t_lop, t_ss, t_ssr, t_ssb, t_ssc, t_ats, t_frz, t_sub, t_thru, t_thrur, o_nxt, v_set0, v_setS, d_set0, d_setD, d_setL, o_bind, z_frz0, z_frzS, List.getElem?_cons_zero, List.getElem?_cons_succ, q_add, q_sub, q_lt, q_le, q_gt, q_ge, q_eq, q_ne, q_is, q_isn, q_isb, q_isnb, q_in, q_int, q_tb, q_ti, q_lenL, q_lenT, q_lenN, q_itL, q_itT, q_tupL, q_tupT, q_lstL, q_lstT, q_intI, q_intB, q_min2, q_max2, q_abs, q_repr, D.isN, decide_true, decide_false, Bool.not_true, Bool.not_false, r_ret, r_nxt, sm, pw, c])
    (rangeD 0 (2 : Int).toNat 1) [.val (.ref r), .und, .und, .und, .und, .und, .und, .und, .und] s ⟨[0, 1], 0, _, _, _, _, _, _, _, _, rfl, rfl, j, by decide⟩
  obtain ⟨env', s', e, L, j, e1, e2, e3, e4, e5, e6, e7, e8, h1, rfl, J, hj⟩ := go
  refine ⟨s', ?_⟩
  rw [e]
  simp only [e_non, e_bl, e_int, e_str, e_var, e_own, e_cst, e_bin, e_neg, e_cmp, e_chn, e_one, e_and, e_or, e_not, e_ite, e_idx, e_sl, e_tup, e_lst, e_cel, e_call, e_callk, e_bi, e_mth, e_isi, e_len, e_lc, e_fmt, e_fs, e_att, e_mk, e_mkk, e_um, e_dic0, e_dget, e_rgt, es_nil, es_cons, fs_nil, fs_cons, ts_nil, ts_one, src_seq, src_rg1, src_rg2, src_rg3, src_enum, src_zip, src_rev, k_bin, k_bin2, k_neg, k_cmp, k_cmp2, k_chn, k_chn2, k_chn3, k_chn4, k_and1, k_and0, k_or1, k_or0, k_not, k_ite, k_ite1, k_ite0, k_idx, k_idx2, k_sl, k_opt, k_sl2, k_sl3, k_dget, k_dget2, k_rgt, k_tup, k_lst, k_lst5, k_cel, k_call, k_callk, k_callk2, k_bi, k_mth, k_mth1, k_mth2, k_isi, k_len, k_lc, k_lcF, k_lc2, k_lc3t, k_lc3f, k_some, k_fmt, k_fs, k_mk, k_mkk, k_mkk2, k_att, k_um, k_evs, k_cons, k_tru, k_items, k_rg1, k_rg2, k_rg2b, k_rg3, k_rg3b, k_rg3c, k_enumL, k_enumT, k_zip, k_zipTT, k_zipLL, k_zipLT, k_zipTL, k_rev, v_val, o_owd, o_own, l_some, x_ok, o_map, s_set, s_setO, s_par, s_asg, s_aug, s_app, s_seti, s_setd, s_sta, s_ex, s_ret, s_retN, s_ifs, s_lop, s_whl, s_brk, s_cnt, s_pas, s_thru, ss_nil, ss_cons, ss_frz, at_name, at_sub, at_tup, ats_nil, ats_cons, t_set, t_setO, t_par, t_par2, t_asg, t_aug, t_augA, t_augS, t_app, t_app2, t_seti, t_seti2, t_seti3, t_setd, t_setd2, t_setd3, t_sta, t_ex, t_ret, t_ifs, t_ifs1, t_ifs0, t_lop, t_ss, t_ssr, t_ssb, t_ssc, t_ats, t_frz, t_sub, t_thru, t_thrur, o_nxt, v_set0, v_setS, d_set0, d_setD, d_setL, o_bind, z_frz0, z_frzS, List.getElem?_cons_zero, List.getElem?_cons_succ, q_add, q_sub, q_lt, q_le, q_gt, q_ge, q_eq, q_ne, q_is, q_isn, q_isb, q_isnb, q_in, q_int, q_tb, q_ti, q_lenL, q_lenT, q_lenN, q_itL, q_itT, q_tupL, q_tupT, q_lstL, q_lstT, q_intI, q_intB, q_min2, q_max2, q_abs, q_repr, D.isN, decide_true, decide_false, Bool.not_true, Bool.not_false, r_ret, r_nxt]
theorem quiet_ok (n : Nat) {s : Sto} {r : Nat} (j : JugAt s r 0) : ∃ s', cf (n + 32) 1 [.ref r] s = .ok (.bl true) s' := by
  rw [u1]
  obtain ⟨s1, e1⟩ := right_ok n j
  refine ⟨s1, ?_⟩
  simp only [B1, e_non, e_bl, e_int, e_str, e_var, e_own, e_cst, e_bin, e_neg, e_cmp, e_chn, e_one, e_and, e_or, e_not, e_ite, e_idx, e_sl, e_tup, e_lst, e_cel, e_call, e_callk, e_bi, e_mth, e_isi, e_len, e_lc, e_fmt, e_fs, e_att, e_mk, e_mkk, e_um, e_dic0, e_dget, e_rgt, es_nil, es_cons, fs_nil, fs_cons, ts_nil, ts_one, src_seq, src_rg1, src_rg2, src_rg3, src_enum, src_zip, src_rev, k_bin, k_bin2, k_neg, k_cmp, k_cmp2, k_chn, k_chn2, k_chn3, k_chn4, k_and1, k_and0, k_or1, k_or0, k_not, k_ite, k_ite1, k_ite0, k_idx, k_idx2, k_sl, k_opt, k_sl2, k_sl3, k_dget, k_dget2, k_rgt, k_tup, k_lst, k_lst5, k_cel, k_call, k_callk, k_callk2, k_bi, k_mth, k_mth1, k_mth2, k_isi, k_len, k_lc, k_lcF, k_lc2, k_lc3t, k_lc3f, k_some, k_fmt, k_fs, k_mk, k_mkk, k_mkk2, k_att, k_um, k_evs, k_cons, k_tru, k_items, k_rg1, k_rg2, k_rg2b, k_rg3, k_rg3b, k_rg3c, k_enumL, k_enumT, k_zip, k_zipTT, k_zipLL, k_zipLT, k_zipTL, k_rev, v_val, o_owd, o_own, l_some, x_ok, o_map, s_set, s_setO, s_par, s_asg, s_aug, s_app, s_seti, s_setd, s_sta, s_ex, s_ret, s_retN, s_ifs, s_lop, s_whl, s_brk, s_cnt, s_pas, s_thru, ss_nil, ss_cons, ss_frz, at_name, at_sub, at_tup, ats_nil, ats_cons, t_set, t_setO, t_par, t_par2, t_asg, t_aug, t_augA, t_augS, t_app, t_app2, t_seti, t_seti2, t_seti3, t_setd, t_setd2, t_setd3, t_sta, t_ex, t_ret, t_ifs, t_ifs1, t_ifs0, t_lop, t_ss, t_ssr, t_ssb, t_ssc, t_ats, t_frz, t_sub, t_thru, t_thrur, o_nxt, v_set0, v_setS, d_set0, d_setD, d_setL, o_bind, z_frz0, z_frzS, List.getElem?_cons_zero, List.getElem?_cons_succ, e1, q_add, q_sub, q_lt, q_le, q_gt, q_ge, q_eq, q_ne, q_is, q_isn, q_isb, q_isnb, q_in, q_int, q_tb, q_ti, q_lenL, q_lenT, q_lenN, q_itL, q_itT, q_tupL, q_tupT, q_lstL, q_lstT, q_intI, q_intB, q_min2, q_max2, q_abs, q_repr, D.isN, decide_true, decide_false, Bool.not_true, Bool.not_false, r_ret, r_nxt]
theorem law_ok (n : Nat) (ns : List Int) (h : ns.length ≤ 63) : ∃ s', cf (n + 33) 39 [.scr ns] [] = .ok (.bl true) s' := by
  rw [u39]
  obtain ⟨t, ht, ht2⟩ : ∃ t : Nat, (if (if (4 : Int) < (ns.length : Int) then (4 : Int) else (ns.length : Int)) > 2 then (if (4 : Int) < (ns.length : Int) then (4 : Int) else (ns.length : Int)) else 2) = (t : Int) ∧ t ≤ 5 := by
    refine ⟨(if (if (4 : Int) < (ns.length : Int) then (4 : Int) else (ns.length : Int)) > 2 then (if (4 : Int) < (ns.length : Int) then (4 : Int) else (ns.length : Int)) else 2).toNat, ?_, ?_⟩ <;> split <;> split <;> omega
  have o62 : ok62 (t : Int) = true := decide_eq_true ⟨by omega, by omega⟩
  have okr : okL ((List.range t).map fun i : Nat => D.int (i : Int)).length = true := okL_of (by rw [List.length_map, List.length_range]; omega)
  obtain ⟨s', e, _⟩ := lc_inv (f := lcF G0 (cf (n + 32)) (mf (n + 32)) (.name 1) .nil (.call 1 (.cons (.call 2 (.cons (.var 0) (.cons (.var 1) .nil))) .nil)) [1] [.val (.scr ns), .und]) (fun _ _ => True) (fun _ => D.bl true) (fun i : Nat => D.int (i : Int)) (List.range t) 0 [] trivial (fun i hi k s _ => by
    obtain ⟨c, e1, j⟩ := jug_ok (n + 31) ns i s (by have := List.mem_range.mp hi; omega)
    obtain ⟨s', e2⟩ := quiet_ok n j
    refine ⟨s', ?_, trivial⟩
    simp only [e_non, e_bl, e_int, e_str, e_var, e_own, e_cst, e_bin, e_neg, e_cmp, e_chn, e_one, e_and, e_or, e_not, e_ite, e_idx, e_sl, e_tup, e_lst, e_cel, e_call, e_callk, e_bi, e_mth, e_isi, e_len, e_lc, e_fmt, e_fs, e_att, e_mk, e_mkk, e_um, e_dic0, e_dget, e_rgt, es_nil, es_cons, fs_nil, fs_cons, ts_nil, ts_one, src_seq, src_rg1, src_rg2, src_rg3, src_enum, src_zip, src_rev, k_bin, k_bin2, k_neg, k_cmp, k_cmp2, k_chn, k_chn2, k_chn3, k_chn4, k_and1, k_and0, k_or1, k_or0, k_not, k_ite, k_ite1, k_ite0, k_idx, k_idx2, k_sl, k_opt, k_sl2, k_sl3, k_dget, k_dget2, k_rgt, k_tup, k_lst, k_lst5, k_cel, k_call, k_callk, k_callk2, k_bi, k_mth, k_mth1, k_mth2, k_isi, k_len, k_lc, k_lcF, k_lc2, k_lc3t, k_lc3f, k_some, k_fmt, k_fs, k_mk, k_mkk, k_mkk2, k_att, k_um, k_evs, k_cons, k_tru, k_items, k_rg1, k_rg2, k_rg2b, k_rg3, k_rg3b, k_rg3c, k_enumL, k_enumT, k_zip, k_zipTT, k_zipLL, k_zipLT, k_zipTL, k_rev, v_val, o_owd, o_own, l_some, x_ok, o_map, s_set, s_setO, s_par, s_asg, s_aug, s_app, s_seti, s_setd, s_sta, s_ex, s_ret, s_retN, s_ifs, s_lop, s_whl, s_brk, s_cnt, s_pas, s_thru, ss_nil, ss_cons, ss_frz, at_name, at_sub, at_tup, ats_nil, ats_cons, t_set, t_setO, t_par, t_par2, t_asg, t_aug, t_augA, t_augS, t_app, t_app2, t_seti, t_seti2, t_seti3, t_setd, t_setd2, t_setd3, t_sta, t_ex, t_ret, t_ifs, t_ifs1, t_ifs0, t_lop, t_ss, t_ssr, t_ssb, t_ssc, t_ats, t_frz, t_sub, t_thru, t_thrur, o_nxt, v_set0, v_setS, d_set0, d_setD, d_setL, o_bind, z_frz0, z_frzS, List.getElem?_cons_zero, List.getElem?_cons_succ, wipeE, List.set, b_name, e1, e2])
  refine ⟨s', ?_⟩
  have al := q_allL (fun _ : Nat => true) (List.range t)
  have al2 : (List.range t).all (fun _ => true) = true := List.all_eq_true.mpr fun _ _ => rfl
  simp only [B39, e_non, e_bl, e_int, e_str, e_var, e_own, e_cst, e_bin, e_neg, e_cmp, e_chn, e_one, e_and, e_or, e_not, e_ite, e_idx, e_sl, e_tup, e_lst, e_cel, e_call, e_callk, e_bi, e_mth, e_isi, e_len, e_lc, e_fmt, e_fs, e_att, e_mk, e_mkk, e_um, e_dic0, e_dget, e_rgt, es_nil, es_cons, fs_nil, fs_cons, ts_nil, ts_one, src_seq, src_rg1, src_rg2, src_rg3, src_enum, src_zip, src_rev, k_bin, k_bin2, k_neg, k_cmp, k_cmp2, k_chn, k_chn2, k_chn3, k_chn4, k_and1, k_and0, k_or1, k_or0, k_not, k_ite, k_ite1, k_ite0, k_idx, k_idx2, k_sl, k_opt, k_sl2, k_sl3, k_dget, k_dget2, k_rgt, k_tup, k_lst, k_lst5, k_cel, k_call, k_callk, k_callk2, k_bi, k_mth, k_mth1, k_mth2, k_isi, k_len, k_lc, k_lcF, k_lc2, k_lc3t, k_lc3f, k_some, k_fmt, k_fs, k_mk, k_mkk, k_mkk2, k_att, k_um, k_evs, k_cons, k_tru, k_items, k_rg1, k_rg2, k_rg2b, k_rg3, k_rg3b, k_rg3c, k_enumL, k_enumT, k_zip, k_zipTT, k_zipLL, k_zipLT, k_zipTL, k_rev, v_val, o_owd, o_own, l_some, x_ok, o_map, s_set, s_setO, s_par, s_asg, s_aug, s_app, s_seti, s_setd, s_sta, s_ex, s_ret, s_retN, s_ifs, s_lop, s_whl, s_brk, s_cnt, s_pas, s_thru, ss_nil, ss_cons, ss_frz, at_name, at_sub, at_tup, ats_nil, ats_cons, t_set, t_setO, t_par, t_par2, t_asg, t_aug, t_augA, t_augS, t_app, t_app2, t_seti, t_seti2, t_seti3, t_setd, t_setd2, t_setd3, t_sta, t_ex, t_ret, t_ifs, t_ifs1, t_ifs0, t_lop, t_ss, t_ssr, t_ssb, t_ssc, t_ats, t_frz, t_sub, t_thru, t_thrur, o_nxt, v_set0, v_setS, d_set0, d_setD, d_setL, o_bind, z_frz0, z_frzS, List.getElem?_cons_zero, List.getElem?_cons_succ, q_add, q_sub, q_lt, q_le, q_gt, q_ge, q_eq, q_ne, q_is, q_isn, q_isb, q_isnb, q_in, q_int, q_tb, q_ti, q_lenL, q_lenT, q_lenN, q_itL, q_itT, q_tupL, q_tupT, q_lstL, q_lstT, q_intI, q_intB, q_min2, q_max2, q_abs, q_repr, D.isN, decide_true, decide_false, Bool.not_true, Bool.not_false, r_ret, r_nxt, ht, o62, Int.toNat_natCast, rg_map]
  rw [k_lc _ _ _ _ _ okr, e]
  simp only [e_non, e_bl, e_int, e_str, e_var, e_own, e_cst, e_bin, e_neg, e_cmp, e_chn, e_one, e_and, e_or, e_not, e_ite, e_idx, e_sl, e_tup, e_lst, e_cel, e_call, e_callk, e_bi, e_mth, e_isi, e_len, e_lc, e_fmt, e_fs, e_att, e_mk, e_mkk, e_um, e_dic0, e_dget, e_rgt, es_nil, es_cons, fs_nil, fs_cons, ts_nil, ts_one, src_seq, src_rg1, src_rg2, src_rg3, src_enum, src_zip, src_rev, k_bin, k_bin2, k_neg, k_cmp, k_cmp2, k_chn, k_chn2, k_chn3, k_chn4, k_and1, k_and0, k_or1, k_or0, k_not, k_ite, k_ite1, k_ite0, k_idx, k_idx2, k_sl, k_opt, k_sl2, k_sl3, k_dget, k_dget2, k_rgt, k_tup, k_lst, k_lst5, k_cel, k_call, k_callk, k_callk2, k_bi, k_mth, k_mth1, k_mth2, k_isi, k_len, k_lc, k_lcF, k_lc2, k_lc3t, k_lc3f, k_some, k_fmt, k_fs, k_mk, k_mkk, k_mkk2, k_att, k_um, k_evs, k_cons, k_tru, k_items, k_rg1, k_rg2, k_rg2b, k_rg3, k_rg3b, k_rg3c, k_enumL, k_enumT, k_zip, k_zipTT, k_zipLL, k_zipLT, k_zipTL, k_rev, v_val, o_owd, o_own, l_some, x_ok, o_map, s_set, s_setO, s_par, s_asg, s_aug, s_app, s_seti, s_setd, s_sta, s_ex, s_ret, s_retN, s_ifs, s_lop, s_whl, s_brk, s_cnt, s_pas, s_thru, ss_nil, ss_cons, ss_frz, at_name, at_sub, at_tup, ats_nil, ats_cons, t_set, t_setO, t_par, t_par2, t_asg, t_aug, t_augA, t_augS, t_app, t_app2, t_seti, t_seti2, t_seti3, t_setd, t_setd2, t_setd3, t_sta, t_ex, t_ret, t_ifs, t_ifs1, t_ifs0, t_lop, t_ss, t_ssr, t_ssb, t_ssc, t_ats, t_frz, t_sub, t_thru, t_thrur, o_nxt, v_set0, v_setS, d_set0, d_setD, d_setL, o_bind, z_frz0, z_frzS, List.getElem?_cons_zero, List.getElem?_cons_succ, q_add, q_sub, q_lt, q_le, q_gt, q_ge, q_eq, q_ne, q_is, q_isn, q_isb, q_isnb, q_in, q_int, q_tb, q_ti, q_lenL, q_lenT, q_lenN, q_itL, q_itT, q_tupL, q_tupT, q_lstL, q_lstT, q_intI, q_intB, q_min2, q_max2, q_abs, q_repr, D.isN, decide_true, decide_false, Bool.not_true, Bool.not_false, r_ret, r_nxt, al, al2]
end Lk16
set_option Elab.async false
set_option linter.all false
set_option maxRecDepth 100000
set_option maxHeartbeats 0
namespace Lk16
open PySem PySem.Spec PyProof.Rows L2 Lv
theorem run (w : World) : HandSHeadRun.RunEq RW (PySem.W.view RW.prog [58]) hk ob 20000 loose w := by
  intro os
  kernel_rfl
theorem worth : ∀ ns : List Int, ns.length ≤ 63 → ∃ st, callF y.pk 40 39 [.scr ns] [] = .ok (.bl true) st := fun ns h => law_ok 7 ns h
end Lk16
open PySem PySem.W PySem.Calls PyProof.Rows
theorem PySem.Challenge.cw_levelhands_k16_whole_left_and_doable_holds : PySem.Challenge.rw_levelhands_k16_whole_left_and_doable.Holds := by
  w_on; o_law
  refine HandSHeadRun.head_any (r := Lk16.RW) (q := view Lk16.RW.prog [58]) (H := Lk16.hk) (ob := Lk16.ob) (M := 20000) (loose := Lk16.loose) (d := HandSHeadRun.topDef Lk16.RW.prog 58) (kwd := []) Lk16.ob_eq
    (by kernel_rfl) (fun s => by kernel_rfl) Lk16.run (by kernel_rfl) (by kernel_rfl) (by kernel_rfl) (by rfl) (by first | assumption | decide +kernel) (by decide +kernel) ⟨rfl, rfl, rfl, rfl, rfl, by decide +kernel⟩ ?hw ?hc
  case hw => w_witness2
  case hc =>
    refine Lv.walk_go (l := PySem.Challenge.rw_levelhands_k16_whole_left_and_doable) (n := 63) (j := 40) (x := "_law_script") (pk := Lk16.y.pk) (f := 39) rfl (by decide) (by kernel_rfl) ⟨rfl, by decide, by decide⟩ (by kernel_rfl) (fun w mg h Y G => ?_) Lk16.worth
    obtain ⟨K, KX, e⟩ := Y
    exact ⟨Lk16.y.md K, KX, Lv.pk_ok KX G e Lk16.st_ok Lk16.pl_ok Lk16.bd⟩
