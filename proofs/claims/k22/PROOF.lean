import PyProof.Rows.All
import Wide.All
import OpenK.AllK
import Wide.FinOn
import HandS.ForMost
import HandS.ForExc
import HandS.IsInst
import HandS.Defaults
import HandS.Flow
import HandS.Deep
import HandS.TupAny
import HandS.More
import HandS.HeadWalk
import HandS.ExcInit
import HandS.ExcOwn
import HandS.ClsMeth
import KE.KDictPairs
import HandS.Zip
import HandS.Conv
import HandS.Set
import HandS.SetFor
import HandS.SetTxt0
import HandS.DictComp
import HandS.Head0
import HandS.Head1
import HandS.Head2
import HandS.HeadEnd
import HandS.HeadHook1
import HandS.HeadHook2
import HandS.HeadHook3
import PySem.Challenge.RW_tryschool_k22_marks_by_rule
set_option Elab.async false
section
set_option Elab.async false
set_option linter.all false
set_option maxRecDepth 100000
namespace TS
open PySem L2

abbrev LIM : Nat := 16777216

inductive D where
  | non
  | bl (b : Bool)
  | int (i : Int)
  | str (s : Str)
  | tup (xs : List D)
  | lst (xs : List D)
  | dic (ks : List Key) (ds : List D)
  | ref (n : Nat)
  | lam (k : Nat) (caps : List D)
  | scr (ns : List Int)
  | kdic (ks : List Key) (ds : List D)

inductive SO where
  | dead
  | lst (xs : List D)
  | dic (ks : List Key) (ds : List D)
  | ins (C : Nat) (ds : List D)
  | ldic (ks : List Key) (ds : List D)

abbrev Store := List SO
abbrev Slots := List (Option D)

inductive Out (α : Type) where
  | ok (a : α) (st : Store)
  | exc (c : Nat) (a : D) (st : Store)
  | bad

def Out.bind {α β : Type} (m : Out α) (f : α → Store → Out β) : Out β :=
  match m with
  | .ok a st => f a st
  | .exc c a st => .exc c a st
  | .bad => .bad

def nox {α : Type} (m : Out α) : Out α := match m with
  | .exc _ _ _ => .bad
  | m => m

inductive BOp where
  | add | sub | mul | fdiv | mod | pow
inductive COp where
  | eq | ne | lt | le | gt | ge | isN | notN | in_ | notIn | eqE | neE | eqL | neL | eqD
inductive Bf where
  | len | all | any | sum | max1 | max2 | min1 | min2 | tuple | list | abs | int | str | dict | sorted | range1 | range2 | listK | sortS | sortK | dictP | sumT
inductive Bm where
  | append | extend | pop0 | popAt | get1 | get2 | update | index | count | join | split | values | items | keys | reverse | setdefault | lstrip
inductive Tg where
  | n (i : Nat)
  | t (is_ : List Nat)

mutual
inductive DE where
  | c (d : D)
  | v (i : Nat)
  | g (i : Nat)
  | bin (o : BOp) (a b : DE)
  | neg (a : DE)
  | cmp (o : COp) (a b : DE)
  | chn (o p : COp) (a b e : DE)
  | band (es : DEs)
  | bor (es : DEs)
  | bnot (a : DE)
  | ite (t a b : DE)
  | tup (es : DEs)
  | lst (es : DEs)
  | dct (ks : List Key) (es : DEs)
  | ix (a i : DE)
  | sl (a : DE) (lo hi : DEs)
  | call (f : Nat) (es : DEs) (ds : List D)
  | callk (f : Nat) (es : DEs) (ks : List Str) (kes : DEs)
  | bf (f : Bf) (es : DEs)
  | isi (a : DE) (ty : String)
  | mth (C f : Nat) (o : DE) (es : DEs)
  | bm (m : Bm) (o : DE) (es : DEs)
  | mk (C : Nat) (es : DEs)
  | fld (C i : Nat) (o : DE)
  | lc (e : DE) (tg : Tg) (it : DI) (ifs : DEs) (own : List Nat)
  | sh (e : DE)
  | fz (e : DE)
  | mthk (C f : Nat) (o : DE) (es : DEs) (ks : List Str) (kes : DEs)
  | lrng3 (a b c : DE)
  | dc (k v : DE) (tg : Tg) (it : DI) (ifs : DEs) (own : List Nat)
  | sset (a : DE)
inductive DEs where
  | nil
  | cons (e : DE) (es : DEs)
inductive DI where
  | e (e : DE)
  | rng1 (a : DE)
  | rng2 (a b : DE)
  | enum (a : DE)
  | zip (a b : DE)
  | keysL (a : DE)
end

mutual
inductive DS where
  | pass
  | asg (tg : Tg) (e : DE)
  | par (i j : Nat) (a b : DE)
  | par3 (i j k : Nat) (a b c : DE)
  | augI (o ix : DE) (op : BOp) (e : DE)
  | setF (C i : Nat) (o e : DE)
  | augF (C i : Nat) (o : DE) (op : BOp) (e : DE)
  | aug (i : Nat) (op : BOp) (e : DE)
  | setI (o ix e : DE)
  | setI2 (o i o2 i2 e : DE)
  | expr (e : DE)
  | ret (e : DE)
  | ifs (t : DE) (a b : DSs)
  | for_ (tg : Tg) (it : DI) (b : DSs)
  | lock (e : DE) (s : DS)
  | forK (tg : Tg) (e : DE) (b : DSs)
  | whl (t : DE) (b : DSs)
  | rais (c : Nat) (es : DEs)
inductive DSs where
  | nil
  | cons (s : DS) (ss : DSs)
end

structure DDef where
  np : Nat
  ns : Nat
  body : DSs
  drops : Bool
  leaf : Bool := false

structure Tab where
  fn : Nat → Option DDef
  gl : Nat → Option D
  flds : Nat → List Str
  init : Nat → Nat
  exf : Nat → Option Str
  dfl : Nat → List D

mutual
def toPy : D → Option PyData
  | .non => some .none
  | .bl b => some (.bool b)
  | .int i => some (.int i)
  | .str s => some (.str s)
  | .tup xs => (toPys xs).map .tuple
  | .lst xs => (toPys xs).map .list
  | .dic _ _ => none
  | .ref _ => none
  | .lam _ _ => none
  | .scr _ => none
  | .kdic _ _ => none
def toPys : List D → Option (List PyData)
  | [] => some []
  | d :: r => match toPy d, toPys r with
    | some x, some xs => some (x :: xs)
    | _, _ => none
end
mutual
def noRef : D → Bool
  | .tup xs => noRefs xs
  | .lst xs => noRefs xs
  | .dic _ ds => noRefs ds
  | .ref _ => false
  | .lam _ ds => noRefs ds
  | .kdic _ ds => noRefs ds
  | _ => true
def noRefs : List D → Bool
  | [] => true
  | d :: r => noRef d && noRefs r
end
mutual
def D.beq : D → D → Bool
  | .non, .non => true
  | .bl a, .bl b => decide (a = b)
  | .int a, .int b => decide (a = b)
  | .str a, .str b => decide (a = b)
  | .tup a, .tup b => D.beqs a b
  | .lst a, .lst b => D.beqs a b
  | .dic k a, .dic l b => decide (k = l) && D.beqs a b
  | .ref a, .ref b => decide (a = b)
  | .lam k a, .lam l b => decide (k = l) && D.beqs a b
  | .scr a, .scr b => decide (a = b)
  | .kdic k a, .kdic l b => decide (k = l) && D.beqs a b
  | _, _ => false
def D.beqs : List D → List D → Bool
  | [], [] => true
  | a :: r, b :: s => D.beq a b && D.beqs r s
  | _, _ => false
end
def SO.beq : SO → SO → Bool
  | .dead, .dead => true
  | .lst a, .lst b => D.beqs a b
  | .dic k a, .dic l b => decide (k = l) && D.beqs a b
  | .ins k a, .ins l b => decide (k = l) && D.beqs a b
  | .ldic k a, .ldic l b => decide (k = l) && D.beqs a b
  | _, _ => false
def pre : Store → Store → Bool
  | [], _ => true
  | a :: r, b :: s => SO.beq a b && pre r s
  | _ :: _, [] => false

def items (st : Store) : D → Option (List D)
  | .lst xs => some xs
  | .tup xs => some xs
  | .scr ns => some (ns.map .int)
  | .ref n => match st[n]? with
    | some (.lst xs) => some xs
    | _ => none
  | _ => none
def litems (st : Store) : D → Option (List D)
  | .lst xs => some xs
  | .ref n => match st[n]? with
    | some (.lst xs) => some xs
    | _ => none
  | _ => none
def ditems (st : Store) : D → Option (List Key × List D)
  | .dic ks ds => some (ks, ds)
  | .ref n => match st[n]? with
    | some (.dic ks ds) => some (ks, ds)
    | some (.ldic ks ds) => some (ks, ds)
    | _ => none
  | _ => none
def pyOf (st : Store) : D → Option PyData
  | .ref n => match st[n]? with
    | some (.lst xs) => (toPys xs).map .list
    | _ => none
  | d => toPy d
def keyOf : D → Option Key
  | .int i => some (.inl i)
  | .str s => some (.inr s)
  | _ => none
def kD : Key → D
  | .inl i => .int i
  | .inr s => .str s
def dget : List Key → List D → Key → Option D
  | k :: ks, d :: ds, q => if k = q then some d else dget ks ds q
  | _, _, _ => none
def dputD (ks : List Key) (ds : List D) (q : Key) (x : D) : List D :=
  if (ks.any fun k => decide (k = q)) = true then (ks.zip ds).map fun p => if p.1 = q then x else p.2 else ds ++ [x]
def dputK (ks : List Key) (q : Key) : List Key := if (ks.any fun k => decide (k = q)) = true then ks else ks ++ [q]
def boolB (b : Bool) : Int := if b then 1 else 0
def flatD : D → Bool
  | .non => true
  | .bl _ => true
  | .int _ => true
  | .str _ => true
  | _ => false
def eqF : D → D → Bool
  | .non, .non => true
  | .bl a, .bl b => a == b
  | .bl a, .int b => (if a then 1 else 0) == b
  | .int a, .bl b => a == (if b then 1 else 0)
  | .int a, .int b => a == b
  | .str a, .str b => a == b
  | _, _ => false
def tru (st : Store) : D → Option Bool
  | .non => some false
  | .bl b => some b
  | .int i => some (i != 0)
  | .str s => if s.length ≤ LIM then some ((s.length : Int) != 0) else none
  | .tup xs => some (!xs.isEmpty)
  | .lst xs => some (!xs.isEmpty)
  | .ref n => match st[n]? with
    | some (.lst xs) => some (!xs.isEmpty)
    | _ => none
  | _ => none
def lenD (st : Store) : D → Option Nat
  | .str s => if s.length ≤ LIM then some s.length else none
  | d => (items st d).map List.length
def absI (i : Int) : Int := if i < 0 then -i else i
abbrev inB64 (i : Int) : Bool := decide (-(2 ^ 64) < i) && decide (i < 2 ^ 64)
def cutD {α : Type} (xs : List α) (lo hi : Option Int) : List α := (xs.drop (HT.sIx xs.length 0 lo)).take (HT.sIx xs.length xs.length hi - HT.sIx xs.length 0 lo)
def okO {α : Type} (o : Option α) (st : Store) : Out α := match o with
  | some a => .ok a st
  | none => .bad

def binV (o : BOp) (st : Store) (x y : D) : Option D :=
  match o, x, y with
  | .add, .int i, .int j => some (.int (i + j))
  | .sub, .int i, .int j => some (.int (i - j))
  | .mul, .int i, .int j => if (inB64 i || inB64 j) then some (.int (i * j)) else none
  | .fdiv, .int i, .int j => if j ≠ 0 ∧ j.natAbs < 1073741824 then some (.int (i.fdiv j)) else none
  | .mod, .int i, .int j => if j ≠ 0 then some (.int (i.fmod j)) else none
  | .pow, .int i, .int j => if 0 ≤ j ∧ j ≤ 1000000 ∧ i.natAbs < 2 ^ 64 then some (.int (i ^ j.toNat)) else none
  | .add, .str a, .str b => if a.length + b.length ≤ LIM then some (.str (a ++ b)) else none
  | .add, .tup xs, .tup ys => if xs.length + ys.length ≤ LIM then some (.tup (xs ++ ys)) else none
  | .add, x, y => match litems st x, litems st y with
    | some xs, some ys => if xs.length + ys.length ≤ LIM then some (.lst (xs ++ ys)) else none
    | _, _ => none
  | .mul, x, .int k => match litems st x with
    | some xs => if -(2 ^ 63) ≤ k ∧ k < 2 ^ 63 ∧ xs.length * k.toNat ≤ LIM then some (.lst (List.replicate k.toNat xs).flatten) else none
    | none => none
  | _, _, _ => none
def eqv? (st : Store) (x y : D) : Option Bool := match pyOf st x, pyOf st y with
  | some a, some b => if SeqAt.shaped a && SeqAt.shaped b then some (PyData.eqv a b) else none
  | _, _ => none
def isN : D → Bool
  | .non => true
  | _ => false
def inV? (st : Store) (x y : D) : Option Bool := match x, y with
  | .str c, .str z => if c.length = 1 then some (decide (c.cps.toList.headD 0 ∈ z.cps.toList)) else none
  | x, y => match items st y with
    | some ys => if flatD x && ys.all flatD then some (ys.any fun z => eqF z x) else none
    | none => match ditems st y, keyOf x with
      | some (ks, ds), some k => some (dget ks ds k).isSome
      | _, _ => none
def eqE? (st : Store) (x y : D) : Option Bool := match ditems st x, ditems st y with
  | some (ks, _), some ([], _) => some ks.isEmpty
  | _, _ => none
def eqL? (st : Store) (x y : D) : Option Bool := match litems st x, litems st y with
  | some xs, some [] => some xs.isEmpty
  | _, _ => none
def eqDD? (st : Store) (x y : D) : Option Bool := match ditems st x, ditems st y with
  | some (ks, ds), some (ks', ds') => if (decide (ks.length = ks'.length) && (ks.zip ds).all fun p => match dget ks' ds' p.1 with
      | some d => decide (eqv? st p.2 d = some true)
      | none => false) = true then some true else none
  | _, _ => none
def cmpV (o : COp) (st : Store) (x y : D) : Option Bool :=
  match o with
  | .eq => eqv? st x y
  | .ne => (eqv? st x y).map not
  | .isN => match y with | .non => some (isN x) | _ => none
  | .notN => match y with | .non => some (!isN x) | _ => none
  | .in_ => inV? st x y
  | .notIn => (inV? st x y).map not
  | .eqE => eqE? st x y
  | .neE => (eqE? st x y).map not
  | .eqL => eqL? st x y
  | .eqD => eqDD? st x y
  | .neL => (eqL? st x y).map not
  | .lt => match x, y with | .int i, .int j => some (decide (i < j)) | _, _ => none
  | .le => match x, y with | .int i, .int j => some (decide (i ≤ j)) | _, _ => none
  | .gt => match x, y with | .int i, .int j => some (decide (j < i)) | _, _ => none
  | .ge => match x, y with | .int i, .int j => some (decide (j ≤ i)) | _, _ => none
def ixV (st : Store) (x y : D) : Option D :=
  match items st x, y with
  | some xs, .int i => atI xs i
  | some _, _ => none
  | none, y => match x with
    | .str z => match y with
      | .int i => if z.length ≤ LIM then (atI z.cps.toList i).map fun c => .str ⟨#[c]⟩ else none
      | _ => none
    | x => match ditems st x, keyOf y with
      | some (ks, ds), some k => dget ks ds k
      | _, _ => none
def optI : List D → Option (Option Int)
  | [] => some none
  | [.int i] => some (some i)
  | _ => none
def slV (st : Store) (x : D) (lo hi : Option Int) : Option D :=
  match x with
  | .tup xs => some (.tup (cutD xs lo hi))
  | .str z => if z.length ≤ LIM then some (.str (cutS z lo hi)) else none
  | x => (litems st x).map fun xs => .lst (cutD xs lo hi)
def tyD (st : Store) : D → Option String
  | .non => some "NoneType"
  | .bl _ => some "bool"
  | .int _ => some "int"
  | .str _ => some "str"
  | .tup _ => some "tuple"
  | .lst _ => some "list"
  | .dic _ _ => none
  | .ref n => match st[n]? with
    | some (.lst _) => some "list"
    | some (.dic _ _) => some "dict"
    | _ => none
  | .lam _ _ => none
  | .scr _ => none
  | .kdic _ _ => none
def isiV (t ty : String) : Bool := t = ty || (t = "bool" && ty = "int")
def intsD : List D → Option (List Int)
  | [] => some []
  | .int i :: r => (intsD r).map (i :: ·)
  | _ :: _ => none
def boolsD : List D → Option (List Bool)
  | [] => some []
  | .bl b :: r => (boolsD r).map (b :: ·)
  | _ :: _ => none
def listMax : List Int → Option Int
  | [] => none
  | a :: r => some (r.foldl (fun m x => if x > m then x else m) a)
def listMin : List Int → Option Int
  | [] => none
  | a :: r => some (r.foldl (fun m x => if x < m then x else m) a)
def rangeD (lo : Int) (n : Nat) : List D := (List.range n).map fun (i : Nat) => .int (lo + (i : Int))
def strsD : List D → Option (List Str)
  | [] => some []
  | .str s :: r => (strsD r).map (s :: ·)
  | _ :: _ => none
def keysS : List Key → Option (List Str)
  | [] => some []
  | .inr s :: r => (keysS r).map (s :: ·)
  | .inl _ :: _ => none
def insS (x : Str) : List Str → List Str
  | [] => [x]
  | y :: r => if PySem.Spec.ltCps y.cps.toList x.cps.toList = true then y :: insS x r else x :: y :: r
def sortStr : List Str → List Str
  | [] => []
  | x :: r => insS x (sortStr r)
def dedS : List Str → List Str
  | [] => []
  | x :: r => if x ∈ dedS r then dedS r else x :: dedS r
def prsD : List D → Option (List (Key × D))
  | [] => some []
  | .tup [k, x] :: r => match keyOf k, prsD r with
    | some q, some ps => some ((q, x) :: ps)
    | _, _ => none
  | _ :: _ => none
def putAllK : List (Key × D) → List Key → List Key
  | [], ks => ks
  | p :: r, ks => putAllK r (dputK ks p.1)
def putAllD : List (Key × D) → List Key → List D → List D
  | [], _, ds => ds
  | p :: r, ks, ds => putAllD r (dputK ks p.1) (dputD ks ds p.1 p.2)
def bfV (f : Bf) (st : Store) (xs : List D) : Option D :=
  match f, xs with
  | .len, [x] => Option.map (fun (n : Nat) => D.int (n : Int)) (lenD st x)
  | .all, [x] => ((litems st x).bind boolsD).map fun bs => .bl (bs.all id)
  | .any, [x] => ((litems st x).bind boolsD).map fun bs => .bl (bs.any id)
  | .sum, [x] => ((litems st x).bind intsD).map fun ns => .int ns.sum
  | .max1, [x] => ((litems st x).bind intsD).bind fun ns => (listMax ns).map .int
  | .min1, [x] => ((litems st x).bind intsD).bind fun ns => (listMin ns).map .int
  | .max2, [.int i, .int j] => some (.int (if j > i then j else i))
  | .min2, [.int i, .int j] => some (.int (if j < i then j else i))
  | .tuple, [x] => (items st x).map .tup
  | .list, [x] => (items st x).map .lst
  | .abs, [.int i] => some (.int (absI i))
  | .int, [.int i] => some (.int i)
  | .int, [.bl b] => some (.int (boolB b))
  | .str, [.int i] => if i.natAbs.log2 < 1920 then some (.str (Str.ofString (toString i))) else none
  | .dict, [x] => (ditems st x).map fun p => .dic p.1 p.2
  | .listK, [x] => (ditems st x).map fun p => .lst (p.1.map kD)
  | .sortS, [x] => ((litems st x).bind strsD).bind fun ss => if ss.length < 64 then some (.lst ((sortStr ss).map .str)) else none
  | .sortK, [x] => ((ditems st x).bind fun p => keysS p.1).bind fun ss => if ss.length < 64 then some (.lst ((sortStr ss).map .str)) else none
  | .dictP, [x] => ((litems st x).bind prsD).map fun ps => .dic (putAllK ps []) (putAllD ps [] [])
  | .sumT, [.tup xs] => (intsD xs).map fun ns => .int ns.sum
  | _, _ => none
def bmV (m : Bm) (st : Store) (o : D) (xs : List D) : Out D :=
  match m, o, xs with
  | .append, .ref n, [x] => match st[n]? with
    | some (.lst ys) => if ys.length < LIM then .ok .non (st.set n (.lst (ys ++ [x]))) else .bad
    | _ => .bad
  | .extend, .ref n, [x] => match st[n]?, litems st x with
    | some (.lst ys), some zs => if ys.length + zs.length ≤ LIM then .ok .non (st.set n (.lst (ys ++ zs))) else .bad
    | _, _ => .bad
  | .popAt, .ref n, [.int i] => match st[n]? with
    | some (.lst ys) => match ixN ys.length i with
      | some j => match ys[j]? with
        | some y => if -1000000000 ≤ i ∧ i ≤ 1000000000 then .ok y (st.set n (.lst (ys.eraseIdx j))) else .bad
        | none => .bad
      | none => .bad
    | _ => .bad
  | .pop0, .ref n, [] => match st[n]? with
    | some (.lst ys) => match ys[ys.length - 1]? with
      | some y => .ok y (st.set n (.lst ys.dropLast))
      | none => .bad
    | _ => .bad
  | .update, .ref n, [x] => match st[n]?, litems st x with
    | some (.dic ks ds), some zs => match prsD zs with
      | some ps => if ks.length + ps.length ≤ LIM then .ok .non (st.set n (.dic (putAllK ps ks) (putAllD ps ks ds))) else .bad
      | none => .bad
    | _, _ => .bad
  | .get1, o, [k] => match ditems st o, keyOf k with
    | some (ks, ds), some q => .ok ((dget ks ds q).getD .non) st
    | _, _ => .bad
  | .get2, o, [k, d] => match o, keyOf k with
    | .kdic ks ds, some q => .ok ((dget ks ds q).getD d) st
    | o, some q => match ditems st o with
      | some (ks, ds) => .ok ((dget ks ds q).getD d) st
      | none => .bad
    | _, none => .bad
  | _, _, _ => .bad
def isDic (st : Store) : D → Bool
  | .kdic _ _ => true
  | o => (ditems st o).isSome
def isStr : D → Bool
  | .str _ => true
  | _ => false
def bmTy (m : Bm) (st : Store) (o : D) : Bool := match m with
  | .get1 | .get2 | .update | .values | .items | .keys | .setdefault => isDic st o
  | .join | .split | .lstrip => isStr o
  | _ => (litems st o).isSome
def augV (o : BOp) (x y : D) : Option D := match o, x, y with
  | .add, .int i, .int j => some (.int (i + j))
  | .sub, .int i, .int j => some (.int (i - j))
  | _, _, _ => none
def setIV (st : Store) (o i v : D) : Out Unit :=
  match o with
  | .ref n => match st[n]? with
    | some (.lst ys) => match i with
      | .int k => match ixN ys.length k with
        | some j => .ok () (st.set n (.lst (ys.set j v)))
        | none => .bad
      | _ => .bad
    | some (.dic ks ds) => match keyOf i with
      | some q => if ks.length < LIM then .ok () (st.set n (.dic (dputK ks q) (dputD ks ds q v))) else .bad
      | none => .bad
    | _ => .bad
  | _ => .bad
def getIV (st : Store) (o i : D) : Option D := match o, i with
  | .ref n, .int k => match st[n]? with
    | some (.lst ys) => if 0 ≤ k then ys[k.toNat]? else none
    | _ => none
  | _, _ => none
def shV (st : Store) : D → Out D
  | .lst xs => .ok (.ref st.length) (st ++ [.lst xs])
  | .dic ks ds => .ok (.ref st.length) (st ++ [.dic ks ds])
  | _ => .bad
def fzV (st : Store) : D → Out D
  | .ref n => match st[n]? with
    | some (.lst xs) => .ok (.lst xs) (st.set n .dead)
    | some (.dic ks ds) => .ok (.dic ks ds) (st.set n .dead)
    | _ => .bad
  | d => .ok d st
def fldV (C i : Nat) (st : Store) : D → Option D
  | .ref n => match st[n]? with
    | some (.ins C' ds) => if C' = C then ds[i]? else none
    | _ => none
  | _ => none
def setFV (nf : Nat) (C i : Nat) (st : Store) (o v : D) : Out Unit :=
  match o with
  | .ref n => match st[n]? with
    | some (.ins C' ds) => if C' = C ∧ i ≤ ds.length ∧ i < nf then .ok () (st.set n (.ins C (if i = ds.length then ds ++ [v] else ds.set i v))) else .bad
    | _ => .bad
  | _ => .bad
def asgV (tg : Tg) (sl : Slots) (x : D) : Option Slots :=
  match tg with
  | .n i => some (sl.set i (some x))
  | .t is_ => match x with
    | .tup xs => if xs.length = is_.length then some ((is_.zip xs).foldl (fun s p => s.set p.1 (some p.2)) sl) else none
    | _ => none
def wipeD (sl : Slots) (own : List Nat) : Slots := own.foldr (fun i s => s.set i none) sl
def stays (st : Store) (x : D) (xs : List D) : Bool := match x with
  | .ref n => match st[n]? with
    | some (.lst ys) => D.beqs ys xs
    | _ => false
  | _ => true

abbrev Phi := Nat → List D → Store → Out D
abbrev WF : Nat := 1000000

section
variable (T : Tab) (f : Phi)
def lcLoop (ok : Store → Bool) (turn : D → Store → Out (Option D)) : List D → Store → Out (List D)
  | [], st => if ok st then .ok [] st else .bad
  | x :: r, st => if ok st then
      (turn x st).bind fun o st1 => (lcLoop ok turn r st1).bind fun ys st2 => .ok (match o with | some y => y :: ys | none => ys) st2
    else .bad
end
structure Wk where
  xs : List D
  ok : Store → Bool
def enumD : Nat → List D → List D
  | _, [] => []
  | n, x :: r => .tup [.int n, x] :: enumD (n + 1) r
def zipD : List D → List D → List D
  | x :: r, y :: s => .tup [x, y] :: zipD r s
  | _, _ => []
def lkd (n : Nat) (ks : List Key) (ds : List D) (st : Store) : Bool := match st[n]? with
  | some (.ldic ks' ds') => decide (ks' = ks) && D.beqs ds' ds
  | _ => false
def wkOf (st : Store) (d : D) : Option Wk := match d with
  | .str z => some ⟨z.cps.toList.map fun c => .str ⟨#[c]⟩, fun _ => true⟩
  | .dic ks _ => some ⟨ks.map kD, fun _ => true⟩
  | d => (items st d).map fun xs => ⟨xs, fun s => stays s d xs⟩

mutual
def evE (T : Tab) (f : Phi) : DE → Slots → Store → Out D
  | .c d, _, st => .ok d st
  | .v i, sl, st => match sl[i]? with
    | some (some d) => .ok d st
    | _ => .bad
  | .g i, _, st => okO (T.gl i) st
  | .bin o a b, sl, st => (evE T f a sl st).bind fun x st1 => (evE T f b sl st1).bind fun y st2 => okO (binV o st2 x y) st2
  | .neg a, sl, st => (evE T f a sl st).bind fun x st1 => match x with
    | .int i => .ok (.int (-i)) st1
    | _ => .bad
  | .cmp o a b, sl, st => (evE T f a sl st).bind fun x st1 => (evE T f b sl st1).bind fun y st2 => (okO (cmpV o st2 x y) st2).bind fun k st3 => .ok (.bl k) st3
  | .chn o p a b e, sl, st => (evE T f a sl st).bind fun x st1 => (evE T f b sl st1).bind fun y st2 => (okO (cmpV o st2 x y) st2).bind fun k st3 =>
      if k = true then (evE T f e sl st3).bind fun z st4 => (okO (cmpV p st4 y z) st4).bind fun k2 st5 => .ok (.bl k2) st5 else .ok (.bl false) st3
  | .band es, sl, st => evAnd T f es sl st
  | .bor es, sl, st => evOr T f es sl st
  | .bnot a, sl, st => (evE T f a sl st).bind fun x st1 => (okO (tru st1 x) st1).bind fun k st2 => .ok (.bl (!k)) st2
  | .ite t a b, sl, st => (evT T f t sl st).bind fun k st1 => if k = true then evE T f a sl st1 else evE T f b sl st1
  | .tup es, sl, st => (evEs T f es sl st).bind fun xs st1 => .ok (.tup xs) st1
  | .lst es, sl, st => (evEs T f es sl st).bind fun xs st1 => .ok (.lst xs) st1
  | .dct ks es, sl, st => (evEs T f es sl st).bind fun xs st1 => if xs.length = ks.length then .ok (.dic ks xs) st1 else .bad
  | .ix a i, sl, st => (evE T f a sl st).bind fun x st1 => (evE T f i sl st1).bind fun y st2 => okO (ixV st2 x y) st2
  | .sl a lo hi, sl, st => (evE T f a sl st).bind fun x st1 => (evEs T f lo sl st1).bind fun l st2 => (okO (optI l) st2).bind fun l st2 => (evEs T f hi sl st2).bind fun h st3 => (okO (optI h) st3).bind fun h st3 => okO (slV st3 x l h) st3
  | .call g es ds, sl, st => (evEs T f es sl st).bind fun xs st1 => f g (xs ++ ds) st1
  | .callk g es _ kes, sl, st => (evEs T f es sl st).bind fun xs st1 => (evEs T f kes sl st1).bind fun ys st2 => f g (xs ++ ys) st2
  | .bf g es, sl, st => (evEs T f es sl st).bind fun xs st1 => okO (bfV g st1 xs) st1
  | .isi a ty, sl, st => (evE T f a sl st).bind fun x st1 => (okO (tyD st1 x) st1).bind fun t st2 => .ok (.bl (isiV t ty)) st2
  | .mth C g o es, sl, st => (evE T f o sl st).bind fun x st1 => match x with
    | .ref n => match st1[n]? with
      | some (.ins C' _) => if C' = C then (evEs T f es sl st1).bind fun xs st2 => f g (.ref n :: xs) st2 else .bad
      | _ => .bad
    | _ => .bad
  | .bm m o es, sl, st => (evE T f o sl st).bind fun x st1 => if bmTy m st1 x = true then (evEs T f es sl st1).bind fun xs st2 => bmV m st2 x xs else .bad
  | .mk C es, sl, st => (evEs T f es sl st).bind fun xs st1 => (f (T.init C) (.ref st1.length :: xs) (st1 ++ [.ins C []])).bind fun x st2 => match x with
    | .non => .ok (.ref st1.length) st2
    | _ => .bad
  | .fld C i o, sl, st => (evE T f o sl st).bind fun x st1 => okO (fldV C i st1 x) st1
  | .lc e tg it cs own, sl, st => (evI T f it sl st).bind fun w st1 => nox <|
      (lcLoop w.ok (fun x st2 => match asgV tg (wipeD sl own) x with
        | some sl2 => (evTs T f cs sl2 st2).bind fun k st3 => if k = true then (evE T f e sl2 st3).bind fun y st4 => .ok (some y) st4 else .ok none st3
        | none => .bad) w.xs st1).bind fun ys st2 => if ys.length ≤ LIM then .ok (.lst ys) st2 else .bad
  | .sh e, sl, st => (evE T f e sl st).bind fun x st1 => shV st1 x
  | .fz e, sl, st => (evE T f e sl st).bind fun x st1 => fzV st1 x
  | .mthk C g o es ks kes, sl, st => (evE T f o sl st).bind fun x st1 => match x with
    | .ref n => match st1[n]? with
      | some (.ins C' _) => if C' = C then (evEs T f es sl st1).bind fun xs st2 => (evEs T f kes sl st2).bind fun ys st3 => f g (.ref n :: (xs ++ (if ks.isEmpty = true then T.dfl g else ys))) st3 else .bad
      | _ => .bad
    | _ => .bad
  | .lrng3 a b c, sl, st => (evE T f a sl st).bind fun x st1 => (evE T f b sl st1).bind fun y st2 => (evE T f c sl st2).bind fun z st3 => match x, y, z with
    | .int i, .int j, .int k => if k = -1 ∧ i ≤ 1000000 ∧ -1000000 ≤ i ∧ j ≤ 1000000 ∧ -1000000 ≤ j then .ok (.lst ((List.range (i - j).toNat).map fun (t : Nat) => .int (i - (t : Int)))) st3 else .bad
    | _, _, _ => .bad
  | .dc k e tg it cs own, sl, st => (evI T f it sl st).bind fun w st1 => nox <|
      (lcLoop w.ok (fun x st2 => match asgV tg (wipeD sl own) x with
        | some sl2 => (evTs T f cs sl2 st2).bind fun b st3 => if b = true then (evE T f k sl2 st3).bind fun y st4 => (evE T f e sl2 st4).bind fun z st5 => .ok (some (.tup [y, z])) st5 else .ok none st3
        | none => .bad) w.xs st1).bind fun ys st2 => match prsD ys with
          | some ps => if ps.length ≤ LIM then .ok (.dic (putAllK ps []) (putAllD ps [] [])) st2 else .bad
          | none => .bad
  | .sset a, sl, st => (evE T f a sl st).bind fun x st1 => (okO ((litems st1 x).bind strsD) st1).bind fun ss st2 => if ss.length < 64 then .ok (.lst ((sortStr (dedS ss)).map .str)) st2 else .bad
def evEs (T : Tab) (f : Phi) : DEs → Slots → Store → Out (List D)
  | .nil, _, st => .ok [] st
  | .cons e es, sl, st => (evE T f e sl st).bind fun x st1 => (evEs T f es sl st1).bind fun xs st2 => .ok (x :: xs) st2
def evAnd (T : Tab) (f : Phi) : DEs → Slots → Store → Out D
  | .nil, _, _ => .bad
  | .cons e .nil, sl, st => evE T f e sl st
  | .cons e es, sl, st => (evE T f e sl st).bind fun x st1 => match x with
    | .bl true => evAnd T f es sl st1
    | .bl false => .ok (.bl false) st1
    | _ => .bad
def evOr (T : Tab) (f : Phi) : DEs → Slots → Store → Out D
  | .nil, _, _ => .bad
  | .cons e .nil, sl, st => evE T f e sl st
  | .cons e es, sl, st => (evE T f e sl st).bind fun x st1 => match x with
    | .bl false => evOr T f es sl st1
    | .bl true => .ok (.bl true) st1
    | _ => .bad
def evT (T : Tab) (f : Phi) : DE → Slots → Store → Out Bool
  | .band es, sl, st => evTs T f es sl st
  | .bor es, sl, st => evTo T f es sl st
  | .bnot a, sl, st => (evT T f a sl st).bind fun k st1 => .ok (!k) st1
  | .cmp o a b, sl, st => (evE T f a sl st).bind fun x st1 => (evE T f b sl st1).bind fun y st2 => okO (cmpV o st2 x y) st2
  | .chn o p a b e, sl, st => (evE T f a sl st).bind fun x st1 => (evE T f b sl st1).bind fun y st2 => (okO (cmpV o st2 x y) st2).bind fun k st3 =>
      if k = true then (evE T f e sl st3).bind fun z st4 => okO (cmpV p st4 y z) st4 else .ok false st3
  | e, sl, st => (evE T f e sl st).bind fun x st1 => okO (tru st1 x) st1
def evTs (T : Tab) (f : Phi) : DEs → Slots → Store → Out Bool
  | .nil, _, st => .ok true st
  | .cons e es, sl, st => (evT T f e sl st).bind fun k st1 => if k = true then evTs T f es sl st1 else .ok false st1
def evTo (T : Tab) (f : Phi) : DEs → Slots → Store → Out Bool
  | .nil, _, st => .ok false st
  | .cons e es, sl, st => (evT T f e sl st).bind fun k st1 => if k = true then .ok true st1 else evTo T f es sl st1
def evI (T : Tab) (f : Phi) : DI → Slots → Store → Out Wk
  | .e a, sl, st => (evE T f a sl st).bind fun x st1 => okO (wkOf st1 x) st1
  | .rng1 a, sl, st => (evE T f a sl st).bind fun x st1 => match x with
    | .int n => if n ≤ 1000000000 ∧ -1000000000 ≤ n then .ok ⟨rangeD 0 n.toNat, fun _ => true⟩ st1 else .bad
    | _ => .bad
  | .rng2 a b, sl, st => (evE T f a sl st).bind fun x st1 => (evE T f b sl st1).bind fun y st2 => match x, y with
    | .int m, .int n => if n ≤ 1000000000 ∧ -1000000000 ≤ n ∧ m ≤ 1000000000 ∧ -1000000000 ≤ m then .ok ⟨rangeD m (n - m).toNat, fun _ => true⟩ st2 else .bad
    | _, _ => .bad
  | .enum a, sl, st => (evE T f a sl st).bind fun x st1 => match x with
    | .lst xs => .ok ⟨enumD 0 xs, fun _ => true⟩ st1
    | _ => .bad
  | .zip a b, sl, st => (evE T f a sl st).bind fun x st1 => (evE T f b sl st1).bind fun y st2 => match x, y with
    | .tup xs, .tup ys => .ok ⟨zipD xs ys, fun _ => true⟩ st2
    | _, _ => .bad
  | .keysL a, sl, st => (evE T f a sl st).bind fun x st1 => match x with
    | .ref n => match st1[n]? with
      | some (.ldic ks ds) => .ok ⟨ks.map kD, fun s => lkd n ks ds s⟩ st1
      | _ => .bad
    | _ => .bad
end

inductive OutS where
  | next (sl : Slots) (st : Store)
  | ret (d : D) (st : Store)
  | exc (c : Nat) (a : D) (st : Store)
  | bad

def Out.then {α : Type} (m : Out α) (k : α → Store → OutS) : OutS :=
  match m with
  | .ok a st => k a st
  | .exc c a st => .exc c a st
  | .bad => .bad
def OutS.bind (m : OutS) (k : Slots → Store → OutS) : OutS :=
  match m with
  | .next sl st => k sl st
  | r => r
def nextO (sl : Option Slots) (st : Store) : OutS := match sl with
  | some sl => .next sl st
  | none => .bad
def forLoop (ok : Store → Bool) (tg : Tg) (body : Slots → Store → OutS) : List D → Slots → Store → OutS
  | [], sl, st => if ok st then .next sl st else .bad
  | x :: r, sl, st => if ok st then
      (match asgV tg sl x with
        | some sl1 => (body sl1 st).bind fun sl2 st2 => forLoop ok tg body r sl2 st2
        | none => .bad)
    else .bad
def whlLoop (test : Slots → Store → Out Bool) (body : Slots → Store → OutS) : Nat → Slots → Store → OutS
  | 0, _, _ => .bad
  | n + 1, sl, st => (test sl st).then fun k st1 => if k = true then (body sl st1).bind fun sl2 st2 => whlLoop test body n sl2 st2 else .next sl st1

def unlk (n : Nat) (ks : List Key) (ds : List D) (r : OutS) : OutS := match r with
  | .next sl st => if lkd n ks ds st = true then .next sl (st.set n (.dic ks ds)) else .bad
  | .ret d st => if lkd n ks ds st = true then .ret d (st.set n (.dic ks ds)) else .bad
  | _ => .bad
mutual
def exS (T : Tab) (f : Phi) : DS → Slots → Store → OutS
  | .pass, sl, st => .next sl st
  | .asg tg e, sl, st => (evE T f e sl st).then fun x st1 => nextO (asgV tg sl x) st1
  | .par i j a b, sl, st => (evE T f a sl st).then fun x st1 => (evE T f b sl st1).then fun y st2 => .next ((sl.set i (some x)).set j (some y)) st2
  | .par3 i j k a b c, sl, st => (evE T f a sl st).then fun x st1 => (evE T f b sl st1).then fun y st2 => (evE T f c sl st2).then fun z st3 => .next (((sl.set i (some x)).set j (some y)).set k (some z)) st3
  | .augI o ix op e, sl, st => (evE T f o sl st).then fun x st1 => (evE T f ix sl st1).then fun i st2 => (okO (getIV st2 x i) st2).then fun u st2 => (evE T f e sl st2).then fun y st3 => (okO (augV op u y) st3).then fun z st3 => (setIV st3 x i z).then fun _ st4 => .next sl st4
  | .setF C i o e, sl, st => (evE T f e sl st).then fun y st1 => (evE T f o sl st1).then fun x st2 => (setFV (T.flds C).length C i st2 x y).then fun _ st3 => .next sl st3
  | .augF C i o op e, sl, st => (evE T f o sl st).then fun x st1 => (okO (fldV C i st1 x) st1).then fun u st1 => (evE T f e sl st1).then fun y st2 =>
      (okO (augV op u y) st2).then fun z st2 => (setFV (T.flds C).length C i st2 x z).then fun _ st3 => .next sl st3
  | .aug i op e, sl, st => match sl[i]? with
    | some (some u) => (evE T f e sl st).then fun y st1 => (okO (augV op u y) st1).then fun z st1 => .next (sl.set i (some z)) st1
    | _ => .bad
  | .setI o ix e, sl, st => (evE T f e sl st).then fun y st1 => (evE T f o sl st1).then fun x st2 => (evE T f ix sl st2).then fun i st3 => (setIV st3 x i y).then fun _ st4 => .next sl st4
  | .setI2 o i o2 i2 e, sl, st => (evE T f e sl st).then fun y st1 => match y with
    | .tup [y1, y2] => (evE T f o sl st1).then fun x st2 => (evE T f i sl st2).then fun k st3 => (setIV st3 x k y1).then fun _ st4 =>
        (evE T f o2 sl st4).then fun x2 st5 => (evE T f i2 sl st5).then fun k2 st6 => (setIV st6 x2 k2 y2).then fun _ st7 => .next sl st7
    | _ => .bad
  | .expr e, sl, st => (evE T f e sl st).then fun _ st1 => .next sl st1
  | .ret e, sl, st => (evE T f e sl st).then fun x st1 => .ret x st1
  | .ifs t a b, sl, st => (evT T f t sl st).then fun k st1 => if k = true then exSs T f a sl st1 else exSs T f b sl st1
  | .for_ tg it b, sl, st => (evI T f it sl st).then fun w st1 => forLoop w.ok tg (fun sl2 st2 => exSs T f b sl2 st2) w.xs sl st1
  | .forK tg e b, sl, st => match evE T f e sl st with
    | .ok (.ref n) _ => match st[n]? with
      | some (.dic ks ds) => unlk n ks ds ((evI T f (.keysL e) sl (st.set n (.ldic ks ds))).then fun w st1 => forLoop w.ok tg (fun sl2 st2 => exSs T f b sl2 st2) w.xs sl st1)
      | _ => .bad
    | _ => .bad
  | .lock e s, sl, st => match evE T f e sl st with
    | .ok (.ref n) _ => match st[n]? with
      | some (.dic ks ds) => unlk n ks ds (exS T f s sl (st.set n (.ldic ks ds)))
      | _ => .bad
    | _ => .bad
  | .whl t b, sl, st => whlLoop (fun sl2 st2 => evT T f t sl2 st2) (fun sl2 st2 => exSs T f b sl2 st2) WF sl st
  | .rais c es, sl, st => (evEs T f es sl st).then fun xs st1 => match xs with
    | [] => .exc c .non st1
    | [x] => .exc c x st1
    | _ => .bad
def exSs (T : Tab) (f : Phi) : DSs → Slots → Store → OutS
  | .nil, sl, st => .next sl st
  | .cons s ss, sl, st => (exS T f s sl st).bind fun sl1 st1 => exSs T f ss sl1 st1
end

def fin (drops : Bool) (st : Store) (r : OutS) : Out D :=
  match r with
  | .next _ st1 => if drops = true then (if pre st st1 = true then .ok .non st else .bad) else .ok .non st1
  | .ret d st1 => if drops = true then (if (noRef d && pre st st1) = true then .ok d st else .bad) else .ok d st1
  | .exc c a st1 => if drops = true then (if (noRef a && pre st st1) = true then .exc c a st else .bad) else .exc c a st1
  | .bad => .bad
def startD (dd : DDef) (args : List D) : Slots := args.map some ++ List.replicate (dd.ns - dd.np) none
def callD (T : Tab) : Nat → Phi
  | 0, _, _, _ => .bad
  | k + 1, g, args, st => match T.fn g with
    | some dd => if args.length = dd.np then fin dd.drops st (exSs T (if dd.leaf = true then callD T 0 else callD T k) dd.body (startD dd args) st) else .bad
    | none => .bad
end TS
end

section
set_option Elab.async false
set_option linter.all false
set_option maxRecDepth 100000
set_option maxHeartbeats 1000000
namespace TS
open PySem PySem.Spec PyProof.Rows L2

inductive Ro where
  | frz
  | sto (n : Nat)
  | tmp
structure Gh where
  i : Nat → Option Addr
  r : Addr → Option Ro

def FzL (g : Gh) (H : Hp) (a : Addr) (xs : List V) : Prop := g.r a = some .frz ∧ H a = some (.lst xs)
theorem FzL.sq {K : PySem.W.Frag} {g : Gh} {H : Hp} {a : Addr} {xs : List V} (h : FzL g H a xs) : SqL K H a xs := .inl (.inl h.2)
def KDc (P : Program) (w : World) (K : PySem.W.Frag) (a : Addr) (kvs : List (Key × V)) : Prop :=
  kvs.length ≤ sizeLine ∧ ∀ h : Heap, K.In h → (a == sysModules) = false ∧ ∃ vs, KV kvs vs ∧ h.DictOf (mixKind P w) a vs
def FzD (g : Gh) (H : Hp) (a : Addr) (kvs : List (Key × V)) : Prop := g.r a = some .frz ∧ Rd H a (.dK kvs)

structure Fm where
  P : Program
  w : World
  K : PySem.W.Frag
  ca : Nat → Addr
  T : Tab

def SqS (K : PySem.W.Frag) (g : Gh) (H : Hp) (a : Addr) (xs : List V) : Prop := (g.r a = some .frz ∧ Rd H a (.lst xs)) ∨
  ∃ (o : Obj) (its : Array Value) (n : Nat), K.lookup a = some o ∧ o.cls = .type "list" ∧ o.dict = none ∧ o.data = .seq its n ∧ its.size ≤ sizeLine ∧ Vals xs its.toList
theorem SqS.sq {K : PySem.W.Frag} {g : Gh} {H : Hp} {a : Addr} {xs : List V} (h : SqS K g H a xs) : SqL K H a xs := by
  rcases h with ⟨_, h⟩ | h
  · exact .inl h
  · exact .inr h
mutual
def Rp (F : Fm) (g : Gh) (H : Hp) : D → V → Prop
  | .non, v => v = .non
  | .bl b, v => v = .bl b
  | .int i, v => v = .int i
  | .str s, v => v = .str s
  | .tup ds, v => ∃ a vs, v = .ref a ∧ SqT F.K H a vs ∧ Rps F g H ds vs
  | .lst ds, v => ∃ a vs, v = .ref a ∧ FzL g H a vs ∧ Rps F g H ds vs
  | .dic ks ds, v => ∃ a vs, v = .ref a ∧ ks.length = vs.length ∧ FzD g H a (ks.zip vs) ∧ Rps F g H ds vs
  | .ref n, v => ∃ a, v = .ref a ∧ g.i n = some a
  | .lam _ _, _ => False
  | .scr ns, v => ∃ a, v = .ref a ∧ SqS F.K g H a (ns.map V.int)
  | .kdic ks ds, v => ∃ a vs, v = .ref a ∧ ks.length = vs.length ∧ KDc F.P F.w F.K a (ks.zip vs) ∧ Rps F g H ds vs
def Rps (F : Fm) (g : Gh) (H : Hp) : List D → List V → Prop
  | [], vs => vs = []
  | d :: ds, vs => ∃ v r, vs = v :: r ∧ Rp F g H d v ∧ Rps F g H ds r
end

structure Ge (g : Gh) (H : Hp) (g' : Gh) (H' : Hp) : Prop where
  fix : ∀ a, g.r a = some .frz ∨ g.r a = some .tmp → g'.r a = g.r a ∧ (H' a = H a ∨ (g.r a = some .frz ∧ ∃ od kvs, H a = some (.dK kvs) ∧ H' a = some (.frz od (.dK kvs))))
  tup : ∀ a xs, H a = some (.tup xs) → H' a = some (.tup xs)
  fro : ∀ a o u, H a = some (.frz o u) → H' a = some (.frz o u)
  ix : ∀ n a, g.i n = some a → g'.i n = some a
structure GeW (g : Gh) (H : Hp) (g' : Gh) (H' : Hp) : Prop where
  fix : ∀ a, g.r a = some .frz ∨ g.r a = some .tmp → g'.r a = g.r a ∧ (H' a = H a ∨ (g.r a = some .frz ∧ ∃ od kvs, H a = some (.dK kvs) ∧ H' a = some (.frz od (.dK kvs))))
  tup : ∀ a xs, H a = some (.tup xs) → H' a = some (.tup xs)
  frt : ∀ a o xs, H a = some (.frz o (.tup xs)) → H' a = some (.frz o (.tup xs))
  ix : ∀ n a, g.i n = some a → g'.i n = some a
theorem Ge.w {g g' : Gh} {H H' : Hp} (e : Ge g H g' H') : GeW g H g' H' := ⟨e.fix, e.tup, fun a o xs h => e.fro a o _ h, e.ix⟩
theorem GeW.frz {g g' : Gh} {H H' : Hp} (e : GeW g H g' H') (a : Addr) (h : g.r a = some .frz) : g'.r a = some .frz := (e.fix a (.inl h)).1.trans h
theorem GeW.frzL {g g' : Gh} {H H' : Hp} (e : GeW g H g' H') (a : Addr) (h : g.r a = some .frz) {u : HO} (hu : H a = some u) (nd : ∀ kvs, u ≠ .dK kvs) : H' a = some u := by
  rcases (e.fix a (.inl h)).2 with q | ⟨_, od, kvs, q, _⟩
  · exact q.trans hu
  · rw [hu] at q
    cases q
    exact absurd rfl (nd kvs)
theorem GeW.frzD {g g' : Gh} {H H' : Hp} (e : GeW g H g' H') (a : Addr) (h : g.r a = some .frz) {kvs : List (Key × V)} (hu : Rd H a (.dK kvs)) : Rd H' a (.dK kvs) := by
  rcases (e.fix a (.inl h)).2 with q | ⟨_, od, kvs', q, q2⟩
  · unfold Rd at *
    rw [q]; exact hu
  · rcases hu with hu | ⟨o, hu⟩
    · rw [hu] at q
      cases q
      exact .inr ⟨od, q2⟩
    · rw [hu] at q
      cases q
theorem GeW.tmp {g g' : Gh} {H H' : Hp} (e : GeW g H g' H') (a : Addr) (h : g.r a = some .tmp) : g'.r a = some .tmp ∧ H' a = H a := by
  obtain ⟨h1, h2⟩ := e.fix a (.inr h)
  refine ⟨h1.trans h, ?_⟩
  rcases h2 with q | ⟨z, _⟩
  · exact q
  · rw [h] at z; cases z
theorem Ge.frz {g g' : Gh} {H H' : Hp} (e : Ge g H g' H') (a : Addr) (h : g.r a = some .frz) : g'.r a = some .frz := (e.fix a (.inl h)).1.trans h
theorem Ge.frzL {g g' : Gh} {H H' : Hp} (e : Ge g H g' H') (a : Addr) (h : g.r a = some .frz) {u : HO} (hu : H a = some u) (nd : ∀ kvs, u ≠ .dK kvs) : H' a = some u := by
  rcases (e.fix a (.inl h)).2 with q | ⟨_, od, kvs, q, _⟩
  · exact q.trans hu
  · rw [hu] at q
    cases q
    exact absurd rfl (nd kvs)
theorem Ge.frzD {g g' : Gh} {H H' : Hp} (e : Ge g H g' H') (a : Addr) (h : g.r a = some .frz) {kvs : List (Key × V)} (hu : Rd H a (.dK kvs)) : Rd H' a (.dK kvs) := by
  rcases (e.fix a (.inl h)).2 with q | ⟨_, od, kvs', q, q2⟩
  · unfold Rd at *
    rw [q]; exact hu
  · rcases hu with hu | ⟨o, hu⟩
    · rw [hu] at q
      cases q
      exact .inr ⟨od, q2⟩
    · rw [hu] at q
      cases q
theorem Ge.tmp {g g' : Gh} {H H' : Hp} (e : Ge g H g' H') (a : Addr) (h : g.r a = some .tmp) : g'.r a = some .tmp ∧ H' a = H a := by
  obtain ⟨h1, h2⟩ := e.fix a (.inr h)
  refine ⟨h1.trans h, ?_⟩
  rcases h2 with q | ⟨z, _⟩
  · exact q
  · rw [h] at z; cases z
theorem Ge.refl {g : Gh} {H : Hp} : Ge g H g H := ⟨fun _ _ => ⟨rfl, .inl rfl⟩, fun _ _ h => h, fun _ _ _ h => h, fun _ _ h => h⟩
theorem Ge.trans {g g1 g2 : Gh} {H H1 H2 : Hp} (a : Ge g H g1 H1) (b : Ge g1 H1 g2 H2) : Ge g H g2 H2 where
  fix := fun x h => by
    obtain ⟨h1, h2⟩ := a.fix x h
    obtain ⟨h3, h4⟩ := b.fix x (by rw [h1]; exact h)
    refine ⟨h3.trans h1, ?_⟩
    rcases h2 with h2 | ⟨z, od, kvs, e1, e2⟩
    · rcases h4 with h4 | ⟨z, od, kvs, e1, e2⟩
      · exact .inl (h4.trans h2)
      · exact .inr ⟨by rw [← h1]; exact z, od, kvs, h2 ▸ e1, e2⟩
    · rcases h4 with h4 | ⟨z2, od2, kvs2, e3, e4⟩
      · exact .inr ⟨z, od, kvs, e1, h4.trans e2⟩
      · rw [e2] at e3; cases e3
  tup := fun x xs h => b.tup x xs (a.tup x xs h)
  fro := fun x o u h => b.fro x o u (a.fro x o u h)
  ix := fun n x h => b.ix n x (a.ix n x h)

def OR (F : Fm) (g : Gh) (H : Hp) (a : Addr) : SO → Prop
  | .dead => True
  | .lst ds => ∃ vs, H a = some (.lst vs) ∧ Rps F g H ds vs
  | .dic ks ds => ∃ vs, ks.length = vs.length ∧ H a = some (.dK (ks.zip vs)) ∧ Rps F g H ds vs
  | .ldic ks ds => ∃ od vs, ks.length = vs.length ∧ H a = some (.frz od (.dK (ks.zip vs))) ∧ Rps F g H ds vs
  | .ins C ds => ∃ dx vs, H a = some (.ins (F.ca C) dx ((F.T.flds C).zip vs)) ∧ ds.length ≤ (F.T.flds C).length ∧ Rps F g H ds vs
structure StR (F : Fm) (g : Gh) (H : Hp) (st : Store) : Prop where
  dom : ∀ n a, g.i n = some a → n < st.length
  obj : ∀ n o, st[n]? = some o → o = .dead ∨ ∃ a, g.i n = some a ∧ g.r a = some (.sto n) ∧ OR F g H a o
  trk : ∀ a r, g.r a = some r → ∃ o, H a = some o
def SlO (F : Fm) (g : Gh) (H : Hp) (sl : Slots) (σ : L2.St) : Prop := sl.length = σ.length ∧ ∀ (i : Nat) (d : D), sl[i]? = some (some d) → ∃ v, σ[i]? = some (some v) ∧ Rp F g H d v

section
variable {F : Fm} {g g' : Gh} {H H' : Hp}
theorem Rd.keep {a : Addr} {u : HO} (h : H' a = H a) (r : Rd H a u) : Rd H' a u := by
  unfold Rd at *
  rw [h]; exact r
theorem SqT.gw {K : PySem.W.Frag} {a : Addr} {xs : List V} (e : GeW g H g' H') (h : SqT K H a xs) : SqT K H' a xs := by
  rcases h with (h | ⟨o, h⟩) | h
  · exact .inl (.inl (e.tup _ _ h))
  · exact .inl (.inr ⟨o, e.frt _ _ _ h⟩)
  · exact .inr h
theorem FzL.gw {a : Addr} {xs : List V} (e : GeW g H g' H') (h : FzL g H a xs) : FzL g' H' a xs := ⟨e.frz a h.1, e.frzL a h.1 h.2 fun _ z => by cases z⟩
theorem FzD.gw {a : Addr} {xs : List (Key × V)} (e : GeW g H g' H') (h : FzD g H a xs) : FzD g' H' a xs := ⟨e.frz a h.1, e.frzD a h.1 h.2⟩
theorem SqS.gw {K : PySem.W.Frag} {a : Addr} {xs : List V} (e : GeW g H g' H') (h : SqS K g H a xs) : SqS K g' H' a xs := by
  rcases h with ⟨h1, h2⟩ | h
  · refine .inl ⟨e.frz a h1, ?_⟩
    rcases h2 with h2 | ⟨o, h2⟩
    · exact .inl (e.frzL a h1 h2 fun _ z => by cases z)
    · exact .inr ⟨o, e.frzL a h1 h2 fun _ z => by cases z⟩
  · exact .inr h
mutual
theorem Rp.gw (e : GeW g H g' H') : ∀ (d : D) (v : V), Rp F g H d v → Rp F g' H' d v
  | .non, _, h => by unfold Rp at *; exact h
  | .bl _, _, h => by unfold Rp at *; exact h
  | .int _, _, h => by unfold Rp at *; exact h
  | .str _, _, h => by unfold Rp at *; exact h
  | .tup ds, v, h => by
    unfold Rp at *
    obtain ⟨a, vs, h1, h2, h3⟩ := h
    exact ⟨a, vs, h1, SqT.gw e h2, Rps.gw e ds vs h3⟩
  | .lst ds, v, h => by
    unfold Rp at *
    obtain ⟨a, vs, h1, h2, h3⟩ := h
    exact ⟨a, vs, h1, FzL.gw e h2, Rps.gw e ds vs h3⟩
  | .dic ks ds, v, h => by
    unfold Rp at *
    obtain ⟨a, vs, h1, h0, h2, h3⟩ := h
    exact ⟨a, vs, h1, h0, FzD.gw e h2, Rps.gw e ds vs h3⟩
  | .ref n, v, h => by
    unfold Rp at *
    obtain ⟨a, h1, h2⟩ := h
    exact ⟨a, h1, e.ix _ _ h2⟩
  | .lam _ _, _, h => by unfold Rp at *; exact h
  | .scr ns, v, h => by
    unfold Rp at *
    obtain ⟨a, h1, h2⟩ := h
    exact ⟨a, h1, SqS.gw e h2⟩
  | .kdic ks ds, v, h => by
    unfold Rp at *
    obtain ⟨a, vs, h1, h0, h2, h3⟩ := h
    exact ⟨a, vs, h1, h0, h2, Rps.gw e ds vs h3⟩
theorem Rps.gw (e : GeW g H g' H') : ∀ (ds : List D) (vs : List V), Rps F g H ds vs → Rps F g' H' ds vs
  | [], _, h => by unfold Rps at *; exact h
  | d :: ds, vs, h => by
    unfold Rps at *
    obtain ⟨v, r, h1, h2, h3⟩ := h
    exact ⟨v, r, h1, Rp.gw e d v h2, Rps.gw e ds r h3⟩
end
theorem SqT.ge {K : PySem.W.Frag} {a : Addr} {xs : List V} (e : Ge g H g' H') (h : SqT K H a xs) : SqT K H' a xs := SqT.gw e.w h
theorem FzL.ge {a : Addr} {xs : List V} (e : Ge g H g' H') (h : FzL g H a xs) : FzL g' H' a xs := FzL.gw e.w h
theorem FzD.ge {a : Addr} {xs : List (Key × V)} (e : Ge g H g' H') (h : FzD g H a xs) : FzD g' H' a xs := FzD.gw e.w h
theorem SqS.ge {K : PySem.W.Frag} {a : Addr} {xs : List V} (e : Ge g H g' H') (h : SqS K g H a xs) : SqS K g' H' a xs := SqS.gw e.w h
theorem Rp.ge (e : Ge g H g' H') (d : D) (v : V) (h : Rp F g H d v) : Rp F g' H' d v := Rp.gw e.w d v h
theorem Rps.ge (e : Ge g H g' H') (ds : List D) (vs : List V) (h : Rps F g H ds vs) : Rps F g' H' ds vs := Rps.gw e.w ds vs h
theorem Rps.nil : Rps F g H [] [] := by unfold Rps; rfl
theorem Rps.nil_iff {vs : List V} (h : Rps F g H [] vs) : vs = [] := by unfold Rps at h; exact h
theorem Rps.cons {d : D} {ds : List D} {v : V} {vs : List V} (h : Rp F g H d v) (t : Rps F g H ds vs) : Rps F g H (d :: ds) (v :: vs) := by unfold Rps; exact ⟨v, vs, rfl, h, t⟩
theorem Rps.inv {d : D} {ds : List D} {vs : List V} (h : Rps F g H (d :: ds) vs) : ∃ v r, vs = v :: r ∧ Rp F g H d v ∧ Rps F g H ds r := by unfold Rps at h; exact h
theorem Rps.len : ∀ {ds : List D} {vs : List V}, Rps F g H ds vs → ds.length = vs.length
  | [], vs, h => by rw [h.nil_iff]; rfl
  | d :: ds, vs, h => by
    obtain ⟨v, r, rfl, _, t⟩ := h.inv
    rw [List.length_cons, List.length_cons, Rps.len t]
theorem Rps.get : ∀ {ds : List D} {vs : List V} {i : Nat} {d : D}, Rps F g H ds vs → ds[i]? = some d → ∃ v, vs[i]? = some v ∧ Rp F g H d v
  | [], _, _, _, _, e => by simp at e
  | d :: ds, vs, 0, x, h, e => by
    obtain ⟨v, r, rfl, q, t⟩ := h.inv
    simp at e; subst e
    exact ⟨v, rfl, q⟩
  | d :: ds, vs, i + 1, x, h, e => by
    obtain ⟨v, r, rfl, q, t⟩ := h.inv
    obtain ⟨u, h1, h2⟩ := Rps.get (i := i) t (by simpa using e)
    exact ⟨u, by simpa using h1, h2⟩
theorem Rps.append : ∀ {ds es : List D} {vs us : List V}, Rps F g H ds vs → Rps F g H es us → Rps F g H (ds ++ es) (vs ++ us)
  | [], _, _, _, h, t => by rw [h.nil_iff]; exact t
  | d :: ds, es, vs, us, h, t => by
    obtain ⟨v, r, rfl, q, t1⟩ := h.inv
    exact .cons q (Rps.append t1 t)
theorem Rps.take (n : Nat) : ∀ {ds : List D} {vs : List V}, Rps F g H ds vs → Rps F g H (ds.take n) (vs.take n) := by
  induction n with
  | zero => intro ds vs _; simp only [List.take_zero]; exact .nil
  | succ n ih =>
    intro ds vs h
    cases ds with
    | nil => rw [h.nil_iff]; exact .nil
    | cons d ds =>
      obtain ⟨v, r, rfl, q, t⟩ := h.inv
      exact .cons q (ih t)
theorem Rps.drop (n : Nat) : ∀ {ds : List D} {vs : List V}, Rps F g H ds vs → Rps F g H (ds.drop n) (vs.drop n) := by
  induction n with
  | zero => intro ds vs h; exact h
  | succ n ih =>
    intro ds vs h
    cases ds with
    | nil => rw [h.nil_iff]; exact .nil
    | cons d ds =>
      obtain ⟨v, r, rfl, q, t⟩ := h.inv
      exact ih t
theorem Rps.set : ∀ {ds : List D} {vs : List V} {d : D} {v : V} (i : Nat), Rps F g H ds vs → Rp F g H d v → Rps F g H (ds.set i d) (vs.set i v)
  | [], _, _, _, _, h, _ => by rw [h.nil_iff]; exact .nil
  | d :: ds, vs, x, u, 0, h, q => by
    obtain ⟨v, r, rfl, _, t⟩ := h.inv
    exact .cons q t
  | d :: ds, vs, x, u, i + 1, h, q => by
    obtain ⟨v, r, rfl, q1, t⟩ := h.inv
    exact .cons q1 (Rps.set i t q)
theorem OR.gw {a : Addr} {o : SO} (e : GeW g H g' H') (h : H' a = H a) (x : OR F g H a o) : OR F g' H' a o := by
  cases o with
  | dead => trivial
  | lst ds => obtain ⟨vs, h1, h2⟩ := x; exact ⟨vs, h.trans h1, Rps.gw e _ _ h2⟩
  | dic ks ds => obtain ⟨vs, h0, h1, h2⟩ := x; exact ⟨vs, h0, h.trans h1, Rps.gw e _ _ h2⟩
  | ins C ds => obtain ⟨dx, vs, h1, h0, h2⟩ := x; exact ⟨dx, vs, h.trans h1, h0, Rps.gw e _ _ h2⟩
  | ldic ks ds => obtain ⟨od, vs, h0, h1, h2⟩ := x; exact ⟨od, vs, h0, h.trans h1, Rps.gw e _ _ h2⟩
theorem SlO.gw {sl : Slots} {σ : L2.St} (e : GeW g H g' H') (h : SlO F g H sl σ) : SlO F g' H' sl σ :=
  ⟨h.1, fun i d q => let ⟨v, h1, h2⟩ := h.2 i d q; ⟨v, h1, Rp.gw e _ _ h2⟩⟩
theorem OR.ge {a : Addr} {o : SO} (e : Ge g H g' H') (h : H' a = H a) (x : OR F g H a o) : OR F g' H' a o := by
  cases o with
  | dead => trivial
  | lst ds => obtain ⟨vs, h1, h2⟩ := x; exact ⟨vs, h.trans h1, Rps.ge e _ _ h2⟩
  | dic ks ds => obtain ⟨vs, h0, h1, h2⟩ := x; exact ⟨vs, h0, h.trans h1, Rps.ge e _ _ h2⟩
  | ins C ds => obtain ⟨dx, vs, h1, h0, h2⟩ := x; exact ⟨dx, vs, h.trans h1, h0, Rps.ge e _ _ h2⟩
  | ldic ks ds => obtain ⟨od, vs, h0, h1, h2⟩ := x; exact ⟨od, vs, h0, h.trans h1, Rps.ge e _ _ h2⟩
theorem SlO.ge {sl : Slots} {σ : L2.St} (e : Ge g H g' H') (h : SlO F g H sl σ) : SlO F g' H' sl σ :=
  ⟨h.1, fun i d q => let ⟨v, h1, h2⟩ := h.2 i d q; ⟨v, h1, Rp.ge e _ _ h2⟩⟩
theorem Ge.new {p : Addr} {o : HO} {st : Store} (S : StR F g H st) (hp : H p = none) : Ge g H g (upd H p o) :=
  ⟨fun a h => ⟨rfl, .inl (upd_ne (by
    obtain ⟨r, q⟩ : ∃ r, g.r a = some r := by rcases h with h | h <;> exact ⟨_, h⟩
    obtain ⟨u, e⟩ := S.trk a r q
    exact ne_of_none e hp))⟩, fun a xs h => by rw [upd_ne (ne_of_none h hp)]; exact h, fun a o u h => by rw [upd_ne (ne_of_none h hp)]; exact h, fun _ _ h => h⟩
theorem StR.ne {st : Store} (S : StR F g H st) {a p : Addr} {r : Ro} (h : g.r a = some r) (hp : H p = none) : a ≠ p := by
  obtain ⟨u, e⟩ := S.trk a _ h
  exact ne_of_none e hp
theorem StR.new {p : Addr} {o : HO} {st : Store} (S : StR F g H st) (hp : H p = none) : StR F g (upd H p o) st := by
  refine ⟨S.dom, fun n x e => ?_, fun a r h => ?_⟩
  · rcases S.obj n x e with z | ⟨a, h1, h2, h3⟩
    · exact .inl z
    · exact .inr ⟨a, h1, h2, OR.ge (Ge.new S hp) (upd_ne (S.ne h2 hp)) h3⟩
  · obtain ⟨u, e⟩ := S.trk a _ h
    exact ⟨u, by rw [upd_ne (S.ne h hp)]; exact e⟩
def Gh.fz (g : Gh) (p : Addr) : Gh := ⟨g.i, fun a => if a = p then some .frz else g.r a⟩
theorem StR.ne2 {st : Store} (S : StR F g H st) {a p : Addr} (h : g.r a = some .frz ∨ g.r a = some .tmp) (hp : H p = none) : a ≠ p := by
  rcases h with h | h <;> exact S.ne h hp
theorem Ge.newFz {p : Addr} {o : HO} {st : Store} (S : StR F g H st) (hp : H p = none) : Ge g H (g.fz p) (upd H p o) :=
  ⟨fun a h => ⟨if_neg (S.ne2 h hp), .inl (upd_ne (S.ne2 h hp))⟩, fun a xs h => by rw [upd_ne (ne_of_none h hp)]; exact h, fun a o u h => by rw [upd_ne (ne_of_none h hp)]; exact h, fun _ _ h => h⟩
theorem Gh.fz_ne {p a : Addr} (h : a ≠ p) : (g.fz p).r a = g.r a := if_neg h
theorem Gh.fz_same {p : Addr} : (g.fz p).r p = some .frz := if_pos rfl
theorem StR.newFz {p : Addr} {o : HO} {st : Store} (S : StR F g H st) (hp : H p = none) : StR F (g.fz p) (upd H p o) st := by
  refine ⟨S.dom, fun n x e => ?_, fun a r h => ?_⟩
  · rcases S.obj n x e with z | ⟨a, h1, h2, h3⟩
    · exact .inl z
    · exact .inr ⟨a, h1, by rw [Gh.fz_ne (S.ne h2 hp)]; exact h2, OR.ge (Ge.newFz S hp) (upd_ne (S.ne h2 hp)) h3⟩
  · by_cases e : a = p
    · exact ⟨o, by rw [e]; exact upd_same⟩
    · rw [Gh.fz_ne e] at h
      obtain ⟨u, q⟩ := S.trk a _ h
      exact ⟨u, by rw [upd_ne e]; exact q⟩
theorem Ge.write {n : Nat} {p : Addr} {o : HO} (hp : g.r p = some (.sto n)) (ht : ∀ xs, H p ≠ some (.tup xs)) (hf : ∀ o u, H p ≠ some (.frz o u)) : Ge g H g (upd H p o) :=
  ⟨fun a h => ⟨rfl, .inl (upd_ne (fun e => by rw [e, hp] at h; rcases h with h | h <;> cases h))⟩, fun a xs h => by rw [upd_ne (fun e => ht xs (by rw [← e]; exact h))]; exact h, fun a o u h => by rw [upd_ne (fun e => hf o u (by rw [← e]; exact h))]; exact h, fun _ _ h => h⟩
theorem StR.write {n : Nat} {p : Addr} {o : HO} {x : SO} {st : Store} (S : StR F g H st) (hi : g.i n = some p) (hp : g.r p = some (.sto n)) (ht : ∀ xs, H p ≠ some (.tup xs)) (hf : ∀ o u, H p ≠ some (.frz o u))
    (hx : OR F g (upd H p o) p x) : StR F g (upd H p o) (st.set n x) := by
  refine ⟨fun m a h => by rw [List.length_set]; exact S.dom m a h, fun m y e => ?_, fun a r h => ?_⟩
  · by_cases q : m = n
    · subst q
      have hl : m < st.length := S.dom m p hi
      rw [List.getElem?_set_self hl] at e
      cases e
      exact .inr ⟨p, hi, hp, hx⟩
    · rw [List.getElem?_set_ne (Ne.symm q)] at e
      rcases S.obj m y e with z | ⟨a, h1, h2, h3⟩
      · exact .inl z
      · refine .inr ⟨a, h1, h2, OR.ge (Ge.write hp ht hf) (upd_ne fun z => ?_) h3⟩
        rw [z, hp] at h2
        injection h2 with h2
        injection h2 with h2
        exact q h2.symm
  · obtain ⟨u, q⟩ := S.trk a _ h
    by_cases e : a = p
    · exact ⟨o, by rw [e]; exact upd_same⟩
    · exact ⟨u, by rw [upd_ne e]; exact q⟩
def Gh.sh (g : Gh) (n : Nat) (p : Addr) : Gh := ⟨fun m => if m = n then some p else g.i m, fun a => if a = p then some (.sto n) else g.r a⟩
theorem Gh.sh_ne {n : Nat} {p a : Addr} (h : a ≠ p) : (g.sh n p).r a = g.r a := if_neg h
theorem Gh.sh_same {n : Nat} {p : Addr} : (g.sh n p).r p = some (.sto n) := if_pos rfl
theorem Gh.sh_i {n : Nat} {p : Addr} : (g.sh n p).i n = some p := if_pos rfl
theorem Gh.sh_j {n m : Nat} {p : Addr} (h : m ≠ n) : (g.sh n p).i m = g.i m := if_neg h
def Gh.tp (g : Gh) (p : Addr) : Gh := ⟨g.i, fun a => if a = p then some .tmp else g.r a⟩
theorem Gh.tp_ne {p a : Addr} (h : a ≠ p) : (g.tp p).r a = g.r a := if_neg h
theorem Gh.tp_same {p : Addr} : (g.tp p).r p = some .tmp := if_pos rfl
theorem Ge.newTp {p : Addr} {o : HO} {st : Store} (S : StR F g H st) (hp : H p = none) : Ge g H (g.tp p) (upd H p o) :=
  ⟨fun a h => ⟨if_neg (S.ne2 h hp), .inl (upd_ne (S.ne2 h hp))⟩, fun a xs h => by rw [upd_ne (ne_of_none h hp)]; exact h, fun a o u h => by rw [upd_ne (ne_of_none h hp)]; exact h, fun _ _ h => h⟩
theorem StR.newTp {p : Addr} {o : HO} {st : Store} (S : StR F g H st) (hp : H p = none) : StR F (g.tp p) (upd H p o) st := by
  refine ⟨S.dom, fun n x e => ?_, fun a r h => ?_⟩
  · rcases S.obj n x e with z | ⟨a, h1, h2, h3⟩
    · exact .inl z
    · exact .inr ⟨a, h1, by rw [Gh.tp_ne (S.ne h2 hp)]; exact h2, OR.ge (Ge.newTp S hp) (upd_ne (S.ne h2 hp)) h3⟩
  · by_cases e : a = p
    · exact ⟨o, by rw [e]; exact upd_same⟩
    · rw [Gh.tp_ne e] at h
      obtain ⟨u, q⟩ := S.trk a _ h
      exact ⟨u, by rw [upd_ne e]; exact q⟩
structure Gt (p : Addr) (g : Gh) (H : Hp) (g' : Gh) (H' : Hp) : Prop where
  r : ∀ a, a ≠ p → g'.r a = g.r a
  h : ∀ a, a ≠ p → H' a = H a
  i : ∀ n a, g.i n = some a → g'.i n = some a
  mu : ∃ xs, H p = some (.lst xs) ∨ ∃ kvs, H p = some (.dK kvs)
theorem Gt.sqt {p : Addr} {K : PySem.W.Frag} {a : Addr} {xs : List V} (e : Gt p g H g' H') (h : SqT K H a xs) : SqT K H' a xs := by
  have ne : (∃ u, Rd H a (.tup u)) → a ≠ p := fun ⟨u, q⟩ z => by
    subst z
    obtain ⟨xs, m | ⟨kvs, m⟩⟩ := e.mu <;> rcases q with q | ⟨o, q⟩ <;> rw [m] at q <;> cases q
  rcases h with h | h
  · left
    unfold Rd at h ⊢
    rw [e.h a (ne ⟨xs, h⟩)]
    exact h
  · exact .inr h
mutual
theorem Rp.gt {p : Addr} (hp : g.r p = some .tmp) (e : Gt p g H g' H') : ∀ (d : D) (v : V), Rp F g H d v → Rp F g' H' d v
  | .non, _, h => by unfold Rp at *; exact h
  | .bl _, _, h => by unfold Rp at *; exact h
  | .int _, _, h => by unfold Rp at *; exact h
  | .str _, _, h => by unfold Rp at *; exact h
  | .tup ds, v, h => by
    unfold Rp at *
    obtain ⟨a, vs, h1, h2, h3⟩ := h
    exact ⟨a, vs, h1, e.sqt h2, Rps.gt hp e ds vs h3⟩
  | .lst ds, v, h => by
    unfold Rp at *
    obtain ⟨a, vs, h1, h2, h3⟩ := h
    have ne : a ≠ p := fun z => by
      have q := h2.1
      rw [z, hp] at q
      cases q
    exact ⟨a, vs, h1, ⟨(e.r a ne).trans h2.1, (e.h a ne).trans h2.2⟩, Rps.gt hp e ds vs h3⟩
  | .dic ks ds, v, h => by
    unfold Rp at *
    obtain ⟨a, vs, h1, h0, h2, h3⟩ := h
    have ne : a ≠ p := fun z => by
      have q := h2.1
      rw [z, hp] at q
      cases q
    exact ⟨a, vs, h1, h0, ⟨(e.r a ne).trans h2.1, Rd.keep (e.h a ne) h2.2⟩, Rps.gt hp e ds vs h3⟩
  | .ref n, v, h => by
    unfold Rp at *
    obtain ⟨a, h1, h2⟩ := h
    exact ⟨a, h1, e.i n a h2⟩
  | .lam _ _, _, h => by unfold Rp at *; exact h
  | .scr ns, v, h => by
    unfold Rp at *
    obtain ⟨a, h1, h2⟩ := h
    refine ⟨a, h1, ?_⟩
    rcases h2 with ⟨h2, h3⟩ | h2
    · have ne : a ≠ p := fun z => by
        rw [z, hp] at h2
        cases h2
      exact .inl ⟨(e.r a ne).trans h2, Rd.keep (e.h a ne) h3⟩
    · exact .inr h2
  | .kdic ks ds, v, h => by
    unfold Rp at *
    obtain ⟨a, vs, h1, h0, h2, h3⟩ := h
    exact ⟨a, vs, h1, h0, h2, Rps.gt hp e ds vs h3⟩
theorem Rps.gt {p : Addr} (hp : g.r p = some .tmp) (e : Gt p g H g' H') : ∀ (ds : List D) (vs : List V), Rps F g H ds vs → Rps F g' H' ds vs
  | [], _, h => by unfold Rps at *; exact h
  | d :: ds, vs, h => by
    unfold Rps at *
    obtain ⟨v, r, h1, h2, h3⟩ := h
    exact ⟨v, r, h1, Rp.gt hp e d v h2, Rps.gt hp e ds r h3⟩
end
theorem OR.gt {p a : Addr} {o : SO} (hp : g.r p = some .tmp) (e : Gt p g H g' H') (ne : a ≠ p) (x : OR F g H a o) : OR F g' H' a o := by
  cases o with
  | dead => trivial
  | lst ds => obtain ⟨vs, h1, h2⟩ := x; exact ⟨vs, (e.h a ne).trans h1, Rps.gt hp e _ _ h2⟩
  | dic ks ds => obtain ⟨vs, h0, h1, h2⟩ := x; exact ⟨vs, h0, (e.h a ne).trans h1, Rps.gt hp e _ _ h2⟩
  | ins C ds => obtain ⟨dx, vs, h1, h0, h2⟩ := x; exact ⟨dx, vs, (e.h a ne).trans h1, h0, Rps.gt hp e _ _ h2⟩
  | ldic ks ds => obtain ⟨od, vs, h0, h1, h2⟩ := x; exact ⟨od, vs, h0, (e.h a ne).trans h1, Rps.gt hp e _ _ h2⟩
theorem StR.gt {p : Addr} {st : Store} (S : StR F g H st) (hp : g.r p = some .tmp) (e : Gt p g H g' H') (di : ∀ n a, g'.i n = some a → g.i n = some a) (hn : ∃ o, H' p = some o) : StR F g' H' st := by
  refine ⟨fun n a h => S.dom n a (di n a h), fun n x q => ?_, fun a r h => ?_⟩
  · rcases S.obj n x q with z | ⟨a, h1, h2, h3⟩
    · exact .inl z
    · have ne : a ≠ p := fun z => by rw [z, hp] at h2; cases h2
      exact .inr ⟨a, e.i n a h1, (e.r a ne).trans h2, OR.gt hp e ne h3⟩
  · by_cases q : a = p
    · rw [q]; exact hn
    · rw [e.r a q] at h
      obtain ⟨u, z⟩ := S.trk a r h
      exact ⟨u, (e.h a q).trans z⟩
theorem SlO.gt {p : Addr} {sl : Slots} {σ : L2.St} (hp : g.r p = some .tmp) (e : Gt p g H g' H') (h : SlO F g H sl σ) : SlO F g' H' sl σ :=
  ⟨h.1, fun i d q => let ⟨v, h1, h2⟩ := h.2 i d q; ⟨v, h1, Rp.gt hp e _ _ h2⟩⟩
theorem Ge.gt {p : Addr} {g0 : Gh} {H0 : Hp} {st : Store} (S : StR F g0 H0 st) (hp : H0 p = none) (a : Ge g0 H0 g H) (e : Gt p g H g' H') : Ge g0 H0 g' H' := by
  refine ⟨fun x h => ?_, fun x xs h => ?_, fun x o u h => ?_, fun n x h => e.i n x (a.ix n x h)⟩
  · have ne := S.ne2 h hp
    obtain ⟨h1, h2⟩ := a.fix x h
    refine ⟨(e.r x ne).trans h1, ?_⟩
    rcases h2 with h2 | ⟨z, od, kvs, e1, e2⟩
    · exact .inl ((e.h x ne).trans h2)
    · exact .inr ⟨z, od, kvs, e1, (e.h x ne).trans e2⟩
  · exact (e.h x (ne_of_none h hp)).trans (a.tup x xs h)
  · exact (e.h x (ne_of_none h hp)).trans (a.fro x o u h)
end
end TS
end

section
set_option Elab.async false
set_option linter.all false
set_option maxRecDepth 100000
set_option maxHeartbeats 1000000
namespace TS
open PySem PySem.Spec PyProof.Rows L2

def ExR (F : Fm) (g : Gh) (H : Hp) (c : Nat) (a : D) (cls : Value) (dd : Option Addr) : Prop :=
  cls = .ref (F.ca c) ∧ match F.T.exf c with
    | none => dd = none
    | some x => ∃ p v, dd = some p ∧ H p = some (.xd [(x, v)]) ∧ Rp F g H a v
def Post {α β : Type} (F : Fm) (E : XK) (R : Gh → Hp → α → β → Prop) (g : Gh) (H : Hp) (m : Out α) (Q : β → Hp → Prop) : Prop :=
  match m with
  | .ok a st => ∀ g' H' b, Ge g H g' H' → StR F g' H' st → R g' H' a b → Q b H'
  | .exc c a st => ∀ g' H' cls dd, Ge g H g' H' → StR F g' H' st → ExR F g' H' c a cls dd → E cls dd H'
  | .bad => False
section
variable {F : Fm} {E : XK} {g g1 : Gh} {H H1 : Hp} {α β γ δ : Type} {R : Gh → Hp → α → β → Prop} {R2 : Gh → Hp → γ → δ → Prop}
theorem Post.from {m : Out α} {Q : β → Hp → Prop} (e : Ge g H g1 H1) (h : Post F E R g H m Q) : Post F E R g1 H1 m Q := by
  cases m with
  | ok a st => exact fun g' H' b k s r => h g' H' b (e.trans k) s r
  | exc c a st => exact fun g' H' cls dd k s r => h g' H' cls dd (e.trans k) s r
  | bad => exact h
theorem Post.bind {m : Out α} {f : α → Store → Out γ} {Q : δ → Hp → Prop} {Q1 : β → Hp → Prop} (h : Post F E R2 g H (m.bind f) Q)
    (k : ∀ a st g' H' b, Ge g H g' H' → StR F g' H' st → R g' H' a b → Post F E R2 g' H' (f a st) Q → Q1 b H') : Post F E R g H m Q1 := by
  cases m with
  | ok a st => exact fun g' H' b e s r => k a st g' H' b e s r (Post.from e h)
  | exc c a st => exact h
  | bad => exact h
theorem Post.ok {a : α} {st : Store} {Q : β → Hp → Prop} {b : β} (h : Post F E R g H (.ok a st) Q) (s : StR F g H st) (r : R g H a b) : Q b H := h g H b Ge.refl s r
theorem Post.okI {o : Option α} {st : Store} {Q : β → Hp → Prop} (h : Post F E R g H (okO o st) Q) : ∃ a, o = some a ∧ Post F E R g H (.ok a st) Q := by
  cases o with
  | none => exact h.elim
  | some a => exact ⟨a, rfl, h⟩
theorem Post.okB {o : Option α} {st : Store} {f : α → Store → Out γ} {Q : δ → Hp → Prop} (h : Post F E R2 g H ((okO o st).bind f) Q) : ∃ a, o = some a ∧ Post F E R2 g H (f a st) Q := by
  cases o with
  | none => exact h.elim
  | some a => exact ⟨a, rfl, h⟩
end

section
variable {F : Fm} {E : XK} {g : Gh} {H : Hp} {α β γ δ : Type} {R : Gh → Hp → α → β → Prop} {R2 : Gh → Hp → γ → δ → Prop}
theorem Post.bindE {m : Out α} {f : α → Store → Out γ} {Q : δ → Hp → Prop} {Q1 : β → Hp → Prop} (h : Post F E R2 g H (m.bind f) Q)
    (k : ∀ a st g' H' b, m = .ok a st → Ge g H g' H' → StR F g' H' st → R g' H' a b → Post F E R2 g' H' (f a st) Q → Q1 b H') : Post F E R g H m Q1 := by
  cases m with
  | ok a st => exact fun g' H' b e s r => k a st g' H' b rfl e s r (Post.from e h)
  | exc c a st => exact h
  | bad => exact h
end
abbrev Rb : Gh → Hp → Bool → Bool → Prop := fun _ _ a b => a = b
def tD (F : Fm) (E : XK) (f : Phi) (d : DE) : TE := fun σ H Q => ∃ g sl st, SlO F g H sl σ ∧ StR F g H st ∧ Post F E (Rp F) g H (evE F.T f d sl st) Q
def tDs (F : Fm) (E : XK) (f : Phi) (ds : DEs) : TA := fun σ H Q => ∃ g sl st, SlO F g H sl σ ∧ StR F g H st ∧ Post F E (Rps F) g H (evEs F.T f ds sl st) Q
def tDt (F : Fm) (E : XK) (f : Phi) (d : DE) : TT := fun σ H Q => ∃ g sl st, SlO F g H sl σ ∧ StR F g H st ∧ Post F E Rb g H (evT F.T f d sl st) Q

def spD (F : Fm) (n : Nat) (f : List D → Store → Out D) : Sp := fun vs H Q E => vs.length = n ∧ ∃ g ds st, StR F g H st ∧ Rps F g H ds vs ∧ Post F E (Rp F) g H (f ds st) Q

structure Nm where
  fn : Nat → Str
  cl : Nat → Str
  gl : Nat → Str

structure Ln where
  ca : Nat → Addr
  T : Tab
  nm : Nm
  fa : Nat → Addr
  fd : Nat → FuncData
  ps : Nat → List Str
  kw : Nat → List Str
  isG : Nat → Bool
  isC : Nat → Bool
  isM : Nat → Nat → Bool
  isX : Nat → Bool
  cmk : Nat → Bool
  full : Nat → Bool
def spX (C : Addr) (x : Str) : Sp := fun vs H Q _ => ∃ a v, vs = [.ref a, v] ∧ H a = some (exo a C none) ∧ ∀ d, H d = none → d ≠ a → Q .non (upd (upd H d (exd d [(x, v)])) a (exo a C (some d)))
structure XCl (P : Program) (w : World) (K : PySem.W.Frag) (mg : Str → Option Value) (base : Heap) (n : Str) (C : Addr) (fx : Option Str) : Prop where
  gC : mg n = some (.ref C)
  kp : PySem.W.keepIn K (.ref C) = true
  sub : PySem.W.subIn K (.ref C) (.type "BaseException") = some true
  ty : PySem.W.typeIn K (.ref C) = some (.type "type")
  plain : fx = none → PySem.W.excIn K C [.type "ValueError", .type "Exception", .type "BaseException", .type "object"] "ValueError.__new__" = true
  own : ∀ x, fx = some x → OexC K C ∧ ∃ fI fd ps, PySem.W.findIn K (.ref C) "__init__" = some (some (.ref fI)) ∧ PySem.W.typeIn K (.ref fI) = some (.type "function") ∧ FnOk P w K mg base (L2.CX P w) 1 fI fd ps (spX C x) ∧ Binds K fd ps []
abbrev FL (P : Program) (w : World) (K : PySem.W.Frag) (L : Ln) : Fm := ⟨P, w, K, L.ca, L.T⟩
abbrev FX (X : Cx) (L : Ln) : Fm := ⟨X.prog, X.w, X.K, L.ca, L.T⟩
def bnames : List Str := ["len", "all", "any", "sum", "max", "min", "abs", "sorted", "tuple", "list", "int", "str", "dict", "range", "isinstance", "bool", "enumerate", "zip", "set"]
structure Lk (P : Program) (w : World) (K : PySem.W.Frag) (mg : Str → Option Value) (base : Heap) (L : Ln) (f : Phi) (lv : Nat) : Prop where
  ok : ∀ i dd, L.T.fn i = some dd → (L.ps i).length = dd.np ∧ FnOk P w K mg base (L2.CX P w) lv (L.fa i) (L.fd i) (L.ps i) (spD (FL P w K L) dd.np (f i))
  len : ∀ i ds st, f i ds st ≠ .bad → ∃ dd, L.T.fn i = some dd ∧ ds.length = dd.np
  gfn : ∀ i dd, L.T.fn i = some dd → L.isG i = true → mg (L.nm.fn i) = some (.ref (L.fa i)) ∧ PySem.W.keepIn K (.ref (L.fa i)) = true
  bnd : ∀ i dd, L.T.fn i = some dd → L.full i = true → Binds K (L.fd i) (L.ps i) []
  bdf : ∀ i dd, L.T.fn i = some dd → L.T.dfl i ≠ [] → ∃ dvs dus, Binds K (L.fd i) (L.ps i) dus ∧ Vals dvs dus ∧ ∀ g H, Rps (FL P w K L) g H (L.T.dfl i) dvs
  kbd : ∀ i dd, L.T.fn i = some dd → L.kw i ≠ [] → KBinds K (L.fd i) (L.ps i) (L.kw i) (fun us ws => if ws.length = (L.kw i).length then us ++ ws else []) (fun vs zs => if zs.length = (L.kw i).length then vs ++ zs else [])
  met : ∀ C i, L.isM C i = true → Meth K (L.ca C) (L.nm.fn i) (L.fa i) ∧ L.nm.fn i ∉ L.T.flds C
  cls : ∀ C, L.isC C = true → Cls K (L.ca C) ∧ mg (L.nm.cl C) = some (.ref (L.ca C)) ∧ Mk K (L.ca C) (L.fa (L.T.init C)) ∧ L.full (L.T.init C) = true ∧ (∀ x ∈ L.T.flds C, NoAttr K (L.ca C) x) ∧
    ∃ dd, L.T.fn (L.T.init C) = some dd ∧ FnOk P w K mg base (L2.CX P w) 1 (L.fa (L.T.init C)) (L.fd (L.T.init C)) (L.ps (L.T.init C)) (spD (FL P w K L) dd.np (f (L.T.init C)))
  exc : ∀ c, L.isX c = true → XCl P w K mg base (L.nm.cl c) (L.ca c) (L.T.exf c)
  nd : ∀ C, (L.T.flds C).Nodup
  few : ∀ C, (L.T.flds C).length ≤ 900
  glo : ∀ i d, L.T.gl i = some d → ∃ v u, mg (L.nm.gl i) = some u ∧ RelV v u ∧ ∀ g H, Rp (FL P w K L) g H d v
  free : ∀ x ∈ bnames, mg x = none

structure GX (X : Cx) (L : Ln) (N : List Str) (sc : Scope) (cf : Bool) (E : XK) (f : Phi) (lv : Nat) : Prop where
  calm : X.calm = true
  nN : X.N = N
  nd : N.Nodup
  hs : X.env.scope = sc
  fk : sc.kind = ScopeKind.function
  cell : cf = true → ∀ x, X.fn x = true
  room : Room lv X.A
  l2 : ∀ C, L.cmk C = true ∨ L.isX C = true → 2 ≤ lv
  tk : Takes X (fun cls d _ H => E cls d H)
  lk : Lk X.prog X.w X.K X.mg X.base L f lv
theorem GX.ps {X : Cx} {L : Ln} {N : List Str} {sc : Scope} {cf : Bool} {E : XK} {f : Phi} {lv : Nat} (G : GX X L N sc cf E f lv) : Passes (L2.CX X.prog X.w) X E := passes_call G.tk fun _ _ _ _ h => h
end TS
end

section
set_option Elab.async false
set_option linter.all false
set_option maxRecDepth 100000
set_option maxHeartbeats 1000000
namespace TS
open PySem PySem.Spec PyProof.Rows L2
section
variable {F : Fm} {g : Gh} {H : Hp} {st : Store}
theorem Rp.int_of {i : Int} {v : V} (h : Rp F g H (.int i) v) : v = .int i := by unfold Rp at h; exact h
theorem Rp.str_of {i : Str} {v : V} (h : Rp F g H (.str i) v) : v = .str i := by unfold Rp at h; exact h
theorem Rp.bl_of {i : Bool} {v : V} (h : Rp F g H (.bl i) v) : v = .bl i := by unfold Rp at h; exact h
theorem Rp.non_of {v : V} (h : Rp F g H .non v) : v = .non := by unfold Rp at h; exact h
theorem Rp.tup_of {ds : List D} {v : V} (h : Rp F g H (.tup ds) v) : ∃ a vs, v = .ref a ∧ SqT F.K H a vs ∧ Rps F g H ds vs := by unfold Rp at h; exact h
theorem Rp.lst_of {ds : List D} {v : V} (h : Rp F g H (.lst ds) v) : ∃ a vs, v = .ref a ∧ FzL g H a vs ∧ Rps F g H ds vs := by unfold Rp at h; exact h
theorem Rp.dic_of {ks : List Key} {ds : List D} {v : V} (h : Rp F g H (.dic ks ds) v) : ∃ a vs, v = .ref a ∧ ks.length = vs.length ∧ FzD g H a (ks.zip vs) ∧ Rps F g H ds vs := by unfold Rp at h; exact h
theorem Rp.ref_of {n : Nat} {v : V} (h : Rp F g H (.ref n) v) : ∃ a, v = .ref a ∧ g.i n = some a := by unfold Rp at h; exact h
theorem Rp.scr_of {ns : List Int} {v : V} (h : Rp F g H (.scr ns) v) : ∃ a, v = .ref a ∧ SqS F.K g H a (ns.map V.int) := by unfold Rp at h; exact h
theorem Rp.kdic_of {ks : List Key} {ds : List D} {v : V} (h : Rp F g H (.kdic ks ds) v) : ∃ a vs, v = .ref a ∧ ks.length = vs.length ∧ KDc F.P F.w F.K a (ks.zip vs) ∧ Rps F g H ds vs := by unfold Rp at h; exact h
theorem rp_dic {ks : List Key} {ds : List D} {a : Addr} {vs : List V} (hl : ks.length = vs.length) (h : FzD g H a (ks.zip vs)) (r : Rps F g H ds vs) : Rp F g H (.dic ks ds) (.ref a) := by unfold Rp; exact ⟨a, vs, rfl, hl, h, r⟩
theorem rp_int {i : Int} : Rp F g H (.int i) (.int i) := by unfold Rp; rfl
theorem rp_str {i : Str} : Rp F g H (.str i) (.str i) := by unfold Rp; rfl
theorem rp_bl {i : Bool} : Rp F g H (.bl i) (.bl i) := by unfold Rp; rfl
theorem rp_non : Rp F g H .non .non := by unfold Rp; rfl
theorem rp_tup {ds : List D} {a : Addr} {vs : List V} (h : SqT F.K H a vs) (r : Rps F g H ds vs) : Rp F g H (.tup ds) (.ref a) := by unfold Rp; exact ⟨a, vs, rfl, h, r⟩
theorem rp_lst {ds : List D} {a : Addr} {vs : List V} (h : FzL g H a vs) (r : Rps F g H ds vs) : Rp F g H (.lst ds) (.ref a) := by unfold Rp; exact ⟨a, vs, rfl, h, r⟩
theorem rp_ref {n : Nat} {a : Addr} (h : g.i n = some a) : Rp F g H (.ref n) (.ref a) := by unfold Rp; exact ⟨a, rfl, h⟩
theorem Rps.one_of {d : D} {vs : List V} (h : Rps F g H [d] vs) : ∃ v, vs = [v] ∧ Rp F g H d v := by
  obtain ⟨v, r, rfl, h1, h2⟩ := h.inv
  rw [h2.nil_iff]
  exact ⟨v, rfl, h1⟩
theorem Rps.two_of {d e : D} {vs : List V} (h : Rps F g H [d, e] vs) : ∃ v u, vs = [v, u] ∧ Rp F g H d v ∧ Rp F g H e u := by
  obtain ⟨v, r, rfl, h1, h2⟩ := h.inv
  obtain ⟨u, rfl, h3⟩ := h2.one_of
  exact ⟨v, u, rfl, h1, h3⟩
theorem Rps.int_map : ∀ {ns : List Int} {vs : List V}, Rps F g H (ns.map .int) vs → vs = ns.map V.int
  | [], vs, h => h.nil_iff
  | n :: ns, vs, h => by
    obtain ⟨v, r, rfl, h1, h2⟩ := h.inv
    rw [h1.int_of, Rps.int_map h2]; rfl
theorem rps_int : ∀ {ns : List Int}, Rps F g H (ns.map .int) (ns.map V.int)
  | [] => .nil
  | n :: ns => .cons rp_int rps_int
theorem StR.at (S : StR F g H st) {n : Nat} {a : Addr} {o : SO} (hi : g.i n = some a) (e : st[n]? = some o) (ho : o ≠ .dead) : g.r a = some (.sto n) ∧ OR F g H a o := by
  rcases S.obj n o e with z | ⟨b, h1, h2, h3⟩
  · exact absurd z ho
  · rw [hi] at h1
    cases h1
    exact ⟨h2, h3⟩
theorem litems_ok (S : StR F g H st) {d : D} {v : V} {xs : List D} (r : Rp F g H d v) (e : litems st d = some xs) : ∃ a vs, v = .ref a ∧ H a = some (.lst vs) ∧ Rps F g H xs vs := by
  cases d with
  | lst ys =>
    cases e
    obtain ⟨a, vs, h1, h2, h3⟩ := r.lst_of
    exact ⟨a, vs, h1, h2.2, h3⟩
  | ref n =>
    obtain ⟨a, h1, h2⟩ := r.ref_of
    unfold litems at e
    simp only at e
    split at e
    · rename_i ys q
      cases e
      obtain ⟨_, vs, h3, h4⟩ := S.at h2 q (by intro z; cases z)
      exact ⟨a, vs, h1, h3, h4⟩
    · cases e
  | _ => cases e
theorem items_ok (S : StR F g H st) {d : D} {v : V} {xs : List D} (r : Rp F g H d v) (e : items st d = some xs) : ∃ a vs, v = .ref a ∧ (SqL F.K H a vs ∨ SqT F.K H a vs) ∧ Rps F g H xs vs := by
  cases d with
  | lst ys =>
    cases e
    obtain ⟨a, vs, h1, h2, h3⟩ := r.lst_of
    exact ⟨a, vs, h1, .inl h2.sq, h3⟩
  | tup ys =>
    cases e
    obtain ⟨a, vs, h1, h2, h3⟩ := r.tup_of
    exact ⟨a, vs, h1, .inr h2, h3⟩
  | scr ns =>
    cases e
    obtain ⟨a, h1, h2⟩ := r.scr_of
    exact ⟨a, _, h1, .inl h2.sq, rps_int⟩
  | ref n =>
    obtain ⟨a, vs, h1, h2, h3⟩ := litems_ok S r (show litems st (.ref n) = some xs from e)
    exact ⟨a, vs, h1, .inl (.of h2), h3⟩
  | _ => cases e
mutual
theorem py_ok : ∀ (d : D) (v : V) (p : PyData), Rp F g H d v → toPy d = some p → Dp F.K H v p
  | .non, v, p, r, e => by rw [r.non_of]; unfold toPy at e; cases e; exact .non
  | .bl b, v, p, r, e => by rw [r.bl_of]; unfold toPy at e; cases e; exact .bl b
  | .int b, v, p, r, e => by rw [r.int_of]; unfold toPy at e; cases e; exact .int b
  | .str b, v, p, r, e => by rw [r.str_of]; unfold toPy at e; cases e; exact .str b
  | .tup ds, v, p, r, e => by
    unfold toPy at e
    obtain ⟨a, vs, rfl, h2, h3⟩ := r.tup_of
    cases q : toPys ds with
    | none => rw [q] at e; cases e
    | some ps => rw [q] at e; cases e; exact .tup h2 (pys_ok ds vs ps h3 q)
  | .lst ds, v, p, r, e => by
    unfold toPy at e
    obtain ⟨a, vs, rfl, h2, h3⟩ := r.lst_of
    cases q : toPys ds with
    | none => rw [q] at e; cases e
    | some ps => rw [q] at e; cases e; exact .lst h2.sq (pys_ok ds vs ps h3 q)
  | .dic _ _, v, p, r, e => by unfold toPy at e; cases e
  | .ref _, v, p, r, e => by unfold toPy at e; cases e
  | .lam _ _, v, p, r, e => by unfold toPy at e; cases e
  | .scr _, v, p, r, e => by unfold toPy at e; cases e
  | .kdic _ _, v, p, r, e => by unfold toPy at e; cases e
theorem pys_ok : ∀ (ds : List D) (vs : List V) (ps : List PyData), Rps F g H ds vs → toPys ds = some ps → DpAll F.K H vs ps
  | [], vs, ps, r, e => by rw [r.nil_iff]; unfold toPys at e; cases e; exact .nil
  | d :: ds, vs, ps, r, e => by
    obtain ⟨v, r', rfl, h1, h2⟩ := r.inv
    unfold toPys at e
    cases q : toPy d with
    | none => rw [q] at e; cases e
    | some x =>
      cases q2 : toPys ds with
      | none => rw [q, q2] at e; cases e
      | some xs =>
        rw [q, q2] at e
        cases e
        exact .cons (py_ok d v x h1 q) (pys_ok ds r' xs h2 q2)
end
theorem pyOf_ok (S : StR F g H st) {d : D} {v : V} {p : PyData} (r : Rp F g H d v) (e : pyOf st d = some p) : Dp F.K H v p := by
  cases d with
  | ref n =>
    obtain ⟨a, h1, h2⟩ := r.ref_of
    unfold pyOf at e
    simp only at e
    split at e
    · rename_i ys q
      obtain ⟨_, vs, h3, h4⟩ := S.at h2 q (by intro z; cases z)
      cases q2 : toPys ys with
      | none => rw [q2] at e; cases e
      | some ps =>
        rw [q2] at e
        cases e
        rw [h1]
        exact .lst (.of h3) (pys_ok ys vs ps h4 q2)
    · cases e
  | _ => exact py_ok _ v p r e

theorem new_lst (S : StR F g H st) {xs : List D} {vs : List V} (r : Rps F g H xs vs) {p : Addr} (hp : H p = none) :
    Ge g H (g.fz p) (upd H p (.lst vs)) ∧ StR F (g.fz p) (upd H p (.lst vs)) st ∧ Rp F (g.fz p) (upd H p (.lst vs)) (.lst xs) (.ref p) :=
  ⟨.newFz S hp, S.newFz hp, rp_lst ⟨Gh.fz_same, upd_same⟩ (Rps.ge (.newFz S hp) _ _ r)⟩
theorem new_tup (S : StR F g H st) {xs : List D} {vs : List V} (r : Rps F g H xs vs) {p : Addr} (hp : H p = none) :
    Ge g H g (upd H p (.tup vs)) ∧ StR F g (upd H p (.tup vs)) st ∧ Rp F g (upd H p (.tup vs)) (.tup xs) (.ref p) :=
  ⟨.new S hp, S.new hp, rp_tup (.of upd_same) (Rps.ge (.new S hp) _ _ r)⟩
end

theorem LIM_eq : LIM = sizeLine := by rw [sizeLine_eq]
def rBin (K : PySem.W.Frag) : BOp → R2
  | .add => fun x y H Q => (rI0 (fun i j => .int (i + j)) x y H Q ∨ (∃ i j, x = .str i ∧ y = .str j ∧ i.length + j.length ≤ sizeLine ∧ Q (.str (i ++ j)) H)) ∨ (rCatA K x y H Q ∨ rCat x y H Q)
  | .sub => rI0 fun i j => .int (i - j)
  | .mul => fun x y H Q => rI CMul (fun i j => .int (i * j)) x y H Q ∨ rRep x y H Q
  | .fdiv => rI CDivN fun i j => .int (i.fdiv j)
  | .mod => rI (fun _ j => j ≠ 0) fun i j => .int (i.fmod j)
  | .pow => rI CPow fun i j => .int (i ^ j.toNat)
def opO : BOp → Operator
  | .add => .Add
  | .sub => .Sub
  | .mul => .Mult
  | .fdiv => .FloorDiv
  | .mod => .Mod
  | .pow => .Pow
theorem op_bin {X : Cx} (o : BOp) : OpR X (binaryOp (opO o)) (rBin X.K o) := by
  cases o with
  | add => exact (op_add.or op_add_str).or (op_catA.or op_cat)
  | sub => exact op_sub
  | mul => exact op_mul.or op_rep
  | fdiv => exact op_fdivN
  | mod => exact op_modN
  | pow => exact op_pow
section
variable {F : Fm} {g : Gh} {H : Hp} {st : Store} {Q : VK}
abbrev Wish (F : Fm) (st : Store) (g : Gh) (H : Hp) (d : D) (Q : VK) : Prop := ∀ g' H' v, Ge g H g' H' → StR F g' H' st → Rp F g' H' d v → Q v H'
theorem Wish.now {d : D} {v : V} (q : Wish F st g H d Q) (S : StR F g H st) (r : Rp F g H d v) : Q v H := q g H v Ge.refl S r
theorem Wish.lst {xs : List D} {vs : List V} (q : Wish F st g H (.lst xs) Q) (S : StR F g H st) (r : Rps F g H xs vs) : ∀ p, H p = none → Q (.ref p) (upd H p (.lst vs)) := fun p hp =>
  let ⟨a, b, c⟩ := new_lst S r hp
  q _ _ _ a b c
theorem Wish.tup {xs : List D} {vs : List V} (q : Wish F st g H (.tup xs) Q) (S : StR F g H st) (r : Rps F g H xs vs) : ∀ p, H p = none → Q (.ref p) (upd H p (.tup vs)) := fun p hp =>
  let ⟨a, b, c⟩ := new_tup S r hp
  q _ _ _ a b c
theorem Rps.rep {xs : List D} {vs : List V} (r : Rps F g H xs vs) : ∀ k : Nat, Rps F g H (List.replicate k xs).flatten (List.replicate k vs).flatten
  | 0 => .nil
  | k + 1 => by rw [List.replicate_succ, List.replicate_succ, List.flatten_cons, List.flatten_cons]; exact r.append (Rps.rep r k)
theorem Rps.nil_of {xs : List D} {vs : List V} (r : Rps F g H xs vs) : vs = [] ↔ xs = [] := by
  cases xs with
  | nil => simp [r.nil_iff]
  | cons d ds => obtain ⟨v, w, rfl, _⟩ := r.inv; simp
theorem bin_lsts (S : StR F g H st) {x y : D} {u v : V} {xs ys : List D} (rx : Rp F g H x u) (ry : Rp F g H y v) (ex : litems st x = some xs) (ey : litems st y = some ys) (hl : xs.length + ys.length ≤ LIM) (q : Wish F st g H (.lst (xs ++ ys)) Q) : rCat u v H Q := by
  obtain ⟨a, vs, rfl, h1, h2⟩ := litems_ok S rx ex
  obtain ⟨b, us, rfl, h3, h4⟩ := litems_ok S ry ey
  exact ⟨a, b, vs, us, rfl, rfl, h1, h3, by rw [← h2.len, ← h4.len, ← LIM_eq]; exact hl, q.lst S (h2.append h4)⟩
theorem bin_ok (S : StR F g H st) {o : BOp} {x y d : D} {u v : V} (rx : Rp F g H x u) (ry : Rp F g H y v) (e : binV o st x y = some d) (q : Wish F st g H d Q) : rBin F.K o u v H Q := by
  unfold binV at e
  split at e
  · cases e; exact .inl (.inl ⟨_, _, rx.int_of, ry.int_of, q.now S rp_int⟩)
  · cases e; exact ⟨_, _, rx.int_of, ry.int_of, q.now S rp_int⟩
  · split at e
    · rename_i i j h
      cases e
      refine .inl ⟨_, _, rx.int_of, ry.int_of, ?_, q.now S rp_int⟩
      simp only [inB64, Bool.or_eq_true, Bool.and_eq_true, decide_eq_true_eq] at h
      exact h
    · cases e
  · split at e
    · rename_i h; cases e; exact ⟨_, _, rx.int_of, ry.int_of, h, q.now S rp_int⟩
    · cases e
  · split at e
    · rename_i h; cases e; exact ⟨_, _, rx.int_of, ry.int_of, h, q.now S rp_int⟩
    · cases e
  · split at e
    · rename_i h; cases e; exact ⟨_, _, rx.int_of, ry.int_of, h, q.now S rp_int⟩
    · cases e
  · split at e
    · rename_i h; cases e; exact .inl (.inr ⟨_, _, rx.str_of, ry.str_of, by rw [← LIM_eq]; exact h, q.now S rp_str⟩)
    · cases e
  · split at e
    · rename_i xs ys h
      cases e
      obtain ⟨a, vs, rfl, h1, h2⟩ := rx.tup_of
      obtain ⟨b, us, rfl, h3, h4⟩ := ry.tup_of
      refine .inr (.inl ⟨a, b, vs, us, rfl, rfl, h1, h3, by rw [← h2.len, ← h4.len, ← LIM_eq]; exact h, fun z => ?_, fun _ z => ?_, fun _ _ => q.tup S (h2.append h4)⟩)
      · rw [h2.nil_of] at z
        subst z
        exact q.now S (rp_tup h3 h4)
      · rw [h4.nil_of] at z
        subst z
        rw [List.append_nil] at q
        exact q.now S (rp_tup h1 h2)
    · cases e
  · split at e
    · rename_i xs ys ex ey
      split at e
      · rename_i h; cases e; exact .inr (.inr (bin_lsts S rx ry ex ey h q))
      · cases e
    · cases e
  · split at e
    · rename_i xs ex
      split at e
      · rename_i k _ h
        cases e
        obtain ⟨a, vs, rfl, h1, h2⟩ := litems_ok S rx ex
        exact .inr ⟨a, _, vs, rfl, ry.int_of, h1, h.1, h.2.1, by rw [← h2.len, ← LIM_eq]; exact h.2.2, q.lst S (h2.rep _)⟩
      · cases e
    · cases e
  · cases e
end
end TS
end

section
set_option Elab.async false
set_option linter.all false
set_option maxRecDepth 100000
set_option maxHeartbeats 1000000
namespace TS
open PySem PySem.Spec PyProof.Rows L2
section
variable {F : Fm} {g : Gh} {H : Hp} {st : Store} {Q : VK}
theorem ditems_ok (S : StR F g H st) {d : D} {v : V} {ks : List Key} {ds : List D} (r : Rp F g H d v) (e : ditems st d = some (ks, ds)) : ∃ a vs, v = .ref a ∧ ks.length = vs.length ∧ Rd H a (.dK (ks.zip vs)) ∧ Rps F g H ds vs := by
  cases d with
  | dic ks' ds' =>
    cases e
    obtain ⟨a, vs, h1, h0, h2, h3⟩ := r.dic_of
    exact ⟨a, vs, h1, h0, h2.2, h3⟩
  | ref n =>
    obtain ⟨a, h1, h2⟩ := r.ref_of
    unfold ditems at e
    simp only at e
    split at e
    · rename_i ks' ds' q
      cases e
      obtain ⟨_, vs, h0, h3, h4⟩ := S.at h2 q (by intro z; cases z)
      exact ⟨a, vs, h1, h0, .inl h3, h4⟩
    · rename_i ks' ds' q
      cases e
      obtain ⟨_, od, vs, h0, h3, h4⟩ := S.at h2 q (by intro z; cases z)
      exact ⟨a, vs, h1, h0, .inr ⟨od, h3⟩, h4⟩
    · cases e
  | _ => cases e
theorem dget_rd {H : Hp} {a : Addr} {kvs : List (Key × V)} {k : Key} (e : Rd H a (.dK kvs)) : DGet H a (kV k) (valV kvs k) := .inl ⟨kvs, k, e, rfl, rfl⟩
theorem keyOf_ok {d : D} {v : V} {k : Key} (r : Rp F g H d v) (e : keyOf d = some k) : v = kV k := by
  cases d with
  | int i => cases e; exact r.int_of
  | str s => cases e; exact r.str_of
  | _ => cases e
theorem kD_ok {k : Key} : Rp F g H (kD k) (kV k) := by
  cases k with
  | inl i => exact rp_int
  | inr s => exact rp_str
theorem dget_ok : ∀ {ks : List Key} {ds : List D} {vs : List V} {k : Key}, ks.length = vs.length → Rps F g H ds vs →
    (∀ d, dget ks ds k = some d → ∃ v, valV (ks.zip vs) k = some v ∧ Rp F g H d v) ∧ (dget ks ds k = none → valV (ks.zip vs) k = none)
  | [], ds, vs, k, hl, r => by
    have e0 : dget [] ds k = none := by unfold dget; rfl
    exact ⟨fun d e => (by rw [e0] at e; cases e), fun _ => rfl⟩
  | q :: ks, [], vs, k, hl, r => by
    rw [r.nil_iff] at hl
    cases hl
  | q :: ks, d :: ds, vs, k, hl, r => by
    obtain ⟨v, t, rfl, h1, h2⟩ := r.inv
    have hl' : ks.length = t.length := by simpa using hl
    have ih := dget_ok (k := k) hl' h2
    by_cases e : q = k
    · refine ⟨fun x hx => ?_, fun hx => ?_⟩
      · unfold dget at hx
        rw [if_pos e] at hx
        cases hx
        exact ⟨v, by rw [List.zip_cons_cons]; exact valV_pos e, h1⟩
      · unfold dget at hx
        rw [if_pos e] at hx
        cases hx
    · refine ⟨fun x hx => ?_, fun hx => ?_⟩
      · unfold dget at hx
        rw [if_neg e] at hx
        obtain ⟨u, h3, h4⟩ := ih.1 x hx
        exact ⟨u, by rw [List.zip_cons_cons, valV_neg e]; exact h3, h4⟩
      · unfold dget at hx
        rw [if_neg e] at hx
        rw [List.zip_cons_cons, valV_neg e]
        exact ih.2 hx
theorem dget_isSome {ks : List Key} {ds : List D} {vs : List V} {k : Key} (hl : ks.length = vs.length) (r : Rps F g H ds vs) : (valV (ks.zip vs) k).isSome = (dget ks ds k).isSome := by
  obtain ⟨h1, h2⟩ := dget_ok (k := k) hl r
  cases e : dget ks ds k with
  | none => rw [h2 e]; rfl
  | some d =>
    obtain ⟨v, h3, _⟩ := h1 d e
    rw [h3]; rfl
theorem dget_getD {ks : List Key} {ds : List D} {vs : List V} {k : Key} {d : D} {u : V} (hl : ks.length = vs.length) (r : Rps F g H ds vs) (q : Rp F g H d u) : Rp F g H ((dget ks ds k).getD d) ((valV (ks.zip vs) k).getD u) := by
  obtain ⟨h1, h2⟩ := dget_ok (k := k) hl r
  cases e : dget ks ds k with
  | none => rw [h2 e]; exact q
  | some x =>
    obtain ⟨v, h3, h4⟩ := h1 x e
    rw [h3]; exact h4
def coO : COp → CmpOp
  | .eq => .Eq
  | .ne => .NotEq
  | .lt => .Lt
  | .le => .LtE
  | .gt => .Gt
  | .ge => .GtE
  | .isN => .Is
  | .notN => .IsNot
  | .in_ => .In
  | .notIn => .NotIn
  | .eqE => .Eq
  | .neE => .NotEq
  | .eqL => .Eq
  | .eqD => .Eq
  | .neL => .NotEq
def rInDc (neg : Bool) : R2 := fun x y H Q => ∃ a o, y = .ref a ∧ DGet H a x o ∧ Q (.bl (if neg then !o.isSome else o.isSome)) H
def rEqE : R2 := fun x y H Q => ∃ a b ks, x = .ref a ∧ y = .ref b ∧ Rd H a (.dK ks) ∧ Rd H b (.dK []) ∧ Q (.bl ks.isEmpty) H
theorem op_eqE {X : Cx} (hu : X.A.units < cLine) : OpR X (compareOp .Eq) rEqE := by
  intro pins s σ H x y v u Q I rx ry h
  obtain ⟨a, b, ks, rfl, rfl, ea, eb, q⟩ := h
  cases rx
  cases ry
  obtain ⟨_, ya, va, ra, da⟩ := dk_rd I.hok ea
  obtain ⟨_, yb, vb, rb, db⟩ := dk_rd I.hok eb
  cases rb
  have hl := ra.length
  refine PySem.W.keq_eq (knd := mixKind X.prog X.w) (r := true) ya yb da db hu (fun e => ?_) (fin_bl I q ?_)
  · cases va with
    | nil => exact .nil
    | cons p r => cases e
  · cases va <;> cases ks <;> first | rfl | (simp at hl)
def rNeE : R2 := fun x y H Q => ∃ a b ks, x = .ref a ∧ y = .ref b ∧ Rd H a (.dK ks) ∧ Rd H b (.dK []) ∧ Q (.bl (!ks.isEmpty)) H
theorem op_neE {X : Cx} (hu : X.A.units < cLine) : OpR X (compareOp .NotEq) rNeE := by
  intro pins s σ H x y v u Q I rx ry h
  obtain ⟨a, b, ks, rfl, rfl, ea, eb, q⟩ := h
  cases rx
  cases ry
  obtain ⟨_, ya, va, ra, da⟩ := dk_rd I.hok ea
  obtain ⟨_, yb, vb, rb, db⟩ := dk_rd I.hok eb
  cases rb
  have hl := ra.length
  refine PySem.W.keq_ne (knd := mixKind X.prog X.w) (r := true) ya yb da db hu (fun e => ?_) (fin_bl I q ?_)
  · cases va with
    | nil => exact .nil
    | cons p r => cases e
  · cases va <;> cases ks <;> first | rfl | (simp at hl)
def rEqL (neg : Bool) : R2 := fun x y H Q => ∃ a b vs, x = .ref a ∧ y = .ref b ∧ H a = some (.lst vs) ∧ H b = some (.lst []) ∧ Q (.bl (if neg then !vs.isEmpty else vs.isEmpty)) H
theorem lst_is {P : Program} {w : World} {H : Hp} {h : Heap} {a : Addr} {vs : List V} (ok : HOk P w H h) (e : H a = some (.lst vs)) : ∃ its : List Value, h.IsList a its.toArray ∧ its.length = vs.length := by
  obtain ⟨_, its, n, hv, hg⟩ := (show ObjOk P w H h a (.lst vs) from ok a _ e)
  exact ⟨its, ⟨_, hg, rfl, n, rfl⟩, hv.length.symm⟩
theorem op_eqL {X : Cx} (hu : X.A.units < cLine) : OpR X (compareOp .Eq) (rEqL false) := by
  intro pins s σ H x y v u Q I rx ry h
  obtain ⟨a, b, vs, rfl, rfl, ea, eb, q⟩ := h
  cases rx
  cases ry
  obtain ⟨ia, la, na⟩ := lst_is I.hok ea
  obtain ⟨ib, lb, nb⟩ := lst_is I.hok eb
  cases vs with
  | nil =>
    have := SeqAt.RcAt.lists (e := fun _ => true) la lb (by simp [na, nb]) hu (fun j j1 _ => by simp [na] at j1)
    exact this _ _ _ _ (fin_bl I q (by simp))
  | cons p r =>
    have := SeqAt.RcAt.lists_lengths la lb (by simp [na, nb]) hu
    exact this _ _ _ _ (fin_bl I q rfl)
theorem op_neL {X : Cx} (hu : X.A.units < cLine) : OpR X (compareOp .NotEq) (rEqL true) := by
  intro pins s σ H x y v u Q I rx ry h
  obtain ⟨a, b, vs, rfl, rfl, ea, eb, q⟩ := h
  cases rx
  cases ry
  obtain ⟨ia, la, na⟩ := lst_is I.hok ea
  obtain ⟨ib, lb, nb⟩ := lst_is I.hok eb
  cases vs with
  | nil =>
    have := SeqAt.RcNeAt.lists (e := fun _ => true) la lb (by simp [na, nb]) hu (fun j j1 _ => by simp [na] at j1)
    exact this _ _ _ _ (fin_bl I q (by simp))
  | cons p r =>
    have := SeqAt.RcNeAt.lists_lengths la lb (by simp [na, nb]) hu
    exact this _ _ _ _ (fin_bl I q rfl)
def rEqDD (K : PySem.W.Frag) : R2 := fun x y H Q => ∃ (a b : Addr) (kva kvb : List (Key × V)), x = .ref a ∧ y = .ref b ∧ Rd H a (.dK kva) ∧ Rd H b (.dK kvb) ∧ kva.length = kvb.length ∧
  (∀ kv ∈ kva, ∃ u d e, valV kvb kv.1 = some u ∧ Dp K H kv.2 d ∧ Dp K H u e ∧ SeqAt.shaped d = true ∧ SeqAt.shaped e = true ∧ PyData.eqv d e = true) ∧ Q (.bl true) H
theorem hits_ok {A : Around} {s : Shared} {vb : List (Key × Value)} : ∀ {va : List (Key × Value)}, (∀ p ∈ va, ∃ y, valueAt vb p.1 = some y ∧ SeqAt.EqAt A s p.2 y true) → PySem.W.KeqHits A s vb va true
  | [], _ => .nil
  | (k, v) :: r, h => by
    obtain ⟨y, h1, h2⟩ := h (k, v) List.mem_cons_self
    exact PySem.W.KeqHits.hit (e := true) (b := true) h1 h2 (hits_ok fun p hp => h p (List.mem_cons_of_mem _ hp))
theorem kv_mem {κ : Type} : ∀ {kvs : List (κ × V)} {vs : List (κ × Value)}, KV kvs vs → ∀ p ∈ vs, ∃ kv ∈ kvs, kv.1 = p.1 ∧ RelV kv.2 p.2 := by
  intro kvs vs r
  unfold KV at r
  induction r with
  | nil => intro p hp; cases hp
  | @cons x q ps qs h t ih =>
    intro p hp
    rcases List.mem_cons.mp hp with rfl | hp
    · exact ⟨x, List.mem_cons_self, h⟩
    · obtain ⟨kv, h1, h2⟩ := ih p hp
      exact ⟨kv, List.mem_cons_of_mem _ h1, h2⟩
theorem op_eqDD {X : Cx} (hu : X.A.units + 66 < cLine) : OpR X (compareOp .Eq) (rEqDD X.K) := by
  intro pins s σ H x y v u Q I rx ry h
  obtain ⟨a, b, kva, kvb, rfl, rfl, ea, eb, hl, hv, q⟩ := h
  cases rx
  cases ry
  obtain ⟨_, ya, va, ra, da⟩ := dk_rd I.hok ea
  obtain ⟨_, yb, vb, rb, db⟩ := dk_rd I.hok eb
  have l1 := ra.length
  have l2 := rb.length
  refine PySem.W.keq_eq (knd := mixKind X.prog X.w) (r := true) ya yb da db (by omega) (fun _ => hits_ok fun p hp => ?_) (fin_bl I q ?_)
  · obtain ⟨kv, h1, h2, h3⟩ := kv_mem ra p hp
    obtain ⟨w, d, e, k1, k2, k3, k4, k5, k6⟩ := hv kv h1
    have rv := rb.val kv.1
    rw [k1, h2] at rv
    obtain ⟨y, hy, ry⟩ : ∃ y, valueAt vb p.1 = some y ∧ RelV w y := by
      cases e2 : valueAt vb p.1 with
      | none => rw [e2] at rv; exact rv.elim
      | some y => rw [e2] at rv; exact ⟨y, rfl, rv⟩
    obtain ⟨as, r1⟩ := Dp.reads I d kv.2 p.2 k2 h3
    obtain ⟨bs, r2⟩ := Dp.reads I e w y k3 ry
    have z := SeqAt.eqAt_reads d e X.A.in1 s p.2 y as bs r1 r2 (SeqAt.canLay_of_shaped k4) (SeqAt.canLay_of_shaped k5) (by
      have m1 : d.depth ≤ 64 := of_decide_eq_true (Bool.and_eq_true_iff.mp k4).2
      have : X.A.in1.units ≤ X.A.units + 1 := Nat.le_refl _
      have : min d.depth e.depth ≤ d.depth := Nat.min_le_left _ _
      omega)
    rw [k6] at z
    exact ⟨y, hy, z⟩
  · have : va.length = vb.length := by omega
    simp [this]
def rCmp (K : PySem.W.Frag) : COp → R2
  | .eq => rEqD K
  | .ne => rNeD K
  | .lt => rI0 fun i j => .bl (decide (i < j))
  | .le => rI0 fun i j => .bl (decide (i ≤ j))
  | .gt => rI0 fun i j => .bl (decide (j < i))
  | .ge => rI0 fun i j => .bl (decide (j ≤ i))
  | .isN => fun x y H Q => y = .non ∧ Q (.bl (decide (x = .non))) H
  | .notN => fun x y H Q => y = .non ∧ Q (.bl (!decide (x = .non))) H
  | .in_ => fun x y H Q => (rIn K false x y H Q ∨ (∃ (c : Nat) (z : Str), x = .str ⟨#[c]⟩ ∧ y = .str z ∧ Q (.bl (decide (c ∈ z.cps.toList))) H)) ∨ rInDc false x y H Q
  | .notIn => fun x y H Q => (rIn K true x y H Q ∨ (∃ (c : Nat) (z : Str), x = .str ⟨#[c]⟩ ∧ y = .str z ∧ Q (.bl (!decide (c ∈ z.cps.toList))) H)) ∨ rInDc true x y H Q
  | .eqE => rEqE
  | .neE => rNeE
  | .eqL => rEqL false
  | .eqD => rEqDD K
  | .neL => rEqL true
theorem op_cmp {X : Cx} (hu : X.A.units + 66 < cLine) (o : COp) : OpR X (compareOp (coO o)) (rCmp X.K o) := by
  cases o with
  | eq => exact op_eqD (by omega)
  | ne => exact op_neD (by omega)
  | lt => exact op_lt
  | le => exact op_le
  | gt => exact op_gt
  | ge => exact op_ge
  | eqE => exact op_eqE (by omega)
  | neE => exact op_neE (by omega)
  | eqL => exact op_eqL (by omega)
  | eqD => exact op_eqDD (by omega)
  | neL => exact op_neL (by omega)
  | isN => exact op_isN
  | notN => exact op_notN
  | in_ =>
    refine (op_in_seq.or op_in_sign).or ?_
    intro pins s σ H x y v u Q I rx ry h
    obtain ⟨a, o, rfl, d, q⟩ := h
    cases ry
    exact d_in (by omega) I d rx fun s' I' => ⟨.bl _, H, I', rfl, q⟩
  | notIn =>
    refine (op_notIn_seq.or op_notIn_sign).or ?_
    intro pins s σ H x y v u Q I rx ry h
    obtain ⟨a, o, rfl, d, q⟩ := h
    cases ry
    exact d_notIn (by omega) I d rx fun s' I' => ⟨.bl _, H, I', rfl, q⟩
theorem flat_ok {d : D} {v : V} (r : Rp F g H d v) (e : flatD d = true) : flatV v = true ∧ (∀ (x : D) (u : V), Rp F g H x u → flatD x = true → eqV v u = eqF d x) := by
  have key : ∀ {x : D} {u : V}, Rp F g H x u → flatD x = true → (x = .non ∧ u = .non) ∨ (∃ b, x = .bl b ∧ u = .bl b) ∨ (∃ b, x = .int b ∧ u = .int b) ∨ ∃ b, x = .str b ∧ u = .str b := fun {x u} h k => by
    cases x with
    | non => exact .inl ⟨rfl, h.non_of⟩
    | bl b => exact .inr (.inl ⟨b, rfl, h.bl_of⟩)
    | int b => exact .inr (.inr (.inl ⟨b, rfl, h.int_of⟩))
    | str b => exact .inr (.inr (.inr ⟨b, rfl, h.str_of⟩))
    | _ => cases k
  rcases key r e with ⟨rfl, rfl⟩ | ⟨b, rfl, rfl⟩ | ⟨b, rfl, rfl⟩ | ⟨b, rfl, rfl⟩ <;> refine ⟨rfl, fun x u h k => ?_⟩ <;>
    rcases key h k with ⟨rfl, rfl⟩ | ⟨c, rfl, rfl⟩ | ⟨c, rfl, rfl⟩ | ⟨c, rfl, rfl⟩ <;> rfl
theorem flats_ok {x : D} {u : V} (rx : Rp F g H x u) (fx : flatD x = true) : ∀ {ds : List D} {vs : List V}, Rps F g H ds vs → ds.all flatD = true → vs.all flatV = true ∧ inV u vs = ds.any fun z => eqF z x
  | [], vs, r, _ => by rw [r.nil_iff]; exact ⟨rfl, rfl⟩
  | d :: ds, vs, r, e => by
    obtain ⟨v, t, rfl, h1, h2⟩ := r.inv
    rw [List.all_cons, Bool.and_eq_true] at e
    obtain ⟨h3, h4⟩ := flats_ok rx fx h2 e.2
    obtain ⟨h5, h6⟩ := flat_ok h1 e.1
    refine ⟨by rw [List.all_cons, h5, h3]; rfl, ?_⟩
    unfold inV at h4 ⊢
    rw [List.any_cons, List.any_cons, h4, h6 x u rx fx]
theorem one_sign {c : Str} (h : c.length = 1) : c = ⟨#[c.cps.toList.headD 0]⟩ := by
  obtain ⟨⟨l⟩⟩ := c
  have h : l.length = 1 := h
  match l, h with
  | [a], _ => rfl
theorem in_ok (S : StR F g H st) {x y : D} {u v : V} {b : Bool} (rx : Rp F g H x u) (ry : Rp F g H y v) (e : inV? st x y = some b) (neg : Bool) (q : Wish F st g H (.bl (if neg then !b else b)) Q) :
    (rIn F.K neg u v H Q ∨ (∃ (c : Nat) (z : Str), u = .str ⟨#[c]⟩ ∧ v = .str z ∧ Q (.bl (if neg then !decide (c ∈ z.cps.toList) else decide (c ∈ z.cps.toList))) H)) ∨ rInDc neg u v H Q := by
  unfold inV? at e
  split at e
  · rename_i c z
    split at e
    · rename_i hc
      cases e
      refine .inl (.inr ⟨_, z, ?_, ry.str_of, q.now S rp_bl⟩)
      rw [rx.str_of, ← one_sign hc]
    · cases e
  · split at e
    · rename_i ys ey
      split at e
      · rename_i h
        cases e
        rw [Bool.and_eq_true] at h
        obtain ⟨a, vs, rfl, h1, h2⟩ := items_ok S ry ey
        obtain ⟨h3, h4⟩ := flats_ok rx h.1 h2 h.2
        refine .inl (.inl ⟨a, vs, rfl, h1, (flat_ok rx h.1).1, h3, ?_⟩)
        rw [h4]
        exact q.now S rp_bl
      · cases e
    · split at e
      · rename_i ks ds k e1 e2
        cases e
        obtain ⟨a, vs, rfl, h0, h1, h2⟩ := ditems_ok S ry e1
        refine .inr ⟨a, valV (ks.zip vs) k, rfl, by rw [keyOf_ok rx e2]; exact dget_rd h1, ?_⟩
        rw [dget_isSome h0 h2]
        exact q.now S rp_bl
      · cases e
theorem isN_ok {x : D} {u : V} (rx : Rp F g H x u) : decide (u = .non) = isN x := by
  cases x with
  | non => rw [rx.non_of]; rfl
  | bl b => rw [rx.bl_of]; rfl
  | int b => rw [rx.int_of]; rfl
  | str b => rw [rx.str_of]; rfl
  | tup ds => obtain ⟨a, vs, rfl, _⟩ := rx.tup_of; rfl
  | lst ds => obtain ⟨a, vs, rfl, _⟩ := rx.lst_of; rfl
  | dic ks ds => obtain ⟨a, vs, rfl, _⟩ := rx.dic_of; rfl
  | kdic ks ds => obtain ⟨a, vs, rfl, _⟩ := rx.kdic_of; rfl
  | ref n => obtain ⟨a, rfl, _⟩ := rx.ref_of; rfl
  | scr n => obtain ⟨a, rfl, _⟩ := rx.scr_of; rfl
  | lam k c => unfold Rp at rx; exact rx.elim
theorem cmp_ok (S : StR F g H st) {o : COp} {x y : D} {u v : V} {b : Bool} (rx : Rp F g H x u) (ry : Rp F g H y v) (e : cmpV o st x y = some b) (q : Wish F st g H (.bl b) Q) : rCmp F.K o u v H Q := by
  have key0 : ∀ {x y : D} {b : Bool}, eqv? st x y = some b → ∃ p r, pyOf st x = some p ∧ pyOf st y = some r ∧ SeqAt.shaped p = true ∧ SeqAt.shaped r = true ∧ b = PyData.eqv p r := fun {x y b} e => by
    unfold eqv? at e
    split at e
    · rename_i p r e1 e2
      split at e
      · rename_i h
        cases e
        rw [Bool.and_eq_true] at h
        exact ⟨p, r, e1, e2, h.1, h.2, rfl⟩
      · cases e
    · cases e
  have key : ∀ {b : Bool}, eqv? st x y = some b → ∃ p r, Dp F.K H u p ∧ Dp F.K H v r ∧ SeqAt.shaped p = true ∧ SeqAt.shaped r = true ∧ b = PyData.eqv p r := fun {b} e => by
    obtain ⟨p, r, e1, e2, h1, h2, h3⟩ := key0 e
    exact ⟨p, r, pyOf_ok S rx e1, pyOf_ok S ry e2, h1, h2, h3⟩
  cases o with
  | eq =>
    obtain ⟨p, r, h1, h2, h3, h4, rfl⟩ := key e
    exact ⟨p, r, h1, h2, h3, h4, q.now S rp_bl⟩
  | ne =>
    obtain ⟨b', e1, rfl⟩ := Option.map_eq_some_iff.mp (show (eqv? st x y).map not = some b from e)
    obtain ⟨p, r, h1, h2, h3, h4, rfl⟩ := key e1
    exact ⟨p, r, h1, h2, h3, h4, q.now S rp_bl⟩
  | eqE =>
    replace e : eqE? st x y = some b := e
    unfold eqE? at e
    split at e
    · rename_i ks ds ds2 e1 e2
      cases e
      obtain ⟨a, vs, rfl, h0, h1, h2⟩ := ditems_ok S rx e1
      obtain ⟨a2, us, rfl, k0, k1, k2⟩ := ditems_ok S ry e2
      cases us with
      | nil =>
        refine ⟨a, a2, _, rfl, rfl, h1, k1, ?_⟩
        have : (ks.zip vs).isEmpty = ks.isEmpty := by cases ks <;> cases vs <;> first | rfl | cases h0
        rw [this]
        exact q.now S rp_bl
      | cons u us => cases k0
    · cases e
  | neE =>
    obtain ⟨b', e1, rfl⟩ := Option.map_eq_some_iff.mp (show (eqE? st x y).map not = some b from e)
    unfold eqE? at e1
    split at e1
    · rename_i ks ds ds2 e3 e2
      cases e1
      obtain ⟨a, vs, rfl, h0, h1, h2⟩ := ditems_ok S rx e3
      obtain ⟨a2, us, rfl, k0, k1, k2⟩ := ditems_ok S ry e2
      cases us with
      | nil =>
        refine ⟨a, a2, _, rfl, rfl, h1, k1, ?_⟩
        have : (ks.zip vs).isEmpty = ks.isEmpty := by cases ks <;> cases vs <;> first | rfl | cases h0
        rw [this]
        exact q.now S rp_bl
      | cons u us => cases k0
    · cases e1
  | eqL =>
    replace e : eqL? st x y = some b := e
    unfold eqL? at e
    split at e
    · rename_i xs e1 e2
      cases e
      obtain ⟨a, vs, rfl, h1, h2⟩ := litems_ok S rx e1
      obtain ⟨a2, us, rfl, k1, k2⟩ := litems_ok S ry e2
      cases k2.nil_iff
      refine ⟨a, a2, vs, rfl, rfl, h1, k1, ?_⟩
      have : vs.isEmpty = xs.isEmpty := by
        have := h2.len
        cases xs <;> cases vs <;> first | rfl | (simp at this)
      simp only [Bool.false_eq_true, if_false]
      rw [this]
      exact q.now S rp_bl
    · cases e
  | eqD =>
    replace e : eqDD? st x y = some b := e
    unfold eqDD? at e
    split at e
    · rename_i ks ds ks' ds' e1 e2
      split at e
      · rename_i hc
        cases e
        obtain ⟨hc1, hc2⟩ := Bool.and_eq_true_iff.mp hc
        obtain ⟨a, vs, rfl, h0, h1, h2⟩ := ditems_ok S rx e1
        obtain ⟨a2, us, rfl, k0, k1, k2⟩ := ditems_ok S ry e2
        have lk := of_decide_eq_true hc1
        refine ⟨a, a2, _, _, rfl, rfl, h1, k1, by rw [List.length_zip, List.length_zip]; omega, fun kv hkv => ?_, q.now S rp_bl⟩
        obtain ⟨i, hi⟩ := List.mem_iff_getElem?.mp hkv
        rw [List.getElem?_zip_eq_some] at hi
        have ld := h2.len
        have li : i < ds.length := by have := (List.getElem?_eq_some_iff.mp hi.2).1; omega
        obtain ⟨v, hv, rv⟩ := h2.get (List.getElem?_eq_getElem li)
        rw [hi.2] at hv
        cases hv
        have hz := List.all_eq_true.mp hc2 (kv.1, ds[i]) (List.mem_iff_getElem?.mpr ⟨i, by rw [List.getElem?_zip_eq_some]; exact ⟨hi.1, List.getElem?_eq_getElem li⟩⟩)
        simp only at hz
        split at hz
        · rename_i d' ed
          obtain ⟨w, w1, w2⟩ := (dget_ok (k := kv.1) k0 k2).1 d' ed
          obtain ⟨p, r, g1, g2, g3, g4, g5⟩ := key0 (of_decide_eq_true hz)
          exact ⟨w, p, r, w1, pyOf_ok S rv g1, pyOf_ok S w2 g2, g3, g4, g5.symm⟩
        · cases hz
      · cases e
    · cases e
  | neL =>
    obtain ⟨b', e3, rfl⟩ := Option.map_eq_some_iff.mp (show (eqL? st x y).map not = some b from e)
    unfold eqL? at e3
    split at e3
    · rename_i xs e1 e2
      cases e3
      obtain ⟨a, vs, rfl, h1, h2⟩ := litems_ok S rx e1
      obtain ⟨a2, us, rfl, k1, k2⟩ := litems_ok S ry e2
      cases k2.nil_iff
      refine ⟨a, a2, vs, rfl, rfl, h1, k1, ?_⟩
      have : vs.isEmpty = xs.isEmpty := by
        have := h2.len
        cases xs <;> cases vs <;> first | rfl | (simp at this)
      simp only [if_true]
      rw [this]
      exact q.now S rp_bl
    · cases e3
  | lt =>
    unfold cmpV at e; simp only at e
    split at e
    · cases e
      exact ⟨_, _, rx.int_of, ry.int_of, q.now S rp_bl⟩
    · cases e
  | le =>
    unfold cmpV at e; simp only at e
    split at e
    · cases e
      exact ⟨_, _, rx.int_of, ry.int_of, q.now S rp_bl⟩
    · cases e
  | gt =>
    unfold cmpV at e; simp only at e
    split at e
    · cases e
      exact ⟨_, _, rx.int_of, ry.int_of, q.now S rp_bl⟩
    · cases e
  | ge =>
    unfold cmpV at e; simp only at e
    split at e
    · cases e
      exact ⟨_, _, rx.int_of, ry.int_of, q.now S rp_bl⟩
    · cases e
  | isN =>
    unfold cmpV at e; simp only at e
    split at e
    · cases e
      exact ⟨ry.non_of, by rw [isN_ok rx]; exact q.now S rp_bl⟩
    · cases e
  | notN =>
    unfold cmpV at e; simp only at e
    split at e
    · cases e
      exact ⟨ry.non_of, by rw [isN_ok rx]; exact q.now S rp_bl⟩
    · cases e
  | in_ => exact in_ok S rx ry e false q
  | notIn =>
    obtain ⟨b', e1, rfl⟩ := Option.map_eq_some_iff.mp (show (inV? st x y).map not = some b from e)
    exact in_ok S rx ry e1 true q
def rIxD' : R2 := fun x y H Q => ∃ a v, x = .ref a ∧ DGet H a y (some v) ∧ Q v H
def rIxAny (K : PySem.W.Frag) : R2 := fun x y H Q => ((rIxL K x y H Q ∨ rIxT K x y H Q) ∨ rIxS x y H Q) ∨ rIxD' x y H Q
theorem IxR.or {X : Cx} {r r' : R2} (h : IxR X r) (h' : IxR X r') : IxR X (fun x y H Q => r x y H Q ∨ r' x y H Q) := by
  intro value slice pins s σ H x y v u Q I rx ry q hs
  rcases q with q | q
  · exact h value slice pins s σ H x y v u Q I rx ry q hs
  · exact h' value slice pins s σ H x y v u Q I rx ry q hs
theorem atI_ok {ds : List D} {vs : List V} {i : Int} {d : D} (r : Rps F g H ds vs) (e : atI ds i = some d) : ∃ v, atI vs i = some v ∧ Rp F g H d v := by
  unfold atI at e ⊢
  rw [← r.len]
  obtain ⟨j, h1, h2⟩ := Option.bind_eq_some_iff.mp e
  obtain ⟨v, h3, h4⟩ := r.get h2
  exact ⟨v, by rw [h1]; exact h3, h4⟩
theorem ix_ok (S : StR F g H st) {x y d : D} {u v : V} (rx : Rp F g H x u) (ry : Rp F g H y v) (e : ixV st x y = some d) (q : Wish F st g H d Q) : rIxAny F.K u v H Q := by
  unfold ixV at e
  split at e
  · rename_i xs i ex
    obtain ⟨a, vs, rfl, h1, h2⟩ := items_ok S rx ex
    obtain ⟨w, h3, h4⟩ := atI_ok h2 e
    rcases h1 with h1 | h1
    · exact .inl (.inl (.inl ⟨a, vs, i, w, rfl, ry.int_of, h1, h3, q.now S h4⟩))
    · exact .inl (.inl (.inr ⟨a, vs, i, w, rfl, ry.int_of, h1, h3, q.now S h4⟩))
  · cases e
  · split at e
    · rename_i z
      split at e
      · rename_i i
        split at e
        · rename_i hz
          obtain ⟨c, h1, rfl⟩ := Option.map_eq_some_iff.mp e
          exact .inl (.inr ⟨_, _, c, rx.str_of, ry.int_of, by rw [← LIM_eq]; exact hz, h1, q.now S rp_str⟩)
        · cases e
      · cases e
    · split at e
      · rename_i ks ds k e1 e2
        obtain ⟨a, vs, rfl, h0, h1, h2⟩ := ditems_ok S rx e1
        obtain ⟨w, h3, h4⟩ := (dget_ok (k := k) h0 h2).1 d e
        refine .inr ⟨a, w, rfl, ?_, q.now S h4⟩
        rw [keyOf_ok ry e2, ← h3]
        exact dget_rd h1
      · cases e
theorem ixD {X : Cx} (hu : X.A.units + 1 < cLine) : IxR X rIxD' := by
  intro value slice pins s σ H x y v u Q I rx ry h hs
  obtain ⟨a, w, rfl, d, q⟩ := h
  cases rx
  have ht : s.TypeIs (.ref a) "dict" := dict_typeIs I d
  exact tail_any ht slot_dict_getitem.lookup (d_getItem hu I d ry fun w' s' I' r => ⟨w, H, I', r, q⟩) hs
theorem ixAny {X : Cx} (hu : X.A.units + 1 < cLine) : IxR X (rIxAny X.K) := ((ix_list.or ix_tup).or ix_str).or (ixD hu)
theorem tup_whole {prog : Program} {w : World} {A : Around} {E : Value → Shared → Prop} {s : Shared} {t sl : Addr} {xs : Array Value} {vl vu : Value} {lo hi : Option Int} {R : Value → Shared → Prop} (ht : IsTup s.heap t xs) (hs : s.heap.IsSliceOf sl vl vu .none)
    (pl : IsPart vl lo) (pu : IsPart vu hi) (h1 : HT.sIx xs.size 0 lo = 0) (h2 : HT.sIx xs.size xs.size hi = xs.size) (h : R (.ref t) s) : wpAny (model prog w) A (getItem (.ref t) (.ref sl)) R E s := by
  obtain ⟨os, hos, hcs, hds⟩ := id hs
  unfold getItem
  (try with_reducible refine wpAny_holding ?_)
  (first | refine wpAny_bind (wpAny_pure ?_) | skip)
  refine wpAny_bind (wpAny_sequenceKey ht.typeIs (by decide) (wpAny_bind (wpAny_callSpecial?_slot (name := Str.ofString "__getitem__") ht.typeIs slot_tuple_getitem (wpAny_call_entry slot_tuple_getitem ht.typeIs entry_tuple_getitem ?_ (args_tuple_getitem _ _)))))
  show wpAny _ _ (Builtin.Tuple.tupleItemsOf _ >>= _) _ _ s
  refine wpAny_bind (tupleItemsOf_ ht (wpAny_bind (wpAny_typeOf (show s.TypeIs (.ref sl) "slice" from ⟨os, hos, hcs⟩) ?_)))
  rw [if_pos (by decide)]
  refine wpAny_bind (HT.sliceApplied_gen hs pl pu ?_)
  have yes : ((((HT.sIx xs.size 0 lo : Nat) : Int) == 0 && (1 : Int) == 1 && (HT.sIx xs.size xs.size hi - HT.sIx xs.size 0 lo) == xs.size) = true) := by
    rw [h1, h2]; simp
  simp only []
  rw [if_pos yes]
  unfold Builtin.Tuple.tupleIsExact
  refine wpAny_bind (wpAny_bind (wpAny_typeOf ht.typeIs (wpAny_pure ?_)))
  rw [if_pos (by decide)]
  exact wpAny_bind (wpAny_rule (wpAny_pure ⟨_, rfl, wpAny_pure h⟩))
end
end TS
end

section
set_option Elab.async false
set_option linter.all false
set_option maxRecDepth 100000
set_option maxHeartbeats 1000000
set_option autoImplicit false
namespace TS
open PySem PySem.Spec PyProof.Rows L2
theorem lt_irr : ∀ (a : List Nat), ltCps a a = false
  | [] => rfl
  | x :: a => by unfold ltCps; simp [lt_irr a]
theorem lt_eq : ∀ {a b : List Nat}, ltCps a b = false → ltCps b a = false → a = b
  | [], [], _, _ => rfl
  | [], y :: b, h, _ => by simp [ltCps] at h
  | x :: a, [], _, h => by simp [ltCps] at h
  | x :: a, y :: b, h1, h2 => by
    unfold ltCps at h1 h2
    by_cases c : x = y
    · subst c
      simp at h1 h2
      rw [lt_eq h1 h2]
    · have c2 : ¬ y = x := fun z => c z.symm
      simp [c, c2] at h1 h2
      omega
theorem ge_trans : ∀ {a b c : List Nat}, ltCps b a = false → ltCps c b = false → ltCps c a = false
  | [], b, c, _, _ => by cases c <;> rfl
  | x :: a, [], c, h, _ => by simp [ltCps] at h
  | x :: a, y :: b, [], _, h => by simp [ltCps] at h
  | x :: a, y :: b, z :: c, h1, h2 => by
    unfold ltCps at h1 h2 ⊢
    by_cases c1 : y = x
    · subst c1
      by_cases c2 : z = y
      · subst c2
        simp at h1 h2 ⊢
        exact ge_trans h1 h2
      · simp [c2] at h2 ⊢
        exact h2
    · simp [c1] at h1
      by_cases c2 : z = y
      · subst c2
        simp [c1]
        exact h1
      · simp [c2] at h2
        have c3 : ¬ z = x := by omega
        simp [c3]
        omega
def leS (a b : Str) : Prop := ltCps b.cps.toList a.cps.toList = false
theorem str_eq {a b : Str} (h : a.cps.toList = b.cps.toList) : a = b := by
  obtain ⟨⟨a⟩⟩ := a
  obtain ⟨⟨b⟩⟩ := b
  have : a = b := h
  rw [this]
theorem leS_eq {a b : Str} (h1 : leS a b) (h2 : leS b a) : a = b := str_eq (lt_eq h2 h1)
theorem leS_trans {a b c : Str} (h1 : leS a b) (h2 : leS b c) : leS a c := ge_trans h1 h2
theorem leS_total {a b : Str} (h : ¬ leS a b) : leS b a := by
  unfold leS at *
  have h : ltCps b.cps.toList a.cps.toList = true := by simpa using h
  have as : ∀ {x y : List Nat}, ltCps x y = true → ltCps y x = false := by
    intro x
    induction x with
    | nil => intro y _; cases y <;> rfl
    | cons u x ih =>
      intro y h
      cases y with
      | nil => simp [ltCps] at h
      | cons v y =>
        unfold ltCps at h ⊢
        by_cases c : u = v
        · subst c
          simp at h ⊢
          exact ih h
        · have c2 : ¬ v = u := fun z => c z.symm
          simp [c, c2] at h ⊢
          omega
  exact as h
theorem sorted_pair : ∀ {x : Str} {l : List Str}, risingS x l = true → (x :: l).Pairwise leS
  | x, [], _ => List.pairwise_singleton _ _
  | x, y :: l, h => by
    unfold risingS at h
    rw [Bool.and_eq_true] at h
    have ih := sorted_pair h.2
    have hxy : leS x y := by unfold leS; simpa using h.1
    refine List.pairwise_cons.mpr ⟨fun z hz => ?_, ih⟩
    rcases List.mem_cons.mp hz with rfl | hz
    · exact hxy
    · exact leS_trans hxy ((List.pairwise_cons.mp ih).1 z hz)
theorem sortedS_pair {l : List Str} (h : sortedS l = true) : l.Pairwise leS := by
  cases l with
  | nil => exact .nil
  | cons x l => exact sorted_pair h
theorem pair_unique : ∀ {a b : List Str}, a.Pairwise leS → b.Pairwise leS → a.Perm b → a = b
  | [], b, _, _, h => by rw [List.nil_perm.mp h]
  | x :: a, [], _, _, h => by cases h.length_eq
  | x :: a, y :: b, h1, h2, h => by
    obtain ⟨p1, p2⟩ := List.pairwise_cons.mp h1
    obtain ⟨q1, q2⟩ := List.pairwise_cons.mp h2
    have e : x = y := by
      have hx : x ∈ y :: b := h.mem_iff.mp List.mem_cons_self
      have hy : y ∈ x :: a := h.mem_iff.mpr List.mem_cons_self
      rcases List.mem_cons.mp hx with e | hx
      · exact e
      · rcases List.mem_cons.mp hy with e | hy
        · exact e.symm
        · exact leS_eq (p1 y hy) (q1 x hx)
    subst e
    rw [pair_unique p2 q2 h.cons_inv]
theorem ins_perm {x : Str} : ∀ {l : List Str}, (insS x l).Perm (x :: l)
  | [] => .refl _
  | y :: l => by
    unfold insS
    split
    · exact ((ins_perm (x := x) (l := l)).cons y).trans (.swap x y l)
    · exact .refl _
theorem ins_pair {x : Str} : ∀ {l : List Str}, l.Pairwise leS → (insS x l).Pairwise leS
  | [], _ => List.pairwise_singleton _ _
  | y :: l, h => by
    obtain ⟨h1, h2⟩ := List.pairwise_cons.mp h
    unfold insS
    split
    · rename_i c
      refine List.pairwise_cons.mpr ⟨fun z hz => ?_, ins_pair h2⟩
      rcases List.mem_cons.mp (ins_perm.mem_iff.mp hz) with rfl | hz
      · exact leS_total (fun z => by unfold leS at z; rw [c] at z; cases z)
      · exact h1 z hz
    · rename_i c
      have hxy : leS x y := by unfold leS; simpa using c
      refine List.pairwise_cons.mpr ⟨fun z hz => ?_, h⟩
      rcases List.mem_cons.mp hz with rfl | hz
      · exact hxy
      · exact leS_trans hxy (h1 z hz)
theorem sort_perm : ∀ {l : List Str}, (sortStr l).Perm l
  | [] => .refl _
  | x :: l => (ins_perm).trans ((sort_perm (l := l)).cons x)
theorem sort_pair : ∀ {l : List Str}, (sortStr l).Pairwise leS
  | [] => .nil
  | x :: l => ins_pair sort_pair
theorem sort_unique {ys l : List Str} (h : ys.Perm l) (s : sortedS ys = true) : ys = sortStr l := pair_unique (sortedS_pair s) sort_pair (h.trans sort_perm.symm)
end TS
end

section
set_option Elab.async false
set_option linter.all false
set_option maxRecDepth 100000
set_option maxHeartbeats 1000000
namespace TS
open PySem PySem.Spec PyProof.Rows L2
section
variable {F : Fm} {g : Gh} {H : Hp} {st : Store} {Q : VK}
theorem any_key {ks : List Key} {vs : List V} {k : Key} (h : ks.length = vs.length) : ((ks.zip vs).any fun kv => decide (kv.1 = k)) = ks.any fun q => decide (q = k) := by
  induction ks generalizing vs with
  | nil => rfl
  | cons q ks ih =>
    cases vs with
    | nil => cases h
    | cons v vs => rw [List.zip_cons_cons, List.any_cons, List.any_cons, ih (by simpa using h)]
theorem put_ok {ks : List Key} {ds : List D} {vs : List V} {k : Key} {d : D} {v : V} (h : ks.length = vs.length) (r : Rps F g H ds vs) (q : Rp F g H d v) :
    ∃ us, putK (ks.zip vs) k v = (dputK ks k).zip us ∧ (dputK ks k).length = us.length ∧ Rps F g H (dputD ks ds k d) us := by
  unfold putK dputK dputD
  rw [any_key h]
  by_cases e : (ks.any fun q => decide (q = k)) = true
  · simp only [e, if_true]
    clear e
    induction ks generalizing ds vs with
    | nil => exact ⟨[], rfl, rfl, .nil⟩
    | cons x ks ih =>
      cases vs with
      | nil => cases h
      | cons w vs =>
        cases ds with
        | nil => have := r.len; cases this
        | cons c ds =>
          obtain ⟨w', t, e1, h1, h2⟩ := r.inv
          cases e1
          obtain ⟨us, h3, h4, h5⟩ := ih (vs := vs) (ds := ds) (by simpa using h) h2
          refine ⟨(if x = k then v else w) :: us, ?_, by simp [h4], ?_⟩
          · rw [List.zip_cons_cons, List.map_cons, h3, List.zip_cons_cons]
            by_cases ex : x = k
            · rw [if_pos ex, if_pos ex]
            · rw [if_neg ex, if_neg ex]
          · rw [List.zip_cons_cons, List.map_cons]
            refine .cons ?_ h5
            by_cases ex : x = k
            · rw [if_pos ex, if_pos ex]; exact q
            · rw [if_neg ex, if_neg ex]; exact h1
  · simp only [e]
    refine ⟨vs ++ [v], ?_, by simp [h], r.append (.cons q .nil)⟩
    show ks.zip vs ++ [(k, v)] = (ks ++ [k]).zip (vs ++ [v])
    rw [List.zip_append h]
    rfl
theorem prs_ok : ∀ {zs : List D} {ps : List (Key × D)} {ws : List V}, prsD zs = some ps → Rps F g H zs ws → ∃ (as : List Addr) (kws : List (Key × V)), ws = as.map V.ref ∧ Paired (fun p kv => SqT F.K H p [kV kv.1, kv.2]) as kws ∧ Paired (fun (p : Key × D) (kv : Key × V) => p.1 = kv.1 ∧ Rp F g H p.2 kv.2) ps kws
  | [], ps, ws, e, r => by
    unfold prsD at e
    cases e
    rw [r.nil_iff]
    exact ⟨[], [], rfl, .nil, .nil⟩
  | z :: zs, ps, ws, e, r => by
    obtain ⟨v, t, rfl, rz, rt⟩ := r.inv
    unfold prsD at e
    split at e
    · rename_i h; cases h
    · rename_i k x r' h
      cases h
      split at e
      · rename_i q ps' e1 e2
        cases e
        obtain ⟨as, kws, h1, h2, h3⟩ := prs_ok e2 rt
        obtain ⟨a, vs, rfl, s1, s2⟩ := rz.tup_of
        obtain ⟨v1, v2, rfl, r1, r2⟩ := s2.two_of
        rw [keyOf_ok r1 e1] at s1
        exact ⟨a :: as, (q, v2) :: kws, by rw [h1]; rfl, .cons s1 h2, .cons ⟨rfl, r2⟩ h3⟩
      · cases e
    · cases e
theorem merge_ok : ∀ {ps : List (Key × D)} {kws : List (Key × V)} {ks : List Key} {ds : List D} {vs : List V}, Paired (fun (p : Key × D) (kv : Key × V) => p.1 = kv.1 ∧ Rp F g H p.2 kv.2) ps kws → ks.length = vs.length → Rps F g H ds vs →
    ∃ us, mergeK (ks.zip vs) kws = (putAllK ps ks).zip us ∧ (putAllK ps ks).length = us.length ∧ Rps F g H (putAllD ps ks ds) us
  | _, _, ks, ds, vs, .nil, h, r => ⟨vs, rfl, h, r⟩
  | _, _, ks, ds, vs, .cons (a := p) (b := kv) (l₁ := ps) (l₂ := kws) ⟨e, rp⟩ t, h, r => by
    obtain ⟨us, h1, h2, h3⟩ := put_ok (k := p.1) h r rp
    obtain ⟨us2, k1, k2, k3⟩ := merge_ok t h2 h3
    refine ⟨us2, ?_, k2, k3⟩
    show mergeK (putK (ks.zip vs) kv.1 kv.2) kws = _
    rw [← e, h1]
    exact k1
end
end TS
end

section
set_option Elab.async false
set_option linter.all false
set_option maxRecDepth 100000
set_option maxHeartbeats 1000000
namespace TS
open PySem PySem.Spec PyProof.Rows L2
section
variable {F : Fm} {g : Gh} {H : Hp} {st : Store} {Q : VK}
def rSlW (K : PySem.W.Frag) : V → Option Int → Option Int → Hp → VK → Prop := fun x lo hi H Q => ∃ a xs, x = .ref a ∧ SqT K H a xs ∧ (HT.sIx xs.length 0 lo = 0 ∧ HT.sIx xs.length xs.length hi = xs.length) ∧ Q (.ref a) H
def rSlAny (K : PySem.W.Frag) : V → Option Int → Option Int → Hp → VK → Prop := fun x lo hi H Q => ((rSlT K x lo hi H Q ∨ rSlW K x lo hi H Q) ∨ rSlL K x lo hi H Q) ∨ rSlS x lo hi H Q
theorem sl_any {X : Cx} : L2.SlR X (rSlAny X.K) := by
  refine ((sl_tup.or ?_).or sl_list).or sl_str
  intro pins s σ H x v vl vu lo hi sl Q I rx hs pl pu h
  obtain ⟨a, xs, rfl, hx, ⟨h1, h2⟩, q⟩ := h
  cases rx
  obtain ⟨its, r, ht, hz⟩ := I.tuple hx
  have hl : its.toArray.size = xs.length := by rw [List.size_toArray, r.length]
  exact ⟨"tuple", _, slot_tuple_getitem.lookup, ht.typeIs, tup_whole ht hs pl pu (by rw [hl]; exact h1) (by rw [hl]; exact h2) ⟨.ref a, H, I, rfl, q⟩⟩
theorem cut_ok {ds : List D} {vs : List V} (r : Rps F g H ds vs) (lo hi : Option Int) : Rps F g H (cutD ds lo hi) (cutV vs lo hi) := by
  unfold cutD cutV
  rw [r.len]
  exact (r.drop _).take _
theorem cut_whole {ds : List D} {lo hi : Option Int} (h1 : HT.sIx ds.length 0 lo = 0) (h2 : HT.sIx ds.length ds.length hi = ds.length) : cutD ds lo hi = ds := by
  unfold cutD
  rw [h1, h2, List.drop_zero, Nat.sub_zero, List.take_length]
theorem sl_ok (S : StR F g H st) {x d : D} {u : V} {lo hi : Option Int} (rx : Rp F g H x u) (e : slV st x lo hi = some d) (q : Wish F st g H d Q) : rSlAny F.K u lo hi H Q := by
  unfold slV at e
  split at e
  · cases e
    obtain ⟨a, vs, rfl, h1, h2⟩ := rx.tup_of
    by_cases w : HT.sIx vs.length 0 lo = 0 ∧ HT.sIx vs.length vs.length hi = vs.length
    · refine .inl (.inl (.inr ⟨a, vs, rfl, h1, w, ?_⟩))
      rw [← h2.len] at w
      rw [cut_whole w.1 w.2] at q
      exact q.now S (rp_tup h1 h2)
    · exact .inl (.inl (.inl ⟨a, vs, rfl, h1, w, q.tup S (cut_ok h2 lo hi)⟩))
  · split at e
    · rename_i z hz
      cases e
      exact .inr ⟨_, rx.str_of, by rw [← LIM_eq]; exact hz, q.now S rp_str⟩
    · cases e
  · obtain ⟨xs, e1, rfl⟩ := Option.map_eq_some_iff.mp e
    obtain ⟨a, vs, rfl, h1, h2⟩ := litems_ok S rx e1
    exact .inl (.inr ⟨a, vs, rfl, .of h1, q.lst S (cut_ok h2 lo hi)⟩)
theorem tru_D (S : StR F g H st) {d : D} {v : V} {b : Bool} (r : Rp F g H d v) (e : tru st d = some b) : TruV F.K v H b := by
  have emp : ∀ {ds : List D} {vs : List V}, Rps F g H ds vs → (!ds.isEmpty) = !vs.isEmpty := fun {ds vs} q => by
    cases ds with
    | nil => rw [q.nil_iff]; rfl
    | cons a b => obtain ⟨v, w, rfl, _⟩ := q.inv; rfl
  cases d with
  | non => cases e; rw [r.non_of]; rfl
  | bl b => cases e; rw [r.bl_of]; rfl
  | int i => cases e; rw [r.int_of]; rfl
  | str s =>
    unfold tru at e; simp only at e
    split at e
    · rename_i h; cases e; rw [r.str_of]; exact ⟨by rw [← LIM_eq]; exact h, rfl⟩
    · cases e
  | tup ds =>
    cases e
    obtain ⟨a, vs, rfl, h1, h2⟩ := r.tup_of
    exact .inr (.inl ⟨vs, h1, emp h2⟩)
  | lst ds =>
    cases e
    obtain ⟨a, vs, rfl, h1, h2⟩ := r.lst_of
    exact .inl ⟨vs, h1.sq, emp h2⟩
  | ref n =>
    unfold tru at e; simp only at e
    split at e
    · rename_i xs q
      cases e
      obtain ⟨a, rfl, h1⟩ := r.ref_of
      obtain ⟨_, vs, h3, h4⟩ := S.at h1 q (by intro z; cases z)
      exact .inl ⟨vs, .of h3, emp h4⟩
    · cases e
  | _ => cases e
theorem ty_ok (S : StR F g H st) {d : D} {v : V} {t : String} (r : Rp F g H d v) (e : tyD st d = some t) : TyX F.K H v (.type t) := by
  have sqt : ∀ {a : Addr} {vs : List V}, SqT F.K H a vs → TyX F.K H (.ref a) (.type "tuple") := fun {a vs} h => by
    rcases h with (h | ⟨o, h⟩) | ⟨o, its, n, h1, h2, _⟩
    · exact .base (.tup h)
    · exact .fTuple h
    · exact .kTuple h1 h2
  cases d with
  | non => cases e; rw [r.non_of]; exact .base .non
  | bl b => cases e; rw [r.bl_of]; exact .base (.bl b)
  | int i => cases e; rw [r.int_of]; exact .base (.int i)
  | str s => cases e; rw [r.str_of]; exact .base (.str s)
  | tup ds => cases e; obtain ⟨a, vs, rfl, h1, _⟩ := r.tup_of; exact sqt h1
  | lst ds => cases e; obtain ⟨a, vs, rfl, h1, _⟩ := r.lst_of; exact .base (.lst h1.2)
  | dic ks ds => cases e
  | ref n =>
    obtain ⟨a, rfl, h1⟩ := r.ref_of
    unfold tyD at e; simp only at e
    split at e
    · rename_i xs q
      cases e
      obtain ⟨_, vs, h3, _⟩ := S.at h1 q (by intro z; cases z)
      exact .base (.lst h3)
    · rename_i ks ds q
      cases e
      obtain ⟨_, vs, _, h3, _⟩ := S.at h1 q (by intro z; cases z)
      exact .base (.dK h3)
    · cases e
  | _ => cases e
def isTy (ty : String) : Bool := ty = "int" || ty = "str" || ty = "bool" || ty = "tuple" || ty = "list" || ty = "dict"
theorem kit_all : (["NoneType", "bool", "int", "str", "tuple", "list", "dict"].all fun t => ["int", "str", "bool", "tuple", "list", "dict"].all fun ty => decide (kitB t ty = some (isiV t ty))) = true := by decide +kernel
theorem tyD_in {d : D} {t : String} (e : tyD st d = some t) : t ∈ ["NoneType", "bool", "int", "str", "tuple", "list", "dict"] := by
  cases d with
  | ref n => unfold tyD at e; simp only at e; split at e <;> cases e <;> simp
  | scr n => cases e
  | kdic k d => cases e
  | lam k d => cases e
  | dic k d => cases e
  | _ => cases e; simp
theorem isTy_in {ty : String} (h : isTy ty = true) : ty ∈ ["int", "str", "bool", "tuple", "list", "dict"] := by
  unfold isTy at h
  simp only [Bool.or_eq_true, decide_eq_true_eq] at h
  simp only [List.mem_cons, List.not_mem_nil, or_false]
  rcases h with ((((h | h) | h) | h) | h) | h <;> simp [h]
theorem kit_ok {K : PySem.W.Frag} {d : D} {t ty : String} (e : tyD st d = some t) (h : isTy ty = true) : PySem.W.kitOne K (.type t) (.type ty) = some (isiV t ty) :=
  kit_ty (of_decide_eq_true (List.all_eq_true.mp (List.all_eq_true.mp kit_all t (tyD_in e)) ty (isTy_in h)))
def bfU : Bf → Value
  | .len => .builtin "len"
  | .all => .builtin "all"
  | .any => .builtin "any"
  | .sum => .builtin "sum"
  | .max1 => .builtin "max"
  | .max2 => .builtin "max"
  | .min1 => .builtin "min"
  | .min2 => .builtin "min"
  | .abs => .builtin "abs"
  | .sorted => .builtin "sorted"
  | .tuple => .type "tuple"
  | .list => .type "list"
  | .int => .type "int"
  | .str => .type "str"
  | .dict => .type "dict"
  | .range1 => .type "range"
  | .range2 => .type "range"
  | .listK => .type "list"
  | .sortS => .builtin "sorted"
  | .sortK => .builtin "sorted"
  | .dictP => .type "dict"
  | .sumT => .builtin "sum"
def rSumT (K : PySem.W.Frag) : List V → Hp → VK → Prop := fun vs H Q => ∃ (a : Addr) (ns : List Int), vs = [V.ref a] ∧ SqT K H a (ns.map V.int) ∧ Q (.int ns.sum) H
def rBf (K : PySem.W.Frag) : Bf → List V → Hp → VK → Prop
  | .len => fun xs H Q => ∃ x n, xs = [x] ∧ LenV K x H n ∧ Q (.int n) H
  | .all => rAll K
  | .any => rAny K
  | .sum => rSum K
  | .max1 => rMax K
  | .max2 => fun xs H Q => ∃ i j, xs = [.int i, .int j] ∧ Q (.int (if j > i then j else i)) H
  | .min1 => rMin K
  | .min2 => fun xs H Q => ∃ i j, xs = [.int i, .int j] ∧ Q (.int (if j < i then j else i)) H
  | .abs => fun xs H Q => ∃ i, xs = [.int i] ∧ Q (.int (if i < 0 then -i else i)) H
  | .tuple => fun xs H Q => ∃ p ys, xs = [.ref p] ∧ ((SqL K H p ys ∧ ∀ l, H l = none → Q (.ref l) (upd H l (.tup ys))) ∨ (SqT K H p ys ∧ Q (.ref p) H))
  | .list => fun xs H Q => ∃ p ys, xs = [.ref p] ∧ (SqL K H p ys ∨ SqT K H p ys) ∧ ∀ l, H l = none → Q (.ref l) (upd H l (.lst ys))
  | .int => fun xs H Q => (∃ i, xs = [.int i] ∧ Q (.int i) H) ∨ ∃ k, xs = [.bl k] ∧ Q (.int (if k then 1 else 0)) H
  | .str => fun xs H Q => ∃ i, xs = [.int i] ∧ i.natAbs.log2 < 1920 ∧ Q (.str (toString i)) H
  | .dict => fun xs H Q => ∃ (a : Addr) (kvs : List (Key × V)), xs = [.ref a] ∧ Rd H a (.dK kvs) ∧ ∀ p, H p = none → Q (.ref p) (upd H p (.dK kvs))
  | .listK => fun xs H Q => ∃ (a : Addr) (kvs : List (Key × V)), xs = [.ref a] ∧ Rd H a (.dK kvs) ∧ ∀ p, H p = none → Q (.ref p) (upd H p (.lst (kvs.map fun kv => kV kv.1)))
  | .sortS => rSortedS K
  | .sortK => fun xs H Q => ∃ (a : Addr) (kvs : List (Key × V)) (ks : List Str), xs = [.ref a] ∧ Rd H a (.dK kvs) ∧ kvs.map (·.1) = ks.map Sum.inr ∧ ks.length < 64 ∧
      ∀ ys p, ys.Perm ks → sortedS ys = true → H p = none → Q (.ref p) (upd H p (.lst (ys.map V.str)))
  | .dictP => fun xs H Q => ∃ (a : Addr) (ps : List Addr) (kvs : List (Key × V)), xs = [.ref a] ∧ SqL K H a (ps.map V.ref) ∧ Paired (fun p kv => SqT K H p [kV kv.1, kv.2]) ps kvs ∧ ∀ p, H p = none → Q (.ref p) (upd H p (.dK (mergeK [] kvs)))
  | .sumT => rSumT K
  | _ => fun _ _ _ => False
theorem cr_sumT {X : Cx} (hc : X.calm = true) : CallR X (.builtin "sum") (rSumT X.K) := by
  intro pins s σ H vs us Q I r h
  obtain ⟨a, ns, rfl, hs, q⟩ := h
  obtain ⟨its, rv, hl, _⟩ := I.tuple hs
  rw [Vals.ref1 r]
  obtain ⟨xs, e⟩ := rv.ints.allInts.items
  have hn : numsOf (intItems xs).toList = ns := by rw [← e]; exact rv.ints.numsOf
  rw [nums_intItems] at hn
  rw [e] at hl
  refine PySem.W.ktm_sumG (I.ok.hd hc) hl fun h' tk t' hk => ?_
  rw [preSum_eq, List.take_of_length_le (by simp), hn]
  exact ⟨.int _, H, I.kept hk, ⟨_, rfl⟩, q⟩
theorem call_never {X : Cx} {f : Value} : CallR X f (fun _ _ _ => False) := fun _ _ _ _ _ _ _ _ _ h => h.elim
theorem call_bf {X : Cx} (hc : X.calm = true) (f : Bf) : CallR X (bfU f) (rBf X.K f) := by
  cases f with
  | len => exact call_len
  | all => exact cr_all hc
  | any => exact cr_any hc
  | sum => exact cr_sum hc
  | max1 => exact cr_max hc
  | max2 => exact call_max2 hc
  | min1 => exact cr_min hc
  | min2 => exact call_min2 hc
  | abs => exact call_abs
  | tuple => exact call_tuple_of
  | list => exact call_list_of
  | int => exact call_int1
  | str => exact call_str_int
  | dict => exact call_dictD
  | sorted => exact call_never
  | range1 => exact call_never
  | range2 => exact call_never
  | listK => exact call_listD hc
  | sortS => exact cr_sortedS
  | sortK => exact call_sortedD hc
  | dictP => exact call_dictP hc
  | sumT => exact cr_sumT hc
theorem ints_ok : ∀ {ds : List D} {ns : List Int} {vs : List V}, intsD ds = some ns → Rps F g H ds vs → vs = ns.map V.int
  | [], ns, vs, e, r => by unfold intsD at e; cases e; exact r.nil_iff
  | d :: ds, ns, vs, e, r => by
    obtain ⟨v, t, rfl, h1, h2⟩ := r.inv
    cases d with
    | int i =>
      unfold intsD at e
      obtain ⟨ms, h3, rfl⟩ := Option.map_eq_some_iff.mp e
      rw [h1.int_of, ints_ok h3 h2]; rfl
    | _ => unfold intsD at e; cases e
theorem bools_ok : ∀ {ds : List D} {ns : List Bool} {vs : List V}, boolsD ds = some ns → Rps F g H ds vs → vs = ns.map V.bl
  | [], ns, vs, e, r => by unfold boolsD at e; cases e; exact r.nil_iff
  | d :: ds, ns, vs, e, r => by
    obtain ⟨v, t, rfl, h1, h2⟩ := r.inv
    cases d with
    | bl i =>
      unfold boolsD at e
      obtain ⟨ms, h3, rfl⟩ := Option.map_eq_some_iff.mp e
      rw [h1.bl_of, bools_ok h3 h2]; rfl
    | _ => unfold boolsD at e; cases e
theorem foldMax : ∀ (r : List Int) (a : Int), (r.foldl (fun m x => if x > m then x else m) a ∈ a :: r) ∧ ∀ y ∈ a :: r, y ≤ r.foldl (fun m x => if x > m then x else m) a
  | [], a => ⟨List.mem_cons_self, fun y h => by simp at h; simp [h]⟩
  | b :: r, a => by
    obtain ⟨h1, h2⟩ := foldMax r (if b > a then b else a)
    rw [List.foldl_cons]
    have hx : ∀ y, y = a ∨ y = b → y ≤ if b > a then b else a := fun y hy => by split <;> omega
    refine ⟨?_, fun y hy => ?_⟩
    · rcases List.mem_cons.mp h1 with e | e
      · rw [e]; split <;> simp
      · exact List.mem_cons_of_mem _ (List.mem_cons_of_mem _ e)
    · have h3 := h2 _ List.mem_cons_self
      rcases List.mem_cons.mp hy with e | e
      · exact Int.le_trans (hx y (.inl e)) h3
      · rcases List.mem_cons.mp e with e | e
        · exact Int.le_trans (hx y (.inr e)) h3
        · exact h2 y (List.mem_cons_of_mem _ e)
theorem foldMin : ∀ (r : List Int) (a : Int), (r.foldl (fun m x => if x < m then x else m) a ∈ a :: r) ∧ ∀ y ∈ a :: r, r.foldl (fun m x => if x < m then x else m) a ≤ y
  | [], a => ⟨List.mem_cons_self, fun y h => by simp at h; simp [h]⟩
  | b :: r, a => by
    obtain ⟨h1, h2⟩ := foldMin r (if b < a then b else a)
    rw [List.foldl_cons]
    have hx : ∀ y, y = a ∨ y = b → (if b < a then b else a) ≤ y := fun y hy => by split <;> omega
    refine ⟨?_, fun y hy => ?_⟩
    · rcases List.mem_cons.mp h1 with e | e
      · rw [e]; split <;> simp
      · exact List.mem_cons_of_mem _ (List.mem_cons_of_mem _ e)
    · have h3 := h2 _ List.mem_cons_self
      rcases List.mem_cons.mp hy with e | e
      · exact Int.le_trans h3 (hx y (.inl e))
      · rcases List.mem_cons.mp e with e | e
        · exact Int.le_trans h3 (hx y (.inr e))
        · exact h2 y (List.mem_cons_of_mem _ e)
theorem strs_ok : ∀ {ds : List D} {ss : List Str} {vs : List V}, strsD ds = some ss → Rps F g H ds vs → vs = ss.map V.str
  | [], ss, vs, e, r => by unfold strsD at e; cases e; exact r.nil_iff
  | d :: ds, ss, vs, e, r => by
    obtain ⟨v, t, rfl, h1, h2⟩ := r.inv
    cases d with
    | str s =>
      unfold strsD at e
      obtain ⟨ms, h3, rfl⟩ := Option.map_eq_some_iff.mp e
      rw [h1.str_of, strs_ok h3 h2]; rfl
    | _ => unfold strsD at e; cases e
theorem rps_str : ∀ {ss : List Str}, Rps F g H (ss.map .str) (ss.map V.str)
  | [] => .nil
  | s :: ss => .cons rp_str rps_str
theorem keysS_ok : ∀ {ks : List Key} {ss : List Str}, keysS ks = some ss → ks = ss.map Sum.inr
  | [], ss, e => by unfold keysS at e; cases e; rfl
  | .inl i :: ks, ss, e => by unfold keysS at e; cases e
  | .inr s :: ks, ss, e => by
    unfold keysS at e
    obtain ⟨ms, h3, rfl⟩ := Option.map_eq_some_iff.mp e
    rw [keysS_ok h3]; rfl
theorem keys_map : ∀ {ks : List Key} {vs : List V}, ks.length = vs.length → ((ks.zip vs).map fun kv => kV kv.1) = ks.map kV
  | [], [], _ => rfl
  | k :: ks, v :: vs, h => by rw [List.zip_cons_cons, List.map_cons, List.map_cons, keys_map (by simpa using h)]
  | [], _ :: _, h => by cases h
  | _ :: _, [], h => by cases h
theorem keys_fst : ∀ {ks : List Key} {vs : List V}, ks.length = vs.length → ((ks.zip vs).map (·.1)) = ks
  | [], [], _ => rfl
  | k :: ks, v :: vs, h => by rw [List.zip_cons_cons, List.map_cons, keys_fst (by simpa using h)]
  | [], _ :: _, h => by cases h
  | _ :: _, [], h => by cases h
theorem rps_key : ∀ {ks : List Key}, Rps F g H (ks.map kD) (ks.map kV)
  | [] => .nil
  | k :: ks => .cons kD_ok rps_key
theorem bf_ok (S : StR F g H st) {f : Bf} {ds : List D} {vs : List V} {d : D} (r : Rps F g H ds vs) (e : bfV f st ds = some d) (q : Wish F st g H d Q) : rBf F.K f vs H Q := by
  unfold bfV at e
  split at e
  · obtain ⟨v, rfl, rx⟩ := r.one_of
    obtain ⟨n, e1, rfl⟩ := Option.map_eq_some_iff.mp e
    refine ⟨v, n, rfl, ?_, q.now S rp_int⟩
    unfold lenD at e1
    split at e1
    · split at e1
      · rename_i h; cases e1; rw [rx.str_of]; exact ⟨by rw [← LIM_eq]; exact h, rfl⟩
      · cases e1
    · obtain ⟨xs, e2, rfl⟩ := Option.map_eq_some_iff.mp e1
      obtain ⟨a, us, rfl, h1, h2⟩ := items_ok S rx e2
      rcases h1 with h1 | h1
      · exact .inl ⟨us, h1, h2.len⟩
      · exact .inr ⟨us, h1, h2.len⟩
  · obtain ⟨v, rfl, rx⟩ := r.one_of
    obtain ⟨bs, e1, rfl⟩ := Option.map_eq_some_iff.mp e
    obtain ⟨xs, e2, e3⟩ := Option.bind_eq_some_iff.mp e1
    obtain ⟨a, us, rfl, h1, h2⟩ := litems_ok S rx e2
    exact ⟨a, bs, rfl, by rw [← bools_ok e3 h2]; exact .of h1, q.now S rp_bl⟩
  · obtain ⟨v, rfl, rx⟩ := r.one_of
    obtain ⟨bs, e1, rfl⟩ := Option.map_eq_some_iff.mp e
    obtain ⟨xs, e2, e3⟩ := Option.bind_eq_some_iff.mp e1
    obtain ⟨a, us, rfl, h1, h2⟩ := litems_ok S rx e2
    exact ⟨a, bs, rfl, by rw [← bools_ok e3 h2]; exact .of h1, q.now S rp_bl⟩
  · obtain ⟨v, rfl, rx⟩ := r.one_of
    obtain ⟨bs, e1, rfl⟩ := Option.map_eq_some_iff.mp e
    obtain ⟨xs, e2, e3⟩ := Option.bind_eq_some_iff.mp e1
    obtain ⟨a, us, rfl, h1, h2⟩ := litems_ok S rx e2
    exact ⟨a, bs, rfl, by rw [← ints_ok e3 h2]; exact .of h1, q.now S rp_int⟩
  · obtain ⟨v, rfl, rx⟩ := r.one_of
    obtain ⟨bs, e1, e4⟩ := Option.bind_eq_some_iff.mp e
    obtain ⟨m, e5, rfl⟩ := Option.map_eq_some_iff.mp e4
    obtain ⟨xs, e2, e3⟩ := Option.bind_eq_some_iff.mp e1
    obtain ⟨a, us, rfl, h1, h2⟩ := litems_ok S rx e2
    cases bs with
    | nil => cases e5
    | cons b bs =>
      cases e5
      obtain ⟨k1, k2⟩ := foldMax bs b
      refine ⟨a, b :: bs, rfl, by rw [← ints_ok e3 h2]; exact .of h1, by simp, fun m h3 h4 => ?_⟩
      rw [Int.le_antisymm (k2 m h3) (h4 _ k1)]
      exact q.now S rp_int
  · obtain ⟨v, rfl, rx⟩ := r.one_of
    obtain ⟨bs, e1, e4⟩ := Option.bind_eq_some_iff.mp e
    obtain ⟨m, e5, rfl⟩ := Option.map_eq_some_iff.mp e4
    obtain ⟨xs, e2, e3⟩ := Option.bind_eq_some_iff.mp e1
    obtain ⟨a, us, rfl, h1, h2⟩ := litems_ok S rx e2
    cases bs with
    | nil => cases e5
    | cons b bs =>
      cases e5
      obtain ⟨k1, k2⟩ := foldMin bs b
      refine ⟨a, b :: bs, rfl, by rw [← ints_ok e3 h2]; exact .of h1, by simp, fun m h3 h4 => ?_⟩
      rw [Int.le_antisymm (h4 _ k1) (k2 m h3)]
      exact q.now S rp_int
  · cases e
    obtain ⟨v, u, rfl, rx, ry⟩ := r.two_of
    exact ⟨_, _, by rw [rx.int_of, ry.int_of], q.now S rp_int⟩
  · cases e
    obtain ⟨v, u, rfl, rx, ry⟩ := r.two_of
    exact ⟨_, _, by rw [rx.int_of, ry.int_of], q.now S rp_int⟩
  · obtain ⟨v, rfl, rx⟩ := r.one_of
    obtain ⟨xs, e1, rfl⟩ := Option.map_eq_some_iff.mp e
    obtain ⟨a, us, rfl, h1, h2⟩ := items_ok S rx e1
    rcases h1 with h1 | h1
    · exact ⟨a, us, rfl, .inl ⟨h1, q.tup S h2⟩⟩
    · exact ⟨a, us, rfl, .inr ⟨h1, q.now S (rp_tup h1 h2)⟩⟩
  · obtain ⟨v, rfl, rx⟩ := r.one_of
    obtain ⟨xs, e1, rfl⟩ := Option.map_eq_some_iff.mp e
    obtain ⟨a, us, rfl, h1, h2⟩ := items_ok S rx e1
    exact ⟨a, us, rfl, h1, q.lst S h2⟩
  · cases e
    obtain ⟨v, rfl, rx⟩ := r.one_of
    exact ⟨_, by rw [rx.int_of], q.now S rp_int⟩
  · cases e
    obtain ⟨v, rfl, rx⟩ := r.one_of
    exact .inl ⟨_, by rw [rx.int_of], q.now S rp_int⟩
  · cases e
    obtain ⟨v, rfl, rx⟩ := r.one_of
    exact .inr ⟨_, by rw [rx.bl_of], q.now S rp_int⟩
  · split at e
    · rename_i h
      cases e
      obtain ⟨v, rfl, rx⟩ := r.one_of
      exact ⟨_, by rw [rx.int_of], h, q.now S rp_str⟩
    · cases e
  · obtain ⟨v, rfl, rx⟩ := r.one_of
    obtain ⟨⟨ks, ds⟩, e1, rfl⟩ := Option.map_eq_some_iff.mp e
    obtain ⟨a, us, rfl, h0, h1, h2⟩ := ditems_ok S rx e1
    refine ⟨a, ks.zip us, rfl, h1, fun p hp => q _ _ _ (.newFz S hp) (S.newFz hp) (rp_dic h0 ⟨Gh.fz_same, .inl upd_same⟩ (Rps.ge (.newFz S hp) _ _ h2))⟩
  · obtain ⟨v, rfl, rx⟩ := r.one_of
    obtain ⟨⟨ks, ds⟩, e1, rfl⟩ := Option.map_eq_some_iff.mp e
    obtain ⟨a, us, rfl, h0, h1, h2⟩ := ditems_ok S rx e1
    refine ⟨a, ks.zip us, rfl, h1, ?_⟩
    rw [keys_map h0]
    exact q.lst S rps_key
  · obtain ⟨v, rfl, rx⟩ := r.one_of
    obtain ⟨ss, e1, e2⟩ := Option.bind_eq_some_iff.mp e
    obtain ⟨xs, e3, e4⟩ := Option.bind_eq_some_iff.mp e1
    split at e2
    · rename_i hl
      cases e2
      obtain ⟨a, us, rfl, h1, h2⟩ := litems_ok S rx e3
      refine ⟨a, ss, rfl, by rw [← strs_ok e4 h2]; exact .of h1, hl, fun ys p hp hs hn => ?_⟩
      rw [sort_unique hp hs]
      exact q.lst S rps_str p hn
    · cases e2
  · obtain ⟨v, rfl, rx⟩ := r.one_of
    obtain ⟨ss, e1, e2⟩ := Option.bind_eq_some_iff.mp e
    obtain ⟨⟨ks, ds⟩, e3, e4⟩ := Option.bind_eq_some_iff.mp e1
    split at e2
    · rename_i hl
      cases e2
      obtain ⟨a, us, rfl, h0, h1, h2⟩ := ditems_ok S rx e3
      refine ⟨a, ks.zip us, ss, rfl, h1, by rw [keys_fst h0]; exact keysS_ok e4, hl, fun ys p hp hs hn => ?_⟩
      rw [sort_unique hp hs]
      exact q.lst S rps_str p hn
    · cases e2
  · obtain ⟨v, rfl, rx⟩ := r.one_of
    obtain ⟨ps, e1, rfl⟩ := Option.map_eq_some_iff.mp e
    obtain ⟨zs, e3, e4⟩ := Option.bind_eq_some_iff.mp e1
    obtain ⟨a, us, rfl, h1, h2⟩ := litems_ok S rx e3
    obtain ⟨as, kws, rfl, h5, h6⟩ := prs_ok e4 h2
    obtain ⟨us2, m1, m2, m3⟩ := merge_ok h6 (ks := []) (vs := []) rfl .nil
    refine ⟨a, as, kws, rfl, .of h1, h5, fun p hp => ?_⟩
    rw [show mergeK [] kws = _ from m1]
    exact q _ _ _ (.newFz S hp) (S.newFz hp) (rp_dic m2 ⟨Gh.fz_same, .inl upd_same⟩ (Rps.ge (.newFz S hp) _ _ m3))
  · obtain ⟨v, rfl, rx⟩ := r.one_of
    obtain ⟨bs, e1, rfl⟩ := Option.map_eq_some_iff.mp e
    obtain ⟨a, us, rfl, h1, h2⟩ := rx.tup_of
    exact ⟨a, bs, rfl, by rw [← ints_ok e1 h2]; exact h1, q.now S rp_int⟩
  · cases e
end
end TS
end

section
set_option Elab.async false
set_option linter.all false
set_option maxRecDepth 100000
set_option maxHeartbeats 1000000
namespace TS
open PySem PySem.Spec PyProof.Rows L2
section
variable {F : Fm} {g : Gh} {H : Hp} {st : Store} {Q : VK}
theorem lst_free {a : Addr} {vs : List V} (h : H a = some (.lst vs)) : (∀ xs, H a ≠ some (.tup xs)) ∧ ∀ o u, H a ≠ some (.frz o u) := ⟨fun xs z => (by rw [h] at z; cases z), fun o u z => (by rw [h] at z; cases z)⟩
theorem dic_free {a : Addr} {vs : List (Key × V)} (h : H a = some (.dK vs)) : (∀ xs, H a ≠ some (.tup xs)) ∧ ∀ o u, H a ≠ some (.frz o u) := ⟨fun xs z => (by rw [h] at z; cases z), fun o u z => (by rw [h] at z; cases z)⟩
theorem ins_free {a C dx : Addr} {fs : List (Str × V)} (h : H a = some (.ins C dx fs)) : (∀ xs, H a ≠ some (.tup xs)) ∧ ∀ o u, H a ≠ some (.frz o u) := ⟨fun xs z => (by rw [h] at z; cases z), fun o u z => (by rw [h] at z; cases z)⟩
structure Wr (F : Fm) (g : Gh) (H H' : Hp) (st' : Store) : Prop where
  ge : Ge g H g H'
  str : StR F g H' st'
theorem wr_lst (S : StR F g H st) {n : Nat} {a : Addr} {old new : List D} {vs us : List V} (hi : g.i n = some a) (e : st[n]? = some (.lst old)) (h : H a = some (.lst vs)) (r : Rps F g H new us) : Wr F g H (upd H a (.lst us)) (st.set n (.lst new)) := by
  obtain ⟨h1, _⟩ := S.at hi e (by intro z; cases z)
  obtain ⟨f1, f2⟩ := lst_free h
  exact ⟨.write h1 f1 f2, S.write hi h1 f1 f2 ⟨us, upd_same, Rps.ge (.write h1 f1 f2) _ _ r⟩⟩
theorem lst_at (S : StR F g H st) {n : Nat} {a : Addr} {xs : List D} (hi : g.i n = some a) (e : st[n]? = some (.lst xs)) : ∃ vs, H a = some (.lst vs) ∧ Rps F g H xs vs := (S.at hi e (by intro z; cases z)).2
theorem dic_at (S : StR F g H st) {n : Nat} {a : Addr} {ks : List Key} {ds : List D} (hi : g.i n = some a) (e : st[n]? = some (.dic ks ds)) : ∃ vs, ks.length = vs.length ∧ H a = some (.dK (ks.zip vs)) ∧ Rps F g H ds vs := (S.at hi e (by intro z; cases z)).2
theorem ins_at (S : StR F g H st) {n : Nat} {a : Addr} {C : Nat} {ds : List D} (hi : g.i n = some a) (e : st[n]? = some (.ins C ds)) :
    ∃ dx vs, H a = some (.ins (F.ca C) dx ((F.T.flds C).zip vs)) ∧ ds.length ≤ (F.T.flds C).length ∧ Rps F g H ds vs := (S.at hi e (by intro z; cases z)).2
def tyW (P : Program) (w : World) (K : PySem.W.Frag) (T : String) (x : V) (H : Hp) : Prop := tyV K T x H ∨ (T = "dict" ∧ ∃ a kvs, x = .ref a ∧ (KDc P w K a kvs ∨ Rd H a (.dK kvs)))
theorem tyW_is {X : Cx} {pins : List (Addr × Obj)} {σ : L2.St} {H : Hp} {s : Shared} {T : String} {x : V} {v : Value} (I : Inv X pins σ H s) (r : RelV x v) (t : tyW X.prog X.w X.K T x H) :
    s.TypeIs v T ∧ ∀ a, v = .ref a → ∃ ob, s.heap.get? a = some ob ∧ ob.dict = none := by
  rcases t with t | ⟨rfl, a, kvs, rfl, ⟨_, k⟩ | k⟩
  · exact tyV_is I r t
  · obtain ⟨_, vs, _, dd⟩ := k s.heap I.kIn
    cases r
    refine ⟨dd.typeIs, fun b q => ?_⟩
    cases q
    obtain ⟨ob, _, _, h1, h2, _⟩ := dd
    exact ⟨ob, h1, h2.2.1⟩
  · cases r
    obtain ⟨h1, h2, _⟩ := isD_at I (.inl ⟨kvs, k⟩)
    exact ⟨h1, h2⟩
def bmT : Bm → String
  | .get1 | .get2 | .update | .values | .items | .keys | .setdefault => "dict"
  | .join | .split | .lstrip => "str"
  | _ => "list"
def rDg (P : Program) (w : World) (K : PySem.W.Frag) : V → List V → Hp → VK → Prop := fun x xs H Q =>
  (∃ a y o, x = .ref a ∧ xs = [y] ∧ DGet H a y o ∧ Q (o.getD .non) H) ∨ (∃ a y z o, x = .ref a ∧ xs = [y, z] ∧ DGet H a y o ∧ Q (o.getD z) H) ∨
  ∃ a k z kvs, x = .ref a ∧ xs = [kV k, z] ∧ KDc P w K a kvs ∧ Q ((valV kvs k).getD z) H
theorem mt_dget {X : Cx} (hu : X.A.units + 1 < cLine) : MtR X "dict.get" (rDg X.prog X.w X.K) := by
  intro pins s σ H x xs v us Q I rx rv h
  rcases h with ⟨a, y, o, rfl, rfl, d, q⟩ | ⟨a, y, z, o, rfl, rfl, d, q⟩ | ⟨a, k, z, kvs, rfl, rfl, d, q⟩
  · cases rx
    obtain ⟨u, rfl, ru⟩ := vals1 rv
    exact d_get1 hu I d ru fun w' s' I' r => ⟨_, H, I', r, q⟩
  · cases rx
    obtain ⟨u, u', rfl, ru, ru'⟩ := vals2 rv
    exact d_get2 hu I d ru ru' fun w' s' I' r => ⟨_, H, I', r, q⟩
  · cases rx
    obtain ⟨u, u', rfl, ru, ru'⟩ := vals2 rv
    obtain ⟨hd, vs, rel, dd⟩ := d.2 s.heap I.kIn
    refine call_meetsIn PySem.F.slot_dict_get dd.typeIs PySem.F.entry_dict_get (PySem.F.args_dict_get_3 _ _ _) (meets_dict_get_default (mixKind X.prog X.w) a (kV_is ru) hd u') ⟨_, dd.mapOf, ?_⟩
    exact ⟨_, H, I.tok _, (rel.val k).getD ru', q⟩
def rUpdate (K : PySem.W.Frag) : V → List V → Hp → VK → Prop := fun x vs H Q => ∃ (d b : Addr) (kvs : List (Key × V)) (ps : List Addr) (kws : List (Key × V)), x = .ref d ∧ vs = [.ref b] ∧ H d = some (.dK kvs) ∧ H b = some (.lst (ps.map V.ref)) ∧
  Paired (fun p kv => SqT K H p [kV kv.1, kv.2]) ps kws ∧ kvs.length + kws.length ≤ sizeLine ∧ Q .non (upd H d (.dK (mergeK kvs kws)))
theorem mt_update {X : Cx} (hcalm : X.calm = true) : MtR X "dict.update" (rUpdate X.K) := by
  intro pins s σ H x xs v us Q I rx rv h
  obtain ⟨d, l, kvs, ps, kws, rfl, rfl, hD, hB, hp, hz, q⟩ := h
  cases rx
  obtain ⟨u, rfl, ru⟩ := vals1 rv
  cases ru
  obtain ⟨z, hd, vs, rel, dd⟩ := dk_of I.hok hD
  obtain ⟨z2, its, n, r, hl, e⟩ := I.lstM hB
  have ei := refs_at r
  subst ei
  obtain ⟨prs, rp, pl, hpr⟩ := pairs_of I hp
  have hdl : d ≠ l := fun z => by rw [z, hB] at hD; cases hD
  have hh := I.ok.hd hcalm
  refine call_meetsIn PySem.F.slot_dict_update dd.typeIs PySem.F.entry_dict_update (PySem.F.args_dict_update_2 _ _)
    (S := fun A' R s' => A' = X.A ∧ s' = s ∧ ∀ h' tk, h'.DictOf (mixKind X.prog X.w) d (merged vs prs) → (∀ c o, c ≠ d → s.heap.get? c = some o → h'.get? c = some o) → R (.ok (.ret .none)) { s with heap := h', toks := tk })
    (fun A' R s' hS => ?_) ⟨rfl, rfl, fun h' tk hd' k => ?_⟩
  · obtain ⟨rfl, rfl, hR⟩ := hS
    refine meets_dict_update_arg dd.typeIs ?_
    unfold Builtin.Dict.updateFrom
    refine wpAny_bind (wpAny_typeOf (T := "list") ⟨_, e, rfl⟩ ?_)
    rw [if_pos (by first | decide | rfl | simp)]
    refine wpAny_bind (miss_list e rfl rfl rfl hh fun h1 tk1 hk1 => ?_)
    rw [if_pos (show (none : Option Value).isNone = true from rfl)]
    refine wpAny_bind (wpAny_rule ?_)
    have hl1 : h1.IsList l ((ps.map Value.ref).toArray) := ⟨_, hk1 _ _ e, rfl, n, rfl⟩
    obtain ⟨od, es0, ep0, hod, hod2⟩ := id dd
    have hdt : d < s'.heap.objs.size := Heap.lt_size hod
    have hlt : l < s'.heap.objs.size := Heap.lt_size e
    have hd1 : d < h1.objs.size := Heap.lt_size (hk1 _ _ hod)
    have hl2 : l < h1.objs.size := Heap.lt_size (hk1 _ _ e)
    refine wpAny_bind (wpAny_pyIter_list hl1 ?_)
    have k2 : ∀ b o, h1.get? b = some o → (h1.push { cls := .type "list_iterator", data := .fields #[.ref l, .int 0 0] }).get? b = some o := fun b o e => Heap.get?_push_of_some _ e
    have key := upd_loop (prog := X.prog) (w := X.w) (A := X.A) (R := R) (S := d) (I := h1.objs.size) (l := l) (items := (ps.map Value.ref).toArray) (res := Value.none) hh
      (Nat.ne_of_lt hl2) (Nat.ne_of_lt hd1) hdl prs 0 vs 0 0
      { s' with heap := h1.push { cls := .type "list_iterator", data := .fields #[.ref l, .int 0 0] }, toks := tk1 } (by simp [pl]) (by rw [← rel.length, ← rp.length]; exact hz)
      (fun j q e' => by
        obtain ⟨b, u, e1, e2, e3⟩ := hpr j q e'
        have hb : b < s'.heap.objs.size := e2.lt
        have hb1 : b < h1.objs.size := by obtain ⟨o, ho, _⟩ := id e2; exact Heap.lt_size (hk1 _ _ ho)
        have hbd : b ≠ d := fun z => by
          subst z
          obtain ⟨o, ho, hc, _⟩ := id e2
          rw [hod] at ho
          cases ho
          obtain ⟨h3, _⟩ := hod2
          obtain ⟨h3, _⟩ := h3
          rw [hc] at h3
          injection h3 with h3
          exact absurd h3 (by decide)
        exact ⟨b, u, by rw [Nat.zero_add]; simp [e1], hbd, Nat.ne_of_lt hb1, e2.keeps fun c o z => k2 _ _ (hk1 _ _ z), e3⟩)
      ⟨_, Heap.get?_push_size _ rfl, rfl, rfl⟩ (hl1.at fun o e => k2 _ _ e) ((dd.at fun o e => hk1 _ _ e).at fun o e => k2 _ _ e)
      (fun h' tk hd' k => hR h' tk hd' fun b o hb e => k b o hb (fun z => by
        have := Heap.lt_size (hk1 _ _ e)
        rw [z] at this
        exact Nat.lt_irrefl _ this) (k2 _ _ (hk1 _ _ e)))
    first
      | exact wpAny_pure ⟨plainId_quiet ud_plain _, key⟩
      | exact wpAny_bind (wpAny_pure (wpAny_pure ⟨plainId_quiet ud_plain _, key⟩))
  · have hlen : (mergeK kvs kws).length ≤ sizeLine := Nat.le_trans (length_mergeK kws kvs) hz
    have he : ∃ q, h'.get? d = some q := let ⟨q, _, _, hq, _⟩ := hd'; ⟨q, hq⟩
    exact ⟨.non, _, I.write (x := d) (e := d) (by rw [hD]; exact True.intro) (.inl rfl) (fun b q hb z => k b q hb z) he (dk_new hlen hd (KV.merge rp rel) hd'), rfl, q⟩
def rBm (P : Program) (w : World) (K : PySem.W.Frag) : Bm → V → List V → Hp → VK → Prop
  | .append => rAppend
  | .extend => rExtend
  | .pop0 => rPop
  | .popAt => rPopAt
  | .get1 => rDg P w K
  | .get2 => rDg P w K
  | .update => rUpdate K
  | _ => fun _ _ _ _ => False
theorem bmTy_ok (S : StR F g H st) {m : Bm} {d : D} {v : V} (r : Rp F g H d v) (e : bmTy m st d = true) : tyW F.P F.w F.K (bmT m) v H := by
  have lt : (litems st d).isSome = true → tyW F.P F.w F.K "list" v H := fun h => by
    obtain ⟨xs, e⟩ := Option.isSome_iff_exists.mp h
    obtain ⟨a, vs, rfl, h1, _⟩ := litems_ok S r e
    exact .inl (.inl ⟨rfl, vs, .of h1⟩)
  have dt : isDic st d = true → tyW F.P F.w F.K "dict" v H := fun h => by
    have gen : (ditems st d).isSome = true → tyW F.P F.w F.K "dict" v H := fun h => by
      obtain ⟨⟨ks, ds⟩, e⟩ := Option.isSome_iff_exists.mp h
      obtain ⟨a, vs, rfl, _, h1, _⟩ := ditems_ok S r e
      exact .inr ⟨rfl, a, _, rfl, .inr h1⟩
    cases d with
    | kdic ks ds =>
      obtain ⟨a, vs, rfl, _, h1, _⟩ := r.kdic_of
      exact .inr ⟨rfl, a, _, rfl, .inl h1⟩
    | _ => exact gen h
  have stt : isStr d = true → tyW F.P F.w F.K "str" v H := fun h => by
    cases d with
    | str z => rw [r.str_of]; exact .inl rfl
    | _ => cases h
  cases m <;> first | exact lt e | exact dt e | exact stt e
abbrev WishO (F : Fm) (E : XK) (g : Gh) (H : Hp) (m : Out D) (Q : VK) : Prop := Post F E (Rp F) g H m Q
theorem bm_ok {E : XK} (S : StR F g H st) {m : Bm} {o : D} {u : V} {ds : List D} {vs : List V} (ro : Rp F g H o u) (r : Rps F g H ds vs) (q : WishO F E g H (bmV m st o ds) Q) : rBm F.P F.w F.K m u vs H Q := by
  unfold bmV at q
  split at q
  · rename_i n x
    obtain ⟨a, rfl, hi⟩ := ro.ref_of
    obtain ⟨v, rfl, rx⟩ := r.one_of
    split at q
    · rename_i ys e
      split at q
      · rename_i hl
        obtain ⟨us, h1, h2⟩ := lst_at S hi e
        have w := wr_lst S hi e h1 (h2.append (.cons rx .nil))
        exact ⟨a, us, v, rfl, rfl, h1, by rw [← h2.len, ← LIM_eq]; exact hl, q g _ .non w.ge w.str rp_non⟩
      · exact q.elim
    · exact q.elim
  · rename_i n x
    obtain ⟨a, rfl, hi⟩ := ro.ref_of
    obtain ⟨v, rfl, rx⟩ := r.one_of
    split at q
    · rename_i ys zs e e2
      split at q
      · rename_i hl
        obtain ⟨us, h1, h2⟩ := lst_at S hi e
        obtain ⟨b, ws, rfl, h3, h4⟩ := litems_ok S rx e2
        have w := wr_lst S hi e h1 (h2.append h4)
        exact ⟨a, b, us, ws, rfl, rfl, h1, h3, by rw [← h2.len, ← h4.len, ← LIM_eq]; exact hl, q g _ .non w.ge w.str rp_non⟩
      · exact q.elim
    · exact q.elim
  · rename_i n i
    obtain ⟨a, rfl, hi⟩ := ro.ref_of
    obtain ⟨v, rfl, rx⟩ := r.one_of
    split at q
    · rename_i ys e
      split at q
      · rename_i j ej
        split at q
        · rename_i y ey
          obtain ⟨us, h1, h2⟩ := lst_at S hi e
          obtain ⟨w', h3, h4⟩ := h2.get ey
          obtain ⟨k1, k2, k3, k4⟩ := ixN_seq ej
          have hz : Rps F g H (ys.eraseIdx j) (us.eraseIdx j) := by
            rw [List.eraseIdx_eq_take_drop_succ, List.eraseIdx_eq_take_drop_succ]
            exact (h2.take j).append (h2.drop (j + 1))
          have w := wr_lst S hi e h1 hz
          split at q
          · rename_i hb
            exact ⟨a, us, i, j, w', rfl, by rw [rx.int_of], h1, by omega, by omega, by rw [← h2.len]; exact k1, h3, q g _ w' w.ge w.str (Rp.ge w.ge _ _ h4)⟩
          · exact q.elim
        · exact q.elim
      · exact q.elim
    · exact q.elim
  · rename_i n
    obtain ⟨a, rfl, hi⟩ := ro.ref_of
    rw [r.nil_iff]
    split at q
    · rename_i ys e
      split at q
      · rename_i y ey
        obtain ⟨us, h1, h2⟩ := lst_at S hi e
        obtain ⟨w', h3, h4⟩ := h2.get ey
        have hz : Rps F g H ys.dropLast us.dropLast := by
          rw [List.dropLast_eq_take, List.dropLast_eq_take, h2.len]
          exact h2.take _
        have w := wr_lst S hi e h1 hz
        exact ⟨a, us, w', rfl, rfl, h1, by rw [← h2.len]; exact h3, q g _ w' w.ge w.str (Rp.ge w.ge _ _ h4)⟩
      · exact q.elim
    · exact q.elim
  · rename_i n x
    obtain ⟨a, rfl, hi⟩ := ro.ref_of
    obtain ⟨v, rfl, rx⟩ := r.one_of
    split at q
    · rename_i ks ds zs e e2
      split at q
      · rename_i ps ep
        split at q
        · rename_i hl
          obtain ⟨us, h0, h1, h2⟩ := dic_at S hi e
          obtain ⟨b, ws, rfl, h3, h4⟩ := litems_ok S rx e2
          obtain ⟨as, kws, rfl, h5, h6⟩ := prs_ok ep h4
          obtain ⟨us2, m1, m2, m3⟩ := merge_ok h6 h0 h2
          obtain ⟨s1, _⟩ := S.at hi e (by intro z; cases z)
          obtain ⟨f1, f2⟩ := dic_free h1
          have ge : Ge g H g (upd H a (.dK ((putAllK ps ks).zip us2))) := .write s1 f1 f2
          refine ⟨a, b, _, as, kws, rfl, rfl, h1, h3, h5, ?_, ?_⟩
          · rw [List.length_zip, ← h0, Nat.min_self, ← Paired.length h6, ← LIM_eq]
            exact hl
          · rw [m1]
            exact q g _ .non ge (S.write hi s1 f1 f2 ⟨us2, m2, upd_same, Rps.ge ge _ _ m3⟩) rp_non
        · exact q.elim
      · exact q.elim
    · exact q.elim
  · split at q
    · rename_i k ks ds' q' e1 e2
      obtain ⟨v, rfl, rx⟩ := r.one_of
      obtain ⟨a, us, rfl, h0, h1, h2⟩ := ditems_ok S ro e1
      refine .inl ⟨a, v, _, rfl, rfl, by rw [keyOf_ok rx e2]; exact dget_rd h1, Post.ok q S (dget_getD h0 h2 rp_non)⟩
    · exact q.elim
  · split at q
    · rename_i k d ks ds' q' e2
      obtain ⟨v, u', rfl, rx, ry⟩ := r.two_of
      obtain ⟨a, us, rfl, h0, h1, h2⟩ := ro.kdic_of
      exact .inr (.inr ⟨a, q', u', _, rfl, by rw [keyOf_ok rx e2], h1, Post.ok q S (dget_getD h0 h2 ry)⟩)
    · rename_i k d q' hne e2
      split at q
      · rename_i ks ds' e1
        obtain ⟨v, u', rfl, rx, ry⟩ := r.two_of
        obtain ⟨a, us, rfl, h0, h1, h2⟩ := ditems_ok S ro e1
        exact .inr (.inl ⟨a, v, u', _, rfl, rfl, by rw [keyOf_ok rx e2]; exact dget_rd h1, Post.ok q S (dget_getD h0 h2 ry)⟩)
      · exact q.elim
    · exact q.elim
  · exact q.elim
end
end TS
end

section
set_option Elab.async false
set_option linter.all false
set_option maxRecDepth 100000
set_option maxHeartbeats 1000000
namespace TS
open PySem PySem.Spec PyProof.Rows L2
section
variable {F : Fm} {g : Gh} {H : Hp} {st : Store} {Q : VK} {E : XK}
def rSetAny : TSet := fun o i v H Q => rSetL o i v H Q ∨ ∃ a H', o = .ref a ∧ DPut H a i v H' ∧ Q H'
theorem set_any {X : Cx} (hu : X.A.units + 1 < cLine) : PSet X rSetAny := by
  intro pins s σ H o i v ov iv u Q I ro ri rv h
  rcases h with h | ⟨a, H', rfl, d, q⟩
  · exact set_list pins s σ H o i v ov iv u Q I ro ri rv h
  · cases ro
    exact d_setItem hu I d ri rv fun s' I' => ⟨H', I', q⟩
theorem setI_ok (S : StR F g H st) {o i x : D} {u w v : V} {K : Hp → Prop} (ro : Rp F g H o u) (ri : Rp F g H i w) (rx : Rp F g H x v) (q : Post F E (fun _ _ _ _ => True) g H (setIV st o i x) (fun (_ : Unit) H' => K H')) : rSetAny u w v H K := by
  unfold setIV at q
  split at q
  · rename_i n
    obtain ⟨a, rfl, hi⟩ := ro.ref_of
    split at q
    · rename_i ys e
      split at q
      · rename_i k
        split at q
        · rename_i j ej
          obtain ⟨us, h1, h2⟩ := lst_at S hi e
          have wr := wr_lst S hi e h1 (h2.set j rx)
          exact .inl ⟨a, us, k, j, rfl, ri.int_of, h1, by rw [← h2.len]; exact ej, q g _ () wr.ge wr.str trivial⟩
        · exact q.elim
      · exact q.elim
    · rename_i ks ds e
      split at q
      · rename_i k ek
        split at q
        · rename_i hl
          obtain ⟨us, h0, h1, h2⟩ := dic_at S hi e
          obtain ⟨ws, h3, h4, h5⟩ := put_ok (k := k) h0 h2 rx
          obtain ⟨s1, _⟩ := S.at hi e (by intro z; cases z)
          obtain ⟨f1, f2⟩ := dic_free h1
          have ge : Ge g H g (upd H a (.dK ((dputK ks k).zip ws))) := .write s1 f1 f2
          refine .inr ⟨a, upd H a (.dK (putK (ks.zip us) k v)), rfl, ?_, ?_⟩
          · rw [keyOf_ok ri ek]
            refine DPut.k h1 ?_
            rw [List.length_zip, ← h0, Nat.min_self, ← LIM_eq]
            exact hl
          · rw [h3]
            exact q g _ () ge (S.write hi s1 f1 f2 ⟨ws, h4, upd_same, Rps.ge ge _ _ h5⟩) trivial
        · exact q.elim
      · exact q.elim
    · exact q.elim
  · exact q.elim
theorem zip_lookup : ∀ {ns : List Str} {vs : List V} {i : Nat} {x : Str} {v : V}, ns.Nodup → ns[i]? = some x → vs[i]? = some v → (ns.zip vs).lookup x = some v
  | [], _, _, _, _, _, h, _ => by simp at h
  | _ :: _, [], _, _, _, _, _, h => by simp at h
  | n :: ns, w :: vs, 0, x, v, nd, h1, h2 => by
    simp at h1 h2
    subst h1 h2
    rw [List.zip_cons_cons, List.lookup_cons]
    simp
  | n :: ns, w :: vs, i + 1, x, v, nd, h1, h2 => by
    rw [List.nodup_cons] at nd
    have h1' : ns[i]? = some x := by simpa using h1
    have ne : (x == n) = false := by
      refine beq_eq_false_iff_ne.mpr fun e => ?_
      subst e
      exact nd.1 (List.mem_of_getElem? h1')
    rw [List.zip_cons_cons, List.lookup_cons, ne]
    exact zip_lookup nd.2 h1' (by simpa using h2)
theorem putF_zip : ∀ {ns : List Str} {vs : List V} {i : Nat} {x : Str} (v : V), ns.Nodup → ns[i]? = some x → i ≤ vs.length → putF x v (ns.zip vs) = ns.zip (if i = vs.length then vs ++ [v] else vs.set i v)
  | [], _, _, _, _, _, h, _ => by simp at h
  | n :: ns, [], i, x, v, nd, h1, h2 => by
    have e : i = 0 := by simpa using h2
    subst e
    simp at h1
    subst h1
    rw [List.zip_nil_right, if_pos (show 0 = ([] : List V).length from rfl)]
    unfold putF
    simp
  | n :: ns, w :: vs, 0, x, v, nd, h1, h2 => by
    simp at h1
    subst h1
    rw [if_neg (by simp)]
    show putF n v ((n, w) :: ns.zip vs) = _
    unfold putF
    simp
  | n :: ns, w :: vs, i + 1, x, v, nd, h1, h2 => by
    rw [List.nodup_cons] at nd
    have h1' : ns[i]? = some x := by simpa using h1
    have ne : ¬ n = x := fun e => by
      subst e
      exact nd.1 (List.mem_of_getElem? h1')
    have ih := putF_zip (vs := vs) v nd.2 h1' (by simpa using h2)
    rw [List.zip_cons_cons]
    unfold putF
    rw [if_neg ne, ih]
    by_cases e : i = vs.length
    · rw [if_pos e, if_pos (by simp [e])]; rfl
    · rw [if_neg e, if_neg (by simpa using e)]; rfl
theorem fld_ok (S : StR F g H st) (nd : ∀ C, (F.T.flds C).Nodup) {C i : Nat} {o d : D} {u : V} {x : Str} (ro : Rp F g H o u) (hx : (F.T.flds C)[i]? = some x) (e : fldV C i st o = some d) :
    ∃ a dx fs v, u = .ref a ∧ H a = some (.ins (F.ca C) dx fs) ∧ fs.lookup x = some v ∧ Rp F g H d v := by
  unfold fldV at e
  split at e
  · rename_i n
    obtain ⟨a, rfl, hi⟩ := ro.ref_of
    split at e
    · rename_i C' ds es
      split at e
      · rename_i hC
        subst hC
        obtain ⟨dx, vs, h1, h0, h2⟩ := ins_at S hi es
        obtain ⟨v, h3, h4⟩ := h2.get e
        exact ⟨a, dx, _, v, rfl, h1, zip_lookup (nd C') hx h3, h4⟩
      · cases e
    · cases e
  · cases e
theorem setF_ok (S : StR F g H st) (nd : ∀ C, (F.T.flds C).Nodup) {C i : Nat} {o d : D} {u v : V} {x : Str} {K : Hp → Prop} (ro : Rp F g H o u) (rd : Rp F g H d v) (hx : (F.T.flds C)[i]? = some x) (hl : ∀ C, (F.T.flds C).length ≤ 900)
    (q : Post F E (fun _ _ _ _ => True) g H (setFV (F.T.flds C).length C i st o d) (fun (_ : Unit) H' => K H')) :
    ∃ a dx fs, u = .ref a ∧ H a = some (.ins (F.ca C) dx fs) ∧ fs.length < 1000 ∧ K (upd H a (.ins (F.ca C) dx (putF x v fs))) := by
  unfold setFV at q
  split at q
  · rename_i n
    obtain ⟨a, rfl, hi⟩ := ro.ref_of
    split at q
    · rename_i C' ds es
      split at q
      · rename_i hC
        obtain ⟨rfl, hi1, hi2⟩ := hC
        obtain ⟨dx, vs, h1, h0, h2⟩ := ins_at S hi es
        obtain ⟨s1, _⟩ := S.at hi es (by intro z; cases z)
        obtain ⟨f1, f2⟩ := ins_free h1
        refine ⟨a, dx, _, rfl, h1, ?_, ?_⟩
        · rw [List.length_zip]
          have := hl C'
          omega
        · rw [putF_zip v (nd C') hx (by rw [← h2.len]; exact hi1), ← h2.len]
          have ge : ∀ o, Ge g H g (upd H a o) := fun o => .write s1 f1 f2
          refine q g _ () (ge _) (S.write hi s1 f1 f2 ⟨dx, _, upd_same, ?_, ?_⟩) trivial
          · split
            · rename_i e; rw [List.length_append]; show ds.length + 1 ≤ _; omega
            · rw [List.length_set]; exact h0
          · split
            · exact Rps.ge (ge _) _ _ (h2.append (.cons rd .nil))
            · exact Rps.ge (ge _) _ _ (h2.set i rd)
      · exact q.elim
    · exact q.elim
  · exact q.elim
theorem ge_sh (S : StR F g H st) {p : Addr} {o : HO} (hp : H p = none) : Ge g H (g.sh st.length p) (upd H p o) :=
  ⟨fun a h => ⟨Gh.sh_ne (S.ne2 h hp), .inl (upd_ne (S.ne2 h hp))⟩, fun a xs h => by rw [upd_ne (ne_of_none h hp)]; exact h, fun a o u h => by rw [upd_ne (ne_of_none h hp)]; exact h,
    fun n a h => by rw [Gh.sh_j (fun e => by have := S.dom n a h; omega)]; exact h⟩
theorem new_sh (S : StR F g H st) {p : Addr} {o : HO} {x : SO} (hp : H p = none) (hx : OR F (g.sh st.length p) (upd H p o) p x) :
    Ge g H (g.sh st.length p) (upd H p o) ∧ StR F (g.sh st.length p) (upd H p o) (st ++ [x]) ∧ Rp F (g.sh st.length p) (upd H p o) (.ref st.length) (.ref p) := by
  have ge : Ge g H (g.sh st.length p) (upd H p o) := ge_sh S hp
  refine ⟨ge, ⟨fun n a h => ?_, fun n y e => ?_, fun a r h => ?_⟩, rp_ref Gh.sh_i⟩
  · rw [List.length_append, List.length_singleton]
    by_cases q : n = st.length
    · omega
    · rw [Gh.sh_j q] at h
      have := S.dom n a h
      omega
  · by_cases q : n < st.length
    · rw [List.getElem?_append_left q] at e
      rcases S.obj n y e with z | ⟨a, h1, h2, h3⟩
      · exact .inl z
      · exact .inr ⟨a, ge.ix n a h1, by rw [Gh.sh_ne (S.ne h2 hp)]; exact h2, OR.ge ge (upd_ne (S.ne h2 hp)) h3⟩
    · have : n = st.length := by
        have := (List.getElem?_eq_some_iff.mp e).1
        rw [List.length_append, List.length_singleton] at this
        omega
      subst this
      rw [List.getElem?_append_right (Nat.le_refl _), Nat.sub_self] at e
      cases e
      exact .inr ⟨p, Gh.sh_i, Gh.sh_same, hx⟩
  · by_cases e : a = p
    · exact ⟨o, by rw [e]; exact upd_same⟩
    · rw [Gh.sh_ne e] at h
      obtain ⟨u, q⟩ := S.trk a _ h
      exact ⟨u, by rw [upd_ne e]; exact q⟩
theorem sh_lst (S : StR F g H st) {xs : List D} {vs : List V} (r : Rps F g H xs vs) (q : Post F E (Rp F) g H (shV st (.lst xs)) Q) : ∀ p, H p = none → Q (.ref p) (upd H p (.lst vs)) := fun p hp =>
  have hx : OR F (g.sh st.length p) (upd H p (.lst vs)) p (.lst xs) := ⟨vs, upd_same, Rps.ge (ge_sh S hp) _ _ r⟩
  let ⟨a, b, c⟩ := new_sh S hp hx
  q _ _ _ a b c
theorem sh_dic (S : StR F g H st) {ks : List Key} {xs : List D} {vs : List V} (hl : ks.length = vs.length) (r : Rps F g H xs vs) (q : Post F E (Rp F) g H (shV st (.dic ks xs)) Q) : ∀ p, H p = none → Q (.ref p) (upd H p (.dK (ks.zip vs))) := fun p hp =>
  have hx : OR F (g.sh st.length p) (upd H p (.dK (ks.zip vs))) p (.dic ks xs) := ⟨vs, hl, upd_same, Rps.ge (ge_sh S hp) _ _ r⟩
  let ⟨a, b, c⟩ := new_sh S hp hx
  q _ _ _ a b c
theorem fz_at (S : StR F g H st) {n : Nat} {a : Addr} (hi : g.i n = some a) (hr : g.r a = some (.sto n)) : Ge g H (g.fz a) H ∧ StR F (g.fz a) H (st.set n .dead) := by
  have ge : Ge g H (g.fz a) H := ⟨fun b h => ⟨Gh.fz_ne fun e => (by rw [e, hr] at h; rcases h with h | h <;> cases h), .inl rfl⟩, fun _ _ h => h, fun _ _ _ h => h, fun _ _ h => h⟩
  refine ⟨ge, ⟨fun m b h => by rw [List.length_set]; exact S.dom m b h, fun m y e => ?_, fun b r h => ?_⟩⟩
  · by_cases q : m = n
    · subst q
      rw [List.getElem?_set_self (S.dom m a hi)] at e
      cases e
      exact .inl rfl
    · rw [List.getElem?_set_ne (Ne.symm q)] at e
      rcases S.obj m y e with z | ⟨b, h1, h2, h3⟩
      · exact .inl z
      · refine .inr ⟨b, h1, ?_, OR.ge ge rfl h3⟩
        rw [Gh.fz_ne (fun z => ?_)]
        · exact h2
        · rw [z, hr] at h2
          injection h2 with h2
          injection h2 with h2
          exact q h2.symm
  · by_cases e : b = a
    · subst e
      exact S.trk b _ hr
    · rw [Gh.fz_ne e] at h
      exact S.trk b r h
theorem fz_ok (S : StR F g H st) {d : D} {v : V} (r : Rp F g H d v) (q : Post F E (Rp F) g H (fzV st d) Q) : Q v H := by
  unfold fzV at q
  split at q
  · rename_i n
    obtain ⟨a, rfl, hi⟩ := r.ref_of
    split at q
    · rename_i xs e
      obtain ⟨h1, vs, h2, h3⟩ := S.at hi e (by intro z; cases z)
      obtain ⟨ge, s2⟩ := fz_at S hi h1
      exact q _ H _ ge s2 (rp_lst ⟨Gh.fz_same, h2⟩ (Rps.ge ge _ _ h3))
    · rename_i ks xs e
      obtain ⟨h1, vs, h0, h2, h3⟩ := S.at hi e (by intro z; cases z)
      obtain ⟨ge, s2⟩ := fz_at S hi h1
      exact q _ H _ ge s2 (rp_dic h0 ⟨Gh.fz_same, .inl h2⟩ (Rps.ge ge _ _ h3))
    · exact q.elim
  · exact Post.ok q S r
end
end TS
end

section
set_option Elab.async false
set_option linter.all false
set_option maxRecDepth 100000
set_option maxHeartbeats 1000000
namespace TS
open PySem PySem.Spec PyProof.Rows L2
def nst : Expr → Bool
  | .Starred _ _ => false
  | _ => true
def nsts : List Expr → Bool
  | [] => true
  | e :: es => nst e && nsts es
def plB : Expr → Bool
  | .Call (.Name id _) [] [] _ => id != ("super" : Str)
  | _ => true
def plT : Expr → Bool
  | .UnaryOp .Not _ _ => false
  | .BoolOp _ _ _ => false
  | .IfExp _ _ _ _ => false
  | .Compare _ _ _ _ => false
  | _ => true
def ncomp : Expr → Bool
  | .ListComp _ _ _ _ => false
  | .SetComp _ _ _ _ => false
  | .DictComp _ _ _ _ _ => false
  | _ => true
def nset : Expr → Bool
  | .Set _ _ _ => false
  | _ => true
def nsl : Expr → Bool
  | .Slice _ _ _ _ => false
  | _ => true
theorem star_one {e : Expr} {es : List Expr} {env : Env} (h : nst e = true) : starEach (e :: es) env = (false, eval e env) :: starEach es env := by
  cases e <;> first | rfl | cases h
theorem star_any {env : Env} {pos : Pos} : ∀ {es : List Expr}, nsts es = true → (backTo pos (starEach es env)).any (·.1) = false
  | [], _ => rfl
  | e :: es, h => by
    have h := Bool.and_eq_true_iff.mp (show (nst e && nsts es) = true from h)
    rw [star_one h.1]
    show (false || (backTo pos (starEach es env)).any (·.1)) = false
    rw [star_any h.2]; rfl
theorem star_all {env : Env} {pos : Pos} : ∀ {es : List Expr}, nsts es = true → (backTo pos (starEach es env)).all (fun x => !x.1) = true
  | [], _ => rfl
  | e :: es, h => by
    have h := Bool.and_eq_true_iff.mp (show (nst e && nsts es) = true from h)
    rw [star_one h.1]
    show ((!false) && (backTo pos (starEach es env)).all (fun x => !x.1)) = true
    rw [star_all h.2]; rfl
theorem plB_ok {o : Expr} {m : Str} {env : Env} {t : Sem Value} (h : plB o = true) : attributeBase o m env t = t := by
  unfold attributeBase
  split
  · rename_i id _ _
    have h2 : (id != ("super" : Str)) = true := h
    rw [h2]
    simp
  · rfl
theorem plT_ok {e : Expr} {env : Env} (h : plT e = true) (t : Sem Value) : isTrue e env t = (do let v ← t; standAt e.pos; holding [v] (truthy v)) := by
  cases e <;> first | rfl | cases h | (rename_i op _ _; cases op <;> first | rfl | cases h)
theorem ncomp_ok {e : Expr} {t : Option Expr} {l : Nat} {env : Env} (h : ncomp e = true) : swapsWith e t l env = pure false := by
  cases e <;> first | rfl | cases h
theorem nset_ok {e : Expr} {env : Env} (h : nset e = true) (x : Value) : foldedSetIterable e env x = pure x := by
  cases e <;> first | rfl | cases h
theorem nset_in {op : CmpOp} {e : Expr} (h : nset e = true) : behindInMarks op e = false := by
  cases e <;> first | rfl | cases h
theorem nset_last {op op' : CmpOp} {e e' : Expr} (h : nset e' = true) : lastMarks [op, op'] [e, e'] = false := by
  show behindInMarks op' e' = false
  exact nset_in h
theorem nsl_ok {e : Expr} (h : nsl e = true) : PlainIx e := fun o i => by
  cases e <;> first | rfl | cases h
def visB (sc : Scope) (x : Str) : Bool := match sc.names.lookup x with
  | some .local => true
  | some .cell => true
  | some .free => true
  | _ => false
def glB (sc : Scope) (x : Str) : Bool := decide (sc.names.lookup x = some .globalImplicit)
def dbg (x : Str) : Bool := (x == ("__debug__" : Str)) || (x == ("__classdict__" : Str))
def storeB (sc : Scope) (cf : Bool) (x : Str) : Bool := match sc.names.lookup x with
  | some .local => true
  | some .cell => cf
  | _ => false
theorem visB_ok {X : Cx} {sc : Scope} {x : Str} (e : X.env.scope = sc) (h : visB sc x = true) : Vis X.env.scope x := by
  rw [e]
  unfold visB at h
  unfold Vis
  split at h
  · rename_i q; exact .inl q
  · rename_i q; exact .inr (.inl q)
  · rename_i q; exact .inr (.inr q)
  · cases h
theorem glB_ok {X : Cx} {sc : Scope} {x : Str} (e : X.env.scope = sc) (h : glB sc x = true) : Gl X x := by
  show X.env.scope.names.lookup x = _
  rw [e]
  exact of_decide_eq_true h
theorem storeB_ok {X : Cx} {sc : Scope} {cf : Bool} {x : Str} (e : X.env.scope = sc) (c : cf = true → ∀ x, X.fn x = true) (h : storeB sc cf x = true) : Loc X.env.scope x ∧ (X.fn x = true ∨ X.env.scope.names.lookup x = some .local) := by
  rw [e]
  unfold storeB at h
  split at h
  · rename_i q; exact ⟨.inl q, .inr q⟩
  · rename_i q; exact ⟨.inr q, .inl (c h x)⟩
  · cases h
theorem dbg_ok {x : Str} (h : dbg x = false) : (x == ("__debug__" : Str)) = false ∧ (x == ("__classdict__" : Str)) = false := by
  unfold dbg at h
  rwa [Bool.or_eq_false_iff] at h
def bfN : Bf → Str
  | .len => "len"
  | .all => "all"
  | .any => "any"
  | .sum => "sum"
  | .max1 => "max"
  | .max2 => "max"
  | .min1 => "min"
  | .min2 => "min"
  | .abs => "abs"
  | .sorted => "sorted"
  | .tuple => "tuple"
  | .list => "list"
  | .int => "int"
  | .str => "str"
  | .dict => "dict"
  | .range1 => "range"
  | .range2 => "range"
  | .listK => "list"
  | .sortS => "sorted"
  | .sortK => "sorted"
  | .dictP => "dict"
  | .sumT => "sum"
theorem bfN_in (f : Bf) : bfN f ∈ bnames := by cases f <;> simp [bfN, bnames]
theorem bfN_boot (f : Bf) : bootBuiltins (bfN f) = some (bfU f) := by cases f <;> decide +kernel
theorem bfN_plain (f : Bf) : bfN f ≠ "__name__" ∧ (bfN f == ("__debug__" : Str)) = false := by cases f <;> decide +kernel
def bmN : Bm → Str
  | .append => "append"
  | .extend => "extend"
  | .pop0 => "pop"
  | .popAt => "pop"
  | .get1 => "get"
  | .get2 => "get"
  | .update => "update"
  | .index => "index"
  | .count => "count"
  | .join => "join"
  | .split => "split"
  | .values => "values"
  | .items => "items"
  | .keys => "keys"
  | .reverse => "reverse"
  | .setdefault => "setdefault"
  | .lstrip => "lstrip"
def bmD : Bm → Bool
  | .append | .extend | .pop0 | .popAt | .get1 | .get2 | .update => true
  | _ => false
def cConst : D → Const → Bool
  | .non, .none => true
  | .bl b, .bool c => b == c
  | .int i, .int j => decide (i = j)
  | .str s, .str t => decide (s = t)
  | _, _ => false
def cKeys : List Key → List (Option Expr) → Bool
  | [], [] => true
  | .inl i :: ks, some (.Constant (.int j) _ _) :: es => decide (i = j) && cKeys ks es
  | .inr s :: ks, some (.Constant (.str t) _ _) :: es => decide (s = t) && cKeys ks es
  | _, _ => false
def nodupB : List Key → Bool
  | [] => true
  | k :: ks => !(ks.any fun q => decide (q = k)) && nodupB ks
def dEmpty : DEs → Bool
  | .nil => true
  | .cons _ _ => false
def cTgs (N : List Str) (sc : Scope) (cf : Bool) : List Nat → List Expr → Bool
  | [], [] => true
  | i :: is_, .Name x _ :: es => decide (N[i]? = some x) && (storeB sc cf x && cTgs N sc cf is_ es)
  | _, _ => false
def cTg (N : List Str) (sc : Scope) (cf : Bool) : Tg → Expr → Bool
  | .n i, .Name x _ => decide (N[i]? = some x) && storeB sc cf x
  | .t is_, .Tuple es _ _ => cTgs N sc cf is_ es
  | _, _ => false
def tgL : Tg → List Nat
  | .n i => [i]
  | .t is_ => is_
def ownN (N : List Str) (own : List Nat) : List (Str × Nat) := own.map fun i => (N.getD i "", i)
mutual
def cE (L : Ln) (N : List Str) (t : Bool) : DE → Scope → Expr → Bool
  | .c d, _, e => (!t || plT e) && match e with
    | .Constant c _ _ => cConst d c
    | _ => false
  | .v i, sc, e => (!t || plT e) && match e with
    | .Name x _ => decide (N[i]? = some x) && (visB sc x && !dbg x)
    | _ => false
  | .g i, sc, e => (!t || plT e) && match e with
    | .Name x _ => decide (x = L.nm.gl i) && (glB sc x && !dbg x)
    | _ => false
  | .bin o a b, sc, e => (!t || plT e) && match e with
    | .BinOp l op r _ => decide (op = opO o) && (cE L N false a sc l && cE L N false b sc r)
    | _ => false
  | .neg a, sc, e => (!t || plT e) && match e with
    | .UnaryOp .USub x _ => cE L N false a sc x
    | _ => false
  | .cmp o a b, sc, e => match e with
    | .Compare l [op] [r] _ => decide (op = coO o) && (nset r && (cE L N false a sc l && cE L N false b sc r))
    | _ => false
  | .chn o p a b d, sc, e => match e with
    | .Compare l [op, op'] [r, q] _ => (decide (op = coO o) && decide (op' = coO p)) && (nset q && (cE L N false a sc l && (cE L N false b sc r && cE L N false d sc q)))
    | _ => false
  | .band es, sc, e => match e with
    | .BoolOp .And vs _ => !vs.isEmpty && cEs L N t es sc vs
    | _ => false
  | .bor es, sc, e => match e with
    | .BoolOp .Or vs _ => !vs.isEmpty && cEs L N t es sc vs
    | _ => false
  | .bnot a, sc, e => match e with
    | .UnaryOp .Not x _ => cE L N t a sc x
    | _ => false
  | .ite c' a b, sc, e => !t && match e with
    | .IfExp c x y _ => cE L N true c' sc c && (cE L N false a sc x && cE L N false b sc y)
    | _ => false
  | .tup es, sc, e => (!t || plT e) && match e with
    | .Tuple vs _ _ => decide (vs.length ≤ 1000) && cEs L N false es sc vs
    | _ => false
  | .lst es, sc, e => (!t || plT e) && match e with
    | .List vs _ => decide (vs.length ≤ 1000) && cEs L N false es sc vs
    | _ => false
  | .dct ks es, sc, e => (!t || plT e) && match e with
    | .Dict keys vs _ => (cKeys ks keys && nodupB ks) && (decide (keys.length = vs.length ∧ keys.length ≤ 15) && cEs L N false es sc vs)
    | _ => false
  | .ix a i, sc, e => (!t || plT e) && match e with
    | .Subscript x y _ => nsl y && (cE L N false a sc x && cE L N false i sc y)
    | _ => false
  | .sl a lo hi, sc, e => (!t || plT e) && match e with
    | .Subscript x (.Slice l h none _) _ => cE L N false a sc x && (cO L N lo sc l && cO L N hi sc h)
    | _ => false
  | .call g es ds, sc, e => (!t || plT e) && match e with
    | .Call (.Name x _) vs [] _ => (decide (x = L.nm.fn g) && (glB sc x && (!dbg x && L.isG g && (L.T.fn g).isSome))) && (((ds.isEmpty && L.full g) || (!ds.isEmpty && D.beqs ds (L.T.dfl g))) && cEs L N false es sc vs)
    | _ => false
  | .callk g es ks kes, sc, e => (!t || plT e) && match e with
    | .Call (.Name x _) vs kws _ => (decide (x = L.nm.fn g) && (glB sc x && (!dbg x && L.isG g && (L.T.fn g).isSome))) && ((decide (ks = L.kw g) && !ks.isEmpty && !vs.isEmpty) && (cEs L N false es sc vs && cKs L N kes ks sc kws))
    | _ => false
  | .bf g es, sc, e => (!t || plT e) && match e with
    | .Call (.Name x _) vs [] _ => (decide (x = bfN g) && (glB sc x && !vs.isEmpty)) && cEs L N false es sc vs
    | _ => false
  | .isi a ty, sc, e => (!t || plT e) && match e with
    | .Call (.Name f _) [x, .Name t _] [] _ => (decide (f = ("isinstance" : Str)) && (glB sc f && (decide (t = Str.ofString ty) && (glB sc t && isTy ty)))) && (nst x && cE L N false a sc x)
    | _ => false
  | .mth C g o es, sc, e => (!t || plT e) && match e with
    | .Call (.Attribute x m ap) vs [] p => (decide (m = L.nm.fn g) && (L.isM C g && (L.isC C && (L.full g && (L.T.fn g).isSome)))) && ((plB x && (ap.endLine == p.line && decide (vs.length < 29))) && (cE L N false o sc x && cEs L N false es sc vs))
    | _ => false
  | .bm m o es, sc, e => (!t || plT e) && match e with
    | .Call (.Attribute x n ap) vs [] p => (decide (n = bmN m) && (bmD m && (plB x && (ap.endLine == p.line && decide (vs.length < 29))))) && (cE L N false o sc x && cEs L N false es sc vs)
    | _ => false
  | .mk C es, sc, e => (!t || plT e) && match e with
    | .Call (.Name x _) vs [] _ => (decide (x = L.nm.cl C) && (glB sc x && (!dbg x && (L.isC C && L.cmk C)))) && cEs L N false es sc vs
    | _ => false
  | .fld C i o, sc, e => (!t || plT e) && match e with
    | .Attribute x m _ => (decide ((L.T.flds C)[i]? = some m) && (L.isC C && plB x)) && cE L N false o sc x
    | _ => false
  | .lc d tg it cs own, sc, e => (!t || plT e) && match e with
    | .ListComp x [⟨tt, i, ifs, n⟩] s2 _ => (blkC N sc s2 (ownN N own) && ((tgL tg).all (fun j => own.any fun k => decide (k = j)) && (decide (n = 0) && nset i))) && ((cTg N (relS s2 sc) false tg tt && cI L N it sc tt i) && (cTts L N cs (relS s2 sc) ifs && cE L N false d (relS s2 sc) x))
    | _ => false
  | .sh d, sc, e => (!t || plT e) && ((match d with
    | .lst _ => true
    | .dct _ _ => true
    | .lc _ _ _ _ _ => true
    | .bin _ _ _ => true
    | .bf _ _ => true
    | .sl _ _ _ => true
    | _ => false) && cE L N false d sc e)
  | .fz d, sc, e => (!t || plT e) && cE L N false d sc e
  | .mthk C g o es ks kes, sc, e => (!t || plT e) && match e with
    | .Call (.Attribute x m ap) vs kws p => (decide (m = L.nm.fn g) && (L.isM C g && (L.isC C && (L.T.fn g).isSome))) && (((plB x && (ap.endLine == p.line && decide (vs.length + kws.length < 28))) && (!vs.isEmpty && ((decide (ks = L.kw g) && !ks.isEmpty) || (ks.isEmpty && !(L.T.dfl g).isEmpty)))) && (cE L N false o sc x && (cEs L N false es sc vs && cKs L N kes ks sc kws)))
    | _ => false
  | .lrng3 a b c, sc, e => (!t || plT e) && match e with
    | .Call (.Name n _) [.Call (.Name n2 _) [x, y, z] [] _] [] _ => ((decide (n = ("list" : Str)) && glB sc n) && (decide (n2 = ("range" : Str)) && glB sc n2)) && ((nst x && (nst y && nst z)) && (cE L N false a sc x && (cE L N false b sc y && cE L N false c sc z)))
    | _ => false
  | .dc k d tg it cs own, sc, e => (!t || plT e) && match e with
    | .DictComp y x [⟨tt, i, ifs, n⟩] s2 _ => (blkC N sc s2 (ownN N own) && ((tgL tg).all (fun j => own.any fun k => decide (k = j)) && (decide (n = 0) && nset i))) && ((cTg N (relS s2 sc) false tg tt && cI L N it sc tt i) && (cTts L N cs (relS s2 sc) ifs && (cE L N false k (relS s2 sc) y && cE L N false d (relS s2 sc) x)))
    | _ => false
  | .sset a, sc, e => (!t || plT e) && match e with
    | .Call (.Name n _) [.Call (.Name n2 _) [x] [] _] [] _ => ((decide (n = ("sorted" : Str)) && glB sc n) && (decide (n2 = ("set" : Str)) && glB sc n2)) && (nst x && cE L N false a sc x)
    | _ => false
def cEs (L : Ln) (N : List Str) (t : Bool) : DEs → Scope → List Expr → Bool
  | .nil, _, es => es.isEmpty
  | .cons d ds, sc, es => match es with
    | e :: es => nst e && (cE L N t d sc e && cEs L N t ds sc es)
    | [] => false
def cO (L : Ln) (N : List Str) : DEs → Scope → Option Expr → Bool
  | .nil, _, e => e.isNone
  | .cons d .nil, sc, e => match e with
    | some e => cE L N false d sc e
    | none => false
  | .cons _ (.cons _ _), _, _ => false
def cKs (L : Ln) (N : List Str) : DEs → List Str → Scope → List Keyword → Bool
  | .nil, ks, _, kws => ks.isEmpty && kws.isEmpty
  | .cons d ds, ks, sc, kws => match ks, kws with
    | k :: ks, ⟨some n, e, _⟩ :: kws => decide (n = k) && (cE L N false d sc e && cKs L N ds ks sc kws)
    | _, _ => false
def cTts (L : Ln) (N : List Str) : DEs → Scope → List Expr → Bool
  | .nil, _, es => es.isEmpty
  | .cons d .nil, sc, es => match es with
    | [e] => cE L N true d sc e
    | _ => false
  | .cons _ (.cons _ _), _, _ => false
def cI (L : Ln) (N : List Str) : DI → Scope → Expr → Expr → Bool
  | .e d, sc, _, e => nset e && cE L N false d sc e
  | .rng1 a, sc, _, e => match e with
    | .Call (.Name x _) [y] [] _ => decide (x = ("range" : Str)) && (glB sc x && (nst y && cE L N false a sc y))
    | _ => false
  | .rng2 a b, sc, _, e => match e with
    | .Call (.Name x _) [y, z] [] _ => decide (x = ("range" : Str)) && (glB sc x && ((nst y && nst z) && (cE L N false a sc y && cE L N false b sc z)))
    | _ => false
  | .enum a, sc, t, e => match t, e with
    | .Tuple _ _ _, .Call (.Name x _) [y] [] _ => decide (x = ("enumerate" : Str)) && (glB sc x && (nst y && cE L N false a sc y))
    | _, _ => false
  | .zip a b, sc, t, e => match t, e with
    | .Tuple _ _ _, .Call (.Name x _) [y, z] [] _ => decide (x = ("zip" : Str)) && (glB sc x && ((nst y && nst z) && (cE L N false a sc y && cE L N false b sc z)))
    | _, _ => false
  | .keysL d, sc, _, e => nset e && cE L N false d sc e
end
end TS
end

section
set_option Elab.async false
set_option linter.all false
set_option maxRecDepth 100000
namespace TS
open PySem PySem.Spec PyProof.Rows
theorem evE_c {T : Tab} {f : Phi} {sl : Slots} {st : Store}  : evE T f (.c d) sl st = (.ok d st) := by first | (rw [evE]; done) | (rw [evE]; rfl)
theorem evE_v {T : Tab} {f : Phi} {sl : Slots} {st : Store}  : evE T f (.v i) sl st = (match sl[i]? with
    | some (some d) => .ok d st
    | _ => .bad) := by first | (rw [evE]; done) | (rw [evE]; rfl)
theorem evE_g {T : Tab} {f : Phi} {sl : Slots} {st : Store}  : evE T f (.g i) sl st = (okO (T.gl i) st) := by first | (rw [evE]; done) | (rw [evE]; rfl)
theorem evE_bin {T : Tab} {f : Phi} {sl : Slots} {st : Store}  : evE T f (.bin o a b) sl st = ((evE T f a sl st).bind fun x st1 => (evE T f b sl st1).bind fun y st2 => okO (binV o st2 x y) st2) := by first | (rw [evE]; done) | (rw [evE]; rfl)
theorem evE_neg {T : Tab} {f : Phi} {sl : Slots} {st : Store}  : evE T f (.neg a) sl st = ((evE T f a sl st).bind fun x st1 => match x with
    | .int i => .ok (.int (-i)) st1
    | _ => .bad) := by first | (rw [evE]; done) | (rw [evE]; rfl)
theorem evE_cmp {T : Tab} {f : Phi} {sl : Slots} {st : Store}  : evE T f (.cmp o a b) sl st = ((evE T f a sl st).bind fun x st1 => (evE T f b sl st1).bind fun y st2 => (okO (cmpV o st2 x y) st2).bind fun k st3 => .ok (.bl k) st3) := by first | (rw [evE]; done) | (rw [evE]; rfl)
theorem evE_chn {T : Tab} {f : Phi} {sl : Slots} {st : Store}  : evE T f (.chn o p a b e) sl st = ((evE T f a sl st).bind fun x st1 => (evE T f b sl st1).bind fun y st2 => (okO (cmpV o st2 x y) st2).bind fun k st3 =>       if k = true then (evE T f e sl st3).bind fun z st4 => (okO (cmpV p st4 y z) st4).bind fun k2 st5 => .ok (.bl k2) st5 else .ok (.bl false) st3) := by first | (rw [evE]; done) | (rw [evE]; rfl)
theorem evE_band {T : Tab} {f : Phi} {sl : Slots} {st : Store}  : evE T f (.band es) sl st = (evAnd T f es sl st) := by first | (rw [evE]; done) | (rw [evE]; rfl)
theorem evE_bor {T : Tab} {f : Phi} {sl : Slots} {st : Store}  : evE T f (.bor es) sl st = (evOr T f es sl st) := by first | (rw [evE]; done) | (rw [evE]; rfl)
theorem evE_bnot {T : Tab} {f : Phi} {sl : Slots} {st : Store}  : evE T f (.bnot a) sl st = ((evE T f a sl st).bind fun x st1 => (okO (tru st1 x) st1).bind fun k st2 => .ok (.bl (!k)) st2) := by first | (rw [evE]; done) | (rw [evE]; rfl)
theorem evE_ite {T : Tab} {f : Phi} {sl : Slots} {st : Store}  : evE T f (.ite t a b) sl st = ((evT T f t sl st).bind fun k st1 => if k = true then evE T f a sl st1 else evE T f b sl st1) := by first | (rw [evE]; done) | (rw [evE]; rfl)
theorem evE_tup {T : Tab} {f : Phi} {sl : Slots} {st : Store}  : evE T f (.tup es) sl st = ((evEs T f es sl st).bind fun xs st1 => .ok (.tup xs) st1) := by first | (rw [evE]; done) | (rw [evE]; rfl)
theorem evE_lst {T : Tab} {f : Phi} {sl : Slots} {st : Store}  : evE T f (.lst es) sl st = ((evEs T f es sl st).bind fun xs st1 => .ok (.lst xs) st1) := by first | (rw [evE]; done) | (rw [evE]; rfl)
theorem evE_dct {T : Tab} {f : Phi} {sl : Slots} {st : Store}  : evE T f (.dct ks es) sl st = ((evEs T f es sl st).bind fun xs st1 => if xs.length = ks.length then .ok (.dic ks xs) st1 else .bad) := by first | (rw [evE]; done) | (rw [evE]; rfl)
theorem evE_ix {T : Tab} {f : Phi} {sl : Slots} {st : Store}  : evE T f (.ix a i) sl st = ((evE T f a sl st).bind fun x st1 => (evE T f i sl st1).bind fun y st2 => okO (ixV st2 x y) st2) := by first | (rw [evE]; done) | (rw [evE]; rfl)
theorem evE_sl {T : Tab} {f : Phi} {sl : Slots} {st : Store}  : evE T f (.sl a lw hi) sl st = ((evE T f a sl st).bind fun x st1 => (evEs T f lw sl st1).bind fun l st2 => (okO (optI l) st2).bind fun l st2 => (evEs T f hi sl st2).bind fun h st3 => (okO (optI h) st3).bind fun h st3 => okO (slV st3 x l h) st3) := by first | (rw [evE]; done) | (rw [evE]; rfl)
theorem evE_call {T : Tab} {f : Phi} {sl : Slots} {st : Store}  : evE T f (.call g es ds) sl st = ((evEs T f es sl st).bind fun xs st1 => f g (xs ++ ds) st1) := by first | (rw [evE]; done) | (rw [evE]; rfl)
theorem evE_callk {T : Tab} {f : Phi} {sl : Slots} {st : Store}  : evE T f (.callk g es u1 kes) sl st = ((evEs T f es sl st).bind fun xs st1 => (evEs T f kes sl st1).bind fun ys st2 => f g (xs ++ ys) st2) := by first | (rw [evE]; done) | (rw [evE]; rfl)
theorem evE_bf {T : Tab} {f : Phi} {sl : Slots} {st : Store}  : evE T f (.bf g es) sl st = ((evEs T f es sl st).bind fun xs st1 => okO (bfV g st1 xs) st1) := by first | (rw [evE]; done) | (rw [evE]; rfl)
theorem evE_isi {T : Tab} {f : Phi} {sl : Slots} {st : Store}  : evE T f (.isi a ty) sl st = ((evE T f a sl st).bind fun x st1 => (okO (tyD st1 x) st1).bind fun t st2 => .ok (.bl (isiV t ty)) st2) := by first | (rw [evE]; done) | (rw [evE]; rfl)
theorem evE_mth {T : Tab} {f : Phi} {sl : Slots} {st : Store}  : evE T f (.mth C g o es) sl st = ((evE T f o sl st).bind fun x st1 => match x with
    | .ref n => match st1[n]? with
      | some (.ins C' _) => if C' = C then (evEs T f es sl st1).bind fun xs st2 => f g (.ref n :: xs) st2 else .bad
      | _ => .bad
    | _ => .bad) := by first | (rw [evE]; done) | (rw [evE]; rfl)
theorem evE_bm {T : Tab} {f : Phi} {sl : Slots} {st : Store}  : evE T f (.bm m o es) sl st = ((evE T f o sl st).bind fun x st1 => if bmTy m st1 x = true then (evEs T f es sl st1).bind fun xs st2 => bmV m st2 x xs else .bad) := by first | (rw [evE]; done) | (rw [evE]; rfl)
theorem evE_mk {T : Tab} {f : Phi} {sl : Slots} {st : Store}  : evE T f (.mk C es) sl st = ((evEs T f es sl st).bind fun xs st1 => (f (T.init C) (.ref st1.length :: xs) (st1 ++ [.ins C []])).bind fun x st2 => match x with
    | .non => .ok (.ref st1.length) st2
    | _ => .bad) := by first | (rw [evE]; done) | (rw [evE]; rfl)
theorem evE_fld {T : Tab} {f : Phi} {sl : Slots} {st : Store}  : evE T f (.fld C i o) sl st = ((evE T f o sl st).bind fun x st1 => okO (fldV C i st1 x) st1) := by first | (rw [evE]; done) | (rw [evE]; rfl)
theorem evE_lc {T : Tab} {f : Phi} {sl : Slots} {st : Store}  : evE T f (.lc e tg it cs own) sl st = ((evI T f it sl st).bind fun w st1 => nox <|
      (lcLoop w.ok (fun x st2 => match asgV tg (wipeD sl own) x with
        | some sl2 => (evTs T f cs sl2 st2).bind fun k st3 => if k = true then (evE T f e sl2 st3).bind fun y st4 => .ok (some y) st4 else .ok none st3
        | none => .bad) w.xs st1).bind fun ys st2 => if ys.length ≤ LIM then .ok (.lst ys) st2 else .bad) := by first | (rw [evE]; done) | (rw [evE]; rfl)
theorem evE_sh {T : Tab} {f : Phi} {sl : Slots} {st : Store}  : evE T f (.sh e) sl st = ((evE T f e sl st).bind fun x st1 => shV st1 x) := by first | (rw [evE]; done) | (rw [evE]; rfl)
theorem evE_fz {T : Tab} {f : Phi} {sl : Slots} {st : Store}  : evE T f (.fz e) sl st = ((evE T f e sl st).bind fun x st1 => fzV st1 x) := by first | (rw [evE]; done) | (rw [evE]; rfl)
theorem evE_mthk {T : Tab} {f : Phi} {sl : Slots} {st : Store}  : evE T f (.mthk C g o es ks kes) sl st = ((evE T f o sl st).bind fun x st1 => match x with
    | .ref n => match st1[n]? with
      | some (.ins C' _) => if C' = C then (evEs T f es sl st1).bind fun xs st2 => (evEs T f kes sl st2).bind fun ys st3 => f g (.ref n :: (xs ++ (if ks.isEmpty = true then T.dfl g else ys))) st3 else .bad
      | _ => .bad
    | _ => .bad) := by first | (rw [evE]; done) | (rw [evE]; rfl)
theorem evE_lrng3 {T : Tab} {f : Phi} {sl : Slots} {st : Store}  : evE T f (.lrng3 a b c) sl st = ((evE T f a sl st).bind fun x st1 => (evE T f b sl st1).bind fun y st2 => (evE T f c sl st2).bind fun z st3 => match x, y, z with
    | .int i, .int j, .int k => if k = -1 ∧ i ≤ 1000000 ∧ -1000000 ≤ i ∧ j ≤ 1000000 ∧ -1000000 ≤ j then .ok (.lst ((List.range (i - j).toNat).map fun (t : Nat) => .int (i - (t : Int)))) st3 else .bad
    | _, _, _ => .bad) := by first | (rw [evE]; done) | (rw [evE]; rfl)
theorem evE_dc {T : Tab} {f : Phi} {sl : Slots} {st : Store}  : evE T f (.dc k e tg it cs own) sl st = ((evI T f it sl st).bind fun w st1 => nox <|
      (lcLoop w.ok (fun x st2 => match asgV tg (wipeD sl own) x with
        | some sl2 => (evTs T f cs sl2 st2).bind fun b st3 => if b = true then (evE T f k sl2 st3).bind fun y st4 => (evE T f e sl2 st4).bind fun z st5 => .ok (some (.tup [y, z])) st5 else .ok none st3
        | none => .bad) w.xs st1).bind fun ys st2 => match prsD ys with
          | some ps => if ps.length ≤ LIM then .ok (.dic (putAllK ps []) (putAllD ps [] [])) st2 else .bad
          | none => .bad) := by first | (rw [evE]; done) | (rw [evE]; rfl)
theorem evE_sset {T : Tab} {f : Phi} {sl : Slots} {st : Store}  : evE T f (.sset a) sl st = ((evE T f a sl st).bind fun x st1 => (okO ((litems st1 x).bind strsD) st1).bind fun ss st2 => if ss.length < 64 then .ok (.lst ((sortStr (dedS ss)).map .str)) st2 else .bad) := by first | (rw [evE]; done) | (rw [evE]; rfl)
theorem evEs_nil {T : Tab} {f : Phi} {sl : Slots} {st : Store}  : evEs T f (.nil) sl st = (.ok [] st) := by first | (rw [evEs]; done) | (rw [evEs]; rfl)
theorem evEs_cons {T : Tab} {f : Phi} {sl : Slots} {st : Store}  : evEs T f (.cons e es) sl st = ((evE T f e sl st).bind fun x st1 => (evEs T f es sl st1).bind fun xs st2 => .ok (x :: xs) st2) := by first | (rw [evEs]; done) | (rw [evEs]; rfl)
theorem evAnd_nil {T : Tab} {f : Phi} {sl : Slots} {st : Store}  : evAnd T f (.nil) sl st = (.bad) := by first | (rw [evAnd]; done) | (rw [evAnd]; rfl)
theorem evAnd_cons1 {T : Tab} {f : Phi} {sl : Slots} {st : Store}  : evAnd T f (.cons e .nil) sl st = (evE T f e sl st) := by first | (rw [evAnd]; done) | (rw [evAnd]; rfl)
theorem evOr_nil {T : Tab} {f : Phi} {sl : Slots} {st : Store}  : evOr T f (.nil) sl st = (.bad) := by first | (rw [evOr]; done) | (rw [evOr]; rfl)
theorem evOr_cons1 {T : Tab} {f : Phi} {sl : Slots} {st : Store}  : evOr T f (.cons e .nil) sl st = (evE T f e sl st) := by first | (rw [evOr]; done) | (rw [evOr]; rfl)
theorem evT_band {T : Tab} {f : Phi} {sl : Slots} {st : Store}  : evT T f (.band es) sl st = (evTs T f es sl st) := by first | (rw [evT]; done) | (rw [evT]; rfl)
theorem evT_bor {T : Tab} {f : Phi} {sl : Slots} {st : Store}  : evT T f (.bor es) sl st = (evTo T f es sl st) := by first | (rw [evT]; done) | (rw [evT]; rfl)
theorem evT_bnot {T : Tab} {f : Phi} {sl : Slots} {st : Store}  : evT T f (.bnot a) sl st = ((evT T f a sl st).bind fun k st1 => .ok (!k) st1) := by first | (rw [evT]; done) | (rw [evT]; rfl)
theorem evT_cmp {T : Tab} {f : Phi} {sl : Slots} {st : Store}  : evT T f (.cmp o a b) sl st = ((evE T f a sl st).bind fun x st1 => (evE T f b sl st1).bind fun y st2 => okO (cmpV o st2 x y) st2) := by first | (rw [evT]; done) | (rw [evT]; rfl)
theorem evT_chn {T : Tab} {f : Phi} {sl : Slots} {st : Store}  : evT T f (.chn o p a b e) sl st = ((evE T f a sl st).bind fun x st1 => (evE T f b sl st1).bind fun y st2 => (okO (cmpV o st2 x y) st2).bind fun k st3 =>       if k = true then (evE T f e sl st3).bind fun z st4 => okO (cmpV p st4 y z) st4 else .ok false st3) := by first | (rw [evT]; done) | (rw [evT]; rfl)
theorem evTs_nil {T : Tab} {f : Phi} {sl : Slots} {st : Store}  : evTs T f (.nil) sl st = (.ok true st) := by first | (rw [evTs]; done) | (rw [evTs]; rfl)
theorem evTs_cons {T : Tab} {f : Phi} {sl : Slots} {st : Store}  : evTs T f (.cons e es) sl st = ((evT T f e sl st).bind fun k st1 => if k = true then evTs T f es sl st1 else .ok false st1) := by first | (rw [evTs]; done) | (rw [evTs]; rfl)
theorem evTo_nil {T : Tab} {f : Phi} {sl : Slots} {st : Store}  : evTo T f (.nil) sl st = (.ok false st) := by first | (rw [evTo]; done) | (rw [evTo]; rfl)
theorem evTo_cons {T : Tab} {f : Phi} {sl : Slots} {st : Store}  : evTo T f (.cons e es) sl st = ((evT T f e sl st).bind fun k st1 => if k = true then .ok true st1 else evTo T f es sl st1) := by first | (rw [evTo]; done) | (rw [evTo]; rfl)
theorem evI_e {T : Tab} {f : Phi} {sl : Slots} {st : Store}  : evI T f (.e a) sl st = ((evE T f a sl st).bind fun x st1 => okO (wkOf st1 x) st1) := by first | (rw [evI]; done) | (rw [evI]; rfl)
theorem evI_rng1 {T : Tab} {f : Phi} {sl : Slots} {st : Store}  : evI T f (.rng1 a) sl st = ((evE T f a sl st).bind fun x st1 => match x with
    | .int n => if n ≤ 1000000000 ∧ -1000000000 ≤ n then .ok ⟨rangeD 0 n.toNat, fun _ => true⟩ st1 else .bad
    | _ => .bad) := by first | (rw [evI]; done) | (rw [evI]; rfl)
theorem evI_rng2 {T : Tab} {f : Phi} {sl : Slots} {st : Store}  : evI T f (.rng2 a b) sl st = ((evE T f a sl st).bind fun x st1 => (evE T f b sl st1).bind fun y st2 => match x, y with
    | .int m, .int n => if n ≤ 1000000000 ∧ -1000000000 ≤ n ∧ m ≤ 1000000000 ∧ -1000000000 ≤ m then .ok ⟨rangeD m (n - m).toNat, fun _ => true⟩ st2 else .bad
    | _, _ => .bad) := by first | (rw [evI]; done) | (rw [evI]; rfl)
theorem evI_enum {T : Tab} {f : Phi} {sl : Slots} {st : Store}  : evI T f (.enum a) sl st = ((evE T f a sl st).bind fun x st1 => match x with
    | .lst xs => .ok ⟨enumD 0 xs, fun _ => true⟩ st1
    | _ => .bad) := by first | (rw [evI]; done) | (rw [evI]; rfl)
theorem evI_zip {T : Tab} {f : Phi} {sl : Slots} {st : Store}  : evI T f (.zip a b) sl st = ((evE T f a sl st).bind fun x st1 => (evE T f b sl st1).bind fun y st2 => match x, y with
    | .tup xs, .tup ys => .ok ⟨zipD xs ys, fun _ => true⟩ st2
    | _, _ => .bad) := by first | (rw [evI]; done) | (rw [evI]; rfl)
theorem evI_keysL {T : Tab} {f : Phi} {sl : Slots} {st : Store}  : evI T f (.keysL a) sl st = ((evE T f a sl st).bind fun x st1 => match x with
    | .ref n => match st1[n]? with
      | some (.ldic ks ds) => .ok ⟨ks.map kD, fun s => lkd n ks ds s⟩ st1
      | _ => .bad
    | _ => .bad) := by first | (rw [evI]; done) | (rw [evI]; rfl)
theorem exS_pass {T : Tab} {f : Phi} {sl : Slots} {st : Store}  : exS T f (.pass) sl st = (.next sl st) := by first | (rw [exS]; done) | (rw [exS]; rfl)
theorem exS_asg {T : Tab} {f : Phi} {sl : Slots} {st : Store}  : exS T f (.asg tg e) sl st = ((evE T f e sl st).then fun x st1 => nextO (asgV tg sl x) st1) := by first | (rw [exS]; done) | (rw [exS]; rfl)
theorem exS_par {T : Tab} {f : Phi} {sl : Slots} {st : Store}  : exS T f (.par i j a b) sl st = ((evE T f a sl st).then fun x st1 => (evE T f b sl st1).then fun y st2 => .next ((sl.set i (some x)).set j (some y)) st2) := by first | (rw [exS]; done) | (rw [exS]; rfl)
theorem exS_par3 {T : Tab} {f : Phi} {sl : Slots} {st : Store}  : exS T f (.par3 i j k a b c) sl st = ((evE T f a sl st).then fun x st1 => (evE T f b sl st1).then fun y st2 => (evE T f c sl st2).then fun z st3 => .next (((sl.set i (some x)).set j (some y)).set k (some z)) st3) := by first | (rw [exS]; done) | (rw [exS]; rfl)
theorem exS_augI {T : Tab} {f : Phi} {sl : Slots} {st : Store}  : exS T f (.augI o ix op e) sl st = ((evE T f o sl st).then fun x st1 => (evE T f ix sl st1).then fun i st2 => (okO (getIV st2 x i) st2).then fun u st2 => (evE T f e sl st2).then fun y st3 => (okO (augV op u y) st3).then fun z st3 => (setIV st3 x i z).then fun _ st4 => .next sl st4) := by first | (rw [exS]; done) | (rw [exS]; rfl)
theorem exS_setF {T : Tab} {f : Phi} {sl : Slots} {st : Store}  : exS T f (.setF C i o e) sl st = ((evE T f e sl st).then fun y st1 => (evE T f o sl st1).then fun x st2 => (setFV (T.flds C).length C i st2 x y).then fun _ st3 => .next sl st3) := by first | (rw [exS]; done) | (rw [exS]; rfl)
theorem exS_augF {T : Tab} {f : Phi} {sl : Slots} {st : Store}  : exS T f (.augF C i o op e) sl st = ((evE T f o sl st).then fun x st1 => (okO (fldV C i st1 x) st1).then fun u st1 => (evE T f e sl st1).then fun y st2 =>       (okO (augV op u y) st2).then fun z st2 => (setFV (T.flds C).length C i st2 x z).then fun _ st3 => .next sl st3) := by first | (rw [exS]; done) | (rw [exS]; rfl)
theorem exS_aug {T : Tab} {f : Phi} {sl : Slots} {st : Store}  : exS T f (.aug i op e) sl st = (match sl[i]? with
    | some (some u) => (evE T f e sl st).then fun y st1 => (okO (augV op u y) st1).then fun z st1 => .next (sl.set i (some z)) st1
    | _ => .bad) := by first | (rw [exS]; done) | (rw [exS]; rfl)
theorem exS_setI {T : Tab} {f : Phi} {sl : Slots} {st : Store}  : exS T f (.setI o ix e) sl st = ((evE T f e sl st).then fun y st1 => (evE T f o sl st1).then fun x st2 => (evE T f ix sl st2).then fun i st3 => (setIV st3 x i y).then fun _ st4 => .next sl st4) := by first | (rw [exS]; done) | (rw [exS]; rfl)
theorem exS_setI2 {T : Tab} {f : Phi} {sl : Slots} {st : Store}  : exS T f (.setI2 o i o2 i2 e) sl st = ((evE T f e sl st).then fun y st1 => match y with
    | .tup [y1, y2] => (evE T f o sl st1).then fun x st2 => (evE T f i sl st2).then fun k st3 => (setIV st3 x k y1).then fun _ st4 =>
        (evE T f o2 sl st4).then fun x2 st5 => (evE T f i2 sl st5).then fun k2 st6 => (setIV st6 x2 k2 y2).then fun _ st7 => .next sl st7
    | _ => .bad) := by first | (rw [exS]; done) | (rw [exS]; rfl)
theorem exS_expr {T : Tab} {f : Phi} {sl : Slots} {st : Store}  : exS T f (.expr e) sl st = ((evE T f e sl st).then fun _ st1 => .next sl st1) := by first | (rw [exS]; done) | (rw [exS]; rfl)
theorem exS_ret {T : Tab} {f : Phi} {sl : Slots} {st : Store}  : exS T f (.ret e) sl st = ((evE T f e sl st).then fun x st1 => .ret x st1) := by first | (rw [exS]; done) | (rw [exS]; rfl)
theorem exS_ifs {T : Tab} {f : Phi} {sl : Slots} {st : Store}  : exS T f (.ifs t a b) sl st = ((evT T f t sl st).then fun k st1 => if k = true then exSs T f a sl st1 else exSs T f b sl st1) := by first | (rw [exS]; done) | (rw [exS]; rfl)
theorem exS_for_ {T : Tab} {f : Phi} {sl : Slots} {st : Store}  : exS T f (.for_ tg it b) sl st = ((evI T f it sl st).then fun w st1 => forLoop w.ok tg (fun sl2 st2 => exSs T f b sl2 st2) w.xs sl st1) := by first | (rw [exS]; done) | (rw [exS]; rfl)
theorem exS_forK {T : Tab} {f : Phi} {sl : Slots} {st : Store}  : exS T f (.forK tg e b) sl st = (match evE T f e sl st with
    | .ok (.ref n) _ => match st[n]? with
      | some (.dic ks ds) => unlk n ks ds ((evI T f (.keysL e) sl (st.set n (.ldic ks ds))).then fun w st1 => forLoop w.ok tg (fun sl2 st2 => exSs T f b sl2 st2) w.xs sl st1)
      | _ => .bad
    | _ => .bad) := by first | (rw [exS]; done) | (rw [exS]; rfl)
theorem exS_lock {T : Tab} {f : Phi} {sl : Slots} {st : Store}  : exS T f (.lock e s) sl st = (match evE T f e sl st with
    | .ok (.ref n) _ => match st[n]? with
      | some (.dic ks ds) => unlk n ks ds (exS T f s sl (st.set n (.ldic ks ds)))
      | _ => .bad
    | _ => .bad) := by first | (rw [exS]; done) | (rw [exS]; rfl)
theorem exS_whl {T : Tab} {f : Phi} {sl : Slots} {st : Store}  : exS T f (.whl t b) sl st = (whlLoop (fun sl2 st2 => evT T f t sl2 st2) (fun sl2 st2 => exSs T f b sl2 st2) WF sl st) := by first | (rw [exS]; done) | (rw [exS]; rfl)
theorem exS_rais {T : Tab} {f : Phi} {sl : Slots} {st : Store}  : exS T f (.rais c es) sl st = ((evEs T f es sl st).then fun xs st1 => match xs with
    | [] => .exc c .non st1
    | [x] => .exc c x st1
    | _ => .bad) := by first | (rw [exS]; done) | (rw [exS]; rfl)
theorem exSs_nil {T : Tab} {f : Phi} {sl : Slots} {st : Store}  : exSs T f (.nil) sl st = (.next sl st) := by first | (rw [exSs]; done) | (rw [exSs]; rfl)
theorem exSs_cons {T : Tab} {f : Phi} {sl : Slots} {st : Store}  : exSs T f (.cons s ss) sl st = ((exS T f s sl st).bind fun sl1 st1 => exSs T f ss sl1 st1) := by first | (rw [exSs]; done) | (rw [exSs]; rfl)
theorem evAnd_cons {T : Tab} {f : Phi} {sl : Slots} {st : Store} {e e2 : DE} {es : DEs} : evAnd T f (.cons e (.cons e2 es)) sl st = ((evE T f e sl st).bind fun x st1 => match x with
    | .bl true => evAnd T f (.cons e2 es) sl st1
    | .bl false => .ok (.bl false) st1
    | _ => .bad) := by
  rw [evAnd]
  all_goals first | (intro h; cases h; done) | rfl
theorem evOr_cons {T : Tab} {f : Phi} {sl : Slots} {st : Store} {e e2 : DE} {es : DEs} : evOr T f (.cons e (.cons e2 es)) sl st = ((evE T f e sl st).bind fun x st1 => match x with
    | .bl false => evOr T f (.cons e2 es) sl st1
    | .bl true => .ok (.bl true) st1
    | _ => .bad) := by
  rw [evOr]
  all_goals first | (intro h; cases h; done) | rfl
def plD : DE → Bool
  | .band _ => false
  | .bor _ => false
  | .bnot _ => false
  | .cmp _ _ _ => false
  | .chn _ _ _ _ _ => false
  | _ => true
theorem evT_e {T : Tab} {f : Phi} {sl : Slots} {st : Store} {e : DE} (h : plD e = true) : evT T f e sl st = ((evE T f e sl st).bind fun x st1 => okO (tru st1 x) st1) := by
  cases e <;> first | (cases h; done) | (rw [evT] <;> intros <;> contradiction)
end TS
end

section
set_option Elab.async false
set_option linter.all false
set_option maxRecDepth 100000
set_option maxHeartbeats 1000000
namespace L2
open PySem PySem.Spec PyProof.Rows
theorem PE.imp {X : Cx} {e : Expr} {t t' : TE} (h : PE X e t) (i : ∀ σ H Q, t' σ H Q → t σ H Q) : PE X e t' := ⟨fun pins s σ H Q I x => h.run pins s σ H Q I (i σ H Q x)⟩
theorem PT.imp {X : Cx} {e : Expr} {t t' : TT} (h : PT X e t) (i : ∀ σ H Q, t' σ H Q → t σ H Q) : PT X e t' := ⟨fun pins s σ H Q I x => h.run pins s σ H Q I (i σ H Q x)⟩
theorem PW.imp {X : Cx} {e : Expr} {t t' : TT} (h : PW X e t) (i : ∀ σ H Q, t' σ H Q → t σ H Q) : PW X e t' := ⟨fun wh pins s σ H Q I x => h.run wh pins s σ H Q I (i σ H Q x)⟩
theorem PA.imp {X : Cx} {e : List Expr} {t t' : TA} (h : PA X e t) (i : ∀ σ H Q, t' σ H Q → t σ H Q) : PA X e t' := ⟨fun pos pins s σ H Q I x => h.run pos pins s σ H Q I (i σ H Q x)⟩
theorem PO.imp {X : Cx} {e : Option Expr} {t t' : TO} (h : PO X e t) (i : ∀ σ H Q, t' σ H Q → t σ H Q) : PO X e t' := ⟨fun pins s σ H Q I x => h.run pins s σ H Q I (i σ H Q x)⟩
theorem PK.imp {X : Cx} {e : List Keyword} {t t' : TA} (h : PK X e t) (i : ∀ σ H Q, t' σ H Q → t σ H Q) : PK X e t' := ⟨fun pos pins s σ H Q I x => h.run pos pins s σ H Q I (i σ H Q x)⟩
theorem PI.imp {X : Cx} {tg e : Expr} {t t' : TI} (h : PI X tg e t) (i : ∀ σ H Q, t' σ H Q → t σ H Q) : PI X tg e t' := ⟨fun pins s σ H Q I x => h.run pins s σ H Q I (i σ H Q x)⟩
end L2
namespace TS
open PySem PySem.Spec PyProof.Rows L2
def tG {α β : Type} (F : Fm) (E : XK) (R : Gh → Hp → α → β → Prop) (m : Slots → Store → Out α) : L2.St → Hp → (β → Hp → Prop) → Prop := fun σ H Q => ∃ g sl st, SlO F g H sl σ ∧ StR F g H st ∧ Post F E R g H (m sl st) Q
section
variable {F : Fm} {E : XK} {α β γ δ : Type} {R : Gh → Hp → α → β → Prop} {R2 : Gh → Hp → γ → δ → Prop} {σ : L2.St} {H : Hp}
theorem tG.of {m : Slots → Store → Out α} {Q : β → Hp → Prop} {g : Gh} {sl : Slots} {st : Store} (h1 : SlO F g H sl σ) (h2 : StR F g H st) (h3 : Post F E R g H (m sl st) Q) : tG F E R m σ H Q := ⟨g, sl, st, h1, h2, h3⟩
theorem tG.eq {m m' : Slots → Store → Out α} {Q : β → Hp → Prop} (e : ∀ sl st, m sl st = m' sl st) (h : tG F E R m σ H Q) : tG F E R m' σ H Q := by
  obtain ⟨g, sl, st, h1, h2, h3⟩ := h
  exact ⟨g, sl, st, h1, h2, by rw [← e]; exact h3⟩
theorem tG.bind {m0 : Slots → Store → Out γ} {m : Slots → Store → Out α} {k : Slots → α → Store → Out γ} {Q : δ → Hp → Prop} {Q1 : β → Hp → Prop} (eq : ∀ sl st, m0 sl st = (m sl st).bind (k sl)) (h : tG F E R2 m0 σ H Q)
    (c : ∀ g H sl a st b, SlO F g H sl σ → StR F g H st → R g H a b → Post F E R2 g H (k sl a st) Q → Q1 b H) : tG F E R m σ H Q1 := by
  obtain ⟨g, sl, st, h1, h2, h3⟩ := h
  rw [eq] at h3
  exact ⟨g, sl, st, h1, h2, Post.bind h3 fun a st1 g' H' b e s r p => c g' H' sl a st1 b (h1.ge e) s r p⟩
end
structure Wok (F : Fm) (g0 : Gh) (H0 : Hp) (w : Wk) (J : It) : Prop where
  go : ∀ g H st i x, Ge g0 H0 g H → StR F g H st → w.ok st = true → w.xs[i]? = some x → J.go i H ∧ ∀ v H', J.yld i H v H' → ∃ g', Ge g H g' H' ∧ StR F g' H' st ∧ Rp F g' H' x v
  stop : ∀ g H st, Ge g0 H0 g H → StR F g H st → w.ok st = true → J.stop w.xs.length H

theorem room_le {k l : Nat} {A : Around} (h : Room l A) (hk : k ≤ l) : Room k A := by
  obtain ⟨h1, h2, h3⟩ := h
  exact ⟨h1, by omega, by omega⟩
section
variable {X : Cx} {L : Ln} {N : List Str} {sc : Scope} {cf : Bool} {E : XK} {f : Phi} {lv : Nat}
abbrev tV (X : Cx) (L : Ln) (E : XK) (f : Phi) (d : DE) : TE := tG (FX X L) E (Rp (FX X L)) (evE L.T f d)
abbrev tVs (X : Cx) (L : Ln) (E : XK) (f : Phi) (ds : DEs) : TA := tG (FX X L) E (Rps (FX X L)) (evEs L.T f ds)
abbrev tBo (X : Cx) (L : Ln) (E : XK) (f : Phi) (d : DE) : TT := tG (FX X L) E Rb (evT L.T f d)
theorem pd_c {d : D} {c : Const} {j : Nat} {p : Pos} (h : cConst d c = true) : PE X (.Constant c j p) (tV X L E f (.c d)) := by
  unfold cConst at h
  split at h
  · exact pe_non.imp fun σ H Q ⟨g, sl, st, _, S, q⟩ => Post.ok (b := V.non) (by rw [evE_c] at q; exact q) S rp_non
  · rw [beq_iff_eq.mp h]
    exact pe_bl.imp fun σ H Q ⟨g, sl, st, _, S, q⟩ => Post.ok (b := V.bl _) (by rw [evE_c] at q; exact q) S rp_bl
  · rw [of_decide_eq_true h]
    exact pe_int.imp fun σ H Q ⟨g, sl, st, _, S, q⟩ => Post.ok (b := V.int _) (by rw [evE_c] at q; exact q) S rp_int
  · rw [of_decide_eq_true h]
    exact pe_str.imp fun σ H Q ⟨g, sl, st, _, S, q⟩ => Post.ok (b := V.str _) (by rw [evE_c] at q; exact q) S rp_str
  · cases h
theorem pd_v (G : GX X L N sc cf E f lv) {i : Nat} {x : Str} {p : Pos} (h1 : N[i]? = some x) (h2 : visB sc x = true) (h3 : dbg x = false) : PE X (.Name x p) (tV X L E f (.v i)) := by
  obtain ⟨d1, d2⟩ := dbg_ok h3
  refine (pe_var (by rw [G.nN]; exact h1) (visB_ok G.hs h2) d1 d2).imp fun σ H Q ⟨g, sl, st, hs, S, q⟩ => ?_
  rw [evE_v] at q
  split at q
  · rename_i d e
    obtain ⟨v, e1, r⟩ := hs.2 i d e
    exact ⟨v, e1, Post.ok q S r⟩
  · exact q.elim
theorem pd_g (G : GX X L N sc cf E f lv) {i : Nat} {x : Str} {p : Pos} (h1 : x = L.nm.gl i) (h2 : glB sc x = true) (h3 : dbg x = false) : PE X (.Name x p) (tV X L E f (.g i)) := by
  subst h1
  obtain ⟨d1, d2⟩ := dbg_ok h3
  cases e : L.T.gl i with
  | none =>
    exact ⟨fun pins s σ H Q I ⟨g, sl, st, _, _, q⟩ => by
      rw [evE_g] at q
      obtain ⟨d, z, _⟩ := Post.okI q
      rw [e] at z; cases z⟩
  | some d =>
    obtain ⟨v, u, h4, h5, h6⟩ := G.lk.glo i d e
    refine (pe_glob (glB_ok G.hs h2) h4 h5 d1).imp fun σ H Q ⟨g, sl, st, hs, S, q⟩ => ?_
    rw [evE_g] at q
    obtain ⟨d', z, q⟩ := Post.okI q
    rw [e] at z; cases z
    exact Post.ok q S (h6 g H)
theorem pd_bin {o : BOp} {a b : DE} {x y : Expr} {p : Pos} (ha : PE X x (tV X L E f a)) (hb : PE X y (tV X L E f b)) : PE X (.BinOp x (opO o) y p) (tV X L E f (.bin o a b)) := by
  refine (pe_op (op_bin o) ha hb).imp fun σ H Q h => ?_
  refine tG.bind (fun _ _ => evE_bin) h fun g1 H1 sl x st1 u hs1 S1 rx p1 => ?_
  refine tG.of hs1 S1 (Post.bind p1 fun y st2 g2 H2 v e S2 ry p2 => ?_)
  obtain ⟨d, ed, q⟩ := Post.okI p2
  exact bin_ok S2 (Rp.ge e _ _ rx) ry ed q
theorem pd_neg {a : DE} {x : Expr} {p : Pos} (ha : PE X x (tV X L E f a)) : PE X (.UnaryOp .USub x p) (tV X L E f (.neg a)) := by
  refine (pe_un un_neg ha).imp fun σ H Q h => ?_
  refine tG.bind (fun _ _ => evE_neg) h fun g1 H1 sl x st1 u hs1 S1 rx p1 => ?_
  split at p1
  · exact ⟨_, rx.int_of, Post.ok p1 S1 rp_int⟩
  · exact p1.elim
theorem pd_cmp (G : GX X L N sc cf E f lv) {o : COp} {a b : DE} {x y : Expr} {p : Pos} (ha : PE X x (tV X L E f a)) (hb : PE X y (tV X L E f b)) (hy : nset y = true) : PE X (.Compare x [coO o] [y] p) (tV X L E f (.cmp o a b)) := by
  have hu := G.room.un
  refine (pe_cmpR (op_cmp (by omega) o) ha hb (nset_in hy)).imp fun σ H Q h => ?_
  refine tG.bind (fun _ _ => evE_cmp) h fun g1 H1 sl x st1 u hs1 S1 rx p1 => ?_
  refine tG.of hs1 S1 (Post.bind p1 fun y st2 g2 H2 v e S2 ry p2 => ?_)
  obtain ⟨d, ed, q⟩ := Post.okB p2
  exact cmp_ok S2 (Rp.ge e _ _ rx) ry ed q
theorem pt_cmpD (G : GX X L N sc cf E f lv) {o : COp} {a b : DE} {x y : Expr} {p : Pos} (ha : PE X x (tV X L E f a)) (hb : PE X y (tV X L E f b)) (hy : nset y = true) : PT X (.Compare x [coO o] [y] p) (tBo X L E f (.cmp o a b)) := by
  have hu := G.room.un
  refine (pt_cmpR (op_cmp (by omega) o) ha hb (nset_in hy)).imp fun σ H Q h => ?_
  refine tG.bind (fun _ _ => evT_cmp) h fun g1 H1 sl x st1 u hs1 S1 rx p1 => ?_
  refine tG.of hs1 S1 (Post.bind p1 fun y st2 g2 H2 v e S2 ry p2 => ?_)
  obtain ⟨d, ed, q⟩ := Post.okI p2
  exact cmp_ok (Q := fun x H' => ∃ k, x = .bl k ∧ Q k H') S2 (Rp.ge e _ _ rx) ry ed fun g' H' v e' S' r => ⟨d, r.bl_of, q g' H' d e' S' rfl⟩
theorem pd_chn (G : GX X L N sc cf E f lv) {o o' : COp} {a b c : DE} {x y z : Expr} {p : Pos} (ha : PE X x (tV X L E f a)) (hb : PE X y (tV X L E f b)) (hc : PE X z (tV X L E f c)) (hy : nset z = true) :
    PE X (.Compare x [coO o, coO o'] [y, z] p) (tV X L E f (.chn o o' a b c)) := by
  have hu := G.room.un
  refine (pe_chain (op_cmp (by omega) o) (op_cmp (by omega) o') ha hb hc (nset_last hy)).imp fun σ H Q h => ?_
  refine tG.bind (fun _ _ => evE_chn) h fun g1 H1 sl x st1 u hs1 S1 rx p1 => ?_
  refine tG.of hs1 S1 (Post.bind p1 fun y st2 g2 H2 v e S2 ry p2 => ?_)
  obtain ⟨d, ed, q⟩ := Post.okB p2
  refine cmp_ok S2 (Rp.ge e _ _ rx) ry ed fun g3 H3 w e3 S3 r3 => ⟨d, r3.bl_of, ?_⟩
  cases d with
  | false => exact Post.ok (Post.from e3 q) S3 rp_bl
  | true =>
    refine tG.of ((hs1.ge e).ge e3) S3 (Post.bind (Post.from e3 q) fun z st4 g4 H4 v4 e4 S4 r4 p4 => ?_)
    obtain ⟨d2, ed2, q2⟩ := Post.okB p4
    exact cmp_ok S4 (Rp.ge e4 _ _ (Rp.ge e3 _ _ ry)) r4 ed2 q2
theorem pt_chnD (G : GX X L N sc cf E f lv) {o o' : COp} {a b c : DE} {x y z : Expr} {p : Pos} (ha : PE X x (tV X L E f a)) (hb : PE X y (tV X L E f b)) (hc : PE X z (tV X L E f c)) (hy : nset z = true) :
    PT X (.Compare x [coO o, coO o'] [y, z] p) (tBo X L E f (.chn o o' a b c)) := by
  have hu := G.room.un
  refine (pt_chain (op_cmp (by omega) o) (op_cmp (by omega) o') ha hb hc (nset_last hy)).imp fun σ H Q h => ?_
  refine tG.bind (fun _ _ => evT_chn) h fun g1 H1 sl x st1 u hs1 S1 rx p1 => ?_
  refine tG.of hs1 S1 (Post.bind p1 fun y st2 g2 H2 v e S2 ry p2 => ?_)
  obtain ⟨d, ed, q⟩ := Post.okB p2
  refine cmp_ok S2 (Rp.ge e _ _ rx) ry ed fun g3 H3 w e3 S3 r3 => ⟨d, r3.bl_of, ?_⟩
  cases d with
  | false => exact ⟨false, rfl, Post.ok (Post.from e3 q) S3 rfl⟩
  | true =>
    refine tG.of ((hs1.ge e).ge e3) S3 (Post.bind (Post.from e3 q) fun z st4 g4 H4 v4 e4 S4 r4 p4 => ?_)
    obtain ⟨d2, ed2, q2⟩ := Post.okI p4
    exact cmp_ok (Q := fun x H' => ∃ k, x = .bl k ∧ Q k H') S4 (Rp.ge e4 _ _ (Rp.ge e3 _ _ ry)) r4 ed2 fun g' H' v e' S' r => ⟨d2, r.bl_of, q2 g' H' d2 e' S' rfl⟩
abbrev tAn (X : Cx) (L : Ln) (E : XK) (f : Phi) (ds : DEs) : TE := tG (FX X L) E (Rp (FX X L)) (evAnd L.T f ds)
abbrev tOs (X : Cx) (L : Ln) (E : XK) (f : Phi) (ds : DEs) : TE := tG (FX X L) E (Rp (FX X L)) (evOr L.T f ds)
abbrev tTs (X : Cx) (L : Ln) (E : XK) (f : Phi) (ds : DEs) : TT := tG (FX X L) E Rb (evTs L.T f ds)
abbrev tTo (X : Cx) (L : Ln) (E : XK) (f : Phi) (ds : DEs) : TT := tG (FX X L) E Rb (evTo L.T f ds)
theorem pd_and1 {d : DE} {e : Expr} {p : Pos} (h : PE X e (tV X L E f d)) : PE X (.BoolOp .And [e] p) (tAn X L E f (.cons d .nil)) := (pe_one h).imp fun _ _ _ q => tG.eq (fun _ _ => evAnd_cons1) q
theorem pd_or1 {d : DE} {e : Expr} {p : Pos} (h : PE X e (tV X L E f d)) : PE X (.BoolOp .Or [e] p) (tOs X L E f (.cons d .nil)) := (pe_one h).imp fun _ _ _ q => tG.eq (fun _ _ => evOr_cons1) q
theorem pd_and {d d2 : DE} {ds : DEs} {e e2 : Expr} {es : List Expr} {p : Pos} (h : PE X e (tV X L E f d)) (hs : PE X (.BoolOp .And (e2 :: es) p) (tAn X L E f (.cons d2 ds))) : PE X (.BoolOp .And (e :: e2 :: es) p) (tAn X L E f (.cons d (.cons d2 ds))) := by
  refine (pe_and h hs).imp fun σ H Q h => ?_
  refine tG.bind (fun _ _ => evAnd_cons) h fun g1 H1 sl x st1 u hs1 S1 rx p1 => ?_
  split at p1
  · exact ⟨true, rx.bl_of, tG.of hs1 S1 p1⟩
  · exact ⟨false, rx.bl_of, Post.ok p1 S1 rp_bl⟩
  · exact p1.elim
theorem pd_or {d d2 : DE} {ds : DEs} {e e2 : Expr} {es : List Expr} {p : Pos} (h : PE X e (tV X L E f d)) (hs : PE X (.BoolOp .Or (e2 :: es) p) (tOs X L E f (.cons d2 ds))) : PE X (.BoolOp .Or (e :: e2 :: es) p) (tOs X L E f (.cons d (.cons d2 ds))) := by
  refine (pe_or h hs).imp fun σ H Q h => ?_
  refine tG.bind (fun _ _ => evOr_cons) h fun g1 H1 sl x st1 u hs1 S1 rx p1 => ?_
  split at p1
  · exact ⟨false, rx.bl_of, tG.of hs1 S1 p1⟩
  · exact ⟨true, rx.bl_of, Post.ok p1 S1 rp_bl⟩
  · exact p1.elim
theorem pd_ts1 {d : DE} {e : Expr} {p : Pos} (h : PT X e (tBo X L E f d)) : PW X (.BoolOp .And [e] p) (tTs X L E f (.cons d .nil)) := by
  refine (pw_and1 h).imp fun σ H Q q => tG.bind (fun _ _ => evTs_cons) q fun g1 H1 sl x st1 u hs1 S1 rx p1 => ?_
  cases rx
  cases x with
  | true => exact Post.ok (by rw [if_pos rfl, evTs_nil] at p1; exact p1) S1 rfl
  | false => exact Post.ok (by rw [if_neg (by simp)] at p1; exact p1) S1 rfl
theorem pd_to1 {d : DE} {e : Expr} {p : Pos} (h : PT X e (tBo X L E f d)) : PW X (.BoolOp .Or [e] p) (tTo X L E f (.cons d .nil)) := by
  refine (pw_or1 h).imp fun σ H Q q => tG.bind (fun _ _ => evTo_cons) q fun g1 H1 sl x st1 u hs1 S1 rx p1 => ?_
  cases rx
  cases x with
  | true => exact Post.ok (by rw [if_pos rfl] at p1; exact p1) S1 rfl
  | false => exact Post.ok (by rw [if_neg (by simp), evTo_nil] at p1; exact p1) S1 rfl
theorem pd_ts {d d2 : DE} {ds : DEs} {e e2 : Expr} {es : List Expr} {p : Pos} (h : PT X e (tBo X L E f d)) (hs : PW X (.BoolOp .And (e2 :: es) p) (tTs X L E f (.cons d2 ds))) : PW X (.BoolOp .And (e :: e2 :: es) p) (tTs X L E f (.cons d (.cons d2 ds))) := by
  refine (pw_and h hs).imp fun σ H Q q => tG.bind (fun _ _ => evTs_cons) q fun g1 H1 sl x st1 u hs1 S1 rx p1 => ?_
  cases rx
  cases x with
  | true => rw [if_pos rfl] at p1; exact tG.of hs1 S1 p1
  | false => exact Post.ok (by rw [if_neg (by simp)] at p1; exact p1) S1 rfl
theorem pd_to {d d2 : DE} {ds : DEs} {e e2 : Expr} {es : List Expr} {p : Pos} (h : PT X e (tBo X L E f d)) (hs : PW X (.BoolOp .Or (e2 :: es) p) (tTo X L E f (.cons d2 ds))) : PW X (.BoolOp .Or (e :: e2 :: es) p) (tTo X L E f (.cons d (.cons d2 ds))) := by
  refine (pw_or h hs).imp fun σ H Q q => tG.bind (fun _ _ => evTo_cons) q fun g1 H1 sl x st1 u hs1 S1 rx p1 => ?_
  cases rx
  cases x with
  | false => rw [if_neg (by simp)] at p1; exact tG.of hs1 S1 p1
  | true => exact Post.ok (by rw [if_pos rfl] at p1; exact p1) S1 rfl
theorem pd_bnot {d : DE} {e : Expr} {p : Pos} (h : PE X e (tV X L E f d)) : PE X (.UnaryOp .Not e p) (tV X L E f (.bnot d)) := by
  refine (pe_notT h).imp fun σ H Q q => tG.bind (fun _ _ => evE_bnot) q fun g1 H1 sl x st1 u hs1 S1 rx p1 => ?_
  obtain ⟨k, ek, p2⟩ := Post.okB p1
  exact ⟨k, tru_D S1 rx ek, Post.ok p2 S1 rp_bl⟩
theorem pt_bnot {d : DE} {e : Expr} {p : Pos} (h : PT X e (tBo X L E f d)) : PT X (.UnaryOp .Not e p) (tBo X L E f (.bnot d)) := by
  refine (pt_not h).imp fun σ H Q q => tG.bind (fun _ _ => evT_bnot) q fun g1 H1 sl x st1 u hs1 S1 rx p1 => ?_
  cases rx
  exact Post.ok p1 S1 rfl
theorem pt_plain {d : DE} {e : Expr} (h : PE X e (tV X L E f d)) (h1 : plT e = true) (h2 : plD d = true) : PT X e (tBo X L E f d) := by
  refine (pt_truth h fun w => plT_ok h1 w).imp fun σ H Q q => tG.bind (fun _ _ => evT_e h2) q fun g1 H1 sl x st1 u hs1 S1 rx p1 => ?_
  obtain ⟨k, ek, p2⟩ := Post.okI p1
  exact ⟨k, tru_D S1 rx ek, Post.ok p2 S1 rfl⟩
theorem pd_ite {t a b : DE} {c x y : Expr} {p : Pos} (hc : PT X c (tBo X L E f t)) (ha : PE X x (tV X L E f a)) (hb : PE X y (tV X L E f b)) : PE X (.IfExp c x y p) (tV X L E f (.ite t a b)) := by
  refine (pe_ifExp hc ha hb).imp fun σ H Q q => tG.bind (fun _ _ => evE_ite) q fun g1 H1 sl x st1 u hs1 S1 rx p1 => ?_
  cases rx
  cases x with
  | true => rw [if_pos rfl] at p1; exact tG.of hs1 S1 p1
  | false => rw [if_neg (by simp)] at p1; exact tG.of hs1 S1 p1
theorem pd_nil : PA X [] (tVs X L E f .nil) := pa_nil.imp fun σ H Q ⟨g, sl, st, _, S, q⟩ => Post.ok (by rw [evEs_nil] at q; exact q) S Rps.nil
theorem pd_cons {d : DE} {ds : DEs} {e : Expr} {es : List Expr} (h : PE X e (tV X L E f d)) (hs : PA X es (tVs X L E f ds)) (hn : nst e = true) : PA X (e :: es) (tVs X L E f (.cons d ds)) := by
  refine (pa_cons h hs (star_one hn)).imp fun σ H Q q => tG.bind (fun _ _ => evEs_cons) q fun g1 H1 sl x st1 u hs1 S1 rx p1 => ?_
  exact tG.of hs1 S1 (Post.bind p1 fun y st2 g2 H2 v e S2 ry p2 => Post.ok p2 S2 (.cons (Rp.ge e _ _ rx) ry))
theorem line_le {n : Nat} (h : n ≤ 1000) : n ≤ sizeLine := by rw [sizeLine_eq]; omega
end
end TS
end

section
set_option Elab.async false
set_option linter.all false
set_option maxRecDepth 100000
set_option maxHeartbeats 1000000
set_option autoImplicit false
namespace TS
open PySem PySem.Spec PyProof.Rows L2
section
variable {X : Cx} {L : Ln} {N : List Str} {sc : Scope} {cf : Bool} {E : XK} {f : Phi} {lv : Nat}
def dLen : DEs → Nat
  | .nil => 0
  | .cons _ ds => dLen ds + 1
theorem evEs_len {T : Tab} {f : Phi} : ∀ {ds : DEs} {sl : Slots} {st : Store} {xs : List D} {st1 : Store}, evEs T f ds sl st = .ok xs st1 → xs.length = dLen ds
  | .nil, sl, st, xs, st1, h => by rw [evEs_nil] at h; cases h; rfl
  | .cons d ds, sl, st, xs, st1, h => by
    rw [evEs_cons] at h
    cases e : evE T f d sl st with
    | bad => rw [e] at h; cases h
    | exc c a s => rw [e] at h; cases h
    | ok x s =>
      rw [e] at h
      replace h : ((evEs T f ds sl s).bind fun xs st2 => .ok (x :: xs) st2) = .ok xs st1 := h
      cases e2 : evEs T f ds sl s with
      | bad => rw [e2] at h; cases h
      | exc c a s => rw [e2] at h; cases h
      | ok ys s2 =>
        rw [e2] at h
        replace h : Out.ok (x :: ys) s2 = .ok xs st1 := h
        cases h
        rw [List.length_cons, evEs_len e2, dLen]
theorem cEs_len {L : Ln} {N : List Str} {t : Bool} : ∀ {ds : DEs} {sc : Scope} {es : List Expr}, cEs L N t ds sc es = true → dLen ds = es.length
  | .nil, sc, es, h => by
    unfold cEs at h
    cases es with
    | nil => rfl
    | cons _ _ => cases h
  | .cons d ds, sc, es, h => by
    cases es with
    | nil => unfold cEs at h; cases h
    | cons e es =>
      unfold cEs at h
      have h := (Bool.and_eq_true_iff.mp (Bool.and_eq_true_iff.mp h).2).2
      rw [dLen, cEs_len h, List.length_cons]
theorem pd_tup {ds : DEs} {es : List Expr} {c} {p : Pos} (hs : PA X es (tVs X L E f ds)) (hl : dLen ds ≤ 1000) : PE X (.Tuple es c p) (tV X L E f (.tup ds)) := by
  refine (pe_tup hs).imp fun σ H Q ⟨g, sl, st, h1, h2, q⟩ => ?_
  rw [evE_tup] at q
  cases e : evEs L.T f ds sl st with
  | bad => rw [e] at q; exact q.elim
  | exc c a s => rw [e] at q; exact ⟨g, sl, st, h1, h2, by rw [e]; exact q⟩
  | ok xs s =>
    rw [e] at q
    refine ⟨g, sl, st, h1, h2, ?_⟩
    rw [e]
    intro g' H' b k S r
    refine ⟨?_, Wish.tup (fun g2 H2 v k2 S2 r2 => q g2 H2 v (k.trans k2) S2 r2) S r⟩
    rw [← r.len, evEs_len e]
    exact line_le hl
theorem pd_lst {ds : DEs} {es : List Expr} {p : Pos} (hs : PA X es (tVs X L E f ds)) (hl : dLen ds ≤ 1000) : PE X (.List es p) (tV X L E f (.lst ds)) := by
  refine (pe_lst hs).imp fun σ H Q ⟨g, sl, st, h1, h2, q⟩ => ?_
  rw [evE_lst] at q
  cases e : evEs L.T f ds sl st with
  | bad => rw [e] at q; exact q.elim
  | exc c a s => rw [e] at q; exact ⟨g, sl, st, h1, h2, by rw [e]; exact q⟩
  | ok xs s =>
    rw [e] at q
    refine ⟨g, sl, st, h1, h2, ?_⟩
    rw [e]
    intro g' H' b k S r
    refine ⟨?_, Wish.lst (fun g2 H2 v k2 S2 r2 => q g2 H2 v (k.trans k2) S2 r2) S r⟩
    rw [← r.len, evEs_len e]
    exact line_le hl
theorem pd_shlst {ds : DEs} {es : List Expr} {p : Pos} (hs : PA X es (tVs X L E f ds)) (hl : dLen ds ≤ 1000) : PE X (.List es p) (tV X L E f (.sh (.lst ds))) := by
  refine (pe_lst hs).imp fun σ H Q ⟨g, sl, st, h1, h2, q⟩ => ?_
  rw [evE_sh, evE_lst] at q
  cases e : evEs L.T f ds sl st with
  | bad => rw [e] at q; exact q.elim
  | exc c a s => rw [e] at q; exact ⟨g, sl, st, h1, h2, by rw [e]; exact q⟩
  | ok xs s =>
    rw [e] at q
    refine ⟨g, sl, st, h1, h2, ?_⟩
    rw [e]
    intro g' H' b k S r
    refine ⟨?_, sh_lst S r (Post.from k q)⟩
    rw [← r.len, evEs_len e]
    exact line_le hl
theorem pd_ix (G : GX X L N sc cf E f lv) {a b : DE} {x y : Expr} {p : Pos} (ha : PE X x (tV X L E f a)) (hb : PE X y (tV X L E f b)) (hy : nsl y = true) : PE X (.Subscript x y p) (tV X L E f (.ix a b)) := by
  have hu := G.room.un
  refine (pe_ix (ixAny (by omega)) ha hb (nsl_ok hy)).imp fun σ H Q h => ?_
  refine tG.bind (fun _ _ => evE_ix) h fun g1 H1 sl x st1 u hs1 S1 rx p1 => ?_
  refine tG.of hs1 S1 (Post.bind p1 fun y st2 g2 H2 v e S2 ry p2 => ?_)
  obtain ⟨d, ed, q⟩ := Post.okI p2
  exact ix_ok S2 (Rp.ge e _ _ rx) ry ed q
abbrev Ri : Gh → Hp → Option Int → Option Int → Prop := fun _ _ a b => a = b
def evO (T : Tab) (f : Phi) (ds : DEs) (sl : Slots) (st : Store) : Out (Option Int) := (evEs T f ds sl st).bind fun l st2 => okO (optI l) st2
abbrev tOp' (X : Cx) (L : Ln) (E : XK) (f : Phi) (ds : DEs) : TO := tG (FX X L) E Ri (evO L.T f ds)
theorem pd_o0 : PO X none (tOp' X L E f .nil) := po_none.imp fun σ H Q ⟨g, sl, st, _, S, q⟩ => by
  unfold evO at q
  rw [evEs_nil] at q
  exact Post.ok (a := (none : Option Int)) q S rfl
theorem pd_o1 {d : DE} {e : Expr} (h : PE X e (tV X L E f d)) : PO X (some e) (tOp' X L E f (.cons d .nil)) := by
  refine (po_some h).imp fun σ H Q q => tG.bind (k := fun sl x st1 => okO (optI [x]) st1) (fun sl st => ?_) q fun g1 H1 sl x st1 u hs1 S1 rx p1 => ?_
  · unfold evO
    rw [evEs_cons]
    cases evE L.T f d sl st with
    | bad => rfl
    | exc c a s => rfl
    | ok x s => show Out.bind (Out.bind (evEs L.T f .nil sl s) _) _ = _; rw [evEs_nil]; rfl
  · obtain ⟨o, eo, p2⟩ := Post.okI p1
    unfold optI at eo
    split at eo
    · rename_i z; cases z
    · rename_i i z
      cases z
      cases eo
      exact ⟨i, rx.int_of, Post.ok p2 S1 rfl⟩
    · cases eo
theorem evE_sl' {T : Tab} {a : DE} {l h : DEs} {sl : Slots} {st : Store} : evE T f (.sl a l h) sl st = ((evE T f a sl st).bind fun x st1 => (evO T f l sl st1).bind fun l st2 => (evO T f h sl st2).bind fun h st3 => okO (slV st3 x l h) st3) := by
  rw [evE_sl]
  unfold evO
  cases evE T f a sl st with
  | bad => rfl
  | exc c a s => rfl
  | ok x s =>
    show Out.bind (evEs T f l sl s) _ = Out.bind (Out.bind (evEs T f l sl s) _) _
    cases evEs T f l sl s with
    | bad => rfl
    | exc c a s => rfl
    | ok l s =>
      show Out.bind (okO (optI l) s) _ = Out.bind (okO (optI l) s) _
      cases optI l with
      | none => rfl
      | some o =>
        show Out.bind (evEs T f h sl s) _ = Out.bind (Out.bind (evEs T f h sl s) _) _
        cases evEs T f h sl s with
        | bad => rfl
        | exc c a s => rfl
        | ok l s => rfl
theorem pd_sl {a : DE} {l h : DEs} {x : Expr} {l' h' : Option Expr} {p p2 : Pos} (ha : PE X x (tV X L E f a)) (hl : PO X l' (tOp' X L E f l)) (hh : PO X h' (tOp' X L E f h)) : PE X (.Subscript x (.Slice l' h' none p2) p) (tV X L E f (.sl a l h)) := by
  refine (pe_slice sl_any ha hl hh).imp fun σ H Q q => ?_
  refine tG.bind (fun _ _ => evE_sl') q fun g1 H1 sl x st1 u hs1 S1 rx p1 => ?_
  refine tG.of hs1 S1 (Post.bind p1 fun y st2 g2 H2 v e S2 ry p2 => ?_)
  cases ry
  refine tG.of (hs1.ge e) S2 (Post.bind p2 fun z st3 g3 H3 v3 e3 S3 rz p3 => ?_)
  cases rz
  obtain ⟨d, ed, q⟩ := Post.okI p3
  exact sl_ok S3 (Rp.ge e3 _ _ (Rp.ge e _ _ rx)) ed q
theorem tVs_nil {ds : DEs} {σ : L2.St} {H : Hp} {Q : List V → Hp → Prop} (h : dLen ds = ([] : List Expr).length) (q : tVs X L E f ds σ H Q) : Q [] H := by
  obtain ⟨g, sl, st, _, S, q⟩ := q
  cases ds with
  | nil => exact Post.ok (by rw [evEs_nil] at q; exact q) S Rps.nil
  | cons d ds => cases h
theorem fn_at (G : GX X L N sc cf E f lv) {F : Fm} {g : Gh} {H : Hp} {i : Nat} {xs : List D} {st : Store} {Q : VK} (h : Post F E (Rp F) g H (f i xs st) Q) : ∃ dd, L.T.fn i = some dd ∧ xs.length = dd.np :=
  G.lk.len i xs st fun e => by rw [e] at h; exact h
theorem pd_call (G : GX X L N sc cf E f lv) {i : Nat} {x : Str} {ds : DEs} {df : List D} {es : List Expr} {p pos : Pos} (hx : x = L.nm.fn i) (hg : glB sc x = true) (hd : dbg x = false) (hi : L.isG i = true) (hf : (L.T.fn i).isSome = true)
    (hb : (df = [] ∧ L.full i = true) ∨ (df ≠ [] ∧ df = L.T.dfl i)) (hs : PA X es (tVs X L E f ds)) (hn : nsts es = true) (hlen : dLen ds = es.length) : PE X (.Call (.Name x p) es [] pos) (tV X L E f (.call i ds df)) := by
  subst hx
  obtain ⟨dd, ed⟩ := Option.isSome_iff_exists.mp hf
  obtain ⟨hm, hk⟩ := G.lk.gfn i dd ed hi
  obtain ⟨k1, k2⟩ := G.lk.ok i dd ed
  obtain ⟨d1, d2⟩ := dbg_ok hd
  have hB : ∃ dvs dus, Binds X.K (L.fd i) (L.ps i) dus ∧ Vals dvs dus ∧ ∀ g H, Rps (FX X L) g H df dvs := by
    rcases hb with ⟨rfl, hb⟩ | ⟨h0, hb⟩
    · exact ⟨[], [], G.lk.bnd i dd ed hb, .nil, fun _ _ => .nil⟩
    · rw [hb] at h0 ⊢
      exact G.lk.bdf i dd ed h0
  obtain ⟨dvs, dus, b1, b2, b3⟩ := hB
  have key : PE X (.Call (.Name (L.nm.fn i) p) es [] pos) (tCall (spD (FX X L) dd.np (f i)) dvs E (tVs X L E f ds)) := by
    cases es with
    | nil => exact (pe_call0 k2 G.room (glB_ok G.hs hg) hm hk b1 b2 G.ps d1).imp fun σ H Q q => tVs_nil hlen q
    | cons e es =>
      have hn := Bool.and_eq_true_iff.mp (show (nst e && nsts es) = true from hn)
      exact pe_call k2 G.room (glB_ok G.hs hg) hm hk b1 b2 G.ps hs d1 (star_one hn.1) (star_any hn.2)
  refine key.imp fun σ H Q q => tG.bind (fun _ _ => evE_call) q fun g1 H1 sl xs st1 us hs1 S1 rx p1 => ?_
  have rr := rx.append (b3 g1 H1)
  obtain ⟨dd', e', hl⟩ := fn_at G p1
  rw [ed] at e'; cases e'
  exact ⟨by rw [← rr.len]; exact hl, g1, xs ++ df, st1, S1, rr, p1⟩
end
end TS
end

section
set_option Elab.async false
set_option linter.all false
set_option maxRecDepth 100000
set_option maxHeartbeats 1000000
set_option autoImplicit false
namespace TS
open PySem PySem.Spec PyProof.Rows L2
section
variable {X : Cx} {L : Ln} {N : List Str} {sc : Scope} {cf : Bool} {E : XK} {f : Phi} {lv : Nat}
def kwB : List Keyword → List Str → Bool
  | [], [] => true
  | ⟨some n, _, _⟩ :: kws, k :: ks => decide (n = k) && kwB kws ks
  | _, _ => false
theorem kw_all {env : Env} {pos : Pos} : ∀ {kws : List Keyword} {ks : List Str}, kwB kws ks = true → (backToKw pos (keywordEach kws env)).all (·.1.isSome) = true ∧ (backToKw pos (keywordEach kws env)).filterMap (·.1) = ks ∧ (backToKw pos (keywordEach kws env)).any (·.1.isNone) = false
  | [], [], _ => ⟨rfl, rfl, rfl⟩
  | ⟨some n, e, q⟩ :: kws, k :: ks, h => by
    have h := Bool.and_eq_true_iff.mp (show (decide (n = k) && kwB kws ks) = true from h)
    obtain ⟨h1, h2, h3⟩ := kw_all (env := env) (pos := pos) h.2
    refine ⟨?_, ?_, ?_⟩
    · show (true && (backToKw pos (keywordEach kws env)).all (·.1.isSome)) = true
      rw [h1]; rfl
    · show n :: (backToKw pos (keywordEach kws env)).filterMap (·.1) = _
      rw [h2, of_decide_eq_true h.1]
    · show (false || (backToKw pos (keywordEach kws env)).any (·.1.isNone)) = false
      rw [h3]; rfl
  | ⟨none, _, _⟩ :: _, _ :: _, h => by cases h
  | ⟨none, _, _⟩ :: _, [], h => by cases h
  | ⟨some _, _, _⟩ :: _, [], h => by cases h
  | [], _ :: _, h => by cases h
theorem pd_callk (G : GX X L N sc cf E f lv) {i : Nat} {x : Str} {ds kds : DEs} {ks : List Str} {es : List Expr} {kws : List Keyword} {p pos : Pos} (hx : x = L.nm.fn i) (hg : glB sc x = true) (hd : dbg x = false) (hi : L.isG i = true) (hf : (L.T.fn i).isSome = true)
    (hk : ks = L.kw i) (hk0 : ks ≠ []) (hs : PA X es (tVs X L E f ds)) (hks : PK X kws (tVs X L E f kds)) (hn : nsts es = true) (h0 : es ≠ []) (hkw : kwB kws ks = true) (hkl : dLen kds = ks.length) : PE X (.Call (.Name x p) es kws pos) (tV X L E f (.callk i ds ks kds)) := by
  subst hx
  subst hk
  obtain ⟨dd, ed⟩ := Option.isSome_iff_exists.mp hf
  obtain ⟨hm, hkp⟩ := G.lk.gfn i dd ed hi
  obtain ⟨k1, k2⟩ := G.lk.ok i dd ed
  obtain ⟨d1, d2⟩ := dbg_ok hd
  cases es with
  | nil => exact absurd rfl h0
  | cons e es =>
    have hn := Bool.and_eq_true_iff.mp (show (nst e && nsts es) = true from hn)
    obtain ⟨w1, w2, w3⟩ := kw_all (env := X.env) (pos := pos) hkw
    refine (pe_callK k2 G.room (glB_ok G.hs hg) hm hkp (G.lk.kbd i dd ed hk0) G.ps hs hks w1 w2 d1 (star_one hn.1) ?_).imp fun σ H Q q => tG.bind (fun _ _ => evE_callk) q fun g1 H1 sl xs st1 us hs1 S1 rx p1 => ?_
    · rw [star_one hn.1]
      show ((false || (backTo pos (starEach es X.env)).any (·.1)) || _) = false
      rw [star_any hn.2, w3]; rfl
    · refine tG.of hs1 S1 (Post.bindE p1 fun ys st2 g2 H2 vs eq e S2 ry p2 => ?_)
      have rr := (Rps.ge e _ _ rx).append ry
      obtain ⟨dd', e', hl⟩ := fn_at G p2
      rw [ed] at e'; cases e'
      show spD _ _ _ (if vs.length = _ then _ else _) _ _ _
      rw [if_pos (by rw [← ry.len, evEs_len eq, hkl])]
      exact ⟨by rw [← rr.len]; exact hl, g2, xs ++ ys, st2, S2, rr, p2⟩
theorem bfU_or (b : Bf) : (∃ id, bfU b = .builtin id) ∨ ∃ t, bfU b = .type t := by cases b <;> first | exact .inl ⟨_, rfl⟩ | exact .inr ⟨_, rfl⟩
theorem pd_bf (G : GX X L N sc cf E f lv) {b : Bf} {x : Str} {ds : DEs} {es : List Expr} {p pos : Pos} (hx : x = bfN b) (hg : glB sc x = true) (h0 : es ≠ []) (hs : PA X es (tVs X L E f ds)) (hn : nsts es = true) :
    PE X (.Call (.Name x p) es [] pos) (tCB (rBf X.K b) (tVs X L E f ds)) := by
  subst hx
  cases es with
  | nil => exact absurd rfl h0
  | cons e es =>
    have hn := Bool.and_eq_true_iff.mp (show (nst e && nsts es) = true from hn)
    have hm := G.lk.free _ (bfN_in b)
    obtain ⟨p1, p2⟩ := bfN_plain b
    have hc := call_bf (X := X) G.calm b
    have hv := bfN_boot b
    rcases bfU_or b with ⟨id, z⟩ | ⟨id, z⟩
    · rw [z] at hc hv
      exact pe_callB hc (glB_ok G.hs hg) hm hv hs p1 p2 (star_one hn.1) (star_any hn.2)
    · rw [z] at hc hv
      exact pe_callTy hc (glB_ok G.hs hg) hm hv hs p1 p2 (star_one hn.1) (star_any hn.2)
theorem pd_bfD (G : GX X L N sc cf E f lv) {b : Bf} {x : Str} {ds : DEs} {es : List Expr} {p pos : Pos} (hx : x = bfN b) (hg : glB sc x = true) (h0 : es ≠ []) (hs : PA X es (tVs X L E f ds)) (hn : nsts es = true) :
    PE X (.Call (.Name x p) es [] pos) (tV X L E f (.bf b ds)) := by
  refine (pd_bf G hx hg h0 hs hn).imp fun σ H Q q => tG.bind (fun _ _ => evE_bf) q fun g1 H1 sl xs st1 us hs1 S1 rx p1 => ?_
  obtain ⟨d, ed, q⟩ := Post.okI p1
  exact bf_ok S1 rx ed q
theorem ty_name {ty : String} (h : isTy ty = true) : bootBuiltins (Str.ofString ty) = some (.type ty) ∧ Str.ofString ty ∈ bnames ∧ Str.ofString ty ≠ "__name__" ∧ (Str.ofString ty == ("__debug__" : Str)) = false := by
  have h := isTy_in h
  simp only [List.mem_cons, List.mem_nil_iff, or_false] at h
  rcases h with rfl | rfl | rfl | rfl | rfl | rfl <;> exact ⟨by decide +kernel, by decide +kernel, by decide +kernel, by decide +kernel⟩
theorem pd_isi (G : GX X L N sc cf E f lv) {a : DE} {ty : String} {x : Expr} {n t : Str} {p p2 pos : Pos} (hx : n = ("isinstance" : Str)) (hg : glB sc n = true) (ht : t = Str.ofString ty) (hg2 : glB sc t = true) (hty : isTy ty = true)
    (ha : PE X x (tV X L E f a)) (hn : nst x = true) : PE X (.Call (.Name n p) [x, .Name t p2] [] pos) (tV X L E f (.isi a ty)) := by
  subst hx
  subst ht
  obtain ⟨t1, t2, t3, t4⟩ := ty_name hty
  have h2 : PE X (.Name (Str.ofString ty) p2) (tC (.ty ty)) := pe_bltn (glB_ok G.hs hg2) (G.lk.free _ t2) t1 (show RelV (.ty ty) (.type ty) from rfl) t3 t4
  have hm : X.mg "isinstance" = none := G.lk.free _ (by decide +kernel)
  refine (pe_callB call_isi (glB_ok G.hs hg) hm (by decide +kernel) (pa_cons ha (pa_cons h2 pa_nil) (star_one hn)) (by decide +kernel) (by decide +kernel) (star_one hn) ?_).imp fun σ H Q q => tG.bind (fun _ _ => evE_isi) q fun g1 H1 sl d st1 u hs1 S1 rx p1 => ?_
  · exact star_any (es := [.Name _ _]) rfl
  · obtain ⟨k, ek, p2⟩ := Post.okB p1
    exact ⟨u, .ty ty, .type k, .type ty, isiV k ty, rfl, .ty ty, ty_ok S1 rx ek, kit_ok ek hty, Post.ok p2 S1 rp_bl⟩
end
end TS
end

section
set_option Elab.async false
set_option linter.all false
set_option maxRecDepth 100000
set_option maxHeartbeats 1000000
set_option autoImplicit false
namespace TS
open PySem PySem.Spec PyProof.Rows L2
section
variable {X : Cx} {L : Ln} {N : List Str} {sc : Scope} {cf : Bool} {E : XK} {f : Phi} {lv : Nat}
theorem Post.mono {α β : Type} {F : Fm} {R : Gh → Hp → α → β → Prop} {g : Gh} {H : Hp} {m : Out α} {Q Q' : β → Hp → Prop} (h : Post F E R g H m Q) (i : ∀ b H', Q b H' → Q' b H') : Post F E R g H m Q' := by
  cases m with
  | ok a st => exact fun g' H' b e s r => i b H' (h g' H' b e s r)
  | exc c a st => exact h
  | bad => exact h
theorem few_ok {es : List Expr} {env : Env} {pos : Pos} (hn : nsts es = true) (hl : es.length < 29) : methodCallForm (es.length + ([] : List Keyword).length) (backTo pos (starEach es env)) (backToKw pos (keywordEach [] env)) = true := by
  unfold methodCallForm
  rw [star_all hn]
  show (true && true && decide (es.length + 0 + 0 < 30)) = true
  rw [decide_eq_true (by omega)]; rfl
theorem mform {o : Expr} {m : Str} {ap pos : Pos} {es : List Expr} {env : Env} (hp : plB o = true) (hn : nsts es = true) (hl : es.length < 29) (hline : (ap.endLine == pos.line) = true) :
    eval (.Call (.Attribute o m ap) es [] pos) env = (do
      let ov ← eval o env
      standAt ap.atName
      let (f, first) ← holding [ov] (getMethod ov m (plainOf o env))
      callWith pos f first (backTo pos (starEach es env)) (backToKw pos (keywordEach [] env))) := by
  rw [arm_eval_Call, plB_ok hp]
  simp only [mcall_line (few_ok hn hl) hline]
theorem lk_none {x : Str} : ∀ {ns : List Str} {vs : List V}, x ∉ ns → (ns.zip vs).lookup x = none
  | [], _, _ => rfl
  | _ :: _, [], _ => rfl
  | n :: ns, v :: vs, h => by
    rw [List.zip_cons_cons, List.lookup_cons]
    have h1 : (x == n) = false := by
      rw [beq_eq_false_iff_ne]
      intro e
      exact h (by rw [e]; exact List.mem_cons_self)
    rw [h1]
    exact lk_none fun q => h (List.mem_cons_of_mem _ q)
theorem pd_mth (G : GX X L N sc cf E f lv) {C i : Nat} {o : DE} {m : Str} {ds : DEs} {x : Expr} {es : List Expr} {ap pos : Pos} (hm : m = L.nm.fn i) (hM : L.isM C i = true) (hC : L.isC C = true) (hF : L.full i = true) (hf : (L.T.fn i).isSome = true) (hp : plB x = true)
    (hline : (ap.endLine == pos.line) = true) (hl : es.length < 29) (ho : PE X x (tV X L E f o)) (hs : PA X es (tVs X L E f ds)) (hn : nsts es = true) (hlen : dLen ds = es.length) : PE X (.Call (.Attribute x m ap) es [] pos) (tV X L E f (.mth C i o ds)) := by
  subst hm
  obtain ⟨dd, ed⟩ := Option.isSome_iff_exists.mp hf
  obtain ⟨k1, k2⟩ := G.lk.ok i dd ed
  obtain ⟨m1, m2⟩ := G.lk.met C i hM
  obtain ⟨c1, _⟩ := G.lk.cls C hC
  have ht := mform (env := X.env) (o := x) (m := L.nm.fn i) hp hn hl hline
  have key : PE X (.Call (.Attribute x (L.nm.fn i) ap) es [] pos) (tMeth (L.ca C) (L.nm.fn i) (spD (FX X L) dd.np (f i)) [] E (tV X L E f o) (tVs X L E f ds)) := by
    cases es with
    | nil =>
      refine (pe_meth0 ho c1 m1 k2 G.room (G.lk.bnd i dd ed hF) .nil G.ps ht).imp fun σ H Q q => ?_
      obtain ⟨g, sl, st, h1, h2, q⟩ := q
      exact ⟨g, sl, st, h1, h2, Post.mono q fun v H' ⟨a, dx, fs, e1, e2, e3, e4⟩ => ⟨a, dx, fs, e1, e2, e3, tVs_nil hlen e4⟩⟩
    | cons e es =>
      have hn := Bool.and_eq_true_iff.mp (show (nst e && nsts es) = true from hn)
      exact pe_meth ho c1 m1 k2 G.room (G.lk.bnd i dd ed hF) .nil G.ps hs (star_one hn.1) (star_any hn.2) ht
  refine key.imp fun σ H Q q => tG.bind (fun _ _ => evE_mth) q fun g1 H1 sl d st1 u hs1 S1 rx p1 => ?_
  split at p1
  · rename_i n
    obtain ⟨a, rfl, hi⟩ := rx.ref_of
    split at p1
    · rename_i C' xs es'
      split at p1
      · rename_i hC'
        subst hC'
        obtain ⟨dx, vs, h1, h0, h2⟩ := ins_at S1 hi es'
        refine ⟨a, dx, _, rfl, h1, lk_none m2, tG.of hs1 S1 (Post.bind p1 fun ys st2 g2 H2 us e S2 ry p2 => ?_)⟩
        have rr : Rps (FX X L) g2 H2 (.ref n :: ys) (.ref a :: (us ++ [])) := by
          rw [List.append_nil]
          exact .cons (Rp.ge e _ _ rx) ry
        obtain ⟨dd', e', hl⟩ := fn_at G p2
        rw [ed] at e'; cases e'
        exact ⟨by rw [← rr.len]; exact hl, g2, _, st2, S2, rr, p2⟩
      · exact p1.elim
    · exact p1.elim
  · exact p1.elim
theorem fewk_ok {es : List Expr} {kws : List Keyword} {ks : List Str} {env : Env} {pos : Pos} (hn : nsts es = true) (hkw : kwB kws ks = true) (hl : es.length + kws.length < 28) : methodCallForm (es.length + kws.length) (backTo pos (starEach es env)) (backToKw pos (keywordEach kws env)) = true := by
  obtain ⟨w1, w2, w3⟩ := kw_all (env := env) (pos := pos) hkw
  unfold methodCallForm
  rw [star_all hn, w1]
  show decide (es.length + kws.length + _ < 30) = true
  refine decide_eq_true ?_
  split <;> omega
theorem mformk {o : Expr} {m : Str} {ap pos : Pos} {es : List Expr} {kws : List Keyword} {ks : List Str} {env : Env} (hp : plB o = true) (hn : nsts es = true) (hkw : kwB kws ks = true) (hl : es.length + kws.length < 28) (hline : (ap.endLine == pos.line) = true) :
    eval (.Call (.Attribute o m ap) es kws pos) env = (do
      let ov ← eval o env
      standAt ap.atName
      let (f, first) ← holding [ov] (getMethod ov m (plainOf o env))
      callWith pos f first (backTo pos (starEach es env)) (backToKw pos (keywordEach kws env))) := by
  rw [arm_eval_Call, plB_ok hp]
  simp only [mcall_line (fewk_ok hn hkw hl) hline]
def tMethK (C : Addr) (m : Str) (sp : Sp) (gV : List V → List V → List V) (E : XK) (ta : TE) (t tk : TA) : TE := fun σ H Q => ta σ H fun z H1 =>
  ∃ a dx fs, z = .ref a ∧ H1 a = some (.ins C dx fs) ∧ fs.lookup m = none ∧ t σ H1 fun vs H2 => tk σ H2 fun zs H3 => sp (gV (.ref a :: vs) zs) H3 Q E
theorem pe_methK {CX : CXT} {k : Nat} {fa C : Addr} {fd : FuncData} {ps ks : List Str} {sp : Sp} {m : Str} {ap pos : Pos} {x y : Expr} {es : List Expr} {kws : List Keyword} {ta : TE} {t tk : TA} {gg : List Value → List Value → List Value} {gV : List V → List V → List V} {pl : Sem Bool}
    (ho : PE X x ta) (hC : Cls X.K C) (hM : Meth X.K C m fa) (F : FnOk X.prog X.w X.K X.mg X.base CX k fa fd ps sp) (room : Room k X.A) (kb : KBinds X.K fd ps ks gg gV) (pas : Passes CX X E) (hs : PA X (y :: es) t) (hks : PK X kws tk)
    (w1 : (backToKw pos (keywordEach kws X.env)).all (·.1.isSome) = true) (w2 : (backToKw pos (keywordEach kws X.env)).filterMap (·.1) = ks) (st1 : starEach (y :: es) X.env = (false, eval y X.env) :: starEach es X.env)
    (no : ((backTo pos (starEach (y :: es) X.env)).any (·.1) || (backToKw pos (keywordEach kws X.env)).any (·.1.isNone)) = false)
    (form : eval (.Call (.Attribute x m ap) (y :: es) kws pos) X.env = (do
      let ov ← eval x X.env
      standAt ap.atName
      let (f, first) ← holding [ov] (getMethod ov m pl)
      callWith pos f first (backTo pos (starEach (y :: es) X.env)) (backToKw pos (keywordEach kws X.env)))) :
    PE X (.Call (.Attribute x m ap) (y :: es) kws pos) (tMethK C m sp gV E ta t tk) := by
  refine ⟨fun pins s0 σ H0 Q I0 q0 => PySem.W.methodCall_KW (pl := pl) (thn (ho.run pins s0 σ H0 _ I0 q0) fun u s1 ⟨z, H1, I1, rz, a, dx, fs, ez, ea, lk, q1⟩ => ?_) form⟩
  subst ez
  obtain rfl : u = Value.ref a := rz
  refine getmeth_ok I1 ea hC hM lk (PySem.W.callWith_KW (first := [.ref a]) (h₀ := X.base) I0.ok.mod.kin hM.kp w1 ?_ no st1)
  refine thn (hs.run pos pins s1 σ H1 _ I1 q1) fun us s2 ⟨vs, H2, I2, r2, q2⟩ => thn (hks.run pos pins s2 σ H2 _ I2 q2) fun ws s3 ⟨zs, H3, I3, r3, q3⟩ => ⟨I3.kIn, ?_⟩
  rw [w2]
  exact run_fnk (us := .ref a :: us) (vs := .ref a :: vs) F room kb pas I3 (.cons rfl r2) r3 q3
theorem pd_mthk (G : GX X L N sc cf E f lv) {C i : Nat} {o : DE} {m : Str} {ds kds : DEs} {ks : List Str} {kws : List Keyword} {x : Expr} {es : List Expr} {ap pos : Pos} (hm : m = L.nm.fn i) (hM : L.isM C i = true) (hC : L.isC C = true) (hf : (L.T.fn i).isSome = true) (hp : plB x = true)
    (hline : (ap.endLine == pos.line) = true) (hl : es.length + kws.length < 28) (ho : PE X x (tV X L E f o)) (hs : PA X es (tVs X L E f ds)) (hks : PK X kws (tVs X L E f kds)) (hn : nsts es = true) (h0 : es ≠ []) (hkw : kwB kws ks = true) (hkl : dLen kds = ks.length)
    (hd : (ks = L.kw i ∧ ks ≠ []) ∨ (ks = [] ∧ L.T.dfl i ≠ [])) : PE X (.Call (.Attribute x m ap) es kws pos) (tV X L E f (.mthk C i o ds ks kds)) := by
  subst hm
  obtain ⟨dd, ed⟩ := Option.isSome_iff_exists.mp hf
  obtain ⟨k1, k2⟩ := G.lk.ok i dd ed
  obtain ⟨m1, m2⟩ := G.lk.met C i hM
  obtain ⟨c1, _⟩ := G.lk.cls C hC
  have ht := mformk (env := X.env) (o := x) (m := L.nm.fn i) hp hn hkw hl hline
  cases es with
  | nil => exact absurd rfl h0
  | cons e es =>
    have hn := Bool.and_eq_true_iff.mp (show (nst e && nsts es) = true from hn)
    obtain ⟨w1, w2, w3⟩ := kw_all (env := X.env) (pos := pos) hkw
    rcases hd with ⟨hd, hk0⟩ | ⟨rfl, hd⟩
    · subst hd
      refine (pe_methK ho c1 m1 k2 G.room (G.lk.kbd i dd ed hk0) G.ps hs hks w1 w2 (star_one hn.1) ?_ ht).imp fun σ H Q q => tG.bind (fun _ _ => evE_mthk) q fun g1 H1 sl d st1 u hs1 S1 rx p1 => ?_
      · rw [star_one hn.1]
        show ((false || (backTo pos (starEach es X.env)).any (·.1)) || _) = false
        rw [star_any hn.2, w3]; rfl
      · split at p1
        · rename_i n
          obtain ⟨a, rfl, hi⟩ := rx.ref_of
          split at p1
          · rename_i C' xs es'
            split at p1
            · rename_i hC'
              subst hC'
              obtain ⟨dx, vs, h1, h0, h2⟩ := ins_at S1 hi es'
              refine ⟨a, dx, _, rfl, h1, lk_none m2, tG.of hs1 S1 (Post.bind p1 fun ys st2 g2 H2 us e S2 ry p2 => tG.of (hs1.ge e) S2 (Post.bindE p2 fun zs st3 g3 H3 ws eq e3 S3 rz p3 => ?_))⟩
              have ne : ¬ (L.kw i).isEmpty = true := fun z => hk0 (List.isEmpty_iff.mp z)
              rw [if_neg ne] at p3
              have rr : Rps (FX X L) g3 H3 (.ref n :: (ys ++ zs)) (.ref a :: (us ++ ws)) := .cons (Rp.ge e3 _ _ (Rp.ge e _ _ rx)) ((Rps.ge e3 _ _ ry).append rz)
              obtain ⟨dd', e', hl⟩ := fn_at G p3
              rw [ed] at e'; cases e'
              show spD _ _ _ (if ws.length = _ then _ else _) _ _ _
              rw [if_pos (by rw [← rz.len, evEs_len eq, hkl])]
              refine ⟨?_, g3, _, st3, S3, rr, p3⟩
              show (V.ref a :: (us ++ ws)).length = dd.np
              rw [← rr.len]; exact hl
            · exact p1.elim
          · exact p1.elim
        · exact p1.elim
    · cases kws with
      | cons kw kws => cases kw with | mk a b c => cases a <;> cases hkw
      | nil =>
        obtain ⟨dvs, dus, b1, b2, b3⟩ := G.lk.bdf i dd ed hd
        cases kds with
        | cons _ _ => cases hkl
        | nil =>
          refine (pe_meth ho c1 m1 k2 G.room b1 b2 G.ps hs (star_one hn.1) (star_any hn.2) ht).imp fun σ H Q q => tG.bind (fun _ _ => evE_mthk) q fun g1 H1 sl d st1 u hs1 S1 rx p1 => ?_
          split at p1
          · rename_i n
            obtain ⟨a, rfl, hi⟩ := rx.ref_of
            split at p1
            · rename_i C' xs es'
              split at p1
              · rename_i hC'
                subst hC'
                obtain ⟨dx, vs, h1, h0, h2⟩ := ins_at S1 hi es'
                refine ⟨a, dx, _, rfl, h1, lk_none m2, tG.of hs1 S1 (Post.bind p1 fun ys st2 g2 H2 us e S2 ry p2 => ?_)⟩
                rw [evEs_nil] at p2
                replace p2 : Post (FX X L) E (Rp (FX X L)) g2 H2 (f i (D.ref n :: (ys ++ L.T.dfl i)) st2) Q := p2
                have rr : Rps (FX X L) g2 H2 (.ref n :: (ys ++ L.T.dfl i)) (.ref a :: (us ++ dvs)) := .cons (Rp.ge e _ _ rx) (ry.append (b3 g2 H2))
                obtain ⟨dd', e', hl⟩ := fn_at G p2
                rw [ed] at e'; cases e'
                exact ⟨by rw [← rr.len]; exact hl, g2, _, st2, S2, rr, p2⟩
              · exact p1.elim
            · exact p1.elim
          · exact p1.elim
def bmI : Bm → String
  | .append => "list.append"
  | .extend => "list.extend"
  | .pop0 => "list.pop"
  | .popAt => "list.pop"
  | .update => "dict.update"
  | _ => "dict.get"
theorem mt_bm {X : Cx} (hc : X.calm = true) (hu : X.A.units + 1 < cLine) {m : Bm} (hm : bmD m = true) : MtR X (bmI m) (rBm X.prog X.w X.K m) := by
  cases m <;> first | cases hm; done | skip
  · exact mt_append
  · exact mt_extend
  · exact mt_pop
  · exact mt_popAt
  · exact mt_dget hu
  · exact mt_dget hu
  · exact mt_update hc
theorem bm_slot {m : Bm} (hm : bmD m = true) : PlainAttrs (bmT m) ∧ Slot (bmT m) (bmN m) (bmI m) ∧ typeOf (.builtin (bmI m)) = pure (.type "method_descriptor") := by
  cases m <;> first | (cases hm; done) | skip
  · exact ⟨PySem.F.plainAttrs_list, PySem.F.slot_list_append, PySem.F.type_list_append⟩
  · exact ⟨PySem.F.plainAttrs_list, PySem.F.slot_list_extend, PySem.F.type_list_extend⟩
  · exact ⟨PySem.F.plainAttrs_list, PySem.F.slot_list_pop, PySem.F.type_list_pop⟩
  · exact ⟨PySem.F.plainAttrs_list, PySem.F.slot_list_pop, PySem.F.type_list_pop⟩
  · exact ⟨PySem.F.plainAttrs_dict, PySem.F.slot_dict_get, PySem.F.type_dict_get⟩
  · exact ⟨PySem.F.plainAttrs_dict, PySem.F.slot_dict_get, PySem.F.type_dict_get⟩
  · exact ⟨PySem.F.plainAttrs_dict, PySem.F.slot_dict_update, PySem.F.type_dict_update⟩
theorem pd_bm (G : GX X L N sc cf E f lv) {m : Bm} {o : DE} {n : Str} {ds : DEs} {x : Expr} {es : List Expr} {ap pos : Pos} (hm : n = bmN m) (hp : plB x = true) (hline : (ap.endLine == pos.line) = true) (hl : es.length < 29) (ho : PE X x (tV X L E f o))
    (hs : PA X es (tVs X L E f ds)) (hn : nsts es = true) (hlen : dLen ds = es.length) (hd : bmD m = true) : PE X (.Call (.Attribute x n ap) es [] pos) (tV X L E f (.bm m o ds)) := by
  subst hm
  have hu := G.room.un
  obtain ⟨b1, b2, b3⟩ := bm_slot hd
  have hR := mt_bm (X := X) G.calm (by omega) hd
  refine ⟨fun pins s σ H Q I h => ?_⟩
  have hfew := few_ok (env := X.env) (pos := pos) hn hl
  obtain ⟨g, sl, st, h1, h2, q⟩ := h
  rw [evE_bm] at q
  have hO := ho.run pins s σ H (fun u H1 => ∃ d st1 g1, SlO (FX X L) g1 H1 sl σ ∧ StR (FX X L) g1 H1 st1 ∧ Rp (FX X L) g1 H1 d u ∧ Post (FX X L) E (Rp (FX X L)) g1 H1 (if bmTy m st1 d = true then (evEs L.T f ds sl st1).bind fun xs st2 => bmV m st2 d xs else .bad) Q) I
    ⟨g, sl, st, h1, h2, Post.bind q fun d st1 g1 H1 u e S1 r p => ⟨d, st1, g1, h1.ge e, S1, r, p⟩⟩
  refine wpAny_Call_method_late (plB_ok hp) hfew hline rfl (thn hO fun v s1 ⟨u, H1, I1, r1, d, st1, g1, k1, k2, k3, p1⟩ => ?_)
  split at p1
  · rename_i ht
    obtain ⟨t1, t2⟩ := tyW_is I1 r1 (bmTy_ok k2 k3 ht)
    refine ⟨bmT m, bmI m, b1, b2, b3, t1, t2, ?_⟩
    have hA := hs.run pos pins s1 σ H1 (fun us H2 => rBm X.prog X.w X.K m u us H2 Q) I1 ⟨g1, sl, st1, k1, k2, Post.bind p1 fun xs st2 g2 H2 us e S2 ry p2 => bm_ok S2 (Rp.ge e _ _ k3) ry p2⟩
    cases es with
    | nil =>
      obtain ⟨g2, sl2, st2, _, S2, p2⟩ : tVs X L E f ds σ H1 (fun us H2 => rBm X.prog X.w X.K m u us H2 Q) := ⟨g1, sl, st1, k1, k2, Post.bind p1 fun xs st2 g2 H2 us e S2 ry p2 => bm_ok S2 (Rp.ge e _ _ k3) ry p2⟩
      have q2 := tVs_nil hlen ⟨g2, sl2, st2, ‹_›, S2, p2⟩
      exact Calls.callWith_builtin rfl (PySem.evalArgs_none (hR pins s1 σ H1 u [] v [] Q I1 r1 .nil q2))
    | cons e es =>
      have hn := Bool.and_eq_true_iff.mp (show (nst e && nsts es) = true from hn)
      rw [star_one hn.1] at hA ⊢
      refine Calls.callWith_builtin (by show (false || (backTo pos (starEach es X.env)).any (·.1)) = false; rw [star_any hn.2]; rfl) (Calls.evalArgs_plain ?_)
      exact thn hA fun us s2 ⟨vs, H2, I2, r2, q2⟩ => hR pins s2 σ H2 u vs v us Q I2 r1 r2 q2
  · exact p1.elim
theorem pd_fld (G : GX X L N sc cf E f lv) {C i : Nat} {o : DE} {m : Str} {x : Expr} {p : Pos} (hm : (L.T.flds C)[i]? = some m) (hC : L.isC C = true) (hp : plB x = true) (ho : PE X x (tV X L E f o)) : PE X (.Attribute x m p) (tV X L E f (.fld C i o)) := by
  obtain ⟨c1, c2, c3, c5, c4, _⟩ := G.lk.cls C hC
  refine (pe_fld ho (plB_ok hp)).imp fun σ H Q q => tG.bind (fun _ _ => evE_fld) q fun g1 H1 sl d st1 u hs1 S1 rx p1 => ?_
  obtain ⟨k, ek, p2⟩ := Post.okI p1
  obtain ⟨a, dx, fs, v, e1, e2, e3, e4⟩ := fld_ok S1 G.lk.nd rx hm ek
  exact ⟨a, L.ca C, dx, fs, v, e1, e2, c1, c4 m (List.mem_of_getElem? hm), e3, Post.ok p2 S1 e4⟩
theorem mk_new {F : Fm} {g : Gh} {H : Hp} {st : Store} (S : StR F g H st) (C : Nat) {x dx : Addr} (h1 : H x = none) (h2 : H dx = none) (ne : dx ≠ x) :
    Ge g H (g.sh st.length x) (upd (upd H dx (.own x)) x (.ins (F.ca C) dx [])) ∧ StR F (g.sh st.length x) (upd (upd H dx (.own x)) x (.ins (F.ca C) dx [])) (st ++ [.ins C []]) ∧ Rp F (g.sh st.length x) (upd (upd H dx (.own x)) x (.ins (F.ca C) dx [])) (.ref st.length) (.ref x) := by
  have S1 := S.new (o := .own x) h2
  have hx : upd H dx (.own x) x = none := by rw [upd_ne (Ne.symm ne)]; exact h1
  have hO : OR F (g.sh st.length x) (upd (upd H dx (.own x)) x (.ins (F.ca C) dx [])) x (.ins C []) := ⟨dx, [], by rw [upd_same, List.zip_nil_right], Nat.zero_le _, .nil⟩
  obtain ⟨a, b, c⟩ := new_sh S1 hx hO
  exact ⟨(Ge.new S h2).trans a, b, c⟩
theorem pd_mk (G : GX X L N sc cf E f lv) {C : Nat} {n : Str} {ds : DEs} {es : List Expr} {p pos : Pos} (hx : n = L.nm.cl C) (hg : glB sc n = true) (hd : dbg n = false) (hC : L.isC C = true) (hK : L.cmk C = true) (hs : PA X es (tVs X L E f ds)) (hn : nsts es = true) (hlen : dLen ds = es.length) :
    PE X (.Call (.Name n p) es [] pos) (tV X L E f (.mk C ds)) := by
  subst hx
  obtain ⟨c1, c2, c3, c5, c4, dd, ed, F⟩ := G.lk.cls C hC
  obtain ⟨d1, d2⟩ := dbg_ok hd
  have hr := room_le (l := lv) (k := 2) G.room (G.l2 C (.inl hK))
  have key : PE X (.Call (.Name (L.nm.cl C) p) es [] pos) (tMake (L.ca C) (spD (FX X L) dd.np (f (L.T.init C))) [] E (tVs X L E f ds)) := by
    cases es with
    | nil => exact (pe_make0 c3 F hr (glB_ok G.hs hg) c2 (G.lk.bnd _ dd ed c5) .nil G.ps d1).imp fun σ H Q q => tVs_nil hlen (show tVs X L E f ds σ H _ from q)
    | cons e es =>
      have hn := Bool.and_eq_true_iff.mp (show (nst e && nsts es) = true from hn)
      exact pe_make c3 F hr (glB_ok G.hs hg) c2 (G.lk.bnd _ dd ed c5) .nil G.ps hs d1 (star_one hn.1) (star_any hn.2)
  refine key.imp fun σ H Q q => tG.bind (fun _ _ => evE_mk) q fun g1 H1 sl xs st1 us hs1 S1 rx p1 => ?_
  intro x dx h1 h2 ne
  obtain ⟨a, b, c⟩ := mk_new S1 C h1 h2 ne
  have rr : Rps (FX X L) (g1.sh st1.length x) (upd (upd H1 dx (.own x)) x (.ins (L.ca C) dx [])) (.ref st1.length :: xs) (.ref x :: (us ++ [])) := by
    rw [List.append_nil]
    exact Rps.cons c (Rps.ge a _ _ rx)
  have p2 : Post (FX X L) E (Rp (FX X L)) (g1.sh st1.length x) (upd (upd H1 dx (.own x)) x (.ins (L.ca C) dx [])) (f (L.T.init C) (.ref st1.length :: xs) (st1 ++ [.ins C []])) (fun v H2 => v = .non ∧ Q (.ref x) H2) := by
    refine Post.bind (Post.from a p1) fun y st2 g2 H2 v e S2 ry p2 => ?_
    split at p2
    · exact ⟨ry.non_of, Post.ok p2 S2 (Rp.ge e _ _ c)⟩
    · exact p2.elim
  obtain ⟨dd', e', hl⟩ := fn_at G p2
  rw [ed] at e'; cases e'
  exact ⟨by rw [← rr.len]; exact hl, _, _, _, b, rr, p2⟩
theorem pd_fz {d : DE} {e : Expr} (h : PE X e (tV X L E f d)) : PE X e (tV X L E f (.fz d)) := h.imp fun σ H Q q => tG.bind (fun _ _ => evE_fz) q fun g1 H1 sl d st1 u hs1 S1 rx p1 => fz_ok S1 rx p1
end
end TS
end

section
set_option Elab.async false
set_option linter.all false
set_option maxRecDepth 100000
set_option maxHeartbeats 1000000
set_option autoImplicit false
namespace TS
open PySem PySem.Spec PyProof.Rows L2
mutual
theorem D.beq_eq : ∀ {a b : D}, D.beq a b = true → a = b
  | .non, b, h => by cases b <;> first | rfl | (unfold D.beq at h; cases h)
  | .bl x, b, h => by cases b <;> first | (unfold D.beq at h; cases h; done) | (unfold D.beq at h; rw [of_decide_eq_true h])
  | .int x, b, h => by cases b <;> first | (unfold D.beq at h; cases h; done) | (unfold D.beq at h; rw [of_decide_eq_true h])
  | .str x, b, h => by cases b <;> first | (unfold D.beq at h; cases h; done) | (unfold D.beq at h; rw [of_decide_eq_true h])
  | .tup x, b, h => by cases b <;> first | (unfold D.beq at h; cases h; done) | (unfold D.beq at h; rw [D.beqs_eq h])
  | .lst x, b, h => by cases b <;> first | (unfold D.beq at h; cases h; done) | (unfold D.beq at h; rw [D.beqs_eq h])
  | .dic k x, b, h => by
    cases b <;> first | (unfold D.beq at h; cases h; done) | skip
    unfold D.beq at h
    obtain ⟨h1, h2⟩ := Bool.and_eq_true_iff.mp h
    rw [of_decide_eq_true h1, D.beqs_eq h2]
  | .ref x, b, h => by cases b <;> first | (unfold D.beq at h; cases h; done) | (unfold D.beq at h; rw [of_decide_eq_true h])
  | .lam k x, b, h => by
    cases b <;> first | (unfold D.beq at h; cases h; done) | skip
    unfold D.beq at h
    obtain ⟨h1, h2⟩ := Bool.and_eq_true_iff.mp h
    rw [of_decide_eq_true h1, D.beqs_eq h2]
  | .scr x, b, h => by cases b <;> first | (unfold D.beq at h; cases h; done) | (unfold D.beq at h; rw [of_decide_eq_true h])
  | .kdic k x, b, h => by
    cases b <;> first | (unfold D.beq at h; cases h; done) | skip
    unfold D.beq at h
    obtain ⟨h1, h2⟩ := Bool.and_eq_true_iff.mp h
    rw [of_decide_eq_true h1, D.beqs_eq h2]
theorem D.beqs_eq : ∀ {a b : List D}, D.beqs a b = true → a = b
  | [], [], _ => rfl
  | [], _ :: _, h => by unfold D.beqs at h; cases h
  | _ :: _, [], h => by unfold D.beqs at h; cases h
  | x :: a, y :: b, h => by
    unfold D.beqs at h
    obtain ⟨h1, h2⟩ := Bool.and_eq_true_iff.mp h
    rw [D.beq_eq h1, D.beqs_eq h2]
end
section
variable {F : Fm} {E : XK} {g : Gh} {H : Hp} {st : Store}
def tgD (F : Fm) (tg : Tg) : TG := fun v σ H Q => ∃ g sl st x sl2, SlO F g H sl σ ∧ StR F g H st ∧ Rp F g H x v ∧ asgV tg sl x = some sl2 ∧
  ∀ σ2, SlO F g H sl2 σ2 → (∀ vs : List Nat, (∀ i ∈ tgL tg, i ∈ vs) → wipe σ2 vs = wipe σ vs) → Q σ2 H
theorem SlO.set {sl : Slots} {σ : L2.St} {i : Nat} {d : D} {v : V} (h : SlO F g H sl σ) (r : Rp F g H d v) : SlO F g H (sl.set i (some d)) (σ.set i (some v)) := by
  refine ⟨by rw [List.length_set, List.length_set]; exact h.1, fun j e q => ?_⟩
  by_cases z : j = i
  · subst z
    by_cases l : j < sl.length
    · rw [List.getElem?_set_self l] at q
      cases q
      exact ⟨v, List.getElem?_set_self (by rw [← h.1]; exact l), r⟩
    · rw [List.getElem?_eq_none (by rw [List.length_set]; omega)] at q
      cases q
  · rw [List.getElem?_set_ne (Ne.symm z)] at q ⊢
    exact h.2 j e q
theorem wipe_get {σ : L2.St} {i : Nat} : ∀ {vs : List Nat}, (wipe σ vs)[i]? = if i ∈ vs then (if i < σ.length then some none else none) else σ[i]?
  | [] => by simp [wipe]
  | v :: vs => by
    show ((wipe σ vs).set v none)[i]? = _
    by_cases e : v = i
    · subst e
      rw [if_pos List.mem_cons_self]
      by_cases l : v < σ.length
      · rw [List.getElem?_set_self (by rw [wipe_length]; exact l), if_pos l]
      · rw [List.getElem?_eq_none (by rw [List.length_set, wipe_length]; omega), if_neg l]
    · rw [List.getElem?_set_ne e, wipe_get]
      have : (i ∈ v :: vs) ↔ i ∈ vs := by
        rw [List.mem_cons]
        exact ⟨fun h => h.resolve_left (Ne.symm e), .inr⟩
      simp only [this]
theorem wipe_of {σ σ2 : L2.St} {vs : List Nat} (hl : σ2.length = σ.length) (h : ∀ i, i ∉ vs → σ2[i]? = σ[i]?) : wipe σ2 vs = wipe σ vs := by
  apply List.ext_getElem?
  intro i
  rw [wipe_get, wipe_get, hl]
  by_cases e : i ∈ vs
  · rw [if_pos e, if_pos e]
  · rw [if_neg e, if_neg e, h i e]
theorem set_out {σ : L2.St} {i : Nat} {v : Option V} {vs : List Nat} (h : i ∈ vs) : ∀ j, j ∉ vs → (σ.set i v)[j]? = σ[j]? := fun j hj => List.getElem?_set_ne fun e => hj (by rw [← e]; exact h)
theorem pg_n {X : Cx} {L : Ln} {N : List Str} {sc : Scope} {cf : Bool} {f : Phi} {lv : Nat} (G : GX X L N sc cf E f lv) {i : Nat} {x : Str} {p : Pos} (h1 : N[i]? = some x) (h2 : storeB sc cf x = true) : PG X (.Name x p) (gName i) := by
  obtain ⟨a, b⟩ := storeB_ok G.hs G.cell h2
  exact pg_name (by rw [G.nN]; exact G.nd) (by rw [G.nN]; exact h1) a b
def gsD : List Nat → TGs
  | [] => gNil
  | i :: is_ => gCons (gName i) (gsD is_)
theorem pgs_D {X : Cx} {L : Ln} {N : List Str} {sc : Scope} {cf : Bool} {f : Phi} {lv : Nat} (G : GX X L N sc cf E f lv) : ∀ {is_ : List Nat} {es : List Expr}, cTgs N sc cf is_ es = true → PGs X es (gsD is_) ∧ (assignEach es X.env).length = is_.length ∧ (assignEach es X.env).findIdx? (·.1) = none
  | [], [], _ => ⟨pgs_nil, rfl, rfl⟩
  | [], _ :: _, h => by cases h
  | _ :: _, [], h => by cases h
  | i :: is_, e :: es, h => by
    unfold cTgs at h
    cases e <;> first | (cases h; done) | skip
    rename_i x p
    obtain ⟨h1, h2⟩ := Bool.and_eq_true_iff.mp h
    obtain ⟨h2, h3⟩ := Bool.and_eq_true_iff.mp h2
    obtain ⟨a, b, c⟩ := pgs_D G h3
    refine ⟨pgs_cons (pg_n G (of_decide_eq_true h1) h2) a rfl, ?_, ?_⟩
    · show (assignEach es X.env).length + 1 = is_.length + 1
      rw [b]
    · rw [List.findIdx?_eq_none_iff] at c ⊢
      intro y hy
      rcases List.mem_cons.mp hy with rfl | hy
      · rfl
      · exact c y hy
theorem gs_run {sl : Slots} : ∀ {is_ : List Nat} {xs : List D} {vs : List V} {sl : Slots} {σ : L2.St} {Q : L2.St → Hp → Prop}, xs.length = is_.length → Rps F g H xs vs → SlO F g H sl σ →
    (∀ σ2, SlO F g H ((is_.zip xs).foldl (fun s p => s.set p.1 (some p.2)) sl) σ2 → (∀ ws : List Nat, (∀ i ∈ is_, i ∈ ws) → σ2.length = σ.length ∧ ∀ j, j ∉ ws → σ2[j]? = σ[j]?) → Q σ2 H) → gsD is_ vs σ H Q
  | [], xs, vs, sl, σ, Q, hl, r, S, q => by
    cases xs with
    | cons _ _ => cases hl
    | nil => exact ⟨r.nil_iff, q σ S fun ws _ => ⟨rfl, fun _ _ => rfl⟩⟩
  | i :: is_, xs, vs, sl, σ, Q, hl, r, S, q => by
    cases xs with
    | nil => cases hl
    | cons x xs =>
      obtain ⟨v, us, rfl, r1, r2⟩ := r.inv
      refine ⟨v, us, rfl, ?_⟩
      refine gs_run (sl := sl) (is_ := is_) (Nat.succ.inj hl) r2 (S.set (i := i) r1) fun σ2 h1 h2 => q σ2 h1 fun ws hw => ?_
      obtain ⟨a, b⟩ := h2 ws fun j hj => hw j (List.mem_cons_of_mem _ hj)
      refine ⟨by rw [a, List.length_set], fun j hj => ?_⟩
      rw [b j hj]
      exact set_out (hw i List.mem_cons_self) j hj
theorem pg_D {X : Cx} {L : Ln} {N : List Str} {sc : Scope} {cf : Bool} {f : Phi} {lv : Nat} (G : GX X L N sc cf E f lv) {tg : Tg} {t : Expr} (h : cTg N sc cf tg t = true) : PG X t (tgD (FX X L) tg) := by
  unfold cTg at h
  split at h
  · rename_i i x p
    obtain ⟨h1, h2⟩ := Bool.and_eq_true_iff.mp h
    refine ⟨fun pins s σ H v u Q I r ⟨g, sl, st, y, sl2, k1, k2, k3, k4, k5⟩ => (pg_n G (of_decide_eq_true h1) h2).run pins s σ H v u Q I r ?_⟩
    cases k4
    refine k5 _ (k1.set k3) fun vs hv => ?_
    exact wipe_of List.length_set (set_out (hv i (by simp [tgL])))
  · rename_i is_ es c p
    obtain ⟨a, b, d⟩ := pgs_D G h
    refine ⟨fun pins s σ H v u Q I r ⟨g, sl, st, y, sl2, k1, k2, k3, k4, k5⟩ => (pg_tup G.calm a b d).run pins s σ H v u Q I r ?_⟩
    unfold asgV at k4
    simp only at k4
    split at k4
    · rename_i xs
      split at k4
      · rename_i hl
        cases k4
        obtain ⟨q, vs, rfl, h1, h2⟩ := k3.tup_of
        refine ⟨q, vs, rfl, h1, by rw [← h2.len]; exact hl, gs_run (sl := sl) hl h2 k1 fun σ2 s1 s2 => k5 σ2 s1 fun ws hw => ?_⟩
        obtain ⟨e1, e2⟩ := s2 ws hw
        exact wipe_of e1 e2
      · cases k4
    · cases k4
  · cases h
def iAny (K : PySem.W.Frag) (te : TE) : TI := fun σ H R => te σ H fun x H1 => (∃ a, x = .ref a ∧ (∃ xs, SqL K H1 a xs) ∧ R (Itl K a) H1) ∨ (∃ a, x = .ref a ∧ (∃ xs, SqT K H1 a xs) ∧ R (Itt K a) H1) ∨ (∃ z, x = .str z ∧ R (Its z) H1) ∨
  ∃ (a : Addr) (kvs : List (Key × V)), x = .ref a ∧ ((∃ o, H1 a = some (.frz o (.dK kvs)) ∧ R (Itk a o kvs) H1) ∨ (H1 a = some (.dK kvs) ∧ ∀ o, R (Itk a o kvs) (upd H1 a (.frz o (.dK kvs)))))
theorem pi_any {X : Cx} {tg e : Expr} {te : TE} (he : PE X e te) : PI X tg e (iAny X.K te) := by
  refine ⟨fun pins s σ H R I h => ?_⟩
  refine thn (he.run pins s σ H _ I h) fun v s1 ⟨y, H1, I1, r1, q1⟩ => ?_
  rcases q1 with ⟨a, rfl, ⟨xs, hq⟩, q⟩ | ⟨a, rfl, ⟨xs, hq⟩, q⟩ | ⟨z, rfl, q⟩ | ⟨a, kvs, rfl, ⟨o, hd, q⟩ | ⟨hd, q⟩⟩
  · cases r1
    obtain ⟨its, _, p, _⟩ := I1.list hq
    exact wpAny_pyIter_list p.isList (pi_one (tk := s1.toks) I1 _ (turn_list a _) ⟨_, Heap.get?_push_size _ rfl, rfl, rfl⟩ q)
  · cases r1
    obtain ⟨its, _, p, _⟩ := I1.tuple hq
    exact wpAny_pyIter_tuple (show s1.heap.IsTuple a its.toArray from p) (pi_one (tk := s1.toks) I1 _ (turn_tuple a _) ⟨_, Heap.get?_push_size _ rfl, rfl, rfl⟩ q)
  · obtain ⟨t, rfl⟩ := r1
    cases ha : z.cps.all (· < 128)
    · exact wpAny_pyIter_wide ha (pi_one (tk := s1.toks) I1 _ (turn_str _ z t "str_iterator" (.inr rfl)) ⟨_, Heap.get?_push_size _ rfl, rfl, rfl⟩ q)
    · exact wpAny_pyIter_ascii ha (pi_one (tk := s1.toks) I1 _ (turn_str _ z t "str_ascii_iterator" (.inl rfl)) ⟨_, Heap.get?_push_size _ rfl, rfl, rfl⟩ q)
  · cases r1
    obtain ⟨hs, hgd, hx, es, ep, vs, hdt, hsz, kv, hm⟩ := I1.frzK hd
    refine iter_keys hs hgd hx hdt (pi_one (tk := s1.toks) I1 _ (turn_keys _ hdt) ⟨_, Heap.get?_push_size _ rfl, rfl, ?_⟩ q)
    rw [hsz] <;> rfl
  · cases r1
    obtain ⟨od, I2⟩ := I1.lock hd trivial
    obtain ⟨hs, hgd, hx, es, ep, vs, hdt, hsz, kv, hm⟩ := I2.frzK (d := a) upd_same
    refine iter_keys hs hgd hx hdt (pi_one (tk := s1.toks) I2 _ (turn_keys _ hdt) ⟨_, Heap.get?_push_size _ rfl, rfl, ?_⟩ (q od))
    rw [hsz] <;> rfl
theorem stays_items {x : D} {xs : List D} {st st0 : Store} (e : items st0 x = some xs) (h : stays st x xs = true) : items st x = some xs := by
  cases x <;> first | exact e | skip
  rename_i n
  unfold stays at h
  simp only at h
  split at h
  · rename_i ys e2
    unfold items
    simp only [e2]
    rw [D.beqs_eq h]
  · cases h
theorem sq_items (S : StR F g H st) {d : D} {v : V} {xs : List D} (r : Rp F g H d v) (e : items st d = some xs) (nt : ∀ ys, d ≠ .tup ys) : ∃ a vs, v = .ref a ∧ SqL F.K H a vs ∧ Rps F g H xs vs := by
  cases d with
  | tup ys => exact absurd rfl (nt ys)
  | lst ys =>
    cases e
    obtain ⟨a, vs, h1, h2, h3⟩ := r.lst_of
    exact ⟨a, vs, h1, h2.sq, h3⟩
  | scr ns =>
    cases e
    obtain ⟨a, h1, h2⟩ := r.scr_of
    exact ⟨a, _, h1, h2.sq, rps_int⟩
  | ref n =>
    obtain ⟨a, vs, h1, h2, h3⟩ := litems_ok (xs := xs) S r e
    exact ⟨a, vs, h1, .inl (.inl h2), h3⟩
  | _ => cases e
theorem lock_ge {a : Addr} {o : Obj} {kvs : List (Key × V)} (hr : g.r a = some .frz) (h : H a = some (.dK kvs)) : Ge g H g (upd H a (.frz o (.dK kvs))) where
  fix := fun x _ => ⟨rfl, by
    by_cases e : x = a
    · subst e; exact .inr ⟨hr, o, kvs, h, upd_same⟩
    · exact .inl (upd_ne e)⟩
  tup := fun x xs q => by
    have : x ≠ a := fun e => by rw [e, h] at q; cases q
    rw [upd_ne this]; exact q
  fro := fun x o u q => by
    have : x ≠ a := fun e => by rw [e, h] at q; cases q
    rw [upd_ne this]; exact q
  ix := fun _ _ q => q
theorem lock_str {a : Addr} {o : Obj} {kvs : List (Key × V)} (hr : g.r a = some .frz) (h : H a = some (.dK kvs)) (S : StR F g H st) : StR F g (upd H a (.frz o (.dK kvs))) st := by
  refine ⟨S.dom, fun n x e => ?_, fun b r hb => ?_⟩
  · rcases S.obj n x e with z | ⟨b, h1, h2, h3⟩
    · exact .inl z
    · have : b ≠ a := fun e => by rw [e, hr] at h2; cases h2
      exact .inr ⟨b, h1, h2, OR.ge (lock_ge hr h) (upd_ne this) h3⟩
  · by_cases e : b = a
    · exact ⟨_, by rw [e]; exact upd_same⟩
    · obtain ⟨u, q⟩ := S.trk b r hb
      exact ⟨u, by rw [upd_ne e]; exact q⟩
theorem wk_keys {a : Addr} {o : Obj} {ks : List Key} {vs : List V} (hl : ks.length = vs.length) (h : H a = some (.frz o (.dK (ks.zip vs)))) : Wok F g H ⟨ks.map kD, fun _ => true⟩ (Itk a o (ks.zip vs)) := by
  have hz : (ks.zip vs).length = ks.length := by rw [List.length_zip]; omega
  refine ⟨fun g' H' st' i x ge S' _ hx => ?_, fun g' H' st' ge S' _ => ?_⟩
  · replace hx : (ks.map kD)[i]? = some x := hx
    rw [List.getElem?_map] at hx
    obtain ⟨k, hk, rfl⟩ := Option.map_eq_some_iff.mp hx
    have hi : i < ks.length := (List.getElem?_eq_some_iff.mp hk).1
    refine ⟨⟨ge.fro _ _ _ h, by omega⟩, fun v H2 ⟨e1, k2, v2, e2, e3⟩ => ⟨g', by subst e1; exact Ge.refl, by subst e1; exact S', ?_⟩⟩
    subst e1
    subst e3
    rw [List.getElem?_zip_eq_some] at e2
    obtain ⟨e2, _⟩ := e2
    rw [hk] at e2
    cases e2
    exact kD_ok
  · exact ⟨ge.fro _ _ _ h, by rw [hz]; simp⟩
theorem wk_ok (S : StR F g H st) {d : D} {v : V} {w : Wk} (r : Rp F g H d v) (e : wkOf st d = some w) :
    (∃ a, v = .ref a ∧ (∃ xs, SqL F.K H a xs) ∧ Wok F g H w (Itl F.K a)) ∨ (∃ a, v = .ref a ∧ (∃ xs, SqT F.K H a xs) ∧ Wok F g H w (Itt F.K a)) ∨ (∃ z, v = .str z ∧ Wok F g H w (Its z)) ∨
    ∃ a kvs, v = .ref a ∧ g.r a = some .frz ∧ Rd H a (.dK kvs) ∧ ∀ o H', H' a = some (.frz o (.dK kvs)) → Wok F g H' w (Itk a o kvs) := by
  by_cases hd : ∃ ks ds, d = .dic ks ds
  · obtain ⟨ks, ds, rfl⟩ := hd
    cases e
    obtain ⟨a, vs, rfl, h0, h1, h2⟩ := r.dic_of
    exact .inr (.inr (.inr ⟨a, _, rfl, h1.1, h1.2, fun o H' h => wk_keys h0 h⟩))
  by_cases hs : ∃ z, d = .str z
  · obtain ⟨z, rfl⟩ := hs
    refine .inr (.inr (.inl ⟨z, r.str_of, ?_⟩))
    cases e
    refine ⟨fun g' H' st' i x ge S' _ h => ?_, fun g' H' st' ge S' _ => ?_⟩
    · replace h : (z.cps.toList.map fun c => D.str ⟨#[c]⟩)[i]? = some x := h
      rw [List.getElem?_map, Array.getElem?_toList] at h
      cases hc : z.cps[i]? with
      | none => rw [hc] at h; cases h
      | some c =>
        rw [hc] at h
        cases h
        refine ⟨(Array.getElem?_eq_some_iff.mp hc).1, fun v H2 ⟨e1, c2, e2, e3⟩ => ⟨g', by subst e1; exact Ge.refl, by subst e1; exact S', ?_⟩⟩
        rw [hc] at e2
        cases e2
        subst e3
        exact rp_str
    · show z.cps.size ≤ (z.cps.toList.map fun c => D.str ⟨#[c]⟩).length
      rw [List.length_map, Array.length_toList]
      exact Nat.le_refl _
  by_cases ht : ∃ ys, d = .tup ys
  · obtain ⟨ys, rfl⟩ := ht
    cases e
    obtain ⟨a, vs, rfl, h2, h3⟩ := r.tup_of
    refine .inr (.inl ⟨a, rfl, ⟨vs, h2⟩, fun g' H' st' i x ge S' _ h => ?_, fun g' H' st' ge S' _ => ?_⟩)
    · obtain ⟨u, h4, h5⟩ := (Rps.ge ge _ _ h3).get h
      exact ⟨⟨vs, u, SqT.ge ge h2, h4⟩, fun v H2 ⟨e1, e2⟩ => ⟨g', by subst e1; exact Ge.refl, by subst e1; exact S', by have := e2 vs (SqT.ge ge h2); rw [h4] at this; cases this; subst e1; exact h5⟩⟩
    · exact ⟨vs, SqT.ge ge h2, by rw [← h3.len]; exact Nat.le_refl _⟩
  have nt : ∀ ys, d ≠ .tup ys := fun ys e => ht ⟨ys, e⟩
  have ei : ∃ xs, items st d = some xs ∧ w = ⟨xs, fun s => stays s d xs⟩ := by
    unfold wkOf at e
    split at e
    · rename_i z; exact absurd ⟨z, rfl⟩ hs
    · rename_i ks ds; exact absurd ⟨ks, ds, rfl⟩ hd
    · cases h : items st d with
      | none => rw [h] at e; cases e
      | some xs => rw [h] at e; cases e; exact ⟨xs, rfl, rfl⟩
  obtain ⟨xs, ei, rfl⟩ := ei
  obtain ⟨a, vs, rfl, h2, h3⟩ := sq_items S r ei nt
  have at_ : ∀ g' H' st', Ge g H g' H' → StR F g' H' st' → stays st' d xs = true → ∃ us, SqL F.K H' a us ∧ Rps F g' H' xs us := fun g' H' st' ge S' h => by
    obtain ⟨b, us, eu, hu, ru⟩ := sq_items S' (Rp.ge ge _ _ r) (stays_items ei h) nt
    cases eu
    exact ⟨us, hu, ru⟩
  refine .inl ⟨a, rfl, ⟨vs, h2⟩, fun g' H' st' i x ge S' hk h => ?_, fun g' H' st' ge S' hk => ?_⟩
  · obtain ⟨us, hu, ru⟩ := at_ g' H' st' ge S' hk
    obtain ⟨u, h4, h5⟩ := ru.get h
    exact ⟨⟨us, u, hu, h4⟩, fun v H2 ⟨e1, e2⟩ => ⟨g', by subst e1; exact Ge.refl, by subst e1; exact S', by have := e2 us hu; rw [h4] at this; cases this; subst e1; exact h5⟩⟩
  · obtain ⟨us, hu, ru⟩ := at_ g' H' st' ge S' hk
    exact ⟨us, hu, by rw [← ru.len]; exact Nat.le_refl _⟩
theorem wk_rng {lw : Int} {n : Nat} : Wok F g H ⟨rangeD lw n, fun _ => true⟩ (Itr lw n) := by
  refine ⟨fun g' H' st' i x ge S _ h => ?_, fun g' H' st' ge S _ => ?_⟩
  · unfold rangeD at h
    rw [List.getElem?_map] at h
    by_cases l : i < n
    · rw [List.getElem?_range l] at h
      cases h
      exact ⟨l, fun v H2 ⟨e1, e2⟩ => ⟨g', by subst e1; exact Ge.refl, by subst e1; exact S, by subst e2; exact rp_int⟩⟩
    · rw [List.getElem?_eq_none (by rw [List.length_range]; omega)] at h
      cases h
  · show n ≤ (rangeD lw n).length
    unfold rangeD
    rw [List.length_map, List.length_range]
    exact Nat.le_refl _
end
section
variable {X : Cx} {L : Ln} {N : List Str} {sc : Scope} {cf : Bool} {E : XK} {f : Phi} {lv : Nat}
abbrev tI (X : Cx) (L : Ln) (E : XK) (f : Phi) (it : DI) : TI := tG (FX X L) E (Wok (FX X L)) (evI L.T f it)
theorem pi_e {d : DE} {tg e : Expr} (h : PE X e (tV X L E f d)) : PI X tg e (tI X L E f (.e d)) := by
  refine (pi_any h).imp fun σ H Q q => tG.bind (fun _ _ => evI_e) q fun g1 H1 sl x st1 u hs1 S1 rx p1 => ?_
  obtain ⟨w, ew, p2⟩ := Post.okI p1
  rcases wk_ok S1 rx ew with ⟨a, h1, h2, h3⟩ | ⟨a, h1, h2, h3⟩ | ⟨a, h1, h3⟩ | ⟨a, kvs, h1, hr, h2, h3⟩
  · exact .inl ⟨a, h1, h2, Post.ok p2 S1 h3⟩
  · exact .inr (.inl ⟨a, h1, h2, Post.ok p2 S1 h3⟩)
  · exact .inr (.inr (.inl ⟨a, h1, Post.ok p2 S1 h3⟩))
  · refine .inr (.inr (.inr ⟨a, kvs, h1, ?_⟩))
    rcases h2 with h2 | ⟨o, h2⟩
    · exact .inr ⟨h2, fun o => p2 g1 _ _ (lock_ge hr h2) (lock_str hr h2 S1) (h3 o _ upd_same)⟩
    · exact .inl ⟨o, h2, Post.ok p2 S1 (h3 o _ h2)⟩
theorem pi_rng1 (G : GX X L N sc cf E f lv) {a : DE} {tg x : Expr} {n : Str} {p pos : Pos} (hx : n = ("range" : Str)) (hg : glB sc n = true) (hn : nst x = true) (ha : PE X x (tV X L E f a)) : PI X tg (.Call (.Name n p) [x] [] pos) (tI X L E f (.rng1 a)) := by
  subst hx
  refine (pi_range1 (glB_ok G.hs hg) (G.lk.free _ (by decide +kernel)) (pa_cons ha pa_nil (star_one hn)) (star_one hn)).imp fun σ H Q q => tG.bind (fun _ _ => evI_rng1) q fun g1 H1 sl d st1 u hs1 S1 rx p1 => ?_
  split at p1
  · rename_i n
    split at p1
    · rename_i hl
      refine ⟨n, by rw [rx.int_of], by omega, by omega, Post.ok p1 S1 wk_rng⟩
    · exact p1.elim
  · exact p1.elim
theorem pi_rng2 (G : GX X L N sc cf E f lv) {a b : DE} {tg x y : Expr} {n : Str} {p pos : Pos} (hx : n = ("range" : Str)) (hg : glB sc n = true) (hn : nst x = true) (hn2 : nst y = true) (ha : PE X x (tV X L E f a)) (hb : PE X y (tV X L E f b)) :
    PI X tg (.Call (.Name n p) [x, y] [] pos) (tI X L E f (.rng2 a b)) := by
  subst hx
  refine (pi_range2 (glB_ok G.hs hg) (G.lk.free _ (by decide +kernel)) (pa_cons ha (pa_cons hb pa_nil (star_one hn2)) (star_one hn)) (by rw [star_one hn, star_one hn2]; rfl) (star_one hn2)).imp fun σ H Q q => tG.bind (fun _ _ => evI_rng2) q fun g1 H1 sl d st1 u hs1 S1 rx p1 => ?_
  refine tG.of hs1 S1 (Post.bind p1 fun y st2 g2 H2 v e S2 ry p2 => ?_)
  split at p2
  · rename_i m n
    split at p2
    · rename_i hl
      have ru := rx.int_of
      subst ru
      have rv := ry.int_of
      subst rv
      exact ⟨m, n, rfl, ⟨by omega, by omega, by omega, by omega⟩, Post.ok p2 S2 wk_rng⟩
    · exact p2.elim
  · exact p2.elim
theorem enumD_get : ∀ {xs : List D} {n i : Nat}, (enumD n xs)[i]? = xs[i]?.map fun x => D.tup [.int ((n + i : Nat) : Int), x]
  | [], n, i => by simp [enumD]
  | x :: xs, n, 0 => by simp [enumD]
  | x :: xs, n, i + 1 => by
    rw [enumD, List.getElem?_cons_succ, List.getElem?_cons_succ, enumD_get]
    have : n + 1 + i = n + (i + 1) := by omega
    rw [this]
theorem enumD_len : ∀ {xs : List D} {n : Nat}, (enumD n xs).length = xs.length
  | [], n => rfl
  | x :: xs, n => by rw [enumD, List.length_cons, List.length_cons, enumD_len]
theorem zipD_get : ∀ {xs ys : List D} {i : Nat} {z : D}, (zipD xs ys)[i]? = some z → ∃ x y, xs[i]? = some x ∧ ys[i]? = some y ∧ z = .tup [x, y]
  | [], ys, i, z, h => by cases ys <;> simp [zipD] at h
  | x :: xs, [], i, z, h => by simp [zipD] at h
  | x :: xs, y :: ys, 0, z, h => by
    simp [zipD] at h
    exact ⟨x, y, rfl, rfl, h.symm⟩
  | x :: xs, y :: ys, i + 1, z, h => by
    rw [zipD, List.getElem?_cons_succ] at h
    obtain ⟨a, b, h1, h2, h3⟩ := zipD_get h
    exact ⟨a, b, by rw [List.getElem?_cons_succ]; exact h1, by rw [List.getElem?_cons_succ]; exact h2, h3⟩
theorem zipD_len : ∀ {xs ys : List D}, xs.length ≤ (zipD xs ys).length ∨ ys.length ≤ (zipD xs ys).length
  | [], ys => .inl (Nat.zero_le _)
  | x :: xs, [] => .inr (Nat.zero_le _)
  | x :: xs, y :: ys => by
    rw [zipD, List.length_cons, List.length_cons, List.length_cons]
    rcases zipD_len (xs := xs) (ys := ys) with h | h
    · left; omega
    · right; omega
theorem wk_zip {F : Fm} {g : Gh} {H : Hp} {xs ys : List D} {a b : Addr} {vs us : List V} (h1 : SqT F.K H a vs) (r1 : Rps F g H xs vs) (h2 : SqT F.K H b us) (r2 : Rps F g H ys us) : Wok F g H ⟨zipD xs ys, fun _ => true⟩ (RZ.ItzT F.K a b) := by
  refine ⟨fun g' H' st' i z ge S' _ hz => ?_, fun g' H' st' ge S' _ => ?_⟩
  · obtain ⟨x, y, e1, e2, rfl⟩ := zipD_get (show (zipD xs ys)[i]? = some z from hz)
    obtain ⟨v, k1, k2⟩ := (Rps.ge ge _ _ r1).get e1
    obtain ⟨u, k3, k4⟩ := (Rps.ge ge _ _ r2).get e2
    refine ⟨⟨vs, us, v, u, SqT.ge ge h1, SqT.ge ge h2, k1, k3⟩, fun w H2 ⟨T, v', u', e3, e4, e5, e6, e7⟩ => ?_⟩
    have := e6 vs (SqT.ge ge h1)
    rw [k1] at this
    cases this
    have := e7 us (SqT.ge ge h2)
    rw [k3] at this
    cases this
    subst e3
    subst e5
    have gn := Ge.new (o := .tup [v, u]) S' e4
    exact ⟨g', gn, S'.new e4, rp_tup (.inl (.inl upd_same)) (.cons (Rp.ge gn _ _ k2) (.cons (Rp.ge gn _ _ k4) .nil))⟩
  · refine ⟨vs, us, SqT.ge ge h1, SqT.ge ge h2, ?_⟩
    rw [← r1.len, ← r2.len]
    exact zipD_len
theorem wk_enum {F : Fm} {g : Gh} {H : Hp} {xs : List D} {a : Addr} {vs : List V} (h1 : FzL g H a vs) (r1 : Rps F g H xs vs) : Wok F g H ⟨enumD 0 xs, fun _ => true⟩ (Ite F.K a) := by
  refine ⟨fun g' H' st' i z ge S' _ hz => ?_, fun g' H' st' ge S' _ => ?_⟩
  · rw [show (⟨enumD 0 xs, fun _ => true⟩ : Wk).xs = enumD 0 xs from rfl, enumD_get] at hz
    obtain ⟨x, e1, rfl⟩ := Option.map_eq_some_iff.mp hz
    obtain ⟨v, k1, k2⟩ := (Rps.ge ge _ _ r1).get e1
    refine ⟨⟨vs, v, (FzL.ge ge h1).sq, k1⟩, fun w H2 ⟨T, v', e3, e4, e5, e6⟩ => ?_⟩
    have := e6 vs (FzL.ge ge h1).sq
    rw [k1] at this
    cases this
    subst e3
    subst e5
    have gn := Ge.new (o := .tup [.int ((i : Nat) : Int), v]) S' e4
    refine ⟨g', gn, S'.new e4, rp_tup (.inl (.inl upd_same)) (.cons ?_ (.cons (Rp.ge gn _ _ k2) .nil))⟩
    rw [Nat.zero_add]
    exact rp_int
  · refine ⟨vs, (FzL.ge ge h1).sq, ?_⟩
    rw [← r1.len]
    show xs.length ≤ (enumD 0 xs).length
    rw [enumD_len]
    exact Nat.le_refl _
theorem pi_zipD (G : GX X L N sc cf E f lv) {a b : DE} {x y : Expr} {n : Str} {p pos tpos : Pos} {elts : List Expr} {kk} (hx : n = ("zip" : Str)) (hg : glB sc n = true) (hn : nst x = true) (hn2 : nst y = true) (ha : PE X x (tV X L E f a)) (hb : PE X y (tV X L E f b)) :
    PI X (.Tuple elts kk tpos) (.Call (.Name n p) [x, y] [] pos) (tI X L E f (.zip a b)) := by
  subst hx
  refine (RZ.pi_zipA (glB_ok G.hs hg) (G.lk.free _ (by decide +kernel)) (pa_cons ha (pa_cons hb pa_nil (star_one hn2)) (star_one hn)) (by rw [star_one hn, star_one hn2]) (by rw [star_one hn2]; rfl)).imp fun σ H Q q => tG.bind (fun _ _ => evI_zip) q fun g1 H1 sl d st1 u hs1 S1 rx p1 => ?_
  refine tG.of hs1 S1 (Post.bind p1 fun y st2 g2 H2 v e S2 ry p2 => ?_)
  split at p2
  · rename_i xs ys
    obtain ⟨a1, vs, rfl, k1, k2⟩ := (Rp.ge e _ _ rx).tup_of
    obtain ⟨b1, us, rfl, k3, k4⟩ := ry.tup_of
    exact ⟨a1, b1, vs, us, rfl, .inr ⟨k1, k3, Post.ok p2 S2 (wk_zip k1 k2 k3 k4)⟩⟩
  · exact p2.elim
theorem pi_enumD (G : GX X L N sc cf E f lv) {a : DE} {x : Expr} {n : Str} {p pos tpos : Pos} {elts : List Expr} {kk} (hx : n = ("enumerate" : Str)) (hg : glB sc n = true) (hn : nst x = true) (ha : PE X x (tV X L E f a)) :
    PI X (.Tuple elts kk tpos) (.Call (.Name n p) [x] [] pos) (tI X L E f (.enum a)) := by
  subst hx
  refine (pi_enum (glB_ok G.hs hg) (G.lk.free _ (by decide +kernel)) (pa_cons ha pa_nil (star_one hn)) (by rw [star_one hn]; rfl)).imp fun σ H Q q => tG.bind (fun _ _ => evI_enum) q fun g1 H1 sl d st1 u hs1 S1 rx p1 => ?_
  split at p1
  · rename_i xs
    obtain ⟨a1, vs, rfl, k1, k2⟩ := rx.lst_of
    exact ⟨a1, vs, rfl, k1.sq, Post.ok p1 S1 (wk_enum k1 k2)⟩
  · exact p1.elim
theorem Wok.less {F : Fm} {g : Gh} {H : Hp} {xs : List D} {ok : Store → Bool} {J : It} (h : Wok F g H ⟨xs, fun _ => true⟩ J) : Wok F g H ⟨xs, ok⟩ J :=
  ⟨fun g' H' st' i x ge S' _ hx => h.go g' H' st' i x ge S' rfl hx, fun g' H' st' ge S' _ => h.stop g' H' st' ge S' rfl⟩
theorem pi_keysL {d : DE} {tg e : Expr} (h : PE X e (tV X L E f d)) : PI X tg e (tI X L E f (.keysL d)) := by
  refine (pi_keys h).imp fun σ H Q q => tG.bind (fun _ _ => evI_keysL) q fun g1 H1 sl x st1 u hs1 S1 rx p1 => ?_
  split at p1
  · rename_i n
    split at p1
    · rename_i ks ds es
      obtain ⟨a, rfl, hi⟩ := rx.ref_of
      obtain ⟨od, vs, h0, h1, h2⟩ := (S1.at hi es (by intro z; cases z)).2
      exact ⟨a, od, rfl, .inl ⟨_, h1, Post.ok p1 S1 (wk_keys h0 h1).less⟩⟩
    · exact p1.elim
  · exact p1.elim
end
end TS
end

section
set_option Elab.async false
set_option linter.all false
set_option maxRecDepth 100000
set_option maxHeartbeats 1000000
set_option autoImplicit false
namespace TS
open PySem PySem.Spec PyProof.Rows L2
section
variable {F : Fm} {E : XK} {g0 g : Gh} {H0 H : Hp} {st0 st : Store} {p : Addr} {Q : VK}
theorem tmp_fz (S0 : StR F g0 H0 st0) (hp : H0 p = none) (a : Ge g0 H0 g H) (S : StR F g H st) (hr : g.r p = some .tmp) (mu : ∃ xs, H p = some (.lst xs) ∨ ∃ kvs, H p = some (.dK kvs)) :
    Gt p g H (g.fz p) H ∧ Ge g0 H0 (g.fz p) H ∧ StR F (g.fz p) H st := by
  have e : Gt p g H (g.fz p) H := ⟨fun a h => Gh.fz_ne h, fun _ _ => rfl, fun _ _ h => h, mu⟩
  refine ⟨e, Ge.gt S0 hp a e, S.gt hr e (fun _ _ h => h) ?_⟩
  obtain ⟨xs, h | ⟨kvs, h⟩⟩ := mu <;> exact ⟨_, h⟩
theorem tmp_sh (S0 : StR F g0 H0 st0) (hp : H0 p = none) (a : Ge g0 H0 g H) (S : StR F g H st) (hr : g.r p = some .tmp) (mu : ∃ xs, H p = some (.lst xs) ∨ ∃ kvs, H p = some (.dK kvs)) {x : SO} (hx : Gt p g H (g.sh st.length p) H → OR F (g.sh st.length p) H p x) :
    Ge g0 H0 (g.sh st.length p) H ∧ StR F (g.sh st.length p) H (st ++ [x]) := by
  have e : Gt p g H (g.sh st.length p) H := ⟨fun a h => Gh.sh_ne h, fun _ _ => rfl, fun n a h => by rw [Gh.sh_j (fun q => by have := S.dom n a h; omega)]; exact h, mu⟩
  refine ⟨Ge.gt S0 hp a e, fun n b h => ?_, fun n y q => ?_, fun b r h => ?_⟩
  · rw [List.length_append, List.length_singleton]
    by_cases q : n = st.length
    · omega
    · rw [Gh.sh_j q] at h
      have := S.dom n b h
      omega
  · by_cases l : n < st.length
    · rw [List.getElem?_append_left l] at q
      rcases S.obj n y q with z | ⟨b, h1, h2, h3⟩
      · exact .inl z
      · have ne : b ≠ p := fun z => by rw [z, hr] at h2; cases h2
        exact .inr ⟨b, e.i n b h1, (e.r b ne).trans h2, OR.gt hr e ne h3⟩
    · have : n = st.length := by
        have := (List.getElem?_eq_some_iff.mp q).1
        rw [List.length_append, List.length_singleton] at this
        omega
      subst this
      rw [List.getElem?_append_right (Nat.le_refl _), Nat.sub_self] at q
      cases q
      exact .inr ⟨p, Gh.sh_i, Gh.sh_same, hx e⟩
  · by_cases z : b = p
    · subst z
      obtain ⟨xs, h | ⟨kvs, h⟩⟩ := mu <;> exact ⟨_, h⟩
    · rw [Gh.sh_ne z] at h
      exact S.trk b r h
def FinL (F : Fm) (E : XK) (m3 : List D → Store → Out D) : Prop := ∀ {g0 g : Gh} {H0 H : Hp} {st0 st : Store} {p : Addr} {Q : VK} {ys : List D} {us : List V}, StR F g0 H0 st0 → H0 p = none → Ge g0 H0 g H → StR F g H st → g.r p = some .tmp → H p = some (.lst us) → Rps F g H ys us →
  Post F E (Rp F) g0 H0 (m3 ys st) Q → Q (.ref p) H
theorem fin_lst : FinL F E (fun ys st => .ok (.lst ys) st) := by
  intro g0 g H0 H st0 st p Q ys us S0 hp a S hr hH r q
  obtain ⟨e, k1, k2⟩ := tmp_fz S0 hp a S hr ⟨us, .inl hH⟩
  exact q _ _ _ k1 k2 (rp_lst ⟨Gh.fz_same, hH⟩ (Rps.gt hr e _ _ r))
theorem fin_shl : FinL F E (fun ys st => shV st (.lst ys)) := by
  intro g0 g H0 H st0 st p Q ys us S0 hp a S hr hH r q
  obtain ⟨k1, k2⟩ := tmp_sh (x := .lst ys) S0 hp a S hr ⟨us, .inl hH⟩ fun e => ⟨us, hH, Rps.gt hr e _ _ r⟩
  exact q _ _ _ k1 k2 (rp_ref Gh.sh_i)
theorem put_new {k : Key} {v : V} : ∀ {kvs : List (Key × V)}, (∀ x ∈ kvs, x.1 ≠ k) → putK kvs k v = kvs ++ [(k, v)] := by
  intro kvs h
  unfold putK
  rw [if_neg]
  rw [List.any_eq_true]
  rintro ⟨x, hx, hk⟩
  exact h x hx (of_decide_eq_true hk)
theorem merge_new : ∀ {more acc : List (Key × V)}, (acc ++ more).map (·.1) |>.Nodup → mergeK acc more = acc ++ more
  | [], acc, _ => (List.append_nil acc).symm
  | kv :: more, acc, h => by
    show mergeK (putK acc kv.1 kv.2) more = _
    have h1 : putK acc kv.1 kv.2 = acc ++ [kv] := by
      refine put_new fun x hx e => ?_
      rw [List.map_append, List.nodup_append] at h
      exact h.2.2 x.1 (List.mem_map_of_mem hx) kv.1 (by simp) e
    rw [h1, merge_new (by rw [List.append_assoc]; exact h), List.append_assoc]
    rfl
theorem nodupB_ok : ∀ {ks : List Key}, nodupB ks = true → ks.Nodup
  | [], _ => .nil
  | k :: ks, h => by
    obtain ⟨h1, h2⟩ := Bool.and_eq_true_iff.mp (show (!(ks.any fun q => decide (q = k)) && nodupB ks) = true from h)
    refine List.nodup_cons.mpr ⟨fun q => ?_, nodupB_ok h2⟩
    have : (ks.any fun q => decide (q = k)) = true := List.any_eq_true.mpr ⟨k, q, decide_eq_true rfl⟩
    rw [this] at h1
    cases h1
theorem zip_fst {ks : List Key} {vs : List V} (h : ks.length = vs.length) : (ks.zip vs).map (·.1) = ks := List.map_fst_zip (by omega)
def FinD (F : Fm) (E : XK) (m3 : List D → Store → Out D) (ks : List Key) : Prop := ∀ {g0 g : Gh} {H0 H : Hp} {st0 st : Store} {p : Addr} {Q : VK} {ys : List D} {us : List V}, StR F g0 H0 st0 → H0 p = none → Ge g0 H0 g H → StR F g H st → g.r p = some .tmp → H p = some (.dK (ks.zip us)) → ks.length = us.length → Rps F g H ys us →
  Post F E (Rp F) g0 H0 (m3 ys st) Q → Q (.ref p) H
theorem fin_dic {ks : List Key} : FinD F E (fun ys st => .ok (.dic ks ys) st) ks := by
  intro g0 g H0 H st0 st p Q ys us S0 hp a S hr hH hl r q
  obtain ⟨e, k1, k2⟩ := tmp_fz S0 hp a S hr ⟨[], .inr ⟨_, hH⟩⟩
  exact q _ _ _ k1 k2 (rp_dic hl ⟨Gh.fz_same, .inl hH⟩ (Rps.gt hr e _ _ r))
theorem fin_shd {ks : List Key} : FinD F E (fun ys st => shV st (.dic ks ys)) ks := by
  intro g0 g H0 H st0 st p Q ys us S0 hp a S hr hH hl r q
  obtain ⟨k1, k2⟩ := tmp_sh (x := .dic ks ys) S0 hp a S hr ⟨[], .inr ⟨_, hH⟩⟩ fun e => ⟨us, hl, hH, Rps.gt hr e _ _ r⟩
  exact q _ _ _ k1 k2 (rp_ref Gh.sh_i)
end
section
variable {X : Cx} {L : Ln} {N : List Str} {sc : Scope} {cf : Bool} {E : XK} {f : Phi} {lv : Nat}
def PEs (X : Cx) (L : Ln) (E : XK) (f : Phi) : DEs → List Expr → Prop
  | .nil, es => es = []
  | .cons d ds, es => ∃ e r, es = e :: r ∧ PE X e (tV X L E f d) ∧ PEs X L E f ds r
theorem PEs.len : ∀ {ds : DEs} {es : List Expr}, PEs X L E f ds es → dLen ds = es.length
  | .nil, _, h => by cases h; rfl
  | .cons d ds, _, ⟨e, r, rfl, _, h⟩ => by rw [dLen, PEs.len h, List.length_cons]
theorem PEs.pa : ∀ {ds : DEs} {es : List Expr}, PEs X L E f ds es → nsts es = true → PA X es (tVs X L E f ds)
  | .nil, _, h, _ => by cases h; exact pd_nil
  | .cons d ds, _, ⟨e, r, rfl, h1, h⟩, n => by
    have n := Bool.and_eq_true_iff.mp (show (nst e && nsts r) = true from n)
    exact pd_cons h1 (PEs.pa h n.2) n.1
theorem PEs.an {p : Pos} : ∀ {ds : DEs} {es : List Expr}, PEs X L E f ds es → ds ≠ .nil → PE X (.BoolOp .And es p) (tAn X L E f ds)
  | .nil, _, _, n => absurd rfl n
  | .cons d .nil, _, ⟨e, r, rfl, h1, h⟩, _ => by cases h; exact pd_and1 h1
  | .cons d (.cons d2 ds), _, ⟨e, r, rfl, h1, h⟩, _ => by
    have hh := h
    obtain ⟨e2, r2, rfl, _, _⟩ := h
    exact pd_and h1 (PEs.an hh fun z => by cases z)
theorem PEs.os {p : Pos} : ∀ {ds : DEs} {es : List Expr}, PEs X L E f ds es → ds ≠ .nil → PE X (.BoolOp .Or es p) (tOs X L E f ds)
  | .nil, _, _, n => absurd rfl n
  | .cons d .nil, _, ⟨e, r, rfl, h1, h⟩, _ => by cases h; exact pd_or1 h1
  | .cons d (.cons d2 ds), _, ⟨e, r, rfl, h1, h⟩, _ => by
    have hh := h
    obtain ⟨e2, r2, rfl, _, _⟩ := h
    exact pd_or h1 (PEs.os hh fun z => by cases z)
def PTes (X : Cx) (L : Ln) (E : XK) (f : Phi) : DEs → List Expr → Prop
  | .nil, es => es = []
  | .cons d ds, es => ∃ e r, es = e :: r ∧ PT X e (tBo X L E f d) ∧ PTes X L E f ds r
theorem PTes.an {p : Pos} : ∀ {ds : DEs} {es : List Expr}, PTes X L E f ds es → ds ≠ .nil → PW X (.BoolOp .And es p) (tTs X L E f ds)
  | .nil, _, _, n => absurd rfl n
  | .cons d .nil, _, ⟨e, r, rfl, h1, h⟩, _ => by cases h; exact pd_ts1 h1
  | .cons d (.cons d2 ds), _, ⟨e, r, rfl, h1, h⟩, _ => by
    have hh := h
    obtain ⟨e2, r2, rfl, _, _⟩ := h
    exact pd_ts h1 (PTes.an hh fun z => by cases z)
theorem PTes.os {p : Pos} : ∀ {ds : DEs} {es : List Expr}, PTes X L E f ds es → ds ≠ .nil → PW X (.BoolOp .Or es p) (tTo X L E f ds)
  | .nil, _, _, n => absurd rfl n
  | .cons d .nil, _, ⟨e, r, rfl, h1, h⟩, _ => by cases h; exact pd_to1 h1
  | .cons d (.cons d2 ds), _, ⟨e, r, rfl, h1, h⟩, _ => by
    have hh := h
    obtain ⟨e2, r2, rfl, _, _⟩ := h
    exact pd_to h1 (PTes.os hh fun z => by cases z)
def trsD (X : Cx) (L : Ln) (E : XK) (f : Phi) : List Key → DEs → List (TE × TE)
  | k :: ks, .cons d ds => (tC (kV k), tV X L E f d) :: trsD X L E f ks ds
  | _, _ => []
theorem pps_D {p : Pos} : ∀ {ks : List Key} {keys : List (Option Expr)} {ds : DEs} {es : List Expr}, cKeys ks keys = true → PEs X L E f ds es → keys.length = es.length → PPs X p keys es (trsD X L E f ks ds) ∧ keys.all (·.isSome) = true ∧ ks.length = keys.length
  | [], [], .nil, _, _, h, _ => by cases h; exact ⟨pps_nil, rfl, rfl⟩
  | [], [], .cons d ds, _, _, ⟨e, r, rfl, _, _⟩, hl => by cases hl
  | [], _ :: _, _, _, h, _, _ => by cases h
  | .inl i :: ks, [], _, _, h, _, _ => by cases h
  | .inr i :: ks, [], _, _, h, _, _ => by cases h
  | .inl i :: ks, none :: _, _, _, h, _, _ => by cases h
  | .inr i :: ks, none :: _, _, _, h, _, _ => by cases h
  | .inl i :: ks, some k :: keys, .nil, _, h, q, hl => by cases q; cases hl
  | .inr i :: ks, some k :: keys, .nil, _, h, q, hl => by cases q; cases hl
  | .inl i :: ks, some k :: keys, .cons d ds, _, h, ⟨e, r, rfl, h1, hr⟩, hl => by
    unfold cKeys at h
    split at h <;> first | (cases h; done) | skip
    · rename_i z1 z2; cases z1
    · rename_i z1 z2
      cases z1
      cases z2
      obtain ⟨e1, e2⟩ := Bool.and_eq_true_iff.mp h
      obtain ⟨a, b, c⟩ := pps_D e2 hr (Nat.succ.inj hl)
      rw [← of_decide_eq_true e1]
      exact ⟨pps_cons pe_int h1 a, by rw [List.all_cons, b]; rfl, by rw [List.length_cons, List.length_cons, c]⟩
    · rename_i z1 z2; cases z1
  | .inr i :: ks, some k :: keys, .cons d ds, _, h, ⟨e, r, rfl, h1, hr⟩, hl => by
    unfold cKeys at h
    split at h <;> first | (cases h; done) | skip
    · rename_i z1 z2; cases z1
    · rename_i z1 z2; cases z1
    · rename_i z1 z2
      cases z1
      cases z2
      obtain ⟨e1, e2⟩ := Bool.and_eq_true_iff.mp h
      obtain ⟨a, b, c⟩ := pps_D e2 hr (Nat.succ.inj hl)
      rw [← of_decide_eq_true e1]
      exact ⟨pps_cons pe_str h1 a, by rw [List.all_cons, b]; rfl, by rw [List.length_cons, List.length_cons, c]⟩
theorem pairs_run {σ : L2.St} : ∀ {ks : List Key} {ds : DEs} {H : Hp} {Q : List (V × V) → Hp → Prop}, ks.length = dLen ds → tVs X L E f ds σ H (fun vs H' => Q ((ks.zip vs).map fun kv => (kV kv.1, kv.2)) H') → tPairs (trsD X L E f ks ds) σ H Q
  | [], .nil, H, Q, _, q => tVs_nil (ds := .nil) rfl q
  | [], .cons _ _, _, _, h, _ => by cases h
  | _ :: _, .nil, _, _, h, _ => by cases h
  | k :: ks, .cons d ds, H, Q, h, q => by
    show tV X L E f d σ H fun y H2 => tPairs (trsD X L E f ks ds) σ H2 fun ps H3 => Q ((kV k, y) :: ps) H3
    refine tG.bind (fun _ _ => evEs_cons) q fun g1 H1 sl x st1 u hs1 S1 rx p1 => ?_
    refine pairs_run (Nat.succ.inj h) (tG.of hs1 S1 (Post.bind p1 fun y st2 g2 H2 v e S2 ry p2 => ?_))
    exact Post.ok (b := u :: v) p2 S2 (.cons (Rp.ge e _ _ rx) ry)
theorem pd_dctG {ks : List Key} {keys : List (Option Expr)} {ds : DEs} {es : List Expr} {p : Pos} {m3 : List D → Store → Out D} (hm : FinD (FX X L) E m3 ks) (hk : cKeys ks keys = true) (hn : nodupB ks = true) (hl : keys.length = es.length) (h15 : keys.length ≤ 15) (h0 : keys ≠ [])
    (hs : PEs X L E f ds es) : PE X (.Dict keys es p) (tG (FX X L) E (Rp (FX X L)) (fun sl st => (evEs L.T f ds sl st).bind fun xs st1 => m3 xs st1)) := by
  obtain ⟨a, b, c⟩ := pps_D (p := p) hk hs hl
  have hlen := hs.len
  refine (pe_disp a b hl h0 h15).imp fun σ H Q ⟨g, sl, st, h1, S, q⟩ => ?_
  intro r hr
  have gt := Ge.newTp (o := .dK []) S hr
  refine pairs_run (by omega) ⟨g.tp r, sl, st, h1.ge gt, S.newTp hr, ?_⟩
  replace q : Post (FX X L) E (Rp (FX X L)) g H ((evEs L.T f ds sl st).bind fun xs st1 => m3 xs st1) Q := q
  cases e : evEs L.T f ds sl st with
  | bad => rw [e] at q; exact q.elim
  | exc c a s => rw [e] at q; exact fun g' H' cls dd k => q g' H' cls dd (gt.trans k)
  | ok xs s =>
    rw [e] at q
    intro g' H' vs k S' rr
    obtain ⟨k1, k2⟩ := k.tmp r Gh.tp_same
    rw [upd_same] at k2
    have lv : ks.length = vs.length := by
      have h2 := evEs_len e
      have h3 := rr.len
      omega
    refine ⟨k2, ks.zip vs, rfl, by rw [List.length_zip]; omega, ?_⟩
    rw [merge_new (by rw [List.nil_append, zip_fst lv]; exact nodupB_ok hn), List.nil_append]
    have e2 : Gt r g' H' g' (upd H' r (.dK (ks.zip vs))) := ⟨fun _ _ => rfl, fun b hb => upd_ne hb, fun _ _ h => h, ⟨[], .inr ⟨_, k2⟩⟩⟩
    exact hm S hr (Ge.gt S hr (gt.trans k) e2) (S'.gt k1 e2 (fun _ _ h => h) ⟨_, upd_same⟩) k1 upd_same lv (Rps.gt k1 e2 _ _ rr) q
end
end TS
end

section
set_option Elab.async false
set_option linter.all false
set_option maxRecDepth 100000
set_option maxHeartbeats 1000000
set_option autoImplicit false
namespace TS
open PySem PySem.Spec PyProof.Rows L2
section
variable {F : Fm} {E : XK} {g : Gh} {H : Hp} {st : Store}
theorem wipeD_get {sl : Slots} {i : Nat} : ∀ {vs : List Nat}, (wipeD sl vs)[i]? = if i ∈ vs then (if i < sl.length then some none else none) else sl[i]?
  | [] => by simp [wipeD]
  | v :: vs => by
    show ((wipeD sl vs).set v none)[i]? = _
    have len : (wipeD sl vs).length = sl.length := by
      unfold wipeD
      induction vs with
      | nil => rfl
      | cons a r ih => rw [List.foldr_cons, List.length_set, ih]
    by_cases e : v = i
    · subst e
      rw [if_pos List.mem_cons_self]
      by_cases l : v < sl.length
      · rw [List.getElem?_set_self (by rw [len]; exact l), if_pos l]
      · rw [List.getElem?_eq_none (by rw [List.length_set, len]; omega), if_neg l]
    · rw [List.getElem?_set_ne e, wipeD_get]
      have : (i ∈ v :: vs) ↔ i ∈ vs := by
        rw [List.mem_cons]
        exact ⟨fun h => h.resolve_left (Ne.symm e), .inr⟩
      simp only [this]
theorem wipeD_len {sl : Slots} : ∀ {vs : List Nat}, (wipeD sl vs).length = sl.length
  | [] => rfl
  | v :: vs => by
    show ((wipeD sl vs).set v none).length = _
    rw [List.length_set, wipeD_len]
theorem SlO.wipe {sl : Slots} {σ : L2.St} {vs : List Nat} (h : SlO F g H sl σ) : SlO F g H (wipeD sl vs) (L2.wipe σ vs) := by
  refine ⟨by rw [wipeD_len, wipe_length]; exact h.1, fun i d q => ?_⟩
  rw [wipeD_get] at q
  by_cases e : i ∈ vs
  · rw [if_pos e] at q
    split at q <;> cases q
  · rw [if_neg e] at q
    rw [wipe_get, if_neg e]
    exact h.2 i d q
theorem wipe_two {σ : L2.St} {vs : List Nat} : L2.wipe (L2.wipe σ vs) vs = L2.wipe σ vs := wipe_of (wipe_length _ _) fun i hi => wipe_out hi
end
def lcTurn (T : Tab) (f : Phi) (e : DE) (tg : Tg) (cs : DEs) (own : List Nat) (sl : Slots) (x : D) (st2 : Store) : Out (Option D) := match asgV tg (wipeD sl own) x with
  | some sl2 => (evTs T f cs sl2 st2).bind fun k st3 => if k = true then (evE T f e sl2 st3).bind fun y st4 => .ok (some y) st4 else .ok none st3
  | none => .bad
def lcM (T : Tab) (f : Phi) (e : DE) (tg : Tg) (it : DI) (cs : DEs) (own : List Nat) (m3 : List D → Store → Out D) (sl : Slots) (st : Store) : Out D := (evI T f it sl st).bind fun w st1 =>
  match lcLoop w.ok (lcTurn T f e tg cs own sl) w.xs st1 with
  | .ok ys st2 => if ys.length ≤ LIM then m3 ys st2 else .bad
  | _ => .bad
theorem evE_lcM {T : Tab} {f : Phi} {e : DE} {tg : Tg} {it : DI} {cs : DEs} {own : List Nat} {sl : Slots} {st : Store} : evE T f (.lc e tg it cs own) sl st = lcM T f e tg it cs own (fun ys st => .ok (.lst ys) st) sl st := by
  rw [evE_lc]
  unfold lcM
  cases evI T f it sl st with
  | bad => rfl
  | exc c a s => rfl
  | ok w s =>
    show nox (Out.bind (lcLoop w.ok (lcTurn T f e tg cs own sl) w.xs s) _) = match lcLoop w.ok (lcTurn T f e tg cs own sl) w.xs s with
      | .ok ys st2 => if ys.length ≤ LIM then Out.ok (D.lst ys) st2 else .bad
      | _ => .bad
    cases lcLoop w.ok (lcTurn T f e tg cs own sl) w.xs s with
    | bad => rfl
    | exc c a s => rfl
    | ok ys s2 =>
      show nox (if ys.length ≤ LIM then Out.ok (D.lst ys) s2 else .bad) = if ys.length ≤ LIM then Out.ok (D.lst ys) s2 else .bad
      by_cases h : ys.length ≤ LIM
      · rw [if_pos h]; rfl
      · rw [if_neg h]; rfl
theorem evE_shlc {T : Tab} {f : Phi} {e : DE} {tg : Tg} {it : DI} {cs : DEs} {own : List Nat} {sl : Slots} {st : Store} : evE T f (.sh (.lc e tg it cs own)) sl st = lcM T f e tg it cs own (fun ys st => shV st (.lst ys)) sl st := by
  rw [evE_sh, evE_lcM]
  unfold lcM
  cases evI T f it sl st with
  | bad => rfl
  | exc c a s => rfl
  | ok w s =>
    show Out.bind (match lcLoop w.ok (lcTurn T f e tg cs own sl) w.xs s with
      | .ok ys st2 => if ys.length ≤ LIM then Out.ok (D.lst ys) st2 else .bad
      | _ => .bad) _ = match lcLoop w.ok (lcTurn T f e tg cs own sl) w.xs s with
      | .ok ys st2 => if ys.length ≤ LIM then shV st2 (D.lst ys) else .bad
      | _ => .bad
    cases lcLoop w.ok (lcTurn T f e tg cs own sl) w.xs s with
    | bad => rfl
    | exc c a s => rfl
    | ok ys s2 =>
      show Out.bind (if ys.length ≤ LIM then Out.ok (D.lst ys) s2 else .bad) _ = if ys.length ≤ LIM then shV s2 (D.lst ys) else .bad
      by_cases h : ys.length ≤ LIM
      · rw [if_pos h, if_pos h]; rfl
      · rw [if_neg h, if_neg h]; rfl
def consO {α : Type} (o : Option α) (ys : List α) : List α := match o with
  | some y => y :: ys
  | none => ys
theorem lc_cons {ok : Store → Bool} {turn : D → Store → Out (Option D)} {x : D} {r : List D} {st st2 : Store} {ys : List D} (h : lcLoop ok turn (x :: r) st = .ok ys st2) : ok st = true ∧ ∃ o s1 zs, turn x st = .ok o s1 ∧ lcLoop ok turn r s1 = .ok zs st2 ∧ ys = consO o zs := by
  rw [lcLoop] at h
  split at h
  · rename_i hk
    refine ⟨hk, ?_⟩
    cases e : turn x st with
    | bad => rw [e] at h; cases h
    | exc c a s => rw [e] at h; cases h
    | ok o s1 =>
      rw [e] at h
      replace h : ((lcLoop ok turn r s1).bind fun ys st2 => Out.ok (consO o ys) st2) = .ok ys st2 := by rw [← h]; cases o <;> rfl
      cases e2 : lcLoop ok turn r s1 with
      | bad => rw [e2] at h; cases h
      | exc c a s => rw [e2] at h; cases h
      | ok zs s2 =>
        rw [e2] at h
        replace h : Out.ok (consO o zs) s2 = .ok ys st2 := h
        cases h
        exact ⟨o, s1, zs, rfl, e2, rfl⟩
  · cases h
theorem lc_nil {ok : Store → Bool} {turn : D → Store → Out (Option D)} {st st2 : Store} {ys : List D} (h : lcLoop ok turn [] st = .ok ys st2) : ok st = true ∧ st2 = st ∧ ys = [] := by
  rw [lcLoop] at h
  split at h
  · rename_i hk
    cases h
    exact ⟨hk, rfl, rfl⟩
  · cases h
section
variable {X : Cx} {L : Ln} {N : List Str} {sc : Scope} {cf : Bool} {E : XK} {f : Phi} {lv : Nat}
theorem GX.blk (G : GX X L N sc cf E f lv) {s2 : Scope} (hk : s2.kind = .function) (s : Shared) (H : Hp) (C : Addr) (cl : List (Str × Addr)) (fp : List Addr) :
    GX (X.blk s H s2 (compEnvC s2 cl C X.env) fp) L N (relS s2 sc) false (fun _ _ _ => False) f lv := by
  refine ⟨G.calm, G.nN, G.nd, ?_, hk, fun h => (by cases h), G.room, G.l2, ?_, G.lk⟩
  · show relabel s2 X.env = relS s2 sc
    rw [← G.hs]
    rfl
  · exact takes0
theorem lc_imp {e : DE} {tg : Tg} {it : DI} {cs : DEs} {own : List Nat} {m3 : List D → Store → Out D} {F : Fm} (hT : F.T = L.T) (hm : FinL F E m3) (hw : ∀ j ∈ tgL tg, j ∈ own) {σ : L2.St} {H : Hp} {Q : VK} (q : tG F E (Rp F) (lcM L.T f e tg it cs own m3) σ H Q) :
    tLc (tG F E (Wok F) (evI L.T f it)) (tgD F tg) (tG F (fun _ _ _ => False) Rb (evTs L.T f cs)) (tG F (fun _ _ _ => False) (Rp F) (evE L.T f e)) own σ H Q := by
  refine tG.bind (fun _ _ => rfl) q fun g1 H1 sl w st1 J hs1 S1 wk p1 => ?_
  cases el : lcLoop w.ok (lcTurn L.T f e tg cs own sl) w.xs st1 with
  | bad => rw [el] at p1; exact p1.elim
  | exc c a s => rw [el] at p1; exact p1.elim
  | ok ys st2 =>
    rw [el] at p1
    replace p1 : Post F E (Rp F) g1 H1 (if ys.length ≤ LIM then m3 ys st2 else .bad) Q := p1
    split at p1
    · rename_i hl
      intro D hD
      have gt := Ge.newTp (o := .lst []) S1 hD
      refine ⟨fun i m H => ∃ g st us acc zs, Ge g1 H1 g H ∧ StR F g H st ∧ g.r D = some .tmp ∧ H D = some (.lst us) ∧ Rps F g H acc us ∧ i ≤ w.xs.length ∧ m = w.xs.length - i ∧ lcLoop w.ok (lcTurn L.T f e tg cs own sl) (w.xs.drop i) st = .ok zs st2 ∧ acc ++ zs = ys,
        ⟨_, g1.tp D, st1, [], [], ys, gt, S1.newTp hD, Gh.tp_same, upd_same, .nil, Nat.zero_le _, rfl, el, rfl⟩, fun i m H ⟨g, st, us, acc, zs, ge, S, hr, hH, ra, hi, hm', hz, hy⟩ => ?_⟩
      by_cases hlt : i < w.xs.length
      · rw [List.drop_eq_getElem_cons hlt] at hz
        obtain ⟨hk, o, s1, zs', hturn, hrest, rfl⟩ := lc_cons hz
        obtain ⟨hgo, hyld⟩ := wk.go g H st i _ ge S hk (List.getElem?_eq_getElem hlt)
        refine .inr ⟨hgo, fun H' => ∃ g' acc' us', Ge g1 H1 g' H' ∧ StR F g' H' s1 ∧ g'.r D = some .tmp ∧ H' D = some (.lst us') ∧ Rps F g' H' acc' us' ∧ acc' ++ zs' = ys, ?_, ?_⟩
        · rintro H' ⟨g', acc', us', k1, k2, k3, k4, k5, k6⟩
          exact ⟨_, by omega, g', s1, us', acc', zs', k1, k2, k3, k4, k5, by omega, rfl, hrest, k6⟩
        · intro v H' hv
          obtain ⟨g', ge', S', rv⟩ := hyld v H' hv
          have keep : ∀ {g'' : Gh} {H'' : Hp}, Ge g' H' g'' H'' → g''.r D = some .tmp ∧ H'' D = some (.lst us) := fun k => by
            obtain ⟨a1, a2⟩ := (ge'.trans k).tmp D hr
            exact ⟨a1, a2.trans hH⟩
          unfold lcTurn at hturn
          split at hturn
          · rename_i sl2 hasg
            refine ⟨g', wipeD sl own, st, _, sl2, (hs1.ge (ge.trans ge')).wipe, S', rv, hasg, fun σ2 hs2 hwp => ⟨by rw [hwp own hw, wipe_two], g', sl2, st, hs2, S', ?_⟩⟩
            cases ec : evTs L.T f cs sl2 st with
            | bad => rw [ec] at hturn; cases hturn
            | exc c a s => rw [ec] at hturn; cases hturn
            | ok k st3 =>
              rw [ec] at hturn
              replace hturn : (if k = true then (evE L.T f e sl2 st3).bind fun y st4 => Out.ok (some y) st4 else .ok none st3) = .ok o s1 := hturn
              intro g3 H3 b ge3 S3 rb
              cases rb
              cases k with
              | false =>
                rw [if_neg (by simp)] at hturn ⊢
                cases hturn
                obtain ⟨a1, a2⟩ := keep ge3
                exact ⟨g3, acc, us, ge.trans (ge'.trans ge3), S3, a1, a2, Rps.ge (ge'.trans ge3) _ _ ra, hy⟩
              | true =>
                rw [if_pos rfl] at hturn ⊢
                refine ⟨g3, sl2, st3, hs2.ge ge3, S3, ?_⟩
                cases ee : evE L.T f e sl2 st3 with
                | bad => rw [ee] at hturn; cases hturn
                | exc c a s => rw [ee] at hturn; cases hturn
                | ok y st4 =>
                  rw [ee] at hturn
                  replace hturn : Out.ok (some y) st4 = .ok o s1 := hturn
                  cases hturn
                  intro g4 H4 u ge4 S4 ru
                  obtain ⟨a1, a2⟩ := keep (ge3.trans ge4)
                  have e2 : Gt D g4 H4 g4 (upd H4 D (.lst (us ++ [u]))) := ⟨fun _ _ => rfl, fun b hb => upd_ne hb, fun _ _ h => h, ⟨_, .inl a2⟩⟩
                  have gall := ge.trans (ge'.trans (ge3.trans ge4))
                  have r4 := Rps.ge (ge'.trans (ge3.trans ge4)) _ _ ra
                  refine ⟨us, a2, ?_, g4, acc ++ [y], us ++ [u], Ge.gt S1 hD gall e2, S4.gt a1 e2 (fun _ _ h => h) ⟨_, upd_same⟩, a1, upd_same, Rps.gt a1 e2 _ _ (r4.append (.cons ru .nil)), ?_⟩
                  · rw [← r4.len, ← LIM_eq]
                    have hy2 := congrArg List.length hy
                    rw [List.length_append] at hy2
                    have : (consO (some y) zs').length = zs'.length + 1 := rfl
                    omega
                  · rw [List.append_assoc]
                    exact hy
          · cases hturn
      · have hi2 : i = w.xs.length := by omega
        rw [List.drop_eq_nil_of_le (by omega)] at hz
        obtain ⟨hk, rfl, rfl⟩ := lc_nil hz
        rw [List.append_nil] at hy
        subst hy
        refine .inl ⟨by rw [hi2]; exact wk.stop g H _ ge S hk, hm S1 hD ge S hr hH ra p1⟩
    · exact p1.elim
theorem pd_lcG (G : GX X L N sc cf E f lv) {x t i : Expr} {ifs : List Expr} {s2 : Scope} {pos : Pos} {e : DE} {tg : Tg} {it : DI} {cs : DEs} {own : List Nat} {m3 : List D → Store → Out D} (hm : FinL (FX X L) E m3) (hb : blkC N sc s2 (ownN N own) = true) (hi : nset i = true)
    (pi : PI X t i (tI X L E f it)) (ht : ∀ (s : Shared) (H : Hp) (C : Addr) (cl : List (Str × Addr)) (fp : List Addr), PG (X.blk s H s2 (compEnvC s2 cl C X.env) fp) t (tgD (FX X L) tg))
    (hc : ∀ (s : Shared) (H : Hp) (C : Addr) (cl : List (Str × Addr)) (fp : List Addr), PTs (X.blk s H s2 (compEnvC s2 cl C X.env) fp) ifs (tTs X L (fun _ _ _ => False) f cs))
    (he : ∀ (s : Shared) (H : Hp) (C : Addr) (cl : List (Str × Addr)) (fp : List Addr), PE (X.blk s H s2 (compEnvC s2 cl C X.env) fp) x (tV X L (fun _ _ _ => False) f e))
    (hw : ∀ j ∈ tgL tg, j ∈ own) : PE X (.ListComp x [⟨t, i, ifs, 0⟩] s2 pos) (tG (FX X L) E (Rp (FX X L)) (lcM L.T f e tg it cs own m3)) := by
  have hown : (ownN N own).map (·.2) = own := by
    unfold ownN
    rw [List.map_map]
    exact List.map_id _
  have ok : BlkOk X.N X.env.scope s2 (ownN N own) := by
    rw [G.nN, G.hs]
    exact blkOk_by hb
  have key := pe_lc (pos := pos) G.calm (by rw [G.nN]; exact G.nd) pi ok ht hc he fun y => nset_ok hi y
  rw [hown] at key
  exact key.imp fun σ H Q q => lc_imp rfl hm hw q
end
end TS
end

section
set_option Elab.async false
set_option linter.all false
set_option maxRecDepth 100000
set_option maxHeartbeats 1000000
set_option autoImplicit false
namespace TS
open PySem PySem.Spec PyProof.Rows L2
theorem vals_fn : ∀ (us : List Value) (f : Nat → V), (∀ (j : Nat) (u : Value), us[j]? = some u → RelV (f j) u) → Vals ((List.range us.length).map f) us
  | [], f, h => .nil
  | u :: us, f, h => by
    rw [List.length_cons, List.range_succ_eq_map, List.map_cons, List.map_map]
    exact .cons (h 0 u rfl) (vals_fn us (f ∘ Nat.succ) fun j v e => h (j + 1) v e)
def dnV (i : Int) (n : Nat) : List V := (List.range n).map fun (t : Nat) => V.int (i - (t : Int))
def tDn (ta : TA) : TE := fun σ H Q => ta σ H fun vs H1 => ∃ (i j : Int), vs = [.int i, .int j, .int (-1)] ∧ -(2 ^ 62) ≤ i ∧ i < 2 ^ 62 ∧ -(2 ^ 62) ≤ j ∧ j < 2 ^ 62 ∧ (i - j).toNat ≤ 2 ^ 24 ∧ ∀ q, H1 q = none → Q (.ref q) (upd H1 q (.lst (dnV i (i - j).toNat)))
theorem pe_listDn {X : Cx} {a b c : Expr} {ta : TA} {p p2 pos pos2 : Pos} (hc : X.calm = true) (hg : Gl X "list") (hm : X.mg "list" = none) (hg2 : Gl X "range") (hm2 : X.mg "range" = none) (ha : PA X [a, b, c] ta)
    (hs : starEach [a, b, c] X.env = (false, eval a X.env) :: starEach [b, c] X.env) (hpl : (backTo pos2 (starEach [b, c] X.env)).any (·.1) = false) :
    PE X (.Call (.Name "list" p) [.Call (.Name "range" p2) [a, b, c] [] pos2] [] pos) (tDn ta) := by
  refine ⟨fun pins s σ H Q I h => ?_⟩
  have hin : ∀ (K : Value → Shared → Prop), (∀ r i j (t1 t2 t3 : Tok) H1 s2, IsRange s2.heap r i j (-1) t1 t2 t3 → Inv X pins σ H1 s2 → -(2 ^ 62) ≤ i → i < 2 ^ 62 → -(2 ^ 62) ≤ j → j < 2 ^ 62 → (i - j).toNat ≤ 2 ^ 24 → (∀ q, H1 q = none → Q (.ref q) (upd H1 q (.lst (dnV i (i - j).toNat)))) → K (.ref r) s2) →
      wpAny (model X.prog X.w) X.A (eval (.Call (.Name "range" p2) [a, b, c] [] pos2) X.env) K X.xe s := by
    intro K hK
    refine Call_ (ld_blt I hg2 hm2 boot_range (PyProof.Rows.callWith_type1 (thn (ha.run pos2 pins s σ H _ I h) fun us s1 ⟨vs, H1, I1, r1, q1⟩ => ?_) hs hpl))
    obtain ⟨i, j, rfl, b1, b2, b3, b4, b5, q⟩ := q1
    obtain ⟨u1, us1, rfl, r2, rr⟩ : ∃ u1 us1, us = u1 :: us1 ∧ RelV (.int i) u1 ∧ Vals [V.int j, V.int (-1)] us1 := by cases r1 with | cons x y => exact ⟨_, _, rfl, x, y⟩
    obtain ⟨u2, us2, rfl, r3, rr⟩ : ∃ u2 us2, us1 = u2 :: us2 ∧ RelV (.int j) u2 ∧ Vals [V.int (-1)] us2 := by cases rr with | cons x y => exact ⟨_, _, rfl, x, y⟩
    obtain ⟨u3, rfl, r4⟩ : ∃ u3, us2 = [u3] ∧ RelV (.int (-1)) u3 := by cases rr with | cons x y => cases y; exact ⟨_, rfl, x⟩
    obtain ⟨t1, rfl⟩ := r2
    obtain ⟨t2, rfl⟩ := r3
    obtain ⟨t3, rfl⟩ := r4
    refine call_range_3 (by decide) ?_ (.inl (PyProof.noPylong_small (by decide)))
    refine hK _ i j t1 t2 t3 H1 _ (IsRange.new ..) ?_ b1 b2 b3 b4 b5 q
    exact I1.kept (t' := s1.toks) fun b' o e => Heap.get?_push_of_some _ e
  have na : starEach [Expr.Call (.Name "range" p2) [a, b, c] [] pos2] X.env = (false, eval (.Call (.Name "range" p2) [a, b, c] [] pos2) X.env) :: starEach [] X.env := rfl
  refine Call_ (ld_blt I hg hm boot_list (PyProof.Rows.callWith_type1 (args_cons (hin _ fun r i j t1 t2 t3 H1 s2 hr I1 b1 b2 b3 b4 b5 q => args_nil ?_) na) na))
  obtain ⟨c0, c1, c2, c3⟩ := RgC.neg b1 b2 b3 b4
  refine call_list_range (n := (i - j).toNat) (I1.ok.hd hc) hr c2 c3 b5 fun h' tk acc c' hk e' hi => ?_
  have hv : Vals (dnV i (i - j).toNat) acc.toList := by
    have el : acc.toList.length = (i - j).toNat := by rw [Array.length_toList]; exact hi.1
    unfold dnV
    rw [← el]
    refine vals_fn acc.toList _ fun k u hk' => ?_
    obtain ⟨t, rfl⟩ := hi.2 k u (by rw [← hk', Array.getElem?_toList])
    exact ⟨t, by congr 1; omega⟩
  refine ⟨.ref s2.heap.objs.size, upd H1 s2.heap.objs.size (.lst (dnV i (i - j).toNat)), I1.laid hk (Nat.le_refl _) (show ObjOk X.prog X.w _ _ _ (.lst (dnV i (i - j).toNat)) from ⟨?_, acc.toList, c', hv, ?_⟩), rfl, q _ (I1.hok.fresh (Nat.le_refl _))⟩
  · unfold dnV; rw [List.length_map, List.length_range, sizeLine_eq]; omega
  · rw [Array.toArray_toList]; exact e'
end TS
end

section
set_option Elab.async false
set_option linter.all false
set_option maxRecDepth 100000
set_option maxHeartbeats 3200000
set_option autoImplicit false
namespace TS
open PySem PySem.Spec PyProof.Rows L2
def Wlk (w : World) (D : Froz.SD) : Prop := Ris D.2.2.place.toList ∧ (w.params.followText "set-order" = true ∨ D.2.2.led = true)
theorem Wlk.tail {w : World} {ep : Nat} {es : Array (Int × Value)} {t : SetTable} {b : Bool} (h1 : Ris t.place.toList) (h2 : w.params.followText "set-order" = true ∨ t.led = true) : Wlk w (Froz.tailTx ep es t b) := by
  unfold Froz.tailTx
  split
  · exact ⟨relayAll_ris .., h2.imp id fun z => by
      show (relayAll t es (SetTable.grown es.size)).2.1.led = true
      rw [relayAll_led]; exact z⟩
  · exact ⟨h1, h2⟩
theorem Wlk.add {w : World} {D : Froz.SD} {z : Int} {v : Value} (h : Wlk w D) : Wlk w (Froz.addTx z v D) := by
  obtain ⟨es, ep, t⟩ := D
  obtain ⟨h1, h2⟩ := h
  have g1 := layNew_ris t es z v h1
  have g2 := layNew_led t es z v
  unfold Froz.addTx
  refine Wlk.tail ?_ ?_
  · dsimp only at g1 ⊢
    split <;> exact g1
  · dsimp only at g2 h2 ⊢
    refine h2.imp id fun q => ?_
    split
    · exact g2.trans q
    · exact g2.trans q
theorem tail_perm {ep : Nat} {es : Array (Int × Value)} {t : SetTable} {b : Bool} : (Froz.tailTx ep es t b).1.toList.Perm es.toList := by
  unfold Froz.tailTx
  split
  · exact relayAll_perm _ _ _
  · exact .refl _
theorem add_perm {z : Int} {v : Value} {D : Froz.SD} : (Froz.addTx z v D).1.toList.Perm (D.1.push (z, v)).toList := by
  obtain ⟨es, ep, t⟩ := D
  unfold Froz.addTx
  exact tail_perm.trans (layNew_perm t es z v)
def txs (D : Froz.SD) : List Str := D.1.toList.map fun e => strOf e.2
theorem txs_add {z : Int} {k : Str} {u : Tok} {D : Froz.SD} : (txs (Froz.addTx z (.str k u) D)).Perm (k :: txs D) := by
  have g := (add_perm (z := z) (v := .str k u) (D := D)).map fun e => strOf e.2
  rw [Array.toList_push, List.map_append] at g
  exact g.trans (List.perm_append_singleton _ _)
section
variable {P : Program} {w : World} {A : Around} {E : Value → Shared → Prop} {s : Shared}
theorem txs_mem {D : Froz.SD} {l : List Str} (F : Froz.TxOk P w D l) {k : Str} : k ∈ txs D ↔ k ∈ l := by
  rw [F.mem]
  unfold txs
  rw [List.mem_map]
  constructor
  · rintro ⟨e, he, rfl⟩
    obtain ⟨⟨x, ix, _⟩, _⟩ := F.el e he
    refine ⟨e, he, ?_⟩
    have ix' : Value.isStrOf x e.2 = true := ix
    show Value.isStrOf (strOf e.2) e.2 = true
    cases h : e.2 <;> rw [h] at ix' <;> first | (simp [Value.isStrOf] at ix'; done) | (simp [Value.isStrOf, strOf])
  · rintro ⟨e, he, ie⟩
    refine ⟨e, he, ?_⟩
    have ie' : Value.isStrOf k e.2 = true := ie
    cases h : e.2 <;> rw [h] at ie' <;> first | (simp [Value.isStrOf] at ie'; done) | (simp [Value.isStrOf] at ie'; simp [strOf, ie'])
theorem txs_are {D : Froz.SD} {l : List Str} (F : Froz.TxOk P w D l) {e : Int × Value} (he : e ∈ D.1.toList) : ∃ x t, e.2 = .str x t := by
  obtain ⟨⟨x, ix, _⟩, _⟩ := F.el e he
  have ix' : Value.isStrOf x e.2 = true := ix
  cases h : e.2 <;> rw [h] at ix' <;> first | (simp [Value.isStrOf] at ix'; done) | exact ⟨_, _, rfl⟩
theorem add_there {a : Addr} {T : String} {D : Froz.SD} {l : List Str} {k : Str} {u : Tok} {Q : Bool → Shared → Prop} (ho : s.heap.get? a = some (Froz.sObj T D)) (F : Froz.TxOk P w D l) (there : k ∈ l) (few : l.length < scanBound)
    (q : Q false s) : wpAny (model P w) A (setAddHashed a (.str k u) (hashStr w k)) Q E s := by
  obtain ⟨es, ep, t⟩ := D
  have data : (Froz.sObj T (es, ep, t)).data = .set es ep t := rfl
  have n0 : es.size = l.length := F.sz
  have f0 : t.fits es.size = true := F.fit
  have e0 : ElemsOf (strKind P w) es.toList := F.el
  obtain ⟨x, mx, ix⟩ := (F.mem k).mp there
  obtain ⟨j, fj⟩ : ∃ j, List.findIdx? (fun y => (strKind P w).is k y.2) es.toList = some j := by
    cases z : List.findIdx? (fun y => (strKind P w).is k y.2) es.toList with
    | some j => exact ⟨j, rfl⟩
    | none =>
      have c := List.findIdx?_eq_none_iff.mp z x mx
      rw [ix] at c
      cases c
  unfold setAddHashed
  unfold setAddHashedIn
  refine wpAny_holding (wpAny_bind (wpAny_setState_of ho data f0 ?_))
  dsimp only
  rw [byScan_of rfl (by omega) e0]
  simp only [↓reduceIte]
  unfold setAddByScan
  refine wpAny_bind (wpAny_bind (wpAny_rule (wpAny_bind (wpAny_setScan_of (knd := strKind P w) (k := k) (Froz.is_str k u) ho data f0 e0 ?_))))
  rw [fj]
  exact wpAny_pure (wpAny_pure q)
def TxS (P : Program) (w : World) (h : Heap) (a : Addr) (ss : List Str) : Prop :=
  ∃ D l, h.get? a = some (Froz.sObj "set" D) ∧ Froz.TxOk P w D l ∧ Wlk w D ∧ (txs D).Nodup ∧ (∀ k, k ∈ l ↔ k ∈ ss) ∧ l.length ≤ ss.length
theorem TxS.at {h h' : Heap} {a : Addr} {ss : List Str} (R : TxS P w h a ss) (k : ∀ o, h.get? a = some o → h'.get? a = some o) : TxS P w h' a ss := by
  obtain ⟨D, l, ho, r⟩ := R
  exact ⟨D, l, k _ ho, r⟩
theorem add_tx {a : Addr} {ss : List Str} {k : Str} {u : Tok} {Q : Bool → Shared → Prop} (R : TxS P w s.heap a ss) (few : ss.length + 1 < scanBound)
    (q : ∀ b h', Heap.SameBut a s.heap h' → TxS P w h' a (ss ++ [k]) → Q b { s with heap := h' }) : wpAny (model P w) A (setAddHashed a (.str k u) (hashStr w k)) Q E s := by
  obtain ⟨D, l, ho, F, W, nd, hm, hl⟩ := R
  by_cases c : k ∈ l
  · refine add_there ho F c (by omega) (q false s.heap (.refl a s.heap) ⟨D, l, ho, F, W, nd, fun x => ?_, by rw [List.length_append]; omega⟩)
    rw [hm, List.mem_append, List.mem_singleton]
    exact ⟨.inl, fun z => z.elim id fun e => e ▸ (hm k).mp c⟩
  · refine Froz.add_x ho F c (by omega) (q true _ (Heap.SameBut.update ..) ⟨_, k :: l, Froz.get_upd _ ho rfl, Froz.add_ok u F, W.add, (txs_add.nodup_iff).mpr (List.nodup_cons.mpr ⟨fun z => c ((txs_mem F).mp z), nd⟩), fun x => ?_, by rw [List.length_append, List.length_cons, List.length_singleton]; omega⟩)
    rw [List.mem_cons, hm, List.mem_append, List.mem_singleton]
    exact Or.comm
theorem fill_tx {I S : Addr} {fp wr : List Addr} {G : Array GenState → Array GenState → Prop} {n : Nat} {Pv : Nat → Value → Prop} {St : Nat → Shared → Prop} {R : Result → Shared → Prop}
    (W : WalksS P w A.in1 I fp wr G n Pv St) (out : S ∉ fp) {ss : List Str} (hn : n = ss.length) (few : ss.length + 1 < scanBound) (vals : ∀ i v, Pv i v → ∃ k t, ss[i]? = some k ∧ v = .str k t) :
    ∀ (m i : Nat) (s : Shared), n - i = m → i ≤ n → St i s → TxS P w s.heap S (ss.take i) →
      (∀ s', Moved (S :: wr) G s s' → TxS P w s'.heap S ss → R (.ok (.ret .none)) s') → codeAny (model P w) A (.builtin "set.update.loop" ⟨[.ref S, .ref I], []⟩) R s := by
  have nw : S ∉ wr := fun z => out (W.sub _ z)
  have more : ∀ b ∈ wr, b ∈ S :: wr := fun b z => List.mem_cons_of_mem _ z
  intro m
  induction m with
  | zero =>
    intro i s e0 e1 st hS hR
    obtain rfl : i = n := by omega
    rw [List.take_of_length_le (Nat.le_of_eq hn.symm)] at hS
    refine codeAny_builtin F.entry_set_update_loop ?_
    rw [Around.under_plainId F.plain_set_update_loop _]
    refine wpAny_bind (W.done s _ _ st fun s' mv => wpAny_pure (hR s' (mv.mono more) (hS.at fun o e => mv.heap S o nw e)))
  | succ m ih =>
    intro i s e0 e1 st hS hR
    refine codeAny_builtin F.entry_set_update_loop ?_
    rw [Around.under_plainId F.plain_set_update_loop _]
    refine wpAny_bind (W.item i s _ _ (by omega) st fun v s' pv st' mv => ?_)
    obtain ⟨z, t, hz, rfl⟩ := vals i v pv
    have hS' := hS.at (h' := s'.heap) fun o e => mv.heap S o nw e
    have tl : (ss.take i).length ≤ ss.length := by rw [List.length_take]; exact Nat.min_le_right _ _
    refine wpAny_bind (wpAny_holding ?_)
    unfold setAdd
    refine wpAny_holding (wpAny_bind ((strKind P w).pyHash (k := z) (Froz.is_str z t) ?_))
    refine add_tx (s := { s' with toks := s'.toks + 1 }) (ss := ss.take i) (k := z) hS' (by omega) fun b h' sb hS2 => ?_
    have e2 : ss.take i ++ [z] = ss.take (i + 1) := by rw [List.take_add_one, hz]; rfl
    rw [e2] at hS2
    refine wpAny_pure ⟨plainId_quiet F.plain_set_update_loop _, ih (i + 1) _ (by omega) (by omega) (W.frame _ s' _ _ st' (Nat.le_succ _) fun c hc o e => ?_) hS2 fun s2 mv2 hS3 => hR s2 (Moved.trans W.gtrans ((mv.mono more).then_heap (Nat.le_succ _) fun c o hc e => ?_) mv2) hS3⟩
    · rw [sb.2 c fun h : c = S => out (h ▸ hc)]; exact e
    · rw [sb.2 c fun h : c = S => hc (by rw [h]; exact List.mem_cons_self)]; exact e
theorem tx_new {h : Heap} {a : Addr} (ho : h.get? a = some { cls := .type "set", dict := none, data := .set #[] 0 (.fresh 0 0 (!w.params.followText "set-order")) }) : TxS P w h a [] :=
  ⟨(#[], 0, .fresh 0 0 (!w.params.followText "set-order")), [], ho, .nil (by rfl), ⟨List.Pairwise.nil, by
    show _ ∨ (!w.params.followText "set-order") = true
    cases w.params.followText "set-order"
    · exact .inr rfl
    · exact .inl rfl⟩, List.nodup_nil, fun _ => Iff.rfl, Nat.le_refl _⟩
end
end TS
end

section
set_option Elab.async false
set_option linter.all false
set_option maxRecDepth 100000
set_option maxHeartbeats 3200000
set_option autoImplicit false
namespace TS
open PySem PySem.Spec PyProof.Rows L2
section
variable {P : Program} {w : World} {A : Around} {E : Value → Shared → Prop} {s : Shared}
abbrev so (w : World) : Obj := { cls := .type "set", dict := none, data := .set #[] 0 (.fresh 0 0 (!w.params.followText "set-order")) }
theorem set_of_texts {a : Addr} {us : Array Value} {ss : List Str} {Q : Value → Shared → Prop} (calm : A.handled = none) (la : s.heap.IsList a us) (tx : StrsAre us.toList ss) (few : ss.length + 1 < scanBound)
    (q : ∀ (h' : Heap) (tk : Nat), TxS P w h' s.heap.objs.size ss → (∀ b o, s.heap.get? b = some o → h'.get? b = some o) → Q (.ref s.heap.objs.size) { s with heap := h', toks := tk }) :
    wpAny (model P w) A (call (.type "set") [.ref a]) Q E s := by
  have n0 : us.size = ss.length := by rw [← tx.length, Array.length_toList]
  obtain ⟨_, _, mr⟩ := F.called_set.mro
  have k1 := F.called_set.made
  have k2 := F.called_set.sub
  have k3 := F.called_set.notType
  have k4 := F.called_set.canCreate
  have k5 := F.typeCall_set_1 (.ref a)
  refine wpAny_call (codeAny_of_tree ?_)
  show wpAny _ _ (callAny (.type "set") _) _ _ _
  refine wpAny_pure (And.intro (Code.quiet_builtin _ (by decide +kernel)) (codeAny_builtin F.entry_type_call ?_))
  rw [Around.under_plain (weight_type_call_type "set" [Value.ref a] []) rfl]
  repeat (any_goals (first | assumption | wp_step))
  refine codeAny_mono (code_set_led1 (.ref a) (E := E) (Q₁ := fun y s1 => y = .ref s.heap.objs.size ∧ s1 = { s with heap := s.heap.push (so w) }) ⟨rfl, rfl⟩) fun r s1 hr => ?_
  cases r with
  | error e => exact hr
  | ok fl =>
    cases fl with
    | next => exact hr.elim
    | brk => exact hr.elim
    | cont => exact hr.elim
    | ret y =>
      obtain ⟨rfl, rfl⟩ := hr
      have gS : (s.heap.push (so w)).get? s.heap.objs.size = some (so w) := Heap.get?_push_size _ rfl
      have tS : Shared.TypeIs { s with heap := s.heap.push (so w) } (.ref s.heap.objs.size) "set" := ⟨_, gS, rfl⟩
      have k6 := F.called_set.init.lookup
      have k7 := F.called_set.init.bind (.ref s.heap.objs.size)
      repeat (any_goals (first | assumption | wp_step))
      refine codeAny_mono (codeAny_call_builtin (R := wants (fun y s2 => y = .none ∧ ∃ h' tk, s2 = { s with heap := h', toks := tk } ∧ TxS P w h' s.heap.objs.size ss ∧ (∀ b o, s.heap.get? b = some o → h'.get? b = some o)) E) F.called_set.init.plain F.entry_set_init (check_set_init_1 tS ?_)) fun r2 s2 hr2 => ?_
      · obtain ⟨⟨oc, od, dt, osl⟩, ga, hc, n, hd⟩ := la
        simp only at hc hd
        subst hc
        subst hd
        have ga1 : (s.heap.push (so w)).get? a = some { cls := .type "list", dict := od, data := .seq us n, slots := osl } := Heap.get?_push_of_some _ ga
        have k8 := F.sub_list_set
        have k9 := F.sub_list_frozenset
        have k10 : (Value.type "list" == Value.type "dict") = false := by decide
        have la1 : (s.heap.push (so w)).IsList a us := ⟨_, ga1, rfl, n, rfl⟩
        have lt : a < s.heap.objs.size := Heap.lt_size ga
        have sz1 : (s.heap.push (so w)).objs.size = s.heap.objs.size + 1 := Heap.size_push ..
        have c3 : A.in1.in1.in1.handled = none := by simp [calm]
        unfold Builtin.«set.__init__» noKeywords
        unfold Builtin.Frozenset.updateFrom
        generalize hPI : pyIter = PI
        wp_walk
        subst hPI
        refine wpAny_pyIter_list la1 (wpAny_bind (wpAny_runValue ?_))
        have dI : a ≠ (s.heap.push (so w)).objs.size := by rw [sz1]; exact Nat.ne_of_lt (Nat.lt_succ_of_lt lt)
        have dS : s.heap.objs.size ∉ [(s.heap.push (so w)).objs.size, a] := by
          rw [sz1, List.mem_cons, List.mem_singleton]
          exact fun z => z.elim (fun z => Nat.ne_of_lt (Nat.lt_succ_self _) z) fun z => Nat.ne_of_gt lt z
        refine fill_tx ((Walks.list c3 _ a dI us).toS) dS n0 few (fun i v hv => ?_) us.size 0 _ (by omega) (Nat.zero_le _) ⟨⟨_, Heap.get?_push_size _ rfl, rfl, rfl⟩, la1.push _⟩ (tx_new (Heap.get?_push_of_some _ gS)) fun s' mv hS => ?_
        · obtain ⟨z, t, e1, e2⟩ := tx.item i v (by rw [Array.getElem?_toList]; exact hv)
          exact ⟨z, t, e2, e1⟩
        · obtain ⟨h', g', d', tk', os'⟩ := s'
          obtain rfl : g' = s.gens := mv.gens
          obtain rfl : d' = s.drawn := mv.drawn
          obtain rfl : os' = s.os := mv.os
          refine wpAny_pure ?_
          show wpAny _ _ (ret Value.none) _ _ _
          refine wpAny_pure ⟨rfl, h', tk', rfl, hS, fun b o e => mv.heap b o (fun z => ?_) (Heap.get?_push_of_some _ (Heap.get?_push_of_some _ e))⟩
          have bl := Heap.lt_size e
          rw [List.mem_cons, List.mem_singleton, sz1] at z
          exact z.elim (fun z => Nat.ne_of_lt bl z) fun z => Nat.ne_of_lt (Nat.lt_succ_of_lt bl) z
      · cases r2 with
        | error e => exact hr2
        | ok fl2 =>
          cases fl2 with
          | next => exact hr2.elim
          | brk => exact hr2.elim
          | cont => exact hr2.elim
          | ret y =>
            obtain ⟨rfl, h', tk, rfl, hS, hk⟩ := hr2
            repeat (any_goals (first | assumption | wp_step))
            exact q _ _ hS hk
end
end TS
end

section
set_option Elab.async false
set_option linter.all false
set_option maxRecDepth 100000
set_option maxHeartbeats 1000000
set_option autoImplicit false
namespace TS
open PySem PySem.Spec PyProof.Rows L2
theorem ded_nodup : ∀ {l : List Str}, (dedS l).Nodup
  | [] => List.nodup_nil
  | x :: l => by
    unfold dedS
    split
    · exact ded_nodup
    · exact List.nodup_cons.mpr ⟨by assumption, ded_nodup⟩
theorem ded_mem : ∀ {l : List Str} {k : Str}, k ∈ dedS l ↔ k ∈ l
  | [], k => Iff.rfl
  | x :: l, k => by
    unfold dedS
    split
    · rename_i h
      rw [ded_mem, List.mem_cons]
      exact ⟨.inr, fun z => z.elim (fun e => e ▸ (ded_mem.mp h)) id⟩
    · rw [List.mem_cons, List.mem_cons, ded_mem]
section
variable {P : Program} {w : World} {A : Around} {E : Value → Shared → Prop} {s : Shared}
theorem sorted_tx {a : Addr} {ss : List Str} {Q : Value → Shared → Prop} (R : TxS P w s.heap a ss) (calm : A.handled = none) (few : ss.length < 64)
    (q : ∀ s' p (out : Array Value) (c : Nat), (∀ b o, s.heap.get? b = some o → s'.heap.get? b = some o) → s'.gens = s.gens → s'.os = s.os → s.heap.objs.size ≤ p → s'.heap.get? p = some (seqObj "list" out c) →
      StrsAre out.toList (sortStr (dedS ss)) → Q (.ref p) s') : wpAny (model P w) A (call (.builtin "sorted") [.ref a]) Q E s := by
  obtain ⟨D, l, ho, F, W, nd, hm, hl⟩ := R
  have n0 : D.1.size = l.length := F.sz
  have sb : D.1.size < scanBound := Nat.lt_of_lt_of_le (by omega : D.1.size < 64) (by decide)
  refine Calls.call_function_entry kind_sorted plain_sorted entry_sorted (args_sorted1 _) ?_
  unfold Builtin.«sorted»
  refine wpAny_bind (m := checkCount "sorted" 1 1 _) (wpAny_pure ?_)
  refine wpAny_bind (collect_set (A := A.in1) calm ⟨_, ho, rfl, rfl⟩ F.fit sb W.1 W.2 fun s1 vs k1 z1 g1 o1 pm => ?_)
  have vl : vs.length < 64 := by rw [pm.length_eq, List.length_map, Array.length_toList]; omega
  have va : StrsAre vs (vs.map strOf) := strsAre_map vs fun v hv => by
    obtain ⟨e, he, rfl⟩ := List.mem_map.mp (pm.mem_iff.mp hv)
    exact txs_are F he
  have pk : (vs.map strOf).Perm (txs D) := by
    have z := pm.map strOf
    rw [List.map_map] at z
    exact z
  refine wpAny_bind (wpAny_newList ?_ (by rw [sizeLine_eq]; omega))
  have oL : (s1.heap.push (seqObj "list" vs.toArray 0)).get? s1.heap.objs.size = some (seqObj "list" vs.toArray 0) := Heap.get?_push_size _ rfl
  refine wpAny_bind (wpAny_holding (wpAny_call_entry slot_list_sort ⟨_, oL, rfl⟩ entry_list_sort (list_sort_treeK strKind_oneLt oL va.keysOf (fun x y r e => keyKind_strs (by rw [← e]; exact va)) vl fun st' h1 h2 => ⟨_, rfl, ?_⟩) (args_list_sort _)))
  obtain ⟨ys, y1, y2, y3⟩ := sorted_out_str va h1 h2
  obtain ⟨c, hc⟩ := sortedHeap_at (vs := vs) (out := (arrOf st').map (·.2)) oL
  have py : ys.Perm (dedS ss) := (y2.trans pk).trans ((List.perm_ext_iff_of_nodup nd ded_nodup).mpr fun k => by rw [txs_mem F, hm, ded_mem])
  rw [sort_unique py y3] at y1
  refine wpAny_pure ⟨_, rfl, q _ s1.heap.objs.size _ c (fun b o e => ?_) g1 o1 z1 hc y1⟩
  have e1 := k1 b o e
  have lt := Heap.lt_size e1
  show (sortedHeap (s1.heap.push (seqObj "list" vs.toArray 0)) s1.heap.objs.size vs _).get? b = some o
  rw [sortedHeap_old (Nat.ne_of_lt lt) (by rw [size_push']; exact Nat.lt_succ_of_lt lt)]
  exact Heap.get?_push_of_some _ e1
end
def tSset (K : PySem.W.Frag) (ta : TA) : TE := fun σ H Q => ta σ H fun vs H1 => ∃ (a : Addr) (ss : List Str), vs = [V.ref a] ∧ SqL K H1 a (ss.map V.str) ∧ ss.length < 64 ∧ ∀ q, H1 q = none → Q (.ref q) (upd H1 q (.lst ((sortStr (dedS ss)).map V.str)))
theorem pe_sset {X : Cx} {e : Expr} {ta : TA} {p p2 pos pos2 : Pos} (hc : X.calm = true) (hg : Gl X "sorted") (hm : X.mg "sorted" = none) (hg2 : Gl X "set") (hm2 : X.mg "set" = none) (ha : PA X [e] ta) (hs : starEach [e] X.env = [(false, eval e X.env)]) :
    PE X (.Call (.Name "sorted" p) [.Call (.Name "set" p2) [e] [] pos2] [] pos) (tSset X.K ta) := by
  refine ⟨fun pins s σ H Q I h => ?_⟩
  have na : starEach [Expr.Call (.Name "set" p2) [e] [] pos2] X.env = (false, eval (.Call (.Name "set" p2) [e] [] pos2) X.env) :: starEach [] X.env := rfl
  have inner : ∀ (K : Value → Shared → Prop), (∀ r ss H1 s2, TxS X.prog X.w s2.heap r ss → Inv X pins σ H1 s2 → ss.length < 64 → (∀ q, H1 q = none → Q (.ref q) (upd H1 q (.lst ((sortStr (dedS ss)).map V.str)))) → K (.ref r) s2) →
      wpAny (model X.prog X.w) X.A (eval (.Call (.Name "set" p2) [e] [] pos2) X.env) K X.xe s := by
    intro K hK
    refine Call_ (ld_blt I hg2 hm2 PyProof.Rows.boot_set (PyProof.Rows.callWith_type1 (thn (ha.run pos2 pins s σ H _ I h) fun us s1 ⟨vs, H1, I1, r1, q1⟩ => ?_) hs rfl))
    obtain ⟨a, ss, rfl, hq, few, q⟩ := q1
    rw [Vals.ref1 r1]
    obtain ⟨its, rv, hl, _⟩ := I1.list hq
    refine set_of_texts (I1.ok.hd hc) hl.isList rv.strs (Nat.lt_of_lt_of_le (by omega : ss.length + 1 < 66) (by decide)) fun h' tk R k => ?_
    exact hK _ ss H1 _ R (I1.kept (t' := tk) k) few q
  refine Call_ (ld_blt I hg hm boot_sorted (PyProof.Rows.callWith_builtin1 (args_cons (inner _ fun r ss H1 s2 R I1 few q => args_nil ?_) na) na))
  refine sorted_tx R (I1.ok.hd hc) few fun s' p' out c kall g2 o2 hp hob hst => ?_
  have dl : (dedS ss).length ≤ ss.length := by
    clear q few R hst
    induction ss with
    | nil => exact Nat.le_refl _
    | cons x r ih =>
      unfold dedS
      split
      · exact Nat.le_trans ih (Nat.le_succ _)
      · rw [List.length_cons, List.length_cons]; exact Nat.succ_le_succ ih
  have len : ((sortStr (dedS ss)).map V.str).length ≤ sizeLine := by
    rw [List.length_map, sort_perm.length_eq]
    exact small64 (by omega)
  refine ⟨.ref p', upd H1 p' (.lst ((sortStr (dedS ss)).map V.str)), I1.call' (ch := []) o2 (Un.laid kall hp (I1.hok.fresh hp)) (I1.hok.laid kall hp ?_) (by rw [g2]; exact I1.bare) (fun _ z => nomatch z), rfl, q _ (I1.hok.fresh hp)⟩
  exact ⟨len, out.toList, c, vals_of_strs hst, by rw [Array.toArray_toList]; exact hob⟩
end TS
end

section
set_option Elab.async false
set_option linter.all false
set_option maxRecDepth 100000
set_option maxHeartbeats 1000000
set_option autoImplicit false
namespace TS
open PySem PySem.Spec PyProof.Rows L2
def dcTurn (T : Tab) (f : Phi) (k e : DE) (tg : Tg) (cs : DEs) (own : List Nat) (sl : Slots) (x : D) (st : Store) : Out (Option D) := match asgV tg (wipeD sl own) x with
  | some sl2 => (evTs T f cs sl2 st).bind fun b st3 => if b = true then (evE T f k sl2 st3).bind fun y st4 => (evE T f e sl2 st4).bind fun z st5 => .ok (some (.tup [y, z])) st5 else .ok none st3
  | none => .bad
def dcM (T : Tab) (f : Phi) (k e : DE) (tg : Tg) (it : DI) (cs : DEs) (own : List Nat) (sl : Slots) (st : Store) : Out D := (evI T f it sl st).bind fun w st1 => match lcLoop w.ok (dcTurn T f k e tg cs own sl) w.xs st1 with
  | .ok ys st2 => match prsD ys with
    | some ps => if ps.length ≤ LIM then .ok (.dic (putAllK ps []) (putAllD ps [] [])) st2 else .bad
    | none => .bad
  | _ => .bad
theorem evE_dcM {T : Tab} {f : Phi} {k e : DE} {tg : Tg} {it : DI} {cs : DEs} {own : List Nat} {sl : Slots} {st : Store} : evE T f (.dc k e tg it cs own) sl st = dcM T f k e tg it cs own sl st := by
  rw [evE_dc]
  unfold dcM
  cases evI T f it sl st with
  | bad => rfl
  | exc c a s => rfl
  | ok w s =>
    show nox (Out.bind (lcLoop w.ok (dcTurn T f k e tg cs own sl) w.xs s) _) = _
    cases h : lcLoop w.ok (dcTurn T f k e tg cs own sl) w.xs s with
    | bad => show _ = (match lcLoop w.ok (dcTurn T f k e tg cs own sl) w.xs s with | .ok ys st2 => _ | _ => _); rw [h]; rfl
    | exc c a s => show _ = (match lcLoop w.ok (dcTurn T f k e tg cs own sl) w.xs _ with | .ok ys st2 => _ | _ => _); rw [h]; rfl
    | ok ys s2 =>
      show nox (match prsD ys with | some ps => if ps.length ≤ LIM then Out.ok (D.dic (putAllK ps []) (putAllD ps [] [])) s2 else .bad | none => .bad) = (match lcLoop w.ok (dcTurn T f k e tg cs own sl) w.xs s with | .ok ys st2 => _ | _ => _)
      rw [h]
      show _ = (match prsD ys with | some ps => if ps.length ≤ LIM then Out.ok (D.dic (putAllK ps []) (putAllD ps [] [])) s2 else .bad | none => .bad)
      cases prsD ys with
      | none => rfl
      | some ps =>
        show nox (if ps.length ≤ LIM then Out.ok (D.dic (putAllK ps []) (putAllD ps [] [])) s2 else .bad) = if ps.length ≤ LIM then Out.ok (D.dic (putAllK ps []) (putAllD ps [] [])) s2 else .bad
        split <;> rfl
theorem prsD_app : ∀ {a b : List D} {ps : List (Key × D)}, prsD (a ++ b) = some ps → ∃ pa pb, prsD a = some pa ∧ prsD b = some pb ∧ ps = pa ++ pb
  | [], b, ps, h => ⟨[], ps, rfl, h, rfl⟩
  | z :: a, b, ps, h => by
    rw [List.cons_append] at h
    unfold prsD at h
    split at h
    · rename_i q; cases q
    · rename_i k x r q
      cases q
      split at h
      · rename_i kk ps' e1 e2
        cases h
        obtain ⟨pa, pb, h1, h2, h3⟩ := prsD_app e2
        refine ⟨(kk, x) :: pa, pb, ?_, h2, by rw [h3]; rfl⟩
        unfold prsD
        rw [e1, h1]
      · cases h
    · cases h
theorem prsD_one {y z : D} {ps : List (Key × D)} (h : prsD [.tup [y, z]] = some ps) : ∃ q, keyOf y = some q ∧ ps = [(q, z)] := by
  unfold prsD at h
  split at h
  · rename_i kk ps' e1 e2
    cases h
    unfold prsD at e2
    cases e2
    exact ⟨kk, e1, rfl⟩
  · cases h
theorem putK_snoc : ∀ {ps : List (Key × D)} {p : Key × D} {ks : List Key}, putAllK (ps ++ [p]) ks = dputK (putAllK ps ks) p.1
  | [], p, ks => rfl
  | q :: ps, p, ks => putK_snoc (ps := ps)
theorem putD_snoc : ∀ {ps : List (Key × D)} {p : Key × D} {ks : List Key} {ds : List D}, putAllD (ps ++ [p]) ks ds = dputD (putAllK ps ks) (putAllD ps ks ds) p.1 p.2
  | [], p, ks, ds => rfl
  | q :: ps, p, ks, ds => putD_snoc (ps := ps)
theorem putK_len : ∀ {ps : List (Key × D)} {ks : List Key}, (putAllK ps ks).length ≤ ps.length + ks.length
  | [], ks => by rw [putAllK]; simp
  | p :: ps, ks => by
    have h := putK_len (ps := ps) (ks := dputK ks p.1)
    have h2 : (dputK ks p.1).length ≤ ks.length + 1 := by unfold dputK; split <;> simp
    rw [putAllK, List.length_cons]
    omega
section
variable {X : Cx} {L : Ln} {N : List Str} {sc : Scope} {cf : Bool} {E : XK} {f : Phi} {lv : Nat}
theorem dc_imp {k e : DE} {tg : Tg} {it : DI} {cs : DEs} {own : List Nat} {F : Fm} (hT : F.T = L.T) (hw : ∀ j ∈ tgL tg, j ∈ own) {σ : L2.St} {H : Hp} {Q : VK} (q : tG F E (Rp F) (dcM L.T f k e tg it cs own) σ H Q) :
    tDc (tG F E (Wok F) (evI L.T f it)) (tgD F tg) (tG F (fun _ _ _ => False) Rb (evTs L.T f cs)) (tG F (fun _ _ _ => False) (Rp F) (evE L.T f k)) (tG F (fun _ _ _ => False) (Rp F) (evE L.T f e)) own σ H Q := by
  refine tG.bind (fun _ _ => rfl) q fun g1 H1 sl w st1 J hs1 S1 wk p1 => ?_
  cases el : lcLoop w.ok (dcTurn L.T f k e tg cs own sl) w.xs st1 with
  | bad => rw [el] at p1; exact p1.elim
  | exc c a s => rw [el] at p1; exact p1.elim
  | ok ys st2 =>
    rw [el] at p1
    replace p1 : Post F E (Rp F) g1 H1 (match prsD ys with | some ps => if ps.length ≤ LIM then .ok (.dic (putAllK ps []) (putAllD ps [] [])) st2 else .bad | none => .bad) Q := p1
    split at p1
    · rename_i ps hps
      split at p1
      · rename_i hl
        intro D hD
        have gt := Ge.newTp (o := .dK []) S1 hD
        refine ⟨fun i m H => ∃ g st us acc pa zs, Ge g1 H1 g H ∧ StR F g H st ∧ g.r D = some .tmp ∧ prsD acc = some pa ∧ H D = some (.dK ((putAllK pa []).zip us)) ∧ (putAllK pa []).length = us.length ∧ Rps F g H (putAllD pa [] []) us ∧ i ≤ w.xs.length ∧ m = w.xs.length - i ∧ lcLoop w.ok (dcTurn L.T f k e tg cs own sl) (w.xs.drop i) st = .ok zs st2 ∧ acc ++ zs = ys,
          ⟨_, g1.tp D, st1, [], [], [], ys, gt, S1.newTp hD, Gh.tp_same, rfl, upd_same, rfl, .nil, Nat.zero_le _, rfl, el, rfl⟩, fun i m H ⟨g, st, us, acc, pa, zs, ge, S, hr, hpa, hH, hlen, ra, hi, hm', hz, hy⟩ => ?_⟩
        by_cases hlt : i < w.xs.length
        · rw [List.drop_eq_getElem_cons hlt] at hz
          obtain ⟨hk, o, s1, zs', hturn, hrest, rfl⟩ := lc_cons hz
          obtain ⟨hgo, hyld⟩ := wk.go g H st i _ ge S hk (List.getElem?_eq_getElem hlt)
          refine .inr ⟨hgo, fun H' => ∃ g' acc' pa' us', Ge g1 H1 g' H' ∧ StR F g' H' s1 ∧ g'.r D = some .tmp ∧ prsD acc' = some pa' ∧ H' D = some (.dK ((putAllK pa' []).zip us')) ∧ (putAllK pa' []).length = us'.length ∧ Rps F g' H' (putAllD pa' [] []) us' ∧ acc' ++ zs' = ys, ?_, ?_⟩
          · rintro H' ⟨g', acc', pa', us', k1, k2, k3, k4, k5, k6, k7, k8⟩
            exact ⟨_, by omega, g', s1, us', acc', pa', zs', k1, k2, k3, k4, k5, k6, k7, by omega, rfl, hrest, k8⟩
          · intro v H' hv
            obtain ⟨g', ge', S', rv⟩ := hyld v H' hv
            have keep : ∀ {g'' : Gh} {H'' : Hp}, Ge g' H' g'' H'' → g''.r D = some .tmp ∧ H'' D = some (.dK ((putAllK pa []).zip us)) := fun k => by
              obtain ⟨a1, a2⟩ := (ge'.trans k).tmp D hr
              exact ⟨a1, a2.trans hH⟩
            unfold dcTurn at hturn
            split at hturn
            · rename_i sl2 hasg
              refine ⟨g', wipeD sl own, st, _, sl2, (hs1.ge (ge.trans ge')).wipe, S', rv, hasg, fun σ2 hs2 hwp => ⟨by rw [hwp own hw, wipe_two], g', sl2, st, hs2, S', ?_⟩⟩
              cases ec : evTs L.T f cs sl2 st with
              | bad => rw [ec] at hturn; cases hturn
              | exc c a s => rw [ec] at hturn; cases hturn
              | ok b st3 =>
                rw [ec] at hturn
                replace hturn : (if b = true then (evE L.T f k sl2 st3).bind fun y st4 => (evE L.T f e sl2 st4).bind fun z st5 => Out.ok (some (TS.D.tup [y, z])) st5 else .ok none st3) = .ok o s1 := hturn
                intro g3 H3 b' ge3 S3 rb
                cases rb
                cases b with
                | false =>
                  rw [if_neg (by simp)] at hturn ⊢
                  cases hturn
                  obtain ⟨a1, a2⟩ := keep ge3
                  exact ⟨g3, acc, pa, us, ge.trans (ge'.trans ge3), S3, a1, hpa, a2, hlen, Rps.ge (ge'.trans ge3) _ _ ra, hy⟩
                | true =>
                  rw [if_pos rfl] at hturn ⊢
                  refine ⟨g3, sl2, st3, hs2.ge ge3, S3, ?_⟩
                  cases ek : evE L.T f k sl2 st3 with
                  | bad => rw [ek] at hturn; cases hturn
                  | exc c a s => rw [ek] at hturn; cases hturn
                  | ok y st4 =>
                    rw [ek] at hturn
                    intro g4 H4 yv ge4 S4 ry
                    refine ⟨g4, sl2, st4, (hs2.ge ge3).ge ge4, S4, ?_⟩
                    replace hturn : ((evE L.T f e sl2 st4).bind fun z st5 => Out.ok (some (TS.D.tup [y, z])) st5) = .ok o s1 := hturn
                    cases ee : evE L.T f e sl2 st4 with
                    | bad => rw [ee] at hturn; cases hturn
                    | exc c a s => rw [ee] at hturn; cases hturn
                    | ok z st5 =>
                      rw [ee] at hturn
                      replace hturn : Out.ok (some (TS.D.tup [y, z])) st5 = .ok o s1 := hturn
                      cases hturn
                      intro g5 H5 zv ge5 S5 rz
                      obtain ⟨a1, a2⟩ := keep (ge3.trans (ge4.trans ge5))
                      have gall := ge.trans (ge'.trans (ge3.trans (ge4.trans ge5)))
                      have r5 := Rps.ge (ge'.trans (ge3.trans (ge4.trans ge5))) _ _ ra
                      -- the pair
                      have hy2 : (acc ++ [TS.D.tup [y, z]]) ++ zs' = ys := by rw [List.append_assoc]; exact hy
                      have hps2 := hps
                      rw [← hy2] at hps2
                      obtain ⟨p1', p2', e1, e2, e3⟩ := prsD_app hps2
                      obtain ⟨p3', p4', e4, e5, e6⟩ := prsD_app e1
                      rw [hpa] at e4
                      cases e4
                      obtain ⟨kq, e7, e8⟩ := prsD_one e5
                      subst e8
                      have hkv : yv = kV kq := keyOf_ok ry e7
                      obtain ⟨us2, m1, m2, m3⟩ := put_ok (k := kq) hlen r5 rz
                      have e9 : Gt D g5 H5 g5 (upd H5 D (.dK (putK ((putAllK pa []).zip us) kq zv))) := ⟨fun _ _ => rfl, fun b hb => upd_ne hb, fun _ _ h => h, ⟨[], .inr ⟨_, a2⟩⟩⟩
                      refine ⟨_, kq, hkv, a2, ?_, g5, acc ++ [TS.D.tup [y, z]], p1', us2, Ge.gt S1 hD gall e9, S5.gt a1 e9 (fun _ _ h => h) ⟨_, upd_same⟩, a1, e1, ?_, ?_, ?_, hy2⟩
                      · rw [List.length_zip, ← hlen, Nat.min_self, ← LIM_eq]
                        have h1 := putK_len (ps := pa) (ks := [])
                        have h2 : ps.length = pa.length + 1 + p2'.length := by rw [e3, e6, List.length_append, List.length_append]; rfl
                        simp only [List.length_nil] at h1
                        omega
                      · rw [upd_same, m1, e6, putK_snoc]
                      · rw [e6, putK_snoc]; exact m2
                      · rw [e6, putD_snoc]
                        exact Rps.gt a1 e9 _ _ m3
            · cases hturn
        · have hi2 : i = w.xs.length := by omega
          rw [List.drop_eq_nil_of_le (by omega)] at hz
          obtain ⟨hk, rfl, rfl⟩ := lc_nil hz
          rw [List.append_nil] at hy
          subst hy
          rw [hps] at hpa
          cases hpa
          exact .inl ⟨by rw [hi2]; exact wk.stop g H _ ge S hk, fin_dic S1 hD ge S hr hH hlen ra p1⟩
      · exact p1.elim
    · exact p1.elim
theorem pd_dcG (G : GX X L N sc cf E f lv) {y x t i : Expr} {ifs : List Expr} {s2 : Scope} {pos : Pos} {k e : DE} {tg : Tg} {it : DI} {cs : DEs} {own : List Nat} (hb : blkC N sc s2 (ownN N own) = true) (hi : nset i = true)
    (pi : PI X t i (tI X L E f it)) (ht : ∀ (s : Shared) (H : Hp) (C : Addr) (cl : List (Str × Addr)) (fp : List Addr), PG (X.blk s H s2 (compEnvC s2 cl C X.env) fp) t (tgD (FX X L) tg))
    (hc : ∀ (s : Shared) (H : Hp) (C : Addr) (cl : List (Str × Addr)) (fp : List Addr), PTs (X.blk s H s2 (compEnvC s2 cl C X.env) fp) ifs (tTs X L (fun _ _ _ => False) f cs))
    (hk : ∀ (s : Shared) (H : Hp) (C : Addr) (cl : List (Str × Addr)) (fp : List Addr), PE (X.blk s H s2 (compEnvC s2 cl C X.env) fp) y (tV X L (fun _ _ _ => False) f k))
    (he : ∀ (s : Shared) (H : Hp) (C : Addr) (cl : List (Str × Addr)) (fp : List Addr), PE (X.blk s H s2 (compEnvC s2 cl C X.env) fp) x (tV X L (fun _ _ _ => False) f e))
    (hw : ∀ j ∈ tgL tg, j ∈ own) : PE X (.DictComp y x [⟨t, i, ifs, 0⟩] s2 pos) (tV X L E f (.dc k e tg it cs own)) := by
  have hown : (ownN N own).map (·.2) = own := by
    unfold ownN
    rw [List.map_map]
    exact List.map_id _
  have ok : BlkOk X.N X.env.scope s2 (ownN N own) := by
    rw [G.nN, G.hs]
    exact blkOk_by hb
  have key := pe_dc (pos := pos) G.calm (by rw [G.nN]; exact G.nd) pi ok ht hc hk he fun y => nset_ok hi y
  rw [hown] at key
  exact key.imp fun σ H Q q => dc_imp rfl hw (tG.eq (fun _ _ => evE_dcM) q)
theorem rps_dn {F : Fm} {g : Gh} {H : Hp} {i : Int} : ∀ {xs : List Nat}, Rps F g H (xs.map fun (t : Nat) => D.int (i - (t : Int))) (xs.map fun (t : Nat) => V.int (i - (t : Int)))
  | [] => .nil
  | x :: xs => .cons rp_int rps_dn
theorem pd_lrng3 (G : GX X L N sc cf E f lv) {a b c : DE} {x y z : Expr} {n n2 : Str} {p p2 pos pos2 : Pos} (hx : n = ("list" : Str)) (hg : glB sc n = true) (hx2 : n2 = ("range" : Str)) (hg2 : glB sc n2 = true) (hn : nst x = true) (hn2 : nst y = true) (hn3 : nst z = true) (ha : PE X x (tV X L E f a)) (hb : PE X y (tV X L E f b)) (hc : PE X z (tV X L E f c)) :
    PE X (.Call (.Name n p) [.Call (.Name n2 p2) [x, y, z] [] pos2] [] pos) (tV X L E f (.lrng3 a b c)) := by
  subst hx
  subst hx2
  refine (pe_listDn G.calm (glB_ok G.hs hg) (G.lk.free _ (by decide +kernel)) (glB_ok G.hs hg2) (G.lk.free _ (by decide +kernel)) (pa_cons ha (pa_cons hb (pa_cons hc pa_nil (star_one hn3)) (star_one hn2)) (star_one hn)) (star_one hn) (by rw [star_one hn2, star_one hn3]; rfl)).imp fun σ H Q q => tG.bind (fun _ _ => evE_lrng3) q fun g1 H1 sl d st1 u hs1 S1 rx p1 => ?_
  refine tG.of hs1 S1 (Post.bind p1 fun y st2 g2 H2 v e S2 ry p2 => ?_)
  refine tG.of (hs1.ge e) S2 (Post.bind p2 fun z st3 g3 H3 w e3 S3 rz p3 => ?_)
  split at p3
  · rename_i i j k
    split at p3
    · rename_i hl
      obtain ⟨rfl, hl⟩ := hl
      have ru := rx.int_of
      subst ru
      have rv := ry.int_of
      subst rv
      have rw' := rz.int_of
      subst rw'
      refine ⟨i, j, rfl, by omega, by omega, by omega, by omega, by omega, fun r hr => p3 _ _ _ (.newFz S3 hr) (S3.newFz hr) (rp_lst ⟨Gh.fz_same, upd_same⟩ rps_dn)⟩
    · exact p3.elim
  · exact p3.elim
theorem pd_sset (G : GX X L N sc cf E f lv) {a : DE} {x : Expr} {n n2 : Str} {p p2 pos pos2 : Pos} (hx : n = ("sorted" : Str)) (hg : glB sc n = true) (hx2 : n2 = ("set" : Str)) (hg2 : glB sc n2 = true) (hn : nst x = true) (ha : PE X x (tV X L E f a)) :
    PE X (.Call (.Name n p) [.Call (.Name n2 p2) [x] [] pos2] [] pos) (tV X L E f (.sset a)) := by
  subst hx
  subst hx2
  refine (pe_sset G.calm (glB_ok G.hs hg) (G.lk.free _ (by decide +kernel)) (glB_ok G.hs hg2) (G.lk.free _ (by decide +kernel)) (pa_cons ha pa_nil (star_one hn)) (star_one hn)).imp fun σ H Q q => tG.bind (fun _ _ => evE_sset) q fun g1 H1 sl d st1 u hs1 S1 rx p1 => ?_
  obtain ⟨ss, e1, p2⟩ := Post.okB p1
  obtain ⟨xs, e3, e4⟩ := Option.bind_eq_some_iff.mp e1
  split at p2
  · rename_i hl
    obtain ⟨b, us, rfl, h1, h2⟩ := litems_ok S1 rx e3
    exact ⟨b, ss, rfl, by rw [← strs_ok e4 h2]; exact .of h1, hl, fun r hr => p2 _ _ _ (.newFz S1 hr) (S1.newFz hr) (rp_lst ⟨Gh.fz_same, upd_same⟩ rps_str)⟩
  · exact p2.elim
end
end TS
end

section
set_option Elab.async false
set_option linter.all false
set_option maxRecDepth 100000
set_option maxHeartbeats 1000000
set_option autoImplicit false
namespace TS
open PySem PySem.Spec PyProof.Rows L2
section
variable {F : Fm} {E : XK} {g : Gh} {H : Hp} {st : Store} {Q : VK}
theorem bin_sh (S : StR F g H st) {o : BOp} {x y d : D} {u v : V} (rx : Rp F g H x u) (ry : Rp F g H y v) (e : binV o st x y = some d) (q : Post F E (Rp F) g H (shV st d) Q) : rBin F.K o u v H Q := by
  unfold binV at e
  split at e
  · cases e; exact q.elim
  · cases e; exact q.elim
  · split at e
    · cases e; exact q.elim
    · cases e
  · split at e
    · cases e; exact q.elim
    · cases e
  · split at e
    · cases e; exact q.elim
    · cases e
  · split at e
    · cases e; exact q.elim
    · cases e
  · split at e
    · cases e; exact q.elim
    · cases e
  · split at e
    · cases e; exact q.elim
    · cases e
  · split at e
    · rename_i xs ys ex ey
      split at e
      · rename_i h
        cases e
        obtain ⟨a, vs, rfl, h1, h2⟩ := litems_ok S rx ex
        obtain ⟨b, us, rfl, h3, h4⟩ := litems_ok S ry ey
        exact .inr (.inr ⟨a, b, vs, us, rfl, rfl, h1, h3, by rw [← h2.len, ← h4.len, ← LIM_eq]; exact h, sh_lst S (h2.append h4) q⟩)
      · cases e
    · cases e
  · split at e
    · rename_i xs ex
      split at e
      · rename_i k _ h
        cases e
        obtain ⟨a, vs, rfl, h1, h2⟩ := litems_ok S rx ex
        exact .inr ⟨a, _, vs, rfl, ry.int_of, h1, h.1, h.2.1, by rw [← h2.len, ← LIM_eq]; exact h.2.2, sh_lst S (h2.rep _) q⟩
      · cases e
    · cases e
  · cases e
theorem sl_sh (S : StR F g H st) {x d : D} {u : V} {lo hi : Option Int} (rx : Rp F g H x u) (e : slV st x lo hi = some d) (q : Post F E (Rp F) g H (shV st d) Q) : rSlAny F.K u lo hi H Q := by
  unfold slV at e
  split at e
  · cases e; exact q.elim
  · split at e
    · cases e; exact q.elim
    · cases e
  · obtain ⟨xs, e1, rfl⟩ := Option.map_eq_some_iff.mp e
    obtain ⟨a, vs, rfl, h1, h2⟩ := litems_ok S rx e1
    exact .inl (.inr ⟨a, vs, rfl, .of h1, sh_lst S (cut_ok h2 lo hi) q⟩)
theorem bf_sh (S : StR F g H st) {f : Bf} {ds : List D} {vs : List V} {d : D} (r : Rps F g H ds vs) (e : bfV f st ds = some d) (q : Post F E (Rp F) g H (shV st d) Q) : rBf F.K f vs H Q := by
  unfold bfV at e
  split at e
  · obtain ⟨n, e1, rfl⟩ := Option.map_eq_some_iff.mp e; exact q.elim
  · obtain ⟨n, e1, rfl⟩ := Option.map_eq_some_iff.mp e; exact q.elim
  · obtain ⟨n, e1, rfl⟩ := Option.map_eq_some_iff.mp e; exact q.elim
  · obtain ⟨n, e1, rfl⟩ := Option.map_eq_some_iff.mp e; exact q.elim
  · obtain ⟨bs, e1, e4⟩ := Option.bind_eq_some_iff.mp e
    obtain ⟨n, e1, rfl⟩ := Option.map_eq_some_iff.mp e4; exact q.elim
  · obtain ⟨bs, e1, e4⟩ := Option.bind_eq_some_iff.mp e
    obtain ⟨n, e1, rfl⟩ := Option.map_eq_some_iff.mp e4; exact q.elim
  · cases e; exact q.elim
  · cases e; exact q.elim
  · obtain ⟨n, e1, rfl⟩ := Option.map_eq_some_iff.mp e; exact q.elim
  · obtain ⟨v, rfl, rx⟩ := r.one_of
    obtain ⟨xs, e1, rfl⟩ := Option.map_eq_some_iff.mp e
    obtain ⟨a, us, rfl, h1, h2⟩ := items_ok S rx e1
    exact ⟨a, us, rfl, h1, sh_lst S h2 q⟩
  · cases e; exact q.elim
  · cases e; exact q.elim
  · cases e; exact q.elim
  · split at e
    · cases e; exact q.elim
    · cases e
  · obtain ⟨v, rfl, rx⟩ := r.one_of
    obtain ⟨⟨ks, ds⟩, e1, rfl⟩ := Option.map_eq_some_iff.mp e
    obtain ⟨a, us, rfl, h0, h1, h2⟩ := ditems_ok S rx e1
    exact ⟨a, ks.zip us, rfl, h1, sh_dic S h0 h2 q⟩
  · obtain ⟨v, rfl, rx⟩ := r.one_of
    obtain ⟨⟨ks, ds⟩, e1, rfl⟩ := Option.map_eq_some_iff.mp e
    obtain ⟨a, us, rfl, h0, h1, h2⟩ := ditems_ok S rx e1
    refine ⟨a, ks.zip us, rfl, h1, ?_⟩
    rw [keys_map h0]
    exact sh_lst S rps_key q
  · obtain ⟨v, rfl, rx⟩ := r.one_of
    obtain ⟨ss, e1, e2⟩ := Option.bind_eq_some_iff.mp e
    obtain ⟨xs, e3, e4⟩ := Option.bind_eq_some_iff.mp e1
    split at e2
    · rename_i hl
      cases e2
      obtain ⟨a, us, rfl, h1, h2⟩ := litems_ok S rx e3
      refine ⟨a, ss, rfl, by rw [← strs_ok e4 h2]; exact .of h1, hl, fun ys p hp hs hn => ?_⟩
      rw [sort_unique hp hs]
      exact sh_lst S rps_str q p hn
    · cases e2
  · obtain ⟨v, rfl, rx⟩ := r.one_of
    obtain ⟨ss, e1, e2⟩ := Option.bind_eq_some_iff.mp e
    obtain ⟨⟨ks, ds⟩, e3, e4⟩ := Option.bind_eq_some_iff.mp e1
    split at e2
    · rename_i hl
      cases e2
      obtain ⟨a, us, rfl, h0, h1, h2⟩ := ditems_ok S rx e3
      refine ⟨a, ks.zip us, ss, rfl, h1, by rw [keys_fst h0]; exact keysS_ok e4, hl, fun ys p hp hs hn => ?_⟩
      rw [sort_unique hp hs]
      exact sh_lst S rps_str q p hn
    · cases e2
  · obtain ⟨v, rfl, rx⟩ := r.one_of
    obtain ⟨ps, e1, rfl⟩ := Option.map_eq_some_iff.mp e
    obtain ⟨zs, e3, e4⟩ := Option.bind_eq_some_iff.mp e1
    obtain ⟨a, us, rfl, h1, h2⟩ := litems_ok S rx e3
    obtain ⟨as, kws, rfl, h5, h6⟩ := prs_ok e4 h2
    obtain ⟨us2, m1, m2, m3⟩ := merge_ok h6 (ks := []) (vs := []) rfl .nil
    refine ⟨a, as, kws, rfl, .of h1, h5, ?_⟩
    rw [show mergeK [] kws = _ from m1]
    exact sh_dic S m2 m3 q
  · obtain ⟨n, e1, rfl⟩ := Option.map_eq_some_iff.mp e; exact q.elim
  · cases e
end
section
variable {X : Cx} {L : Ln} {N : List Str} {sc : Scope} {cf : Bool} {E : XK} {f : Phi} {lv : Nat}
theorem pd_shbin {o : BOp} {a b : DE} {x y : Expr} {p : Pos} (ha : PE X x (tV X L E f a)) (hb : PE X y (tV X L E f b)) : PE X (.BinOp x (opO o) y p) (tV X L E f (.sh (.bin o a b))) := by
  refine (pe_op (op_bin o) ha hb).imp fun σ H Q h => ?_
  refine tG.bind (k := fun sl x st1 => ((evE L.T f b sl st1).bind fun y st2 => okO (binV o st2 x y) st2).bind fun z st3 => shV st3 z) (fun sl st => ?_) h fun g1 H1 sl x st1 u hs1 S1 rx p1 => ?_
  · rw [evE_sh, evE_bin]
    cases evE L.T f a sl st <;> rfl
  · refine tG.of hs1 S1 (Post.bind (R2 := Rp (FX X L)) (Q := Q) (f := fun y st2 => (okO (binV o st2 x y) st2).bind fun z st3 => shV st3 z) ?_ fun y st2 g2 H2 v e S2 ry p2 => ?_)
    · cases e : evE L.T f b sl st1 <;> rw [e] at p1 <;> exact p1
    · obtain ⟨d, ed, q⟩ := Post.okB p2
      exact bin_sh S2 (Rp.ge e _ _ rx) ry ed q
theorem pd_shsl {a : DE} {l h : DEs} {x : Expr} {l' h' : Option Expr} {p p2 : Pos} (ha : PE X x (tV X L E f a)) (hl : PO X l' (tOp' X L E f l)) (hh : PO X h' (tOp' X L E f h)) : PE X (.Subscript x (.Slice l' h' none p2) p) (tV X L E f (.sh (.sl a l h))) := by
  refine (pe_slice sl_any ha hl hh).imp fun σ H Q q => ?_
  refine tG.bind (k := fun sl x st1 => (evO L.T f l sl st1).bind fun l st2 => (evO L.T f h sl st2).bind fun h st3 => (okO (slV st3 x l h) st3).bind fun z st4 => shV st4 z) (fun sl st => ?_) q fun g1 H1 sl x st1 u hs1 S1 rx p1 => ?_
  · rw [evE_sh, evE_sl']
    cases evE L.T f a sl st with
    | bad => rfl
    | exc c a s => rfl
    | ok x s =>
      show Out.bind (Out.bind (evO L.T f l sl s) _) _ = Out.bind (evO L.T f l sl s) _
      cases evO L.T f l sl s with
      | bad => rfl
      | exc c a s => rfl
      | ok l s =>
        show Out.bind (Out.bind (evO L.T f h sl s) _) _ = Out.bind (evO L.T f h sl s) _
        cases evO L.T f h sl s <;> rfl
  · refine tG.of hs1 S1 (Post.bind p1 fun y st2 g2 H2 v e S2 ry p2 => ?_)
    cases ry
    refine tG.of (hs1.ge e) S2 (Post.bind p2 fun z st3 g3 H3 v3 e3 S3 rz p3 => ?_)
    cases rz
    obtain ⟨d, ed, q⟩ := Post.okB p3
    exact sl_sh S3 (Rp.ge e3 _ _ (Rp.ge e _ _ rx)) ed q
theorem pd_shbf (G : GX X L N sc cf E f lv) {b : Bf} {x : Str} {ds : DEs} {es : List Expr} {p pos : Pos} (hx : x = bfN b) (hg : glB sc x = true) (h0 : es ≠ []) (hs : PA X es (tVs X L E f ds)) (hn : nsts es = true) :
    PE X (.Call (.Name x p) es [] pos) (tV X L E f (.sh (.bf b ds))) := by
  refine (pd_bf G hx hg h0 hs hn).imp fun σ H Q q => tG.bind (k := fun sl xs st1 => (okO (bfV b st1 xs) st1).bind fun z st4 => shV st4 z) (fun sl st => ?_) q fun g1 H1 sl xs st1 us hs1 S1 rx p1 => ?_
  · rw [evE_sh, evE_bf]
    cases evEs L.T f ds sl st <;> rfl
  · obtain ⟨d, ed, q⟩ := Post.okB p1
    exact bf_sh S1 rx ed q
theorem PEs.pk : ∀ {ds : DEs} {ks : List Str} {kws : List Keyword}, kwB kws ks = true → PEs X L E f ds (kws.map (·.value)) → PK X kws (tVs X L E f ds)
  | .nil, ks, kws, hk, h => by
    have : kws = [] := List.map_eq_nil_iff.mp (show kws.map (·.value) = [] from h)
    subst this
    exact pk_nil.imp fun σ H Q ⟨g, sl, st, _, S, q⟩ => Post.ok (by rw [evEs_nil] at q; exact q) S Rps.nil
  | .cons d ds, ks, kws, hk, ⟨e, r, h1, h2, h3⟩ => by
    cases kws with
    | nil => cases h1
    | cons kw kws =>
      obtain ⟨n, v, q⟩ := kw
      cases h1
      cases n with
      | none => cases ks <;> cases hk
      | some n =>
        cases ks with
        | nil => cases hk
        | cons k ks =>
          have hk := (Bool.and_eq_true_iff.mp (show (decide (n = k) && kwB kws ks) = true from hk)).2
          refine (pk_cons h2 (PEs.pk hk h3)).imp fun σ H Q q => tG.bind (fun _ _ => evEs_cons) q fun g1 H1 sl x st1 u hs1 S1 rx p1 => ?_
          exact tG.of hs1 S1 (Post.bind p1 fun y st2 g2 H2 v e S2 ry p2 => Post.ok p2 S2 (.cons (Rp.ge e _ _ rx) ry))
theorem pts_D : ∀ {ds : DEs} {es : List Expr}, PTes X L E f ds es → (ds = .nil ∨ ∃ d, ds = .cons d .nil) → PTs X es (tTs X L E f ds)
  | .nil, _, h, _ => by
    cases h
    exact ⟨fun pins s σ H Q I ⟨g, sl, st, _, S, q⟩ => pts_nil.run pins s σ H Q I (Post.ok (b := true) (by rw [evTs_nil] at q; exact q) S rfl)⟩
  | .cons d .nil, _, ⟨e, r, rfl, h1, h⟩, _ => by
    cases h
    refine ⟨fun pins s σ H Q I q => (pts_one h1).run pins s σ H Q I (tG.bind (fun _ _ => evTs_cons) q fun g1 H1 sl x st1 u hs1 S1 rx p1 => ?_)⟩
    cases rx
    cases x with
    | true => exact Post.ok (by rw [if_pos rfl, evTs_nil] at p1; exact p1) S1 rfl
    | false => exact Post.ok (by rw [if_neg (by simp)] at p1; exact p1) S1 rfl
  | .cons d (.cons d2 ds), _, _, h => by rcases h with h | ⟨_, h⟩ <;> cases h
end
theorem pTs_len {X : Cx} {L : Ln} {E : XK} {f : Phi} : ∀ {ds : DEs} {es : List Expr}, PTes X L E f ds es → dLen ds = es.length
  | .nil, _, h => by cases h; rfl
  | .cons d ds, _, ⟨e, r, h0, _, h⟩ => by subst h0; rw [dLen, pTs_len h, List.length_cons]
theorem and2 {a b : Bool} (h : (a && b) = true) : a = true ∧ b = true := Bool.and_eq_true_iff.mp h
theorem dL_ne {ds : DEs} {es : List Expr} (h : dLen ds = es.length) (n : es ≠ []) : ds ≠ .nil := fun e => by
  subst e
  cases es with
  | nil => exact n rfl
  | cons _ _ => cases h
theorem len_ne {es : List Expr} (h : (!es.isEmpty) = true) : es ≠ [] := fun e => by subst e; cases h
theorem cEs_nst {L : Ln} {N : List Str} {t : Bool} : ∀ {ds : DEs} {sc : Scope} {es : List Expr}, cEs L N t ds sc es = true → nsts es = true
  | .nil, sc, es, h => by
    unfold cEs at h
    cases es with
    | nil => rfl
    | cons _ _ => cases h
  | .cons d ds, sc, es, h => by
    cases es with
    | nil => rfl
    | cons e es =>
      unfold cEs at h
      obtain ⟨h1, h2⟩ := and2 h
      show (nst e && nsts es) = true
      rw [h1, cEs_nst (and2 h2).2]; rfl
theorem cKs_kw {L : Ln} {N : List Str} : ∀ {ds : DEs} {ks : List Str} {sc : Scope} {kws : List Keyword}, cKs L N ds ks sc kws = true → kwB kws ks = true
  | .nil, ks, sc, kws, h => by
    unfold cKs at h
    obtain ⟨h1, h2⟩ := and2 h
    rw [List.isEmpty_iff.mp h1, List.isEmpty_iff.mp h2]; rfl
  | .cons d ds, ks, sc, kws, h => by
    unfold cKs at h
    split at h
    · obtain ⟨h1, h2⟩ := and2 h
      show (decide _ && kwB _ _) = true
      rw [h1, cKs_kw (and2 h2).2]; rfl
    · cases h
theorem cKs_len {L : Ln} {N : List Str} : ∀ {ds : DEs} {ks : List Str} {sc : Scope} {kws : List Keyword}, cKs L N ds ks sc kws = true → dLen ds = ks.length
  | .nil, ks, sc, kws, h => by
    unfold cKs at h
    rw [List.isEmpty_iff.mp (and2 h).1]; rfl
  | .cons d ds, ks, sc, kws, h => by
    unfold cKs at h
    split at h
    · rw [dLen, cKs_len (and2 (and2 h).2).2]; rfl
    · cases h
theorem cE_true {L : Ln} {N : List Str} {sc : Scope} {e : Expr} : ∀ {d : DE}, plD d = true → cE L N true d sc e = true → plT e = true ∧ cE L N false d sc e = true := by
  intro d hd h
  cases d <;> first | (cases hd; done) | (unfold cE at h ⊢; obtain ⟨h1, h2⟩ := and2 h; first | (exact ⟨h1, by rw [h2]; rfl⟩) | (cases h2; done) | (cases h1))
end TS
end

section
set_option Elab.async false
set_option linter.all false
set_option maxRecDepth 100000
set_option maxHeartbeats 8000000
set_option autoImplicit false
namespace TS
open PySem PySem.Spec PyProof.Rows L2
theorem tgs_in {tg : Tg} {own : List Nat} (h : (tgL tg).all (fun j => own.any fun k => decide (k = j)) = true) : ∀ j ∈ tgL tg, j ∈ own := fun j hj => by
  obtain ⟨k, hk, e⟩ := List.any_eq_true.mp (List.all_eq_true.mp h j hj)
  rw [← of_decide_eq_true e]
  exact hk
theorem evE_dct' {T : Tab} {f : Phi} {ks : List Key} {es : DEs} {sl : Slots} {st : Store} (hl : dLen es = ks.length) : evE T f (.dct ks es) sl st = (evEs T f es sl st).bind fun xs st1 => .ok (.dic ks xs) st1 := by
  rw [evE_dct]
  cases e : evEs T f es sl st with
  | bad => rfl
  | exc c a s => rfl
  | ok xs s =>
    show (if xs.length = ks.length then Out.ok (D.dic ks xs) s else .bad) = _
    rw [if_pos (by rw [evEs_len e, hl])]
    rfl
theorem evE_shdct' {T : Tab} {f : Phi} {ks : List Key} {es : DEs} {sl : Slots} {st : Store} (hl : dLen es = ks.length) : evE T f (.sh (.dct ks es)) sl st = (evEs T f es sl st).bind fun xs st1 => shV st1 (.dic ks xs) := by
  rw [evE_sh, evE_dct' hl]
  cases evEs T f es sl st <;> rfl
theorem cKeys_len : ∀ {ks : List Key} {es : List (Option Expr)}, cKeys ks es = true → ks.length = es.length
  | [], [], _ => rfl
  | [], _ :: _, h => by cases h
  | k :: ks, [], h => by cases k <;> cases h
  | .inl i :: ks, e :: es, h => by
    unfold cKeys at h
    split at h <;> first | (cases h; done) | skip
    · rename_i z _; cases z
    · rename_i z1 z2; cases z1; cases z2; rw [List.length_cons, List.length_cons, cKeys_len (and2 h).2]
    · rename_i z _; cases z
  | .inr i :: ks, e :: es, h => by
    unfold cKeys at h
    split at h <;> first | (cases h; done) | skip
    · rename_i z _; cases z
    · rename_i z _; cases z
    · rename_i z1 z2; cases z1; cases z2; rw [List.length_cons, List.length_cons, cKeys_len (and2 h).2]
theorem pd_dct {X : Cx} {L : Ln} {E : XK} {f : Phi} {ks : List Key} {keys : List (Option Expr)} {ds : DEs} {es : List Expr} {p : Pos} {m3 : List D → Store → Out D} {d : DE} (hm : FinD (FX X L) E m3 ks) (hk : cKeys ks keys = true) (hn : nodupB ks = true) (hl : keys.length = es.length) (h15 : keys.length ≤ 15)
    (hs : PEs X L E f ds es) (he : dLen ds = ks.length → ∀ {sl st}, evE L.T f d sl st = (evEs L.T f ds sl st).bind fun xs st1 => m3 xs st1) : PE X (.Dict keys es p) (tV X L E f d) := by
  have hlen := hs.len
  have hk2 := cKeys_len hk
  have he2 := @he (by omega)
  by_cases h0 : keys = []
  · subst h0
    have : es = [] := List.length_eq_zero_iff.mp hl.symm
    subst this
    have : ks = [] := List.length_eq_zero_iff.mp hk2
    subst this
    cases ds with
    | cons _ _ => cases hlen
    | nil =>
      refine pe_dnewK.imp fun σ H Q ⟨g, sl, st, h1, S, q⟩ => ?_
      intro r hr
      rw [he2, evEs_nil] at q
      exact hm S hr (Ge.newTp (o := .dK []) S hr) (S.newTp hr) Gh.tp_same upd_same (us := []) rfl .nil q
  · exact (pd_dctG hm hk hn hl h15 h0 hs).imp fun _ _ _ q => tG.eq (fun sl st => he2) q
mutual
theorem pdE : ∀ (d : DE) {X : Cx} {L : Ln} {N : List Str} {sc : Scope} {cf : Bool} {E : XK} {f : Phi} {lv : Nat} {e : Expr}, GX X L N sc cf E f lv → cE L N false d sc e = true → PE X e (tV X L E f d)
  | .c d, X, L, N, sc, cf, E, f, lv, e, G, h => by
    unfold cE at h
    replace h := (and2 h).2
    split at h <;> first | (cases h; done) | skip
    exact pd_c h
  | .v i, X, L, N, sc, cf, E, f, lv, e, G, h => by
    unfold cE at h
    replace h := (and2 h).2
    split at h <;> first | (cases h; done) | skip
    obtain ⟨h1, h2⟩ := and2 h
    obtain ⟨h2, h3⟩ := and2 h2
    exact pd_v G (of_decide_eq_true h1) h2 (by simpa using h3)
  | .g i, X, L, N, sc, cf, E, f, lv, e, G, h => by
    unfold cE at h
    replace h := (and2 h).2
    split at h <;> first | (cases h; done) | skip
    obtain ⟨h1, h2⟩ := and2 h
    obtain ⟨h2, h3⟩ := and2 h2
    exact pd_g G (of_decide_eq_true h1) h2 (by simpa using h3)
  | .bin o a b, X, L, N, sc, cf, E, f, lv, e, G, h => by
    unfold cE at h
    replace h := (and2 h).2
    split at h <;> first | (cases h; done) | skip
    obtain ⟨h1, h2⟩ := and2 h
    obtain ⟨h2, h3⟩ := and2 h2
    rw [of_decide_eq_true h1]
    exact pd_bin (pdE a G h2) (pdE b G h3)
  | .neg a, X, L, N, sc, cf, E, f, lv, e, G, h => by
    unfold cE at h
    replace h := (and2 h).2
    split at h <;> first | (cases h; done) | skip
    exact pd_neg (pdE a G h)
  | .cmp o a b, X, L, N, sc, cf, E, f, lv, e, G, h => by
    unfold cE at h
    split at h <;> first | (cases h; done) | skip
    obtain ⟨h1, h2⟩ := and2 h
    obtain ⟨h2, h3⟩ := and2 h2
    obtain ⟨h3, h4⟩ := and2 h3
    rw [of_decide_eq_true h1]
    exact pd_cmp G (pdE a G h3) (pdE b G h4) h2
  | .chn o o' a b c, X, L, N, sc, cf, E, f, lv, e, G, h => by
    unfold cE at h
    split at h <;> first | (cases h; done) | skip
    obtain ⟨h1, h2⟩ := and2 h
    obtain ⟨h0, h1⟩ := and2 h1
    obtain ⟨h2, h3⟩ := and2 h2
    obtain ⟨h3, h4⟩ := and2 h3
    obtain ⟨h4, h5⟩ := and2 h4
    rw [of_decide_eq_true h0, of_decide_eq_true h1]
    exact pd_chn G (pdE a G h3) (pdE b G h4) (pdE c G h5) h2
  | .band es, X, L, N, sc, cf, E, f, lv, e, G, h => by
    unfold cE at h
    split at h <;> first | (cases h; done) | skip
    obtain ⟨h0, h⟩ := and2 h
    have hs := pdEs es G h
    exact (hs.an (dL_ne hs.len (len_ne h0))).imp fun _ _ _ q => tG.eq (fun _ _ => evE_band) q
  | .bor es, X, L, N, sc, cf, E, f, lv, e, G, h => by
    unfold cE at h
    split at h <;> first | (cases h; done) | skip
    obtain ⟨h0, h⟩ := and2 h
    have hs := pdEs es G h
    exact (hs.os (dL_ne hs.len (len_ne h0))).imp fun _ _ _ q => tG.eq (fun _ _ => evE_bor) q
  | .bnot a, X, L, N, sc, cf, E, f, lv, e, G, h => by
    unfold cE at h
    split at h <;> first | (cases h; done) | skip
    exact pd_bnot (pdE a G h)
  | .ite t a b, X, L, N, sc, cf, E, f, lv, e, G, h => by
    unfold cE at h
    replace h := (and2 h).2
    split at h <;> first | (cases h; done) | skip
    obtain ⟨h1, h2⟩ := and2 h
    obtain ⟨h2, h3⟩ := and2 h2
    exact pd_ite (pdT t G h1) (pdE a G h2) (pdE b G h3)
  | .tup es, X, L, N, sc, cf, E, f, lv, e, G, h => by
    unfold cE at h
    replace h := (and2 h).2
    split at h <;> first | (cases h; done) | skip
    obtain ⟨h1, h2⟩ := and2 h
    have hs := pdEs es G h2
    exact pd_tup (hs.pa (cEs_nst h2)) (by rw [hs.len]; exact of_decide_eq_true h1)
  | .lst es, X, L, N, sc, cf, E, f, lv, e, G, h => by
    unfold cE at h
    replace h := (and2 h).2
    split at h <;> first | (cases h; done) | skip
    obtain ⟨h1, h2⟩ := and2 h
    have hs := pdEs es G h2
    exact pd_lst (hs.pa (cEs_nst h2)) (by rw [hs.len]; exact of_decide_eq_true h1)
  | .dct ks es, X, L, N, sc, cf, E, f, lv, e, G, h => by
    unfold cE at h
    replace h := (and2 h).2
    split at h <;> first | (cases h; done) | skip
    obtain ⟨h1, h2⟩ := and2 h
    obtain ⟨h1, h3⟩ := and2 h1
    obtain ⟨h2, h4⟩ := and2 h2
    obtain ⟨h2, h5⟩ := of_decide_eq_true h2
    exact pd_dct fin_dic h1 h3 h2 h5 (pdEs es G h4) (fun z {_ _} => evE_dct' z)
  | .ix a i, X, L, N, sc, cf, E, f, lv, e, G, h => by
    unfold cE at h
    replace h := (and2 h).2
    split at h <;> first | (cases h; done) | skip
    obtain ⟨h1, h2⟩ := and2 h
    obtain ⟨h2, h3⟩ := and2 h2
    exact pd_ix G (pdE a G h2) (pdE i G h3) h1
  | .sl a l r, X, L, N, sc, cf, E, f, lv, e, G, h => by
    unfold cE at h
    replace h := (and2 h).2
    split at h <;> first | (cases h; done) | skip
    obtain ⟨h1, h2⟩ := and2 h
    obtain ⟨h2, h3⟩ := and2 h2
    exact pd_sl (pdE a G h1) (pdO l G h2) (pdO r G h3)
  | .call g es ds, X, L, N, sc, cf, E, f, lv, e, G, h => by
    unfold cE at h
    replace h := (and2 h).2
    split at h <;> first | (cases h; done) | skip
    obtain ⟨h1, h2⟩ := and2 h
    obtain ⟨h1, h3⟩ := and2 h1
    obtain ⟨h3, h4⟩ := and2 h3
    obtain ⟨h4, h5⟩ := and2 h4
    obtain ⟨h4, h6⟩ := and2 h4
    obtain ⟨h7, h8⟩ := and2 h2
    have hs := pdEs es G h8
    refine pd_call G (of_decide_eq_true h1) h3 (by simpa using h4) h6 h5 ?_ (hs.pa (cEs_nst h8)) (cEs_nst h8) hs.len
    rcases Bool.or_eq_true_iff.mp h7 with q | q
    · exact .inl ⟨List.isEmpty_iff.mp (and2 q).1, (and2 q).2⟩
    · exact .inr ⟨fun z => (by rw [z] at q; cases (and2 q).1), D.beqs_eq (and2 q).2⟩
  | .callk g es ks kes, X, L, N, sc, cf, E, f, lv, e, G, h => by
    unfold cE at h
    replace h := (and2 h).2
    split at h <;> first | (cases h; done) | skip
    obtain ⟨h1, h2⟩ := and2 h
    obtain ⟨h1, h3⟩ := and2 h1
    obtain ⟨h3, h4⟩ := and2 h3
    obtain ⟨h4, h5⟩ := and2 h4
    obtain ⟨h4, h6⟩ := and2 h4
    obtain ⟨h7, h8⟩ := and2 h2
    obtain ⟨h7, h9⟩ := and2 h7
    obtain ⟨h7, h10⟩ := and2 h7
    obtain ⟨h8, h11⟩ := and2 h8
    have hs := pdEs es G h8
    exact pd_callk G (of_decide_eq_true h1) h3 (by simpa using h4) h6 h5 (of_decide_eq_true h7) (by intro z; rw [z] at h10; cases h10) (hs.pa (cEs_nst h8)) ((pdKs kes G h11).pk (cKs_kw h11)) (cEs_nst h8) (len_ne h9) (cKs_kw h11) (cKs_len h11)
  | .bf g es, X, L, N, sc, cf, E, f, lv, e, G, h => by
    unfold cE at h
    replace h := (and2 h).2
    split at h <;> first | (cases h; done) | skip
    obtain ⟨h1, h2⟩ := and2 h
    obtain ⟨h1, h3⟩ := and2 h1
    obtain ⟨h3, h4⟩ := and2 h3
    have hs := pdEs es G h2
    exact pd_bfD G (of_decide_eq_true h1) h3 (len_ne h4) (hs.pa (cEs_nst h2)) (cEs_nst h2)
  | .isi a ty, X, L, N, sc, cf, E, f, lv, e, G, h => by
    unfold cE at h
    replace h := (and2 h).2
    split at h <;> first | (cases h; done) | skip
    obtain ⟨h1, h2⟩ := and2 h
    obtain ⟨h1, h3⟩ := and2 h1
    obtain ⟨h3, h4⟩ := and2 h3
    obtain ⟨h4, h5⟩ := and2 h4
    obtain ⟨h5, h6⟩ := and2 h5
    obtain ⟨h7, h8⟩ := and2 h2
    exact pd_isi G (of_decide_eq_true h1) h3 (of_decide_eq_true h4) h5 h6 (pdE a G h8) h7
  | .mth C g o es, X, L, N, sc, cf, E, f, lv, e, G, h => by
    unfold cE at h
    replace h := (and2 h).2
    split at h <;> first | (cases h; done) | skip
    obtain ⟨h1, h2⟩ := and2 h
    obtain ⟨h1, h3⟩ := and2 h1
    obtain ⟨h3, h4⟩ := and2 h3
    obtain ⟨h4, h5⟩ := and2 h4
    obtain ⟨h11, h5⟩ := and2 h5
    obtain ⟨h6, h7⟩ := and2 h2
    obtain ⟨h6, h8⟩ := and2 h6
    obtain ⟨h8, h9⟩ := and2 h8
    obtain ⟨h7, h10⟩ := and2 h7
    have hs := pdEs es G h10
    exact pd_mth G (of_decide_eq_true h1) h3 h4 h11 h5 h6 h8 (of_decide_eq_true h9) (pdE o G h7) (hs.pa (cEs_nst h10)) (cEs_nst h10) hs.len
  | .bm m o es, X, L, N, sc, cf, E, f, lv, e, G, h => by
    unfold cE at h
    replace h := (and2 h).2
    split at h <;> first | (cases h; done) | skip
    obtain ⟨h1, h2⟩ := and2 h
    obtain ⟨h1, h3⟩ := and2 h1
    obtain ⟨h3, h4⟩ := and2 h3
    obtain ⟨h4, h5⟩ := and2 h4
    obtain ⟨h5, h6⟩ := and2 h5
    obtain ⟨h7, h8⟩ := and2 h2
    have hs := pdEs es G h8
    exact pd_bm G (of_decide_eq_true h1) h4 h5 (of_decide_eq_true h6) (pdE o G h7) (hs.pa (cEs_nst h8)) (cEs_nst h8) hs.len h3
  | .mk C es, X, L, N, sc, cf, E, f, lv, e, G, h => by
    unfold cE at h
    replace h := (and2 h).2
    split at h <;> first | (cases h; done) | skip
    obtain ⟨h1, h2⟩ := and2 h
    obtain ⟨h1, h3⟩ := and2 h1
    obtain ⟨h3, h4⟩ := and2 h3
    obtain ⟨h4, h5⟩ := and2 h4
    obtain ⟨h5, h6⟩ := and2 h5
    have hs := pdEs es G h2
    exact pd_mk G (of_decide_eq_true h1) h3 (by simpa using h4) h5 h6 (hs.pa (cEs_nst h2)) (cEs_nst h2) hs.len
  | .fld C i o, X, L, N, sc, cf, E, f, lv, e, G, h => by
    unfold cE at h
    replace h := (and2 h).2
    split at h <;> first | (cases h; done) | skip
    obtain ⟨h1, h2⟩ := and2 h
    obtain ⟨h1, h3⟩ := and2 h1
    obtain ⟨h3, h4⟩ := and2 h3
    exact pd_fld G (of_decide_eq_true h1) h3 h4 (pdE o G h2)
  | .lc d tg it cs own, X, L, N, sc, cf, E, f, lv, e, G, h => by
    unfold cE at h
    replace h := (and2 h).2
    split at h <;> first | (cases h; done) | skip
    obtain ⟨h10, h2⟩ := and2 h
    obtain ⟨h1, h11⟩ := and2 h10
    obtain ⟨h3, h4⟩ := and2 h11
    obtain ⟨h9, h5⟩ := and2 h4
    obtain ⟨h2, h6⟩ := and2 h2
    obtain ⟨h2, h7⟩ := and2 h2
    obtain ⟨h6, h8⟩ := and2 h6
    cases of_decide_eq_true h9
    have hk := (blkOk_by h1).kind
    refine (pd_lcG G fin_lst h1 h5 (pdI it G h7) (fun s H C cl fp => pg_D (G.blk hk s H C cl fp) h2) (fun s H C cl fp => pdTts cs (G.blk hk s H C cl fp) h6) (fun s H C cl fp => pdE d (G.blk hk s H C cl fp) h8) (tgs_in h3)).imp fun _ _ _ q => tG.eq (fun _ _ => evE_lcM) q
  | .fz d, X, L, N, sc, cf, E, f, lv, e, G, h => by
    unfold cE at h
    exact pd_fz (pdE d G (and2 h).2)
  | .mthk C g o es ks kes, X, L, N, sc, cf, E, f, lv, e, G, h => by
    unfold cE at h
    replace h := (and2 h).2
    split at h <;> first | (cases h; done) | skip
    obtain ⟨h1, h2⟩ := and2 h
    obtain ⟨h1, h3⟩ := and2 h1
    obtain ⟨h3, h4⟩ := and2 h3
    obtain ⟨h4, h5⟩ := and2 h4
    obtain ⟨h6, h2⟩ := and2 h2
    obtain ⟨h6, h7⟩ := and2 h6
    obtain ⟨h6, h8⟩ := and2 h6
    obtain ⟨h8, h9⟩ := and2 h8
    obtain ⟨h7, h10⟩ := and2 h7
    obtain ⟨h2, h11⟩ := and2 h2
    obtain ⟨h11, h12⟩ := and2 h11
    have hs := pdEs es G h11
    refine pd_mthk G (of_decide_eq_true h1) h3 h4 h5 h6 h8 (of_decide_eq_true h9) (pdE o G h2) (hs.pa (cEs_nst h11)) ((pdKs kes G h12).pk (cKs_kw h12)) (cEs_nst h11) (len_ne h7) (cKs_kw h12) (cKs_len h12) ?_
    rcases Bool.or_eq_true_iff.mp h10 with q | q
    · exact .inl ⟨of_decide_eq_true (and2 q).1, fun z => by rw [z] at q; cases (and2 q).2⟩
    · exact .inr ⟨List.isEmpty_iff.mp (and2 q).1, fun z => by rw [z] at q; cases (and2 q).2⟩
  | .lrng3 a b c, X, L, N, sc, cf, E, f, lv, e, G, h => by
    unfold cE at h
    replace h := (and2 h).2
    split at h <;> first | (cases h; done) | skip
    obtain ⟨h1, h2⟩ := and2 h
    obtain ⟨h1, h3⟩ := and2 h1
    obtain ⟨h1, h4⟩ := and2 h1
    obtain ⟨h3, h5⟩ := and2 h3
    obtain ⟨h2, h6⟩ := and2 h2
    obtain ⟨h2, h7⟩ := and2 h2
    obtain ⟨h7, h8⟩ := and2 h7
    obtain ⟨h6, h9⟩ := and2 h6
    obtain ⟨h9, h10⟩ := and2 h9
    exact pd_lrng3 G (of_decide_eq_true h1) h4 (of_decide_eq_true h3) h5 h2 h7 h8 (pdE a G h6) (pdE b G h9) (pdE c G h10)
  | .dc k d tg it cs own, X, L, N, sc, cf, E, f, lv, e, G, h => by
    unfold cE at h
    replace h := (and2 h).2
    split at h <;> first | (cases h; done) | skip
    obtain ⟨h10, h2⟩ := and2 h
    obtain ⟨h1, h11⟩ := and2 h10
    obtain ⟨h3, h4⟩ := and2 h11
    obtain ⟨h9, h5⟩ := and2 h4
    obtain ⟨h2, h6⟩ := and2 h2
    obtain ⟨h2, h7⟩ := and2 h2
    obtain ⟨h6, h8⟩ := and2 h6
    obtain ⟨h8, h12⟩ := and2 h8
    cases of_decide_eq_true h9
    have hk := (blkOk_by h1).kind
    exact pd_dcG G h1 h5 (pdI it G h7) (fun s H C cl fp => pg_D (G.blk hk s H C cl fp) h2) (fun s H C cl fp => pdTts cs (G.blk hk s H C cl fp) h6) (fun s H C cl fp => pdE k (G.blk hk s H C cl fp) h8) (fun s H C cl fp => pdE d (G.blk hk s H C cl fp) h12) (tgs_in h3)
  | .sset a, X, L, N, sc, cf, E, f, lv, e, G, h => by
    unfold cE at h
    replace h := (and2 h).2
    split at h <;> first | (cases h; done) | skip
    obtain ⟨h1, h2⟩ := and2 h
    obtain ⟨h1, h3⟩ := and2 h1
    obtain ⟨h1, h4⟩ := and2 h1
    obtain ⟨h3, h5⟩ := and2 h3
    obtain ⟨h2, h6⟩ := and2 h2
    exact pd_sset G (of_decide_eq_true h1) h4 (of_decide_eq_true h3) h5 h2 (pdE a G h6)
  | .sh d, X, L, N, sc, cf, E, f, lv, e, G, h => pdShE d G h
theorem pdShE : ∀ (d : DE) {X : Cx} {L : Ln} {N : List Str} {sc : Scope} {cf : Bool} {E : XK} {f : Phi} {lv : Nat} {e : Expr}, GX X L N sc cf E f lv → cE L N false (.sh d) sc e = true → PE X e (tV X L E f (.sh d))
  | .lst es, X, L, N, sc, cf, E, f, lv, e, G, h => by
    unfold cE at h
    replace h := (and2 (and2 h).2).2
    unfold cE at h
    replace h := (and2 h).2
    split at h <;> first | (cases h; done) | skip
    obtain ⟨h1, h2⟩ := and2 h
    have hs := pdEs es G h2
    exact pd_shlst (hs.pa (cEs_nst h2)) (by rw [hs.len]; exact of_decide_eq_true h1)
  | .dct ks es, X, L, N, sc, cf, E, f, lv, e, G, h => by
    unfold cE at h
    replace h := (and2 (and2 h).2).2
    unfold cE at h
    replace h := (and2 h).2
    split at h <;> first | (cases h; done) | skip
    obtain ⟨h1, h2⟩ := and2 h
    obtain ⟨h1, h3⟩ := and2 h1
    obtain ⟨h2, h4⟩ := and2 h2
    obtain ⟨h2, h5⟩ := of_decide_eq_true h2
    exact pd_dct fin_shd h1 h3 h2 h5 (pdEs es G h4) (fun z {_ _} => evE_shdct' z)
  | .lc d tg it cs own, X, L, N, sc, cf, E, f, lv, e, G, h => by
    unfold cE at h
    replace h := (and2 (and2 h).2).2
    unfold cE at h
    replace h := (and2 h).2
    split at h <;> first | (cases h; done) | skip
    obtain ⟨h10, h2⟩ := and2 h
    obtain ⟨h1, h11⟩ := and2 h10
    obtain ⟨h3, h4⟩ := and2 h11
    obtain ⟨h9, h5⟩ := and2 h4
    obtain ⟨h2, h6⟩ := and2 h2
    obtain ⟨h2, h7⟩ := and2 h2
    obtain ⟨h6, h8⟩ := and2 h6
    cases of_decide_eq_true h9
    have hk := (blkOk_by h1).kind
    refine (pd_lcG G fin_shl h1 h5 (pdI it G h7) (fun s H C cl fp => pg_D (G.blk hk s H C cl fp) h2) (fun s H C cl fp => pdTts cs (G.blk hk s H C cl fp) h6) (fun s H C cl fp => pdE d (G.blk hk s H C cl fp) h8) (tgs_in h3)).imp fun _ _ _ q => tG.eq (fun _ _ => evE_shlc) q
  | .bin o a b, X, L, N, sc, cf, E, f, lv, e, G, h => by
    unfold cE at h
    replace h := (and2 (and2 h).2).2
    unfold cE at h
    replace h := (and2 h).2
    split at h <;> first | (cases h; done) | skip
    obtain ⟨h1, h2⟩ := and2 h
    obtain ⟨h2, h3⟩ := and2 h2
    rw [of_decide_eq_true h1]
    exact pd_shbin (pdE a G h2) (pdE b G h3)
  | .bf g es, X, L, N, sc, cf, E, f, lv, e, G, h => by
    unfold cE at h
    replace h := (and2 (and2 h).2).2
    unfold cE at h
    replace h := (and2 h).2
    split at h <;> first | (cases h; done) | skip
    obtain ⟨h1, h2⟩ := and2 h
    obtain ⟨h1, h3⟩ := and2 h1
    obtain ⟨h3, h4⟩ := and2 h3
    have hs := pdEs es G h2
    exact pd_shbf G (of_decide_eq_true h1) h3 (len_ne h4) (hs.pa (cEs_nst h2)) (cEs_nst h2)
  | .sl a l r, X, L, N, sc, cf, E, f, lv, e, G, h => by
    unfold cE at h
    replace h := (and2 (and2 h).2).2
    unfold cE at h
    replace h := (and2 h).2
    split at h <;> first | (cases h; done) | skip
    obtain ⟨h1, h2⟩ := and2 h
    obtain ⟨h2, h3⟩ := and2 h2
    exact pd_shsl (pdE a G h1) (pdO l G h2) (pdO r G h3)
  | .c _, X, L, N, sc, cf, E, f, lv, e, G, h => by unfold cE at h; cases (and2 (and2 h).2).1
  | .v _, X, L, N, sc, cf, E, f, lv, e, G, h => by unfold cE at h; cases (and2 (and2 h).2).1
  | .g _, X, L, N, sc, cf, E, f, lv, e, G, h => by unfold cE at h; cases (and2 (and2 h).2).1
  | .neg _, X, L, N, sc, cf, E, f, lv, e, G, h => by unfold cE at h; cases (and2 (and2 h).2).1
  | .cmp _ _ _, X, L, N, sc, cf, E, f, lv, e, G, h => by unfold cE at h; cases (and2 (and2 h).2).1
  | .chn _ _ _ _ _, X, L, N, sc, cf, E, f, lv, e, G, h => by unfold cE at h; cases (and2 (and2 h).2).1
  | .band _, X, L, N, sc, cf, E, f, lv, e, G, h => by unfold cE at h; cases (and2 (and2 h).2).1
  | .bor _, X, L, N, sc, cf, E, f, lv, e, G, h => by unfold cE at h; cases (and2 (and2 h).2).1
  | .bnot _, X, L, N, sc, cf, E, f, lv, e, G, h => by unfold cE at h; cases (and2 (and2 h).2).1
  | .ite _ _ _, X, L, N, sc, cf, E, f, lv, e, G, h => by unfold cE at h; cases (and2 (and2 h).2).1
  | .tup _, X, L, N, sc, cf, E, f, lv, e, G, h => by unfold cE at h; cases (and2 (and2 h).2).1
  | .ix _ _, X, L, N, sc, cf, E, f, lv, e, G, h => by unfold cE at h; cases (and2 (and2 h).2).1
  | .call _ _ _, X, L, N, sc, cf, E, f, lv, e, G, h => by unfold cE at h; cases (and2 (and2 h).2).1
  | .callk _ _ _ _, X, L, N, sc, cf, E, f, lv, e, G, h => by unfold cE at h; cases (and2 (and2 h).2).1
  | .isi _ _, X, L, N, sc, cf, E, f, lv, e, G, h => by unfold cE at h; cases (and2 (and2 h).2).1
  | .mth _ _ _ _, X, L, N, sc, cf, E, f, lv, e, G, h => by unfold cE at h; cases (and2 (and2 h).2).1
  | .bm _ _ _, X, L, N, sc, cf, E, f, lv, e, G, h => by unfold cE at h; cases (and2 (and2 h).2).1
  | .mk _ _, X, L, N, sc, cf, E, f, lv, e, G, h => by unfold cE at h; cases (and2 (and2 h).2).1
  | .fld _ _ _, X, L, N, sc, cf, E, f, lv, e, G, h => by unfold cE at h; cases (and2 (and2 h).2).1
  | .sh _, X, L, N, sc, cf, E, f, lv, e, G, h => by unfold cE at h; cases (and2 (and2 h).2).1
  | .fz _, X, L, N, sc, cf, E, f, lv, e, G, h => by unfold cE at h; cases (and2 (and2 h).2).1
  | .mthk _ _ _ _ _ _, X, L, N, sc, cf, E, f, lv, e, G, h => by unfold cE at h; cases (and2 (and2 h).2).1
  | .lrng3 _ _ _, X, L, N, sc, cf, E, f, lv, e, G, h => by unfold cE at h; cases (and2 (and2 h).2).1
  | .dc _ _ _ _ _ _, X, L, N, sc, cf, E, f, lv, e, G, h => by unfold cE at h; cases (and2 (and2 h).2).1
  | .sset _, X, L, N, sc, cf, E, f, lv, e, G, h => by unfold cE at h; cases (and2 (and2 h).2).1
theorem pdEs : ∀ (ds : DEs) {X : Cx} {L : Ln} {N : List Str} {sc : Scope} {cf : Bool} {E : XK} {f : Phi} {lv : Nat} {es : List Expr}, GX X L N sc cf E f lv → cEs L N false ds sc es = true → PEs X L E f ds es
  | .nil, X, L, N, sc, cf, E, f, lv, es, G, h => by
    unfold cEs at h
    exact List.isEmpty_iff.mp h
  | .cons d ds, X, L, N, sc, cf, E, f, lv, es, G, h => by
    cases es with
    | nil => unfold cEs at h; cases h
    | cons e es =>
      unfold cEs at h
      obtain ⟨h1, h2⟩ := and2 h
      obtain ⟨h2, h3⟩ := and2 h2
      exact ⟨e, es, rfl, pdE d G h2, pdEs ds G h3⟩
theorem pdO : ∀ (ds : DEs) {X : Cx} {L : Ln} {N : List Str} {sc : Scope} {cf : Bool} {E : XK} {f : Phi} {lv : Nat} {e : Option Expr}, GX X L N sc cf E f lv → cO L N ds sc e = true → PO X e (tOp' X L E f ds)
  | .nil, X, L, N, sc, cf, E, f, lv, e, G, h => by
    unfold cO at h
    rw [Option.isNone_iff_eq_none.mp h]
    exact pd_o0
  | .cons d .nil, X, L, N, sc, cf, E, f, lv, e, G, h => by
    unfold cO at h
    split at h
    · exact pd_o1 (pdE d G h)
    · cases h
  | .cons _ (.cons _ _), X, L, N, sc, cf, E, f, lv, e, G, h => by unfold cO at h; cases h
theorem pdKs : ∀ (ds : DEs) {X : Cx} {L : Ln} {N : List Str} {sc : Scope} {cf : Bool} {E : XK} {f : Phi} {lv : Nat} {ks : List Str} {kws : List Keyword}, GX X L N sc cf E f lv → cKs L N ds ks sc kws = true → PEs X L E f ds (kws.map (·.value))
  | .nil, X, L, N, sc, cf, E, f, lv, ks, kws, G, h => by
    unfold cKs at h
    rw [List.isEmpty_iff.mp (and2 h).2]
    rfl
  | .cons d ds, X, L, N, sc, cf, E, f, lv, ks, kws, G, h => by
    unfold cKs at h
    split at h
    · obtain ⟨h1, h2⟩ := and2 h
      obtain ⟨h2, h3⟩ := and2 h2
      exact ⟨_, _, rfl, pdE d G h2, pdKs ds G h3⟩
    · cases h
theorem pdT : ∀ (d : DE) {X : Cx} {L : Ln} {N : List Str} {sc : Scope} {cf : Bool} {E : XK} {f : Phi} {lv : Nat} {e : Expr}, GX X L N sc cf E f lv → cE L N true d sc e = true → PT X e (tBo X L E f d)
  | .band es, X, L, N, sc, cf, E, f, lv, e, G, h => by
    unfold cE at h
    split at h <;> first | (cases h; done) | skip
    obtain ⟨h0, h⟩ := and2 h
    have hs := pdTs es G h
    exact ((hs.an (dL_ne (pTs_len hs) (len_ne h0))).pt).imp fun _ _ _ q => tG.eq (fun _ _ => evT_band) q
  | .bor es, X, L, N, sc, cf, E, f, lv, e, G, h => by
    unfold cE at h
    split at h <;> first | (cases h; done) | skip
    obtain ⟨h0, h⟩ := and2 h
    have hs := pdTs es G h
    exact ((hs.os (dL_ne (pTs_len hs) (len_ne h0))).pt).imp fun _ _ _ q => tG.eq (fun _ _ => evT_bor) q
  | .bnot a, X, L, N, sc, cf, E, f, lv, e, G, h => by
    unfold cE at h
    split at h <;> first | (cases h; done) | skip
    exact pt_bnot (pdT a G h)
  | .cmp o a b, X, L, N, sc, cf, E, f, lv, e, G, h => by
    unfold cE at h
    split at h <;> first | (cases h; done) | skip
    obtain ⟨h1, h2⟩ := and2 h
    obtain ⟨h2, h3⟩ := and2 h2
    obtain ⟨h3, h4⟩ := and2 h3
    rw [of_decide_eq_true h1]
    exact pt_cmpD G (pdE a G h3) (pdE b G h4) h2
  | .chn o o' a b c, X, L, N, sc, cf, E, f, lv, e, G, h => by
    unfold cE at h
    split at h <;> first | (cases h; done) | skip
    obtain ⟨h1, h2⟩ := and2 h
    obtain ⟨h0, h1⟩ := and2 h1
    obtain ⟨h2, h3⟩ := and2 h2
    obtain ⟨h3, h4⟩ := and2 h3
    obtain ⟨h4, h5⟩ := and2 h4
    rw [of_decide_eq_true h0, of_decide_eq_true h1]
    exact pt_chnD G (pdE a G h3) (pdE b G h4) (pdE c G h5) h2
  | .ite _ _ _, X, L, N, sc, cf, E, f, lv, e, G, h => by unfold cE at h; cases (and2 h).1
  | .c d, X, L, N, sc, cf, E, f, lv, e, G, h => pt_plain (pdE (.c d) G (cE_true rfl h).2) (cE_true (d := .c d) rfl h).1 rfl
  | .v i, X, L, N, sc, cf, E, f, lv, e, G, h => pt_plain (pdE (.v i) G (cE_true rfl h).2) (cE_true (d := .v i) rfl h).1 rfl
  | .g i, X, L, N, sc, cf, E, f, lv, e, G, h => pt_plain (pdE (.g i) G (cE_true rfl h).2) (cE_true (d := .g i) rfl h).1 rfl
  | .bin o a b, X, L, N, sc, cf, E, f, lv, e, G, h => pt_plain (pdE (.bin o a b) G (cE_true rfl h).2) (cE_true (d := .bin o a b) rfl h).1 rfl
  | .neg a, X, L, N, sc, cf, E, f, lv, e, G, h => pt_plain (pdE (.neg a) G (cE_true rfl h).2) (cE_true (d := .neg a) rfl h).1 rfl
  | .tup es, X, L, N, sc, cf, E, f, lv, e, G, h => pt_plain (pdE (.tup es) G (cE_true rfl h).2) (cE_true (d := .tup es) rfl h).1 rfl
  | .lst es, X, L, N, sc, cf, E, f, lv, e, G, h => pt_plain (pdE (.lst es) G (cE_true rfl h).2) (cE_true (d := .lst es) rfl h).1 rfl
  | .dct ks es, X, L, N, sc, cf, E, f, lv, e, G, h => pt_plain (pdE (.dct ks es) G (cE_true rfl h).2) (cE_true (d := .dct ks es) rfl h).1 rfl
  | .ix a i, X, L, N, sc, cf, E, f, lv, e, G, h => pt_plain (pdE (.ix a i) G (cE_true rfl h).2) (cE_true (d := .ix a i) rfl h).1 rfl
  | .sl a l r, X, L, N, sc, cf, E, f, lv, e, G, h => pt_plain (pdE (.sl a l r) G (cE_true rfl h).2) (cE_true (d := .sl a l r) rfl h).1 rfl
  | .call g es ds, X, L, N, sc, cf, E, f, lv, e, G, h => pt_plain (pdE (.call g es ds) G (cE_true rfl h).2) (cE_true (d := .call g es ds) rfl h).1 rfl
  | .callk g es ks kes, X, L, N, sc, cf, E, f, lv, e, G, h => pt_plain (pdE (.callk g es ks kes) G (cE_true rfl h).2) (cE_true (d := .callk g es ks kes) rfl h).1 rfl
  | .bf g es, X, L, N, sc, cf, E, f, lv, e, G, h => pt_plain (pdE (.bf g es) G (cE_true rfl h).2) (cE_true (d := .bf g es) rfl h).1 rfl
  | .isi a ty, X, L, N, sc, cf, E, f, lv, e, G, h => pt_plain (pdE (.isi a ty) G (cE_true rfl h).2) (cE_true (d := .isi a ty) rfl h).1 rfl
  | .mth C g o es, X, L, N, sc, cf, E, f, lv, e, G, h => pt_plain (pdE (.mth C g o es) G (cE_true rfl h).2) (cE_true (d := .mth C g o es) rfl h).1 rfl
  | .bm m o es, X, L, N, sc, cf, E, f, lv, e, G, h => pt_plain (pdE (.bm m o es) G (cE_true rfl h).2) (cE_true (d := .bm m o es) rfl h).1 rfl
  | .mk C es, X, L, N, sc, cf, E, f, lv, e, G, h => pt_plain (pdE (.mk C es) G (cE_true rfl h).2) (cE_true (d := .mk C es) rfl h).1 rfl
  | .fld C i o, X, L, N, sc, cf, E, f, lv, e, G, h => pt_plain (pdE (.fld C i o) G (cE_true rfl h).2) (cE_true (d := .fld C i o) rfl h).1 rfl
  | .lc d tg it cs own, X, L, N, sc, cf, E, f, lv, e, G, h => pt_plain (pdE (.lc d tg it cs own) G (cE_true rfl h).2) (cE_true (d := .lc d tg it cs own) rfl h).1 rfl
  | .sh d, X, L, N, sc, cf, E, f, lv, e, G, h => pt_plain (pdE (.sh d) G (cE_true rfl h).2) (cE_true (d := .sh d) rfl h).1 rfl
  | .fz d, X, L, N, sc, cf, E, f, lv, e, G, h => pt_plain (pdE (.fz d) G (cE_true rfl h).2) (cE_true (d := .fz d) rfl h).1 rfl
  | .mthk C g o es ks kes, X, L, N, sc, cf, E, f, lv, e, G, h => pt_plain (pdE (.mthk C g o es ks kes) G (cE_true rfl h).2) (cE_true (d := .mthk C g o es ks kes) rfl h).1 rfl
  | .lrng3 x y z, X, L, N, sc, cf, E, f, lv, e, G, h => pt_plain (pdE (.lrng3 x y z) G (cE_true rfl h).2) (cE_true (d := .lrng3 x y z) rfl h).1 rfl
  | .dc k v tg it cs own, X, L, N, sc, cf, E, f, lv, e, G, h => pt_plain (pdE (.dc k v tg it cs own) G (cE_true rfl h).2) (cE_true (d := .dc k v tg it cs own) rfl h).1 rfl
  | .sset d, X, L, N, sc, cf, E, f, lv, e, G, h => pt_plain (pdE (.sset d) G (cE_true rfl h).2) (cE_true (d := .sset d) rfl h).1 rfl
theorem pdTs : ∀ (ds : DEs) {X : Cx} {L : Ln} {N : List Str} {sc : Scope} {cf : Bool} {E : XK} {f : Phi} {lv : Nat} {es : List Expr}, GX X L N sc cf E f lv → cEs L N true ds sc es = true → PTes X L E f ds es
  | .nil, X, L, N, sc, cf, E, f, lv, es, G, h => by
    unfold cEs at h
    exact List.isEmpty_iff.mp h
  | .cons d ds, X, L, N, sc, cf, E, f, lv, es, G, h => by
    cases es with
    | nil => unfold cEs at h; cases h
    | cons e es =>
      unfold cEs at h
      obtain ⟨h1, h2⟩ := and2 h
      obtain ⟨h2, h3⟩ := and2 h2
      exact ⟨e, es, rfl, pdT d G h2, pdTs ds G h3⟩
theorem pdTts : ∀ (ds : DEs) {X : Cx} {L : Ln} {N : List Str} {sc : Scope} {cf : Bool} {E : XK} {f : Phi} {lv : Nat} {es : List Expr}, GX X L N sc cf E f lv → cTts L N ds sc es = true → PTs X es (tTs X L E f ds)
  | .nil, X, L, N, sc, cf, E, f, lv, es, G, h => by
    unfold cTts at h
    exact pts_D (ds := .nil) (List.isEmpty_iff.mp h) (.inl rfl)
  | .cons d .nil, X, L, N, sc, cf, E, f, lv, es, G, h => by
    unfold cTts at h
    split at h
    · exact pts_D (ds := .cons d .nil) ⟨_, _, rfl, pdT d G h, rfl⟩ (.inr ⟨d, rfl⟩)
    · cases h
  | .cons _ (.cons _ _), X, L, N, sc, cf, E, f, lv, es, G, h => by unfold cTts at h; cases h
theorem pdI : ∀ (it : DI) {X : Cx} {L : Ln} {N : List Str} {sc : Scope} {cf : Bool} {E : XK} {f : Phi} {lv : Nat} {tg e : Expr}, GX X L N sc cf E f lv → cI L N it sc tg e = true → PI X tg e (tI X L E f it)
  | .e d, X, L, N, sc, cf, E, f, lv, tg, e, G, h => by
    unfold cI at h
    exact pi_e (pdE d G (and2 h).2)
  | .rng1 a, X, L, N, sc, cf, E, f, lv, tg, e, G, h => by
    unfold cI at h
    split at h <;> first | (cases h; done) | skip
    obtain ⟨h1, h2⟩ := and2 h
    obtain ⟨h2, h3⟩ := and2 h2
    obtain ⟨h3, h4⟩ := and2 h3
    exact pi_rng1 G (of_decide_eq_true h1) h2 h3 (pdE a G h4)
  | .rng2 a b, X, L, N, sc, cf, E, f, lv, tg, e, G, h => by
    unfold cI at h
    split at h <;> first | (cases h; done) | skip
    obtain ⟨h1, h2⟩ := and2 h
    obtain ⟨h2, h3⟩ := and2 h2
    obtain ⟨h3, h4⟩ := and2 h3
    obtain ⟨h3, h5⟩ := and2 h3
    obtain ⟨h4, h6⟩ := and2 h4
    exact pi_rng2 G (of_decide_eq_true h1) h2 h3 h5 (pdE a G h4) (pdE b G h6)
  | .keysL d, X, L, N, sc, cf, E, f, lv, tg, e, G, h => by
    unfold cI at h
    exact pi_keysL (pdE d G (and2 h).2)
  | .enum a, X, L, N, sc, cf, E, f, lv, tg, e, G, h => by
    unfold cI at h
    split at h <;> first | (cases h; done) | skip
    obtain ⟨h1, h2⟩ := and2 h
    obtain ⟨h2, h3⟩ := and2 h2
    obtain ⟨h3, h4⟩ := and2 h3
    exact pi_enumD G (of_decide_eq_true h1) h2 h3 (pdE a G h4)
  | .zip a b, X, L, N, sc, cf, E, f, lv, tg, e, G, h => by
    unfold cI at h
    split at h <;> first | (cases h; done) | skip
    obtain ⟨h1, h2⟩ := and2 h
    obtain ⟨h2, h3⟩ := and2 h2
    obtain ⟨h3, h4⟩ := and2 h3
    obtain ⟨h3, h5⟩ := and2 h3
    obtain ⟨h4, h6⟩ := and2 h4
    exact pi_zipD G (of_decide_eq_true h1) h2 h3 h5 (pdE a G h4) (pdE b G h6)
end
end TS
end

section
set_option Elab.async false
set_option linter.all false
set_option maxRecDepth 100000
set_option maxHeartbeats 2000000
set_option autoImplicit false
namespace TS
open PySem PySem.Spec PyProof.Rows L2
def PostS (F : Fm) (E : XK) (g : Gh) (H : Hp) (m : OutS) (D : Ends) : Prop :=
  match m with
  | .next sl st => ∀ g' H' σ', Ge g H g' H' → StR F g' H' st → SlO F g' H' sl σ' → D.nx σ' H'
  | .ret d st => ∀ g' H' v, Ge g H g' H' → StR F g' H' st → Rp F g' H' d v → D.rt v H'
  | .exc c a st => ∀ g' H' cls dd, Ge g H g' H' → StR F g' H' st → ExR F g' H' c a cls dd → E cls dd H'
  | .bad => False
def tS (F : Fm) (E : XK) (m : Slots → Store → OutS) : TS := fun D σ H => ∃ g sl st, SlO F g H sl σ ∧ StR F g H st ∧ PostS F E g H (m sl st) D
section
variable {F : Fm} {E : XK} {g g1 : Gh} {H H1 : Hp} {α β : Type} {R : Gh → Hp → α → β → Prop} {D : Ends}
theorem PostS.from {m : OutS} (e : Ge g H g1 H1) (h : PostS F E g H m D) : PostS F E g1 H1 m D := by
  cases m with
  | next sl st => exact fun g' H' σ k s r => h g' H' σ (e.trans k) s r
  | ret d st => exact fun g' H' v k s r => h g' H' v (e.trans k) s r
  | exc c a st => exact fun g' H' cls dd k s r => h g' H' cls dd (e.trans k) s r
  | bad => exact h
theorem PostS.then {m : Out α} {k : α → Store → OutS} {Q : β → Hp → Prop} (h : PostS F E g H (m.then k) D) (c : ∀ a st g' H' b, Ge g H g' H' → StR F g' H' st → R g' H' a b → PostS F E g' H' (k a st) D → Q b H') : Post F E R g H m Q := by
  cases m with
  | ok a st => exact fun g' H' b e s r => c a st g' H' b e s r (PostS.from e h)
  | exc c a st => exact h
  | bad => exact h
theorem PostS.okB {o : Option α} {st : Store} {k : α → Store → OutS} (h : PostS F E g H ((okO o st).then k) D) : ∃ a, o = some a ∧ PostS F E g H (k a st) D := by
  cases o with
  | none => exact h.elim
  | some a => exact ⟨a, rfl, h⟩
theorem tS.then {m0 : Slots → Store → OutS} {m : Slots → Store → Out α} {k : Slots → α → Store → OutS} {σ : L2.St} {Q : β → Hp → Prop} (eq : ∀ sl st, m0 sl st = (m sl st).then (k sl)) (h : tS F E m0 D σ H)
    (c : ∀ g H sl a st b, SlO F g H sl σ → StR F g H st → R g H a b → PostS F E g H (k sl a st) D → Q b H) : tG F E R m σ H Q := by
  obtain ⟨g, sl, st, h1, h2, h3⟩ := h
  rw [eq] at h3
  exact ⟨g, sl, st, h1, h2, PostS.then h3 fun a st1 g' H' b e s r p => c g' H' sl a st1 b (h1.ge e) s r p⟩
theorem PostS.nx {sl : Slots} {st : Store} {σ : L2.St} (h : PostS F E g H (.next sl st) D) (s : StR F g H st) (r : SlO F g H sl σ) : D.nx σ H := h g H σ Ge.refl s r
theorem PostS.seq {m : OutS} {k : Slots → Store → OutS} {D2 : Ends} (h : PostS F E g H (m.bind k) D) (h1 : D2.rt = D.rt) (h2 : ∀ sl st g' H' σ', Ge g H g' H' → StR F g' H' st → SlO F g' H' sl σ' → PostS F E g' H' (k sl st) D → D2.nx σ' H') : PostS F E g H m D2 := by
  cases m with
  | next sl st => exact fun g' H' σ e s r => h2 sl st g' H' σ e s r (PostS.from e h)
  | ret d st => exact fun g' H' v e s r => by rw [h1]; exact h g' H' v e s r
  | exc c a st => exact h
  | bad => exact h
end
theorem L2PS.imp {X : Cx} {s : Stmt} {t t' : TS} (h : PS X s t) (i : ∀ D σ H, t' D σ H → t D σ H) : PS X s t' := ⟨fun pins s σ H D I x => h.run pins s σ H D I (i D σ H x)⟩
section
variable {X : Cx} {L : Ln} {N : List Str} {sc : Scope} {cf : Bool} {E : XK} {f : Phi} {lv : Nat}
abbrev tSt (X : Cx) (L : Ln) (E : XK) (f : Phi) (d : DS) : TS := tS (FX X L) E (exS L.T f d)
abbrev tSs (X : Cx) (L : Ln) (E : XK) (f : Phi) (d : DSs) : TS := tS (FX X L) E (exSs L.T f d)
def nTup : Expr → Bool
  | .Tuple _ _ _ => false
  | .List _ _ => false
  | _ => true
theorem nt_tg {t e : Expr} {env : Env} (h : nTup t = true) : swappedStores [t] e env = pure none := by
  cases t <;> first | (cases h; done) | rfl
theorem nt_val {t e : Expr} {env : Env} (h : nTup e = true) : swappedStores [t] e env = pure none := by
  cases t <;> first | rfl | (cases e <;> first | (cases h; done) | rfl)
def nName : Expr → Bool
  | .Name _ _ => false
  | _ => true
theorem sw_other {t e : Expr} {l : Nat} {env : Env} (h : nName t = true) : swapsWith e (some t) l env = pure false := by
  cases e <;> first | rfl | (cases t <;> first | (cases h; done) | rfl)
theorem sw_sole {t e : Expr} {l : Nat} {env : Env} (h : nName t = true) : swapsWithSole [t] e l env = pure false := sw_other h
def swB (sc : Scope) (x : Str) (px : Pos) : Expr → Bool
  | .ListComp a b s q => decide (sc.names.lookup x = some .local) && (px.line == q.line && !(s.names.any fun (n, k) => n == x && (k == .local || k == .cell)))
  | .SetComp _ _ _ _ => true
  | .DictComp _ _ _ _ _ => true
  | _ => false
theorem sw_name {x : Str} {px : Pos} {e : Expr} {l : Nat} {env : Env} (hk : env.scope.kind = .function) (h : swB env.scope x px e = false) : swapsWith e (some (.Name x px)) l env = pure false := by
  cases e <;> first | rfl | (cases h; done) | skip
  rename_i a b s q
  have h : (decide (env.scope.names.lookup x = some .local) && (px.line == q.line && !(s.names.any fun (n, k) => n == x && (k == .local || k == .cell)))) = false := h
  have hb : env.blockKind = .function := by unfold Env.blockKind; rw [hk]; rfl
  show (pure (env.blockKind == .function && env.kindOf x == some .local && px.line == q.line && !(s.names.any fun (n, k) => n == x && (k == .local || k == .cell))) : Sem Bool) = pure false
  rw [hb]
  have e1 : (env.kindOf x == some NameKind.local) = decide (env.scope.names.lookup x = some .local) := by rw [Bool.eq_iff_iff, beq_iff_eq, decide_eq_true_iff]; rfl
  rw [e1]
  congr 1
  simp only [beq_self_eq_true, Bool.true_and, Bool.and_assoc]
  exact h
theorem sw_yes {x : Str} {px q : Pos} {a : Expr} {b : List Comprehension} {s : Scope} {l : Nat} {env : Env} (hk : env.scope.kind = .function) (h : swB env.scope x px (.ListComp a b s q) = true) : swapsWith (.ListComp a b s q) (some (.Name x px)) l env = pure true := by
  have h : (decide (env.scope.names.lookup x = some .local) && (px.line == q.line && !(s.names.any fun (n, k) => n == x && (k == .local || k == .cell)))) = true := h
  have hb : env.blockKind = .function := by unfold Env.blockKind; rw [hk]; rfl
  show (pure (env.blockKind == .function && env.kindOf x == some .local && px.line == q.line && !(s.names.any fun (n, k) => n == x && (k == .local || k == .cell))) : Sem Bool) = pure true
  rw [hb]
  have e1 : (env.kindOf x == some NameKind.local) = decide (env.scope.names.lookup x = some .local) := by rw [Bool.eq_iff_iff, beq_iff_eq, decide_eq_true_iff]; rfl
  rw [e1]
  congr 1
  simp only [beq_self_eq_true, Bool.true_and, Bool.and_assoc]
  exact h
theorem ps_asgD (G : GX X L N sc cf E f lv) {tg : Tg} {d : DE} {t e : Expr} {p : Pos} (ht : PG X t (tgD (FX X L) tg)) (he : PE X e (tV X L E f d)) (hs : swapsWith e (some t) p.line X.env = pure false) (hw : swappedStores [t] e X.env = pure none) (ha : (assignEach [t] X.env).map (·.2) = [assign t X.env]) :
    PS X (.Assign [t] e p) (tSt X L E f (.asg tg d)) := by
  refine L2PS.imp (ps_asg he ht hs hw ha) fun D σ H q => tS.then (fun _ _ => exS_asg) q fun g1 H1 sl x st1 u hs1 S1 rx p1 => ?_
  cases ea : asgV tg sl x with
  | none => rw [ea] at p1; exact p1.elim
  | some sl2 =>
    rw [ea] at p1
    exact ⟨g1, sl, st1, x, sl2, hs1, S1, rx, ea, fun σ2 h2 _ => PostS.nx p1 S1 h2⟩
theorem ps_exprD {d : DE} {e : Expr} {p : Pos} (he : PE X e (tV X L E f d)) (hs : ncomp e = true) : PS X (.Expr e p) (tSt X L E f (.expr d)) :=
  L2PS.imp (ps_expr he (ncomp_ok hs)) fun D σ H q => tS.then (fun _ _ => exS_expr) q fun g1 H1 sl x st1 u hs1 S1 rx p1 => PostS.nx p1 S1 hs1
theorem ps_retD {d : DE} {e : Expr} {p : Pos} (he : PE X e (tV X L E f d)) : PS X (.Return (some e) p) (tSt X L E f (.ret d)) :=
  L2PS.imp (ps_ret he) fun D σ H q => tS.then (fun _ _ => exS_ret) q fun g1 H1 sl x st1 u hs1 S1 rx p1 => p1 g1 H1 u Ge.refl S1 rx
theorem ps_passD {p : Pos} : PS X (.Pass p) (tSt X L E f .pass) := L2PS.imp ps_pass fun D σ H ⟨g, sl, st, h1, S, q⟩ => by
  rw [exS_pass] at q
  exact PostS.nx q S h1
theorem ps_setFD (G : GX X L N sc cf E f lv) {C i : Nat} {o d : DE} {m : Str} {x e : Expr} {p p' : Pos} (hm : (L.T.flds C)[i]? = some m) (hC : L.isC C = true) (ho : PE X x (tV X L E f o)) (he : PE X e (tV X L E f d)) : PS X (.Assign [.Attribute x m p'] e p) (tSt X L E f (.setF C i o d)) := by
  obtain ⟨c1, c2, c3, c5, c4, _⟩ := G.lk.cls C hC
  refine L2PS.imp (ps_fld ho he (sw_other rfl)) fun D σ H q => tS.then (fun _ _ => exS_setF) q fun g1 H1 sl y st1 u hs1 S1 ry p1 => ?_
  refine tG.of hs1 S1 (PostS.then p1 fun x st2 g2 H2 v e2 S2 rx p2 => ?_)
  obtain ⟨a, dx, fs, h1, h2, h3, h4⟩ := setF_ok (K := fun H' => D.nx σ H') S2 G.lk.nd rx (Rp.ge e2 _ _ ry) hm G.lk.few (PostS.then p2 fun _ st3 g3 H3 _ e3 S3 _ p3 => PostS.nx p3 S3 ((hs1.ge e2).ge e3))
  exact ⟨a, L.ca C, dx, fs, h1, h2, c1, c4 m (List.mem_of_getElem? hm), h3, h4⟩
theorem ps_augFD (G : GX X L N sc cf E f lv) {C i : Nat} {o d : DE} {op : BOp} {m : Str} {x e : Expr} {p p' : Pos} {rd : V → V → Hp → VK → Prop} (hop : InOp X (opO op) rd) (hrd : ∀ {u y z : D} {v w : V} {H : Hp} {g : Gh} {Q : VK}, augV op u y = some z → Rp (FX X L) g H u v → Rp (FX X L) g H y w → (∀ r, Rp (FX X L) g H z r → Q r H) → rd v w H Q)
    (hm : (L.T.flds C)[i]? = some m) (hC : L.isC C = true) (ho : PE X x (tV X L E f o)) (he : PE X e (tV X L E f d)) : PS X (.AugAssign (.Attribute x m p') (opO op) e p) (tSt X L E f (.augF C i o op d)) := by
  obtain ⟨c1, c2, c3, c5, c4, _⟩ := G.lk.cls C hC
  refine L2PS.imp (ps_fldaug ho he hop) fun D σ H q => tS.then (fun _ _ => exS_augF) q fun g1 H1 sl y st1 u hs1 S1 ry p1 => ?_
  obtain ⟨k, ek, p2⟩ := PostS.okB p1
  obtain ⟨a, dx, fs, v, e1, e2, e3, e4⟩ := fld_ok S1 G.lk.nd ry hm ek
  refine ⟨a, L.ca C, dx, fs, v, e1, e2, c1, c4 m (List.mem_of_getElem? hm), e3, tG.of hs1 S1 (PostS.then p2 fun x st2 g2 H2 w k2 S2 rx p3 => ?_)⟩
  obtain ⟨z, ez, p4⟩ := PostS.okB p3
  refine hrd ez (Rp.ge k2 _ _ e4) rx fun r rr => ?_
  obtain ⟨a', dx', fs', f1, f2, f3, f4⟩ := setF_ok (K := fun H' => D.nx σ H') S2 G.lk.nd (Rp.ge k2 _ _ ry) rr hm G.lk.few (PostS.then p4 fun _ st3 g3 H3 _ e3 S3 _ p3 => PostS.nx p3 S3 ((hs1.ge k2).ge e3))
  rw [e1] at f1
  cases f1
  exact ⟨dx', fs', f2, f3, f4⟩
theorem aug_or {op : BOp} {u y z : D} (h : augV op u y = some z) : ∃ i j, u = .int i ∧ y = .int j ∧ ((op = .add ∧ z = .int (i + j)) ∨ (op = .sub ∧ z = .int (i - j))) := by
  unfold augV at h
  split at h
  · cases h; exact ⟨_, _, rfl, rfl, .inl ⟨rfl, rfl⟩⟩
  · cases h; exact ⟨_, _, rfl, rfl, .inr ⟨rfl, rfl⟩⟩
  · cases h
theorem ps_augD (G : GX X L N sc cf E f lv) {i : Nat} {d : DE} {op : BOp} {n : Str} {e : Expr} {p p' : Pos} {ti : TIp} (hop : PIp X (opO op) ti) (hrd : ∀ {u y z : D} {v w : V} {H : Hp} {g : Gh} {Q : VK}, augV op u y = some z → Rp (FX X L) g H u v → Rp (FX X L) g H y w → (∀ r, Rp (FX X L) g H z r → Q r H) → ti v w H Q)
    (h1 : N[i]? = some n) (h2 : storeB sc cf n = true) (he : PE X e (tV X L E f d)) : PS X (.AugAssign (.Name n p') (opO op) e p) (tSt X L E f (.aug i op d)) := by
  obtain ⟨a, b⟩ := storeB_ok G.hs G.cell h2
  refine L2PS.imp (ps_aug (by rw [G.nN]; exact G.nd) (by rw [G.nN]; exact h1) a he hop b) fun D σ H ⟨g, sl, st, s1, S, q⟩ => ?_
  rw [exS_aug] at q
  split at q
  · rename_i u eu
    obtain ⟨v, ev, rv⟩ := s1.2 i u eu
    refine ⟨v, ev, g, sl, st, s1, S, PostS.then q fun y st1 g1 H1 w k1 S1 ry p1 => ?_⟩
    obtain ⟨z, ez, p2⟩ := PostS.okB p1
    exact hrd ez (Rp.ge k1 _ _ rv) ry fun r rr => PostS.nx p2 S1 ((s1.ge k1).set rr)
  · exact q.elim
theorem pg_subD {o i : DE} {x y : Expr} {p : Pos} (hu : X.A.units + 1 < cLine) (ho : PE X x (tV X L E f o)) (hi : PE X y (tV X L E f i)) (hy : nsl y = true) : PG X (.Subscript x y p) (gSub (tV X L E f o) (tV X L E f i) rSetAny) :=
  pg_sub ho hi (set_any hu) fun v => by
    cases y <;> first | (cases hy; done) | rfl
theorem ps_setID (G : GX X L N sc cf E f lv) {o i d : DE} {x y e : Expr} {p p' : Pos} (ho : PE X x (tV X L E f o)) (hi : PE X y (tV X L E f i)) (he : PE X e (tV X L E f d)) (hy : nsl y = true) : PS X (.Assign [.Subscript x y p'] e p) (tSt X L E f (.setI o i d)) := by
  have hu := G.room.un
  refine L2PS.imp (ps_asg he (pg_subD (by omega) ho hi hy) (sw_sole rfl) (nt_tg rfl) rfl) fun D σ H q => tS.then (fun _ _ => exS_setI) q fun g1 H1 sl v st1 u hs1 S1 rv p1 => ?_
  refine tG.of hs1 S1 (PostS.then p1 fun x st2 g2 H2 w e2 S2 rx p2 => ?_)
  refine tG.of (hs1.ge e2) S2 (PostS.then p2 fun k st3 g3 H3 w3 e3 S3 rk p3 => ?_)
  exact setI_ok S3 (Rp.ge e3 _ _ rx) rk (Rp.ge (e2.trans e3) _ _ rv) (PostS.then p3 fun _ st4 g4 H4 _ e4 S4 _ p4 => PostS.nx p4 S4 (hs1.ge (e2.trans (e3.trans e4))))
theorem ps_setI2D (G : GX X L N sc cf E f lv) {o i o2 i2 d : DE} {x y x2 y2 e : Expr} {p p' p2 pt : Pos} {c} (ho : PE X x (tV X L E f o)) (hi : PE X y (tV X L E f i)) (ho2 : PE X x2 (tV X L E f o2)) (hi2 : PE X y2 (tV X L E f i2)) (he : PE X e (tV X L E f d)) (hy : nsl y = true) (hy2 : nsl y2 = true)
    (hw : swappedStores [.Tuple [.Subscript x y p', .Subscript x2 y2 p2] c pt] e X.env = pure none) : PS X (.Assign [.Tuple [.Subscript x y p', .Subscript x2 y2 p2] c pt] e p) (tSt X L E f (.setI2 o i o2 i2 d)) := by
  have hu := G.room.un
  refine L2PS.imp (ps_asg he (pg_tup G.calm (pgs_cons (pg_subD (by omega) ho hi hy) (pgs_cons (pg_subD (by omega) ho2 hi2 hy2) pgs_nil rfl) rfl) rfl rfl) (sw_sole rfl) hw rfl) fun D σ H q => tS.then (fun _ _ => exS_setI2) q fun g1 H1 sl v st1 u hs1 S1 rv p1 => ?_
  split at p1
  · rename_i d1 d2
    obtain ⟨a, vs, rfl, h1, h2⟩ := rv.tup_of
    obtain ⟨v1, v2, rfl, r1, r2⟩ := h2.two_of
    refine ⟨a, [v1, v2], rfl, h1, rfl, v1, [v2], rfl, ?_⟩
    refine tG.of hs1 S1 (PostS.then p1 fun x st2 g2 H2 w e2 S2 rx p2 => ?_)
    refine tG.of (hs1.ge e2) S2 (PostS.then p2 fun k st3 g3 H3 w3 e3 S3 rk p3 => ?_)
    refine setI_ok S3 (Rp.ge e3 _ _ rx) rk (Rp.ge (e2.trans e3) _ _ r1) (PostS.then p3 fun _ st4 g4 H4 _ e4 S4 _ p4 => ?_)
    have e24 := e2.trans (e3.trans e4)
    refine ⟨v2, [], rfl, tG.of (hs1.ge e24) S4 (PostS.then p4 fun x st5 g5 H5 w e5 S5 rx p5 => ?_)⟩
    refine tG.of ((hs1.ge e24).ge e5) S5 (PostS.then p5 fun k st6 g6 H6 w6 e6 S6 rk p6 => ?_)
    exact setI_ok S6 (Rp.ge e6 _ _ rx) rk (Rp.ge (e24.trans (e5.trans e6)) _ _ r2) (PostS.then p6 fun _ st7 g7 H7 _ e7 S7 _ p7 => ⟨rfl, PostS.nx p7 S7 (hs1.ge (e24.trans (e5.trans (e6.trans e7))))⟩)
  · exact p1.elim
theorem ps_parD (G : GX X L N sc cf E f lv) {i j : Nat} {a b : DE} {x y : Str} {u v : Expr} {p px py pt p2 : Pos} {c c2} (hi : N[i]? = some x) (hj : N[j]? = some y) (hij : i ≠ j) (hx : sc.names.lookup x = some .local) (hy : sc.names.lookup y = some .local) (ha : PE X u (tV X L E f a)) (hb : PE X v (tV X L E f b)) (n1 : nst u = true) (n2 : nst v = true)
    (hw : swappedStores [.Tuple [.Name x px, .Name y py] c pt] (.Tuple [u, v] c2 p2) X.env = pure (some [x, y])) : PS X (.Assign [.Tuple [.Name x px, .Name y py] c pt] (.Tuple [u, v] c2 p2) p) (tSt X L E f (.par i j a b)) := by
  refine L2PS.imp (ps_par G.calm (by rw [G.nN]; exact G.nd) (by rw [G.nN]; exact hi) (by rw [G.nN]; exact hj) hij (by rw [G.hs]; exact hx) (by rw [G.hs]; exact hy) (pa_cons ha (pa_cons hb pa_nil (star_one n2)) (star_one n1)) hw (sw_sole rfl)) fun D σ H q => tS.then (fun _ _ => exS_par) q fun g1 H1 sl d1 st1 w hs1 S1 r1 p1 => ?_
  refine tG.of hs1 S1 (PostS.then p1 fun d2 st2 g2 H2 w2 e2 S2 r2 p2 => ?_)
  exact ⟨w, w2, rfl, PostS.nx p2 S2 (((hs1.ge e2).set (Rp.ge e2 _ _ r1)).set r2)⟩
theorem pss_nilD : PSs X [] (tSs X L E f .nil) := ⟨fun pins s σ H D I ⟨g, sl, st, h1, S, q⟩ => pss_nil.run pins s σ H D I (PostS.nx (by rw [exSs_nil] at q; exact q) S h1)⟩
theorem pss_consD {d : DS} {ds : DSs} {s : Stmt} {ss : List Stmt} (h1 : PS X s (tSt X L E f d)) (h2 : PSs X ss (tSs X L E f ds)) : PSs X (s :: ss) (tSs X L E f (.cons d ds)) := by
  refine ⟨fun pins s σ H D I ⟨g, sl, st, k1, S, q⟩ => (pss_cons h1 h2).run pins s σ H D I ⟨g, sl, st, k1, S, ?_⟩⟩
  rw [exSs_cons] at q
  exact PostS.seq q rfl fun sl1 st1 g' H' σ' e s r p => ⟨g', sl1, st1, r, s, p⟩
theorem ps_ifD {t : DE} {a b : DSs} {c : Expr} {x y : List Stmt} {p : Pos} (hc : PT X c (tBo X L E f t)) (ha : PSs X x (tSs X L E f a)) (hb : PSs X y (tSs X L E f b)) : PS X (.If c x y p) (tSt X L E f (.ifs t a b)) := by
  refine L2PS.imp (ps_if hc ha hb) fun D σ H q => tS.then (fun _ _ => exS_ifs) q fun g1 H1 sl k st1 u hs1 S1 rk p1 => ?_
  cases rk
  cases k with
  | true => rw [if_pos rfl] at p1 ⊢; exact ⟨g1, sl, st1, hs1, S1, p1⟩
  | false => rw [if_neg (by simp)] at p1 ⊢; exact ⟨g1, sl, st1, hs1, S1, p1⟩
theorem ps_forD (G : GX X L N sc cf E f lv) (hp : PassesOwn (model X.prog X.w) X.A X.env X.xe) {tg : Tg} {it : DI} {b : DSs} {t i : Expr} {body : List Stmt} {p : Pos} (hi : PI X t i (tI X L E f it)) (ht : PG X t (tgD (FX X L) tg)) (hb : PSs X body (tSs X L E f b)) (hn : nset i = true) :
    PS X (.For t i body [] p) (tSt X L E f (.for_ tg it b)) := by
  refine L2PS.imp (ps_for hp G.calm hi ht hb fun x => nset_ok hn x) fun D σ H q => tS.then (fun _ _ => exS_for_) q fun g1 H1 sl w st1 J hs1 S1 wk p1 => ?_
  refine ⟨fun i m σ H => ∃ g sl st, Ge g1 H1 g H ∧ SlO (FX X L) g H sl σ ∧ StR (FX X L) g H st ∧ i ≤ w.xs.length ∧ m = w.xs.length - i ∧ PostS (FX X L) E g H (forLoop w.ok tg (fun sl2 st2 => exSs L.T f b sl2 st2) (w.xs.drop i) sl st) D,
    ⟨_, g1, sl, st1, Ge.refl, hs1, S1, Nat.zero_le _, rfl, p1⟩, fun i m σ H ⟨g, sl, st, ge, hs, S, hi, hm, q⟩ => ?_⟩
  by_cases hlt : i < w.xs.length
  · rw [List.drop_eq_getElem_cons hlt, forLoop] at q
    split at q
    · rename_i hk
      split at q
      · rename_i sl1 ea
        obtain ⟨hgo, hyld⟩ := wk.go g H st i _ ge S hk (List.getElem?_eq_getElem hlt)
        refine .inr ⟨hgo, fun σ' H' => ∃ g' sl' st', Ge g1 H1 g' H' ∧ SlO (FX X L) g' H' sl' σ' ∧ StR (FX X L) g' H' st' ∧ PostS (FX X L) E g' H' (forLoop w.ok tg (fun sl2 st2 => exSs L.T f b sl2 st2) (w.xs.drop (i + 1)) sl' st') D, ?_, ?_⟩
        · rintro σ' H' ⟨g', sl', st', k1, k2, k3, k4⟩
          exact ⟨_, by omega, g', sl', st', k1, k2, k3, by omega, rfl, k4⟩
        · intro v H' hv
          obtain ⟨g', ge', S', rv⟩ := hyld v H' hv
          refine ⟨g', sl, st, _, sl1, hs.ge ge', S', rv, ea, fun σ2 hs2 _ => ⟨g', sl1, st, hs2, S', ?_⟩⟩
          exact PostS.seq (PostS.from ge' q) rfl fun sl2 st2 g2 H2 σ3 e2 s2 r2 p2 => ⟨g2, sl2, st2, ge.trans (ge'.trans e2), r2, s2, p2⟩
      · exact q.elim
    · exact q.elim
  · have hi2 : i = w.xs.length := by omega
    rw [List.drop_eq_nil_of_le (by omega), forLoop] at q
    split at q
    · rename_i hk
      exact .inl ⟨by rw [hi2]; exact wk.stop g H _ ge S hk, PostS.nx q S hs⟩
    · exact q.elim
theorem ps_whlD (hp : PassesOwn (model X.prog X.w) X.A X.env X.xe) {t : DE} {b : DSs} {c : Expr} {body : List Stmt} {p : Pos} (hc : PT X c (tBo X L E f t)) (hb : PSs X body (tSs X L E f b)) : PS X (.While c body [] p) (tSt X L E f (.whl t b)) := by
  refine L2PS.imp (ps_while hp hc hb) fun D σ H ⟨g, sl, st, h1, S, q⟩ => ?_
  rw [exS_whl] at q
  refine ⟨fun m σ H => ∃ g sl st, SlO (FX X L) g H sl σ ∧ StR (FX X L) g H st ∧ PostS (FX X L) E g H (whlLoop (fun sl2 st2 => evT L.T f t sl2 st2) (fun sl2 st2 => exSs L.T f b sl2 st2) m sl st) D, ⟨WF, g, sl, st, h1, S, q⟩, fun m σ H ⟨g, sl, st, h1, S, q⟩ => ?_⟩
  cases m with
  | zero => exact q.elim
  | succ n =>
    rw [whlLoop] at q
    refine ⟨g, sl, st, h1, S, PostS.then q fun k st1 g1 H1 k' e S1 rk p1 => ?_⟩
    cases rk
    cases k with
    | false =>
      rw [if_neg (by simp)] at p1 ⊢
      exact PostS.nx p1 S1 (h1.ge e)
    | true =>
      rw [if_pos rfl] at p1 ⊢
      refine ⟨fun σ' H' => ∃ g' sl' st', SlO (FX X L) g' H' sl' σ' ∧ StR (FX X L) g' H' st' ∧ PostS (FX X L) E g' H' (whlLoop (fun sl2 st2 => evT L.T f t sl2 st2) (fun sl2 st2 => exSs L.T f b sl2 st2) n sl' st') D, fun σ' H' ⟨g', sl', st', k1, k2, k3⟩ => ⟨n, by omega, g', sl', st', k1, k2, k3⟩, ?_⟩
      exact ⟨g1, sl, st1, h1.ge e, S1, PostS.seq p1 rfl fun sl2 st2 g2 H2 σ3 e2 s2 r2 p2 => ⟨g2, sl2, st2, r2, s2, p2⟩⟩
theorem lkd_at {n : Nat} {ks : List Key} {ds : List D} {st : Store} (h : lkd n ks ds st = true) : st[n]? = some (.ldic ks ds) := by
  unfold lkd at h
  split at h
  · rename_i k d e
    obtain ⟨h1, h2⟩ := and2 h
    rw [e, of_decide_eq_true h1, D.beqs_eq h2]
  · cases h
theorem ps_lockD {s : Stmt} {d0 : DS} {m : Slots → Store → OutS} (h : PS X s (tS (FX X L) E m)) (e : ∀ sl st, exS L.T f d0 sl st ≠ .bad → ∃ n ks ds, st[n]? = some (.dic ks ds) ∧ exS L.T f d0 sl st = unlk n ks ds (m sl (st.set n (.ldic ks ds)))) : PS X s (tSt X L E f d0) := by
  refine L2PS.imp (ps_lock h) fun D σ H ⟨g, sl, st, hs, S, p⟩ => ?_
  obtain ⟨n, ks, ds, en, eq⟩ := e sl st fun z => by rw [z] at p; exact p
  rw [eq] at p
  rcases S.obj n _ en with z | ⟨a, hi, hr, vs, h0, h1, h2⟩
  · cases z
  have nr : ∀ x, g.r x = some .frz ∨ g.r x = some .tmp → x ≠ a := fun x hx z => by
    rw [z, hr] at hx
    rcases hx with hx | hx <;> cases hx
  have nt : ∀ x (u : HO), H x = some u → (∀ kvs, u ≠ .dK kvs) → x ≠ a := fun x u hx hu z => by
    rw [z, h1] at hx
    cases hx
    exact hu _ rfl
  have lt : n < st.length := S.dom n a hi
  refine ⟨a, .dK (ks.zip vs), h1, trivial, fun od => ?_⟩
  have ge : Ge g H g (upd H a (.frz od (.dK (ks.zip vs)))) := ⟨fun x hx => ⟨rfl, .inl (upd_ne (nr x hx))⟩, fun x xs hx => by rw [upd_ne (nt x _ hx fun _ z => by cases z)]; exact hx, fun x o u hx => by rw [upd_ne (nt x _ hx fun _ z => by cases z)]; exact hx, fun _ _ q => q⟩
  have S1 : StR (FX X L) g (upd H a (.frz od (.dK (ks.zip vs)))) (st.set n (.ldic ks ds)) := by
    refine ⟨fun k b hb => by rw [List.length_set]; exact S.dom k b hb, fun k o ho => ?_, fun b r hb => ?_⟩
    · by_cases hk : k = n
      · subst hk
        rw [List.getElem?_set_self lt] at ho
        cases ho
        exact .inr ⟨a, hi, hr, od, vs, h0, upd_same, Rps.ge ge _ _ h2⟩
      · rw [List.getElem?_set_ne (Ne.symm hk)] at ho
        rcases S.obj k o ho with z | ⟨b, b1, b2, b3⟩
        · exact .inl z
        · have nb : b ≠ a := fun z => by rw [z, hr] at b2; cases b2; exact hk rfl
          exact .inr ⟨b, b1, b2, OR.ge ge (upd_ne nb) b3⟩
    · by_cases hb2 : b = a
      · exact ⟨_, by rw [hb2]; exact upd_same⟩
      · obtain ⟨o, ho⟩ := S.trk b r hb
        exact ⟨o, by rw [upd_ne hb2]; exact ho⟩
  -- the way back
  have back : ∀ {g2 : Gh} {H2 : Hp} {st2 : Store}, Ge g (upd H a (.frz od (.dK (ks.zip vs)))) g2 H2 → StR (FX X L) g2 H2 st2 → lkd n ks ds st2 = true →
      H2 a = some (.frz od (.dK (ks.zip vs))) ∧ Ge g H g2 (upd H2 a (.dK (ks.zip vs))) ∧ GeW g2 H2 g2 (upd H2 a (.dK (ks.zip vs))) ∧ StR (FX X L) g2 (upd H2 a (.dK (ks.zip vs))) (st2.set n (.dic ks ds)) := by
    intro g2 H2 st2 e2 S2 hk
    have q0 : H2 a = some (.frz od (.dK (ks.zip vs))) := e2.fro a _ _ upd_same
    have e3 := lkd_at hk
    rcases S2.obj n _ e3 with z | ⟨b, b1, b2, od', vs', b0, b3, b4⟩
    · cases z
    have i2 := e2.ix n a hi
    rw [i2] at b1
    cases b1
    rw [q0] at b3
    have ez : ks.zip vs = ks.zip vs' := by
      injection b3 with b3; injection b3 with b3 b5; injection b5
    have nr2 : ∀ x, g2.r x = some .frz ∨ g2.r x = some .tmp → x ≠ a := fun x hx z => by
      rw [z, b2] at hx
      rcases hx with hx | hx <;> cases hx
    have w2 : GeW g2 H2 g2 (upd H2 a (.dK (ks.zip vs))) := ⟨fun x hx => ⟨rfl, .inl (upd_ne (nr2 x hx))⟩, fun x xs hx => by
        rw [upd_ne fun z => by rw [z, q0] at hx; cases hx]; exact hx, fun x o xs hx => by
        rw [upd_ne fun z => by rw [z, q0] at hx; cases hx]; exact hx, fun _ _ q => q⟩
    refine ⟨q0, ⟨fun x hx => ?_, fun x xs hx => ?_, fun x o u hx => ?_, e2.ix⟩, w2, ?_⟩
    · have nx := nr x hx
      obtain ⟨f1, f2⟩ := e2.fix x hx
      rw [upd_ne nx] at f2
      exact ⟨f1, by rw [upd_ne nx]; exact f2⟩
    · have nx := nt x _ hx fun _ z => by cases z
      rw [upd_ne nx]
      exact e2.tup x xs (by rw [upd_ne nx]; exact hx)
    · have nx := nt x _ hx fun _ z => by cases z
      rw [upd_ne nx]
      exact e2.fro x o u (by rw [upd_ne nx]; exact hx)
    · have lt2 : n < st2.length := S2.dom n a i2
      refine ⟨fun k c hc => by rw [List.length_set]; exact S2.dom k c hc, fun k o ho => ?_, fun c r hc => ?_⟩
      · by_cases hkn : k = n
        · subst hkn
          rw [List.getElem?_set_self lt2] at ho
          cases ho
          exact .inr ⟨a, i2, b2, vs', b0, by rw [upd_same, ez], Rps.gw w2 _ _ b4⟩
        · rw [List.getElem?_set_ne (Ne.symm hkn)] at ho
          rcases S2.obj k o ho with z | ⟨c, c1, c2, c3⟩
          · exact .inl z
          · have nc : c ≠ a := fun z => by rw [z, b2] at c2; cases c2; exact hkn rfl
            exact .inr ⟨c, c1, c2, OR.gw w2 (upd_ne nc) c3⟩
      · by_cases hca : c = a
        · exact ⟨_, by rw [hca]; exact upd_same⟩
        · obtain ⟨o, ho⟩ := S2.trk c r hc
          exact ⟨o, by rw [upd_ne hca]; exact ho⟩
  refine ⟨g, sl, _, hs.ge ge, S1, ?_⟩
  cases em : m sl (st.set n (.ldic ks ds)) with
  | bad => rw [em] at p; exact p
  | exc c x st2 => rw [em] at p; exact p.elim
  | next sl2 st2 =>
    rw [em] at p
    unfold unlk at p
    dsimp only at p
    split at p
    · rename_i hk
      intro g2 H2 σ2 e2 S2 hs2
      obtain ⟨q0, q1, q2, q3⟩ := back e2 S2 hk
      exact ⟨q0, p g2 _ σ2 q1 q3 (SlO.gw q2 hs2)⟩
    · exact p.elim
  | ret x st2 =>
    rw [em] at p
    unfold unlk at p
    dsimp only at p
    split at p
    · rename_i hk
      intro g2 H2 v e2 S2 rv
      obtain ⟨q0, q1, q2, q3⟩ := back e2 S2 hk
      exact ⟨q0, p g2 _ v q1 q3 (Rp.gw q2 _ _ rv)⟩
    · exact p.elim
end
end TS
end

section
set_option Elab.async false
set_option linter.all false
set_option maxRecDepth 100000
set_option maxHeartbeats 2000000
set_option autoImplicit false
namespace TS
open PySem PySem.Spec PyProof.Rows L2
section
variable {X : Cx} {L : Ln} {N : List Str} {sc : Scope} {cf : Bool} {E : XK} {f : Phi} {lv : Nat}
theorem ps_setLcD (G : GX X L N sc cf E f lv) {j : Nat} {y : Str} {py : Pos} {x t i : Expr} {ifs : List Expr} {s2 : Scope} {pos spos : Pos} {d0 e : DE} {tg : Tg} {it : DI} {cs : DEs} {own : List Nat} {m3 : List D → Store → Out D}
    (hd : ∀ sl st, evE L.T f d0 sl st = lcM L.T f e tg it cs own m3 sl st) (hy : N[j]? = some y) (hsw : swB sc y py (.ListComp x [⟨t, i, ifs, 0⟩] s2 pos) = true)
    (hm : FinL (FX X L) E m3) (hb : blkC N sc s2 (ownN N own) = true) (hi : nset i = true)
    (pi : PI X t i (tI X L E f it)) (ht : ∀ (s : Shared) (H : Hp) (C : Addr) (cl : List (Str × Addr)) (fp : List Addr), PG (X.blk s H s2 (compEnvC s2 cl C X.env) fp) t (tgD (FX X L) tg))
    (hc : ∀ (s : Shared) (H : Hp) (C : Addr) (cl : List (Str × Addr)) (fp : List Addr), PTs (X.blk s H s2 (compEnvC s2 cl C X.env) fp) ifs (tTs X L (fun _ _ _ => False) f cs))
    (he : ∀ (s : Shared) (H : Hp) (C : Addr) (cl : List (Str × Addr)) (fp : List Addr), PE (X.blk s H s2 (compEnvC s2 cl C X.env) fp) x (tV X L (fun _ _ _ => False) f e))
    (hw : ∀ j ∈ tgL tg, j ∈ own) : PS X (.Assign [.Name y py] (.ListComp x [⟨t, i, ifs, 0⟩] s2 pos) spos) (tSt X L E f (.asg (.n j) d0)) := by
  have hown : (ownN N own).map (·.2) = own := by
    unfold ownN
    rw [List.map_map]
    exact List.map_id _
  have ok : BlkOk X.N X.env.scope s2 (ownN N own) := by
    rw [G.nN, G.hs]
    exact blkOk_by hb
  have hk : X.env.scope.kind = .function := by rw [G.hs]; exact G.fk
  have hsw' := hsw
  rw [← G.hs] at hsw
  have hloc : X.env.scope.names.lookup y = some .local := by
    rw [G.hs]
    exact of_decide_eq_true (and2 hsw').1
  have key := ps_setLc (i := j) (spos := spos) G.calm (by rw [G.nN]; exact G.nd) (by rw [G.nN]; exact hy) hloc (sw_yes hk hsw) pi ok ht hc he fun y => nset_ok hi y
  rw [hown] at key
  refine L2PS.imp key fun D σ H q => ?_
  refine lc_imp rfl hm hw (tS.then (fun sl st => by rw [exS_asg, hd]) q fun g1 H1 sl x st1 u hs1 S1 rx p1 => ?_)
  exact PostS.nx p1 S1 (hs1.set rx)
theorem ps_raisP (G : GX X L N sc cf E f lv) {c : Nat} {x m : Str} {j : Nat} {p p2 pos ps : Pos} (hx : x = L.nm.cl c) (hg : glB sc x = true) (hd : dbg x = false) (hc : L.isX c = true) (hf : L.T.exf c = none) :
    PS X (.Raise (some (.Call (.Name x p) [.Constant (.str m) j p2] [] pos)) none ps) (tSt X L E f (.rais c .nil)) := by
  subst hx
  have K := G.lk.exc c hc
  obtain ⟨d1, d2⟩ := dbg_ok hd
  refine L2PS.imp (ps_raise G.calm G.tk (pmk_own PySem.F.excBase_ValueError (K.plain hf) K.gC K.kp (raises_own K.sub K.ty) (glB_ok G.hs hg) d1)) fun D σ H ⟨g, sl, st, h1, S, q⟩ => ?_
  rw [exS_rais, evEs_nil] at q
  have q : PostS (FX X L) E g H (.exc c .non st) D := q
  refine q g H _ none Ge.refl S ⟨rfl, ?_⟩
  show match L.T.exf c with | none => _ | some x => _
  rw [hf]
theorem ps_raisO (G : GX X L N sc cf E f lv) {c : Nat} {d : DE} {x fx : Str} {e : Expr} {p pos ps : Pos} (hx : x = L.nm.cl c) (hg : glB sc x = true) (hd : dbg x = false) (hc : L.isX c = true) (hf : L.T.exf c = some fx) (he : PE X e (tV X L E f d)) (hn : nst e = true) :
    PS X (.Raise (some (.Call (.Name x p) [e] [] pos)) none ps) (tSt X L E f (.rais c (.cons d .nil))) := by
  subst hx
  have K := G.lk.exc c hc
  obtain ⟨T, fI, fd, prs, iC, tI, F1, hb⟩ := K.own fx hf
  obtain ⟨d1, d2⟩ := dbg_ok hd
  have hr := room_le (l := lv) (k := 2) G.room (G.l2 c (.inr hc))
  have hP : Passes (L2.CX X.prog X.w) X (fun _ _ _ => False) := passes_call G.tk fun _ _ _ _ h => h.elim
  refine L2PS.imp (ps_raise G.calm G.tk (pmk_oex T iC tI F1 hr hb .nil hP (glB_ok G.hs hg) K.gC (pa_cons he pa_nil (star_one hn)) d1 (star_one hn) rfl)) fun D σ H q => ?_
  refine tS.then (k := fun sl x st1 => .exc c x st1) (fun sl st => ?_) q fun g1 H1 sl z st1 u hs1 S1 rz p1 => ?_
  · rw [exS_rais, evEs_cons]
    cases evE L.T f d sl st with
    | bad => rfl
    | exc c a s => rfl
    | ok x s => show Out.then (Out.bind (evEs L.T f .nil sl s) _) _ = _; rw [evEs_nil]; rfl
  · refine ⟨by show 1 ≤ 1000; omega, fun a ha => ⟨a, u, rfl, upd_same, fun dx hdx ne => ?_⟩⟩
    have hd1 : H1 dx = none := by rw [upd_ne ne] at hdx; exact hdx
    refine ⟨rfl, dx, [(fx, u)], upd_same, by rw [upd_ne ne, upd_same], hd1, ?_⟩
    have e1 : upd (del (upd (upd (upd H1 a (exo a (L.ca c) none)) dx (exd dx [(fx, u)])) a (exo a (L.ca c) (some dx))) a) dx (.xd [(fx, u)]) = upd H1 dx (.xd [(fx, u)]) := by
      funext b
      by_cases h1 : b = dx
      · rw [h1, upd_same, upd_same]
      · rw [upd_ne h1, upd_ne h1]
        by_cases h2 : b = a
        · rw [h2, del_same]; exact ha.symm
        · rw [del_ne h2, upd_ne h2, upd_ne h1, upd_ne h2]
    rw [e1]
    have p1 : PostS (FX X L) E g1 H1 (.exc c z st1) D := p1
    have ge := Ge.new (o := .xd [(fx, u)]) S1 hd1
    refine p1 g1 _ _ (some dx) ge (S1.new hd1) ⟨rfl, ?_⟩
    show match L.T.exf c with | none => _ | some x => _
    rw [hf]
    exact ⟨dx, u, rfl, upd_same, Rp.ge ge _ _ rz⟩
theorem sw_two {x y : Str} {px py pt p2 : Pos} {c c2} {u v : Expr} {env : Env} (hk : env.scope.kind = .function) (hx : env.scope.names.lookup x = some .local) (hy : env.scope.names.lookup y = some .local) (hl : py.line = px.line) (ne : x ≠ y) (n1 : nst u = true) (n2 : nst v = true)
    (h1 : (foldedForSure 8 u && foldedForSure 8 v) = false) (h2 : (constantsAlone 8 u && constantsAlone 8 v) = false) : swappedStores [.Tuple [.Name x px, .Name y py] c pt] (.Tuple [u, v] c2 p2) env = pure (some [x, y]) := by
  have hb : env.blockKind = .function := by unfold Env.blockKind; rw [hk]; rfl
  have e1 : env.kindOf x = some .local := hx
  have e2 : env.kindOf y = some .local := hy
  have s1 : ∀ {e : Expr}, nst e = true → (match e with | .Starred _ _ => true | _ => false) = false := fun {e} h => by cases e <;> first | rfl | cases h
  have ed : [x, y].eraseDups = [x, y] := by
    have : (y == x) = false := by rw [beq_eq_false_iff_ne]; exact Ne.symm ne
    simp [List.eraseDups_cons, List.filter, this]
  unfold swappedStores
  simp only [hb, List.length_cons, List.length_nil, List.any_cons, List.any_nil, s1 n1, s1 n2, List.filterMap_cons, List.filterMap_nil, e1, e2, hl, List.head?_cons, Option.map_some, Option.getD_some, ed, List.all_cons, List.all_nil, h1, h2, Bool.and_true, Bool.or_false, beq_self_eq_true, Expr.pos]
  simp only [Bool.or_eq_true]
  rw [if_neg (by simp)]
  rw [if_neg (by
    rintro (h | h)
    · cases u <;> first | (cases n1; done) | (cases h; done)
    · cases v <;> first | (cases n2; done) | (cases h; done))]
  simp
  intro h
  exact absurd (by rw [ed]; rfl) h
theorem sw_fold {t : Expr} {vs : List Expr} {c p} {env : Env} (h : vs.all (foldedForSure 8) = true) : swappedStores [t] (.Tuple vs c p) env = pure none := by
  cases t <;> first | rfl | skip
  all_goals
    unfold swappedStores
    simp only [h]
    repeat first | rfl | split
def tPar3 (i j k : Nat) (ta : TA) : TS := fun D σ H => ta σ H fun vs H1 => ∃ v w z, vs = [v, w, z] ∧ D.nx (((σ.set i (some v)).set j (some w)).set k (some z)) H1
theorem ps_par3 {i j k : Nat} {x y z : Str} {a b c : Expr} {ta : TA} {px py pz pt pos : Pos} {kt k2 pt2} (hc : X.calm = true) (hN : X.N.Nodup) (hi : X.N[i]? = some x) (hj : X.N[j]? = some y) (hk : X.N[k]? = some z) (hij : i ≠ j) (hik : i ≠ k) (hjk : j ≠ k)
    (hx : X.env.scope.names.lookup x = some .local) (hy : X.env.scope.names.lookup y = some .local) (hz : X.env.scope.names.lookup z = some .local) (ha : PA X [a, b, c] ta)
    (hw : swappedStores [.Tuple [.Name x px, .Name y py, .Name z pz] kt pt] (.Tuple [a, b, c] k2 pt2) X.env = pure (some [x, y, z]))
    (hs : swapsWithSole [.Tuple [.Name x px, .Name y py, .Name z pz] kt pt] (.Tuple [a, b, c] k2 pt2) pos.line X.env = pure false) :
    PS X (.Assign [.Tuple [.Name x px, .Name y py, .Name z pz] kt pt] (.Tuple [a, b, c] k2 pt2) pos) (tPar3 i j k ta) := by
  refine ⟨fun pins s σ H D I h => ?_⟩
  rw [exec_Assign_arm]
  refine wpAny_bind (wpAny_standAt ?_)
  rw [hs]
  refine wpAny_bind (wpAny_pure ?_)
  rw [if_neg (by decide)]
  refine wpAny_bind (Tuple_ (thn (ha.run _ pins s σ H _ I h) fun us s1 ⟨vs, H1, I1, r1, q1⟩ => ?_))
  obtain ⟨v, w, o, e1, q1⟩ := q1
  subst e1
  obtain ⟨u1, u2, u3, rfl, rv, rw', ro⟩ : ∃ u1 u2 u3, us = [u1, u2, u3] ∧ RelV v u1 ∧ RelV w u2 ∧ RelV o u3 := by
    cases r1 with
    | cons p q =>
      cases q with
      | cons p' q' =>
        cases q' with
        | cons p2 q2 =>
          cases q2
          exact ⟨_, _, _, rfl, p, p', p2⟩
  refine wpAny_newObj_type ?_ (by show 3 ≤ sizeLine; decide)
  have I2 : Inv X pins σ H1 { s1 with heap := s1.heap.push { cls := .type "tuple", data := .seq [u1, u2, u3].toArray } } := I1.kept (t' := s1.toks) fun b o e => Heap.get?_push_of_some _ e
  rw [hw]
  refine wpAny_bind (wpAny_pure ?_)
  show wpAny (model X.prog X.w) X.A (do rule "assign.swapped-stores"; let items ← unpackItems (.ref s1.heap.objs.size) 3 none; assignInOrder [fun v => bindName X.env z v, fun v => bindName X.env y v, fun v => bindName X.env x v] items.reverse; pure Flow.next) _ _ _
  refine wpAny_bind (wpAny_rule (wpAny_bind (unpackItems_tuple (items := #[u1, u2, u3]) (I.ok.hd hc) (IsTup.new s1.heap _) fun h' hx' => ?_)))
  have I3 := I2.kept (h' := h') (t' := s1.toks) fun b o e => hx' b o (Nat.ne_of_lt (Heap.lt_size e)) e
  show wpAny _ _ (assignInOrder [fun v => bindName X.env z v, fun v => bindName X.env y v, fun v => bindName X.env x v] [u3, u2, u1] >>= fun _ => pure Flow.next) _ _ _
  refine wpAny_bind (assignInOrder_cons (wpAny_bindName (store_ok I3 hN hk (.inl hz) ro (fun s2 I4 => ?_) (.inr hz))))
  refine assignInOrder_cons (wpAny_bindName (store_ok I4 hN hj (.inl hy) rw' (fun s3 I5 => ?_) (.inr hy)))
  refine assignInOrder_cons (wpAny_bindName (store_ok I5 hN hi (.inl hx) rv (fun s4 I6 => assignInOrder_nil (wpAny_pure ?_)) (.inr hx)))
  have e : ((σ.set k (some o)).set j (some w)).set i (some v) = ((σ.set i (some v)).set j (some w)).set k (some o) := by
    rw [List.set_comm _ _ (Ne.symm hij), List.set_comm _ _ (Ne.symm hik), List.set_comm _ _ (Ne.symm hjk)]
  rw [e] at I6
  exact ⟨_, H1, I6, q1⟩
theorem ps_par3D (G : GX X L N sc cf E f lv) {i j k : Nat} {a b c : DE} {x y z : Str} {u v w : Expr} {p px py pz pt p2 : Pos} {c1 c2} (hi : N[i]? = some x) (hj : N[j]? = some y) (hk : N[k]? = some z) (hij : i ≠ j) (hik : i ≠ k) (hjk : j ≠ k) (hx : sc.names.lookup x = some .local) (hy : sc.names.lookup y = some .local) (hz : sc.names.lookup z = some .local)
    (ha : PE X u (tV X L E f a)) (hb : PE X v (tV X L E f b)) (hc : PE X w (tV X L E f c)) (n1 : nst u = true) (n2 : nst v = true) (n3 : nst w = true)
    (hw : swappedStores [.Tuple [.Name x px, .Name y py, .Name z pz] c1 pt] (.Tuple [u, v, w] c2 p2) X.env = pure (some [x, y, z])) : PS X (.Assign [.Tuple [.Name x px, .Name y py, .Name z pz] c1 pt] (.Tuple [u, v, w] c2 p2) p) (tSt X L E f (.par3 i j k a b c)) := by
  refine L2PS.imp (ps_par3 G.calm (by rw [G.nN]; exact G.nd) (by rw [G.nN]; exact hi) (by rw [G.nN]; exact hj) (by rw [G.nN]; exact hk) hij hik hjk (by rw [G.hs]; exact hx) (by rw [G.hs]; exact hy) (by rw [G.hs]; exact hz) (pa_cons ha (pa_cons hb (pa_cons hc pa_nil (star_one n3)) (star_one n2)) (star_one n1)) hw (sw_sole rfl)) fun D σ H q => tS.then (fun _ _ => exS_par3) q fun g1 H1 sl d1 st1 w hs1 S1 r1 p1 => ?_
  refine tG.of hs1 S1 (PostS.then p1 fun d2 st2 g2 H2 w2 e2 S2 r2 p2 => ?_)
  refine tG.of (hs1.ge e2) S2 (PostS.then p2 fun d3 st3 g3 H3 w3 e3 S3 r3 p3 => ?_)
  exact ⟨w, w2, w3, rfl, PostS.nx p3 S3 ((((hs1.ge (e2.trans e3)).set (Rp.ge (e2.trans e3) _ _ r1)).set (Rp.ge e3 _ _ r2)).set r3)⟩
theorem sw_three {x y z : Str} {px py pz pt p2 : Pos} {c c2} {u v w : Expr} {env : Env} (hk : env.scope.kind = .function) (hx : env.scope.names.lookup x = some .local) (hy : env.scope.names.lookup y = some .local) (hz : env.scope.names.lookup z = some .local) (hl : py.line = px.line) (hl2 : pz.line = px.line) (ne : x ≠ y) (ne2 : x ≠ z) (ne3 : y ≠ z) (n1 : nst u = true) (n2 : nst v = true) (n3 : nst w = true)
    (h1 : (foldedForSure 8 u && (foldedForSure 8 v && foldedForSure 8 w)) = false) (h2 : (constantsAlone 8 u && (constantsAlone 8 v && constantsAlone 8 w)) = false) : swappedStores [.Tuple [.Name x px, .Name y py, .Name z pz] c pt] (.Tuple [u, v, w] c2 p2) env = pure (some [x, y, z]) := by
  have hb : env.blockKind = .function := by unfold Env.blockKind; rw [hk]; rfl
  have e1 : env.kindOf x = some .local := hx
  have e2 : env.kindOf y = some .local := hy
  have e3 : env.kindOf z = some .local := hz
  have s1 : ∀ {e : Expr}, nst e = true → (match e with | .Starred _ _ => true | _ => false) = false := fun {e} h => by cases e <;> first | rfl | cases h
  have ed : [x, y, z].eraseDups = [x, y, z] := by
    have t1 : (y == x) = false := by rw [beq_eq_false_iff_ne]; exact Ne.symm ne
    have t2 : (z == x) = false := by rw [beq_eq_false_iff_ne]; exact Ne.symm ne2
    have t3 : (z == y) = false := by rw [beq_eq_false_iff_ne]; exact Ne.symm ne3
    simp [List.eraseDups_cons, List.filter, t1, t2, t3]
  unfold swappedStores
  simp only [hb, List.length_cons, List.length_nil, List.any_cons, List.any_nil, s1 n1, s1 n2, s1 n3, List.filterMap_cons, List.filterMap_nil, e1, e2, e3, hl, hl2, List.head?_cons, Option.map_some, Option.getD_some, ed, List.all_cons, List.all_nil, h1, h2, Bool.and_true, Bool.or_false, beq_self_eq_true, Expr.pos]
  simp only [Bool.or_eq_true]
  rw [if_neg (by simp)]
  rw [if_neg (by
    rintro (h | h | h)
    · cases u <;> first | (cases n1; done) | (cases h; done)
    · cases v <;> first | (cases n2; done) | (cases h; done)
    · cases w <;> first | (cases n3; done) | (cases h; done))]
  simp
  intro h
  exact absurd (by rw [ed]; rfl) h
def rGetI : V → V → Hp → VK → Prop := fun x y H Q => ∃ a xs i v, x = .ref a ∧ y = .int i ∧ H a = some (.lst xs) ∧ 0 ≤ i ∧ xs[i.toNat]? = some v ∧ Q v H
theorem get_list : PGet X rGetI := by
  intro pins s σ H o i ov iv Q I ro ri h
  obtain ⟨a, xs, k, z, rfl, rfl, e, h0, hz, q⟩ := h
  cases ro
  obtain ⟨t, rfl⟩ := ri
  obtain ⟨hl0, its, n, hv, hg⟩ := (show ObjOk X.prog X.w H s.heap a (.lst xs) from I.hok a _ e)
  obtain ⟨w, ew, rw'⟩ := hv.get hz
  have lt := (List.getElem?_eq_some_iff.mp hz).1
  have hn := line63
  exact getItem_listL (l := its) ⟨_, hg, rfl, n, rfl⟩ h0 (by omega) ew ⟨z, H, I, rw', q⟩
theorem ps_augID (G : GX X L N sc cf E f lv) {o i d : DE} {op : BOp} {x y e : Expr} {p p' : Pos} {ti : TIp} (hop : PIp X (opO op) ti) (hrd : ∀ {u y z : D} {v w : V} {H : Hp} {g : Gh} {Q : VK}, augV op u y = some z → Rp (FX X L) g H u v → Rp (FX X L) g H y w → (∀ r, Rp (FX X L) g H z r → Q r H) → ti v w H Q)
    (ho : PE X x (tV X L E f o)) (hi : PE X y (tV X L E f i)) (he : PE X e (tV X L E f d)) (hy : nsl y = true) : PS X (.AugAssign (.Subscript x y p') (opO op) e p) (tSt X L E f (.augI o i op d)) := by
  have hu := G.room.un
  refine L2PS.imp (ps_augS ho hi get_list he hop (set_any (by omega)) (fun ov iv new => by cases y <;> first | (cases hy; done) | rfl)) fun D σ H q => tS.then (fun _ _ => exS_augI) q fun g1 H1 sl xo st1 u hs1 S1 rx p1 => ?_
  refine tG.of hs1 S1 (PostS.then p1 fun k st2 g2 H2 w2 e2 S2 rk p2 => ?_)
  obtain ⟨uD, eu, p3⟩ := PostS.okB p2
  unfold getIV at eu
  split at eu
  · rename_i n kk
    obtain ⟨a, rfl, hia⟩ := (Rp.ge e2 _ _ rx).ref_of
    split at eu
    · rename_i ys eys
      split at eu
      · rename_i hk0
        obtain ⟨vs, h1, h2⟩ := lst_at S2 hia eys
        obtain ⟨v, ev, rv⟩ := h2.get eu
        refine ⟨a, vs, kk, v, rfl, rk.int_of, h1, hk0, ev, ?_⟩
        refine tG.of (hs1.ge e2) S2 (PostS.then p3 fun yD st3 g3 H3 w3 e3 S3 ry p4 => ?_)
        obtain ⟨z, ez, p5⟩ := PostS.okB p4
        refine hrd ez (Rp.ge e3 _ _ rv) ry fun r rr => ?_
        exact setI_ok S3 (Rp.ge (e2.trans e3) _ _ rx) (Rp.ge e3 _ _ rk) rr (PostS.then p5 fun _ st4 g4 H4 _ e4 S4 _ p4 => PostS.nx p4 S4 (hs1.ge (e2.trans (e3.trans e4))))
      · cases eu
    · cases eu
  · cases eu
end
end TS
end

section
set_option Elab.async false
set_option linter.all false
set_option maxRecDepth 100000
set_option maxHeartbeats 2000000
set_option autoImplicit false
namespace TS
open PySem PySem.Spec PyProof.Rows L2
def lcD : DE → Bool
  | .lc _ _ _ _ _ => true
  | .sh (.lc _ _ _ _ _) => true
  | _ => false
def foldB : Expr → Bool
  | .Tuple vs _ _ => vs.all (foldedForSure 8)
  | e => nTup e
def asgB (sc : Scope) (d : DE) (t e : Expr) : Bool := match t with
  | .Name x px => !swB sc x px e || lcD d
  | _ => foldB e
def augB : BOp → Operator → Bool
  | .add, .Add => true
  | .sub, .Sub => true
  | _, _ => false
mutual
def cS (L : Ln) (N : List Str) (sc : Scope) : DS → Stmt → Bool
  | .pass, s => match s with
    | .Pass _ => true
    | _ => false
  | .asg tg d, s => match s with
    | .Assign [t] e _ => cTg N sc true tg t && (cE L N false d sc e && asgB sc d t e)
    | _ => false
  | .par i j a b, s => match s with
    | .Assign [.Tuple [.Name x px, .Name y py] _ _] (.Tuple [u, v] _ _) _ => (decide (N[i]? = some x) && (decide (N[j]? = some y) && (decide (i ≠ j) && (decide (sc.names.lookup x = some .local) && (decide (sc.names.lookup y = some .local) && decide (py.line = px.line)))))) &&
        ((decide (x ≠ y) && ((nst u && nst v) && (!(foldedForSure 8 u && foldedForSure 8 v) && !(constantsAlone 8 u && constantsAlone 8 v)))) && (cE L N false a sc u && cE L N false b sc v))
    | _ => false
  | .par3 i j k a b c, s => match s with
    | .Assign [.Tuple [.Name x px, .Name y py, .Name z pz] _ _] (.Tuple [u, v, w] _ _) _ => ((decide (N[i]? = some x) && (decide (N[j]? = some y) && decide (N[k]? = some z))) && ((decide (i ≠ j) && (decide (i ≠ k) && decide (j ≠ k))) && ((decide (sc.names.lookup x = some .local) && (decide (sc.names.lookup y = some .local) && decide (sc.names.lookup z = some .local))) && (decide (py.line = px.line) && decide (pz.line = px.line))))) &&
        (((decide (x ≠ y) && (decide (x ≠ z) && decide (y ≠ z))) && ((nst u && (nst v && nst w)) && (!(foldedForSure 8 u && (foldedForSure 8 v && foldedForSure 8 w)) && !(constantsAlone 8 u && (constantsAlone 8 v && constantsAlone 8 w))))) && (cE L N false a sc u && (cE L N false b sc v && cE L N false c sc w)))
    | _ => false
  | .augI o i op d, s => match s with
    | .AugAssign (.Subscript x y _) p e _ => augB op p && (nsl y && (cE L N false o sc x && (cE L N false i sc y && cE L N false d sc e)))
    | _ => false
  | .setF C i o d, s => match s with
    | .Assign [.Attribute x m _] e _ => decide ((L.T.flds C)[i]? = some m) && (L.isC C && (cE L N false o sc x && cE L N false d sc e))
    | _ => false
  | .augF C i o op d, s => match s with
    | .AugAssign (.Attribute x m _) p e _ => augB op p && (decide ((L.T.flds C)[i]? = some m) && (L.isC C && (cE L N false o sc x && cE L N false d sc e)))
    | _ => false
  | .aug i op d, s => match s with
    | .AugAssign (.Name x _) p e _ => augB op p && (decide (N[i]? = some x) && (storeB sc true x && cE L N false d sc e))
    | _ => false
  | .setI o i d, s => match s with
    | .Assign [.Subscript x y _] e _ => nsl y && (cE L N false o sc x && (cE L N false i sc y && cE L N false d sc e))
    | _ => false
  | .setI2 o i o2 i2 d, s => match s with
    | .Assign [.Tuple [.Subscript x y _, .Subscript x2 y2 _] _ _] e _ => (nsl y && (nsl y2 && foldB e)) && ((cE L N false o sc x && cE L N false i sc y) && ((cE L N false o2 sc x2 && cE L N false i2 sc y2) && cE L N false d sc e))
    | _ => false
  | .expr d, s => match s with
    | .Expr e _ => ncomp e && cE L N false d sc e
    | _ => false
  | .ret d, s => match s with
    | .Return (some e) _ => cE L N false d sc e
    | _ => false
  | .ifs t a b, s => match s with
    | .If c x y _ => cE L N true t sc c && (cSs L N sc a x && cSs L N sc b y)
    | _ => false
  | .for_ tg it b, s => match s with
    | .For t i body [] _ => (nset i && cI L N it sc t i) && (cTg N sc true tg t && cSs L N sc b body)
    | _ => false
  | .lock _ d, s => cS L N sc d s
  | .forK tg e b, s => match s with
    | .For t i body [] _ => (nset i && cI L N (.keysL e) sc t i) && (cTg N sc true tg t && cSs L N sc b body)
    | _ => false
  | .whl t b, s => match s with
    | .While c body [] _ => cE L N true t sc c && cSs L N sc b body
    | _ => false
  | .rais c es, s => match s with
    | .Raise (some (.Call (.Name x _) [e] [] _)) none _ => (decide (x = L.nm.cl c) && (glB sc x && (!dbg x && L.isX c))) && (match es, L.T.exf c, e with
        | .nil, none, .Constant (.str _) _ _ => true
        | .cons d .nil, some _, e => nst e && cE L N false d sc e
        | _, _, _ => false)
    | _ => false
def cSs (L : Ln) (N : List Str) (sc : Scope) : DSs → List Stmt → Bool
  | .nil, ss => ss.isEmpty
  | .cons d ds, ss => match ss with
    | s :: ss => cS L N sc d s && cSs L N sc ds ss
    | [] => false
end
section
variable {X : Cx} {L : Ln} {N : List Str} {sc : Scope} {E : XK} {f : Phi} {lv : Nat}
theorem fold_ok {t e : Expr} {env : Env} (h : foldB e = true) : swappedStores [t] e env = pure none := by
  cases e <;> first | exact nt_val h | exact sw_fold h
theorem asg_nt {tg : Tg} {t : Expr} {cf : Bool} (h : cTg N sc cf tg t = true) : (∃ x px, t = .Name x px) ∨ ∃ es c p, t = .Tuple es c p := by
  unfold cTg at h
  split at h
  · exact .inl ⟨_, _, rfl⟩
  · exact .inr ⟨_, _, _, rfl⟩
  · cases h
theorem lc_text {e : DE} {tg : Tg} {it : DI} {cs : DEs} {own : List Nat} {y : Expr} (h : cE L N false (.lc e tg it cs own) sc y = true) : ∃ x t i ifs s2 p, y = .ListComp x [⟨t, i, ifs, 0⟩] s2 p ∧ blkC N sc s2 (ownN N own) = true ∧ nset i = true ∧ (∀ j ∈ tgL tg, j ∈ own) ∧ cTg N (relS s2 sc) false tg t = true ∧
    cI L N it sc t i = true ∧ cTts L N cs (relS s2 sc) ifs = true ∧ cE L N false e (relS s2 sc) x = true := by
  unfold cE at h
  replace h := (and2 h).2
  split at h <;> first | (cases h; done) | skip
  obtain ⟨h10, h2⟩ := and2 h
  obtain ⟨h1, h11⟩ := and2 h10
  obtain ⟨h3, h4⟩ := and2 h11
  obtain ⟨h9, h5⟩ := and2 h4
  obtain ⟨h2, h6⟩ := and2 h2
  obtain ⟨h2, h7⟩ := and2 h2
  obtain ⟨h6, h8⟩ := and2 h6
  cases of_decide_eq_true h9
  exact ⟨_, _, _, _, _, _, rfl, h1, h5, tgs_in h3, h2, h7, h6, h8⟩
theorem setlc_lc (G : GX X L N sc true E f lv) {j : Nat} {y : Str} {py spos : Pos} {d0 e : DE} {tg : Tg} {it : DI} {cs : DEs} {own : List Nat} {m3 : List D → Store → Out D} {v : Expr} (hy : N[j]? = some y) (hsw : swB sc y py v = true) (hm : FinL (FX X L) E m3)
    (hd : ∀ sl st, evE L.T f d0 sl st = lcM L.T f e tg it cs own m3 sl st) (h : cE L N false (.lc e tg it cs own) sc v = true) : PS X (.Assign [.Name y py] v spos) (tSt X L E f (.asg (.n j) d0)) := by
  obtain ⟨x, t, i, ifs, s2, p, rfl, h1, h2, h3, h4, h5, h6, h7⟩ := lc_text h
  have hk := (blkOk_by h1).kind
  exact ps_setLcD G hd hy hsw hm h1 h2 (pdI it G h5) (fun s H C cl fp => pg_D (G.blk hk s H C cl fp) h4) (fun s H C cl fp => pdTts cs (G.blk hk s H C cl fp) h6) (fun s H C cl fp => pdE e (G.blk hk s H C cl fp) h7) h3
theorem ps_asgC (G : GX X L N sc true E f lv) {tg : Tg} {d : DE} {t e : Expr} {p : Pos} (h1 : cTg N sc true tg t = true) (h2 : cE L N false d sc e = true) (h3 : asgB sc d t e = true) : PS X (.Assign [t] e p) (tSt X L E f (.asg tg d)) := by
  have hg := pg_D G h1
  have he := pdE d (E := E) (f := f) G h2
  have hk : X.env.scope.kind = .function := by rw [G.hs]; exact G.fk
  rcases asg_nt h1 with ⟨x, px, rfl⟩ | ⟨es, c, q, rfl⟩
  · by_cases hs : swB sc x px e = true
    · have hl : lcD d = true := by
        have h3 : (!swB sc x px e || lcD d) = true := h3
        rw [hs] at h3
        exact h3
      have hj : ∃ j, tg = .n j ∧ N[j]? = some x := by
        unfold cTg at h1
        split at h1
        · rename_i i y q e1
          cases e1
          exact ⟨i, rfl, of_decide_eq_true (and2 h1).1⟩
        · rename_i e1; cases e1
        · cases h1
      obtain ⟨j, rfl, hj⟩ := hj
      unfold lcD at hl
      split at hl
      · exact setlc_lc G hj hs fin_lst (fun sl st => evE_lcM) h2
      · have h4 := h2
        unfold cE at h4
        exact setlc_lc G hj hs fin_shl (fun sl st => evE_shlc) (and2 (and2 h4).2).2
      · cases hl
    · exact ps_asgD G hg he (sw_name hk (by rw [G.hs]; simpa using hs)) (nt_tg rfl) rfl
  · exact ps_asgD G hg he (sw_other rfl) (fold_ok h3) rfl
theorem notT {b : Bool} (h : (!b) = true) : b = false := by
  cases b
  · rfl
  · cases h
theorem augB_ok {op : BOp} {p : Operator} (h : augB op p = true) : (op = .add ∧ p = .Add) ∨ (op = .sub ∧ p = .Sub) := by
  unfold augB at h
  split at h
  · exact .inl ⟨rfl, rfl⟩
  · exact .inr ⟨rfl, rfl⟩
  · cases h
mutual
theorem psS : ∀ (d : DS) {s : Stmt}, GX X L N sc true E f lv → PassesOwn (model X.prog X.w) X.A X.env X.xe → cS L N sc d s = true → PS X s (tSt X L E f d)
  | .pass, s, G, hp, h => by
    unfold cS at h
    split at h <;> first | (cases h; done) | skip
    exact ps_passD
  | .asg tg d, s, G, hp, h => by
    unfold cS at h
    split at h <;> first | (cases h; done) | skip
    obtain ⟨h1, h2⟩ := and2 h
    obtain ⟨h2, h3⟩ := and2 h2
    exact ps_asgC G h1 h2 h3
  | .par i j a b, s, G, hp, h => by
    unfold cS at h
    split at h <;> first | (cases h; done) | skip
    obtain ⟨h1, h2⟩ := and2 h
    obtain ⟨a1, h1⟩ := and2 h1
    obtain ⟨a2, h1⟩ := and2 h1
    obtain ⟨a3, h1⟩ := and2 h1
    obtain ⟨a4, h1⟩ := and2 h1
    obtain ⟨a5, a6⟩ := and2 h1
    obtain ⟨h2, h3⟩ := and2 h2
    obtain ⟨b1, h2⟩ := and2 h2
    obtain ⟨b2, h2⟩ := and2 h2
    obtain ⟨b3, b4⟩ := and2 h2
    obtain ⟨b2, b5⟩ := and2 b2
    obtain ⟨c1, c2⟩ := and2 h3
    have hk : X.env.scope.kind = .function := by rw [G.hs]; exact G.fk
    exact ps_parD G (of_decide_eq_true a1) (of_decide_eq_true a2) (of_decide_eq_true a3) (of_decide_eq_true a4) (of_decide_eq_true a5) (pdE a G c1) (pdE b G c2) b2 b5
      (sw_two hk (by rw [G.hs]; exact of_decide_eq_true a4) (by rw [G.hs]; exact of_decide_eq_true a5) (of_decide_eq_true a6) (of_decide_eq_true b1) b2 b5 (notT b3) (notT b4))
  | .par3 i j k a b c, s, G, hp, h => by
    unfold cS at h
    split at h <;> first | (cases h; done) | skip
    obtain ⟨h1, h2⟩ := and2 h
    obtain ⟨a1, h1⟩ := and2 h1
    obtain ⟨a1, a2⟩ := and2 a1
    obtain ⟨a2, a3⟩ := and2 a2
    obtain ⟨a4, h1⟩ := and2 h1
    obtain ⟨a4, a5⟩ := and2 a4
    obtain ⟨a5, a6⟩ := and2 a5
    obtain ⟨a7, h1⟩ := and2 h1
    obtain ⟨a7, a8⟩ := and2 a7
    obtain ⟨a8, a9⟩ := and2 a8
    obtain ⟨l1, l2⟩ := and2 h1
    obtain ⟨b1, h2⟩ := and2 h2
    obtain ⟨b1, b4⟩ := and2 b1
    obtain ⟨b1, b2⟩ := and2 b1
    obtain ⟨b2, b3⟩ := and2 b2
    obtain ⟨n1, b4⟩ := and2 b4
    obtain ⟨n1, n2⟩ := and2 n1
    obtain ⟨n2, n3⟩ := and2 n2
    obtain ⟨f1, f2⟩ := and2 b4
    obtain ⟨c1, c2⟩ := and2 h2
    obtain ⟨c2, c3⟩ := and2 c2
    have hk : X.env.scope.kind = .function := by rw [G.hs]; exact G.fk
    exact ps_par3D G (of_decide_eq_true a1) (of_decide_eq_true a2) (of_decide_eq_true a3) (of_decide_eq_true a4) (of_decide_eq_true a5) (of_decide_eq_true a6) (of_decide_eq_true a7) (of_decide_eq_true a8) (of_decide_eq_true a9) (pdE a G c1) (pdE b G c2) (pdE c G c3) n1 n2 n3
      (sw_three hk (by rw [G.hs]; exact of_decide_eq_true a7) (by rw [G.hs]; exact of_decide_eq_true a8) (by rw [G.hs]; exact of_decide_eq_true a9) (of_decide_eq_true l1) (of_decide_eq_true l2) (of_decide_eq_true b1) (of_decide_eq_true b2) (of_decide_eq_true b3) n1 n2 n3 (notT f1) (notT f2))
  | .augI o i op d, s, G, hp, h => by
    unfold cS at h
    split at h <;> first | (cases h; done) | skip
    obtain ⟨h0, h1⟩ := and2 h
    obtain ⟨h1, h2⟩ := and2 h1
    obtain ⟨h2, h3⟩ := and2 h2
    obtain ⟨h3, h4⟩ := and2 h3
    rcases augB_ok h0 with ⟨rfl, rfl⟩ | ⟨rfl, rfl⟩
    · exact ps_augID G (op := .add) ip_add (fun ez ru ry q => by
        obtain ⟨i, j, rfl, rfl, ⟨_, rfl⟩ | ⟨z, _⟩⟩ := aug_or ez
        · exact ⟨i, j, ru.int_of, ry.int_of, q _ rp_int⟩
        · cases z) (pdE o G h2) (pdE i G h3) (pdE d G h4) h1
    · exact ps_augID G (op := .sub) ip_sub (fun ez ru ry q => by
        obtain ⟨i, j, rfl, rfl, ⟨z, _⟩ | ⟨_, rfl⟩⟩ := aug_or ez
        · cases z
        · exact ⟨i, j, ru.int_of, ry.int_of, q _ rp_int⟩) (pdE o G h2) (pdE i G h3) (pdE d G h4) h1
  | .setF C i o d, s, G, hp, h => by
    unfold cS at h
    split at h <;> first | (cases h; done) | skip
    obtain ⟨h1, h2⟩ := and2 h
    obtain ⟨h2, h3⟩ := and2 h2
    obtain ⟨h3, h4⟩ := and2 h3
    exact ps_setFD G (of_decide_eq_true h1) h2 (pdE o G h3) (pdE d G h4)
  | .augF C i o op d, s, G, hp, h => by
    unfold cS at h
    split at h <;> first | (cases h; done) | skip
    obtain ⟨h0, h1⟩ := and2 h
    obtain ⟨h1, h2⟩ := and2 h1
    obtain ⟨h2, h3⟩ := and2 h2
    obtain ⟨h3, h4⟩ := and2 h3
    rcases augB_ok h0 with ⟨rfl, rfl⟩ | ⟨rfl, rfl⟩
    · exact ps_augFD G (op := .add) in_add (fun ez ru ry q => by
        obtain ⟨i, j, rfl, rfl, ⟨_, rfl⟩ | ⟨z, _⟩⟩ := aug_or ez
        · exact ⟨i, j, ru.int_of, ry.int_of, q _ rp_int⟩
        · cases z) (of_decide_eq_true h1) h2 (pdE o G h3) (pdE d G h4)
    · exact ps_augFD G (op := .sub) in_sub (fun ez ru ry q => by
        obtain ⟨i, j, rfl, rfl, ⟨z, _⟩ | ⟨_, rfl⟩⟩ := aug_or ez
        · cases z
        · exact ⟨i, j, ru.int_of, ry.int_of, q _ rp_int⟩) (of_decide_eq_true h1) h2 (pdE o G h3) (pdE d G h4)
  | .aug i op d, s, G, hp, h => by
    unfold cS at h
    split at h <;> first | (cases h; done) | skip
    obtain ⟨h0, h1⟩ := and2 h
    obtain ⟨h1, h2⟩ := and2 h1
    obtain ⟨h2, h3⟩ := and2 h2
    rcases augB_ok h0 with ⟨rfl, rfl⟩ | ⟨rfl, rfl⟩
    · exact ps_augD G (op := .add) ip_add (fun ez ru ry q => by
        obtain ⟨i, j, rfl, rfl, ⟨_, rfl⟩ | ⟨z, _⟩⟩ := aug_or ez
        · exact ⟨i, j, ru.int_of, ry.int_of, q _ rp_int⟩
        · cases z) (of_decide_eq_true h1) h2 (pdE d G h3)
    · exact ps_augD G (op := .sub) ip_sub (fun ez ru ry q => by
        obtain ⟨i, j, rfl, rfl, ⟨z, _⟩ | ⟨_, rfl⟩⟩ := aug_or ez
        · cases z
        · exact ⟨i, j, ru.int_of, ry.int_of, q _ rp_int⟩) (of_decide_eq_true h1) h2 (pdE d G h3)
  | .setI o i d, s, G, hp, h => by
    unfold cS at h
    split at h <;> first | (cases h; done) | skip
    obtain ⟨h1, h2⟩ := and2 h
    obtain ⟨h2, h3⟩ := and2 h2
    obtain ⟨h3, h4⟩ := and2 h3
    exact ps_setID G (pdE o G h2) (pdE i G h3) (pdE d G h4) h1
  | .setI2 o i o2 i2 d, s, G, hp, h => by
    unfold cS at h
    split at h <;> first | (cases h; done) | skip
    obtain ⟨h1, h2⟩ := and2 h
    obtain ⟨h1, h3⟩ := and2 h1
    obtain ⟨h3, h4⟩ := and2 h3
    obtain ⟨h2, h5⟩ := and2 h2
    obtain ⟨h2, h6⟩ := and2 h2
    obtain ⟨h5, h7⟩ := and2 h5
    obtain ⟨h5, h8⟩ := and2 h5
    exact ps_setI2D G (pdE o G h2) (pdE i G h6) (pdE o2 G h5) (pdE i2 G h8) (pdE d G h7) h1 h3 (fold_ok h4)
  | .expr d, s, G, hp, h => by
    unfold cS at h
    split at h <;> first | (cases h; done) | skip
    obtain ⟨h1, h2⟩ := and2 h
    exact ps_exprD (pdE d G h2) h1
  | .ret d, s, G, hp, h => by
    unfold cS at h
    split at h <;> first | (cases h; done) | skip
    exact ps_retD (pdE d G h)
  | .ifs t a b, s, G, hp, h => by
    unfold cS at h
    split at h <;> first | (cases h; done) | skip
    obtain ⟨h1, h2⟩ := and2 h
    obtain ⟨h2, h3⟩ := and2 h2
    exact ps_ifD (pdT t G h1) (psSs a G hp h2) (psSs b G hp h3)
  | .for_ tg it b, s, G, hp, h => by
    unfold cS at h
    split at h <;> first | (cases h; done) | skip
    obtain ⟨h1, h2⟩ := and2 h
    obtain ⟨h1, h3⟩ := and2 h1
    obtain ⟨h2, h4⟩ := and2 h2
    exact ps_forD G hp (pdI it G h3) (pg_D G h2) (psSs b G hp h4) h1
  | .lock e d, s, G, hp, h => by
    unfold cS at h
    refine ps_lockD (psS d G hp h) fun sl st nb => ?_
    rw [exS_lock] at nb ⊢
    split at nb
    · rename_i n st1 e1
      split at nb
      · rename_i ks ds e2
        exact ⟨n, ks, ds, e2, rfl⟩
      · exact absurd rfl nb
    · exact absurd rfl nb
  | .forK tg e b, s, G, hp, h => by
    unfold cS at h
    split at h <;> first | (cases h; done) | skip
    obtain ⟨h1, h2⟩ := and2 h
    obtain ⟨h1, h3⟩ := and2 h1
    obtain ⟨h2, h4⟩ := and2 h2
    refine ps_lockD (ps_forD G hp (pdI (.keysL e) G h3) (pg_D G h2) (psSs b G hp h4) h1) fun sl st nb => ?_
    rw [exS_forK] at nb ⊢
    split at nb
    · rename_i n st1 e1
      split at nb
      · rename_i ks ds e2
        exact ⟨n, ks, ds, e2, by rw [exS_for_]⟩
      · exact absurd rfl nb
    · exact absurd rfl nb
  | .whl t b, s, G, hp, h => by
    unfold cS at h
    split at h <;> first | (cases h; done) | skip
    obtain ⟨h1, h2⟩ := and2 h
    exact ps_whlD hp (pdT t G h1) (psSs b G hp h2)
  | .rais c es, s, G, hp, h => by
    unfold cS at h
    split at h <;> first | (cases h; done) | skip
    obtain ⟨h1, h2⟩ := and2 h
    obtain ⟨h1, h3⟩ := and2 h1
    obtain ⟨h3, h4⟩ := and2 h3
    obtain ⟨h4, h5⟩ := and2 h4
    split at h2
    · rename_i e1
      exact ps_raisP G (of_decide_eq_true h1) h3 (by simpa using h4) h5 e1
    · rename_i d fx e e1
      obtain ⟨h6, h7⟩ := and2 h2
      exact ps_raisO G (of_decide_eq_true h1) h3 (by simpa using h4) h5 e1 (pdE _ G h7) h6
    · cases h2
theorem psSs : ∀ (ds : DSs) {ss : List Stmt}, GX X L N sc true E f lv → PassesOwn (model X.prog X.w) X.A X.env X.xe → cSs L N sc ds ss = true → PSs X ss (tSs X L E f ds)
  | .nil, ss, G, hp, h => by
    unfold cSs at h
    rw [List.isEmpty_iff.mp h]
    exact pss_nilD
  | .cons d ds, ss, G, hp, h => by
    cases ss with
    | nil => unfold cSs at h; cases h
    | cons s ss =>
      unfold cSs at h
      obtain ⟨h1, h2⟩ := and2 h
      exact pss_consD (psS d G hp h1) (psSs ds G hp h2)
end
end
end TS
end

section
set_option Elab.async false
set_option linter.all false
set_option maxRecDepth 100000
set_option maxHeartbeats 2000000
set_option autoImplicit false
namespace TS
open PySem PySem.Spec PyProof.Rows L2
mutual
def ltR (n : Nat) : D → Bool
  | .tup xs => ltRs n xs
  | .lst xs => ltRs n xs
  | .dic _ ds => ltRs n ds
  | .ref m => decide (m < n)
  | .lam _ ds => ltRs n ds
  | .kdic _ ds => ltRs n ds
  | _ => true
def ltRs (n : Nat) : List D → Bool
  | [] => true
  | d :: r => ltR n d && ltRs n r
end
mutual
theorem noRef_lt {n : Nat} : ∀ {d : D}, noRef d = true → ltR n d = true
  | .non, _ => by unfold ltR; rfl
  | .bl _, _ => by unfold ltR; rfl
  | .int _, _ => by unfold ltR; rfl
  | .str _, _ => by unfold ltR; rfl
  | .scr _, _ => by unfold ltR; rfl
  | .tup _, h => by unfold noRef at h; unfold ltR; exact noRefs_lt h
  | .lst _, h => by unfold noRef at h; unfold ltR; exact noRefs_lt h
  | .dic _ _, h => by unfold noRef at h; unfold ltR; exact noRefs_lt h
  | .ref _, h => by unfold noRef at h; cases h
  | .lam _ _, h => by unfold noRef at h; unfold ltR; exact noRefs_lt h
  | .kdic _ _, h => by unfold noRef at h; unfold ltR; exact noRefs_lt h
theorem noRefs_lt {n : Nat} : ∀ {ds : List D}, noRefs ds = true → ltRs n ds = true
  | [], _ => by unfold ltRs; rfl
  | d :: ds, h => by
    unfold noRefs at h
    unfold ltRs
    rw [noRef_lt (and2 h).1, noRefs_lt (and2 h).2]; rfl
end
section
variable {F : Fm} {g : Gh} {H : Hp} {n : Nat}
mutual
theorem Rp.lt (dm : ∀ m a, g.i m = some a → m < n) : ∀ {d : D} {v : V}, Rp F g H d v → ltR n d = true
  | .non, _, _ => by unfold ltR; rfl
  | .bl _, _, _ => by unfold ltR; rfl
  | .int _, _, _ => by unfold ltR; rfl
  | .str _, _, _ => by unfold ltR; rfl
  | .scr _, _, _ => by unfold ltR; rfl
  | .tup _, _, h => by
    obtain ⟨_, _, _, _, h⟩ := h.tup_of
    unfold ltR; exact Rps.lt dm h
  | .lst _, _, h => by
    obtain ⟨_, _, _, _, h⟩ := h.lst_of
    unfold ltR; exact Rps.lt dm h
  | .dic _ _, _, h => by
    obtain ⟨_, _, _, _, _, h⟩ := h.dic_of
    unfold ltR; exact Rps.lt dm h
  | .ref m, _, h => by
    obtain ⟨a, _, h⟩ := h.ref_of
    unfold ltR; exact decide_eq_true (dm m a h)
  | .lam _ _, _, h => by unfold Rp at h; exact h.elim
  | .kdic _ _, _, h => by
    obtain ⟨_, _, _, _, _, h⟩ := h.kdic_of
    unfold ltR; exact Rps.lt dm h
theorem Rps.lt (dm : ∀ m a, g.i m = some a → m < n) : ∀ {ds : List D} {vs : List V}, Rps F g H ds vs → ltRs n ds = true
  | [], _, _ => by unfold ltRs; rfl
  | d :: ds, _, h => by
    obtain ⟨v, r, rfl, h1, h2⟩ := h.inv
    unfold ltRs
    rw [Rp.lt dm h1, Rps.lt dm h2]; rfl
end
def Gh.cut (g : Gh) (n : Nat) : Gh := ⟨fun m => if m < n then g.i m else none, g.r⟩
mutual
theorem Rp.cut : ∀ {d : D} {v : V}, ltR n d = true → Rp F g H d v → Rp F (g.cut n) H d v
  | .non, _, _, h => by unfold Rp at *; exact h
  | .bl _, _, _, h => by unfold Rp at *; exact h
  | .int _, _, _, h => by unfold Rp at *; exact h
  | .str _, _, _, h => by unfold Rp at *; exact h
  | .scr _, _, _, h => by unfold Rp at *; exact h
  | .tup _, _, l, h => by
    unfold ltR at l
    unfold Rp at *
    obtain ⟨a, vs, h1, h2, h3⟩ := h
    exact ⟨a, vs, h1, h2, Rps.cut l h3⟩
  | .lst _, _, l, h => by
    unfold ltR at l
    unfold Rp at *
    obtain ⟨a, vs, h1, h2, h3⟩ := h
    exact ⟨a, vs, h1, h2, Rps.cut l h3⟩
  | .dic _ _, _, l, h => by
    unfold ltR at l
    unfold Rp at *
    obtain ⟨a, vs, h1, h0, h2, h3⟩ := h
    exact ⟨a, vs, h1, h0, h2, Rps.cut l h3⟩
  | .ref m, _, l, h => by
    unfold ltR at l
    unfold Rp at *
    obtain ⟨a, h1, h2⟩ := h
    exact ⟨a, h1, (if_pos (of_decide_eq_true l)).trans h2⟩
  | .lam _ _, _, _, h => by unfold Rp at *; exact h
  | .kdic _ _, _, l, h => by
    unfold ltR at l
    unfold Rp at *
    obtain ⟨a, vs, h1, h0, h2, h3⟩ := h
    exact ⟨a, vs, h1, h0, h2, Rps.cut l h3⟩
theorem Rps.cut : ∀ {ds : List D} {vs : List V}, ltRs n ds = true → Rps F g H ds vs → Rps F (g.cut n) H ds vs
  | [], _, _, h => by unfold Rps at *; exact h
  | d :: ds, _, l, h => by
    unfold ltRs at l
    obtain ⟨v, r, rfl, h1, h2⟩ := h.inv
    exact .cons (Rp.cut (and2 l).1 h1) (Rps.cut (and2 l).2 h2)
end
end
theorem SO.beq_eq {a b : SO} (h : SO.beq a b = true) : a = b := by
  cases a <;> cases b <;> first | rfl | (unfold SO.beq at h; cases h; done) | skip
  · unfold SO.beq at h; rw [D.beqs_eq h]
  · unfold SO.beq at h
    rw [of_decide_eq_true (and2 h).1, D.beqs_eq (and2 h).2]
  · unfold SO.beq at h
    rw [of_decide_eq_true (and2 h).1, D.beqs_eq (and2 h).2]
  · unfold SO.beq at h
    rw [of_decide_eq_true (and2 h).1, D.beqs_eq (and2 h).2]
theorem pre_get : ∀ {s t : Store}, pre s t = true → ∀ {n : Nat} {o : SO}, s[n]? = some o → t[n]? = some o
  | [], _, _, n, o, e => by simp at e
  | a :: s, [], h, _, _, _ => by unfold pre at h; cases h
  | a :: s, b :: t, h, 0, o, e => by
    unfold pre at h
    rw [← SO.beq_eq (and2 h).1]
    exact e
  | a :: s, b :: t, h, n + 1, o, e => by
    unfold pre at h
    exact pre_get (and2 h).2 (n := n) e
section
variable {F : Fm} {E : XK} {g g' : Gh} {H H' : Hp} {st st1 : Store}
theorem cut_ok2 (S : StR F g H st) (e : Ge g H g' H') (S1 : StR F g' H' st1) (p : pre st st1 = true) : Ge g H (g'.cut st.length) H' ∧ StR F (g'.cut st.length) H' st := by
  refine ⟨⟨e.fix, e.tup, e.fro, fun n a h => (if_pos (S.dom n a h)).trans (e.ix n a h)⟩, fun n a h => ?_, fun n o h => ?_, S1.trk⟩
  · by_cases l : n < st.length
    · exact l
    · have h : (if n < st.length then g'.i n else none) = some a := h
      rw [if_neg l] at h
      cases h
  · have l : n < st.length := (List.getElem?_eq_some_iff.mp h).1
    rcases S1.obj n o (pre_get p h) with z | ⟨a, h1, h2, h3⟩
    · exact .inl z
    · refine .inr ⟨a, (if_pos l).trans h1, h2, ?_⟩
      rcases S.obj n o h with z | ⟨b, k1, k2, k3⟩
      · rw [z]; trivial
      · cases o with
        | dead => trivial
        | lst ds =>
          obtain ⟨_, _, k⟩ := k3
          obtain ⟨vs, m1, m2⟩ := h3
          exact ⟨vs, m1, Rps.cut (Rps.lt S.dom k) m2⟩
        | dic ks ds =>
          obtain ⟨_, _, _, k⟩ := k3
          obtain ⟨vs, m0, m1, m2⟩ := h3
          exact ⟨vs, m0, m1, Rps.cut (Rps.lt S.dom k) m2⟩
        | ins C ds =>
          obtain ⟨_, _, _, _, k⟩ := k3
          obtain ⟨dx, vs, m1, m0, m2⟩ := h3
          exact ⟨dx, vs, m1, m0, Rps.cut (Rps.lt S.dom k) m2⟩
        | ldic ks ds =>
          obtain ⟨_, _, _, _, k⟩ := k3
          obtain ⟨od, vs, m0, m1, m2⟩ := h3
          exact ⟨od, vs, m0, m1, Rps.cut (Rps.lt S.dom k) m2⟩
theorem fin_ok {b : Bool} {r : OutS} {Q : VK} (S : StR F g H st) (q : Post F E (Rp F) g H (fin b st r) Q) : PostS F E g H r { nx := fun _ H' => Q .non H', rt := Q } := by
  unfold fin at q
  cases r with
  | bad => exact q
  | next sl st1 =>
    intro g' H' σ e S1 _
    cases b with
    | false => exact q g' H' .non e S1 rp_non
    | true =>
      simp only [if_true] at q
      split at q
      · rename_i p
        obtain ⟨e2, S2⟩ := cut_ok2 S e S1 p
        exact q _ H' .non e2 S2 rp_non
      · exact q.elim
  | ret d st1 =>
    intro g' H' v e S1 rv
    cases b with
    | false => exact q g' H' v e S1 rv
    | true =>
      simp only [if_true] at q
      split at q
      · rename_i p
        obtain ⟨p1, p2⟩ := and2 p
        obtain ⟨e2, S2⟩ := cut_ok2 S e S1 p2
        exact q _ H' v e2 S2 (Rp.cut (noRef_lt p1) rv)
      · exact q.elim
  | exc c a st1 =>
    intro g' H' cls dd e S1 x
    cases b with
    | false => exact q g' H' cls dd e S1 x
    | true =>
      simp only [if_true] at q
      split at q
      · rename_i p
        obtain ⟨p1, p2⟩ := and2 p
        obtain ⟨e2, S2⟩ := cut_ok2 S e S1 p2
        refine q _ H' cls dd e2 S2 ⟨x.1, ?_⟩
        have x2 := x.2
        split at x2
        · exact x2
        · obtain ⟨z, v, h1, h2, h3⟩ := x2
          exact ⟨z, v, h1, h2, Rp.cut (noRef_lt p1) h3⟩
      · exact q.elim
theorem start_ok {dd : DDef} {ds : List D} {vs : List V} {N : List Str} (r : Rps F g H ds vs) (h1 : ds.length = dd.np) (h2 : N.length = dd.ns) : SlO F g H (startD dd ds) (L2.start N vs) := by
  have hl := r.len
  refine ⟨by unfold startD L2.start; rw [List.length_append, List.length_append, List.length_map, List.length_map, List.length_replicate, List.length_replicate]; omega, fun i d e => ?_⟩
  unfold startD at e
  unfold L2.start
  by_cases l : i < ds.length
  · rw [List.getElem?_append_left (by rw [List.length_map]; exact l), List.getElem?_map] at e
    rw [List.getElem?_append_left (by rw [List.length_map]; omega), List.getElem?_map]
    cases ei : ds[i]? with
    | none => rw [ei] at e; cases e
    | some x =>
      rw [ei] at e
      cases e
      obtain ⟨v, e1, e2⟩ := r.get ei
      exact ⟨v, by rw [e1]; rfl, e2⟩
  · rw [List.getElem?_append_right (by rw [List.length_map]; omega), List.getElem?_replicate] at e
    split at e <;> cases e
end
end TS
end

section
set_option Elab.async false
set_option linter.all false
set_option maxRecDepth 100000
set_option maxHeartbeats 2000000
set_option autoImplicit false
namespace TS
open PySem PySem.Spec PyProof.Rows L2
def Ln.leafy (L : Ln) : Ln := { L with isG := fun _ => false, isM := fun _ _ => false, isX := fun _ => false, cmk := fun _ => false }
structure DefOk (K : PySem.W.Frag) (L : Ln) (f : Addr) (fd : FuncData) (ps : List Str) (dd : DDef) : Prop where
  np : ps.length = dd.np
  txt : ∃ (N : List Str) (name qual : Str) (params : Arguments) (body : List Stmt) (scope : Scope) (dV kV doc pm cdv ct oc : Value) (an od : Option Addr) (osl : Array (Option Value)),
    fd = PySem.W.fnOf name qual params body scope dV kV doc pm an cdv ct ∧ K.lookup f = some ⟨oc, od, .func (PySem.W.fnOf name qual params body scope dV kV doc pm an cdv ct), osl⟩ ∧ PySem.W.codeIn K cdv qual = true ∧ FnScope N ps scope ∧ N.length = dd.ns ∧
      cSs (if dd.leaf = true then L.leafy else L) N scope dd.body body = true
structure Lx (P : Program) (w : World) (K : PySem.W.Frag) (mg : Str → Option Value) (base : Heap) (L : Ln) : Prop where
  dfs : ∀ i dd, L.T.fn i = some dd → DefOk K L (L.fa i) (L.fd i) (L.ps i) dd
  gfn : ∀ i dd, L.T.fn i = some dd → L.isG i = true → mg (L.nm.fn i) = some (.ref (L.fa i)) ∧ PySem.W.keepIn K (.ref (L.fa i)) = true
  bnd : ∀ i dd, L.T.fn i = some dd → L.full i = true → Binds K (L.fd i) (L.ps i) []
  bdf : ∀ i dd, L.T.fn i = some dd → L.T.dfl i ≠ [] → ∃ dvs dus, Binds K (L.fd i) (L.ps i) dus ∧ Vals dvs dus ∧ ∀ g H, Rps (FL P w K L) g H (L.T.dfl i) dvs
  kbd : ∀ i dd, L.T.fn i = some dd → L.kw i ≠ [] → KBinds K (L.fd i) (L.ps i) (L.kw i) (fun us ws => if ws.length = (L.kw i).length then us ++ ws else []) (fun vs zs => if zs.length = (L.kw i).length then vs ++ zs else [])
  met : ∀ C i, L.isM C i = true → Meth K (L.ca C) (L.nm.fn i) (L.fa i) ∧ L.nm.fn i ∉ L.T.flds C
  cls : ∀ C, L.isC C = true → Cls K (L.ca C) ∧ mg (L.nm.cl C) = some (.ref (L.ca C)) ∧ Mk K (L.ca C) (L.fa (L.T.init C)) ∧ L.full (L.T.init C) = true ∧ (∀ x ∈ L.T.flds C, NoAttr K (L.ca C) x) ∧ ∃ dd, L.T.fn (L.T.init C) = some dd ∧ dd.leaf = true
  exc : ∀ c, L.isX c = true → XCl P w K mg base (L.nm.cl c) (L.ca c) (L.T.exf c)
  nd : ∀ C, (L.T.flds C).Nodup
  few : ∀ C, (L.T.flds C).length ≤ 900
  glo : ∀ i d, L.T.gl i = some d → ∃ v u, mg (L.nm.gl i) = some u ∧ RelV v u ∧ ∀ g H, Rp (FL P w K L) g H d v
  free : ∀ x ∈ bnames, mg x = none
section
variable {P : Program} {w : World} {K : PySem.W.Frag} {mg : Str → Option Value} {base : Heap} {L : Ln}
def step (T : Tab) (f0 f : Phi) : Phi := fun g args st => match T.fn g with
  | some dd => if args.length = dd.np then fin dd.drops st (exSs T (if dd.leaf = true then f0 else f) dd.body (startD dd args) st) else .bad
  | none => .bad
theorem callD_step (T : Tab) (k : Nat) : callD T (k + 1) = step T (callD T 0) (callD T k) := by
  funext g args st
  rw [callD]
  rfl
theorem room_sub {k : Nat} {A : Around} {e : Env} (h : Room k (A.deeper e)) : Room k (A.deeper e) := h
theorem fn_ok {L1 : Ln} {lv : Nat} {f : Phi} {i : Nat} {dd : DDef} {sp : List D → Store → Out D} (lk : Lk P w K mg base L1 f lv) (l2 : ∀ C, L1.cmk C = true ∨ L1.isX C = true → 2 ≤ lv) (hca : L1.ca = L.ca) (hT : L1.T = L.T) (D0 : DefOk K L (L.fa i) (L.fd i) (L.ps i) dd)
    (hL : (if dd.leaf = true then L.leafy else L) = L1) (hsp : ∀ ds st, sp ds st ≠ .bad → ds.length = dd.np ∧ sp ds st = fin dd.drops st (exSs L.T f dd.body (startD dd ds) st)) :
    FnOk P w K mg base (L2.CX P w) (lv + 1) (L.fa i) (L.fd i) (L.ps i) (spD (FL P w K L) dd.np sp) := by
  obtain ⟨np, N, name, qual, params, body, scope, dV, kV, doc, pm, cdv, ct, oc, an, od, osl, e1, e2, e3, e4, e5, e6⟩ := D0
  rw [e1]
  rw [hL] at e6
  refine fn_of e2 e3 e4 (fun vs H Q E h => by rw [h.1, np]) fun A outer s H vs Q E hr ⟨hl, g, ds, st, S, r, q⟩ => ?_
  have hne : sp ds st ≠ .bad := fun e => by rw [e] at q; exact q
  obtain ⟨h1, h2⟩ := hsp ds st hne
  rw [h2] at q
  have G : GX (cxOf (L2.CX P w) P w K mg base N qual scope (L.fa i) cdv A outer s H E) L1 N scope true E f lv :=
    ⟨rfl, rfl, e4.nd, rfl, e4.kind, fun _ _ => rfl, hr, l2, takes_of rfl rfl rfl rfl, lk⟩
  have eF : FX (cxOf (L2.CX P w) P w K mg base N qual scope (L.fa i) cdv A outer s H E) L1 = FL P w K L := by
    show Fm.mk P w K L1.ca L1.T = Fm.mk P w K L.ca L.T
    rw [hca, hT]
  refine ⟨_, psSs dd.body G (passes_of rfl) e6, ?_⟩
  show tS (FX (cxOf (L2.CX P w) P w K mg base N qual scope (L.fa i) cdv A outer s H E) L1) E (exSs L1.T f dd.body) _ _ _
  rw [eF, hT]
  exact ⟨g, startD dd ds, st, start_ok r h1 e5, S, fin_ok S q⟩
theorem bad_ok {lv : Nat} {f : Addr} {fd : FuncData} {ps : List Str} {n : Nat} {sp : List D → Store → Out D} (h : ∀ ds st, sp ds st = .bad) : FnOk P w K mg base (L2.CX P w) lv f fd ps (spD (FL P w K L) n sp) := by
  have no : ∀ {vs H Q E}, ¬ spD (FL P w K L) n sp vs H Q E := fun {vs H Q E} ⟨_, g, ds, st, _, _, q⟩ => by rw [h] at q; exact q
  exact ⟨fun _ _ _ _ q => (no q).elim, fun _ _ _ _ _ _ _ _ _ _ _ _ _ q => (no q).elim⟩
theorem lk_bad (X : Lx P w K mg base L) (L1 : Ln) (h1 : L1 = L ∨ L1 = L.leafy) (lv : Nat) : Lk P w K mg base L1 (callD L.T 0) lv := by
  have hb : ∀ i ds st, callD L.T 0 i ds st = .bad := fun i ds st => by rw [callD]
  rcases h1 with rfl | rfl
  · exact {
      ok := fun i dd e => ⟨(X.dfs i dd e).np, bad_ok (hb i)⟩
      len := fun i ds st h => absurd (hb i ds st) h
      gfn := X.gfn
      bnd := X.bnd
      bdf := X.bdf
      kbd := X.kbd
      met := X.met
      cls := fun C h => by
        obtain ⟨a, b, c, c2, d, dd, e, _⟩ := X.cls C h
        exact ⟨a, b, c, c2, d, dd, e, bad_ok (hb _)⟩
      exc := X.exc
      nd := X.nd
      few := X.few
      glo := X.glo
      free := X.free }
  · exact {
      ok := fun i dd e => ⟨(X.dfs i dd e).np, bad_ok (hb i)⟩
      len := fun i ds st h => absurd (hb i ds st) h
      gfn := fun _ _ _ h => by cases h
      bnd := X.bnd
      bdf := X.bdf
      kbd := X.kbd
      met := fun _ _ h => by cases h
      cls := fun C h => by
        obtain ⟨a, b, c, c2, d, dd, e, _⟩ := X.cls C h
        exact ⟨a, b, c, c2, d, dd, e, bad_ok (hb _)⟩
      exc := fun _ h => by cases h
      nd := X.nd
      few := X.few
      glo := X.glo
      free := X.free }
theorem leaf_ok (X : Lx P w K mg base L) (k : Nat) {i : Nat} {dd : DDef} (e : L.T.fn i = some dd) (hl : dd.leaf = true) : FnOk P w K mg base (L2.CX P w) 1 (L.fa i) (L.fd i) (L.ps i) (spD (FL P w K L) dd.np (callD L.T (k + 1) i)) := by
  refine fn_ok (L1 := L.leafy) (f := callD L.T 0) (lv := 0) (lk_bad X _ (.inr rfl) 0) (fun C h => by rcases h with h | h <;> cases h) rfl rfl (X.dfs i dd e) (by rw [if_pos hl]) fun ds st h => ?_
  rw [callD_step] at h ⊢
  unfold step at h ⊢
  rw [e] at h ⊢
  simp only [hl, if_true] at h ⊢
  by_cases hn : ds.length = dd.np
  · exact ⟨hn, if_pos hn⟩
  · rw [if_neg hn] at h
    exact absurd rfl h
theorem lk_all (X : Lx P w K mg base L) : ∀ k : Nat, Lk P w K mg base L (callD L.T k) (k + 2)
  | 0 => lk_bad X L (.inl rfl) 2
  | k + 1 => by
    have ih := lk_all X k
    exact {
      ok := fun i dd e => ⟨(X.dfs i dd e).np, by
        by_cases hl : dd.leaf = true
        · exact (leaf_ok X k e hl).mono (by omega)
        · refine fn_ok (L1 := L) ih (fun _ _ => by omega) rfl rfl (X.dfs i dd e) (by rw [if_neg hl]) fun ds st h => ?_
          rw [callD_step] at h ⊢
          unfold step at h ⊢
          rw [e] at h ⊢
          simp only [hl, if_false] at h ⊢
          by_cases hn : ds.length = dd.np
          · exact ⟨hn, if_pos hn⟩
          · rw [if_neg hn] at h
            exact absurd rfl h⟩
      len := fun i ds st h => by
        rw [callD_step] at h
        unfold step at h
        split at h
        · rename_i dd e
          split at h
          · rename_i hn
            exact ⟨dd, e, hn⟩
          · exact absurd rfl h
        · exact absurd rfl h
      gfn := X.gfn
      bnd := X.bnd
      bdf := X.bdf
      kbd := X.kbd
      met := X.met
      cls := fun C h => by
        obtain ⟨a, b, c, c2, d, dd, e, hl⟩ := X.cls C h
        exact ⟨a, b, c, c2, d, dd, e, leaf_ok X k e hl⟩
      exc := X.exc
      nd := X.nd
      few := X.few
      glo := X.glo
      free := X.free }
end
end TS
end

section
set_option Elab.async false
set_option linter.all false
set_option maxRecDepth 100000
set_option maxHeartbeats 2000000
set_option autoImplicit false
namespace TS
open PySem PySem.Spec PyProof.Rows L2
structure BaseI (K : PySem.W.Frag) (mg : Str → Option Value) (n : Str) (B : Addr) : Prop where
  gB : mg n = some (.ref B)
  rd : ClX.CRead K B (.type "type")
  at_ : PySem.W.findCls K (.ref B) (.type "type") "__init__" = some (.val (.builtin "ValueError.__init__"))
section
variable {X : Cx}
theorem pe_base {n : Str} {B : Addr} {e : Expr} {es : List Expr} {ta : TA} {p1 p2 pos : Pos} (T : BaseI X.K X.mg n B) (hg : Gl X n) (hd : (n == ("__debug__" : Str)) = false) (ha : PA X (e :: es) ta) (hn : nsts (e :: es) = true) (hl : (e :: es).length < 29) (hline : (p2.endLine == pos.line) = true) :
    PE X (.Call (.Attribute (.Name n p1) "__init__" p2) (e :: es) [] pos) (tVeI X.K ta) := by
  have hn2 := Bool.and_eq_true_iff.mp (show (nst e && nsts es) = true from hn)
  have hp : plB (.Name n p1) = true := rfl
  have ht := mform (env := X.env) (o := .Name n p1) (m := "__init__") hp hn hl hline
  refine ⟨fun pins s σ H Q I h => ?_⟩
  refine PySem.W.methodCall_KW (ld_glob I hg T.gB ?_ hd) ht
  refine PySem.W.method_cls I.kIn T.rd.ga (PySem.W.cls_value I.kIn T.rd.rd T.at_ (by decide +kernel) ?_)
  show wpAny _ _ (callWith pos (Value.builtin "ValueError.__init__") [] (backTo pos (starEach (e :: es) X.env)) []) _ _ _
  refine PyProof.Rows.callWith_method1 (thn (ha.run pos pins _ σ H _ (I.tok _) h) fun us s1 ⟨vs, H1, I1, r1, a, C, ws, ev, hl, T, ea, q⟩ => ?_) (star_one hn2.1) (star_any hn2.2)
  subst ev
  cases r1 with
  | @cons _ u0 _ ur ra rw' =>
    have eu : u0 = Value.ref a := ra
    subst eu
    have hlen : ur.length ≤ sizeLine := by
      rw [← Paired.length rw', sizeLine_eq]
      omega
    exact oinit_ok T I1 ea hlen fun s' J => ⟨.non, H1, J, rfl, q⟩
end
def cXI (bn s p fx : Str) (sc : Scope) : List Stmt → Bool
  | [.Expr (.Call (.Attribute (.Name b _) m p2) [.Name s1 _, .Name p1 _] [] pos) _, .Assign [.Attribute (.Name s2 _) f _] (.Name p3 _) _] =>
    ((decide (b = bn) && (decide (m = ("__init__" : Str)) && (p2.endLine == pos.line))) && ((decide (s1 = s) && decide (s2 = s)) && ((decide (p1 = p) && decide (p3 = p)) && decide (f = fx)))) &&
      ((visB sc s && visB sc p) && ((glB sc bn && !dbg bn) && (!dbg s && !dbg p)))
  | _ => false
theorem init_ok {P : Program} {w : World} {K : PySem.W.Frag} {mg : Str → Option Value} {base : Heap} {f B C : Addr} {bn s p fx name qual : Str} {params : Arguments} {body : List Stmt} {scope : Scope} {dV kV doc pm cdv ct oc : Value} {an od : Option Addr} {osl : Array (Option Value)}
    (T : BaseI K mg bn B) (O : OexC K C) (hno : PySem.W.findIn K (.ref C) fx = some none) (lk : K.lookup f = some ⟨oc, od, .func (PySem.W.fnOf name qual params body scope dV kV doc pm an cdv ct), osl⟩) (hcd : PySem.W.codeIn K cdv qual = true) (S : FnScope [s, p] [s, p] scope) (h : cXI bn s p fx scope body = true) :
    FnOk P w K mg base (L2.CX P w) 1 f (PySem.W.fnOf name qual params body scope dV kV doc pm an cdv ct) [s, p] (spX C fx) := by
  unfold cXI at h
  split at h <;> first | (cases h; done) | skip
  rename_i b p0 m p2 s1 p4 p1 p5 pos p6 s2 p7 f' p8 p3 p9 p10
  obtain ⟨h, h2⟩ := and2 h
  obtain ⟨h, h3⟩ := and2 h
  obtain ⟨a1, h⟩ := and2 h
  obtain ⟨a2, a3⟩ := and2 h
  obtain ⟨h3, h4⟩ := and2 h3
  obtain ⟨a4, a5⟩ := and2 h3
  obtain ⟨h4, a6⟩ := and2 h4
  obtain ⟨a7, a8⟩ := and2 h4
  obtain ⟨h2, h5⟩ := and2 h2
  obtain ⟨b1, b2⟩ := and2 h2
  obtain ⟨h5, h6⟩ := and2 h5
  obtain ⟨b3, b4⟩ := and2 h5
  obtain ⟨b5, b6⟩ := and2 h6
  cases of_decide_eq_true a1
  cases of_decide_eq_true a2
  cases of_decide_eq_true a4
  cases of_decide_eq_true a5
  cases of_decide_eq_true a6
  cases of_decide_eq_true a7
  cases of_decide_eq_true a8
  refine fn_of lk hcd S (fun vs H Q E ⟨a, v, e, _⟩ => by rw [e]; rfl) fun A outer s0 H vs Q E hr ⟨a, v, e, ha, k⟩ => ?_
  subst e
  have v1 : PE (cxOf (L2.CX P w) P w K mg base [s, p] qual scope f cdv A outer s0 H E) (.Name s p4) (tVar 0) := pe_var rfl (visB_ok rfl b1) (dbg_ok (notT b5)).1 (dbg_ok (notT b5)).2
  have v1' : PE (cxOf (L2.CX P w) P w K mg base [s, p] qual scope f cdv A outer s0 H E) (.Name s p7) (tVar 0) := pe_var rfl (visB_ok rfl b1) (dbg_ok (notT b5)).1 (dbg_ok (notT b5)).2
  have v2 : PE (cxOf (L2.CX P w) P w K mg base [s, p] qual scope f cdv A outer s0 H E) (.Name p p5) (tVar 1) := pe_var rfl (visB_ok rfl b2) (dbg_ok (notT b6)).1 (dbg_ok (notT b6)).2
  have v2' : PE (cxOf (L2.CX P w) P w K mg base [s, p] qual scope f cdv A outer s0 H E) (.Name p p9) (tVar 1) := pe_var rfl (visB_ok rfl b2) (dbg_ok (notT b6)).1 (dbg_ok (notT b6)).2
  refine ⟨_, pss_cons (ps_expr (pe_base (X := cxOf (L2.CX P w) P w K mg base [s, p] qual scope f cdv A outer s0 H E) T (glB_ok rfl b3) (dbg_ok (notT b4)).1 (pa_cons v1 (pa_cons v2 pa_nil rfl) rfl) rfl (by show 2 < 29; omega) a3) rfl) (pss_cons (ps_ost v1' v2' rfl) pss_nil), ?_⟩
  exact ⟨.ref a, rfl, v, rfl, a, C, [v], rfl, by show 1 ≤ 1000; omega, O, ha, v, rfl, .ref a, rfl, a, C, rfl, O, hno, .inl ⟨ha, fun d h1 h2 => k d h1 h2⟩⟩
end TS
end

section
set_option Elab.async false
set_option linter.all false
set_option maxRecDepth 100000
set_option maxHeartbeats 2000000
set_option autoImplicit false
namespace TS
open PySem PySem.Spec PyProof.Rows L2
theorem zip_lk : ∀ {ns : List Str} {us : List Value}, ns.Nodup → us.length = ns.length → ∀ (pre : List (Str × Value)), (∀ q ∈ pre, q.1 ∉ ns) → (ns.filterMap fun n => ((pre ++ ns.zip us).lookup n).map (n, ·)) = ns.zip us
  | [], us, _, h, pre, _ => by
    cases us with
    | nil => rfl
    | cons _ _ => cases h
  | n :: ns, [], _, h, _, _ => by cases h
  | n :: ns, u :: us, nd, h, pre, hp => by
    obtain ⟨h1, h2⟩ := List.nodup_cons.mp nd
    have lk : ∀ (l : List (Str × Value)), (∀ q ∈ l, q.1 ≠ n) → ∀ r, (l ++ (n, u) :: r).lookup n = some u := by
      intro l
      induction l with
      | nil => intro _ r; show ((n, u) :: r).lookup n = some u; rw [List.lookup_cons]; simp
      | cons q l ih =>
        intro hq r
        have hne : (n == q.1) = false := by
          rw [beq_eq_false_iff_ne]
          exact Ne.symm (hq q List.mem_cons_self)
        show (q :: (l ++ (n, u) :: r)).lookup n = some u
        rw [List.lookup_cons, hne]
        exact ih (fun z hz => hq z (List.mem_cons_of_mem _ hz)) r
    have hpn : ∀ q ∈ pre, q.1 ≠ n := fun q hq e => hp q hq (by rw [e]; exact List.mem_cons_self)
    rw [List.zip_cons_cons, List.filterMap_cons, lk pre hpn]
    show (n, u) :: _ = _
    congr 1
    have := zip_lk h2 (Nat.succ.inj h) (pre ++ [(n, u)]) (fun q hq => by
      rcases List.mem_append.mp hq with hq | hq
      · exact fun z => hp q hq (List.mem_cons_of_mem _ z)
      · rw [List.mem_singleton.mp hq]; exact h1)
    rw [List.append_assoc] at this
    exact this
theorem zip_some {ns : List Str} {us : List Value} (nd : ns.Nodup) (h : us.length = ns.length) {n : Str} (hn : n ∈ ns) : ((ns.zip us).lookup n).isNone = false := by
  have e := zip_lk nd h [] (fun q hq => by cases hq)
  cases q : (ns.zip us).lookup n with
  | some v => rfl
  | none =>
    exfalso
    have l1 : (ns.filterMap fun n => (([] ++ ns.zip us).lookup n).map (n, ·)).length < ns.length := by
      clear e
      rw [List.nil_append]
      have : ∀ {l : List Str} {f : Str → Option (Str × Value)}, n ∈ l → f n = none → (l.filterMap f).length < l.length := by
        intro l f
        induction l with
        | nil => intro h; cases h
        | cons a l ih =>
          intro hm hf
          rw [List.filterMap_cons]
          have le := List.length_filterMap_le f l
          cases ha : f a with
          | none => show (l.filterMap f).length < l.length + 1; omega
          | some b =>
            show (b :: l.filterMap f).length < l.length + 1
            rcases List.mem_cons.mp hm with rfl | hm
            · rw [hf] at ha; cases ha
            · have := ih hm hf
              rw [List.length_cons]
              omega
      exact this hn (by rw [q]; rfl)
    rw [e, List.length_zip] at l1
    omega
def plainP (a : Arguments) : Bool := a.posonlyargs.isEmpty && (a.vararg.isNone && (a.kwonlyargs.isEmpty && a.kwarg.isNone))
theorem bind_plain {fd : FuncData} {us : List Value} (h : plainP fd.params = true) (hd : fd.defaults = .none) (nd : (fd.params.args.map (·.arg)).Nodup) (hl : us.length = (fd.params.args.map (·.arg)).length) : bindArgs fd ⟨us, []⟩ = pure ((fd.params.args.map (·.arg)).zip us) := by
  unfold plainP at h
  obtain ⟨h1, h⟩ := and2 h
  obtain ⟨h2, h⟩ := and2 h
  obtain ⟨h3, h4⟩ := and2 h
  have e1 := List.isEmpty_iff.mp h1
  have e2 := Option.isNone_iff_eq_none.mp h2
  have e3 := List.isEmpty_iff.mp h3
  have e4 := Option.isNone_iff_eq_none.mp h4
  have miss : ((fd.params.args.map (·.arg)).filter fun n => (((fd.params.args.map (·.arg)).zip us).lookup n).isNone) = [] := by
    rw [List.filter_eq_nil_iff]
    intro n hn
    rw [zip_some nd hl hn]
    simp
  have fm := zip_lk nd hl [] (fun q hq => by cases hq)
  rw [List.nil_append] at fm
  unfold bindArgs
  simp only [e1, e2, e3, e4, hd, List.map_nil, List.nil_append, List.append_nil]
  have hs : seqItems? .none = pure none := by rfl
  rw [hs]
  simp only [List.forIn_nil, pure_bind, Option.getD_none, List.length_nil, Nat.zero_sub, List.drop_zero, Nat.sub_zero, List.take_length, miss, List.zip_nil_right]
  rw [if_neg (by rw [hl]; simp)]
  simp only [List.isEmpty_nil, Bool.not_true, fm]
  first | rfl | simp
end TS
namespace TS
open PySem PySem.Spec PyProof.Rows L2
def kwP (a : Arguments) : Bool := a.posonlyargs.isEmpty && (a.vararg.isNone && (decide (a.kwonlyargs.length = 1) && a.kwarg.isNone))
theorem zip_snoc {ns : List Str} {us : List Value} {k : Str} {v : Value} (h : us.length = ns.length) : (ns ++ [k]).zip (us ++ [v]) = ns.zip us ++ [(k, v)] := by
  rw [List.zip_append h.symm]
  rfl
theorem zip_none {ns : List Str} {us : List Value} {k : Str} (h : k ∉ ns) : (ns.zip us).lookup k = none := by
  induction ns generalizing us with
  | nil => rfl
  | cons n ns ih =>
    cases us with
    | nil => rfl
    | cons u us =>
      have hne : (k == n) = false := by
        rw [beq_eq_false_iff_ne]
        intro e
        exact h (by rw [e]; exact List.mem_cons_self)
      rw [List.zip_cons_cons, List.lookup_cons, hne]
      exact ih fun q => h (List.mem_cons_of_mem _ q)
theorem bind_kw {fd : FuncData} {us : List Value} {v : Value} {k : Str} (h : kwP fd.params = true) (hk : fd.params.kwonlyargs.map (·.arg) = [k]) (hd : fd.defaults = .none) (nd : (fd.params.args.map (·.arg) ++ [k]).Nodup) (hl : us.length = (fd.params.args.map (·.arg)).length) :
    bindArgs fd ⟨us, [(k, v)]⟩ = pure ((fd.params.args.map (·.arg) ++ [k]).zip (us ++ [v])) := by
  unfold kwP at h
  obtain ⟨h1, h⟩ := and2 h
  obtain ⟨h2, h⟩ := and2 h
  obtain ⟨h3, h4⟩ := and2 h
  have e1 := List.isEmpty_iff.mp h1
  have e2 := Option.isNone_iff_eq_none.mp h2
  have e4 := Option.isNone_iff_eq_none.mp h4
  have hl2 : (us ++ [v]).length = (fd.params.args.map (·.arg) ++ [k]).length := by rw [List.length_append, List.length_append, hl]; rfl
  have kn : k ∉ fd.params.args.map (·.arg) := by
    rw [List.nodup_append] at nd
    exact fun q => nd.2.2 k q k (by simp) rfl
  have z0 : ((fd.params.args.map (·.arg)).zip us).lookup k = none := zip_none kn
  have zz := zip_snoc (k := k) (v := v) hl
  have z1 : ((fd.params.args.map (·.arg)).zip us ++ [(k, v)]).lookup k = some v := by
    have := zip_some nd hl2 (n := k) (by simp)
    rw [zz] at this
    cases q : ((fd.params.args.map (·.arg)).zip us ++ [(k, v)]).lookup k with
    | none => rw [q] at this; cases this
    | some u =>
      rw [List.lookup_append, z0] at q
      rw [← q]
      simp [List.lookup]
  have miss : ((fd.params.args.map (·.arg)).filter fun n => (((fd.params.args.map (·.arg)).zip us ++ [(k, v)]).lookup n).isNone) = [] := by
    rw [List.filter_eq_nil_iff]
    intro n hn
    rw [← zz, zip_some nd hl2 (by rw [List.mem_append]; exact .inl hn)]
    simp
  have fm := zip_lk nd hl2 [] (fun q hq => by cases hq)
  rw [List.nil_append, zz] at fm
  have hs : seqItems? .none = pure none := by rfl
  unfold bindArgs
  simp only [e1, e2, e4, hd, hk, List.map_nil, List.nil_append, List.append_nil]
  rw [hs]
  have ck : (([k] : List Str).contains k) = true := by simp
  simp only [List.forIn_cons, List.forIn_nil, pure_bind, z0, ck, Bool.or_true, if_true, Option.isSome_none, Bool.false_eq_true, if_false, Option.getD_none, List.length_nil, Nat.zero_sub, List.drop_zero, Nat.sub_zero, List.take_length, miss, List.zip_nil_right]
  rw [if_neg (by rw [hl]; simp)]
  simp only [List.isEmpty_nil, Bool.not_true, z1, Option.isNone_some, Bool.false_eq_true, if_false, pure_bind, fm, zz]
end TS
namespace TS
open PySem PySem.Spec PyProof.Rows L2
theorem bind_kwd {fd : FuncData} {us : List Value} {v : Value} {k : Str} {Dk : Addr} (h : kwP fd.params = true) (hk : fd.params.kwonlyargs.map (·.arg) = [k]) (hd : fd.defaults = .none) (hD : fd.kwdefaults = .ref Dk) (nd : (fd.params.args.map (·.arg) ++ [k]).Nodup) (hl : us.length = (fd.params.args.map (·.arg)).length) :
    KwChain Dk [(k, v)] (bindArgs fd ⟨us, []⟩) ((fd.params.args.map (·.arg) ++ [k]).zip (us ++ [v])) := by
  unfold kwP at h
  obtain ⟨h1, h⟩ := and2 h
  obtain ⟨h2, h⟩ := and2 h
  obtain ⟨h3, h4⟩ := and2 h
  have e1 := List.isEmpty_iff.mp h1
  have e2 := Option.isNone_iff_eq_none.mp h2
  have e4 := Option.isNone_iff_eq_none.mp h4
  have hl2 : (us ++ [v]).length = (fd.params.args.map (·.arg) ++ [k]).length := by rw [List.length_append, List.length_append, hl]; rfl
  have nd1 : (fd.params.args.map (·.arg)).Nodup := (List.nodup_append.mp nd).1
  have kn : k ∉ fd.params.args.map (·.arg) := by
    rw [List.nodup_append] at nd
    exact fun q => nd.2.2 k q k (by simp) rfl
  have z0 : ((fd.params.args.map (·.arg)).zip us).lookup k = none := zip_none kn
  have zz := zip_snoc (k := k) (v := v) hl
  have miss : ((fd.params.args.map (·.arg)).filter fun n => (((fd.params.args.map (·.arg)).zip us).lookup n).isNone) = [] := by
    rw [List.filter_eq_nil_iff]
    intro n hn
    rw [zip_some nd1 hl hn]
    simp
  have fm := zip_lk nd hl2 [] (fun q hq => by cases hq)
  rw [List.nil_append, zz] at fm
  have hs : seqItems? .none = pure none := by rfl
  unfold bindArgs
  simp only [e1, e2, e4, hd, hk, hD, List.map_nil, List.nil_append, List.append_nil]
  rw [hs]
  simp only [List.forIn_cons, List.forIn_nil, pure_bind, z0, Option.isNone_none, if_true, Option.getD_none, List.length_nil, Nat.zero_sub, List.drop_zero, Nat.sub_zero, List.take_length, miss, List.zip_nil_right]
  rw [if_neg (by rw [hl]; simp)]
  simp only [List.isEmpty_nil, Bool.not_true, Bool.false_eq_true, if_false]
  refine ⟨_, _, _, _, _, _, rfl, rfl, ?_⟩
  show _ = pure _
  simp only [pure_bind, List.isEmpty_nil, Bool.not_true, Bool.false_eq_true, if_false, fm, zz]
end TS
end

section
set_option Elab.async false
set_option linter.all false
set_option maxRecDepth 100000
set_option maxHeartbeats 2000000
set_option autoImplicit false
namespace TS
open PySem PySem.Spec PyProof.Rows L2
def kdVals : List DictEntry → List Key → List D → Bool
  | [], [], [] => true
  | e :: es, .inr x :: ks, .int i :: ds => (match e.key, e.val with
    | .str y _, .int j _ => decide (y = x) && decide (j = i)
    | _, _ => false) && kdVals es ks ds
  | _, _, _ => false
def kdB (K : PySem.W.Frag) (a : Addr) (ks : List Key) (ds : List D) : Bool := match K.lookup a with
  | some ⟨_, _, .dict es _, _⟩ => kdVals es.toList ks ds && (nodupB ks && decide (ks.length ≤ 1000))
  | _ => false
def keyS : List Key → List Str
  | [] => []
  | .inr x :: ks => x :: keyS ks
  | .inl _ :: ks => keyS ks
def intV : List D → List V
  | [] => []
  | .int i :: ds => .int i :: intV ds
  | _ :: ds => .non :: intV ds
theorem kd_pairs {P : Program} {w : World} : ∀ {es : List DictEntry} {ks : List Key} {ds : List D}, kdVals es ks ds = true → PySem.W.KeysLit w.params es →
    (∀ e ∈ es, ∃ k, (mixKind P w).is k e.key = true ∧ e.hash = (mixKind P w).hash k) ∧ ks.length = ds.length ∧ ks.length = (intV ds).length ∧ ∃ kvs, KV (ks.zip (intV ds)) kvs ∧ PySem.Pairs (mixKind P w) es kvs ∧ kvs.map (·.1) = ks ∧ ∀ (F : Fm) g H, Rps F g H ds (intV ds)
  | [], [], [], _, _ => ⟨fun _ h => (by cases h), rfl, rfl, [], .nil, .nil, rfl, fun _ _ _ => Rps.nil⟩
  | [], [], _ :: _, h, _ => by cases h
  | [], _ :: _, _, h, _ => by cases h
  | _ :: _, [], _, h, _ => by cases h
  | e :: es, .inl _ :: _, _, h, _ => by cases h
  | e :: es, .inr _ :: _, [], h, _ => by cases h
  | e :: es, .inr x :: ks, d :: ds, h, hl => by
    cases d <;> first | (cases h; done) | skip
    rename_i i
    unfold kdVals at h
    obtain ⟨h1, h2⟩ := and2 h
    obtain ⟨⟨x', t, hk, hh⟩, hl⟩ := hl
    obtain ⟨a, b, c, kvs, k1, k2, k3, k4⟩ := kd_pairs h2 hl
    rw [hk] at h1
    cases ev : e.val <;> rw [ev] at h1 <;> first | (cases h1; done) | skip
    rename_i j u
    obtain ⟨h3, h4⟩ := and2 h1
    have ex := of_decide_eq_true h3
    have ej := of_decide_eq_true h4
    subst ex
    subst ej
    have hi : (mixKind P w).is (.inr x') e.key = true := by
      show Value.isStrOf x' e.key = true
      rw [hk]
      simp [Value.isStrOf]
    refine ⟨fun e' he => ?_, by rw [List.length_cons, List.length_cons, b], by show _ = (intV ds).length + 1; rw [List.length_cons, c], (.inr x', .int j u) :: kvs, .cons ⟨rfl, ⟨u, rfl⟩⟩ k1, .cons hi ev k2, by rw [List.map_cons, k3], fun F g H => .cons (by exact rp_int) (k4 F g H)⟩
    rcases List.mem_cons.mp he with rfl | he
    · exact ⟨.inr x', hi, hh⟩
    · exact a e' he
theorem kd_ok {P : Program} {w : World} {K : PySem.W.Frag} {a : Addr} {ks : List Key} {ds : List D} (h : kdB K a ks ds = true) (hd : ∃ es n, L2.KDict K w a es n) : KDc P w K a (ks.zip (intV ds)) ∧ ks.length = (intV ds).length ∧ ∀ (F : Fm) g H, Rps F g H ds (intV ds) := by
  obtain ⟨es, n, D⟩ := hd
  unfold kdB at h
  rw [D.at_] at h
  obtain ⟨h1, h2⟩ := and2 h
  obtain ⟨h2, h3⟩ := and2 h2
  obtain ⟨a1, a2, a3, kvs, k1, k2, k3, k4⟩ := kd_pairs (P := P) h1 D.lit
  refine ⟨⟨by rw [List.length_zip, sizeLine_eq]; have := of_decide_eq_true h3; omega, fun hp hK => ⟨D.low, kvs, k1, _, es, n, hK _ _ D.at_, ⟨rfl, rfl, rfl⟩, rfl, fun e he => a1 e (Array.mem_toList_iff.mpr he), k2, by rw [k3]; exact nodupB_ok h2⟩⟩, a3, k4⟩
end TS
end

section
set_option Elab.async false
set_option linter.all false
set_option maxRecDepth 100000
set_option maxHeartbeats 2000000
set_option autoImplicit false
namespace TS
open PySem PySem.Spec PyProof.Rows L2
inductive Kd where
  | full
  | kw (d : D)
  | dfl (d : D)
structure DLk where
  at_ : Str × Option Str
  N : List Str
  dd : DDef
  kd : Kd := .full
structure Cl where
  name : Str
  obj : Option (List Str × Nat) := none
  exc : Option (Option Str) := none
  init : Str × Str := ("", "")
structure LD where
  defs : List (Option DLk)
  cls : List (Option Cl)
  gls : List (Option (Str × D))
  bexc : Str := "SchoolError"
def LD.get (D : LD) (i : Nat) : Option DLk := (D.defs[i]?).join
def LD.getC (D : LD) (i : Nat) : Option Cl := (D.cls[i]?).join
def LD.getG (D : LD) (i : Nat) : Option (Str × TS.D) := (D.gls[i]?).join
def LD.fnName (D : LD) (i : Nat) : Str := match D.get i with
  | some d => d.at_.2.getD d.at_.1
  | none => ""
def LD.clName (D : LD) (i : Nat) : Str := match D.getC i with
  | some d => d.name
  | none => ""
def LD.tab (D : LD) : Tab where
  fn := fun i => (D.get i).map (·.dd)
  gl := fun i => (D.getG i).map (·.2)
  flds := fun C => match D.getC C with
    | some ⟨_, some (fs, _), _, _⟩ => fs
    | _ => []
  init := fun C => match D.getC C with
    | some ⟨_, some (_, i), _, _⟩ => i
    | _ => 0
  exf := fun C => match D.getC C with
    | some ⟨_, _, some x, _⟩ => x
    | _ => none
  dfl := fun i => match D.get i with
    | some ⟨_, _, _, .kw d⟩ => [d]
    | some ⟨_, _, _, .dfl d⟩ => [d]
    | _ => []
def fdAt (K : PySem.W.Frag) (a : Addr) : FuncData := match K.lookup a with
  | some ⟨_, _, .func fd, _⟩ => fd
  | _ => PySem.W.fnOf "" "" ⟨[], [], none, [], [], none, []⟩ [] ⟨.function, [], false, false, []⟩ .none .none .none .none none .none .none
def LD.ln (D : LD) (K : PySem.W.Frag) : Ln where
  ca := fun C => He.ga K (D.clName C)
  T := D.tab
  nm := ⟨D.fnName, D.clName, fun i => match D.getG i with | some p => p.1 | none => ""⟩
  fa := fun i => match D.get i with | some d => He.fAd K d.at_ | none => 0
  fd := fun i => match D.get i with | some d => fdAt K (He.fAd K d.at_) | none => fdAt K 0
  ps := fun i => match D.get i with | some d => d.N.take d.dd.np | none => []
  kw := fun i => match D.get i with | some ⟨_, N, dd, .kw _⟩ => (N.take dd.np).drop (dd.np - 1) | _ => []
  isG := fun i => match D.get i with | some d => d.at_.2.isNone | none => false
  isC := fun C => match D.getC C with | some c => c.obj.isSome | none => false
  isM := fun C i => match D.get i, D.getC C with | some d, some c => c.obj.isSome && (decide (d.at_.1 = c.name) && d.at_.2.isSome) | _, _ => false
  isX := fun C => match D.getC C with | some c => c.exc.isSome | none => false
  cmk := fun C => match D.getC C with | some c => c.obj.isSome | none => false
  full := fun i => match D.get i with | some ⟨_, _, _, .full⟩ => true | some ⟨_, _, _, .dfl _⟩ => true | _ => false
def scB (N ps : List Str) (sc : Scope) : Bool := (match sc.kind with | .function => true | _ => false) && ((!sc.isCoroutine && !sc.isGenerator) && (nodupS N && ((ps.all fun x => match sc.names.lookup x with | some .local => true | some .cell => true | _ => false) && sc.names.all fun y => match y.2 with | .free => false | _ => true)))
where
  nodupS : List Str → Bool
    | [] => true
    | x :: xs => !(xs.any fun y => decide (y = x)) && nodupS xs
theorem scB_ok {N : List Str} {n : Nat} {sc : Scope} (h : scB N (N.take n) sc = true) : FnScope N (N.take n) sc := by
  unfold scB at h
  obtain ⟨h1, h⟩ := and2 h
  obtain ⟨h2, h⟩ := and2 h
  obtain ⟨h3, h⟩ := and2 h
  obtain ⟨h4, h5⟩ := and2 h
  obtain ⟨h6, h7⟩ := and2 h2
  have nd : ∀ {l : List Str}, scB.nodupS l = true → l.Nodup := by
    intro l
    induction l with
    | nil => intro _; exact .nil
    | cons x xs ih =>
      intro h
      unfold scB.nodupS at h
      obtain ⟨a, b⟩ := and2 h
      refine List.nodup_cons.mpr ⟨fun q => ?_, ih b⟩
      have : (xs.any fun y => decide (y = x)) = true := List.any_eq_true.mpr ⟨x, q, decide_eq_true rfl⟩
      rw [this] at a
      cases a
  refine ⟨?_, notT h6, notT h7, nd h3, ?_, fun x hx => ?_, fun y hy e => ?_⟩
  · cases e : sc.kind <;> rw [e] at h1 <;> first | rfl | cases h1
  · rw [List.length_take, List.take_eq_take_iff]; omega
  · have := List.all_eq_true.mp h4 x hx
    split at this
    · rename_i q; exact .inl q
    · rename_i q; exact .inr q
    · cases this
  · have := List.all_eq_true.mp h5 y hy
    rw [e] at this
    cases this
def fnB (L : Ln) (K : PySem.W.Frag) (d : DLk) : Bool := match K.lookup (He.fAd K d.at_) with
  | some ⟨_, _, .func fd, _⟩ => (PySem.W.codeIn K fd.code fd.qualname && (decide (fd.globals = mainGlobals) && (fd.closure.isEmpty && decide (fd.builtins = builtinsNs)))) &&
      ((decide (d.dd.np ≤ d.N.length) && (decide (d.N.length = d.dd.ns) && scB d.N (d.N.take d.dd.np) fd.scope)) && (match fd.body with
        | .stmts b => cSs (if d.dd.leaf = true then L.leafy else L) d.N fd.scope d.dd.body b
        | _ => false))
  | _ => false
theorem fnB_ok {L : Ln} {K : PySem.W.Frag} {d : DLk} (h : fnB L K d = true) : DefOk K L (He.fAd K d.at_) (fdAt K (He.fAd K d.at_)) (d.N.take d.dd.np) d.dd := by
  unfold fnB at h
  cases q : K.lookup (He.fAd K d.at_) with
  | none => rw [q] at h; cases h
  | some o =>
    obtain ⟨oc, od, dt, osl⟩ := o
    rw [q] at h
    cases dt <;> first | (cases h; done) | skip
    rename_i fd
    have hfd : fdAt K (He.fAd K d.at_) = fd := by unfold fdAt; rw [q]
    obtain ⟨n1, n2, n3, n4, n5, n6, n7, n8, n9, n10, n11, n12, n13, n14, n15⟩ := fd
    obtain ⟨a1, a2⟩ := and2 h
    obtain ⟨b1, b2⟩ := and2 a1
    obtain ⟨b3, b4⟩ := and2 b2
    obtain ⟨b5, b6⟩ := and2 b4
    obtain ⟨c1, c2⟩ := and2 a2
    obtain ⟨c3, c4⟩ := and2 c1
    obtain ⟨c5, c6⟩ := and2 c4
    have e2 := of_decide_eq_true c3
    have e3 : n6 = mainGlobals := of_decide_eq_true b3
    have e4 : n7 = [] := List.isEmpty_iff.mp b5
    have e5 : n15 = builtinsNs := of_decide_eq_true b6
    cases n4 with
    | stmts b =>
      subst e3 e4 e5
      exact ⟨by rw [List.length_take]; omega, d.N, n1, n2, n3, b, n5, n8, n9, n10, n11, n13, n14, oc, n12, od, osl, hfd, q, b1, scB_ok c6, of_decide_eq_true c5, c2⟩
    | _ => cases c2
end TS
end

section
set_option Elab.async false
set_option linter.all false
set_option maxRecDepth 100000
set_option maxHeartbeats 2000000
set_option autoImplicit false
namespace TS
open PySem PySem.Spec PyProof.Rows L2
mutual
def gvB (K : PySem.W.Frag) : D → Value → Bool
  | .non, .none => true
  | .bl b, .bool c => decide (b = c)
  | .int i, .int j _ => decide (i = j)
  | .str s, .str t _ => decide (s = t)
  | .tup ds, .ref a => match K.lookup a with
    | some ⟨.type c, _, .seq its _, _⟩ => decide (c = "tuple") && (decide (its.size ≤ sizeLine) && gvsB K ds its.toList)
    | _ => false
  | _, _ => false
def gvsB (K : PySem.W.Frag) : List D → List Value → Bool
  | [], [] => true
  | d :: ds, u :: us => gvB K d u && gvsB K ds us
  | _, _ => false
end
mutual
theorem gvB_ok {K : PySem.W.Frag} : ∀ {d : D} {u : Value}, gvB K d u = true → ∃ v, RelV v u ∧ ∀ (P : Program) (w : World) (L : Ln) g H, Rp (FL P w K L) g H d v
  | .non, u, h => by
    cases u <;> first | (cases h; done) | skip
    exact ⟨.non, rfl, fun _ _ _ _ _ => rp_non⟩
  | .bl b, u, h => by
    cases u <;> first | (cases h; done) | skip
    unfold gvB at h
    cases of_decide_eq_true h
    exact ⟨.bl b, rfl, fun _ _ _ _ _ => by unfold Rp; rfl⟩
  | .int i, u, h => by
    cases u <;> first | (cases h; done) | skip
    unfold gvB at h
    cases of_decide_eq_true h
    exact ⟨.int i, ⟨_, rfl⟩, fun _ _ _ _ _ => by unfold Rp; rfl⟩
  | .str i, u, h => by
    cases u <;> first | (cases h; done) | skip
    unfold gvB at h
    cases of_decide_eq_true h
    exact ⟨.str i, ⟨_, rfl⟩, fun _ _ _ _ _ => by unfold Rp; rfl⟩
  | .tup ds, u, h => by
    cases u <;> first | (cases h; done) | skip
    rename_i a
    unfold gvB at h
    cases q : K.lookup a with
    | none => rw [q] at h; cases h
    | some o =>
      obtain ⟨oc, od, dt, osl⟩ := o
      rw [q] at h
      cases oc <;> first | (cases h; done) | skip
      cases dt <;> first | (cases h; done) | skip
      rename_i c its n
      obtain ⟨h1, h2⟩ := and2 h
      obtain ⟨h3, h4⟩ := and2 h2
      obtain ⟨vs, r, p⟩ := gvsB_ok h4
      refine ⟨.ref a, rfl, fun P w L g H => ?_⟩
      unfold Rp
      exact ⟨a, vs, rfl, .inr ⟨_, its, n, q, congrArg Value.type (of_decide_eq_true h1), rfl, of_decide_eq_true h3, r⟩, p P w L g H⟩
  | .lst _, u, h => by cases u <;> cases h
  | .dic _ _, u, h => by cases u <;> cases h
  | .ref _, u, h => by cases u <;> cases h
  | .lam _ _, u, h => by cases u <;> cases h
  | .scr _, u, h => by cases u <;> cases h
  | .kdic _ _, u, h => by cases u <;> cases h
theorem gvsB_ok {K : PySem.W.Frag} : ∀ {ds : List D} {us : List Value}, gvsB K ds us = true → ∃ vs, Vals vs us ∧ ∀ (P : Program) (w : World) (L : Ln) g H, Rps (FL P w K L) g H ds vs
  | [], [], _ => ⟨[], .nil, fun _ _ _ _ _ => .nil⟩
  | [], _ :: _, h => by cases h
  | _ :: _, [], h => by cases h
  | d :: ds, u :: us, h => by
    unfold gvsB at h
    obtain ⟨h1, h2⟩ := and2 h
    obtain ⟨v, r, p⟩ := gvB_ok h1
    obtain ⟨vs, rs, ps⟩ := gvsB_ok h2
    exact ⟨v :: vs, .cons r rs, fun P w L g H => .cons (p P w L g H) (ps P w L g H)⟩
end
theorem bind_dfl0 {fd : FuncData} {us : List Value} {T : Addr} {u : Value} (h : plainP fd.params = true) (hd : fd.defaults = .ref T) (nd : (fd.params.args.map (·.arg)).Nodup) (hl : us.length = (fd.params.args.map (·.arg)).length) (hp : 0 < us.length) :
    ∃ k, bindArgs fd ⟨us, []⟩ = seqItems? (.ref T) >>= k ∧ k (some #[u]) = pure ((fd.params.args.map (·.arg)).zip us) := by
  unfold plainP at h
  obtain ⟨h1, h⟩ := and2 h
  obtain ⟨h2, h⟩ := and2 h
  obtain ⟨h3, h4⟩ := and2 h
  have e1 := List.isEmpty_iff.mp h1
  have e2 := Option.isNone_iff_eq_none.mp h2
  have e3 := List.isEmpty_iff.mp h3
  have e4 := Option.isNone_iff_eq_none.mp h4
  have sub : ∀ n, ((fd.params.args.map (·.arg)).take n).filter (fun n => (((fd.params.args.map (·.arg)).zip us).lookup n).isNone) = [] := by
    intro n
    rw [List.filter_eq_nil_iff]
    intro x hx
    rw [zip_some nd hl (List.mem_of_mem_take hx)]
    simp
  have fm := zip_lk nd hl [] (fun q hq => by cases hq)
  rw [List.nil_append] at fm
  obtain ⟨ini, la, hla⟩ : ∃ ini la, fd.params.args.map (·.arg) = ini ++ [la] := by
    cases q : fd.params.args.map (·.arg) with
    | nil => rw [q] at hl; rw [hl] at hp; cases hp
    | cons a b => exact ⟨_, _, (List.dropLast_concat_getLast (List.cons_ne_nil a b)).symm⟩
  have hlast : (((fd.params.args.map (·.arg)).zip us).lookup la).isNone = false := zip_some nd hl (by rw [hla]; simp)
  have len : (fd.params.args.map (·.arg)).length = ini.length + 1 := by rw [hla, List.length_append]; rfl
  unfold bindArgs
  simp only [e1, e2, e3, e4, hd, List.map_nil, List.nil_append, List.append_nil, List.forIn_nil, pure_bind]
  refine ⟨_, rfl, ?_⟩
  simp only [Option.getD_some]
  rw [if_neg (by rw [hl]; simp)]
  have d1 : ([u] : List Value).drop (([u] : List Value).length - (fd.params.args.map (·.arg)).length) = [u] := by rw [len]; simp
  have d2 : (#[u] : Array Value).toList = [u] := rfl
  have d3 : (fd.params.args.map (·.arg)).drop ((fd.params.args.map (·.arg)).length - ([u] : List Value).length) = [la] := by
    rw [len]
    show List.drop (ini.length + 1 - 1) _ = _
    rw [Nat.add_sub_cancel, hla]
    simp
  simp only [d2, d1, d3, sub, List.isEmpty_nil, Bool.not_true, Bool.false_eq_true, if_false, List.zip_cons_cons, List.zip_nil_right, List.forIn_cons, List.forIn_nil, hlast, pure_bind, fm]
theorem bind_dfl1 {fd : FuncData} {us : List Value} {T : Addr} {u : Value} (h : plainP fd.params = true) (hd : fd.defaults = .ref T) (nd : (fd.params.args.map (·.arg)).Nodup) (hl : us.length + 1 = (fd.params.args.map (·.arg)).length) :
    ∃ k, bindArgs fd ⟨us, []⟩ = seqItems? (.ref T) >>= k ∧ k (some #[u]) = pure ((fd.params.args.map (·.arg)).zip (us ++ [u])) := by
  unfold plainP at h
  obtain ⟨h1, h⟩ := and2 h
  obtain ⟨h2, h⟩ := and2 h
  obtain ⟨h3, h4⟩ := and2 h
  have e1 := List.isEmpty_iff.mp h1
  have e2 := Option.isNone_iff_eq_none.mp h2
  have e3 := List.isEmpty_iff.mp h3
  have e4 := Option.isNone_iff_eq_none.mp h4
  obtain ⟨ini, la, hla⟩ : ∃ ini la, fd.params.args.map (·.arg) = ini ++ [la] := by
    cases q : fd.params.args.map (·.arg) with
    | nil => rw [q] at hl; cases hl
    | cons a b => exact ⟨_, _, (List.dropLast_concat_getLast (List.cons_ne_nil a b)).symm⟩
  have len : (fd.params.args.map (·.arg)).length = ini.length + 1 := by rw [hla, List.length_append]; rfl
  have hi : us.length = ini.length := by omega
  have nd2 := nd
  rw [hla] at nd2
  have ndi : ini.Nodup := (List.nodup_append.mp nd2).1
  have kn : la ∉ ini := by
    rw [List.nodup_append] at nd2
    exact fun q => nd2.2.2 la q la (by simp) rfl
  have hz : (fd.params.args.map (·.arg)).zip us = ini.zip us := by
    rw [hla]
    have : us = us ++ [] := (List.append_nil _).symm
    conv => lhs; rw [this, List.zip_append hi.symm]
    simp
  have z0 : ((fd.params.args.map (·.arg)).zip us).lookup la = none := by rw [hz]; exact zip_none kn
  have sub : ini.filter (fun n => (((fd.params.args.map (·.arg)).zip us).lookup n).isNone) = [] := by
    rw [List.filter_eq_nil_iff, hz]
    intro x hx
    rw [zip_some ndi hi hx]
    simp
  have hl2 : (us ++ [u]).length = (fd.params.args.map (·.arg)).length := by rw [List.length_append]; exact hl
  have fm := zip_lk nd hl2 [] (fun q hq => by cases hq)
  rw [List.nil_append] at fm
  have zz : (fd.params.args.map (·.arg)).zip us ++ [(la, u)] = (fd.params.args.map (·.arg)).zip (us ++ [u]) := by
    rw [hz, hla, zip_snoc hi]
  unfold bindArgs
  simp only [e1, e2, e3, e4, hd, List.map_nil, List.nil_append, List.append_nil, List.forIn_nil, pure_bind]
  refine ⟨_, rfl, ?_⟩
  simp only [Option.getD_some]
  rw [if_neg (by simp only [decide_eq_true_eq, Bool.and_eq_true, Option.isNone_none, and_true]; omega)]
  have d1 : ([u] : List Value).drop (([u] : List Value).length - (fd.params.args.map (·.arg)).length) = [u] := by rw [len]; simp
  have d2 : (#[u] : Array Value).toList = [u] := rfl
  have d3 : (fd.params.args.map (·.arg)).drop ((fd.params.args.map (·.arg)).length - ([u] : List Value).length) = [la] := by
    rw [len]
    show List.drop (ini.length + 1 - 1) _ = _
    rw [Nat.add_sub_cancel, hla]
    simp
  have d4 : (fd.params.args.map (·.arg)).take ((fd.params.args.map (·.arg)).length - ([u] : List Value).length) = ini := by
    rw [len]
    show List.take (ini.length + 1 - 1) _ = _
    rw [Nat.add_sub_cancel, hla]
    simp
  simp only [d2, d1, d3, d4, sub, List.isEmpty_nil, Bool.not_true, Bool.false_eq_true, if_false, List.zip_cons_cons, List.zip_nil_right, List.forIn_cons, List.forIn_nil, z0, Option.isNone_none, if_true, pure_bind, zz, fm]
end TS
namespace TS
open PySem PySem.Spec PyProof.Rows L2
def bndB (K : PySem.W.Frag) (d : DLk) : Bool := match d.kd with
  | .full => plainP (fdAt K (He.fAd K d.at_)).params && ((match (fdAt K (He.fAd K d.at_)).defaults with | .none => true | _ => false) && decide ((fdAt K (He.fAd K d.at_)).params.args.map (·.arg) = d.N.take d.dd.np))
  | .kw v => kwP (fdAt K (He.fAd K d.at_)).params && ((match (fdAt K (He.fAd K d.at_)).defaults with | .none => true | _ => false) && (match (fdAt K (He.fAd K d.at_)).params.kwonlyargs.map (·.arg), (fdAt K (He.fAd K d.at_)).kwdefaults with
    | [k], .ref Dk => decide ((fdAt K (He.fAd K d.at_)).params.args.map (·.arg) ++ [k] = d.N.take d.dd.np) && (match PySem.W.nsIn K Dk k with
      | some (some u) => gvB K v u
      | _ => false)
    | _, _ => false))
  | .dfl v => plainP (fdAt K (He.fAd K d.at_)).params && (decide ((fdAt K (He.fAd K d.at_)).params.args.map (·.arg) = d.N.take d.dd.np) && (decide (0 < d.dd.np) && (match (fdAt K (He.fAd K d.at_)).defaults with
    | .ref T => (match K.lookup T with
      | some ⟨_, _, .seq its _, _⟩ => (match its.toList with
        | [u] => gvB K v u
        | _ => false)
      | _ => false)
    | _ => false)))
def LD.defB (D : LD) (K : PySem.W.Frag) (d : DLk) : Bool := fnB (D.ln K) K d && ((match d.at_.2 with
  | none => (He.Fa.glo d.at_.1).ok K && PySem.W.keepIn K (.ref (He.ga K d.at_.1))
  | some m => (He.Fa.meth d.at_.1 m).ok K && (D.cls.all fun o => match o with | some c => c.name != d.at_.1 || (match c.obj with | some (fs, _) => !fs.contains m | none => true) | none => true)) && bndB K d)
def nodS : List Str → Bool
  | [] => true
  | x :: xs => !(xs.any fun y => decide (y = x)) && nodS xs
def objB (D : LD) (K : PySem.W.Frag) (c : Cl) (fs : List Str) (i : Nat) : Bool := ((He.Fa.cls c.name).ok K && (He.Fa.mkr c.name).ok K) && ((fs.all fun f => (He.Fa.noat c.name f).ok K) && ((nodS fs && decide (fs.length ≤ 900)) && (match D.get i with
  | some d => decide (d.at_ = (c.name, some ("__init__" : Str))) && ((match d.kd with | .kw _ => false | _ => true) && d.dd.leaf)
  | none => false)))
def excOB (K : PySem.W.Frag) (C : Addr) : Bool := (match K.lookup C with
  | some ⟨.type t, _, .cls cd, sl⟩ => decide (t = "type") && ((match cd.mro with
    | .ref C' :: bm => C' == C && PySem.HandSPX.refsVE bm
    | _ => false) && (cd.hasDict && (!cd.hasDel && (match sl.toList with
    | [_, _, _, _, some (.builtin n), _] => decide (n = "ValueError.__new__")
    | _ => false))))
  | _ => false) && (He.eqO (PySem.W.findIn K (.ref C) "__setattr__") (some (some (.builtin "object.__setattr__"))) && (decide (PySem.W.subIn K (.ref C) (.type "BaseException") = some true) && (decide (PySem.W.typeIn K (.ref C) = some (.type "type")) && PySem.W.keepIn K (.ref C))))
def baseB (K : PySem.W.Frag) (n : Str) : Bool := (He.Fa.glo n).ok K && ((PySem.W.readsIn K (He.ga K n) (.type "type") && He.eqO (PySem.W.specialIn K (.ref (He.ga K n)) "__getattribute__") (some (some (.builtin "type.__getattribute__")))) && (match PySem.W.findCls K (.ref (He.ga K n)) (.type "type") "__init__" with
  | some (.val (.builtin b)) => decide (b = "ValueError.__init__")
  | _ => false))
def xinB (K : PySem.W.Frag) (bn : Str) (f : Addr) (s p x : Str) : Bool := match K.lookup f with
  | some ⟨_, _, .func fd, _⟩ => (PySem.W.codeIn K fd.code fd.qualname && (decide (fd.globals = mainGlobals) && (fd.closure.isEmpty && decide (fd.builtins = builtinsNs)))) &&
      ((scB [s, p] [s, p] fd.scope && (match fd.body with
        | .stmts b => cXI bn s p x fd.scope b
        | _ => false)) && (plainP fd.params && ((match fd.defaults with | .none => true | _ => false) && decide (fd.params.args.map (·.arg) = [s, p]))))
  | _ => false
def excB (D : LD) (K : PySem.W.Frag) (c : Cl) (fx : Option Str) : Bool := ((He.Fa.glo c.name).ok K && (PySem.W.keepIn K (.ref (He.ga K c.name)) && (decide (PySem.W.subIn K (.ref (He.ga K c.name)) (.type "BaseException") = some true) && decide (PySem.W.typeIn K (.ref (He.ga K c.name)) = some (.type "type"))))) && (match fx with
  | none => PySem.W.excIn K (He.ga K c.name) [.type "ValueError", .type "Exception", .type "BaseException", .type "object"] "ValueError.__new__"
  | some x => (baseB K D.bexc && excOB K (He.ga K c.name)) && ((He.eqO (PySem.W.findIn K (.ref (He.ga K c.name)) "__init__") (some (some (.ref (He.ma K (He.ga K c.name) "__init__")))) && decide (PySem.W.typeIn K (.ref (He.ma K (He.ga K c.name) "__init__")) = some (.type "function"))) &&
      (He.eqO (PySem.W.findIn K (.ref (He.ga K c.name)) x) (some none) && xinB K D.bexc (He.ma K (He.ga K c.name) "__init__") c.init.1 c.init.2 x)))
def LD.clB (D : LD) (K : PySem.W.Frag) (c : Cl) : Bool := (He.Fa.glo c.name).ok K && ((match c.obj with
  | some (fs, i) => objB D K c fs i
  | none => true) && (match c.exc with
  | some fx => excB D K c fx
  | none => true))
def gloB (K : PySem.W.Frag) (p : Str × D) : Bool := match p.2 with
  | .kdic ks ds => (He.Fa.glo p.1).ok K && kdB K (He.ga K p.1) ks ds
  | d => match PySem.W.nsIn K mainGlobals p.1 with
    | some (some u) => gvB K d u
    | _ => false
def LD.ok (D : LD) (K : PySem.W.Frag) : Bool := (D.defs.all fun o => match o with | some d => D.defB K d | none => true) && ((D.cls.all fun o => match o with | some c => D.clB K c | none => true) && ((D.gls.all fun o => match o with | some p => gloB K p | none => true) && (bnames.all fun x => (He.Fa.free x).ok K)))
def LD.tabs (D : LD) : List (Str × List Str) := D.gls.filterMap fun o => match o with
  | some (x, .kdic ks _) => some (x, keyS ks)
  | _ => none
theorem nodS_ok : ∀ {l : List Str}, nodS l = true → l.Nodup
  | [], _ => .nil
  | x :: xs, h => by
    unfold nodS at h
    obtain ⟨a, b⟩ := and2 h
    refine List.nodup_cons.mpr ⟨fun q => ?_, nodS_ok b⟩
    have : (xs.any fun y => decide (y = x)) = true := List.any_eq_true.mpr ⟨x, q, decide_eq_true rfl⟩
    rw [this] at a
    cases a
theorem excOB_ok {K : PySem.W.Frag} {C : Addr} (h : excOB K C = true) : OexC K C := by
  unfold excOB at h
  obtain ⟨h1, h2⟩ := and2 h
  obtain ⟨h2, h3⟩ := and2 h2
  obtain ⟨h3, h4⟩ := and2 h3
  obtain ⟨h4, h5⟩ := and2 h4
  refine ⟨?_, He.eqO_ok h2, of_decide_eq_true h3, of_decide_eq_true h4, h5⟩
  cases q : K.lookup C with
  | none => rw [q] at h1; cases h1
  | some o =>
    obtain ⟨oc, od, dt, osl⟩ := o
    rw [q] at h1
    cases oc <;> first | (cases h1; done) | skip
    cases dt <;> first | (cases h1; done) | skip
    rename_i t cd
    obtain ⟨a1, z2⟩ := and2 h1
    obtain ⟨a2, z3⟩ := and2 z2
    obtain ⟨a3, z4⟩ := and2 z3
    obtain ⟨a4, a5⟩ := and2 z4
    clear z2 z3 z4
    obtain ⟨c1, c2, c3, c4, c5, c6, c7, c8, c9, c10, c11⟩ := cd
    cases of_decide_eq_true a1
    simp only at a2 a3 a4
    cases c3 with
    | nil => cases a2
    | cons m bm =>
      cases m with
      | ref C' =>
      obtain ⟨b1, b2⟩ := and2 a2
      have e1 : C' = C := by simpa using b1
      subst e1
      split at a5
      · rename_i z k0 k1 k2 k3 n k5 el
        have en := of_decide_eq_true a5
        have eo : osl = #[k0, k1, k2, k3, some (.builtin n), k5] := by
          rw [← Array.toArray_toList (xs := osl), el]
        have b4 := notT a4
        clear a4
        subst a3 b4 eo en
        exact ⟨_, _, _, _, bm, _, _, _, _, _, _, _, _, _, _, rfl, b2⟩
      · cases a5
      | _ => cases a2
theorem baseB_ok {K : PySem.W.Frag} {h : Heap} {mg : Str → Option Value} {n : Str} (X : K.In h) (G : h.Ns mainGlobals mg) (c : baseB K n = true) : BaseI K mg n (He.ga K n) := by
  unfold baseB at c
  obtain ⟨c1, c2⟩ := and2 c
  obtain ⟨c2, c3⟩ := and2 c2
  obtain ⟨c2, c4⟩ := and2 c2
  refine ⟨He.glo_ok X G c1, ⟨c2, He.eqO_ok c4⟩, ?_⟩
  split at c3
  · rename_i b e
    rw [e, of_decide_eq_true c3]
  · cases c3
end TS
end

section
set_option Elab.async false
set_option linter.all false
set_option maxRecDepth 100000
set_option maxHeartbeats 2000000
set_option autoImplicit false
namespace TS
open PySem PySem.Spec PyProof.Rows L2
section
variable {P : Program} {w : World} {K : PySem.W.Frag} {h : Heap} {mg : Str → Option Value} {base : Heap} {D : LD} {i : Nat} {d : DLk}
theorem ln_fn (q : D.get i = some d) : (D.ln K).T.fn i = some d.dd := by
  show (D.get i).map (·.dd) = _
  rw [q]; rfl
theorem ln_inv {dd : DDef} (e : (D.ln K).T.fn i = some dd) : ∃ d, D.get i = some d ∧ d.dd = dd := by
  have e : (D.get i).map (·.dd) = some dd := e
  cases q : D.get i with
  | none => rw [q] at e; cases e
  | some d => rw [q] at e; exact ⟨d, rfl, Option.some.inj e⟩
theorem ln_fa (q : D.get i = some d) : (D.ln K).fa i = He.fAd K d.at_ := by
  show (match D.get i with | some d => He.fAd K d.at_ | none => 0) = _
  rw [q]
theorem ln_fd (q : D.get i = some d) : (D.ln K).fd i = fdAt K (He.fAd K d.at_) := by
  show (match D.get i with | some d => fdAt K (He.fAd K d.at_) | none => fdAt K 0) = _
  rw [q]
theorem ln_ps (q : D.get i = some d) : (D.ln K).ps i = d.N.take d.dd.np := by
  show (match D.get i with | some d => d.N.take d.dd.np | none => []) = _
  rw [q]
theorem ln_nm (q : D.get i = some d) : (D.ln K).nm.fn i = d.at_.2.getD d.at_.1 := by
  show D.fnName i = _
  unfold LD.fnName
  rw [q]
theorem ln_isG (q : D.get i = some d) : (D.ln K).isG i = d.at_.2.isNone := by
  show (match D.get i with | some d => d.at_.2.isNone | none => false) = _
  rw [q]
theorem ln_full (q : D.get i = some d) : (D.ln K).full i = (match d.kd with | .kw _ => false | _ => true) := by
  show (match D.get i with | some ⟨_, _, _, .full⟩ => true | some ⟨_, _, _, .dfl _⟩ => true | _ => false) = _
  rw [q]
  obtain ⟨a, b, c, k⟩ := d
  cases k <;> rfl
theorem ln_dfl (q : D.get i = some d) : (D.ln K).T.dfl i = (match d.kd with | .kw v => [v] | .dfl v => [v] | .full => []) := by
  show (match D.get i with
    | some ⟨_, _, _, .kw d⟩ => [d]
    | some ⟨_, _, _, .dfl d⟩ => [d]
    | _ => []) = _
  rw [q]
  obtain ⟨a, b, c, k⟩ := d
  cases k <;> rfl
theorem ln_kw (q : D.get i = some d) : (D.ln K).kw i = (match d.kd with | .kw _ => (d.N.take d.dd.np).drop (d.dd.np - 1) | _ => []) := by
  show (match D.get i with | some ⟨_, N, dd, .kw _⟩ => (N.take dd.np).drop (dd.np - 1) | _ => []) = _
  rw [q]
  obtain ⟨a, b, c, k⟩ := d
  cases k <;> rfl
theorem ln_cl {c : Cl} {C : Nat} (q : D.getC C = some c) : D.clName C = c.name := by
  unfold LD.clName
  rw [q]
theorem ln_flds {c : Cl} {C : Nat} (q : D.getC C = some c) : (D.ln K).T.flds C = (match c.obj with | some (fs, _) => fs | none => []) := by
  show (match D.getC C with
    | some ⟨_, some (fs, _), _, _⟩ => fs
    | _ => []) = _
  rw [q]
  obtain ⟨a, b, c, k⟩ := c
  cases b with
  | none => rfl
  | some p => obtain ⟨x, y⟩ := p; rfl
theorem ln_flds0 {C : Nat} (q : D.getC C = none) : (D.ln K).T.flds C = [] := by
  show (match D.getC C with
    | some ⟨_, some (fs, _), _, _⟩ => fs
    | _ => []) = _
  rw [q]
theorem mem_at {α : Type} {l : List α} {i : Nat} {x : α} {p : α → Bool} (h : l.all p = true) (e : l[i]? = some x) : p x = true := List.all_eq_true.mp h x (List.mem_of_getElem? e)
theorem get_at {p : DLk → Bool} (h : (D.defs.all fun o => match o with | some d => p d | none => true) = true) (e : D.get i = some d) : p d = true := by
  unfold LD.get at e
  cases q : D.defs[i]? with
  | none => rw [q] at e; cases e
  | some o =>
    rw [q] at e
    cases o with
    | none => cases e
    | some d' =>
      cases e
      exact mem_at (p := fun o => match o with | some d => p d | none => true) h q
theorem getC_at {p : Cl → Bool} {c : Cl} (h : (D.cls.all fun o => match o with | some d => p d | none => true) = true) (e : D.getC i = some c) : p c = true := by
  unfold LD.getC at e
  cases q : D.cls[i]? with
  | none => rw [q] at e; cases e
  | some o =>
    rw [q] at e
    cases o with
    | none => cases e
    | some d' =>
      cases e
      exact mem_at (p := fun o => match o with | some d => p d | none => true) h q
theorem getG_at {p : Str × TS.D → Bool} {c : Str × TS.D} (h : (D.gls.all fun o => match o with | some d => p d | none => true) = true) (e : D.getG i = some c) : p c = true ∧ some c ∈ D.gls := by
  unfold LD.getG at e
  cases q : D.gls[i]? with
  | none => rw [q] at e; cases e
  | some o =>
    rw [q] at e
    cases o with
    | none => cases e
    | some d' =>
      cases e
      exact ⟨mem_at (p := fun o => match o with | some d => p d | none => true) h q, List.mem_of_getElem? q⟩
theorem take_drop1 {N : List Str} {n : Nat} {a : List Str} {k : Str} (hn : n ≤ N.length) (e : a ++ [k] = N.take n) : (N.take n).drop (n - 1) = [k] ∧ (N.take n) = a ++ [k] ∧ a.length + 1 = n := by
  have l : a.length + 1 = n := by
    have := congrArg List.length e
    rw [List.length_append, List.length_take] at this
    simp at this
    omega
  refine ⟨?_, e.symm, l⟩
  rw [← e, ← l]
  simp
theorem fnB_len {L : Ln} {d : DLk} (h : fnB L K d = true) : d.dd.np ≤ d.N.length := by
  unfold fnB at h
  cases q : K.lookup (He.fAd K d.at_) with
  | none => rw [q] at h; cases h
  | some o =>
    obtain ⟨oc, od, dt, osl⟩ := o
    rw [q] at h
    cases dt <;> first | (cases h; done) | skip
    obtain ⟨a1, a2⟩ := and2 h
    obtain ⟨c1, c2⟩ := and2 a2
    obtain ⟨c3, c4⟩ := and2 c1
    exact of_decide_eq_true c3
theorem defB_len (h : D.defB K d = true) : d.dd.np ≤ d.N.length := by
  unfold LD.defB at h
  exact fnB_len (and2 h).1
theorem nod_of {L : Ln} (h : fnB L K d = true) : (d.N.take d.dd.np).Nodup := by
  obtain ⟨np, N, name, qual, params, body, scope, dV, kV, doc, pm, cdv, ct, oc, an, od, osl, e1, e2, e3, e4, e5, e6⟩ := fnB_ok h
  have := e4.pre
  rw [← this]
  exact e4.nd.sublist (List.take_sublist _ _)
theorem bnd_ok (h : D.defB K d = true) (hf : (match d.kd with | .kw _ => false | _ => true) = true) : Binds K (fdAt K (He.fAd K d.at_)) (d.N.take d.dd.np) [] := by
  unfold LD.defB at h
  obtain ⟨h1, h2⟩ := and2 h
  obtain ⟨h2, h3⟩ := and2 h2
  have nd := nod_of h1
  have hle := fnB_len h1
  have tl : (d.N.take d.dd.np).length = d.dd.np := by rw [List.length_take]; omega
  unfold bndB at h3
  split at h3
  · obtain ⟨a1, a2⟩ := and2 h3
    obtain ⟨a2, a3⟩ := and2 a2
    have e3 := of_decide_eq_true a3
    have e2 : (fdAt K (He.fAd K d.at_)).defaults = .none := by
      split at a2
      · assumption
      · cases a2
    intro s us X hl
    rw [List.append_nil] at hl ⊢
    refine BindsTo.of_looks fun M => ?_
    rw [bind_plain a1 e2 (by rw [e3]; exact nd) (by rw [e3]; exact hl), e3]
    exact PySem.W.Looks.of_pure rfl
  · rename_i hq; rw [hq] at hf; cases hf
  · obtain ⟨a1, a2⟩ := and2 h3
    obtain ⟨a2, a3⟩ := and2 a2
    obtain ⟨a3, a4⟩ := and2 a3
    have e2 := of_decide_eq_true a2
    have e3 := of_decide_eq_true a3
    split at a4
    · rename_i T eT
      split at a4
      · rename_i oc od its nn osl eL
        split at a4
        · rename_i u eU
          intro s us X hl
          rw [List.append_nil] at hl ⊢
          obtain ⟨k, k1, k2⟩ := bind_dfl0 (u := u) a1 eT (by rw [e2]; exact nd) (us := us) (by rw [e2]; exact hl) (by rw [hl, tl]; exact e3)
          refine BindsTo.of_looks fun M => ?_
          rw [k1]
          have ei : its = #[u] := by rw [← Array.toArray_toList (xs := its), eU]
          subst ei
          rw [e2] at k2
          exact looks_items X eL rfl (.of_pure k2)
        · cases a4
      · cases a4
    · cases a4
theorem bdf_ok (h : D.defB K d = true) : ∀ {v : TS.D}, (d.kd = .kw v ∨ d.kd = .dfl v) → ∃ dvs dus, Binds K (fdAt K (He.fAd K d.at_)) (d.N.take d.dd.np) dus ∧ Vals dvs dus ∧ ∀ (P : Program) (w : World) (L : Ln) g H, Rps (FL P w K L) g H [v] dvs := by
  intro v hv
  unfold LD.defB at h
  obtain ⟨h1, h2⟩ := and2 h
  obtain ⟨h2, h3⟩ := and2 h2
  have nd := nod_of h1
  have hle := fnB_len h1
  have tl : (d.N.take d.dd.np).length = d.dd.np := by rw [List.length_take]; omega
  unfold bndB at h3
  rcases hv with hv | hv
  · rw [hv] at h3
    simp only at h3
    obtain ⟨a1, a2⟩ := and2 h3
    obtain ⟨a2, a3⟩ := and2 a2
    have e2 : (fdAt K (He.fAd K d.at_)).defaults = .none := by
      split at a2
      · assumption
      · cases a2
    split at a3
    · rename_i k Dk ek eD
      obtain ⟨a3, a4⟩ := and2 a3
      have e3 := of_decide_eq_true a3
      split at a4
      · rename_i u eu
        obtain ⟨vv, r, p⟩ := gvB_ok a4
        obtain ⟨t1, t2, t3⟩ := take_drop1 hle e3
        refine ⟨[vv], [u], fun s us X hl => ?_, .cons r .nil, fun P w L g H => .cons (p P w L g H) .nil⟩
        have hl2 : us.length = ((fdAt K (He.fAd K d.at_)).params.args.map (·.arg)).length := by
          rw [List.length_append, tl] at hl
          simp at hl
          have := t3
          simp at this ⊢
          omega
        have c := bind_kwd (v := u) a1 ek e2 eD (by rw [e3]; exact nd) hl2
        rw [e3] at c
        exact BindsTo.of_looks fun M => KwChain.looks X (fun q hq => by rw [List.mem_singleton.mp hq]; exact eu) c
      · cases a4
    · cases a3
  · rw [hv] at h3
    simp only at h3
    obtain ⟨a1, a2⟩ := and2 h3
    obtain ⟨a2, a3⟩ := and2 a2
    obtain ⟨a3, a4⟩ := and2 a3
    have e2 := of_decide_eq_true a2
    have e3 := of_decide_eq_true a3
    split at a4
    · rename_i T eT
      split at a4
      · rename_i oc od its nn osl eL
        split at a4
        · rename_i u eU
          obtain ⟨vv, r, p⟩ := gvB_ok a4
          refine ⟨[vv], [u], fun s us X hl => ?_, .cons r .nil, fun P w L g H => .cons (p P w L g H) .nil⟩
          have hl2 : us.length + 1 = ((fdAt K (He.fAd K d.at_)).params.args.map (·.arg)).length := by
            rw [e2, ← hl, List.length_append]; rfl
          obtain ⟨k, k1, k2⟩ := bind_dfl1 (u := u) a1 eT (by rw [e2]; exact nd) hl2
          refine BindsTo.of_looks fun M => ?_
          rw [k1]
          have ei : its = #[u] := by rw [← Array.toArray_toList (xs := its), eU]
          subst ei
          rw [e2] at k2
          exact looks_items X eL rfl (.of_pure k2)
        · cases a4
      · cases a4
    · cases a4
theorem kbd_ok (h : D.defB K d = true) {v : TS.D} (hv : d.kd = .kw v) : ∃ k, (d.N.take d.dd.np).drop (d.dd.np - 1) = [k] ∧ KBinds K (fdAt K (He.fAd K d.at_)) (d.N.take d.dd.np) [k] (fun us ws => if ws.length = 1 then us ++ ws else []) (fun vs zs => if zs.length = 1 then vs ++ zs else []) := by
  unfold LD.defB at h
  obtain ⟨h1, h2⟩ := and2 h
  obtain ⟨h2, h3⟩ := and2 h2
  have nd := nod_of h1
  have hle := fnB_len h1
  have tl : (d.N.take d.dd.np).length = d.dd.np := by rw [List.length_take]; omega
  unfold bndB at h3
  rw [hv] at h3
  simp only at h3
  obtain ⟨a1, a2⟩ := and2 h3
  obtain ⟨a2, a3⟩ := and2 a2
  have e2 : (fdAt K (He.fAd K d.at_)).defaults = .none := by
    split at a2
    · assumption
    · cases a2
  split at a3
  · rename_i k Dk ek eD
    obtain ⟨a3, a4⟩ := and2 a3
    have e3 := of_decide_eq_true a3
    obtain ⟨t1, t2, t3⟩ := take_drop1 hle e3
    refine ⟨k, t1, ⟨fun s us ws X hl => ?_, fun {vs us zs ws} r1 r2 => ?_⟩⟩
    · have hp : 0 < d.dd.np := by omega
      by_cases g : ws.length = 1
      · rw [if_pos g] at hl ⊢
        obtain ⟨u, rfl⟩ : ∃ u, ws = [u] := by
          cases ws with
          | nil => cases g
          | cons a b => cases b with
            | nil => exact ⟨a, rfl⟩
            | cons _ _ => cases g
        have hl2 : us.length = ((fdAt K (He.fAd K d.at_)).params.args.map (·.arg)).length := by
          rw [List.length_append, tl] at hl
          simp at hl
          have := t3
          simp at this ⊢
          omega
        refine BindsTo.of_looks fun M => ?_
        show PySem.W.Looks M s.heap (bindArgs _ ⟨us, [(k, u)]⟩) _
        rw [bind_kw a1 ek e2 (by rw [e3]; exact nd) hl2, e3]
        exact PySem.W.Looks.of_pure rfl
      · rw [if_neg g] at hl
        rw [tl] at hl
        simp at hl
        omega
    · have e := r2.length
      by_cases g : zs.length = 1
      · rw [if_pos g, if_pos (by omega)]
        exact r1.append r2
      · rw [if_neg g, if_neg (by omega)]
        exact .nil
  · cases a3
end
end TS
end

section
set_option Elab.async false
set_option linter.all false
set_option maxRecDepth 100000
set_option maxHeartbeats 2000000
set_option autoImplicit false
namespace TS
open PySem PySem.Spec PyProof.Rows L2
section
variable {P : Program} {w : World} {K : PySem.W.Frag} {h : Heap} {mg : Str → Option Value} {base : Heap} {D : LD} {i : Nat} {d : DLk}
theorem xin_ok {bn s p x : Str} {C f : Addr} (T : BaseI K mg bn (He.ga K bn)) (O : OexC K C) (hno : PySem.W.findIn K (.ref C) x = some none) (h : xinB K bn f s p x = true) :
    ∃ fd, FnOk P w K mg base (L2.CX P w) 1 f fd [s, p] (spX C x) ∧ Binds K fd [s, p] [] := by
  unfold xinB at h
  cases q : K.lookup f with
  | none => rw [q] at h; cases h
  | some o =>
    obtain ⟨oc, od, dt, osl⟩ := o
    rw [q] at h
    cases dt with
    | func fd =>
      obtain ⟨n1, n2, n3, n4, n5, n6, n7, n8, n9, n10, n11, n12, n13, n14, n15⟩ := fd
      obtain ⟨a1, a2⟩ := and2 h
      obtain ⟨b1, b2⟩ := and2 a1
      obtain ⟨b3, b4⟩ := and2 b2
      obtain ⟨b5, b6⟩ := and2 b4
      obtain ⟨c1, c2⟩ := and2 a2
      obtain ⟨c3, c4⟩ := and2 c1
      obtain ⟨d1, d2⟩ := and2 c2
      obtain ⟨d2, d3⟩ := and2 d2
      have e3 : n6 = mainGlobals := of_decide_eq_true b3
      have e4 : n7 = [] := List.isEmpty_iff.mp b5
      have e5 : n15 = builtinsNs := of_decide_eq_true b6
      have e6 : n3.args.map (·.arg) = [s, p] := of_decide_eq_true d3
      have S := scB_ok (N := [s, p]) (n := 2) c3
      cases n4 with
      | stmts b =>
        subst e3 e4 e5
        cases n8 with
        | none =>
        refine ⟨_, init_ok T O hno q b1 S c4, fun s' us X hl => ?_⟩
        rw [List.append_nil] at hl ⊢
        refine BindsTo.of_looks fun M => ?_
        have e := bind_plain (fd := PySem.W.fnOf n1 n2 n3 b n5 .none n9 n10 n11 n12 n13 n14) (us := us) d1 rfl (by show (n3.args.map (·.arg)).Nodup; rw [e6]; exact S.nd) (by show us.length = (n3.args.map (·.arg)).length; rw [e6]; exact hl)
        rw [e]
        show PySem.W.Looks M s'.heap (pure ((n3.args.map (·.arg)).zip us)) _
        rw [e6]
        exact PySem.W.Looks.of_pure rfl
        | _ => cases d2
      | _ => cases c4
    | _ => cases h
theorem LD.lx (X : K.In h) (G : h.Ns mainGlobals mg) (c : D.ok K = true) (hk : ∀ p ∈ D.tabs, ∃ es n, L2.KDict K w (He.ga K p.1) es n) : Lx P w K mg base (D.ln K) := by
  unfold LD.ok at c
  obtain ⟨cd, c⟩ := and2 c
  obtain ⟨cc, c⟩ := and2 c
  obtain ⟨cg, cf⟩ := and2 c
  have dB : ∀ {i : Nat} {d : DLk}, D.get i = some d → D.defB K d = true := fun q => get_at (p := fun d => D.defB K d) cd q
  have cB : ∀ {i : Nat} {d : Cl}, D.getC i = some d → D.clB K d = true := fun q => getC_at (p := fun d => D.clB K d) cc q
  have fB : ∀ {i : Nat} {d : DLk}, D.get i = some d → fnB (D.ln K) K d = true := fun q => by
    have := dB q
    unfold LD.defB at this
    exact (and2 this).1
  have aB : ∀ {i : Nat} {d : DLk}, D.get i = some d → (match d.at_.2 with
    | none => (He.Fa.glo d.at_.1).ok K && PySem.W.keepIn K (.ref (He.ga K d.at_.1))
    | some m => (He.Fa.meth d.at_.1 m).ok K && (D.cls.all fun o => match o with | some c => c.name != d.at_.1 || (match c.obj with | some (fs, _) => !fs.contains m | none => true) | none => true)) = true := fun q => by
    have := dB q
    unfold LD.defB at this
    exact (and2 (and2 this).2).1
  exact {
    dfs := fun i dd e => by
      obtain ⟨d, q, rfl⟩ := ln_inv e
      rw [ln_fa q, ln_fd q, ln_ps q]
      exact fnB_ok (fB q)
    gfn := fun i dd e hg => by
      obtain ⟨d, q, rfl⟩ := ln_inv e
      have a := aB q
      rw [ln_isG q] at hg
      rw [ln_fa q, ln_nm q]
      obtain ⟨⟨x, m⟩, N, dd, kd⟩ := d
      cases m with
      | some m => cases hg
      | none =>
        obtain ⟨a1, a2⟩ := and2 a
        exact ⟨He.glo_ok X G a1, a2⟩
    bnd := fun i dd e hf => by
      obtain ⟨d, q, rfl⟩ := ln_inv e
      rw [ln_full q] at hf
      rw [ln_fd q, ln_ps q]
      exact bnd_ok (dB q) hf
    bdf := fun i dd e hf => by
      obtain ⟨d, q, rfl⟩ := ln_inv e
      rw [ln_dfl q] at hf ⊢
      rw [ln_fd q, ln_ps q]
      cases hkd : d.kd with
      | full => rw [hkd] at hf; exact absurd rfl hf
      | kw v =>
        obtain ⟨dvs, dus, z1, z2, z3⟩ := bdf_ok (dB q) (.inl hkd)
        exact ⟨dvs, dus, z1, z2, fun g H => z3 P w _ g H⟩
      | dfl v =>
        obtain ⟨dvs, dus, z1, z2, z3⟩ := bdf_ok (dB q) (.inr hkd)
        exact ⟨dvs, dus, z1, z2, fun g H => z3 P w _ g H⟩
    kbd := fun i dd e hf => by
      obtain ⟨d, q, rfl⟩ := ln_inv e
      rw [ln_kw q] at hf ⊢
      rw [ln_fd q, ln_ps q]
      cases hkd : d.kd with
      | full => rw [hkd] at hf; exact absurd rfl hf
      | dfl v => rw [hkd] at hf; exact absurd rfl hf
      | kw v =>
        obtain ⟨k, z1, z2⟩ := kbd_ok (dB q) hkd
        simp only [z1]
        exact z2
    met := fun C i hm => by
      have hm : (match D.get i, D.getC C with | some d, some c => c.obj.isSome && (decide (d.at_.1 = c.name) && d.at_.2.isSome) | _, _ => false) = true := hm
      cases q : D.get i with
      | none => rw [q] at hm; cases hm
      | some d =>
        cases q2 : D.getC C with
        | none => rw [q, q2] at hm; cases hm
        | some c =>
          rw [q, q2] at hm
          obtain ⟨m0, hm⟩ := and2 hm
          obtain ⟨m1, m2⟩ := and2 hm
          have a := aB q
          rw [ln_fa q, ln_nm q, ln_flds q2]
          show Meth K (He.ga K (D.clName C)) _ _ ∧ _
          rw [ln_cl q2]
          obtain ⟨⟨x, m⟩, N, dd, kd⟩ := d
          have m1 : x = c.name := of_decide_eq_true m1
          subst m1
          cases m with
          | none => cases m2
          | some m =>
            obtain ⟨a1, a2⟩ := and2 a
            refine ⟨He.meth_ok a1, ?_⟩
            have z := getC_at (p := fun c' => c'.name != c.name || (match c'.obj with | some (fs, _) => !fs.contains m | none => true)) a2 q2
            simp only [bne_self_eq_false, Bool.false_or] at z
            show m ∉ _
            cases ho : c.obj with
            | none => simp
            | some p =>
              obtain ⟨fs, j⟩ := p
              rw [ho] at z
              simp only at z ⊢
              intro hm
              rw [List.contains_iff_mem.mpr hm] at z
              cases z
    cls := fun C hC => by
      have hC : (match D.getC C with | some c => c.obj.isSome | none => false) = true := hC
      cases q : D.getC C with
      | none => rw [q] at hC; cases hC
      | some c =>
        rw [q] at hC
        have z := cB q
        unfold LD.clB at z
        obtain ⟨z1, z2⟩ := and2 z
        obtain ⟨z2, z3⟩ := and2 z2
        obtain ⟨nm, ob, ex, ini⟩ := c
        cases ob with
        | none => cases hC
        | some p =>
          obtain ⟨fs, j⟩ := p
          have z2 : objB D K _ fs j = true := z2
          unfold objB at z2
          obtain ⟨o1, o2⟩ := and2 z2
          obtain ⟨o3, o4⟩ := and2 o1
          obtain ⟨o5, o6⟩ := and2 o2
          obtain ⟨o6, o7⟩ := and2 o6
          have hi : (D.ln K).T.init C = j := by
            show (match D.getC C with
              | some ⟨_, some (_, i), _, _⟩ => i
              | _ => 0) = j
            rw [q]
          rw [hi]
          cases qd : D.get j with
          | none => rw [qd] at o7; cases o7
          | some d =>
            rw [qd] at o7
            obtain ⟨p1, p2⟩ := and2 o7
            obtain ⟨p2, p3⟩ := and2 p2
            have ea := of_decide_eq_true p1
            have eca : (D.ln K).ca C = He.ga K nm := by
              show He.ga K (D.clName C) = _
              rw [ln_cl q]
            have ecn : (D.ln K).nm.cl C = nm := ln_cl q
            rw [eca, ecn, ln_fa qd, ea, ln_full qd, ln_flds q]
            refine ⟨He.cls_ok o3, He.glo_ok X G z1, He.mkr_ok o4, p2, fun x hx => He.noat_ok (List.all_eq_true.mp o5 x hx), d.dd, ln_fn qd, p3⟩
    exc := fun C hC => by
      have hC : (match D.getC C with | some c => c.exc.isSome | none => false) = true := hC
      cases q : D.getC C with
      | none => rw [q] at hC; cases hC
      | some c =>
        rw [q] at hC
        have z := cB q
        unfold LD.clB at z
        obtain ⟨z1, z2⟩ := and2 z
        obtain ⟨z2, z3⟩ := and2 z2
        obtain ⟨nm, ob, ex, ini⟩ := c
        cases ex with
        | none => cases hC
        | some fx =>
          have z3 : excB D K _ fx = true := z3
          unfold excB at z3
          obtain ⟨o1, o2⟩ := and2 z3
          obtain ⟨o3, o4⟩ := and2 o1
          obtain ⟨o5, o6⟩ := and2 o4
          obtain ⟨o6, o7⟩ := and2 o6
          have eca : (D.ln K).ca C = He.ga K nm := by
            show He.ga K (D.clName C) = _
            rw [ln_cl q]
          have ecn : (D.ln K).nm.cl C = nm := ln_cl q
          have eex : (D.ln K).T.exf C = fx := by
            show (match D.getC C with
              | some ⟨_, _, some x, _⟩ => x
              | _ => none) = fx
            rw [q]
          rw [eca, ecn, eex]
          refine ⟨He.glo_ok X G o3, o5, of_decide_eq_true o6, of_decide_eq_true o7, fun e => ?_, fun x e => ?_⟩
          · subst e; exact o2
          · subst e
            obtain ⟨p1, p2⟩ := and2 o2
            obtain ⟨p3, p4⟩ := and2 p1
            obtain ⟨p5, p6⟩ := and2 p2
            obtain ⟨p7, p8⟩ := and2 p5
            obtain ⟨p9, p10⟩ := and2 p6
            have O := excOB_ok p4
            obtain ⟨fd, F, B⟩ := xin_ok (P := P) (w := w) (base := base) (baseB_ok X G p3) O (He.eqO_ok p9) p10
            exact ⟨O, _, fd, _, He.eqO_ok p7, of_decide_eq_true p8, F, B⟩
    nd := fun C => by
      cases q : D.getC C with
      | none => rw [ln_flds0 q]; exact .nil
      | some c =>
        rw [ln_flds q]
        have z := cB q
        unfold LD.clB at z
        obtain ⟨z1, z2⟩ := and2 z
        obtain ⟨z2, z3⟩ := and2 z2
        obtain ⟨nm, ob, ex, ini⟩ := c
        cases ob with
        | none => exact .nil
        | some p =>
          obtain ⟨fs, j⟩ := p
          have z2 : objB D K _ fs j = true := z2
          unfold objB at z2
          obtain ⟨o1, o2⟩ := and2 z2
          obtain ⟨o5, o6⟩ := and2 o2
          obtain ⟨o6, o7⟩ := and2 o6
          obtain ⟨o6, o8⟩ := and2 o6
          exact nodS_ok o6
    few := fun C => by
      cases q : D.getC C with
      | none => rw [ln_flds0 q]; exact Nat.zero_le _
      | some c =>
        rw [ln_flds q]
        have z := cB q
        unfold LD.clB at z
        obtain ⟨z1, z2⟩ := and2 z
        obtain ⟨z2, z3⟩ := and2 z2
        obtain ⟨nm, ob, ex, ini⟩ := c
        cases ob with
        | none => exact Nat.zero_le _
        | some p =>
          obtain ⟨fs, j⟩ := p
          have z2 : objB D K _ fs j = true := z2
          unfold objB at z2
          obtain ⟨o1, o2⟩ := and2 z2
          obtain ⟨o5, o6⟩ := and2 o2
          obtain ⟨o6, o7⟩ := and2 o6
          obtain ⟨o6, o8⟩ := and2 o6
          exact of_decide_eq_true o8
    glo := fun i d e => by
      have e : (D.getG i).map (·.2) = some d := e
      cases q : D.getG i with
      | none => rw [q] at e; cases e
      | some p =>
        rw [q] at e
        obtain ⟨x, d'⟩ := p
        have e : d' = d := Option.some.inj e
        subst e
        obtain ⟨z, zm⟩ := getG_at (p := fun p => gloB K p) cg q
        have en : (D.ln K).nm.gl i = x := by
          show (match D.getG i with | some p => p.1 | none => "") = x
          rw [q]
        rw [en]
        unfold gloB at z
        split at z
        · rename_i ks ds ed
          simp only at ed
          subst ed
          obtain ⟨z1, z2⟩ := and2 z
          have z1 := He.glo_ok X G z1
          have hm : ((x, keyS ks) : Str × List Str) ∈ D.tabs := List.mem_filterMap.mpr ⟨_, zm, rfl⟩
          obtain ⟨k1, k2, k3⟩ := kd_ok (P := P) z2 (hk _ hm)
          refine ⟨.ref (He.ga K x), _, z1, rfl, fun g H => ?_⟩
          unfold Rp
          exact ⟨_, _, rfl, k2, k1, k3 _ g H⟩
        · split at z
          · rename_i u eu
            obtain ⟨v, r, p⟩ := gvB_ok z
            exact ⟨v, u, PySem.W.mg_of X G eu, r, fun g H => p P w _ g H⟩
          · cases z
    free := fun x hx => He.free_ok X G (List.all_eq_true.mp cf x hx) }
end
end TS
end

section
set_option Elab.async false
set_option linter.all false
set_option maxRecDepth 100000
set_option maxHeartbeats 2000000
set_option autoImplicit false
namespace TS
open PySem PySem.Spec PyProof.Rows L2
abbrev AlL : Type := Bool × List (Option (List (Option (Str × Int))))
def LD.obs (D : LD) (K : PySem.W.Frag) : AlL := (D.ok K, D.tabs.map fun t => He.dicW K (He.ga K t.1))
def LD.val (D : LD) (w : World) : AlL := (true, D.tabs.map fun t => some (He.keysIn w.params t.2))
def LD.obsG (D : LD) (n : Nat) (g : Addr → Option Obj) : AlL := D.obs (He.frG g (cStatics :: He.asD g n))
def LD.hook (D : LD) (n : Nat) : PySem.W.Hook where
  α := AlL
  obs := fun s => D.obsG n s.heap.get?
  val := fun w => D.val w
  says := fun w h => ∃ K : PySem.W.Frag, K.In h ∧ D.obs K = D.val w
  of := fun _ _ e => ⟨_, He.frG_in, e⟩
  keeps := fun _ _ _ ⟨K, hK, c⟩ k => ⟨K, PySem.W.Frag.In.keeps hK k, c⟩
def LD.ob (D : LD) (n : Nat) (s : PySem.W.SharedT) : AlL := D.obsG n (HandSHeadRun.getT s)
theorem LD.ob_eq (D : LD) (n : Nat) (s : PySem.W.SharedT) : D.ob n s = (D.hook n).obs s.abs := by
  have e : HandSHeadRun.getT s = s.abs.heap.get? := funext (HandSHeadRun.getT_eq s)
  show D.obsG n (HandSHeadRun.getT s) = D.obsG n s.abs.heap.get?
  rw [e]
theorem LD.obs_ok {D : LD} {K : PySem.W.Frag} {w : World} (c : D.obs K = D.val w) : D.ok K = true ∧ ∀ p ∈ D.tabs, ∃ es n, L2.KDict K w (He.ga K p.1) es n := by
  have e1 : D.ok K = true := congrArg (fun z : AlL => z.1) c
  have e2 : D.tabs.map (fun t => He.dicW K (He.ga K t.1)) = D.tabs.map fun t => some (He.keysIn w.params t.2) := congrArg (fun z : AlL => z.2) c
  refine ⟨e1, fun p hp => ?_⟩
  obtain ⟨i, hi, rfl⟩ := List.mem_iff_getElem.mp hp
  have e3 : (D.tabs.map fun t => He.dicW K (He.ga K t.1))[i]? = (D.tabs.map fun t => some (He.keysIn w.params t.2))[i]? := by rw [e2]
  rw [List.getElem?_map, List.getElem?_map, List.getElem?_eq_getElem hi] at e3
  exact He.dicW_ok (Option.some.inj e3)
def g0 (H : Hp) : Gh := ⟨fun _ => none, fun a => match H a with | some _ => some .frz | none => none⟩
theorem LD.law_at {D : LD} {l : PySem.W.OpenLaw} {w : World} {K : PySem.W.Frag} {mg : Str → Option Value} {fa : Addr} {h : Heap} {n fuel li : Nat} {x nm : Str} {dl : DLk} (X : K.In h) (G : h.Ns mainGlobals mg) (c : D.obs K = D.val w)
    (hm : mg nm = some (.ref fa)) (q : D.get li = some dl) (hat : dl.at_ = (nm, none)) (hkd : (match dl.kd with | .full => true | _ => false) = true) (hnp : dl.dd.np = 1) (hN : dl.N.take 1 = [x])
    (law : ∀ ns : List Int, ns.length ≤ n → (∀ z ∈ ns, Builtin.Int.intBits z ≤ 1048576) → ∃ st, callD D.tab fuel li [.scr ns] [] = .ok (.bl true) st) : LamX.LawAtS l w K (L2.CX l.prog w) (fuel + 2) n x mg fa h := by
  obtain ⟨c1, c2⟩ := LD.obs_ok c
  have Lx0 : ∀ base, Lx l.prog w K mg base (D.ln K) := fun base => D.lx X G c1 c2
  have hdef := ln_fn (K := K) q
  have c1' := c1
  unfold LD.ok at c1'
  have dB : D.defB K dl = true := get_at (p := fun d => D.defB K d) (and2 c1').1 q
  unfold LD.defB at dB
  obtain ⟨dB1, dB2⟩ := and2 dB
  obtain ⟨dB2, dB3⟩ := and2 dB2
  have efa : fa = He.fAd K dl.at_ := by
    have := ((Lx0 h).gfn li dl.dd hdef (by rw [ln_isG q, hat]; rfl)).1
    rw [ln_nm q, ln_fa q, hat] at this
    have this : mg nm = some (.ref (He.fAd K (nm, none))) := this
    rw [hm] at this
    cases this
    rw [hat]
  subst efa
  refine ⟨fdAt K (He.fAd K dl.at_), [], spD (FL l.prog w K (D.ln K)) 1 (callD D.tab fuel li), (fun _ h => nomatch h), (fun _ h => nomatch h), (fun _ h => nomatch h), fun s u => ?_, fun H a ns hl hb _ hS => ?_, fun base KX KG _ => ?_⟩
  · unfold bndB at dB3
    split at dB3
    · obtain ⟨a1, a2⟩ := and2 dB3
      obtain ⟨a2, a3⟩ := and2 a2
      have e3 := of_decide_eq_true a3
      have e2 : (fdAt K (He.fAd K dl.at_)).defaults = .none := by
        split at a2
        · assumption
        · cases a2
      rw [hnp, hN] at e3
      refine BindsTo.of_eq ?_
      rw [bind_plain a1 e2 (by rw [e3]; simp) (by rw [e3]; rfl), e3]
      rfl
    · rename_i hq; rw [hq] at hkd; cases hkd
    · rename_i hq; rw [hq] at hkd; cases hkd
  · refine ⟨rfl, g0 H, [.scr ns], [], ⟨fun _ _ e => (by cases e), fun _ _ e => (by simp at e), fun a' r e => ?_⟩, .cons ?_ .nil, ?_⟩
    · unfold g0 at e
      simp only at e
      split at e
      · rename_i o eo; exact ⟨o, eo⟩
      · cases e
    · unfold Rp
      refine ⟨a, rfl, ?_⟩
      rcases hS with hS | hS
      · refine .inl ⟨?_, hS⟩
        unfold g0
        rcases hS with hS | ⟨o, hS⟩ <;> (simp only [hS])
      · exact .inr hS
    · obtain ⟨st, e⟩ := law ns hl hb
      rw [e]
      intro g' H' b _ _ r
      unfold Rp at r
      exact r
  · have F := ((lk_all (D.lx KX KG c1 c2 : Lx l.prog w K mg base (D.ln K)) fuel).ok li dl.dd hdef).2
    rw [ln_fa q, ln_fd q, ln_ps q, hnp, hN] at F
    exact F
theorem LD.walk {D : LD} {l : PySem.W.OpenLaw} {n fuel li m : Nat} {q : Program} {loose : List Str} {XP : (Str → Option Value) → Heap → Prop} {d : DefRec} {x nm : Str} {dl : DLk} (hd : d.name = nm)
    (hn : l.most = some n) (hn2 : n ≤ sizeLine) (hdf : d.params.defaults = []) (hr : Room (fuel + 2) callerA) (qd : D.get li = some dl) (hat : dl.at_ = (nm, none)) (hkd : (match dl.kd with | .full => true | _ => false) = true) (hnp : dl.dd.np = 1) (hN : dl.N.take 1 = [x])
    (law : ∀ ns : List Int, ns.length ≤ n → (∀ z ∈ ns, Builtin.Int.intBits z ≤ 1048576) → ∃ st, callD D.tab fuel li [.scr ns] [] = .ok (.bl true) st) :
    PySem.W.WalkO q loose XP (D.hook m).says l.row.toRowW d [] (fun f vs => PySem.call f vs) :=
  LamX.walk_ofTsE (CX := fun w => L2.CX l.prog w) (x := x) hn hn2 hdf hr (fun w mg fa h ⟨K, KX, c⟩ G hm => ⟨K, KX, LD.law_at KX G c (by rw [← hd]; exact hm) qd hat hkd hnp hN law⟩)
    fun w H s e s' z => by
      obtain ⟨_, _, _, _, _, _, _, _, _, _, _, _, z⟩ := z
      exact z
end TS
end

section
set_option Elab.async false
set_option linter.all false
set_option maxRecDepth 100000
set_option autoImplicit false
namespace TS
open PySem
def f_is_number : DDef := { np := 3, ns := 3, drops := false, leaf := true, body := .cons (.ret (.band (.cons (.isi (.v 0) "int") (.cons (.bnot (.isi (.v 0) "bool")) (.cons (.chn .le .le (.v 1) (.v 0) (.v 2)) .nil))))) .nil }
def f_is_name : DDef := { np := 1, ns := 2, drops := false, leaf := true, body := .cons (.ret (.band (.cons (.isi (.v 0) "str") (.cons (.chn .le .le (.c (.int 1)) (.bf .len (.cons (.v 0) .nil)) (.c (.int 6))) (.cons (.bf .all (.cons (.lc (.cmp .in_ (.v 1) (.g 0)) (.n 1) (.e (.v 0)) (.nil) [1]) .nil)) .nil))))) .nil }
def f_is_tagged : DDef := { np := 1, ns := 1, drops := false, leaf := true, body := .cons (.ret (.band (.cons (.isi (.v 0) "tuple") (.cons (.cmp .ne (.v 0) (.tup (.nil))) (.cons (.isi (.ix (.v 0) (.c (.int 0))) "str") .nil))))) .nil }
def f_is_worth : DDef := { np := 1, ns := 1, drops := false, leaf := false, body := .cons (.ifs (.bor (.cons (.bnot (.call 2 (.cons (.v 0) .nil) [])) (.cons (.cmp .ne (.bf .len (.cons (.v 0) .nil)) (.bm .get2 (.g 11) (.cons (.ix (.v 0) (.c (.int 0))) (.cons (.c (.int 0)) .nil)))) .nil))) (.cons (.ret (.c (.bl false))) .nil) (.nil)) (.cons (.ifs (.cmp .eq (.ix (.v 0) (.c (.int 0))) (.c (.str "num"))) (.cons (.ret (.call 0 (.cons (.ix (.v 0) (.c (.int 1))) (.cons (.bin .sub (.c (.int 0)) (.g 9)) (.cons (.g 9) .nil))) [])) .nil) (.nil)) (.cons (.ifs (.cmp .eq (.ix (.v 0) (.c (.int 0))) (.c (.str "in"))) (.cons (.ret (.call 0 (.cons (.ix (.v 0) (.c (.int 1))) (.cons (.c (.int 0)) (.cons (.bin .sub (.g 10) (.c (.int 1))) .nil))) [])) .nil) (.nil)) (.cons (.ret (.bor (.cons (.cmp .ne (.ix (.v 0) (.c (.int 0))) (.c (.str "get"))) (.cons (.call 1 (.cons (.ix (.v 0) (.c (.int 1))) .nil) []) .nil)))) .nil))) }
def f_is_row : DDef := { np := 1, ns := 2, drops := false, leaf := false, body := .cons (.ifs (.bor (.cons (.bnot (.call 2 (.cons (.v 0) .nil) [])) (.cons (.cmp .ne (.bf .len (.cons (.v 0) .nil)) (.bm .get2 (.g 12) (.cons (.ix (.v 0) (.c (.int 0))) (.cons (.c (.int 0)) .nil)))) .nil))) (.cons (.ret (.c (.bl false))) .nil) (.nil)) (.cons (.ret (.band (.cons (.bf .all (.cons (.lc (.isi (.ix (.v 0) (.v 1)) "tuple") (.n 1) (.e (.call 7 (.cons (.v 0) .nil) [])) (.nil) [1]) .nil)) (.cons (.bor (.cons (.cmp .ne (.ix (.v 0) (.c (.int 0))) (.c (.str "set"))) (.cons (.call 1 (.cons (.ix (.v 0) (.c (.int 1))) .nil) []) .nil))) .nil)))) .nil) }
def f_worths_at : DDef := { np := 1, ns := 1, drops := false, leaf := true, body := .cons (.ifs (.cmp .in_ (.ix (.v 0) (.c (.int 0))) (.tup (.cons (.c (.str "num")) (.cons (.c (.str "in")) (.cons (.c (.str "get")) .nil))))) (.cons (.ret (.lst (.nil))) .nil) (.nil)) (.cons (.ret (.ite (.cmp .eq (.ix (.v 0) (.c (.int 0))) (.c (.str "not"))) (.lst (.cons (.c (.int 1)) .nil)) (.lst (.cons (.c (.int 1)) (.cons (.c (.int 2)) .nil))))) .nil) }
def f_worth_at : DDef := { np := 1, ns := 1, drops := false, leaf := true, body := .cons (.ret (.ite (.cmp .eq (.ix (.v 0) (.c (.int 0))) (.c (.str "set"))) (.c (.int 2)) (.c (.int 1)))) .nil }
def f_blocks_at : DDef := { np := 1, ns := 1, drops := false, leaf := true, body := .cons (.ifs (.cmp .eq (.ix (.v 0) (.c (.int 0))) (.c (.str "while"))) (.cons (.ret (.lst (.cons (.c (.int 2)) .nil))) .nil) (.nil)) (.cons (.ret (.ite (.cmp .eq (.ix (.v 0) (.c (.int 0))) (.c (.str "if"))) (.lst (.cons (.c (.int 2)) (.cons (.c (.int 3)) .nil))) (.lst (.nil)))) .nil) }
def f_need_program : DDef := { np := 1, ns := 1, drops := true, leaf := false, body := .cons (.ifs (.bnot (.isi (.v 0) "tuple")) (.cons (.rais 9 (.cons (.neg (.c (.int 1))) .nil)) .nil) (.nil)) (.cons (.expr (.mth 12 52 (.mk 12 (.nil)) (.cons (.v 0) (.cons (.c (.int 1)) .nil)))) .nil) }
def f_are_inputs : DDef := { np := 1, ns := 2, drops := false, leaf := false, body := .cons (.ifs (.bor (.cons (.bnot (.isi (.v 0) "tuple")) (.cons (.cmp .gt (.bf .len (.cons (.v 0) .nil)) (.g 10)) .nil))) (.cons (.ret (.c (.bl false))) .nil) (.nil)) (.cons (.ret (.bf .all (.cons (.lc (.call 0 (.cons (.v 1) (.cons (.bin .sub (.c (.int 0)) (.g 9)) (.cons (.g 9) .nil))) []) (.n 1) (.e (.v 0)) (.nil) [1]) .nil))) .nil) }
def f_is_limit : DDef := { np := 1, ns := 1, drops := false, leaf := false, body := .cons (.ret (.call 0 (.cons (.v 0) (.cons (.c (.int 1)) (.cons (.g 14) .nil))) [])) .nil }
def f_ran : DDef := { np := 3, ns := 4, drops := true, leaf := false, body := .cons (.asg (.n 3) (.mk 14 (.cons (.v 1) (.cons (.v 2) .nil)))) (.cons (.expr (.mth 14 63 (.v 3) (.cons (.mth 13 57 (.mk 13 (.nil)) (.cons (.v 0) .nil)) .nil))) (.cons (.ret (.tup (.cons (.ite (.cmp .isN (.fld 14 5 (.v 3)) (.c (.non))) (.tup (.cons (.c (.str "over")) .nil)) (.fld 14 5 (.v 3))) (.cons (.fz (.fld 14 3 (.v 3))) (.cons (.fld 14 4 (.v 3)) .nil))))) .nil)) }
def f_is_told : DDef := { np := 1, ns := 1, drops := false, leaf := false, body := .cons (.ret (.call 0 (.cons (.v 0) (.cons (.bin .sub (.c (.int 0)) (.g 15)) (.cons (.g 15) .nil))) [])) .nil }
def f_is_due : DDef := { np := 1, ns := 2, drops := false, leaf := false, body := .cons (.ifs (.bor (.cons (.bnot (.isi (.v 0) "tuple")) (.cons (.cmp .ne (.bf .len (.cons (.v 0) .nil)) (.c (.int 2))) (.cons (.bnot (.isi (.ix (.v 0) (.c (.int 0))) "tuple")) (.cons (.cmp .gt (.bf .len (.cons (.ix (.v 0) (.c (.int 0))) .nil)) (.g 18)) .nil))))) (.cons (.ret (.c (.bl false))) .nil) (.nil)) (.cons (.ret (.band (.cons (.bf .all (.cons (.lc (.call 37 (.cons (.v 1) .nil) []) (.n 1) (.e (.ix (.v 0) (.c (.int 0)))) (.nil) [1]) .nil)) (.cons (.bor (.cons (.cmp .isN (.ix (.v 0) (.c (.int 1))) (.c (.non))) (.cons (.call 37 (.cons (.ix (.v 0) (.c (.int 1))) .nil) []) .nil))) .nil)))) .nil) }
def f_is_trial : DDef := { np := 1, ns := 1, drops := false, leaf := false, body := .cons (.ifs (.bor (.cons (.bnot (.isi (.v 0) "tuple")) (.cons (.cmp .ne (.bf .len (.cons (.v 0) .nil)) (.c (.int 4))) (.cons (.bnot (.call 14 (.cons (.ix (.v 0) (.c (.int 0))) .nil) [])) (.cons (.bnot (.call 38 (.cons (.ix (.v 0) (.c (.int 1))) .nil) [])) .nil))))) (.cons (.ret (.c (.bl false))) .nil) (.nil)) (.cons (.ret (.band (.cons (.call 0 (.cons (.ix (.v 0) (.c (.int 2))) (.cons (.c (.int 1)) (.cons (.g 19) .nil))) []) (.cons (.isi (.ix (.v 0) (.c (.int 3))) "bool") .nil)))) .nil) }
def f_need_task : DDef := { np := 1, ns := 2, drops := false, leaf := false, body := .cons (.ifs (.bor (.cons (.bnot (.isi (.v 0) "tuple")) (.cons (.cmp .ne (.bf .len (.cons (.v 0) .nil)) (.c (.int 5))) (.cons (.bnot (.isi (.ix (.v 0) (.c (.int 0))) "tuple")) .nil)))) (.cons (.rais 4 .nil) .nil) (.nil)) (.cons (.ifs (.bor (.cons (.bnot (.chn .le .le (.c (.int 1)) (.bf .len (.cons (.ix (.v 0) (.c (.int 0))) .nil)) (.g 17))) (.cons (.bnot (.bf .all (.cons (.lc (.call 39 (.cons (.v 1) .nil) []) (.n 1) (.e (.ix (.v 0) (.c (.int 0)))) (.nil) [1]) .nil))) .nil))) (.cons (.rais 4 .nil) .nil) (.nil)) (.cons (.ifs (.bor (.cons (.bnot (.call 15 (.cons (.ix (.v 0) (.c (.int 1))) .nil) [])) (.cons (.bnot (.call 0 (.cons (.ix (.v 0) (.c (.int 2))) (.cons (.c (.int 0)) (.cons (.g 19) .nil))) [])) (.cons (.bnot (.call 0 (.cons (.ix (.v 0) (.c (.int 3))) (.cons (.c (.int 1)) (.cons (.g 20) .nil))) [])) .nil)))) (.cons (.rais 4 .nil) .nil) (.nil)) (.cons (.ifs (.bor (.cons (.bnot (.isi (.ix (.v 0) (.c (.int 4))) "str")) (.cons (.cmp .notIn (.ix (.v 0) (.c (.int 4))) (.g 21)) .nil))) (.cons (.rais 4 .nil) .nil) (.nil)) .nil))) }
def f_word_of : DDef := { np := 3, ns := 11, drops := false, leaf := false, body := .cons (.asg (.t [3, 4, 5, 6]) (.v 1)) (.cons (.asg (.t [7, 8, 9]) (.call 16 (.cons (.v 0) (.cons (.v 3) (.cons (.v 2) .nil))) [])) (.cons (.ifs (.cmp .in_ (.ix (.v 7) (.c (.int 0))) (.tup (.cons (.c (.str "fell")) (.cons (.c (.str "tired")) .nil)))) (.cons (.ret (.ix (.v 7) (.c (.int 0)))) .nil) (.nil)) (.cons (.asg (.n 10) (.ite (.cmp .eq (.ix (.v 7) (.c (.int 0))) (.c (.str "gave"))) (.ix (.v 7) (.c (.int 1))) (.c (.non)))) (.cons (.ret (.ite (.cmp .eq (.tup (.cons (.bf .tuple (.cons (.v 8) .nil)) (.cons (.v 10) .nil))) (.v 4)) (.c (.str "good")) (.c (.str "wrong")))) .nil)))) }
def f_words_of : DDef := { np := 2, ns := 3, drops := false, leaf := false, body := .cons (.ret (.bf .tuple (.cons (.lc (.call 41 (.cons (.v 0) (.cons (.v 2) (.cons (.ix (.v 1) (.c (.int 1))) .nil))) []) (.n 2) (.e (.ix (.v 1) (.c (.int 0)))) (.nil) [2]) .nil))) .nil }
def f_Looker___init__ : DDef := { np := 1, ns := 1, drops := false, leaf := true, body := .cons (.setF 12 0 (.v 0) (.c (.int 0))) (.cons (.setF 12 1 (.v 0) (.c (.int 0))) (.cons (.setF 12 2 (.v 0) (.c (.int 0))) .nil)) }
def f_Looker_look : DDef := { np := 3, ns := 6, drops := false, leaf := false, body := .cons (.for_ (.n 3) (.e (.v 1)) (.cons (.asg (.n 4) (.fld 12 0 (.v 0))) (.cons (.augF 12 0 (.v 0) .add (.c (.int 1))) (.cons (.augF 12 1 (.v 0) .add (.c (.int 1))) (.cons (.ifs (.bor (.cons (.cmp .gt (.fld 12 1 (.v 0)) (.g 5)) (.cons (.cmp .gt (.v 2) (.g 7)) (.cons (.bnot (.call 4 (.cons (.v 3) .nil) [])) .nil)))) (.cons (.rais 9 (.cons (.v 4) .nil)) .nil) (.nil)) (.cons (.expr (.mth 12 53 (.v 0) (.cons (.ix (.v 3) (.call 6 (.cons (.v 3) .nil) [])) (.cons (.c (.int 1)) .nil)))) (.cons (.for_ (.n 5) (.e (.call 7 (.cons (.v 3) .nil) [])) (.cons (.expr (.mth 12 52 (.v 0) (.cons (.ix (.v 3) (.v 5)) (.cons (.bin .add (.v 2) (.c (.int 1))) .nil)))) .nil)) .nil))))))) .nil }
def f_Looker_look_worth : DDef := { np := 3, ns := 5, drops := false, leaf := false, body := .cons (.asg (.n 3) (.fld 12 0 (.v 0))) (.cons (.augF 12 0 (.v 0) .add (.c (.int 1))) (.cons (.augF 12 2 (.v 0) .add (.c (.int 1))) (.cons (.ifs (.bor (.cons (.cmp .gt (.fld 12 2 (.v 0)) (.g 6)) (.cons (.cmp .gt (.v 2) (.g 8)) (.cons (.bnot (.call 3 (.cons (.v 1) .nil) [])) .nil)))) (.cons (.rais 9 (.cons (.v 3) .nil)) .nil) (.nil)) (.cons (.for_ (.n 4) (.e (.call 5 (.cons (.v 1) .nil) [])) (.cons (.expr (.mth 12 53 (.v 0) (.cons (.ix (.v 1) (.v 4)) (.cons (.bin .add (.v 2) (.c (.int 1))) .nil)))) .nil)) .nil)))) }
def f_Marker___init__ : DDef := { np := 1, ns := 1, drops := false, leaf := true, body := .cons (.setF 13 0 (.v 0) (.c (.int 0))) .nil }
def f_Marker_taken : DDef := { np := 1, ns := 1, drops := false, leaf := true, body := .cons (.augF 13 0 (.v 0) .add (.c (.int 1))) (.cons (.ret (.bin .sub (.fld 13 0 (.v 0)) (.c (.int 1)))) .nil) }
def f_Marker_worth : DDef := { np := 2, ns := 4, drops := false, leaf := false, body := .cons (.asg (.n 2) (.mth 13 55 (.v 0) (.nil))) (.cons (.ret (.tup (.cons (.v 2) (.cons (.v 1) (.cons (.lc (.mth 13 56 (.v 0) (.cons (.ix (.v 1) (.v 3)) .nil)) (.n 3) (.e (.call 5 (.cons (.v 1) .nil) [])) (.nil) [3]) .nil))))) .nil) }
def f_Marker_marked : DDef := { np := 2, ns := 7, drops := false, leaf := false, body := .cons (.asg (.n 2) (.sh (.lst (.nil)))) (.cons (.for_ (.n 3) (.e (.v 1)) (.cons (.asg (.n 4) (.mth 13 55 (.v 0) (.nil))) (.cons (.asg (.n 5) (.mth 13 56 (.v 0) (.cons (.ix (.v 3) (.call 6 (.cons (.v 3) .nil) [])) .nil))) (.cons (.expr (.bm .append (.v 2) (.cons (.tup (.cons (.v 4) (.cons (.v 3) (.cons (.v 5) (.cons (.lc (.mth 13 57 (.v 0) (.cons (.ix (.v 3) (.v 6)) .nil)) (.n 6) (.e (.call 7 (.cons (.v 3) .nil) [])) (.nil) [6]) .nil))))) .nil))) .nil)))) (.cons (.ret (.fz (.v 2))) .nil)) }
def f_Run___init__ : DDef := { np := 3, ns := 3, drops := false, leaf := true, body := .cons (.setF 14 0 (.v 0) (.v 1)) (.cons (.setF 14 1 (.v 0) (.v 2)) (.cons (.setF 14 2 (.v 0) (.sh (.dct [] (.nil)))) (.cons (.setF 14 3 (.v 0) (.sh (.lst (.nil)))) (.cons (.setF 14 4 (.v 0) (.c (.int 0))) (.cons (.setF 14 5 (.v 0) (.c (.non))) .nil))))) }
def f_Run_begins : DDef := { np := 2, ns := 2, drops := false, leaf := true, body := .cons (.ifs (.cmp .eq (.fld 14 4 (.v 0)) (.fld 14 1 (.v 0))) (.cons (.setF 14 5 (.v 0) (.tup (.cons (.c (.str "tired")) (.cons (.v 1) .nil)))) (.cons (.ret (.c (.bl false))) .nil)) (.nil)) (.cons (.augF 14 4 (.v 0) .add (.c (.int 1))) (.cons (.ret (.c (.bl true))) .nil)) }
def f_Run_falls : DDef := { np := 3, ns := 3, drops := false, leaf := true, body := .cons (.setF 14 5 (.v 0) (.tup (.cons (.c (.str "fell")) (.cons (.v 1) (.cons (.v 2) .nil))))) (.cons (.ret (.c (.int 0))) .nil) }
def f_Run_worth : DDef := { np := 2, ns := 8, drops := false, leaf := false, body := .cons (.asg (.t [2, 3, 4]) (.v 1)) (.cons (.ifs (.bnot (.mth 14 59 (.v 0) (.cons (.v 2) .nil))) (.cons (.ret (.c (.int 0))) .nil) (.nil)) (.cons (.asg (.n 5) (.ix (.v 3) (.c (.int 0)))) (.cons (.ifs (.cmp .eq (.v 5) (.c (.str "num"))) (.cons (.ret (.ix (.v 3) (.c (.int 1)))) .nil) (.nil)) (.cons (.ifs (.cmp .eq (.v 5) (.c (.str "in"))) (.cons (.ret (.ite (.cmp .lt (.ix (.v 3) (.c (.int 1))) (.bf .len (.cons (.fld 14 0 (.v 0)) .nil))) (.ix (.fld 14 0 (.v 0)) (.ix (.v 3) (.c (.int 1)))) (.mth 14 60 (.v 0) (.cons (.c (.str "unread")) (.cons (.v 2) .nil))))) .nil) (.nil)) (.cons (.ifs (.cmp .eq (.v 5) (.c (.str "get"))) (.cons (.ret (.ite (.cmp .in_ (.ix (.v 3) (.c (.int 1))) (.fld 14 2 (.v 0))) (.ix (.fld 14 2 (.v 0)) (.ix (.v 3) (.c (.int 1)))) (.mth 14 60 (.v 0) (.cons (.c (.str "unset")) (.cons (.v 2) .nil))))) .nil) (.nil)) (.cons (.asg (.n 6) (.mth 14 61 (.v 0) (.cons (.ix (.v 4) (.c (.int 0))) .nil))) (.cons (.ifs (.cmp .notN (.fld 14 5 (.v 0)) (.c (.non))) (.cons (.ret (.c (.int 0))) .nil) (.nil)) (.cons (.ifs (.cmp .eq (.v 5) (.c (.str "not"))) (.cons (.ret (.bf .int (.cons (.cmp .eq (.v 6) (.c (.int 0))) .nil))) .nil) (.nil)) (.cons (.ifs (.band (.cons (.cmp .in_ (.v 5) (.tup (.cons (.c (.str "and")) (.cons (.c (.str "or")) .nil)))) (.cons (.cmp .eq (.cmp .ne (.v 6) (.c (.int 0))) (.cmp .eq (.v 5) (.c (.str "or")))) .nil))) (.cons (.ret (.bf .int (.cons (.cmp .ne (.v 6) (.c (.int 0))) .nil))) .nil) (.nil)) (.cons (.asg (.n 7) (.mth 14 61 (.v 0) (.cons (.ix (.v 4) (.c (.int 1))) .nil))) (.cons (.ifs (.cmp .notN (.fld 14 5 (.v 0)) (.c (.non))) (.cons (.ret (.c (.int 0))) .nil) (.nil)) (.cons (.ret (.mth 14 62 (.v 0) (.cons (.v 5) (.cons (.v 6) (.cons (.v 7) (.cons (.v 2) .nil)))))) .nil)))))))))))) }
def f_Run_reckoned : DDef := { np := 5, ns := 6, drops := false, leaf := false, body := .cons (.ifs (.cmp .in_ (.v 1) (.tup (.cons (.c (.str "and")) (.cons (.c (.str "or")) .nil)))) (.cons (.ret (.bf .int (.cons (.cmp .ne (.v 3) (.c (.int 0))) .nil))) .nil) (.nil)) (.cons (.ifs (.cmp .in_ (.v 1) (.tup (.cons (.c (.str "less")) (.cons (.c (.str "same")) .nil)))) (.cons (.ret (.ite (.cmp .eq (.v 1) (.c (.str "less"))) (.bf .int (.cons (.cmp .lt (.v 2) (.v 3)) .nil)) (.bf .int (.cons (.cmp .eq (.v 2) (.v 3)) .nil)))) .nil) (.nil)) (.cons (.ifs (.cmp .eq (.v 1) (.c (.str "over"))) (.cons (.ret (.ite (.cmp .ne (.v 3) (.c (.int 0))) (.bin .fdiv (.v 2) (.v 3)) (.mth 14 60 (.v 0) (.cons (.c (.str "nought")) (.cons (.v 4) .nil))))) .nil) (.nil)) (.cons (.asg (.n 5) (.ix (.dct [.inr "plus", .inr "minus", .inr "times"] (.cons (.bin .add (.v 2) (.v 3)) (.cons (.bin .sub (.v 2) (.v 3)) (.cons (.bin .mul (.v 2) (.v 3)) .nil)))) (.v 1))) (.cons (.ret (.ite (.cmp .le (.bf .abs (.cons (.v 5) .nil)) (.g 15)) (.v 5) (.mth 14 60 (.v 0) (.cons (.c (.str "great")) (.cons (.v 4) .nil))))) .nil)))) }
def f_Run_go : DDef := { np := 2, ns := 3, drops := false, leaf := false, body := .cons (.for_ (.n 2) (.e (.v 1)) (.cons (.ifs (.cmp .isN (.fld 14 5 (.v 0)) (.c (.non))) (.cons (.expr (.mth 14 64 (.v 0) (.cons (.v 2) .nil))) .nil) (.nil)) .nil)) .nil }
def f_Run_one : DDef := { np := 2, ns := 9, drops := false, leaf := false, body := .cons (.asg (.t [2, 3, 4, 5]) (.v 1)) (.cons (.asg (.n 6) (.ix (.v 3) (.c (.int 0)))) (.cons (.asg (.n 7) (.c (.bl true))) (.cons (.whl (.band (.cons (.v 7) (.cons (.cmp .isN (.fld 14 5 (.v 0)) (.c (.non))) .nil))) (.cons (.asg (.n 7) (.c (.bl false))) (.cons (.ifs (.mth 14 59 (.v 0) (.cons (.v 2) .nil)) (.cons (.asg (.n 8) (.mth 14 61 (.v 0) (.cons (.v 4) .nil))) (.cons (.ifs (.cmp .isN (.fld 14 5 (.v 0)) (.c (.non))) (.cons (.asg (.n 7) (.band (.cons (.cmp .eq (.v 6) (.c (.str "while"))) (.cons (.cmp .ne (.v 8) (.c (.int 0))) .nil)))) (.cons (.expr (.mth 14 65 (.v 0) (.cons (.v 6) (.cons (.v 3) (.cons (.v 8) (.cons (.v 5) .nil)))))) .nil)) (.nil)) .nil)) (.nil)) .nil))) .nil))) }
def f_Run_does : DDef := { np := 5, ns := 5, drops := false, leaf := false, body := .cons (.ifs (.cmp .eq (.v 1) (.c (.str "set"))) (.cons (.setI (.fld 14 2 (.v 0)) (.ix (.v 2) (.c (.int 1))) (.v 3)) .nil) (.cons (.ifs (.cmp .eq (.v 1) (.c (.str "say"))) (.cons (.expr (.bm .append (.fld 14 3 (.v 0)) (.cons (.v 3) .nil))) .nil) (.cons (.ifs (.cmp .eq (.v 1) (.c (.str "give"))) (.cons (.setF 14 5 (.v 0) (.tup (.cons (.c (.str "gave")) (.cons (.v 3) .nil)))) .nil) (.cons (.ifs (.cmp .eq (.v 1) (.c (.str "if"))) (.cons (.expr (.mth 14 63 (.v 0) (.cons (.ite (.cmp .ne (.v 3) (.c (.int 0))) (.ix (.v 4) (.c (.int 0))) (.ix (.v 4) (.c (.int 1)))) .nil))) .nil) (.cons (.ifs (.cmp .ne (.v 3) (.c (.int 0))) (.cons (.expr (.mth 14 63 (.v 0) (.cons (.ix (.v 4) (.c (.int 0))) .nil))) .nil) (.nil)) .nil)) .nil)) .nil)) .nil)) .nil }
def f_need_name : DDef := { np := 1, ns := 1, drops := false, leaf := false, body := .cons (.ifs (.bnot (.call 1 (.cons (.v 0) .nil) [])) (.cons (.rais 6 .nil) .nil) (.nil)) .nil }
def f_School___init__ : DDef := { np := 1, ns := 1, drops := false, leaf := true, body := .cons (.setF 17 0 (.v 0) (.c (.int 0))) (.cons (.setF 17 1 (.v 0) (.sh (.dct [] (.nil)))) (.cons (.setF 17 2 (.v 0) (.sh (.lst (.nil)))) (.cons (.setF 17 3 (.v 0) (.sh (.lst (.nil)))) .nil))) }
def f_School_need_task_name : DDef := { np := 2, ns := 2, drops := false, leaf := false, body := .cons (.ifs (.bor (.cons (.bnot (.isi (.v 1) "str")) (.cons (.cmp .notIn (.v 1) (.fld 17 1 (.v 0))) .nil))) (.cons (.rais 7 .nil) .nil) (.nil)) .nil }
def f_School_one : DDef := { np := 2, ns := 2, drops := false, leaf := false, body := .cons (.ifs (.bnot (.call 0 (.cons (.v 1) (.cons (.c (.int 0)) (.cons (.bin .sub (.bf .len (.cons (.fld 17 2 (.v 0)) .nil)) (.c (.int 1))) .nil))) [])) (.cons (.rais 8 .nil) .nil) (.nil)) (.cons (.ret (.ix (.fld 17 2 (.v 0)) (.v 1))) .nil) }
def f_School_counting : DDef := { np := 3, ns := 5, drops := false, leaf := true, body := .cons (.asg (.n 3) (.lc (.v 4) (.n 4) (.e (.fld 17 2 (.v 0))) (.cons (.band (.cons (.fld 18 4 (.v 4)) (.cons (.cmp .eq (.fld 18 1 (.v 4)) (.v 1)) (.cons (.cmp .eq (.fld 18 0 (.v 4)) (.v 2)) .nil)))) .nil) [4])) (.cons (.ret (.sl (.v 3) (.nil) (.cons (.ix (.ix (.ix (.fld 17 1 (.v 0)) (.v 1)) (.c (.int 0))) (.c (.int 3))) .nil))) .nil) }
def f_School_learners : DDef := { np := 2, ns := 3, drops := false, leaf := true, body := .cons (.ret (.bf .sortK (.cons (.dc (.fld 18 0 (.v 2)) (.c (.bl true)) (.n 2) (.e (.fld 17 2 (.v 0))) (.cons (.band (.cons (.fld 18 4 (.v 2)) (.cons (.cmp .eq (.fld 18 1 (.v 2)) (.v 1)) .nil))) .nil) [2]) .nil))) .nil }
def f_School_try_marks : DDef := { np := 2, ns := 8, drops := false, leaf := false, body := .cons (.asg (.t [2, 3]) (.ix (.fld 17 1 (.v 0)) (.fld 18 1 (.v 1)))) (.cons (.asg (.n 4) (.call 42 (.cons (.fld 18 2 (.v 1)) (.cons (.v 2) .nil)) [])) (.cons (.asg (.n 5) (.lc (.ix (.v 6) (.c (.int 2))) (.t [6, 7]) (.zip (.ix (.v 2) (.c (.int 0))) (.v 4)) (.cons (.cmp .eq (.v 7) (.c (.str "good"))) .nil) [6, 7])) (.cons (.ret (.bf .max2 (.cons (.c (.int 0)) (.cons (.bin .sub (.bf .sum (.cons (.v 5) .nil)) (.bin .mul (.ix (.v 2) (.c (.int 2))) (.bf .max2 (.cons (.c (.int 0)) (.cons (.bin .sub (.fld 18 3 (.v 1)) (.v 3)) .nil))))) .nil)))) .nil))) }
def f_School_mark_of : DDef := { np := 3, ns := 5, drops := false, leaf := false, body := .cons (.ifs (.cmp .notIn (.v 2) (.fld 17 1 (.v 0))) (.cons (.ret (.c (.non))) .nil) (.nil)) (.cons (.asg (.n 3) (.lc (.mth 17 83 (.v 0) (.cons (.v 4) .nil)) (.n 4) (.e (.mth 17 81 (.v 0) (.cons (.v 2) (.cons (.v 1) .nil)))) (.nil) [4])) (.cons (.ifs (.cmp .eq (.v 3) (.lst (.nil))) (.cons (.ret (.c (.non))) .nil) (.nil)) (.cons (.ret (.ite (.cmp .eq (.ix (.ix (.ix (.fld 17 1 (.v 0)) (.v 2)) (.c (.int 0))) (.c (.int 4))) (.c (.str "best"))) (.bf .max1 (.cons (.v 3) .nil)) (.ix (.v 3) (.neg (.c (.int 1)))))) .nil))) }
def f_School_all_marks : DDef := { np := 2, ns := 3, drops := false, leaf := false, body := .cons (.ret (.dc (.v 2) (.mth 17 84 (.v 0) (.cons (.v 2) (.cons (.v 1) .nil))) (.n 2) (.e (.mth 17 82 (.v 0) (.cons (.v 1) .nil))) (.nil) [2])) .nil }
def f_School_changes : DDef := { np := 3, ns := 9, drops := true, leaf := false, body := .cons (.asg (.n 3) (.mth 17 85 (.v 0) (.cons (.v 1) .nil))) (.cons (.asg (.n 4) (.sh (.lst (.nil)))) (.cons (.for_ (.n 5) (.e (.bf .sortS (.cons (.bin .add (.bf .listK (.cons (.v 2) .nil)) (.lc (.v 6) (.n 6) (.e (.v 3)) (.cons (.cmp .notIn (.v 6) (.v 2)) .nil) [6])) .nil))) (.cons (.par 7 8 (.bm .get2 (.v 2) (.cons (.v 5) (.cons (.c (.non)) .nil))) (.bm .get2 (.v 3) (.cons (.v 5) (.cons (.c (.non)) .nil)))) (.cons (.ifs (.cmp .ne (.v 7) (.v 8)) (.cons (.expr (.bm .append (.v 4) (.cons (.tup (.cons (.v 5) (.cons (.v 7) (.cons (.v 8) .nil)))) .nil))) .nil) (.nil)) .nil))) (.cons (.ret (.fz (.v 4))) .nil))) }
def f_School_turn : DDef := { np := 2, ns := 2, drops := false, leaf := false, body := .cons (.ifs (.bnot (.call 0 (.cons (.v 1) (.cons (.fld 17 0 (.v 0)) (.cons (.g 25) .nil))) [])) (.cons (.rais 5 .nil) .nil) (.nil)) (.cons (.setF 17 0 (.v 0) (.v 1)) (.cons (.expr (.bm .append (.fld 17 3 (.v 0)) (.cons (.tup (.cons (.c (.str "turn")) (.cons (.v 1) .nil))) .nil))) .nil)) }
def f_School_day : DDef := { np := 1, ns := 1, drops := false, leaf := true, body := .cons (.ret (.fld 17 0 (.v 0))) .nil }
def f_School_mend : DDef := { np := 4, ns := 5, drops := false, leaf := false, body := .cons (.expr (.call 77 (.cons (.v 1) .nil) [])) (.cons (.expr (.call 40 (.cons (.v 2) .nil) [])) (.cons (.ifs (.bnot (.call 0 (.cons (.v 3) (.cons (.c (.int 0)) (.cons (.g 25) .nil))) [])) (.cons (.rais 5 .nil) .nil) (.nil)) (.cons (.asg (.n 4) (.mth 17 85 (.v 0) (.cons (.v 1) .nil))) (.cons (.setI (.fld 17 1 (.v 0)) (.v 1) (.tup (.cons (.v 2) (.cons (.v 3) .nil)))) (.cons (.expr (.bm .append (.fld 17 3 (.v 0)) (.cons (.tup (.cons (.c (.str "mend")) (.cons (.v 1) (.cons (.v 2) (.cons (.v 3) .nil))))) .nil))) (.cons (.ret (.mth 17 86 (.v 0) (.cons (.v 1) (.cons (.v 4) .nil)))) .nil)))))) }
def f_School_mark : DDef := { np := 3, ns := 3, drops := false, leaf := false, body := .cons (.expr (.call 77 (.cons (.v 1) .nil) [])) (.cons (.expr (.mth 17 79 (.v 0) (.cons (.v 2) .nil))) (.cons (.ret (.mth 17 84 (.v 0) (.cons (.v 1) (.cons (.v 2) .nil)))) .nil)) }
def f_School_marks : DDef := { np := 2, ns := 3, drops := false, leaf := false, body := .cons (.expr (.mth 17 79 (.v 0) (.cons (.v 1) .nil))) (.cons (.ret (.lc (.tup (.cons (.v 2) (.cons (.mth 17 84 (.v 0) (.cons (.v 2) (.cons (.v 1) .nil))) .nil))) (.n 2) (.e (.mth 17 82 (.v 0) (.cons (.v 1) .nil))) (.nil) [2])) .nil) }
def f_School_words : DDef := { np := 2, ns := 3, drops := false, leaf := false, body := .cons (.asg (.n 2) (.mth 17 80 (.v 0) (.cons (.v 1) .nil))) (.cons (.ret (.call 42 (.cons (.fld 18 2 (.v 2)) (.cons (.ix (.ix (.fld 17 1 (.v 0)) (.fld 18 1 (.v 2))) (.c (.int 0))) .nil)) [])) .nil) }
def f_School_deeds : DDef := { np := 1, ns := 1, drops := false, leaf := true, body := .cons (.ret (.bf .list (.cons (.fld 17 3 (.v 0)) .nil))) .nil }
def f_Try___init__ : DDef := { np := 5, ns := 5, drops := false, leaf := true, body := .cons (.setF 18 0 (.v 0) (.v 1)) (.cons (.setF 18 1 (.v 0) (.v 2)) (.cons (.setF 18 2 (.v 0) (.v 3)) (.cons (.setF 18 3 (.v 0) (.v 4)) (.cons (.setF 18 4 (.v 0) (.c (.bl true))) .nil)))) }
def f_School_hand_v2 : DDef := { np := 4, ns := 4, drops := false, leaf := false, body := .cons (.expr (.call 77 (.cons (.v 1) .nil) [])) (.cons (.expr (.mth 17 79 (.v 0) (.cons (.v 2) .nil))) (.cons (.expr (.call 8 (.cons (.v 3) .nil) [])) (.cons (.expr (.bm .append (.fld 17 2 (.v 0)) (.cons (.mk 18 (.cons (.v 1) (.cons (.v 2) (.cons (.v 3) (.cons (.fld 17 0 (.v 0)) .nil))))) .nil))) (.cons (.expr (.bm .append (.fld 17 3 (.v 0)) (.cons (.tup (.cons (.c (.str "hand")) (.cons (.v 1) (.cons (.v 2) (.cons (.v 3) .nil))))) .nil))) (.cons (.ret (.bin .sub (.bf .len (.cons (.fld 17 2 (.v 0)) .nil)) (.c (.int 1)))) .nil))))) }
def f_School_strike_v2 : DDef := { np := 2, ns := 4, drops := false, leaf := false, body := .cons (.asg (.n 2) (.mth 17 80 (.v 0) (.cons (.v 1) .nil))) (.cons (.ifs (.bnot (.fld 18 4 (.v 2))) (.cons (.rais 8 .nil) .nil) (.nil)) (.cons (.asg (.n 3) (.mth 17 85 (.v 0) (.cons (.fld 18 1 (.v 2)) .nil))) (.cons (.setF 18 4 (.v 2) (.c (.bl false))) (.cons (.expr (.bm .append (.fld 17 3 (.v 0)) (.cons (.tup (.cons (.c (.str "strike")) (.cons (.v 1) .nil))) .nil))) (.cons (.ret (.mth 17 86 (.v 0) (.cons (.fld 18 1 (.v 2)) (.cons (.v 3) .nil)))) .nil))))) }
def f_School_hint_v3 : DDef := { np := 2, ns := 2, drops := false, leaf := false, body := .cons (.expr (.call 202 (.cons (.c (.int 0)) .nil) [])) .nil }
def f_School_seen_v3 : DDef := { np := 2, ns := 2, drops := false, leaf := false, body := .cons (.expr (.call 202 (.cons (.c (.int 1)) .nil) [])) .nil }
def f_School_like_v3 : DDef := { np := 2, ns := 2, drops := false, leaf := false, body := .cons (.expr (.call 202 (.cons (.c (.int 2)) .nil) [])) .nil }
def f_School_ways_v2 : DDef := { np := 2, ns := 2, drops := false, leaf := false, body := .cons (.expr (.call 202 (.cons (.c (.int 3)) .nil) [])) .nil }
def f_School_hard_v3 : DDef := { np := 2, ns := 2, drops := false, leaf := false, body := .cons (.expr (.call 202 (.cons (.c (.int 4)) .nil) [])) .nil }
def f__law_dice : DDef := { np := 2, ns := 4, drops := false, leaf := true, body := .cons (.asg (.n 2) (.v 1)) (.cons (.for_ (.n 3) (.e (.v 0)) (.cons (.asg (.n 2) (.bin .mod (.bin .add (.bin .mul (.v 2) (.c (.int 31))) (.bf .abs (.cons (.v 3) .nil))) (.c (.int 2147483647)))) .nil)) (.cons (.ret (.sh (.bin .add (.lst (.cons (.v 2) (.cons (.c (.int 0)) .nil))) (.lc (.v 3) (.n 3) (.e (.v 0)) (.cons (.cmp .ge (.v 3) (.bin .pow (.c (.int 10)) (.c (.int 18)))) .nil) [3])))) .nil)) }
def f__law_off : DDef := { np := 2, ns := 3, drops := false, leaf := true, body := .cons (.ifs (.band (.cons (.cmp .eq (.ix (.v 0) (.c (.int 1))) (.c (.int 0))) (.cons (.cmp .gt (.bf .len (.cons (.v 0) .nil)) (.c (.int 2))) .nil))) (.cons (.setI (.v 0) (.c (.int 1)) (.bm .popAt (.v 0) (.cons (.c (.int 2)) .nil))) .nil) (.nil)) (.cons (.ifs (.cmp .gt (.ix (.v 0) (.c (.int 1))) (.c (.int 0))) (.cons (.asg (.n 2) (.bin .mod (.ix (.v 0) (.c (.int 1))) (.v 1))) (.cons (.setI (.v 0) (.c (.int 1)) (.bin .fdiv (.ix (.v 0) (.c (.int 1))) (.v 1))) (.cons (.ret (.v 2)) .nil))) (.nil)) (.cons (.setI (.v 0) (.c (.int 0)) (.bin .mod (.bin .add (.bin .mul (.ix (.v 0) (.c (.int 0))) (.c (.int 48271))) (.c (.int 11))) (.c (.int 2147483647)))) (.cons (.ret (.bin .mod (.bin .fdiv (.ix (.v 0) (.c (.int 0))) (.c (.int 64))) (.v 1))) .nil))) }
def f__law_alike : DDef := { np := 2, ns := 3, drops := false, leaf := false, body := .cons (.ifs (.cmp .isN (.v 1) (.c (.non))) (.cons (.ret (.cmp .isN (.v 0) (.c (.non)))) .nil) (.nil)) (.cons (.ifs (.isi (.v 1) "bool") (.cons (.ret (.band (.cons (.isi (.v 0) "bool") (.cons (.cmp .eq (.v 0) (.v 1)) .nil)))) .nil) (.nil)) (.cons (.ifs (.isi (.v 1) "int") (.cons (.ret (.band (.cons (.isi (.v 0) "int") (.cons (.bnot (.isi (.v 0) "bool")) (.cons (.cmp .eq (.v 0) (.v 1)) .nil))))) .nil) (.nil)) (.cons (.ifs (.isi (.v 1) "str") (.cons (.ret (.band (.cons (.isi (.v 0) "str") (.cons (.cmp .eq (.v 0) (.v 1)) .nil)))) .nil) (.nil)) (.cons (.ifs (.bor (.cons (.cmp .ne (.isi (.v 1) "tuple") (.isi (.v 0) "tuple")) (.cons (.cmp .ne (.isi (.v 1) "list") (.isi (.v 0) "list")) .nil))) (.cons (.ret (.c (.bl false))) .nil) (.nil)) (.cons (.ifs (.cmp .ne (.bf .len (.cons (.v 0) .nil)) (.bf .len (.cons (.v 1) .nil))) (.cons (.ret (.c (.bl false))) .nil) (.nil)) (.cons (.ret (.bf .all (.cons (.lc (.call 155 (.cons (.ix (.v 0) (.v 2)) (.cons (.ix (.v 1) (.v 2)) .nil)) []) (.n 2) (.rng1 (.bf .len (.cons (.v 1) .nil))) (.nil) [2]) .nil))) .nil)))))) }
def f__wall : DDef := { np := 1, ns := 1, drops := false, leaf := true, body := .cons (.whl (.c (.bl true)) (.cons (.pass) .nil)) .nil }
def f_law_k22 : DDef := { np := 1, ns := 20, drops := true, leaf := false, body := .cons (.asg (.n 1) (.call 124 (.cons (.v 0) (.cons (.c (.int 0)) .nil)) [])) (.cons (.asg (.n 2) (.mk 17 (.nil))) (.cons (.par3 3 4 5 (.call 125 (.cons (.v 1) (.cons (.c (.int 10)) .nil)) []) (.bin .add (.c (.int 1)) (.call 125 (.cons (.v 1) (.cons (.c (.int 4)) .nil)) [])) (.ix (.lst (.cons (.c (.str "best")) (.cons (.c (.str "last")) .nil))) (.call 125 (.cons (.v 1) (.cons (.c (.int 2)) .nil)) []))) (.cons (.asg (.n 6) (.tup (.cons (.bin .add (.c (.int 1)) (.call 125 (.cons (.v 1) (.cons (.c (.int 9)) .nil)) [])) (.cons (.bin .add (.c (.int 1)) (.call 125 (.cons (.v 1) (.cons (.c (.int 9)) .nil)) [])) .nil)))) (.cons (.asg (.n 7) (.tup (.cons (.tup (.cons (.tup (.cons (.c (.int 1)) .nil)) (.cons (.tup (.cons (.tup (.nil)) (.cons (.c (.int 1)) .nil))) (.cons (.ix (.v 6) (.c (.int 0))) (.cons (.c (.bl true)) .nil))))) (.cons (.tup (.cons (.tup (.cons (.c (.int 5)) .nil)) (.cons (.tup (.cons (.tup (.nil)) (.cons (.c (.int 5)) .nil))) (.cons (.ix (.v 6) (.c (.int 1))) (.cons (.c (.bl false)) .nil))))) .nil)))) (.cons (.asg (.n 8) (.ix (.lst (.cons (.call 125 (.cons (.v 1) (.cons (.c (.int 20)) .nil)) []) (.cons (.c (.int 2)) .nil))) (.call 125 (.cons (.v 1) (.cons (.c (.int 2)) .nil)) []))) (.cons (.expr (.mthk 17 89 (.v 2) (.cons (.c (.str "sum")) (.cons (.tup (.cons (.v 7) (.cons (.c (.int 100)) (.cons (.v 3) (.cons (.v 4) (.cons (.v 5) .nil)))))) .nil)) ["last"] (.cons (.v 8) .nil))) (.cons (.asg (.n 9) (.sh (.lst (.cons (.tup (.cons (.tup (.cons (.tup (.cons (.c (.str "give")) (.cons (.tup (.cons (.c (.str "num")) (.cons (.c (.int 1)) .nil))) .nil))) .nil)) (.cons (.ix (.v 6) (.c (.int 0))) .nil))) (.cons (.tup (.cons (.tup (.cons (.tup (.cons (.c (.str "give")) (.cons (.tup (.cons (.c (.str "in")) (.cons (.c (.int 0)) .nil))) .nil))) .nil)) (.cons (.bf .sumT (.cons (.v 6) .nil)) .nil))) (.cons (.tup (.cons (.tup (.nil)) (.cons (.c (.int 0)) .nil))) .nil)))))) (.cons (.expr (.bm .append (.v 9) (.cons (.tup (.cons (.tup (.cons (.tup (.cons (.c (.str "give")) (.cons (.tup (.cons (.c (.str "or")) (.cons (.tup (.cons (.c (.str "num")) (.cons (.c (.int 0)) .nil))) (.cons (.tup (.cons (.c (.str "num")) (.cons (.c (.int 1)) .nil))) .nil)))) .nil))) .nil)) (.cons (.ix (.v 6) (.c (.int 0))) .nil))) .nil))) (.cons (.asg (.n 10) (.sh (.lst (.nil)))) (.cons (.asg (.n 11) (.c (.int 0))) (.cons (.for_ (.n 12) (.rng1 (.call 125 (.cons (.v 1) (.cons (.c (.int 20)) .nil)) [])) (.cons (.asg (.n 11) (.bin .add (.v 11) (.call 125 (.cons (.v 1) (.cons (.c (.int 4)) .nil)) []))) (.cons (.expr (.mth 17 87 (.v 2) (.cons (.v 11) .nil))) (.cons (.asg (.t [13, 14]) (.ix (.v 9) (.call 125 (.cons (.v 1) (.cons (.c (.int 4)) .nil)) []))) (.cons (.asg (.n 15) (.ix (.lst (.cons (.c (.str "ann")) (.cons (.c (.str "bo")) (.cons (.c (.str "cy")) .nil)))) (.call 125 (.cons (.v 1) (.cons (.c (.int 3)) .nil)) []))) (.cons (.expr (.mth 17 102 (.v 2) (.cons (.v 15) (.cons (.c (.str "sum")) (.cons (.v 13) .nil))))) (.cons (.expr (.bm .append (.v 10) (.cons (.sh (.lst (.cons (.v 15) (.cons (.bf .max2 (.cons (.c (.int 0)) (.cons (.bin .sub (.v 14) (.bin .mul (.v 3) (.bf .max2 (.cons (.c (.int 0)) (.cons (.bin .sub (.v 11) (.v 8)) .nil))))) .nil))) (.cons (.c (.bl true)) .nil))))) .nil))) (.cons (.ifs (.cmp .eq (.call 125 (.cons (.v 1) (.cons (.c (.int 5)) .nil)) []) (.c (.int 0))) (.cons (.asg (.n 16) (.call 125 (.cons (.v 1) (.cons (.bf .len (.cons (.v 10) .nil)) .nil)) [])) (.cons (.ifs (.ix (.ix (.v 10) (.v 16)) (.c (.int 2))) (.cons (.expr (.mth 17 103 (.v 2) (.cons (.v 16) .nil))) (.cons (.setI (.ix (.v 10) (.v 16)) (.c (.int 2)) (.c (.bl false))) .nil)) (.nil)) .nil)) (.nil)) .nil)))))))) (.cons (.for_ (.n 15) (.e (.lst (.cons (.c (.str "ann")) (.cons (.c (.str "bo")) (.cons (.c (.str "cy")) (.cons (.c (.str "dee")) .nil)))))) (.cons (.asg (.n 17) (.sl (.lc (.ix (.v 18) (.c (.int 1))) (.n 18) (.e (.v 10)) (.cons (.band (.cons (.cmp .eq (.ix (.v 18) (.c (.int 0))) (.v 15)) (.cons (.ix (.v 18) (.c (.int 2))) .nil))) .nil) [18]) (.nil) (.cons (.v 4) .nil))) (.cons (.asg (.n 19) (.c (.non))) (.cons (.ifs (.cmp .ne (.v 17) (.lst (.nil))) (.cons (.asg (.n 19) (.ite (.cmp .eq (.v 5) (.c (.str "best"))) (.bf .max1 (.cons (.v 17) .nil)) (.ix (.v 17) (.neg (.c (.int 1)))))) .nil) (.nil)) (.cons (.ifs (.bnot (.call 155 (.cons (.mth 17 92 (.v 2) (.cons (.v 15) (.cons (.c (.str "sum")) .nil))) (.cons (.v 19) .nil)) [])) (.cons (.ret (.c (.bl false))) .nil) (.nil)) .nil))))) (.cons (.ret (.cmp .eq (.mth 17 88 (.v 2) (.nil)) (.v 11))) .nil))))))))))))) }
structure PR (T : Tab) : Prop where
  f0 : T.fn 0 = some f_is_number
  f1 : T.fn 1 = some f_is_name
  f2 : T.fn 2 = some f_is_tagged
  f3 : T.fn 3 = some f_is_worth
  f4 : T.fn 4 = some f_is_row
  f5 : T.fn 5 = some f_worths_at
  f6 : T.fn 6 = some f_worth_at
  f7 : T.fn 7 = some f_blocks_at
  f8 : T.fn 8 = some f_need_program
  f14 : T.fn 14 = some f_are_inputs
  f15 : T.fn 15 = some f_is_limit
  f51 : T.fn 51 = some f_Looker___init__
  f52 : T.fn 52 = some f_Looker_look
  f53 : T.fn 53 = some f_Looker_look_worth
  f54 : T.fn 54 = some f_Marker___init__
  f55 : T.fn 55 = some f_Marker_taken
  f56 : T.fn 56 = some f_Marker_worth
  f57 : T.fn 57 = some f_Marker_marked
  f58 : T.fn 58 = some f_Run___init__
  f59 : T.fn 59 = some f_Run_begins
  f60 : T.fn 60 = some f_Run_falls
  f61 : T.fn 61 = some f_Run_worth
  f62 : T.fn 62 = some f_Run_reckoned
  f63 : T.fn 63 = some f_Run_go
  f64 : T.fn 64 = some f_Run_one
  f65 : T.fn 65 = some f_Run_does
  g0 : T.gl 0 = some (.str "abcdefghijklmnopqrstuvwxyz")
  g5 : T.gl 5 = some (.int 30)
  g6 : T.gl 6 = some (.int 120)
  g7 : T.gl 7 = some (.int 6)
  g8 : T.gl 8 = some (.int 8)
  g9 : T.gl 9 = some (.int 9999)
  g10 : T.gl 10 = some (.int 4)
  g11 : T.gl 11 = some (.kdic [.inr "num", .inr "in", .inr "get", .inr "not", .inr "plus", .inr "minus", .inr "times", .inr "over", .inr "less", .inr "same", .inr "and", .inr "or"] [.int 2, .int 2, .int 2, .int 2, .int 3, .int 3, .int 3, .int 3, .int 3, .int 3, .int 3, .int 3])
  g12 : T.gl 12 = some (.kdic [.inr "set", .inr "say", .inr "give", .inr "if", .inr "while"] [.int 3, .int 2, .int 2, .int 4, .int 3])
  g14 : T.gl 14 = some (.int 100000)
  g15 : T.gl 15 = some (.int 1000000000)
  x0 : T.exf 0 = none
  x9 : T.exf 9 = some "place"
  c12 : T.flds 12 = (["many", "rows", "worths"] : List Str)
  i12 : T.init 12 = 51
  c13 : T.flds 13 = (["at"] : List Str)
  i13 : T.init 13 = 54
  c14 : T.flds 14 = (["inputs", "limit", "names", "said", "steps", "why"] : List Str)
  i14 : T.init 14 = 58
structure PD (T : Tab) : Prop where
  f124 : T.fn 124 = some f__law_dice
  f125 : T.fn 125 = some f__law_off
structure PT (T : Tab) : Prop where
  f16 : T.fn 16 = some f_ran
  f37 : T.fn 37 = some f_is_told
  f38 : T.fn 38 = some f_is_due
  f39 : T.fn 39 = some f_is_trial
  f40 : T.fn 40 = some f_need_task
  f41 : T.fn 41 = some f_word_of
  f42 : T.fn 42 = some f_words_of
  g17 : T.gl 17 = some (.int 8)
  g18 : T.gl 18 = some (.int 20)
  g19 : T.gl 19 = some (.int 9)
  g20 : T.gl 20 = some (.int 20)
  g21 : T.gl 21 = some (.tup [.str "best", .str "last"])
  x4 : T.exf 4 = none
structure PS (T : Tab) : Prop where
  f77 : T.fn 77 = some f_need_name
  f101 : T.fn 101 = some f_Try___init__
  f78 : T.fn 78 = some f_School___init__
  f79 : T.fn 79 = some f_School_need_task_name
  f80 : T.fn 80 = some f_School_one
  f81 : T.fn 81 = some f_School_counting
  f82 : T.fn 82 = some f_School_learners
  f83 : T.fn 83 = some f_School_try_marks
  f84 : T.fn 84 = some f_School_mark_of
  f85 : T.fn 85 = some f_School_all_marks
  f86 : T.fn 86 = some f_School_changes
  f87 : T.fn 87 = some f_School_turn
  f88 : T.fn 88 = some f_School_day
  f89 : T.fn 89 = some f_School_mend
  f102 : T.fn 102 = some f_School_hand_v2
  f103 : T.fn 103 = some f_School_strike_v2
  f92 : T.fn 92 = some f_School_mark
  f93 : T.fn 93 = some f_School_marks
  f100 : T.fn 100 = some f_School_deeds
  g25 : T.gl 25 = some (.int 999)
  c18 : T.flds 18 = (["learner", "name", "program", "on", "counts"] : List Str)
  i18 : T.init 18 = 101
  c17 : T.flds 17 = (["today", "tasks", "tries", "book"] : List Str)
  i17 : T.init 17 = 78
structure PL (T : Tab) : Prop where
  f155 : T.fn 155 = some f__law_alike
end TS
end

section
set_option Elab.async false
set_option linter.all false
set_option maxRecDepth 100000
set_option maxHeartbeats 2000000
set_option autoImplicit false
namespace TS
open PySem PySem.Spec PyProof.Rows L2 PySem.W PySem.Calls
noncomputable section
def LD.hookA (D : LD) (as : List Addr) : PySem.W.Hook where
  α := AlL
  obs := fun s => D.obs (He.frG s.heap.get? as)
  val := fun w => D.val w
  says := fun w h => ∃ K : PySem.W.Frag, K.In h ∧ D.obs K = D.val w
  of := fun _ _ e => ⟨_, He.frG_in, e⟩
  keeps := fun _ _ _ ⟨K, hK, c⟩ k => ⟨K, PySem.W.Frag.In.keeps hK k, c⟩
def LD.obA (D : LD) (as : List Addr) (s : PySem.W.SharedT) : AlL := D.obs (He.frG (HandSHeadRun.getT s) as)
theorem LD.obA_eq (D : LD) (as : List Addr) (s : PySem.W.SharedT) : D.obA as s = (D.hookA as).obs s.abs := by
  have e : HandSHeadRun.getT s = s.abs.heap.get? := funext (HandSHeadRun.getT_eq s)
  show D.obs (He.frG (HandSHeadRun.getT s) as) = D.obs (He.frG s.abs.heap.get? as)
  rw [e]
theorem map3 {α β γ δ : Type} {X : Option α} {A : α → β} {B : α → γ} {C : α → δ} {a : β} {b : γ} {c : δ} (h1 : X.map A = some a) (h2 : X.map B = some b) (h3 : X.map C = some c) : X.map (fun s => (A s, B s, C s)) = some (a, b, c) := by
  cases X with
  | none => cases h1
  | some x =>
    simp only [Option.map_some, Option.some.injEq] at h1 h2 h3 ⊢
    rw [h1, h2, h3]
theorem mapP {α β γ : Type} {X : Option α} {A : α → β} {B : α → γ} {a : β} {b : γ} (h1 : X.map A = some a) (h2 : X.map B = some b) : X.map (fun s => (A s, B s)) = some (a, b) := by
  cases X with
  | none => cases h1
  | some x =>
    simp only [Option.map_some, Option.some.injEq] at h1 h2 ⊢
    rw [h1, h2]
theorem mapA {α : Type} {X : Option α} {A B : α → Bool} (h1 : X.map A = some true) (h2 : X.map B = some true) : X.map (fun s => A s && B s) = some true := by
  cases X with
  | none => cases h1
  | some x =>
    simp only [Option.map_some, Option.some.injEq] at h1 h2 ⊢
    rw [h1, h2]; rfl
def LD.okD (D : LD) (i n : Nat) (K : PySem.W.Frag) : Bool := ((D.defs.drop i).take n).all fun o => match o with | some d => D.defB K d | none => true
def LD.okR (D : LD) (K : PySem.W.Frag) : Bool := (D.cls.all fun o => match o with | some c => D.clB K c | none => true) && ((D.gls.all fun o => match o with | some p => gloB K p | none => true) && (bnames.all fun x => (He.Fa.free x).ok K))
theorem LD.ok_cut {D : LD} {i : Nat} {K : PySem.W.Frag} (h : (D.okD 0 i K && (D.okD i D.defs.length K && D.okR K)) = true) : D.ok K = true := by
  rw [Bool.and_eq_true, Bool.and_eq_true] at h
  obtain ⟨h1, h2, h3⟩ := h
  unfold LD.ok
  unfold LD.okD at h1 h2
  rw [List.drop_zero] at h1
  rw [List.take_of_length_le (by rw [List.length_drop]; omega)] at h2
  rw [Bool.and_eq_true]
  refine ⟨?_, h3⟩
  have e : D.defs = D.defs.take i ++ D.defs.drop i := (List.take_append_drop i D.defs).symm
  have key : (D.defs.take i ++ D.defs.drop i).all (fun o => match o with | some d => D.defB K d | none => true) = true := by
    rw [List.all_append, Bool.and_eq_true]
    exact ⟨h1, h2⟩
  rw [← e] at key
  exact key
abbrev endX (r : OpenRow) (M : Nat) (w : World) (os : OsState) : Option PySem.W.SharedT := HandSHeadRun.endF (HandSHeadRun.stepQ (HandSHeadRun.denQ HandSHeadRun.tabQ) r.prog w) M r.prog w os
abbrev PartL (r : OpenRow) (q : Program) (M : Nat) (loose : List PySem.Str) (w : World) : Prop := ∀ os : OsState, (endX r M w os).map (fun s => (HandSHeadRun.looksF r.prog (PySem.W.boot_heap w.params) s.abs, HandSHeadRun.seenQ q loose (importedModules r.prog.main.body) (fun s => PySem.W.xlAt q [] s && PySem.W.recOk r.toRowW.records s) s.abs)) = some (true, PySem.W.openGood q loose)
abbrev PartD (r : OpenRow) (D : LD) (as : List Addr) (i n : Nat) (M : Nat) (w : World) : Prop := ∀ os : OsState, (endX r M w os).map (fun s => D.okD i n (He.frG (HandSHeadRun.getT s) as)) = some true
abbrev PartR (r : OpenRow) (D : LD) (as : List Addr) (i n : Nat) (M : Nat) (w : World) : Prop := ∀ os : OsState, (endX r M w os).map (fun s => (D.okD i n (He.frG (HandSHeadRun.getT s) as) && D.okR (He.frG (HandSHeadRun.getT s) as), D.tabs.map fun t => He.dicW (He.frG (HandSHeadRun.getT s) as) (He.ga (He.frG (HandSHeadRun.getT s) as) t.1))) = some (D.val w)
theorem run_parts {r : OpenRow} {q : Program} {D : LD} {as : List Addr} {M : Nat} {loose : List PySem.Str} {w : World} (i n : Nat) (hn : D.defs.length ≤ n) (h1 : PartL r q M loose w) (h3 : PartD r D as 0 i M w) (h5 : PartR r D as i n M w) :
    HandSHeadRun.RunEq r q (D.hookA as) (D.obA as) M loose w := fun os => by
  have k1 := h1 os
  have k3 := h3 os
  have k5 := h5 os
  unfold endX at k1 k3 k5
  revert k1 k3 k5
  generalize HandSHeadRun.endF (HandSHeadRun.stepQ (HandSHeadRun.denQ HandSHeadRun.tabQ) r.prog w) M r.prog w os = X
  intro k1 k3 k5
  cases X with
  | none => cases k1
  | some s =>
    rw [Option.map_some, Option.some.injEq] at k1 k3 k5
    have e1 := congrArg (fun z : Bool × _ => z.1) k1
    have e2 := congrArg (fun z : Bool × _ => z.2) k1
    have e5 : (D.okD i n (He.frG (HandSHeadRun.getT s) as) && D.okR (He.frG (HandSHeadRun.getT s) as)) = true := congrArg (fun z : AlL => z.1) k5
    have e6 := congrArg (fun z : AlL => z.2) k5
    rw [Bool.and_eq_true] at e5
    have e4 : D.okD i D.defs.length (He.frG (HandSHeadRun.getT s) as) = true := by
      have e := e5.1
      unfold LD.okD at e ⊢
      rw [List.take_of_length_le (by rw [List.length_drop]; omega)] at e ⊢
      exact e
    have e7 : D.ok (He.frG (HandSHeadRun.getT s) as) = true := LD.ok_cut (i := i) (by rw [k3, e4, e5.2]; rfl)
    refine map3 (congrArg some e1) (congrArg some e2) (congrArg some (show (D.ok (He.frG (HandSHeadRun.getT s) as), D.tabs.map fun t => He.dicW (He.frG (HandSHeadRun.getT s) as) (He.ga (He.frG (HandSHeadRun.getT s) as) t.1)) = D.val w from ?_))
    rw [e7]
    exact Prod.ext rfl e6
end
end TS
end

section
set_option Elab.async false
set_option linter.all false
set_option maxRecDepth 100000
set_option maxHeartbeats 0
namespace TS
open PySem
def ld_k22 : LD where
  defs := [some ⟨("is_number", none), ["thing", "low", "high"], f_is_number, .full⟩, some ⟨("is_name", none), ["thing", "sign"], f_is_name, .full⟩, 
    some ⟨("is_tagged", none), ["thing"], f_is_tagged, .full⟩, some ⟨("is_worth", none), ["thing"], f_is_worth, .full⟩, 
    some ⟨("is_row", none), ["thing", "at"], f_is_row, .full⟩, some ⟨("worths_at", none), ["thing"], f_worths_at, .full⟩, 
    some ⟨("worth_at", none), ["row"], f_worth_at, .full⟩, some ⟨("blocks_at", none), ["row"], f_blocks_at, .full⟩, 
    some ⟨("need_program", none), ["program"], f_need_program, .full⟩, none, none, none, none, none, 
    some ⟨("are_inputs", none), ["thing", "one"], f_are_inputs, .full⟩, some ⟨("is_limit", none), ["thing"], f_is_limit, .full⟩, 
    some ⟨("ran", none), ["program", "inputs", "limit", "here"], f_ran, .full⟩, none, none, none, none, none, none, none, none, none, none, none, none, 
    none, none, none, none, none, none, none, none, some ⟨("is_told", none), ["thing"], f_is_told, .full⟩, 
    some ⟨("is_due", none), ["thing", "one"], f_is_due, .full⟩, some ⟨("is_trial", none), ["thing"], f_is_trial, .full⟩, 
    some ⟨("need_task", none), ["task", "trial"], f_need_task, .full⟩, 
    some ⟨("word_of", none), ["program", "trial", "limit", "inputs", "due", "worth", "shown", "why", "said", "steps", "gave"], f_word_of, .full⟩, 
    some ⟨("words_of", none), ["program", "task", "trial"], f_words_of, .full⟩, none, none, none, none, none, none, none, none, 
    some ⟨("Looker", some "__init__"), ["self"], f_Looker___init__, .full⟩, 
    some ⟨("Looker", some "look"), ["self", "rows", "deep", "row", "place", "at"], f_Looker_look, .full⟩, 
    some ⟨("Looker", some "look_worth"), ["self", "worth", "deep", "place", "at"], f_Looker_look_worth, .full⟩, 
    some ⟨("Marker", some "__init__"), ["self"], f_Marker___init__, .full⟩, some ⟨("Marker", some "taken"), ["self"], f_Marker_taken, .full⟩, 
    some ⟨("Marker", some "worth"), ["self", "worth", "place", "at"], f_Marker_worth, .full⟩, 
    some ⟨("Marker", some "marked"), ["self", "rows", "found", "row", "place", "inner", "at"], f_Marker_marked, .full⟩, 
    some ⟨("Run", some "__init__"), ["self", "inputs", "limit"], f_Run___init__, .full⟩, 
    some ⟨("Run", some "begins"), ["self", "place"], f_Run_begins, .full⟩, some ⟨("Run", some "falls"), ["self", "word", "place"], f_Run_falls, .full⟩, 
    some ⟨("Run", some "worth"), ["self", "marked", "place", "worth", "parts", "word", "one", "other"], f_Run_worth, .full⟩, 
    some ⟨("Run", some "reckoned"), ["self", "word", "one", "other", "place", "found"], f_Run_reckoned, .full⟩, 
    some ⟨("Run", some "go"), ["self", "rows", "row"], f_Run_go, .full⟩, 
    some ⟨("Run", some "one"), ["self", "marked", "place", "row", "inner", "blocks", "word", "goes_on", "worth"], f_Run_one, .full⟩, 
    some ⟨("Run", some "does"), ["self", "word", "row", "worth", "blocks"], f_Run_does, .full⟩, none, none, none, none, none, none, none, none, none, none, 
    none, some ⟨("need_name", none), ["thing"], f_need_name, .full⟩, some ⟨("School", some "__init__"), ["self"], f_School___init__, .full⟩, 
    some ⟨("School", some "need_task_name"), ["self", "name"], f_School_need_task_name, .full⟩, 
    some ⟨("School", some "one"), ["self", "number"], f_School_one, .full⟩, 
    some ⟨("School", some "counting"), ["self", "name", "learner", "some", "one"], f_School_counting, .full⟩, 
    some ⟨("School", some "learners"), ["self", "name", "one"], f_School_learners, .full⟩, 
    some ⟨("School", some "try_marks"), ["self", "one", "task", "last", "words", "some", "trial", "word"], f_School_try_marks, .full⟩, 
    some ⟨("School", some "mark_of"), ["self", "learner", "name", "some", "one"], f_School_mark_of, .full⟩, 
    some ⟨("School", some "all_marks"), ["self", "name", "learner"], f_School_all_marks, .full⟩, 
    some ⟨("School", some "changes"), ["self", "name", "before", "now", "found", "learner", "one", "old", "new"], f_School_changes, .full⟩, 
    some ⟨("School", some "turn"), ["self", "day"], f_School_turn, .full⟩, some ⟨("School", some "day"), ["self"], f_School_day, .full⟩, 
    some ⟨("School", some "mend"), ["self", "name", "task", "last", "before"], f_School_mend, .kw (.int 999)⟩, none, none, 
    some ⟨("School", some "mark"), ["self", "learner", "name"], f_School_mark, .full⟩, 
    some ⟨("School", some "marks"), ["self", "name", "learner"], f_School_marks, .full⟩, 
    some ⟨("School", some "words"), ["self", "number", "one"], f_School_words, .full⟩, none, none, none, none, none, 
    some ⟨("School", some "deeds"), ["self"], f_School_deeds, .full⟩, 
    some ⟨("Try", some "__init__"), ["self", "learner", "name", "program", "on"], f_Try___init__, .full⟩, 
    some ⟨("School", some "hand"), ["self", "learner", "name", "program"], f_School_hand_v2, .full⟩, 
    some ⟨("School", some "strike"), ["self", "number", "one", "before"], f_School_strike_v2, .full⟩, none, none, none, none, 
    some ⟨("School", some "hint"), ["self", "number"], f_School_hint_v3, .full⟩, 
    some ⟨("School", some "seen"), ["self", "number"], f_School_seen_v3, .full⟩, 
    some ⟨("School", some "like"), ["self", "number"], f_School_like_v3, .full⟩, some ⟨("School", some "ways"), ["self", "name"], f_School_ways_v2, .full⟩, 
    some ⟨("School", some "hard"), ["self", "name"], f_School_hard_v3, .full⟩, none, none, none, none, none, none, none, none, none, none, none, 
    some ⟨("_law_dice", none), ["_law_script", "_law_k", "_law_found", "_law_cell"], f__law_dice, .full⟩, 
    some ⟨("_law_off", none), ["_law_d", "_law_upto", "_law_found"], f__law_off, .full⟩, none, none, none, none, none, none, none, none, none, none, none, 
    none, none, none, none, none, none, none, none, none, none, none, none, none, none, none, none, none, none, 
    some ⟨("_law_alike", none), ["_law_found", "_law_due", "_law_k"], f__law_alike, .full⟩, none, none, none, none, none, none, none, none, none, none, 
    none, none, none, none, none, none, none, none, none, none, none, none, none, none, none, none, none, none, none, none, none, none, none, none, none, 
    none, none, none, none, none, none, none, none, none, none, none, some ⟨("_wall", none), ["k"], f__wall, .full⟩, none, none, none, none, none, none, 
    none, none, none, none, none, none, none, none, none, none, none, none, none, none, none, none, none, none, none, none, none, none, none, none, none, 
    none, none, none, none, none, none, none, none, none, none, none, none, none, none, none, none, none, none, none, none, none, none, none, none, none, 
    some ⟨("law", none), ["_law_script", "_law_d", "_law_school", "_law_late", "_law_most", "_law_rule", "_law_worths", "_law_trials", "_law_last_day", "_law_programs", "_law_rows", "_law_day", "_law_turn", "_law_program", "_law_good", "_law_learner", "_law_k", "_law_some", "_law_row", "_law_due"], f_law_k22, .full⟩]
  cls := [some ⟨"SchoolError", none, some none, ("", "")⟩, none, none, none, some ⟨"BadTask", none, some none, ("", "")⟩, 
    some ⟨"BadDay", none, some none, ("", "")⟩, some ⟨"BadName", none, some none, ("", "")⟩, some ⟨"NoTask", none, some none, ("", "")⟩, 
    some ⟨"NoTry", none, some none, ("", "")⟩, some ⟨"BadProgram", none, some (some "place"), ("self", "place")⟩, none, none, 
    some ⟨"Looker", some (["many", "rows", "worths"], 51), none, ("", "")⟩, some ⟨"Marker", some (["at"], 54), none, ("", "")⟩, 
    some ⟨"Run", some (["inputs", "limit", "names", "said", "steps", "why"], 58), none, ("", "")⟩, none, none, 
    some ⟨"School", some (["today", "tasks", "tries", "book"], 78), none, ("", "")⟩, 
    some ⟨"Try", some (["learner", "name", "program", "on", "counts"], 101), none, ("", "")⟩]
  gls := [some ("LETTERS", .str "abcdefghijklmnopqrstuvwxyz"), none, none, none, none, some ("MOST_ROWS", .int 30), some ("MOST_WORTHS", .int 120), 
    some ("MOST_DEEP", .int 6), some ("MOST_INNER", .int 8), some ("MOST_NUMBER", .int 9999), some ("MOST_INPUTS", .int 4), 
    some ("WORTHS", .kdic [.inr "num", .inr "in", .inr "get", .inr "not", .inr "plus", .inr "minus", .inr "times", .inr "over", .inr "less", .inr "same", .inr "and", .inr "or"] [.int 2, .int 2, .int 2, .int 2, .int 3, .int 3, .int 3, .int 3, .int 3, .int 3, .int 3, .int 3]), 
    some ("ROWS", .kdic [.inr "set", .inr "say", .inr "give", .inr "if", .inr "while"] [.int 3, .int 2, .int 2, .int 4, .int 3]), none, 
    some ("MOST_LIMIT", .int 100000), some ("GREAT", .int 1000000000), none, some ("MOST_TRIALS", .int 8), some ("MOST_SAID", .int 20), 
    some ("MOST_WORTH", .int 9), some ("MOST_TRIES", .int 20), some ("RULES", .tup [.str "best", .str "last"]), none, none, none, 
    some ("MOST_DAY", .int 999)]
def dl_k22 : DLk := ⟨("law", none), ["_law_script", "_law_d", "_law_school", "_law_late", "_law_most", "_law_rule", "_law_worths", "_law_trials", "_law_last_day", "_law_programs", "_law_rows", "_law_day", "_law_turn", "_law_program", "_law_good", "_law_learner", "_law_k", "_law_some", "_law_row", "_law_due"], f_law_k22, .full⟩
end TS
namespace K22
open PySem PySem.W PySem.Calls PyProof.Rows
abbrev R : OpenRow := OpenLaw.row PySem.Challenge.rw_tryschool_k22_marks_by_rule
abbrev qv : Program := view R.prog [58]
def names0 : List PySem.Str := ["_wall", "SchoolError", "BadTask", "BadDay", "BadName", "NoTask", "NoTry", "BadProgram", "LETTERS", "MOST_ROWS", "MOST_WORTHS", "MOST_DEEP", "MOST_INNER", "MOST_NUMBER", "MOST_INPUTS", "is_number", "is_name", "is_tagged", "WORTHS", "ROWS", "is_worth", "is_row", "worths_at", "worth_at", "blocks_at", "Looker", "need_program", "MOST_LIMIT", "GREAT", "are_inputs"]
def names1 : List PySem.Str := ["is_limit", "Marker", "Run", "ran", "MOST_TRIALS", "MOST_SAID", "MOST_WORTH", "MOST_TRIES", "RULES", "is_told", "is_due", "is_trial", "need_task", "word_of", "words_of", "MOST_DAY", "need_name", "Try", "School", "_law_dice", "_law_off", "_law_alike"]
def names : List PySem.Str := names0 ++ names1
def as_ : List Addr := [2, 3, 21, 31, 44, 56, 68, 80, 92, 111, 120, 125, 132, 133, 134, 141, 146, 153, 160, 167, 198, 209, 214, 221, 255, 325, 336, 337, 344, 349, 356, 361, 368, 373, 380, 397, 559, 568, 575, 580, 585, 20, 30, 43, 55, 67, 79, 91, 110, 119, 124, 131, 140, 145, 152, 159, 166, 197, 208, 213, 220, 254, 324, 335, 343, 348, 355, 360, 367, 372, 379, 396, 558, 567, 574, 579, 584, 108, 181, 188, 195, 235, 242, 247, 252, 273, 280, 287, 294, 301, 308, 315, 322, 394, 415, 422, 429, 434, 439, 444, 449, 454, 459, 466, 473, 481, 488, 495, 502, 507, 514, 521, 528, 535, 542, 549, 556, 107, 180, 187, 194, 234, 241, 246, 251, 272, 279, 286, 293, 300, 307, 314, 321, 393, 414, 421, 428, 433, 438, 443, 448, 453, 458, 465, 472, 480, 474, 487, 494, 501, 506, 513, 520, 527, 534, 541, 548, 555]
def EqAt (w : World) : Prop := HandSHeadRun.RunEq R qv (TS.ld_k22.hookA as_) (TS.ld_k22.obA as_) 40000 names w
theorem runF1 (w : World) : TS.PartL R qv 40000 names (w.withFollow "special-get-raises" false) := by
  intro os
  kernel_rfl
theorem runF2 (w : World) : TS.PartD R TS.ld_k22 as_ 0 64 40000 (w.withFollow "special-get-raises" false) := by
  intro os
  kernel_rfl
theorem runF3 (w : World) : TS.PartR R TS.ld_k22 as_ 64 1000 40000 (w.withFollow "special-get-raises" false) := by
  intro os
  kernel_rfl
theorem runF (w : World) : EqAt (w.withFollow "special-get-raises" false) := TS.run_parts 64 1000 (by decide +kernel) (runF1 w) (runF2 w) (runF3 w)
theorem runT1 (w : World) : TS.PartL R qv 40000 names (w.withFollow "special-get-raises" true) := by
  intro os
  kernel_rfl
theorem runT2 (w : World) : TS.PartD R TS.ld_k22 as_ 0 64 40000 (w.withFollow "special-get-raises" true) := by
  intro os
  kernel_rfl
theorem runT3 (w : World) : TS.PartR R TS.ld_k22 as_ 64 1000 40000 (w.withFollow "special-get-raises" true) := by
  intro os
  kernel_rfl
theorem runT (w : World) : EqAt (w.withFollow "special-get-raises" true) := TS.run_parts 64 1000 (by decide +kernel) (runT1 w) (runT2 w) (runT3 w)
theorem run (w : World) : EqAt w := byRow2 "special-get-raises" (P := EqAt) runF runT w
end K22
end

section
set_option Elab.async false
set_option linter.all false
set_option maxRecDepth 100000
set_option maxHeartbeats 1000000
namespace TS
open PySem
structure Tag {a : Sort u} (x : a) where
def Out.bnd {a b : Type} (m : Out a) (k : a -> Store -> Out b) (t : Tag k := {}) : Out b := m.bind k
def Out.thn {a : Type} (m : Out a) (k : a -> Store -> OutS) (t : Tag k := {}) : OutS := m.then k
def OutS.bnd (m : OutS) (k : Slots -> Store -> OutS) (t : Tag k := {}) : OutS := m.bind k
@[simp] theorem s_evE_c {T : Tab} {f : Phi} {sl : Slots} {st : Store}  : evE T f (.c d) sl st = (.ok d st) := evE_c
@[simp] theorem s_evE_v {T : Tab} {f : Phi} {sl : Slots} {st : Store}  : evE T f (.v i) sl st = (match sl[i]? with
    | some (some d) => .ok d st
    | _ => .bad) := evE_v
@[simp] theorem s_evE_g {T : Tab} {f : Phi} {sl : Slots} {st : Store}  : evE T f (.g i) sl st = (okO (T.gl i) st) := evE_g
@[simp] theorem s_evE_bin {T : Tab} {f : Phi} {sl : Slots} {st : Store}  : evE T f (.bin o a b) sl st = ((evE T f a sl st).bnd fun x st1 => (evE T f b sl st1).bnd fun y st2 => okO (binV o st2 x y) st2) := evE_bin
@[simp] theorem s_evE_neg {T : Tab} {f : Phi} {sl : Slots} {st : Store}  : evE T f (.neg a) sl st = ((evE T f a sl st).bnd fun x st1 => match x with
    | .int i => .ok (.int (-i)) st1
    | _ => .bad) := evE_neg
@[simp] theorem s_evE_cmp {T : Tab} {f : Phi} {sl : Slots} {st : Store}  : evE T f (.cmp o a b) sl st = ((evE T f a sl st).bnd fun x st1 => (evE T f b sl st1).bnd fun y st2 => (okO (cmpV o st2 x y) st2).bnd fun k st3 => .ok (.bl k) st3) := evE_cmp
@[simp] theorem s_evE_chn {T : Tab} {f : Phi} {sl : Slots} {st : Store}  : evE T f (.chn o p a b e) sl st = ((evE T f a sl st).bnd fun x st1 => (evE T f b sl st1).bnd fun y st2 => (okO (cmpV o st2 x y) st2).bnd fun k st3 =>       if k = true then (evE T f e sl st3).bnd fun z st4 => (okO (cmpV p st4 y z) st4).bnd fun k2 st5 => .ok (.bl k2) st5 else .ok (.bl false) st3) := evE_chn
@[simp] theorem s_evE_band {T : Tab} {f : Phi} {sl : Slots} {st : Store}  : evE T f (.band es) sl st = (evAnd T f es sl st) := evE_band
@[simp] theorem s_evE_bor {T : Tab} {f : Phi} {sl : Slots} {st : Store}  : evE T f (.bor es) sl st = (evOr T f es sl st) := evE_bor
@[simp] theorem s_evE_bnot {T : Tab} {f : Phi} {sl : Slots} {st : Store}  : evE T f (.bnot a) sl st = ((evE T f a sl st).bnd fun x st1 => (okO (tru st1 x) st1).bnd fun k st2 => .ok (.bl (!k)) st2) := evE_bnot
@[simp] theorem s_evE_ite {T : Tab} {f : Phi} {sl : Slots} {st : Store}  : evE T f (.ite t a b) sl st = ((evT T f t sl st).bnd fun k st1 => if k = true then evE T f a sl st1 else evE T f b sl st1) := evE_ite
@[simp] theorem s_evE_tup {T : Tab} {f : Phi} {sl : Slots} {st : Store}  : evE T f (.tup es) sl st = ((evEs T f es sl st).bnd fun xs st1 => .ok (.tup xs) st1) := evE_tup
@[simp] theorem s_evE_lst {T : Tab} {f : Phi} {sl : Slots} {st : Store}  : evE T f (.lst es) sl st = ((evEs T f es sl st).bnd fun xs st1 => .ok (.lst xs) st1) := evE_lst
@[simp] theorem s_evE_dct {T : Tab} {f : Phi} {sl : Slots} {st : Store}  : evE T f (.dct ks es) sl st = ((evEs T f es sl st).bnd fun xs st1 => if xs.length = ks.length then .ok (.dic ks xs) st1 else .bad) := evE_dct
@[simp] theorem s_evE_ix {T : Tab} {f : Phi} {sl : Slots} {st : Store}  : evE T f (.ix a i) sl st = ((evE T f a sl st).bnd fun x st1 => (evE T f i sl st1).bnd fun y st2 => okO (ixV st2 x y) st2) := evE_ix
@[simp] theorem s_evE_sl {T : Tab} {f : Phi} {sl : Slots} {st : Store}  : evE T f (.sl a lw hi) sl st = ((evE T f a sl st).bnd fun x st1 => (evEs T f lw sl st1).bnd fun l st2 => (okO (optI l) st2).bnd fun l st2 => (evEs T f hi sl st2).bnd fun h st3 => (okO (optI h) st3).bnd fun h st3 => okO (slV st3 x l h) st3) := evE_sl
@[simp] theorem s_evE_call {T : Tab} {f : Phi} {sl : Slots} {st : Store}  : evE T f (.call g es ds) sl st = ((evEs T f es sl st).bnd fun xs st1 => f g (xs ++ ds) st1) := evE_call
@[simp] theorem s_evE_callk {T : Tab} {f : Phi} {sl : Slots} {st : Store}  : evE T f (.callk g es u1 kes) sl st = ((evEs T f es sl st).bnd fun xs st1 => (evEs T f kes sl st1).bnd fun ys st2 => f g (xs ++ ys) st2) := evE_callk
@[simp] theorem s_evE_bf {T : Tab} {f : Phi} {sl : Slots} {st : Store}  : evE T f (.bf g es) sl st = ((evEs T f es sl st).bnd fun xs st1 => okO (bfV g st1 xs) st1) := evE_bf
@[simp] theorem s_evE_isi {T : Tab} {f : Phi} {sl : Slots} {st : Store}  : evE T f (.isi a ty) sl st = ((evE T f a sl st).bnd fun x st1 => (okO (tyD st1 x) st1).bnd fun t st2 => .ok (.bl (isiV t ty)) st2) := evE_isi
@[simp] theorem s_evE_mth {T : Tab} {f : Phi} {sl : Slots} {st : Store}  : evE T f (.mth C g o es) sl st = ((evE T f o sl st).bnd fun x st1 => match x with
    | .ref n => match st1[n]? with
      | some (.ins C' _) => if C' = C then (evEs T f es sl st1).bnd fun xs st2 => f g (.ref n :: xs) st2 else .bad
      | _ => .bad
    | _ => .bad) := evE_mth
@[simp] theorem s_evE_bm {T : Tab} {f : Phi} {sl : Slots} {st : Store}  : evE T f (.bm m o es) sl st = ((evE T f o sl st).bnd fun x st1 => if bmTy m st1 x = true then (evEs T f es sl st1).bnd fun xs st2 => bmV m st2 x xs else .bad) := evE_bm
@[simp] theorem s_evE_mk {T : Tab} {f : Phi} {sl : Slots} {st : Store}  : evE T f (.mk C es) sl st = ((evEs T f es sl st).bnd fun xs st1 => (f (T.init C) (.ref st1.length :: xs) (st1 ++ [.ins C []])).bnd fun x st2 => match x with
    | .non => .ok (.ref st1.length) st2
    | _ => .bad) := evE_mk
@[simp] theorem s_evE_fld {T : Tab} {f : Phi} {sl : Slots} {st : Store}  : evE T f (.fld C i o) sl st = ((evE T f o sl st).bnd fun x st1 => okO (fldV C i st1 x) st1) := evE_fld
@[simp] theorem s_evE_sh {T : Tab} {f : Phi} {sl : Slots} {st : Store}  : evE T f (.sh e) sl st = ((evE T f e sl st).bnd fun x st1 => shV st1 x) := evE_sh
@[simp] theorem s_evE_fz {T : Tab} {f : Phi} {sl : Slots} {st : Store}  : evE T f (.fz e) sl st = ((evE T f e sl st).bnd fun x st1 => fzV st1 x) := evE_fz
@[simp] theorem s_evE_mthk {T : Tab} {f : Phi} {sl : Slots} {st : Store}  : evE T f (.mthk C g o es ks kes) sl st = ((evE T f o sl st).bnd fun x st1 => match x with
    | .ref n => match st1[n]? with
      | some (.ins C' _) => if C' = C then (evEs T f es sl st1).bnd fun xs st2 => (evEs T f kes sl st2).bnd fun ys st3 => f g (.ref n :: (xs ++ (if ks.isEmpty = true then T.dfl g else ys))) st3 else .bad
      | _ => .bad
    | _ => .bad) := evE_mthk
@[simp] theorem s_evE_lrng3 {T : Tab} {f : Phi} {sl : Slots} {st : Store}  : evE T f (.lrng3 a b c) sl st = ((evE T f a sl st).bnd fun x st1 => (evE T f b sl st1).bnd fun y st2 => (evE T f c sl st2).bnd fun z st3 => match x, y, z with
    | .int i, .int j, .int k => if k = -1 ∧ i ≤ 1000000 ∧ -1000000 ≤ i ∧ j ≤ 1000000 ∧ -1000000 ≤ j then .ok (.lst ((List.range (i - j).toNat).map fun (t : Nat) => .int (i - (t : Int)))) st3 else .bad
    | _, _, _ => .bad) := evE_lrng3
@[simp] theorem s_evEs_nil {T : Tab} {f : Phi} {sl : Slots} {st : Store}  : evEs T f (.nil) sl st = (.ok [] st) := evEs_nil
@[simp] theorem s_evEs_cons {T : Tab} {f : Phi} {sl : Slots} {st : Store}  : evEs T f (.cons e es) sl st = ((evE T f e sl st).bnd fun x st1 => (evEs T f es sl st1).bnd fun xs st2 => .ok (x :: xs) st2) := evEs_cons
@[simp] theorem s_evAnd_nil {T : Tab} {f : Phi} {sl : Slots} {st : Store}  : evAnd T f (.nil) sl st = (.bad) := evAnd_nil
@[simp] theorem s_evAnd_cons1 {T : Tab} {f : Phi} {sl : Slots} {st : Store}  : evAnd T f (.cons e .nil) sl st = (evE T f e sl st) := evAnd_cons1
@[simp] theorem s_evOr_nil {T : Tab} {f : Phi} {sl : Slots} {st : Store}  : evOr T f (.nil) sl st = (.bad) := evOr_nil
@[simp] theorem s_evOr_cons1 {T : Tab} {f : Phi} {sl : Slots} {st : Store}  : evOr T f (.cons e .nil) sl st = (evE T f e sl st) := evOr_cons1
@[simp] theorem s_evT_band {T : Tab} {f : Phi} {sl : Slots} {st : Store}  : evT T f (.band es) sl st = (evTs T f es sl st) := evT_band
@[simp] theorem s_evT_bor {T : Tab} {f : Phi} {sl : Slots} {st : Store}  : evT T f (.bor es) sl st = (evTo T f es sl st) := evT_bor
@[simp] theorem s_evT_bnot {T : Tab} {f : Phi} {sl : Slots} {st : Store}  : evT T f (.bnot a) sl st = ((evT T f a sl st).bnd fun k st1 => .ok (!k) st1) := evT_bnot
@[simp] theorem s_evT_cmp {T : Tab} {f : Phi} {sl : Slots} {st : Store}  : evT T f (.cmp o a b) sl st = ((evE T f a sl st).bnd fun x st1 => (evE T f b sl st1).bnd fun y st2 => okO (cmpV o st2 x y) st2) := evT_cmp
@[simp] theorem s_evT_chn {T : Tab} {f : Phi} {sl : Slots} {st : Store}  : evT T f (.chn o p a b e) sl st = ((evE T f a sl st).bnd fun x st1 => (evE T f b sl st1).bnd fun y st2 => (okO (cmpV o st2 x y) st2).bnd fun k st3 =>       if k = true then (evE T f e sl st3).bnd fun z st4 => okO (cmpV p st4 y z) st4 else .ok false st3) := evT_chn
@[simp] theorem s_evTs_nil {T : Tab} {f : Phi} {sl : Slots} {st : Store}  : evTs T f (.nil) sl st = (.ok true st) := evTs_nil
@[simp] theorem s_evTs_cons {T : Tab} {f : Phi} {sl : Slots} {st : Store}  : evTs T f (.cons e es) sl st = ((evT T f e sl st).bnd fun k st1 => if k = true then evTs T f es sl st1 else .ok false st1) := evTs_cons
@[simp] theorem s_evTo_nil {T : Tab} {f : Phi} {sl : Slots} {st : Store}  : evTo T f (.nil) sl st = (.ok false st) := evTo_nil
@[simp] theorem s_evTo_cons {T : Tab} {f : Phi} {sl : Slots} {st : Store}  : evTo T f (.cons e es) sl st = ((evT T f e sl st).bnd fun k st1 => if k = true then .ok true st1 else evTo T f es sl st1) := evTo_cons
@[simp] theorem s_evI_e {T : Tab} {f : Phi} {sl : Slots} {st : Store}  : evI T f (.e a) sl st = ((evE T f a sl st).bnd fun x st1 => okO (wkOf st1 x) st1) := evI_e
@[simp] theorem s_evI_rng1 {T : Tab} {f : Phi} {sl : Slots} {st : Store}  : evI T f (.rng1 a) sl st = ((evE T f a sl st).bnd fun x st1 => match x with
    | .int n => if n ≤ 1000000000 ∧ -1000000000 ≤ n then .ok ⟨rangeD 0 n.toNat, fun _ => true⟩ st1 else .bad
    | _ => .bad) := evI_rng1
@[simp] theorem s_evI_rng2 {T : Tab} {f : Phi} {sl : Slots} {st : Store}  : evI T f (.rng2 a b) sl st = ((evE T f a sl st).bnd fun x st1 => (evE T f b sl st1).bnd fun y st2 => match x, y with
    | .int m, .int n => if n ≤ 1000000000 ∧ -1000000000 ≤ n ∧ m ≤ 1000000000 ∧ -1000000000 ≤ m then .ok ⟨rangeD m (n - m).toNat, fun _ => true⟩ st2 else .bad
    | _, _ => .bad) := evI_rng2
@[simp] theorem s_evI_enum {T : Tab} {f : Phi} {sl : Slots} {st : Store}  : evI T f (.enum a) sl st = ((evE T f a sl st).bnd fun x st1 => match x with
    | .lst xs => .ok ⟨enumD 0 xs, fun _ => true⟩ st1
    | _ => .bad) := evI_enum
@[simp] theorem s_evI_zip {T : Tab} {f : Phi} {sl : Slots} {st : Store}  : evI T f (.zip a b) sl st = ((evE T f a sl st).bnd fun x st1 => (evE T f b sl st1).bnd fun y st2 => match x, y with
    | .tup xs, .tup ys => .ok ⟨zipD xs ys, fun _ => true⟩ st2
    | _, _ => .bad) := evI_zip
@[simp] theorem s_evI_keysL {T : Tab} {f : Phi} {sl : Slots} {st : Store}  : evI T f (.keysL a) sl st = ((evE T f a sl st).bnd fun x st1 => match x with
    | .ref n => match st1[n]? with
      | some (.ldic ks ds) => .ok ⟨ks.map kD, fun s => lkd n ks ds s⟩ st1
      | _ => .bad
    | _ => .bad) := evI_keysL
@[simp] theorem s_exS_pass {T : Tab} {f : Phi} {sl : Slots} {st : Store}  : exS T f (.pass) sl st = (.next sl st) := exS_pass
@[simp] theorem s_exS_asg {T : Tab} {f : Phi} {sl : Slots} {st : Store}  : exS T f (.asg tg e) sl st = ((evE T f e sl st).thn fun x st1 => nextO (asgV tg sl x) st1) := exS_asg
@[simp] theorem s_exS_par {T : Tab} {f : Phi} {sl : Slots} {st : Store}  : exS T f (.par i j a b) sl st = ((evE T f a sl st).thn fun x st1 => (evE T f b sl st1).thn fun y st2 => .next ((sl.set i (some x)).set j (some y)) st2) := exS_par
@[simp] theorem s_exS_par3 {T : Tab} {f : Phi} {sl : Slots} {st : Store}  : exS T f (.par3 i j k a b c) sl st = ((evE T f a sl st).thn fun x st1 => (evE T f b sl st1).thn fun y st2 => (evE T f c sl st2).thn fun z st3 => .next (((sl.set i (some x)).set j (some y)).set k (some z)) st3) := exS_par3
@[simp] theorem s_exS_augI {T : Tab} {f : Phi} {sl : Slots} {st : Store}  : exS T f (.augI o ix op e) sl st = ((evE T f o sl st).thn fun x st1 => (evE T f ix sl st1).thn fun i st2 => (okO (getIV st2 x i) st2).thn fun u st2 => (evE T f e sl st2).thn fun y st3 => (okO (augV op u y) st3).thn fun z st3 => (setIV st3 x i z).thn fun _ st4 => .next sl st4) := exS_augI
@[simp] theorem s_exS_setF {T : Tab} {f : Phi} {sl : Slots} {st : Store}  : exS T f (.setF C i o e) sl st = ((evE T f e sl st).thn fun y st1 => (evE T f o sl st1).thn fun x st2 => (setFV (T.flds C).length C i st2 x y).thn fun _ st3 => .next sl st3) := exS_setF
@[simp] theorem s_exS_augF {T : Tab} {f : Phi} {sl : Slots} {st : Store}  : exS T f (.augF C i o op e) sl st = ((evE T f o sl st).thn fun x st1 => (okO (fldV C i st1 x) st1).thn fun u st1 => (evE T f e sl st1).thn fun y st2 =>       (okO (augV op u y) st2).thn fun z st2 => (setFV (T.flds C).length C i st2 x z).thn fun _ st3 => .next sl st3) := exS_augF
@[simp] theorem s_exS_aug {T : Tab} {f : Phi} {sl : Slots} {st : Store}  : exS T f (.aug i op e) sl st = (match sl[i]? with
    | some (some u) => (evE T f e sl st).thn fun y st1 => (okO (augV op u y) st1).thn fun z st1 => .next (sl.set i (some z)) st1
    | _ => .bad) := exS_aug
@[simp] theorem s_exS_setI {T : Tab} {f : Phi} {sl : Slots} {st : Store}  : exS T f (.setI o ix e) sl st = ((evE T f e sl st).thn fun y st1 => (evE T f o sl st1).thn fun x st2 => (evE T f ix sl st2).thn fun i st3 => (setIV st3 x i y).thn fun _ st4 => .next sl st4) := exS_setI
@[simp] theorem s_exS_setI2 {T : Tab} {f : Phi} {sl : Slots} {st : Store}  : exS T f (.setI2 o i o2 i2 e) sl st = ((evE T f e sl st).thn fun y st1 => match y with
    | .tup [y1, y2] => (evE T f o sl st1).thn fun x st2 => (evE T f i sl st2).thn fun k st3 => (setIV st3 x k y1).thn fun _ st4 =>
        (evE T f o2 sl st4).thn fun x2 st5 => (evE T f i2 sl st5).thn fun k2 st6 => (setIV st6 x2 k2 y2).thn fun _ st7 => .next sl st7
    | _ => .bad) := exS_setI2
@[simp] theorem s_exS_expr {T : Tab} {f : Phi} {sl : Slots} {st : Store}  : exS T f (.expr e) sl st = ((evE T f e sl st).thn fun _ st1 => .next sl st1) := exS_expr
@[simp] theorem s_exS_ret {T : Tab} {f : Phi} {sl : Slots} {st : Store}  : exS T f (.ret e) sl st = ((evE T f e sl st).thn fun x st1 => .ret x st1) := exS_ret
@[simp] theorem s_exS_ifs {T : Tab} {f : Phi} {sl : Slots} {st : Store}  : exS T f (.ifs t a b) sl st = ((evT T f t sl st).thn fun k st1 => if k = true then exSs T f a sl st1 else exSs T f b sl st1) := exS_ifs
@[simp] theorem s_exS_forK {T : Tab} {f : Phi} {sl : Slots} {st : Store}  : exS T f (.forK tg e b) sl st = (match evE T f e sl st with
    | .ok (.ref n) _ => match st[n]? with
      | some (.dic ks ds) => unlk n ks ds ((evI T f (.keysL e) sl (st.set n (.ldic ks ds))).thn fun w st1 => forLoop w.ok tg (fun sl2 st2 => exSs T f b sl2 st2) w.xs sl st1)
      | _ => .bad
    | _ => .bad) := exS_forK
@[simp] theorem s_exS_lock {T : Tab} {f : Phi} {sl : Slots} {st : Store}  : exS T f (.lock e s) sl st = (match evE T f e sl st with
    | .ok (.ref n) _ => match st[n]? with
      | some (.dic ks ds) => unlk n ks ds (exS T f s sl (st.set n (.ldic ks ds)))
      | _ => .bad
    | _ => .bad) := exS_lock
@[simp] theorem s_exS_rais {T : Tab} {f : Phi} {sl : Slots} {st : Store}  : exS T f (.rais c es) sl st = ((evEs T f es sl st).thn fun xs st1 => match xs with
    | [] => .exc c .non st1
    | [x] => .exc c x st1
    | _ => .bad) := exS_rais
@[simp low] theorem s_exSs_nil {T : Tab} {f : Phi} {sl : Slots} {st : Store}  : exSs T f (.nil) sl st = (.next sl st) := exSs_nil
@[simp low] theorem s_exSs_cons {T : Tab} {f : Phi} {sl : Slots} {st : Store}  : exSs T f (.cons s ss) sl st = ((exS T f s sl st).bnd fun sl1 st1 => exSs T f ss sl1 st1) := exSs_cons
end TS
end

section
set_option Elab.async false
set_option linter.all false
set_option maxRecDepth 100000
set_option maxHeartbeats 1000000
set_option autoImplicit false
namespace TS
open PySem
section
variable {α β : Type} {a : α} {st : Store} {c : Nat} {x : D} {sl : Slots} {T : Tab} {f : Phi}
@[simp] theorem bind_ok {k : α → Store → Out β} : (Out.ok a st).bind k = k a st := rfl
@[simp] theorem bind_exc {k : α → Store → Out β} : (Out.exc c x st : Out α).bind k = .exc c x st := rfl
@[simp] theorem bind_bad {k : α → Store → Out β} : (Out.bad : Out α).bind k = .bad := rfl
@[simp] theorem then_ok {k : α → Store → OutS} : (Out.ok a st).then k = k a st := rfl
@[simp] theorem then_exc {k : α → Store → OutS} : (Out.exc c x st : Out α).then k = .exc c x st := rfl
@[simp] theorem then_bad {k : α → Store → OutS} : (Out.bad : Out α).then k = .bad := rfl
@[simp] theorem bindS_next {k : Slots → Store → OutS} : (OutS.next sl st).bind k = k sl st := rfl
@[simp] theorem bindS_ret {k : Slots → Store → OutS} : (OutS.ret x st).bind k = .ret x st := rfl
@[simp] theorem bindS_exc {k : Slots → Store → OutS} : (OutS.exc c x st).bind k = .exc c x st := rfl
@[simp] theorem bindS_bad {k : Slots → Store → OutS} : OutS.bad.bind k = .bad := rfl
@[simp] theorem bq_ok {k : α → Store → Out β} {t : Tag k} : (Out.ok a st).bnd k t = k a st := rfl
@[simp] theorem bq_exc {k : α → Store → Out β} {t : Tag k} : (Out.exc c x st : Out α).bnd k t = .exc c x st := rfl
@[simp] theorem bq_bad {k : α → Store → Out β} {t : Tag k} : (Out.bad : Out α).bnd k t = .bad := rfl
@[simp] theorem thn_ok {k : α → Store → OutS} {t : Tag k} : (Out.ok a st).thn k t = k a st := rfl
@[simp] theorem thn_exc {k : α → Store → OutS} {t : Tag k} : (Out.exc c x st : Out α).thn k t = .exc c x st := rfl
@[simp] theorem thn_bad {k : α → Store → OutS} {t : Tag k} : (Out.bad : Out α).thn k t = .bad := rfl
@[simp] theorem bndS_next {k : Slots → Store → OutS} {t : Tag k} : (OutS.next sl st).bnd k t = k sl st := rfl
@[simp] theorem bndS_ret {k : Slots → Store → OutS} {t : Tag k} : (OutS.ret x st).bnd k t = .ret x st := rfl
@[simp] theorem bndS_exc {k : Slots → Store → OutS} {t : Tag k} : (OutS.exc c x st).bnd k t = .exc c x st := rfl
@[simp] theorem bndS_bad {k : Slots → Store → OutS} {t : Tag k} : OutS.bad.bnd k t = .bad := rfl
@[simp] theorem okO_some : okO (some a) st = .ok a st := rfl
@[simp] theorem okO_none : (okO none st : Out α) = .bad := rfl
@[simp] theorem nextO_some : nextO (some sl) st = .next sl st := rfl
@[simp] theorem nextO_none : nextO none st = .bad := rfl
@[simp] theorem nox_ok : nox (Out.ok a st) = .ok a st := rfl
@[simp] theorem nox_bad : nox (Out.bad : Out α) = .bad := rfl
@[simp] theorem evT_v {i : Nat} : evT T f (.v i) sl st = ((evE T f (.v i) sl st).bnd fun x st1 => okO (tru st1 x) st1) := evT_e rfl
@[simp] theorem evT_c {d : D} : evT T f (.c d) sl st = ((evE T f (.c d) sl st).bnd fun x st1 => okO (tru st1 x) st1) := evT_e rfl
@[simp] theorem evT_isi {e : DE} {t : String} : evT T f (.isi e t) sl st = ((evE T f (.isi e t) sl st).bnd fun x st1 => okO (tru st1 x) st1) := evT_e rfl
@[simp] theorem evT_call {g : Nat} {es : DEs} {ds : List D} : evT T f (.call g es ds) sl st = ((evE T f (.call g es ds) sl st).bnd fun x st1 => okO (tru st1 x) st1) := evT_e rfl
@[simp] theorem evT_mth {C g : Nat} {o : DE} {es : DEs} : evT T f (.mth C g o es) sl st = ((evE T f (.mth C g o es) sl st).bnd fun x st1 => okO (tru st1 x) st1) := evT_e rfl
@[simp] theorem evT_fld {C i : Nat} {o : DE} : evT T f (.fld C i o) sl st = ((evE T f (.fld C i o) sl st).bnd fun x st1 => okO (tru st1 x) st1) := evT_e rfl
@[simp] theorem evT_ix {a i : DE} : evT T f (.ix a i) sl st = ((evE T f (.ix a i) sl st).bnd fun x st1 => okO (tru st1 x) st1) := evT_e rfl
@[simp] theorem evT_bf {g : Bf} {es : DEs} : evT T f (.bf g es) sl st = ((evE T f (.bf g es) sl st).bnd fun x st1 => okO (tru st1 x) st1) := evT_e rfl
theorem callD_of {k g : Nat} {dd : DDef} {args : List D} (h : T.fn g = some dd) (hn : args.length = dd.np) : callD T (k + 1) g args st = fin dd.drops st (exSs T (if dd.leaf = true then callD T 0 else callD T k) dd.body (startD dd args) st) := by
  rw [callD, h]
  simp only [hn, if_true]
end
def boolK (x : D) (a b : Out D) : Out D := match x with
  | .bl true => a
  | .bl false => b
  | _ => .bad
section
variable {st : Store} {T : Tab} {f : Phi} {sl : Slots} {e e2 : DE} {es : DEs} {α : Type} {c : Prop} [Decidable c]
@[simp] theorem boolK_bl {p : Bool} {a b : Out D} : boolK (.bl p) a b = if p = true then a else b := by cases p <;> rfl
@[simp] theorem s_evAnd_cons : evAnd T f (.cons e (.cons e2 es)) sl st = ((evE T f e sl st).bnd fun x st1 => boolK x (evAnd T f (.cons e2 es) sl st1) (.ok (.bl false) st1)) := evAnd_cons
@[simp] theorem s_evOr_cons : evOr T f (.cons e (.cons e2 es)) sl st = ((evE T f e sl st).bnd fun x st1 => boolK x (.ok (.bl true) st1) (evOr T f (.cons e2 es) sl st1)) := by
  show _ = ((evE T f e sl st).bind fun x st1 => boolK x (.ok (.bl true) st1) (evOr T f (.cons e2 es) sl st1))
  rw [evOr_cons]
  congr 1
  funext x st1
  cases x <;> first | rfl | (rename_i b; cases b <;> rfl)
@[simp] theorem ite_ok {a b : α} : (if c then Out.ok a st else Out.ok b st) = Out.ok (if c then a else b) st := by split <;> rfl
@[simp] theorem ite_bl {p q : Bool} : (if c then D.bl p else D.bl q) = D.bl (if c then p else q) := by split <;> rfl
@[simp] theorem ite_int {i j : Int} : (if c then D.int i else D.int j) = D.int (if c then i else j) := by split <;> rfl
@[simp] theorem ite_str {i j : Str} : (if c then D.str i else D.str j) = D.str (if c then i else j) := by split <;> rfl
@[simp] theorem ite_some {a b : α} : (if c then some a else some b) = some (if c then a else b) := by split <;> rfl
end
def lcR (T : Tab) (f : Phi) (e : DE) (tg : Tg) (cs : DEs) (own : List Nat) (sl : Slots) (ok : Store → Bool) (xs : List D) (st : Store) : Out (List D) :=
  lcLoop ok (fun x st2 => match asgV tg (wipeD sl own) x with
        | some sl2 => (evTs T f cs sl2 st2).bind fun k st3 => if k = true then (evE T f e sl2 st3).bind fun y st4 => .ok (some y) st4 else .ok none st3
        | none => .bad) xs st
def lcT (T : Tab) (f : Phi) (e : DE) (tg : Tg) (cs : DEs) (own : List Nat) (sl : Slots) (x : D) (st : Store) : Out (Option D) := match asgV tg (wipeD sl own) x with
        | some sl2 => (evTs T f cs sl2 st).bind fun k st3 => if k = true then (evE T f e sl2 st3).bind fun y st4 => .ok (some y) st4 else .ok none st3
        | none => .bad
def forR (T : Tab) (f : Phi) (tg : Tg) (b : DSs) (ok : Store → Bool) (xs : List D) (sl : Slots) (st : Store) : OutS := forLoop ok tg (fun sl2 st2 => exSs T f b sl2 st2) xs sl st
def whlR (T : Tab) (f : Phi) (t : DE) (b : DSs) (n : Nat) (sl : Slots) (st : Store) : OutS := whlLoop (fun sl2 st2 => evT T f t sl2 st2) (fun sl2 st2 => exSs T f b sl2 st2) n sl st
section
variable {ok : Store → Bool} {tg : Tg} {sl : Slots} {st : Store} {x : D} {xs : List D} {T : Tab} {f : Phi} {e t : DE} {it : DI} {cs : DEs} {own : List Nat} {b : DSs} {n : Nat}
@[simp] theorem s_evE_lc : evE T f (.lc e tg it cs own) sl st = ((evI T f it sl st).bnd fun w st1 => nox <| (lcR T f e tg cs own sl w.ok w.xs st1).bnd fun ys st2 => if ys.length ≤ LIM then .ok (.lst ys) st2 else .bad) := evE_lc
@[simp] theorem s_exS_for : exS T f (.for_ tg it b) sl st = ((evI T f it sl st).thn fun w st1 => forR T f tg b w.ok w.xs sl st1) := exS_for_
@[simp] theorem s_exS_whl : exS T f (.whl t b) sl st = whlR T f t b WF sl st := exS_whl
@[simp] theorem for_nil : forR T f tg b ok [] sl st = if ok st then .next sl st else .bad := rfl
@[simp] theorem for_cons : forR T f tg b ok (x :: xs) sl st = if ok st then (match asgV tg sl x with
        | some sl1 => (exSs T f b sl1 st).bnd fun sl2 st2 => forR T f tg b ok xs sl2 st2
        | none => .bad) else .bad := rfl
theorem whl_succ : whlR T f t b (n + 1) sl st = (evT T f t sl st).then fun k st1 => if k = true then (exSs T f b sl st1).bind fun sl2 st2 => whlR T f t b n sl2 st2 else .next sl st1 := rfl
@[simp] theorem lcR_nil : lcR T f e tg cs own sl ok [] st = if ok st then .ok [] st else .bad := rfl
@[simp] theorem lcR_cons : lcR T f e tg cs own sl ok (x :: xs) st = if ok st then
      (lcT T f e tg cs own sl x st).bnd fun o st1 => (lcR T f e tg cs own sl ok xs st1).bnd fun ys st2 => .ok (match o with | some y => y :: ys | none => ys) st2
    else .bad := rfl
theorem lcT_eq : lcT T f e tg cs own sl x st = match asgV tg (wipeD sl own) x with
        | some sl2 => (evTs T f cs sl2 st).bnd fun k st3 => if k = true then (evE T f e sl2 st3).bnd fun y st4 => .ok (some y) st4 else .ok none st3
        | none => .bad := rfl
theorem lcR_map {g : D → D} (hok : ok st = true) : ∀ {xs : List D}, (∀ x ∈ xs, lcT T f e tg cs own sl x st = .ok (some (g x)) st) → lcR T f e tg cs own sl ok xs st = .ok (xs.map g) st
  | [], _ => by simp [hok]
  | x :: xs, h => by
    have ih := lcR_map hok (xs := xs) fun y hy => h y (List.mem_cons_of_mem _ hy)
    simp [hok, h x List.mem_cons_self, ih]
theorem lcR_filt {g : D → Option D} (hok : ok st = true) : ∀ {xs : List D}, (∀ x ∈ xs, lcT T f e tg cs own sl x st = .ok (g x) st) → lcR T f e tg cs own sl ok xs st = .ok (xs.filterMap g) st
  | [], _ => by simp [hok]
  | x :: xs, h => by
    have ih := lcR_filt hok (xs := xs) fun y hy => h y (List.mem_cons_of_mem _ hy)
    simp only [lcR_cons, hok, if_true, h x List.mem_cons_self, bq_ok, ih]
    cases q : g x <;> simp [List.filterMap_cons, q]
@[simp] theorem stays_tup {ys : List D} : stays st (.tup xs) ys = true := rfl
@[simp] theorem stays_lst {ys : List D} : stays st (.lst xs) ys = true := rfl
@[simp] theorem wkOf_tup : wkOf st (.tup xs) = some ⟨xs, fun _ => true⟩ := rfl
@[simp] theorem wkOf_lst : wkOf st (.lst xs) = some ⟨xs, fun _ => true⟩ := rfl
@[simp] theorem wkOf_str {z : Str} : wkOf st (.str z) = some ⟨z.cps.toList.map fun c => .str ⟨#[c]⟩, fun _ => true⟩ := rfl
@[simp] theorem wkOf_scr {ns : List Int} : wkOf st (.scr ns) = some ⟨ns.map .int, fun _ => true⟩ := rfl
@[simp] theorem st_get0 {p q : Store} {a : SO} : (p ++ a :: q)[p.length]? = some a := by simp
@[simp] theorem st_get1 {p q : Store} {a b : SO} : (p ++ a :: b :: q)[p.length + 1]? = some b := by simp
@[simp] theorem st_get2 {p q : Store} {a b c : SO} : (p ++ a :: b :: c :: q)[p.length + 2]? = some c := by simp
@[simp] theorem st_set0 {p q : Store} {a x : SO} : (p ++ a :: q).set p.length x = p ++ x :: q := by simp
@[simp] theorem st_set1 {p q : Store} {a b x : SO} : (p ++ a :: b :: q).set (p.length + 1) x = p ++ a :: x :: q := by simp
@[simp] theorem st_set2 {p q : Store} {a b c x : SO} : (p ++ a :: b :: c :: q).set (p.length + 2) x = p ++ a :: b :: x :: q := by simp
end
mutual
theorem D.beq_refl : ∀ (d : D), D.beq d d = true
  | .non => by unfold D.beq; rfl
  | .bl b => by unfold D.beq; exact decide_eq_true rfl
  | .int b => by unfold D.beq; exact decide_eq_true rfl
  | .str b => by unfold D.beq; exact decide_eq_true rfl
  | .tup xs => by unfold D.beq; exact D.beqs_refl xs
  | .lst xs => by unfold D.beq; exact D.beqs_refl xs
  | .dic k xs => by unfold D.beq; rw [D.beqs_refl xs, decide_eq_true rfl]; rfl
  | .ref b => by unfold D.beq; exact decide_eq_true rfl
  | .lam k xs => by unfold D.beq; rw [D.beqs_refl xs, decide_eq_true rfl]; rfl
  | .scr b => by unfold D.beq; exact decide_eq_true rfl
  | .kdic k xs => by unfold D.beq; rw [D.beqs_refl xs, decide_eq_true rfl]; rfl
theorem D.beqs_refl : ∀ (ds : List D), D.beqs ds ds = true
  | [] => by unfold D.beqs; rfl
  | d :: r => by unfold D.beqs; rw [D.beq_refl d, D.beqs_refl r]; rfl
end
theorem SO.beq_refl : ∀ (o : SO), SO.beq o o = true
  | .dead => rfl
  | .lst xs => D.beqs_refl xs
  | .dic k xs => by show (decide (k = k) && D.beqs xs xs) = true; rw [D.beqs_refl xs, decide_eq_true rfl]; rfl
  | .ldic k xs => by show (decide (k = k) && D.beqs xs xs) = true; rw [D.beqs_refl xs, decide_eq_true rfl]; rfl
  | .ins k xs => by show (decide (k = k) && D.beqs xs xs) = true; rw [D.beqs_refl xs, decide_eq_true rfl]; rfl
@[simp] theorem pre_app : ∀ {st r : Store}, pre st (st ++ r) = true
  | [], r => by rw [pre]
  | a :: s, r => by
    show pre (a :: s) (a :: (s ++ r)) = true
    rw [pre, SO.beq_refl, pre_app]; rfl
@[simp] theorem pre_self {st : Store} : pre st st = true := by
  have := pre_app (st := st) (r := [])
  rwa [List.append_nil] at this
section
variable {st st1 : Store} {d : D} {sl : Slots} {c : Nat}
@[simp] theorem fin_ret : fin false st (.ret d st1) = .ok d st1 := rfl
@[simp] theorem fin_next : fin false st (.next sl st1) = .ok .non st1 := rfl
@[simp] theorem fin_exc : fin false st (.exc c d st1) = .exc c d st1 := rfl
@[simp] theorem fin_retT : fin true st (.ret d st1) = (if (noRef d && pre st st1) = true then .ok d st else .bad) := rfl
@[simp] theorem fin_nextT : fin true st (.next sl st1) = (if pre st st1 = true then .ok .non st else .bad) := rfl
@[simp] theorem fin_excT : fin true st (.exc c d st1) = (if (noRef d && pre st st1) = true then .exc c d st else .bad) := rfl
end
section
variable {st : Store} {i j : Int} {b : Bool} {s z : Str} {xs ys : List D} {d : D}
@[simp] theorem noRef_non : noRef .non = true := rfl
@[simp] theorem noRef_bl : noRef (.bl b) = true := rfl
@[simp] theorem noRef_int : noRef (.int i) = true := rfl
@[simp] theorem noRef_str : noRef (.str s) = true := rfl
@[simp] theorem noRef_tup : noRef (.tup xs) = noRefs xs := by rw [noRef]
@[simp] theorem noRef_lst : noRef (.lst xs) = noRefs xs := by rw [noRef]
@[simp] theorem noRefs_nil : noRefs [] = true := rfl
@[simp] theorem noRefs_cons : noRefs (d :: xs) = (noRef d && noRefs xs) := by rw [noRefs]
@[simp] theorem tyD_non : tyD st .non = some "NoneType" := rfl
@[simp] theorem tyD_bl : tyD st (.bl b) = some "bool" := rfl
@[simp] theorem tyD_int : tyD st (.int i) = some "int" := rfl
@[simp] theorem tyD_str : tyD st (.str s) = some "str" := rfl
@[simp] theorem tyD_tup : tyD st (.tup xs) = some "tuple" := rfl
@[simp] theorem tyD_lst : tyD st (.lst xs) = some "list" := rfl
@[simp] theorem isiV_ii : isiV "int" "int" = true := by decide
@[simp] theorem isiV_ib : isiV "int" "bool" = false := by decide
@[simp] theorem isiV_is : isiV "int" "str" = false := by decide
@[simp] theorem isiV_it : isiV "int" "tuple" = false := by decide
@[simp] theorem isiV_il : isiV "int" "list" = false := by decide
@[simp] theorem isiV_bi : isiV "bool" "int" = true := by decide
@[simp] theorem isiV_bb : isiV "bool" "bool" = true := by decide
@[simp] theorem isiV_bs : isiV "bool" "str" = false := by decide
@[simp] theorem isiV_bt : isiV "bool" "tuple" = false := by decide
@[simp] theorem isiV_bl : isiV "bool" "list" = false := by decide
@[simp] theorem isiV_si : isiV "str" "int" = false := by decide
@[simp] theorem isiV_sb : isiV "str" "bool" = false := by decide
@[simp] theorem isiV_ss : isiV "str" "str" = true := by decide
@[simp] theorem isiV_st : isiV "str" "tuple" = false := by decide
@[simp] theorem isiV_sl : isiV "str" "list" = false := by decide
@[simp] theorem isiV_ti : isiV "tuple" "int" = false := by decide
@[simp] theorem isiV_tb : isiV "tuple" "bool" = false := by decide
@[simp] theorem isiV_ts : isiV "tuple" "str" = false := by decide
@[simp] theorem isiV_tt : isiV "tuple" "tuple" = true := by decide
@[simp] theorem isiV_tl : isiV "tuple" "list" = false := by decide
@[simp] theorem isiV_li : isiV "list" "int" = false := by decide
@[simp] theorem isiV_lb : isiV "list" "bool" = false := by decide
@[simp] theorem isiV_ls : isiV "list" "str" = false := by decide
@[simp] theorem isiV_lt : isiV "list" "tuple" = false := by decide
@[simp] theorem isiV_ll : isiV "list" "list" = true := by decide
@[simp] theorem tru_non : tru st .non = some false := rfl
@[simp] theorem tru_bl : tru st (.bl b) = some b := rfl
@[simp] theorem tru_int : tru st (.int i) = some (i != 0) := rfl
@[simp] theorem tru_tup : tru st (.tup xs) = some (!xs.isEmpty) := rfl
@[simp] theorem tru_lst : tru st (.lst xs) = some (!xs.isEmpty) := rfl
@[simp] theorem items_tup : items st (.tup xs) = some xs := rfl
@[simp] theorem items_lst : items st (.lst xs) = some xs := rfl
@[simp] theorem litems_lst : litems st (.lst xs) = some xs := rfl
@[simp] theorem cmp_lt : cmpV .lt st (.int i) (.int j) = some (decide (i < j)) := rfl
@[simp] theorem cmp_le : cmpV .le st (.int i) (.int j) = some (decide (i ≤ j)) := rfl
@[simp] theorem cmp_gt : cmpV .gt st (.int i) (.int j) = some (decide (j < i)) := rfl
@[simp] theorem cmp_ge : cmpV .ge st (.int i) (.int j) = some (decide (j ≤ i)) := rfl
@[simp] theorem cmp_eq {x y : D} : cmpV .eq st x y = eqv? st x y := rfl
@[simp] theorem cmp_ne {x y : D} : cmpV .ne st x y = (eqv? st x y).map not := rfl
@[simp] theorem cmp_isN {x : D} : cmpV .isN st x .non = some (isN x) := rfl
@[simp] theorem cmp_notN {x : D} : cmpV .notN st x .non = some (!isN x) := rfl
@[simp] theorem cmp_in {x y : D} : cmpV .in_ st x y = inV? st x y := rfl
@[simp] theorem cmp_notIn {x y : D} : cmpV .notIn st x y = (inV? st x y).map not := rfl
@[simp] theorem isN_non : isN .non = true := rfl
@[simp] theorem isN_bl : isN (.bl b) = false := rfl
@[simp] theorem isN_int : isN (.int i) = false := rfl
@[simp] theorem isN_str : isN (.str s) = false := rfl
@[simp] theorem isN_tup : isN (.tup xs) = false := rfl
@[simp] theorem isN_lst : isN (.lst xs) = false := rfl
@[simp] theorem bin_addI : binV .add st (.int i) (.int j) = some (.int (i + j)) := rfl
@[simp] theorem bin_subI : binV .sub st (.int i) (.int j) = some (.int (i - j)) := rfl
@[simp] theorem lenD_tup : lenD st (.tup xs) = some xs.length := rfl
@[simp] theorem lenD_lst : lenD st (.lst xs) = some xs.length := rfl
@[simp] theorem bf_len : bfV .len st [d] = Option.map (fun (n : Nat) => D.int (n : Int)) (lenD st d) := rfl
@[simp] theorem bf_intB : bfV .int st [.bl b] = some (.int (boolB b)) := rfl
@[simp] theorem bf_intI : bfV .int st [.int i] = some (.int i) := rfl
@[simp] theorem bf_abs : bfV .abs st [.int i] = some (.int (absI i)) := rfl
@[simp] theorem bf_all : bfV .all st [d] = ((litems st d).bind boolsD).map fun bs => .bl (bs.all id) := rfl
@[simp] theorem bf_sum : bfV .sum st [d] = ((litems st d).bind intsD).map fun ns => .int ns.sum := rfl
@[simp] theorem bf_tuple : bfV .tuple st [d] = (items st d).map .tup := rfl
@[simp] theorem boolsD_nil : boolsD [] = some [] := rfl
@[simp] theorem boolsD_cons : boolsD (.bl b :: xs) = (boolsD xs).map (b :: ·) := rfl
@[simp] theorem aug_add : augV .add (.int i) (.int j) = some (.int (i + j)) := rfl
@[simp] theorem aug_sub : augV .sub (.int i) (.int j) = some (.int (i - j)) := rfl
@[simp] theorem ixV_tup : ixV st (.tup xs) (.int i) = L2.atI xs i := rfl
@[simp] theorem ixV_lst : ixV st (.lst xs) (.int i) = L2.atI xs i := rfl
@[simp] theorem asg_n {sl : Slots} {n : Nat} {x : D} : asgV (.n n) sl x = some (sl.set n (some x)) := rfl
end
def sOk (s : Str) : Bool := s.cps.toList.all fun c => decide (c < 1114112)
theorem strOk_eq {s : Str} : PyData.strOk s = sOk s := by
  unfold PyData.strOk sOk
  rw [Array.all_toList]
mutual
def pl : D → Bool
  | .non => true
  | .bl _ => true
  | .int _ => true
  | .str s => sOk s
  | .tup xs => pls xs
  | .lst xs => pls xs
  | _ => false
def pls : List D → Bool
  | [] => true
  | x :: r => pl x && pls r
end
mutual
def dp : D → Nat
  | .tup xs => dps xs + 1
  | .lst xs => dps xs + 1
  | _ => 0
def dps : List D → Nat
  | [] => 0
  | x :: r => max (dp x) (dps r)
end
mutual
def eqD : D → D → Bool
  | .non, .non => true
  | .bl a, .bl b => a == b
  | .bl a, .int j => (if a then 1 else 0) == j
  | .int i, .bl b => i == (if b then 1 else 0)
  | .int i, .int j => i == j
  | .str x, .str y => x == y
  | .lst xs, .lst ys => eqDs xs ys
  | .tup xs, .tup ys => eqDs xs ys
  | _, _ => false
def eqDs : List D → List D → Bool
  | [], [] => true
  | x :: xs, y :: ys => eqD x y && eqDs xs ys
  | _, _ => false
end
mutual
theorem pl_py : ∀ {x : D}, pl x = true → ∃ p, toPy x = some p ∧ PyData.canLay0 p = true ∧ PyData.depth p = dp x
  | .non, _ => ⟨_, rfl, rfl, rfl⟩
  | .bl _, _ => ⟨_, rfl, rfl, rfl⟩
  | .int _, _ => ⟨_, rfl, rfl, rfl⟩
  | .str s, h => ⟨_, rfl, by unfold pl at h; simpa [PyData.canLay0, strOk_eq] using h, by simp [PyData.depth, dp]⟩
  | .tup xs, h => by
    unfold pl at h
    obtain ⟨ps, h1, h2, h3⟩ := pls_py h
    exact ⟨.tuple ps, by simp [toPy, h1], by simpa [PyData.canLay0] using h2, by simp [PyData.depth, dp, h3]⟩
  | .lst xs, h => by
    unfold pl at h
    obtain ⟨ps, h1, h2, h3⟩ := pls_py h
    exact ⟨.list ps, by simp [toPy, h1], by simpa [PyData.canLay0] using h2, by simp [PyData.depth, dp, h3]⟩
theorem pls_py : ∀ {xs : List D}, pls xs = true → ∃ ps, toPys xs = some ps ∧ PyData.canLayAll0 ps = true ∧ PyData.depthAll ps = dps xs
  | [], _ => ⟨[], rfl, rfl, rfl⟩
  | x :: r, h => by
    unfold pls at h
    obtain ⟨p, h1, h2, h3⟩ := pl_py (and2 h).1
    obtain ⟨ps, k1, k2, k3⟩ := pls_py (and2 h).2
    exact ⟨p :: ps, by simp [toPys, h1, k1], by simp [PyData.canLayAll0, h2, k2], by simp [PyData.depthAll, dps, h3, k3]⟩
end
mutual
theorem eq_py : ∀ {x y : D} {p q : PyData}, toPy x = some p → toPy y = some q → PyData.eqv p q = eqD x y := by
  intro x y p q h1 h2
  cases x <;> simp only [toPy, Option.some.injEq, Option.map_eq_some_iff, reduceCtorEq] at h1 <;> cases y <;> simp only [toPy, Option.some.injEq, Option.map_eq_some_iff, reduceCtorEq] at h2
  all_goals first
    | (subst h1 h2; simp [PyData.eqv, eqD]; done)
    | (obtain ⟨ps, h1, rfl⟩ := h1; obtain ⟨qs, h2, rfl⟩ := h2; simp only [PyData.eqv, eqD]; done)
    | (obtain ⟨ps, h1, rfl⟩ := h1; obtain ⟨qs, h2, rfl⟩ := h2; simp only [PyData.eqv, eqD]; first | rfl | exact eq_pys h1 h2)
    | (obtain ⟨ps, h1, rfl⟩ := h1; subst h2; simp [PyData.eqv, eqD]; done)
    | (obtain ⟨ps, h2, rfl⟩ := h2; subst h1; simp [PyData.eqv, eqD]; done)
theorem eq_pys : ∀ {xs ys : List D} {ps qs : List PyData}, toPys xs = some ps → toPys ys = some qs → PyData.eqvAll ps qs = eqDs xs ys
  | [], [], _, _, h1, h2 => by cases h1; cases h2; simp [PyData.eqvAll, eqDs]
  | [], y :: ys, ps, qs, h1, h2 => by
    cases h1
    unfold toPys at h2
    split at h2 <;> cases h2
    simp [PyData.eqvAll, eqDs]
  | x :: xs, [], ps, qs, h1, h2 => by
    cases h2
    unfold toPys at h1
    split at h1 <;> cases h1
    simp [PyData.eqvAll, eqDs]
  | x :: xs, y :: ys, ps, qs, h1, h2 => by
    unfold toPys at h1 h2
    split at h1 <;> cases h1
    rename_i a b e1 e2
    split at h2 <;> cases h2
    rename_i c d e3 e4
    simp only [PyData.eqvAll, eqDs]
    rw [eq_py e1 e3, eq_pys e2 e4]
end
theorem eqv_pl {st : Store} {x y : D} (h1 : pl x = true) (h2 : pl y = true) (h3 : dp x ≤ 64) (h4 : dp y ≤ 64) : eqv? st x y = some (eqD x y) := by
  obtain ⟨p, a1, a2, a3⟩ := pl_py h1
  obtain ⟨q, b1, b2, b3⟩ := pl_py h2
  have e1 : pyOf st x = some p := by
    cases x <;> first | exact a1 | (unfold pl at h1; cases h1)
  have e2 : pyOf st y = some q := by
    cases y <;> first | exact b1 | (unfold pl at h2; cases h2)
  unfold eqv?
  rw [e1, e2]
  simp only
  rw [if_pos]
  · rw [eq_py a1 b1]
  · unfold SeqAt.shaped
    rw [a2, b2, a3, b3, decide_eq_true h3, decide_eq_true h4]; rfl
section
variable {st : Store} {i j : Int} {a b : Bool} {s z : Str} {xs ys : List D}
@[simp] theorem eqv_int : eqv? st (.int i) (.int j) = some (decide (i = j)) := by
  rw [eqv_pl rfl rfl (Nat.zero_le _) (Nat.zero_le _)]
  exact congrArg some (Bool.eq_iff_iff.mpr (by show ((i == j) = true) ↔ _; rw [beq_iff_eq, decide_eq_true_iff]))
@[simp] theorem eqv_str (h1 : sOk s = true) (h2 : sOk z = true) : eqv? st (.str s) (.str z) = some (decide (s = z)) := by
  rw [eqv_pl (by unfold pl; exact h1) (by unfold pl; exact h2) (Nat.zero_le _) (Nat.zero_le _)]
  exact congrArg some (Bool.eq_iff_iff.mpr (by show ((s == z) = true) ↔ _; rw [beq_iff_eq, decide_eq_true_iff]))
@[simp] theorem eqv_bl : eqv? st (.bl a) (.bl b) = some (decide (a = b)) := by
  rw [eqv_pl rfl rfl (Nat.zero_le _) (Nat.zero_le _)]
  cases a <;> cases b <;> rfl
@[simp] theorem eqv_refR {x : D} {n : Nat} : eqv? st x (.ref n) = (match st[n]? with | some (.lst xs) => eqv? st x (.lst xs) | _ => none) := by
  unfold eqv?
  have e : pyOf st (.ref n) = (match st[n]? with | some (.lst xs) => (toPys xs).map .list | _ => none) := rfl
  rw [e]
  cases st[n]? with
  | none => cases pyOf st x <;> rfl
  | some o =>
    cases o with
    | lst xs => simp only [pyOf, toPy]
    | _ => cases pyOf st x <;> rfl
@[simp] theorem eqv_refL {x : D} {n : Nat} : eqv? st (.ref n) x = (match st[n]? with | some (.lst xs) => eqv? st (.lst xs) x | _ => none) := by
  unfold eqv?
  have e : pyOf st (.ref n) = (match st[n]? with | some (.lst xs) => (toPys xs).map .list | _ => none) := rfl
  rw [e]
  cases st[n]? with
  | none => rfl
  | some o =>
    cases o with
    | lst xs => simp only [pyOf, toPy]
    | _ => rfl
end
end TS
end

section
set_option Elab.async false
set_option linter.all false
set_option autoImplicit false
namespace TS
open PySem
@[simp] theorem w_num : sOk (Str.ofString "num") = true := by decide
@[simp] theorem w_in : sOk (Str.ofString "in") = true := by decide
@[simp] theorem w_get : sOk (Str.ofString "get") = true := by decide
@[simp] theorem w_not : sOk (Str.ofString "not") = true := by decide
@[simp] theorem w_plus : sOk (Str.ofString "plus") = true := by decide
@[simp] theorem w_minus : sOk (Str.ofString "minus") = true := by decide
@[simp] theorem w_times : sOk (Str.ofString "times") = true := by decide
@[simp] theorem w_over : sOk (Str.ofString "over") = true := by decide
@[simp] theorem w_less : sOk (Str.ofString "less") = true := by decide
@[simp] theorem w_same : sOk (Str.ofString "same") = true := by decide
@[simp] theorem w_and : sOk (Str.ofString "and") = true := by decide
@[simp] theorem w_or : sOk (Str.ofString "or") = true := by decide
@[simp] theorem w_set : sOk (Str.ofString "set") = true := by decide
@[simp] theorem w_say : sOk (Str.ofString "say") = true := by decide
@[simp] theorem w_give : sOk (Str.ofString "give") = true := by decide
@[simp] theorem w_if : sOk (Str.ofString "if") = true := by decide
@[simp] theorem w_while : sOk (Str.ofString "while") = true := by decide
@[simp] theorem w_gave : sOk (Str.ofString "gave") = true := by decide
@[simp] theorem w_fell : sOk (Str.ofString "fell") = true := by decide
@[simp] theorem w_tired : sOk (Str.ofString "tired") = true := by decide
@[simp] theorem w_unset : sOk (Str.ofString "unset") = true := by decide
@[simp] theorem w_unread : sOk (Str.ofString "unread") = true := by decide
@[simp] theorem w_nought : sOk (Str.ofString "nought") = true := by decide
@[simp] theorem w_great : sOk (Str.ofString "great") = true := by decide
@[simp] theorem w_num_in : (Str.ofString "num" = Str.ofString "in") = False := by decide
@[simp] theorem w_num_get : (Str.ofString "num" = Str.ofString "get") = False := by decide
@[simp] theorem w_num_not : (Str.ofString "num" = Str.ofString "not") = False := by decide
@[simp] theorem w_num_plus : (Str.ofString "num" = Str.ofString "plus") = False := by decide
@[simp] theorem w_num_minus : (Str.ofString "num" = Str.ofString "minus") = False := by decide
@[simp] theorem w_num_times : (Str.ofString "num" = Str.ofString "times") = False := by decide
@[simp] theorem w_num_over : (Str.ofString "num" = Str.ofString "over") = False := by decide
@[simp] theorem w_num_less : (Str.ofString "num" = Str.ofString "less") = False := by decide
@[simp] theorem w_num_same : (Str.ofString "num" = Str.ofString "same") = False := by decide
@[simp] theorem w_num_and : (Str.ofString "num" = Str.ofString "and") = False := by decide
@[simp] theorem w_num_or : (Str.ofString "num" = Str.ofString "or") = False := by decide
@[simp] theorem w_num_set : (Str.ofString "num" = Str.ofString "set") = False := by decide
@[simp] theorem w_num_say : (Str.ofString "num" = Str.ofString "say") = False := by decide
@[simp] theorem w_num_give : (Str.ofString "num" = Str.ofString "give") = False := by decide
@[simp] theorem w_num_if : (Str.ofString "num" = Str.ofString "if") = False := by decide
@[simp] theorem w_num_while : (Str.ofString "num" = Str.ofString "while") = False := by decide
@[simp] theorem w_num_gave : (Str.ofString "num" = Str.ofString "gave") = False := by decide
@[simp] theorem w_num_fell : (Str.ofString "num" = Str.ofString "fell") = False := by decide
@[simp] theorem w_num_tired : (Str.ofString "num" = Str.ofString "tired") = False := by decide
@[simp] theorem w_num_unset : (Str.ofString "num" = Str.ofString "unset") = False := by decide
@[simp] theorem w_num_unread : (Str.ofString "num" = Str.ofString "unread") = False := by decide
@[simp] theorem w_num_nought : (Str.ofString "num" = Str.ofString "nought") = False := by decide
@[simp] theorem w_num_great : (Str.ofString "num" = Str.ofString "great") = False := by decide
@[simp] theorem w_in_num : (Str.ofString "in" = Str.ofString "num") = False := by decide
@[simp] theorem w_in_get : (Str.ofString "in" = Str.ofString "get") = False := by decide
@[simp] theorem w_in_not : (Str.ofString "in" = Str.ofString "not") = False := by decide
@[simp] theorem w_in_plus : (Str.ofString "in" = Str.ofString "plus") = False := by decide
@[simp] theorem w_in_minus : (Str.ofString "in" = Str.ofString "minus") = False := by decide
@[simp] theorem w_in_times : (Str.ofString "in" = Str.ofString "times") = False := by decide
@[simp] theorem w_in_over : (Str.ofString "in" = Str.ofString "over") = False := by decide
@[simp] theorem w_in_less : (Str.ofString "in" = Str.ofString "less") = False := by decide
@[simp] theorem w_in_same : (Str.ofString "in" = Str.ofString "same") = False := by decide
@[simp] theorem w_in_and : (Str.ofString "in" = Str.ofString "and") = False := by decide
@[simp] theorem w_in_or : (Str.ofString "in" = Str.ofString "or") = False := by decide
@[simp] theorem w_in_set : (Str.ofString "in" = Str.ofString "set") = False := by decide
@[simp] theorem w_in_say : (Str.ofString "in" = Str.ofString "say") = False := by decide
@[simp] theorem w_in_give : (Str.ofString "in" = Str.ofString "give") = False := by decide
@[simp] theorem w_in_if : (Str.ofString "in" = Str.ofString "if") = False := by decide
@[simp] theorem w_in_while : (Str.ofString "in" = Str.ofString "while") = False := by decide
@[simp] theorem w_in_gave : (Str.ofString "in" = Str.ofString "gave") = False := by decide
@[simp] theorem w_in_fell : (Str.ofString "in" = Str.ofString "fell") = False := by decide
@[simp] theorem w_in_tired : (Str.ofString "in" = Str.ofString "tired") = False := by decide
@[simp] theorem w_in_unset : (Str.ofString "in" = Str.ofString "unset") = False := by decide
@[simp] theorem w_in_unread : (Str.ofString "in" = Str.ofString "unread") = False := by decide
@[simp] theorem w_in_nought : (Str.ofString "in" = Str.ofString "nought") = False := by decide
@[simp] theorem w_in_great : (Str.ofString "in" = Str.ofString "great") = False := by decide
@[simp] theorem w_get_num : (Str.ofString "get" = Str.ofString "num") = False := by decide
@[simp] theorem w_get_in : (Str.ofString "get" = Str.ofString "in") = False := by decide
@[simp] theorem w_get_not : (Str.ofString "get" = Str.ofString "not") = False := by decide
@[simp] theorem w_get_plus : (Str.ofString "get" = Str.ofString "plus") = False := by decide
@[simp] theorem w_get_minus : (Str.ofString "get" = Str.ofString "minus") = False := by decide
@[simp] theorem w_get_times : (Str.ofString "get" = Str.ofString "times") = False := by decide
@[simp] theorem w_get_over : (Str.ofString "get" = Str.ofString "over") = False := by decide
@[simp] theorem w_get_less : (Str.ofString "get" = Str.ofString "less") = False := by decide
@[simp] theorem w_get_same : (Str.ofString "get" = Str.ofString "same") = False := by decide
@[simp] theorem w_get_and : (Str.ofString "get" = Str.ofString "and") = False := by decide
@[simp] theorem w_get_or : (Str.ofString "get" = Str.ofString "or") = False := by decide
@[simp] theorem w_get_set : (Str.ofString "get" = Str.ofString "set") = False := by decide
@[simp] theorem w_get_say : (Str.ofString "get" = Str.ofString "say") = False := by decide
@[simp] theorem w_get_give : (Str.ofString "get" = Str.ofString "give") = False := by decide
@[simp] theorem w_get_if : (Str.ofString "get" = Str.ofString "if") = False := by decide
@[simp] theorem w_get_while : (Str.ofString "get" = Str.ofString "while") = False := by decide
@[simp] theorem w_get_gave : (Str.ofString "get" = Str.ofString "gave") = False := by decide
@[simp] theorem w_get_fell : (Str.ofString "get" = Str.ofString "fell") = False := by decide
@[simp] theorem w_get_tired : (Str.ofString "get" = Str.ofString "tired") = False := by decide
@[simp] theorem w_get_unset : (Str.ofString "get" = Str.ofString "unset") = False := by decide
@[simp] theorem w_get_unread : (Str.ofString "get" = Str.ofString "unread") = False := by decide
@[simp] theorem w_get_nought : (Str.ofString "get" = Str.ofString "nought") = False := by decide
@[simp] theorem w_get_great : (Str.ofString "get" = Str.ofString "great") = False := by decide
@[simp] theorem w_not_num : (Str.ofString "not" = Str.ofString "num") = False := by decide
@[simp] theorem w_not_in : (Str.ofString "not" = Str.ofString "in") = False := by decide
@[simp] theorem w_not_get : (Str.ofString "not" = Str.ofString "get") = False := by decide
@[simp] theorem w_not_plus : (Str.ofString "not" = Str.ofString "plus") = False := by decide
@[simp] theorem w_not_minus : (Str.ofString "not" = Str.ofString "minus") = False := by decide
@[simp] theorem w_not_times : (Str.ofString "not" = Str.ofString "times") = False := by decide
@[simp] theorem w_not_over : (Str.ofString "not" = Str.ofString "over") = False := by decide
@[simp] theorem w_not_less : (Str.ofString "not" = Str.ofString "less") = False := by decide
@[simp] theorem w_not_same : (Str.ofString "not" = Str.ofString "same") = False := by decide
@[simp] theorem w_not_and : (Str.ofString "not" = Str.ofString "and") = False := by decide
@[simp] theorem w_not_or : (Str.ofString "not" = Str.ofString "or") = False := by decide
@[simp] theorem w_not_set : (Str.ofString "not" = Str.ofString "set") = False := by decide
@[simp] theorem w_not_say : (Str.ofString "not" = Str.ofString "say") = False := by decide
@[simp] theorem w_not_give : (Str.ofString "not" = Str.ofString "give") = False := by decide
@[simp] theorem w_not_if : (Str.ofString "not" = Str.ofString "if") = False := by decide
@[simp] theorem w_not_while : (Str.ofString "not" = Str.ofString "while") = False := by decide
@[simp] theorem w_not_gave : (Str.ofString "not" = Str.ofString "gave") = False := by decide
@[simp] theorem w_not_fell : (Str.ofString "not" = Str.ofString "fell") = False := by decide
@[simp] theorem w_not_tired : (Str.ofString "not" = Str.ofString "tired") = False := by decide
@[simp] theorem w_not_unset : (Str.ofString "not" = Str.ofString "unset") = False := by decide
@[simp] theorem w_not_unread : (Str.ofString "not" = Str.ofString "unread") = False := by decide
@[simp] theorem w_not_nought : (Str.ofString "not" = Str.ofString "nought") = False := by decide
@[simp] theorem w_not_great : (Str.ofString "not" = Str.ofString "great") = False := by decide
@[simp] theorem w_plus_num : (Str.ofString "plus" = Str.ofString "num") = False := by decide
@[simp] theorem w_plus_in : (Str.ofString "plus" = Str.ofString "in") = False := by decide
@[simp] theorem w_plus_get : (Str.ofString "plus" = Str.ofString "get") = False := by decide
@[simp] theorem w_plus_not : (Str.ofString "plus" = Str.ofString "not") = False := by decide
@[simp] theorem w_plus_minus : (Str.ofString "plus" = Str.ofString "minus") = False := by decide
@[simp] theorem w_plus_times : (Str.ofString "plus" = Str.ofString "times") = False := by decide
@[simp] theorem w_plus_over : (Str.ofString "plus" = Str.ofString "over") = False := by decide
@[simp] theorem w_plus_less : (Str.ofString "plus" = Str.ofString "less") = False := by decide
@[simp] theorem w_plus_same : (Str.ofString "plus" = Str.ofString "same") = False := by decide
@[simp] theorem w_plus_and : (Str.ofString "plus" = Str.ofString "and") = False := by decide
@[simp] theorem w_plus_or : (Str.ofString "plus" = Str.ofString "or") = False := by decide
@[simp] theorem w_plus_set : (Str.ofString "plus" = Str.ofString "set") = False := by decide
@[simp] theorem w_plus_say : (Str.ofString "plus" = Str.ofString "say") = False := by decide
@[simp] theorem w_plus_give : (Str.ofString "plus" = Str.ofString "give") = False := by decide
@[simp] theorem w_plus_if : (Str.ofString "plus" = Str.ofString "if") = False := by decide
@[simp] theorem w_plus_while : (Str.ofString "plus" = Str.ofString "while") = False := by decide
@[simp] theorem w_plus_gave : (Str.ofString "plus" = Str.ofString "gave") = False := by decide
@[simp] theorem w_plus_fell : (Str.ofString "plus" = Str.ofString "fell") = False := by decide
@[simp] theorem w_plus_tired : (Str.ofString "plus" = Str.ofString "tired") = False := by decide
@[simp] theorem w_plus_unset : (Str.ofString "plus" = Str.ofString "unset") = False := by decide
@[simp] theorem w_plus_unread : (Str.ofString "plus" = Str.ofString "unread") = False := by decide
@[simp] theorem w_plus_nought : (Str.ofString "plus" = Str.ofString "nought") = False := by decide
@[simp] theorem w_plus_great : (Str.ofString "plus" = Str.ofString "great") = False := by decide
@[simp] theorem w_minus_num : (Str.ofString "minus" = Str.ofString "num") = False := by decide
@[simp] theorem w_minus_in : (Str.ofString "minus" = Str.ofString "in") = False := by decide
@[simp] theorem w_minus_get : (Str.ofString "minus" = Str.ofString "get") = False := by decide
@[simp] theorem w_minus_not : (Str.ofString "minus" = Str.ofString "not") = False := by decide
@[simp] theorem w_minus_plus : (Str.ofString "minus" = Str.ofString "plus") = False := by decide
@[simp] theorem w_minus_times : (Str.ofString "minus" = Str.ofString "times") = False := by decide
@[simp] theorem w_minus_over : (Str.ofString "minus" = Str.ofString "over") = False := by decide
@[simp] theorem w_minus_less : (Str.ofString "minus" = Str.ofString "less") = False := by decide
@[simp] theorem w_minus_same : (Str.ofString "minus" = Str.ofString "same") = False := by decide
@[simp] theorem w_minus_and : (Str.ofString "minus" = Str.ofString "and") = False := by decide
@[simp] theorem w_minus_or : (Str.ofString "minus" = Str.ofString "or") = False := by decide
@[simp] theorem w_minus_set : (Str.ofString "minus" = Str.ofString "set") = False := by decide
@[simp] theorem w_minus_say : (Str.ofString "minus" = Str.ofString "say") = False := by decide
@[simp] theorem w_minus_give : (Str.ofString "minus" = Str.ofString "give") = False := by decide
@[simp] theorem w_minus_if : (Str.ofString "minus" = Str.ofString "if") = False := by decide
@[simp] theorem w_minus_while : (Str.ofString "minus" = Str.ofString "while") = False := by decide
@[simp] theorem w_minus_gave : (Str.ofString "minus" = Str.ofString "gave") = False := by decide
@[simp] theorem w_minus_fell : (Str.ofString "minus" = Str.ofString "fell") = False := by decide
@[simp] theorem w_minus_tired : (Str.ofString "minus" = Str.ofString "tired") = False := by decide
@[simp] theorem w_minus_unset : (Str.ofString "minus" = Str.ofString "unset") = False := by decide
@[simp] theorem w_minus_unread : (Str.ofString "minus" = Str.ofString "unread") = False := by decide
@[simp] theorem w_minus_nought : (Str.ofString "minus" = Str.ofString "nought") = False := by decide
@[simp] theorem w_minus_great : (Str.ofString "minus" = Str.ofString "great") = False := by decide
@[simp] theorem w_times_num : (Str.ofString "times" = Str.ofString "num") = False := by decide
@[simp] theorem w_times_in : (Str.ofString "times" = Str.ofString "in") = False := by decide
@[simp] theorem w_times_get : (Str.ofString "times" = Str.ofString "get") = False := by decide
@[simp] theorem w_times_not : (Str.ofString "times" = Str.ofString "not") = False := by decide
@[simp] theorem w_times_plus : (Str.ofString "times" = Str.ofString "plus") = False := by decide
@[simp] theorem w_times_minus : (Str.ofString "times" = Str.ofString "minus") = False := by decide
@[simp] theorem w_times_over : (Str.ofString "times" = Str.ofString "over") = False := by decide
@[simp] theorem w_times_less : (Str.ofString "times" = Str.ofString "less") = False := by decide
@[simp] theorem w_times_same : (Str.ofString "times" = Str.ofString "same") = False := by decide
@[simp] theorem w_times_and : (Str.ofString "times" = Str.ofString "and") = False := by decide
@[simp] theorem w_times_or : (Str.ofString "times" = Str.ofString "or") = False := by decide
@[simp] theorem w_times_set : (Str.ofString "times" = Str.ofString "set") = False := by decide
@[simp] theorem w_times_say : (Str.ofString "times" = Str.ofString "say") = False := by decide
@[simp] theorem w_times_give : (Str.ofString "times" = Str.ofString "give") = False := by decide
@[simp] theorem w_times_if : (Str.ofString "times" = Str.ofString "if") = False := by decide
@[simp] theorem w_times_while : (Str.ofString "times" = Str.ofString "while") = False := by decide
@[simp] theorem w_times_gave : (Str.ofString "times" = Str.ofString "gave") = False := by decide
@[simp] theorem w_times_fell : (Str.ofString "times" = Str.ofString "fell") = False := by decide
@[simp] theorem w_times_tired : (Str.ofString "times" = Str.ofString "tired") = False := by decide
@[simp] theorem w_times_unset : (Str.ofString "times" = Str.ofString "unset") = False := by decide
@[simp] theorem w_times_unread : (Str.ofString "times" = Str.ofString "unread") = False := by decide
@[simp] theorem w_times_nought : (Str.ofString "times" = Str.ofString "nought") = False := by decide
@[simp] theorem w_times_great : (Str.ofString "times" = Str.ofString "great") = False := by decide
@[simp] theorem w_over_num : (Str.ofString "over" = Str.ofString "num") = False := by decide
@[simp] theorem w_over_in : (Str.ofString "over" = Str.ofString "in") = False := by decide
@[simp] theorem w_over_get : (Str.ofString "over" = Str.ofString "get") = False := by decide
@[simp] theorem w_over_not : (Str.ofString "over" = Str.ofString "not") = False := by decide
@[simp] theorem w_over_plus : (Str.ofString "over" = Str.ofString "plus") = False := by decide
@[simp] theorem w_over_minus : (Str.ofString "over" = Str.ofString "minus") = False := by decide
@[simp] theorem w_over_times : (Str.ofString "over" = Str.ofString "times") = False := by decide
@[simp] theorem w_over_less : (Str.ofString "over" = Str.ofString "less") = False := by decide
@[simp] theorem w_over_same : (Str.ofString "over" = Str.ofString "same") = False := by decide
@[simp] theorem w_over_and : (Str.ofString "over" = Str.ofString "and") = False := by decide
@[simp] theorem w_over_or : (Str.ofString "over" = Str.ofString "or") = False := by decide
@[simp] theorem w_over_set : (Str.ofString "over" = Str.ofString "set") = False := by decide
@[simp] theorem w_over_say : (Str.ofString "over" = Str.ofString "say") = False := by decide
@[simp] theorem w_over_give : (Str.ofString "over" = Str.ofString "give") = False := by decide
@[simp] theorem w_over_if : (Str.ofString "over" = Str.ofString "if") = False := by decide
@[simp] theorem w_over_while : (Str.ofString "over" = Str.ofString "while") = False := by decide
@[simp] theorem w_over_gave : (Str.ofString "over" = Str.ofString "gave") = False := by decide
@[simp] theorem w_over_fell : (Str.ofString "over" = Str.ofString "fell") = False := by decide
@[simp] theorem w_over_tired : (Str.ofString "over" = Str.ofString "tired") = False := by decide
@[simp] theorem w_over_unset : (Str.ofString "over" = Str.ofString "unset") = False := by decide
@[simp] theorem w_over_unread : (Str.ofString "over" = Str.ofString "unread") = False := by decide
@[simp] theorem w_over_nought : (Str.ofString "over" = Str.ofString "nought") = False := by decide
@[simp] theorem w_over_great : (Str.ofString "over" = Str.ofString "great") = False := by decide
@[simp] theorem w_less_num : (Str.ofString "less" = Str.ofString "num") = False := by decide
@[simp] theorem w_less_in : (Str.ofString "less" = Str.ofString "in") = False := by decide
@[simp] theorem w_less_get : (Str.ofString "less" = Str.ofString "get") = False := by decide
@[simp] theorem w_less_not : (Str.ofString "less" = Str.ofString "not") = False := by decide
@[simp] theorem w_less_plus : (Str.ofString "less" = Str.ofString "plus") = False := by decide
@[simp] theorem w_less_minus : (Str.ofString "less" = Str.ofString "minus") = False := by decide
@[simp] theorem w_less_times : (Str.ofString "less" = Str.ofString "times") = False := by decide
@[simp] theorem w_less_over : (Str.ofString "less" = Str.ofString "over") = False := by decide
@[simp] theorem w_less_same : (Str.ofString "less" = Str.ofString "same") = False := by decide
@[simp] theorem w_less_and : (Str.ofString "less" = Str.ofString "and") = False := by decide
@[simp] theorem w_less_or : (Str.ofString "less" = Str.ofString "or") = False := by decide
@[simp] theorem w_less_set : (Str.ofString "less" = Str.ofString "set") = False := by decide
@[simp] theorem w_less_say : (Str.ofString "less" = Str.ofString "say") = False := by decide
@[simp] theorem w_less_give : (Str.ofString "less" = Str.ofString "give") = False := by decide
@[simp] theorem w_less_if : (Str.ofString "less" = Str.ofString "if") = False := by decide
@[simp] theorem w_less_while : (Str.ofString "less" = Str.ofString "while") = False := by decide
@[simp] theorem w_less_gave : (Str.ofString "less" = Str.ofString "gave") = False := by decide
@[simp] theorem w_less_fell : (Str.ofString "less" = Str.ofString "fell") = False := by decide
@[simp] theorem w_less_tired : (Str.ofString "less" = Str.ofString "tired") = False := by decide
@[simp] theorem w_less_unset : (Str.ofString "less" = Str.ofString "unset") = False := by decide
@[simp] theorem w_less_unread : (Str.ofString "less" = Str.ofString "unread") = False := by decide
@[simp] theorem w_less_nought : (Str.ofString "less" = Str.ofString "nought") = False := by decide
@[simp] theorem w_less_great : (Str.ofString "less" = Str.ofString "great") = False := by decide
@[simp] theorem w_same_num : (Str.ofString "same" = Str.ofString "num") = False := by decide
@[simp] theorem w_same_in : (Str.ofString "same" = Str.ofString "in") = False := by decide
@[simp] theorem w_same_get : (Str.ofString "same" = Str.ofString "get") = False := by decide
@[simp] theorem w_same_not : (Str.ofString "same" = Str.ofString "not") = False := by decide
@[simp] theorem w_same_plus : (Str.ofString "same" = Str.ofString "plus") = False := by decide
@[simp] theorem w_same_minus : (Str.ofString "same" = Str.ofString "minus") = False := by decide
@[simp] theorem w_same_times : (Str.ofString "same" = Str.ofString "times") = False := by decide
@[simp] theorem w_same_over : (Str.ofString "same" = Str.ofString "over") = False := by decide
@[simp] theorem w_same_less : (Str.ofString "same" = Str.ofString "less") = False := by decide
@[simp] theorem w_same_and : (Str.ofString "same" = Str.ofString "and") = False := by decide
@[simp] theorem w_same_or : (Str.ofString "same" = Str.ofString "or") = False := by decide
@[simp] theorem w_same_set : (Str.ofString "same" = Str.ofString "set") = False := by decide
@[simp] theorem w_same_say : (Str.ofString "same" = Str.ofString "say") = False := by decide
@[simp] theorem w_same_give : (Str.ofString "same" = Str.ofString "give") = False := by decide
@[simp] theorem w_same_if : (Str.ofString "same" = Str.ofString "if") = False := by decide
@[simp] theorem w_same_while : (Str.ofString "same" = Str.ofString "while") = False := by decide
@[simp] theorem w_same_gave : (Str.ofString "same" = Str.ofString "gave") = False := by decide
@[simp] theorem w_same_fell : (Str.ofString "same" = Str.ofString "fell") = False := by decide
@[simp] theorem w_same_tired : (Str.ofString "same" = Str.ofString "tired") = False := by decide
@[simp] theorem w_same_unset : (Str.ofString "same" = Str.ofString "unset") = False := by decide
@[simp] theorem w_same_unread : (Str.ofString "same" = Str.ofString "unread") = False := by decide
@[simp] theorem w_same_nought : (Str.ofString "same" = Str.ofString "nought") = False := by decide
@[simp] theorem w_same_great : (Str.ofString "same" = Str.ofString "great") = False := by decide
@[simp] theorem w_and_num : (Str.ofString "and" = Str.ofString "num") = False := by decide
@[simp] theorem w_and_in : (Str.ofString "and" = Str.ofString "in") = False := by decide
@[simp] theorem w_and_get : (Str.ofString "and" = Str.ofString "get") = False := by decide
@[simp] theorem w_and_not : (Str.ofString "and" = Str.ofString "not") = False := by decide
@[simp] theorem w_and_plus : (Str.ofString "and" = Str.ofString "plus") = False := by decide
@[simp] theorem w_and_minus : (Str.ofString "and" = Str.ofString "minus") = False := by decide
@[simp] theorem w_and_times : (Str.ofString "and" = Str.ofString "times") = False := by decide
@[simp] theorem w_and_over : (Str.ofString "and" = Str.ofString "over") = False := by decide
@[simp] theorem w_and_less : (Str.ofString "and" = Str.ofString "less") = False := by decide
@[simp] theorem w_and_same : (Str.ofString "and" = Str.ofString "same") = False := by decide
@[simp] theorem w_and_or : (Str.ofString "and" = Str.ofString "or") = False := by decide
@[simp] theorem w_and_set : (Str.ofString "and" = Str.ofString "set") = False := by decide
@[simp] theorem w_and_say : (Str.ofString "and" = Str.ofString "say") = False := by decide
@[simp] theorem w_and_give : (Str.ofString "and" = Str.ofString "give") = False := by decide
@[simp] theorem w_and_if : (Str.ofString "and" = Str.ofString "if") = False := by decide
@[simp] theorem w_and_while : (Str.ofString "and" = Str.ofString "while") = False := by decide
@[simp] theorem w_and_gave : (Str.ofString "and" = Str.ofString "gave") = False := by decide
@[simp] theorem w_and_fell : (Str.ofString "and" = Str.ofString "fell") = False := by decide
@[simp] theorem w_and_tired : (Str.ofString "and" = Str.ofString "tired") = False := by decide
@[simp] theorem w_and_unset : (Str.ofString "and" = Str.ofString "unset") = False := by decide
@[simp] theorem w_and_unread : (Str.ofString "and" = Str.ofString "unread") = False := by decide
@[simp] theorem w_and_nought : (Str.ofString "and" = Str.ofString "nought") = False := by decide
@[simp] theorem w_and_great : (Str.ofString "and" = Str.ofString "great") = False := by decide
@[simp] theorem w_or_num : (Str.ofString "or" = Str.ofString "num") = False := by decide
@[simp] theorem w_or_in : (Str.ofString "or" = Str.ofString "in") = False := by decide
@[simp] theorem w_or_get : (Str.ofString "or" = Str.ofString "get") = False := by decide
@[simp] theorem w_or_not : (Str.ofString "or" = Str.ofString "not") = False := by decide
@[simp] theorem w_or_plus : (Str.ofString "or" = Str.ofString "plus") = False := by decide
@[simp] theorem w_or_minus : (Str.ofString "or" = Str.ofString "minus") = False := by decide
@[simp] theorem w_or_times : (Str.ofString "or" = Str.ofString "times") = False := by decide
@[simp] theorem w_or_over : (Str.ofString "or" = Str.ofString "over") = False := by decide
@[simp] theorem w_or_less : (Str.ofString "or" = Str.ofString "less") = False := by decide
@[simp] theorem w_or_same : (Str.ofString "or" = Str.ofString "same") = False := by decide
@[simp] theorem w_or_and : (Str.ofString "or" = Str.ofString "and") = False := by decide
@[simp] theorem w_or_set : (Str.ofString "or" = Str.ofString "set") = False := by decide
@[simp] theorem w_or_say : (Str.ofString "or" = Str.ofString "say") = False := by decide
@[simp] theorem w_or_give : (Str.ofString "or" = Str.ofString "give") = False := by decide
@[simp] theorem w_or_if : (Str.ofString "or" = Str.ofString "if") = False := by decide
@[simp] theorem w_or_while : (Str.ofString "or" = Str.ofString "while") = False := by decide
@[simp] theorem w_or_gave : (Str.ofString "or" = Str.ofString "gave") = False := by decide
@[simp] theorem w_or_fell : (Str.ofString "or" = Str.ofString "fell") = False := by decide
@[simp] theorem w_or_tired : (Str.ofString "or" = Str.ofString "tired") = False := by decide
@[simp] theorem w_or_unset : (Str.ofString "or" = Str.ofString "unset") = False := by decide
@[simp] theorem w_or_unread : (Str.ofString "or" = Str.ofString "unread") = False := by decide
@[simp] theorem w_or_nought : (Str.ofString "or" = Str.ofString "nought") = False := by decide
@[simp] theorem w_or_great : (Str.ofString "or" = Str.ofString "great") = False := by decide
@[simp] theorem w_set_num : (Str.ofString "set" = Str.ofString "num") = False := by decide
@[simp] theorem w_set_in : (Str.ofString "set" = Str.ofString "in") = False := by decide
@[simp] theorem w_set_get : (Str.ofString "set" = Str.ofString "get") = False := by decide
@[simp] theorem w_set_not : (Str.ofString "set" = Str.ofString "not") = False := by decide
@[simp] theorem w_set_plus : (Str.ofString "set" = Str.ofString "plus") = False := by decide
@[simp] theorem w_set_minus : (Str.ofString "set" = Str.ofString "minus") = False := by decide
@[simp] theorem w_set_times : (Str.ofString "set" = Str.ofString "times") = False := by decide
@[simp] theorem w_set_over : (Str.ofString "set" = Str.ofString "over") = False := by decide
@[simp] theorem w_set_less : (Str.ofString "set" = Str.ofString "less") = False := by decide
@[simp] theorem w_set_same : (Str.ofString "set" = Str.ofString "same") = False := by decide
@[simp] theorem w_set_and : (Str.ofString "set" = Str.ofString "and") = False := by decide
@[simp] theorem w_set_or : (Str.ofString "set" = Str.ofString "or") = False := by decide
@[simp] theorem w_set_say : (Str.ofString "set" = Str.ofString "say") = False := by decide
@[simp] theorem w_set_give : (Str.ofString "set" = Str.ofString "give") = False := by decide
@[simp] theorem w_set_if : (Str.ofString "set" = Str.ofString "if") = False := by decide
@[simp] theorem w_set_while : (Str.ofString "set" = Str.ofString "while") = False := by decide
@[simp] theorem w_set_gave : (Str.ofString "set" = Str.ofString "gave") = False := by decide
@[simp] theorem w_set_fell : (Str.ofString "set" = Str.ofString "fell") = False := by decide
@[simp] theorem w_set_tired : (Str.ofString "set" = Str.ofString "tired") = False := by decide
@[simp] theorem w_set_unset : (Str.ofString "set" = Str.ofString "unset") = False := by decide
@[simp] theorem w_set_unread : (Str.ofString "set" = Str.ofString "unread") = False := by decide
@[simp] theorem w_set_nought : (Str.ofString "set" = Str.ofString "nought") = False := by decide
@[simp] theorem w_set_great : (Str.ofString "set" = Str.ofString "great") = False := by decide
@[simp] theorem w_say_num : (Str.ofString "say" = Str.ofString "num") = False := by decide
@[simp] theorem w_say_in : (Str.ofString "say" = Str.ofString "in") = False := by decide
@[simp] theorem w_say_get : (Str.ofString "say" = Str.ofString "get") = False := by decide
@[simp] theorem w_say_not : (Str.ofString "say" = Str.ofString "not") = False := by decide
@[simp] theorem w_say_plus : (Str.ofString "say" = Str.ofString "plus") = False := by decide
@[simp] theorem w_say_minus : (Str.ofString "say" = Str.ofString "minus") = False := by decide
@[simp] theorem w_say_times : (Str.ofString "say" = Str.ofString "times") = False := by decide
@[simp] theorem w_say_over : (Str.ofString "say" = Str.ofString "over") = False := by decide
@[simp] theorem w_say_less : (Str.ofString "say" = Str.ofString "less") = False := by decide
@[simp] theorem w_say_same : (Str.ofString "say" = Str.ofString "same") = False := by decide
@[simp] theorem w_say_and : (Str.ofString "say" = Str.ofString "and") = False := by decide
@[simp] theorem w_say_or : (Str.ofString "say" = Str.ofString "or") = False := by decide
@[simp] theorem w_say_set : (Str.ofString "say" = Str.ofString "set") = False := by decide
@[simp] theorem w_say_give : (Str.ofString "say" = Str.ofString "give") = False := by decide
@[simp] theorem w_say_if : (Str.ofString "say" = Str.ofString "if") = False := by decide
@[simp] theorem w_say_while : (Str.ofString "say" = Str.ofString "while") = False := by decide
@[simp] theorem w_say_gave : (Str.ofString "say" = Str.ofString "gave") = False := by decide
@[simp] theorem w_say_fell : (Str.ofString "say" = Str.ofString "fell") = False := by decide
@[simp] theorem w_say_tired : (Str.ofString "say" = Str.ofString "tired") = False := by decide
@[simp] theorem w_say_unset : (Str.ofString "say" = Str.ofString "unset") = False := by decide
@[simp] theorem w_say_unread : (Str.ofString "say" = Str.ofString "unread") = False := by decide
@[simp] theorem w_say_nought : (Str.ofString "say" = Str.ofString "nought") = False := by decide
@[simp] theorem w_say_great : (Str.ofString "say" = Str.ofString "great") = False := by decide
@[simp] theorem w_give_num : (Str.ofString "give" = Str.ofString "num") = False := by decide
@[simp] theorem w_give_in : (Str.ofString "give" = Str.ofString "in") = False := by decide
@[simp] theorem w_give_get : (Str.ofString "give" = Str.ofString "get") = False := by decide
@[simp] theorem w_give_not : (Str.ofString "give" = Str.ofString "not") = False := by decide
@[simp] theorem w_give_plus : (Str.ofString "give" = Str.ofString "plus") = False := by decide
@[simp] theorem w_give_minus : (Str.ofString "give" = Str.ofString "minus") = False := by decide
@[simp] theorem w_give_times : (Str.ofString "give" = Str.ofString "times") = False := by decide
@[simp] theorem w_give_over : (Str.ofString "give" = Str.ofString "over") = False := by decide
@[simp] theorem w_give_less : (Str.ofString "give" = Str.ofString "less") = False := by decide
@[simp] theorem w_give_same : (Str.ofString "give" = Str.ofString "same") = False := by decide
@[simp] theorem w_give_and : (Str.ofString "give" = Str.ofString "and") = False := by decide
@[simp] theorem w_give_or : (Str.ofString "give" = Str.ofString "or") = False := by decide
@[simp] theorem w_give_set : (Str.ofString "give" = Str.ofString "set") = False := by decide
@[simp] theorem w_give_say : (Str.ofString "give" = Str.ofString "say") = False := by decide
@[simp] theorem w_give_if : (Str.ofString "give" = Str.ofString "if") = False := by decide
@[simp] theorem w_give_while : (Str.ofString "give" = Str.ofString "while") = False := by decide
@[simp] theorem w_give_gave : (Str.ofString "give" = Str.ofString "gave") = False := by decide
@[simp] theorem w_give_fell : (Str.ofString "give" = Str.ofString "fell") = False := by decide
@[simp] theorem w_give_tired : (Str.ofString "give" = Str.ofString "tired") = False := by decide
@[simp] theorem w_give_unset : (Str.ofString "give" = Str.ofString "unset") = False := by decide
@[simp] theorem w_give_unread : (Str.ofString "give" = Str.ofString "unread") = False := by decide
@[simp] theorem w_give_nought : (Str.ofString "give" = Str.ofString "nought") = False := by decide
@[simp] theorem w_give_great : (Str.ofString "give" = Str.ofString "great") = False := by decide
@[simp] theorem w_if_num : (Str.ofString "if" = Str.ofString "num") = False := by decide
@[simp] theorem w_if_in : (Str.ofString "if" = Str.ofString "in") = False := by decide
@[simp] theorem w_if_get : (Str.ofString "if" = Str.ofString "get") = False := by decide
@[simp] theorem w_if_not : (Str.ofString "if" = Str.ofString "not") = False := by decide
@[simp] theorem w_if_plus : (Str.ofString "if" = Str.ofString "plus") = False := by decide
@[simp] theorem w_if_minus : (Str.ofString "if" = Str.ofString "minus") = False := by decide
@[simp] theorem w_if_times : (Str.ofString "if" = Str.ofString "times") = False := by decide
@[simp] theorem w_if_over : (Str.ofString "if" = Str.ofString "over") = False := by decide
@[simp] theorem w_if_less : (Str.ofString "if" = Str.ofString "less") = False := by decide
@[simp] theorem w_if_same : (Str.ofString "if" = Str.ofString "same") = False := by decide
@[simp] theorem w_if_and : (Str.ofString "if" = Str.ofString "and") = False := by decide
@[simp] theorem w_if_or : (Str.ofString "if" = Str.ofString "or") = False := by decide
@[simp] theorem w_if_set : (Str.ofString "if" = Str.ofString "set") = False := by decide
@[simp] theorem w_if_say : (Str.ofString "if" = Str.ofString "say") = False := by decide
@[simp] theorem w_if_give : (Str.ofString "if" = Str.ofString "give") = False := by decide
@[simp] theorem w_if_while : (Str.ofString "if" = Str.ofString "while") = False := by decide
@[simp] theorem w_if_gave : (Str.ofString "if" = Str.ofString "gave") = False := by decide
@[simp] theorem w_if_fell : (Str.ofString "if" = Str.ofString "fell") = False := by decide
@[simp] theorem w_if_tired : (Str.ofString "if" = Str.ofString "tired") = False := by decide
@[simp] theorem w_if_unset : (Str.ofString "if" = Str.ofString "unset") = False := by decide
@[simp] theorem w_if_unread : (Str.ofString "if" = Str.ofString "unread") = False := by decide
@[simp] theorem w_if_nought : (Str.ofString "if" = Str.ofString "nought") = False := by decide
@[simp] theorem w_if_great : (Str.ofString "if" = Str.ofString "great") = False := by decide
@[simp] theorem w_while_num : (Str.ofString "while" = Str.ofString "num") = False := by decide
@[simp] theorem w_while_in : (Str.ofString "while" = Str.ofString "in") = False := by decide
@[simp] theorem w_while_get : (Str.ofString "while" = Str.ofString "get") = False := by decide
@[simp] theorem w_while_not : (Str.ofString "while" = Str.ofString "not") = False := by decide
@[simp] theorem w_while_plus : (Str.ofString "while" = Str.ofString "plus") = False := by decide
@[simp] theorem w_while_minus : (Str.ofString "while" = Str.ofString "minus") = False := by decide
@[simp] theorem w_while_times : (Str.ofString "while" = Str.ofString "times") = False := by decide
@[simp] theorem w_while_over : (Str.ofString "while" = Str.ofString "over") = False := by decide
@[simp] theorem w_while_less : (Str.ofString "while" = Str.ofString "less") = False := by decide
@[simp] theorem w_while_same : (Str.ofString "while" = Str.ofString "same") = False := by decide
@[simp] theorem w_while_and : (Str.ofString "while" = Str.ofString "and") = False := by decide
@[simp] theorem w_while_or : (Str.ofString "while" = Str.ofString "or") = False := by decide
@[simp] theorem w_while_set : (Str.ofString "while" = Str.ofString "set") = False := by decide
@[simp] theorem w_while_say : (Str.ofString "while" = Str.ofString "say") = False := by decide
@[simp] theorem w_while_give : (Str.ofString "while" = Str.ofString "give") = False := by decide
@[simp] theorem w_while_if : (Str.ofString "while" = Str.ofString "if") = False := by decide
@[simp] theorem w_while_gave : (Str.ofString "while" = Str.ofString "gave") = False := by decide
@[simp] theorem w_while_fell : (Str.ofString "while" = Str.ofString "fell") = False := by decide
@[simp] theorem w_while_tired : (Str.ofString "while" = Str.ofString "tired") = False := by decide
@[simp] theorem w_while_unset : (Str.ofString "while" = Str.ofString "unset") = False := by decide
@[simp] theorem w_while_unread : (Str.ofString "while" = Str.ofString "unread") = False := by decide
@[simp] theorem w_while_nought : (Str.ofString "while" = Str.ofString "nought") = False := by decide
@[simp] theorem w_while_great : (Str.ofString "while" = Str.ofString "great") = False := by decide
@[simp] theorem w_gave_num : (Str.ofString "gave" = Str.ofString "num") = False := by decide
@[simp] theorem w_gave_in : (Str.ofString "gave" = Str.ofString "in") = False := by decide
@[simp] theorem w_gave_get : (Str.ofString "gave" = Str.ofString "get") = False := by decide
@[simp] theorem w_gave_not : (Str.ofString "gave" = Str.ofString "not") = False := by decide
@[simp] theorem w_gave_plus : (Str.ofString "gave" = Str.ofString "plus") = False := by decide
@[simp] theorem w_gave_minus : (Str.ofString "gave" = Str.ofString "minus") = False := by decide
@[simp] theorem w_gave_times : (Str.ofString "gave" = Str.ofString "times") = False := by decide
@[simp] theorem w_gave_over : (Str.ofString "gave" = Str.ofString "over") = False := by decide
@[simp] theorem w_gave_less : (Str.ofString "gave" = Str.ofString "less") = False := by decide
@[simp] theorem w_gave_same : (Str.ofString "gave" = Str.ofString "same") = False := by decide
@[simp] theorem w_gave_and : (Str.ofString "gave" = Str.ofString "and") = False := by decide
@[simp] theorem w_gave_or : (Str.ofString "gave" = Str.ofString "or") = False := by decide
@[simp] theorem w_gave_set : (Str.ofString "gave" = Str.ofString "set") = False := by decide
@[simp] theorem w_gave_say : (Str.ofString "gave" = Str.ofString "say") = False := by decide
@[simp] theorem w_gave_give : (Str.ofString "gave" = Str.ofString "give") = False := by decide
@[simp] theorem w_gave_if : (Str.ofString "gave" = Str.ofString "if") = False := by decide
@[simp] theorem w_gave_while : (Str.ofString "gave" = Str.ofString "while") = False := by decide
@[simp] theorem w_gave_fell : (Str.ofString "gave" = Str.ofString "fell") = False := by decide
@[simp] theorem w_gave_tired : (Str.ofString "gave" = Str.ofString "tired") = False := by decide
@[simp] theorem w_gave_unset : (Str.ofString "gave" = Str.ofString "unset") = False := by decide
@[simp] theorem w_gave_unread : (Str.ofString "gave" = Str.ofString "unread") = False := by decide
@[simp] theorem w_gave_nought : (Str.ofString "gave" = Str.ofString "nought") = False := by decide
@[simp] theorem w_gave_great : (Str.ofString "gave" = Str.ofString "great") = False := by decide
@[simp] theorem w_fell_num : (Str.ofString "fell" = Str.ofString "num") = False := by decide
@[simp] theorem w_fell_in : (Str.ofString "fell" = Str.ofString "in") = False := by decide
@[simp] theorem w_fell_get : (Str.ofString "fell" = Str.ofString "get") = False := by decide
@[simp] theorem w_fell_not : (Str.ofString "fell" = Str.ofString "not") = False := by decide
@[simp] theorem w_fell_plus : (Str.ofString "fell" = Str.ofString "plus") = False := by decide
@[simp] theorem w_fell_minus : (Str.ofString "fell" = Str.ofString "minus") = False := by decide
@[simp] theorem w_fell_times : (Str.ofString "fell" = Str.ofString "times") = False := by decide
@[simp] theorem w_fell_over : (Str.ofString "fell" = Str.ofString "over") = False := by decide
@[simp] theorem w_fell_less : (Str.ofString "fell" = Str.ofString "less") = False := by decide
@[simp] theorem w_fell_same : (Str.ofString "fell" = Str.ofString "same") = False := by decide
@[simp] theorem w_fell_and : (Str.ofString "fell" = Str.ofString "and") = False := by decide
@[simp] theorem w_fell_or : (Str.ofString "fell" = Str.ofString "or") = False := by decide
@[simp] theorem w_fell_set : (Str.ofString "fell" = Str.ofString "set") = False := by decide
@[simp] theorem w_fell_say : (Str.ofString "fell" = Str.ofString "say") = False := by decide
@[simp] theorem w_fell_give : (Str.ofString "fell" = Str.ofString "give") = False := by decide
@[simp] theorem w_fell_if : (Str.ofString "fell" = Str.ofString "if") = False := by decide
@[simp] theorem w_fell_while : (Str.ofString "fell" = Str.ofString "while") = False := by decide
@[simp] theorem w_fell_gave : (Str.ofString "fell" = Str.ofString "gave") = False := by decide
@[simp] theorem w_fell_tired : (Str.ofString "fell" = Str.ofString "tired") = False := by decide
@[simp] theorem w_fell_unset : (Str.ofString "fell" = Str.ofString "unset") = False := by decide
@[simp] theorem w_fell_unread : (Str.ofString "fell" = Str.ofString "unread") = False := by decide
@[simp] theorem w_fell_nought : (Str.ofString "fell" = Str.ofString "nought") = False := by decide
@[simp] theorem w_fell_great : (Str.ofString "fell" = Str.ofString "great") = False := by decide
@[simp] theorem w_tired_num : (Str.ofString "tired" = Str.ofString "num") = False := by decide
@[simp] theorem w_tired_in : (Str.ofString "tired" = Str.ofString "in") = False := by decide
@[simp] theorem w_tired_get : (Str.ofString "tired" = Str.ofString "get") = False := by decide
@[simp] theorem w_tired_not : (Str.ofString "tired" = Str.ofString "not") = False := by decide
@[simp] theorem w_tired_plus : (Str.ofString "tired" = Str.ofString "plus") = False := by decide
@[simp] theorem w_tired_minus : (Str.ofString "tired" = Str.ofString "minus") = False := by decide
@[simp] theorem w_tired_times : (Str.ofString "tired" = Str.ofString "times") = False := by decide
@[simp] theorem w_tired_over : (Str.ofString "tired" = Str.ofString "over") = False := by decide
@[simp] theorem w_tired_less : (Str.ofString "tired" = Str.ofString "less") = False := by decide
@[simp] theorem w_tired_same : (Str.ofString "tired" = Str.ofString "same") = False := by decide
@[simp] theorem w_tired_and : (Str.ofString "tired" = Str.ofString "and") = False := by decide
@[simp] theorem w_tired_or : (Str.ofString "tired" = Str.ofString "or") = False := by decide
@[simp] theorem w_tired_set : (Str.ofString "tired" = Str.ofString "set") = False := by decide
@[simp] theorem w_tired_say : (Str.ofString "tired" = Str.ofString "say") = False := by decide
@[simp] theorem w_tired_give : (Str.ofString "tired" = Str.ofString "give") = False := by decide
@[simp] theorem w_tired_if : (Str.ofString "tired" = Str.ofString "if") = False := by decide
@[simp] theorem w_tired_while : (Str.ofString "tired" = Str.ofString "while") = False := by decide
@[simp] theorem w_tired_gave : (Str.ofString "tired" = Str.ofString "gave") = False := by decide
@[simp] theorem w_tired_fell : (Str.ofString "tired" = Str.ofString "fell") = False := by decide
@[simp] theorem w_tired_unset : (Str.ofString "tired" = Str.ofString "unset") = False := by decide
@[simp] theorem w_tired_unread : (Str.ofString "tired" = Str.ofString "unread") = False := by decide
@[simp] theorem w_tired_nought : (Str.ofString "tired" = Str.ofString "nought") = False := by decide
@[simp] theorem w_tired_great : (Str.ofString "tired" = Str.ofString "great") = False := by decide
@[simp] theorem w_unset_num : (Str.ofString "unset" = Str.ofString "num") = False := by decide
@[simp] theorem w_unset_in : (Str.ofString "unset" = Str.ofString "in") = False := by decide
@[simp] theorem w_unset_get : (Str.ofString "unset" = Str.ofString "get") = False := by decide
@[simp] theorem w_unset_not : (Str.ofString "unset" = Str.ofString "not") = False := by decide
@[simp] theorem w_unset_plus : (Str.ofString "unset" = Str.ofString "plus") = False := by decide
@[simp] theorem w_unset_minus : (Str.ofString "unset" = Str.ofString "minus") = False := by decide
@[simp] theorem w_unset_times : (Str.ofString "unset" = Str.ofString "times") = False := by decide
@[simp] theorem w_unset_over : (Str.ofString "unset" = Str.ofString "over") = False := by decide
@[simp] theorem w_unset_less : (Str.ofString "unset" = Str.ofString "less") = False := by decide
@[simp] theorem w_unset_same : (Str.ofString "unset" = Str.ofString "same") = False := by decide
@[simp] theorem w_unset_and : (Str.ofString "unset" = Str.ofString "and") = False := by decide
@[simp] theorem w_unset_or : (Str.ofString "unset" = Str.ofString "or") = False := by decide
@[simp] theorem w_unset_set : (Str.ofString "unset" = Str.ofString "set") = False := by decide
@[simp] theorem w_unset_say : (Str.ofString "unset" = Str.ofString "say") = False := by decide
@[simp] theorem w_unset_give : (Str.ofString "unset" = Str.ofString "give") = False := by decide
@[simp] theorem w_unset_if : (Str.ofString "unset" = Str.ofString "if") = False := by decide
@[simp] theorem w_unset_while : (Str.ofString "unset" = Str.ofString "while") = False := by decide
@[simp] theorem w_unset_gave : (Str.ofString "unset" = Str.ofString "gave") = False := by decide
@[simp] theorem w_unset_fell : (Str.ofString "unset" = Str.ofString "fell") = False := by decide
@[simp] theorem w_unset_tired : (Str.ofString "unset" = Str.ofString "tired") = False := by decide
@[simp] theorem w_unset_unread : (Str.ofString "unset" = Str.ofString "unread") = False := by decide
@[simp] theorem w_unset_nought : (Str.ofString "unset" = Str.ofString "nought") = False := by decide
@[simp] theorem w_unset_great : (Str.ofString "unset" = Str.ofString "great") = False := by decide
@[simp] theorem w_unread_num : (Str.ofString "unread" = Str.ofString "num") = False := by decide
@[simp] theorem w_unread_in : (Str.ofString "unread" = Str.ofString "in") = False := by decide
@[simp] theorem w_unread_get : (Str.ofString "unread" = Str.ofString "get") = False := by decide
@[simp] theorem w_unread_not : (Str.ofString "unread" = Str.ofString "not") = False := by decide
@[simp] theorem w_unread_plus : (Str.ofString "unread" = Str.ofString "plus") = False := by decide
@[simp] theorem w_unread_minus : (Str.ofString "unread" = Str.ofString "minus") = False := by decide
@[simp] theorem w_unread_times : (Str.ofString "unread" = Str.ofString "times") = False := by decide
@[simp] theorem w_unread_over : (Str.ofString "unread" = Str.ofString "over") = False := by decide
@[simp] theorem w_unread_less : (Str.ofString "unread" = Str.ofString "less") = False := by decide
@[simp] theorem w_unread_same : (Str.ofString "unread" = Str.ofString "same") = False := by decide
@[simp] theorem w_unread_and : (Str.ofString "unread" = Str.ofString "and") = False := by decide
@[simp] theorem w_unread_or : (Str.ofString "unread" = Str.ofString "or") = False := by decide
@[simp] theorem w_unread_set : (Str.ofString "unread" = Str.ofString "set") = False := by decide
@[simp] theorem w_unread_say : (Str.ofString "unread" = Str.ofString "say") = False := by decide
@[simp] theorem w_unread_give : (Str.ofString "unread" = Str.ofString "give") = False := by decide
@[simp] theorem w_unread_if : (Str.ofString "unread" = Str.ofString "if") = False := by decide
@[simp] theorem w_unread_while : (Str.ofString "unread" = Str.ofString "while") = False := by decide
@[simp] theorem w_unread_gave : (Str.ofString "unread" = Str.ofString "gave") = False := by decide
@[simp] theorem w_unread_fell : (Str.ofString "unread" = Str.ofString "fell") = False := by decide
@[simp] theorem w_unread_tired : (Str.ofString "unread" = Str.ofString "tired") = False := by decide
@[simp] theorem w_unread_unset : (Str.ofString "unread" = Str.ofString "unset") = False := by decide
@[simp] theorem w_unread_nought : (Str.ofString "unread" = Str.ofString "nought") = False := by decide
@[simp] theorem w_unread_great : (Str.ofString "unread" = Str.ofString "great") = False := by decide
@[simp] theorem w_nought_num : (Str.ofString "nought" = Str.ofString "num") = False := by decide
@[simp] theorem w_nought_in : (Str.ofString "nought" = Str.ofString "in") = False := by decide
@[simp] theorem w_nought_get : (Str.ofString "nought" = Str.ofString "get") = False := by decide
@[simp] theorem w_nought_not : (Str.ofString "nought" = Str.ofString "not") = False := by decide
@[simp] theorem w_nought_plus : (Str.ofString "nought" = Str.ofString "plus") = False := by decide
@[simp] theorem w_nought_minus : (Str.ofString "nought" = Str.ofString "minus") = False := by decide
@[simp] theorem w_nought_times : (Str.ofString "nought" = Str.ofString "times") = False := by decide
@[simp] theorem w_nought_over : (Str.ofString "nought" = Str.ofString "over") = False := by decide
@[simp] theorem w_nought_less : (Str.ofString "nought" = Str.ofString "less") = False := by decide
@[simp] theorem w_nought_same : (Str.ofString "nought" = Str.ofString "same") = False := by decide
@[simp] theorem w_nought_and : (Str.ofString "nought" = Str.ofString "and") = False := by decide
@[simp] theorem w_nought_or : (Str.ofString "nought" = Str.ofString "or") = False := by decide
@[simp] theorem w_nought_set : (Str.ofString "nought" = Str.ofString "set") = False := by decide
@[simp] theorem w_nought_say : (Str.ofString "nought" = Str.ofString "say") = False := by decide
@[simp] theorem w_nought_give : (Str.ofString "nought" = Str.ofString "give") = False := by decide
@[simp] theorem w_nought_if : (Str.ofString "nought" = Str.ofString "if") = False := by decide
@[simp] theorem w_nought_while : (Str.ofString "nought" = Str.ofString "while") = False := by decide
@[simp] theorem w_nought_gave : (Str.ofString "nought" = Str.ofString "gave") = False := by decide
@[simp] theorem w_nought_fell : (Str.ofString "nought" = Str.ofString "fell") = False := by decide
@[simp] theorem w_nought_tired : (Str.ofString "nought" = Str.ofString "tired") = False := by decide
@[simp] theorem w_nought_unset : (Str.ofString "nought" = Str.ofString "unset") = False := by decide
@[simp] theorem w_nought_unread : (Str.ofString "nought" = Str.ofString "unread") = False := by decide
@[simp] theorem w_nought_great : (Str.ofString "nought" = Str.ofString "great") = False := by decide
@[simp] theorem w_great_num : (Str.ofString "great" = Str.ofString "num") = False := by decide
@[simp] theorem w_great_in : (Str.ofString "great" = Str.ofString "in") = False := by decide
@[simp] theorem w_great_get : (Str.ofString "great" = Str.ofString "get") = False := by decide
@[simp] theorem w_great_not : (Str.ofString "great" = Str.ofString "not") = False := by decide
@[simp] theorem w_great_plus : (Str.ofString "great" = Str.ofString "plus") = False := by decide
@[simp] theorem w_great_minus : (Str.ofString "great" = Str.ofString "minus") = False := by decide
@[simp] theorem w_great_times : (Str.ofString "great" = Str.ofString "times") = False := by decide
@[simp] theorem w_great_over : (Str.ofString "great" = Str.ofString "over") = False := by decide
@[simp] theorem w_great_less : (Str.ofString "great" = Str.ofString "less") = False := by decide
@[simp] theorem w_great_same : (Str.ofString "great" = Str.ofString "same") = False := by decide
@[simp] theorem w_great_and : (Str.ofString "great" = Str.ofString "and") = False := by decide
@[simp] theorem w_great_or : (Str.ofString "great" = Str.ofString "or") = False := by decide
@[simp] theorem w_great_set : (Str.ofString "great" = Str.ofString "set") = False := by decide
@[simp] theorem w_great_say : (Str.ofString "great" = Str.ofString "say") = False := by decide
@[simp] theorem w_great_give : (Str.ofString "great" = Str.ofString "give") = False := by decide
@[simp] theorem w_great_if : (Str.ofString "great" = Str.ofString "if") = False := by decide
@[simp] theorem w_great_while : (Str.ofString "great" = Str.ofString "while") = False := by decide
@[simp] theorem w_great_gave : (Str.ofString "great" = Str.ofString "gave") = False := by decide
@[simp] theorem w_great_fell : (Str.ofString "great" = Str.ofString "fell") = False := by decide
@[simp] theorem w_great_tired : (Str.ofString "great" = Str.ofString "tired") = False := by decide
@[simp] theorem w_great_unset : (Str.ofString "great" = Str.ofString "unset") = False := by decide
@[simp] theorem w_great_unread : (Str.ofString "great" = Str.ofString "unread") = False := by decide
@[simp] theorem w_great_nought : (Str.ofString "great" = Str.ofString "nought") = False := by decide
@[simp] theorem lim_1 : (1 ≤ LIM) = True := by decide
@[simp] theorem lim_2 : (2 ≤ LIM) = True := by decide
@[simp] theorem lim_3 : (3 ≤ LIM) = True := by decide
@[simp] theorem lim_4 : (4 ≤ LIM) = True := by decide
@[simp] theorem lim_5 : (5 ≤ LIM) = True := by decide
@[simp] theorem lim_6 : (6 ≤ LIM) = True := by decide
@[simp] theorem lim_7 : (7 ≤ LIM) = True := by decide
@[simp] theorem lim_8 : (8 ≤ LIM) = True := by decide
@[simp] theorem lim_9 : (9 ≤ LIM) = True := by decide
@[simp] theorem lim_10 : (10 ≤ LIM) = True := by decide
@[simp] theorem lim_11 : (11 ≤ LIM) = True := by decide
@[simp] theorem lim_12 : (12 ≤ LIM) = True := by decide
@[simp] theorem lim_13 : (13 ≤ LIM) = True := by decide
@[simp] theorem lim_14 : (14 ≤ LIM) = True := by decide
@[simp] theorem lim_15 : (15 ≤ LIM) = True := by decide
@[simp] theorem lim_16 : (16 ≤ LIM) = True := by decide
@[simp] theorem lim_17 : (17 ≤ LIM) = True := by decide
@[simp] theorem lim_18 : (18 ≤ LIM) = True := by decide
@[simp] theorem lim_19 : (19 ≤ LIM) = True := by decide
@[simp] theorem lim_20 : (20 ≤ LIM) = True := by decide
@[simp] theorem lim_21 : (21 ≤ LIM) = True := by decide
@[simp] theorem lim_22 : (22 ≤ LIM) = True := by decide
@[simp] theorem lim_23 : (23 ≤ LIM) = True := by decide
@[simp] theorem lim_24 : (24 ≤ LIM) = True := by decide
@[simp] theorem lim_25 : (25 ≤ LIM) = True := by decide
@[simp] theorem lim_26 : (26 ≤ LIM) = True := by decide
@[simp] theorem lim_27 : (27 ≤ LIM) = True := by decide
@[simp] theorem lim_28 : (28 ≤ LIM) = True := by decide
@[simp] theorem lim_29 : (29 ≤ LIM) = True := by decide
@[simp] theorem lim_30 : (30 ≤ LIM) = True := by decide
@[simp] theorem lim_31 : (31 ≤ LIM) = True := by decide
@[simp] theorem lim_32 : (32 ≤ LIM) = True := by decide
@[simp] theorem lim_33 : (33 ≤ LIM) = True := by decide
@[simp] theorem lim_34 : (34 ≤ LIM) = True := by decide
@[simp] theorem lim_35 : (35 ≤ LIM) = True := by decide
@[simp] theorem lim_36 : (36 ≤ LIM) = True := by decide
@[simp] theorem lim_37 : (37 ≤ LIM) = True := by decide
@[simp] theorem lim_38 : (38 ≤ LIM) = True := by decide
@[simp] theorem lim_39 : (39 ≤ LIM) = True := by decide
@[simp] theorem lim_40 : (40 ≤ LIM) = True := by decide
@[simp] theorem eqF_str {a b : Str} : eqF (.str a) (.str b) = decide (a = b) := Bool.eq_iff_iff.mpr (by show ((a == b) = true) ↔ _; rw [beq_iff_eq, decide_eq_true_iff])
@[simp] theorem flat_str {a : Str} : flatD (.str a) = true := rfl
@[simp] theorem flat_int {a : Int} : flatD (.int a) = true := rfl
@[simp] theorem inV_tup {st : Store} {xs : List D} {i : Int} : inV? st (.int i) (.tup xs) = if flatD (.int i) && xs.all flatD then some (xs.any fun z => eqF z (.int i)) else none := rfl
@[simp] theorem inV_tupS {st : Store} {xs : List D} {s : Str} : inV? st (.str s) (.tup xs) = if flatD (.str s) && xs.all flatD then some (xs.any fun z => eqF z (.str s)) else none := rfl
end TS
end

section
set_option Elab.async false
set_option linter.all false
set_option maxRecDepth 100000
set_option maxHeartbeats 4000000
set_option autoImplicit false
namespace TS
open PySem
inductive Op where
  | plus | minus | times | over | less | same | and | or
  deriving DecidableEq
inductive Ex where
  | num (n : Int)
  | inp (k : Int)
  | get (x : Str)
  | not (a : Ex)
  | op (o : Op) (a b : Ex)
inductive Rw where
  | set (x : Str) (e : Ex)
  | say (e : Ex)
  | give (e : Ex)
  | ifr (e : Ex) (a b : List Rw)
  | whl (e : Ex) (a : List Rw)
def opS : Op → Str
  | .plus => "plus"
  | .minus => "minus"
  | .times => "times"
  | .over => "over"
  | .less => "less"
  | .same => "same"
  | .and => "and"
  | .or => "or"
def encE : Ex → D
  | .num n => .tup [.str "num", .int n]
  | .inp k => .tup [.str "in", .int k]
  | .get x => .tup [.str "get", .str x]
  | .not a => .tup [.str "not", encE a]
  | .op o a b => .tup [.str (opS o), encE a, encE b]
mutual
def encR : Rw → D
  | .set x e => .tup [.str "set", .str x, encE e]
  | .say e => .tup [.str "say", encE e]
  | .give e => .tup [.str "give", encE e]
  | .ifr e a b => .tup [.str "if", encE e, .tup (encRs a), .tup (encRs b)]
  | .whl e a => .tup [.str "while", encE e, .tup (encRs a)]
def encRs : List Rw → List D
  | [] => []
  | r :: rs => encR r :: encRs rs
end
abbrev encP (p : List Rw) : D := .tup (encRs p)
def nmOk (s : Str) : Bool := decide (1 ≤ s.length) && decide (s.length ≤ 6) && s.cps.toList.all fun c => decide (97 ≤ c) && decide (c ≤ 122)
def okE : Ex → Bool
  | .num n => decide (-9999 ≤ n) && decide (n ≤ 9999)
  | .inp k => decide (0 ≤ k) && decide (k ≤ 3)
  | .get x => nmOk x
  | .not a => okE a
  | .op _ a b => okE a && okE b
def szE : Ex → Nat
  | .not a => szE a + 1
  | .op _ a b => szE a + szE b + 1
  | _ => 1
def dpE : Ex → Nat
  | .not a => dpE a + 1
  | .op _ a b => max (dpE a) (dpE b) + 1
  | _ => 1
mutual
def okR : Rw → Bool
  | .set x e => nmOk x && okE e
  | .say e => okE e
  | .give e => okE e
  | .ifr e a b => okE e && (okRs a && okRs b)
  | .whl e a => okE e && okRs a
def okRs : List Rw → Bool
  | [] => true
  | r :: rs => okR r && okRs rs
end
mutual
def rwsR : Rw → Nat
  | .ifr _ a b => rwsRs a + rwsRs b + 1
  | .whl _ a => rwsRs a + 1
  | _ => 1
def rwsRs : List Rw → Nat
  | [] => 0
  | r :: rs => rwsR r + rwsRs rs
end
mutual
def esR : Rw → Nat
  | .set _ e => szE e
  | .say e => szE e
  | .give e => szE e
  | .ifr e a b => szE e + (esRs a + esRs b)
  | .whl e a => szE e + esRs a
def esRs : List Rw → Nat
  | [] => 0
  | r :: rs => esR r + esRs rs
end
mutual
def dpR : Rw → Nat
  | .ifr _ a b => max (dpRs a) (dpRs b) + 1
  | .whl _ a => dpRs a + 1
  | _ => 1
def dpRs : List Rw → Nat
  | [] => 0
  | r :: rs => max (dpR r) (dpRs rs)
end
mutual
def dxR : Rw → Nat
  | .set _ e => dpE e
  | .say e => dpE e
  | .give e => dpE e
  | .ifr e a b => max (dpE e) (max (dxRs a) (dxRs b))
  | .whl e a => max (dpE e) (dxRs a)
def dxRs : List Rw → Nat
  | [] => 0
  | r :: rs => max (dxR r) (dxRs rs)
end
def okP (p : List Rw) : Bool := okRs p && (decide (rwsRs p ≤ 30) && (decide (esRs p ≤ 120) && (decide (dpRs p ≤ 6) && decide (dxRs p ≤ 8))))
theorem letters : (Str.ofString "abcdefghijklmnopqrstuvwxyz").cps.toList = List.range' 97 26 := by decide +kernel
theorem in_letters {c : Nat} : c ∈ (Str.ofString "abcdefghijklmnopqrstuvwxyz").cps ↔ 97 ≤ c ∧ c ≤ 122 := by
  rw [← Array.mem_toList_iff, letters, List.mem_range'_1]
  omega
theorem lim_eq : LIM = 16777216 := rfl
theorem boolsD_map {α : Type} (g : α → Bool) : ∀ (l : List α), boolsD (l.map fun x => .bl (g x)) = some (l.map g)
  | [] => rfl
  | x :: l => by simp [boolsD_map g l]
@[simp] theorem sOk_op {o : Op} : sOk (opS o) = true := by cases o <;> decide
theorem nmOk_sOk {s : Str} (h : nmOk s = true) : sOk s = true := by
  unfold nmOk at h
  simp only [Bool.and_eq_true, List.all_eq_true] at h
  unfold sOk
  rw [List.all_eq_true]
  intro c hc
  have := h.2 c hc
  simp at this ⊢
  omega
theorem nmOk_len {s : Str} (h : nmOk s = true) : 1 ≤ s.length ∧ s.length ≤ 6 := by
  unfold nmOk at h
  simp only [Bool.and_eq_true, decide_eq_true_eq] at h
  exact h.1
section
variable {T : Tab} (h : PR T) {k : Nat} {st : Store}
include h
theorem is_number_int {i lo hi : Int} : callD T (k + 1) 0 [.int i, .int lo, .int hi] st = .ok (.bl (decide (lo ≤ i) && decide (i ≤ hi))) st := by
  rw [callD_of h.f0 rfl]
  simp [f_is_number, startD]
  try (split <;> simp [*])
theorem is_name_ok {s : Str} (hs : nmOk s = true) : callD T (k + 1) 1 [.str s] st = .ok (.bl true) st := by
  rw [callD_of h.f1 rfl]
  obtain ⟨h1, h2⟩ := nmOk_len hs
  have h3 : s.length ≤ LIM := by rw [lim_eq]; omega
  have h4 : (1 : Int) ≤ (s.length : Int) := by omega
  have h5 : (s.length : Int) ≤ 6 := by omega
  have hl := lcR_map (T := T) (f := callD T 0) (st := st) (ok := fun _ => true) (e := .cmp .in_ (.v 1) (.g 0)) (tg := .n 1) (cs := .nil) (own := [1]) (sl := [some (.str s), none]) (g := fun _ => .bl true) (xs := s.cps.toList.map fun c => D.str ⟨#[c]⟩) rfl (fun x hx => by
      obtain ⟨c, hc, rfl⟩ := List.mem_map.mp hx
      have hc2 : 97 ≤ c ∧ c ≤ 122 := by
        unfold nmOk at hs
        simp only [Bool.and_eq_true, List.all_eq_true] at hs
        have := hs.2 c hc
        simpa using this
      simp [lcT_eq, wipeD, h.g0, inV?, Str.length, in_letters, hc2])
  have hz : s.cps.toList.length ≤ LIM := by
    have : s.cps.toList.length = s.length := by simp [Str.length]
    omega
  have e := boolsD_map (fun _ : Nat => true) s.cps.toList
  simp at hz
  simp [f_is_name, startD, lenD, h3, h4, h5, hl, hz, Function.comp_def, e]
theorem is_tagged_ok {s : Str} {r : List D} (hp : pls (.str s :: r) = true) (hd : dps (.str s :: r) ≤ 63) : callD T (k + 1) 2 [.tup (.str s :: r)] st = .ok (.bl true) st := by
  rw [callD_of h.f2 rfl]
  have e : eqv? st (.tup (.str s :: r)) (.tup []) = some false := by
    rw [eqv_pl (by unfold pl; exact hp) rfl (by unfold dp; omega) (by decide)]
    simp [eqD, eqDs]
  simp [f_is_tagged, startD, e, L2.atI, L2.ixN]
theorem worths_at_ok {e : Ex} : callD T (k + 1) 5 [encE e] st = .ok (.lst (match e with | .not _ => [.int 1] | .op _ _ _ => [.int 1, .int 2] | _ => [])) st := by
  rw [callD_of h.f5 rfl]
  cases e with
  | op o a b =>
    cases o <;> simp [f_worths_at, startD, encE, opS, inV?, flatD, eqF, L2.atI, L2.ixN]
  | _ => simp [f_worths_at, startD, encE, inV?, flatD, eqF, L2.atI, L2.ixN]
theorem worth_at_ok {r : Rw} : callD T (k + 1) 6 [encR r] st = .ok (.int (match r with | .set _ _ => 2 | _ => 1)) st := by
  rw [callD_of h.f6 rfl]
  cases r <;> simp [f_worth_at, startD, encR, L2.atI, L2.ixN]
theorem blocks_at_ok {r : Rw} : callD T (k + 1) 7 [encR r] st = .ok (.lst (match r with | .ifr _ _ _ => [.int 2, .int 3] | .whl _ _ => [.int 2] | _ => [])) st := by
  rw [callD_of h.f7 rfl]
  cases r <;> simp [f_blocks_at, startD, encR, L2.atI, L2.ixN]
end
end TS
end

section
set_option Elab.async false
set_option linter.all false
set_option maxRecDepth 100000
set_option maxHeartbeats 4000000
set_option autoImplicit false
namespace TS
open PySem
theorem pl_E : ∀ {e : Ex}, okE e = true → pl (encE e) = true
  | .num n, _ => by simp [encE, pl, pls]
  | .inp n, _ => by simp [encE, pl, pls]
  | .get x, h => by
    unfold okE at h
    have := nmOk_sOk h
    simp [encE, pl, pls, this]
  | .not a, h => by
    unfold okE at h
    have := pl_E h
    simp [encE, pl, pls, this]
  | .op o a b, h => by
    unfold okE at h
    simp only [Bool.and_eq_true] at h
    have h1 := pl_E h.1
    have h2 := pl_E h.2
    simp [encE, pl, pls, h1, h2]
theorem dp_E : ∀ {e : Ex}, dp (encE e) = dpE e
  | .num n => by simp [encE, dp, dps, dpE]
  | .inp n => by simp [encE, dp, dps, dpE]
  | .get x => by simp [encE, dp, dps, dpE]
  | .not a => by simp [encE, dp, dps, dpE, dp_E (e := a)]
  | .op o a b => by simp [encE, dp, dps, dpE, dp_E (e := a), dp_E (e := b)]
mutual
theorem pl_R : ∀ {r : Rw}, okR r = true → pl (encR r) = true
  | .set x e, h => by
    unfold okR at h
    simp only [Bool.and_eq_true] at h
    simp [encR, pl, pls, nmOk_sOk h.1, pl_E h.2]
  | .say e, h => by
    unfold okR at h
    simp [encR, pl, pls, pl_E h]
  | .give e, h => by
    unfold okR at h
    simp [encR, pl, pls, pl_E h]
  | .ifr e a b, h => by
    unfold okR at h
    simp only [Bool.and_eq_true] at h
    simp [encR, pl, pls, pl_E h.1, pl_Rs h.2.1, pl_Rs h.2.2]
  | .whl e a, h => by
    unfold okR at h
    simp only [Bool.and_eq_true] at h
    simp [encR, pl, pls, pl_E h.1, pl_Rs h.2]
theorem pl_Rs : ∀ {rs : List Rw}, okRs rs = true → pls (encRs rs) = true
  | [], _ => by simp [encRs, pls]
  | r :: rs, h => by
    unfold okRs at h
    simp only [Bool.and_eq_true] at h
    simp [encRs, pls, pl_R h.1, pl_Rs h.2]
end
mutual
theorem dp_R : ∀ {r : Rw}, dp (encR r) ≤ 2 * dpR r + dxR r
  | .set x e => by
    have := dp_E (e := e)
    simp [encR, dp, dps, dpR, dxR]
    omega
  | .say e => by
    have := dp_E (e := e)
    simp [encR, dp, dps, dpR, dxR]
    omega
  | .give e => by
    have := dp_E (e := e)
    simp [encR, dp, dps, dpR, dxR]
    omega
  | .ifr e a b => by
    have := dp_E (e := e)
    have h1 := dp_Rs (rs := a)
    have h2 := dp_Rs (rs := b)
    simp [encR, dp, dps, dpR, dxR]
    omega
  | .whl e a => by
    have := dp_E (e := e)
    have h1 := dp_Rs (rs := a)
    simp [encR, dp, dps, dpR, dxR]
    omega
theorem dp_Rs : ∀ {rs : List Rw}, dps (encRs rs) ≤ 2 * dpRs rs + dxRs rs
  | [] => by simp [encRs, dps]
  | r :: rs => by
    have h1 := dp_R (r := r)
    have h2 := dp_Rs (rs := rs)
    simp [encRs, dps, dpRs, dxRs]
    omega
end
section
variable {T : Tab} (h : PR T) {k : Nat} {st : Store}
include h
theorem is_worth_ok {e : Ex} (he : okE e = true) (hd : dpE e ≤ 60) : callD T (k + 2) 3 [encE e] st = .ok (.bl true) st := by
  rw [callD_of h.f3 rfl]
  have hp := pl_E he
  have hz := dp_E (e := e)
  cases e with
  | num n =>
    unfold okE at he
    simp only [Bool.and_eq_true, decide_eq_true_eq] at he
    simp [f_is_worth, startD, encE, is_tagged_ok h, is_number_int h, pls, pl, dps, dp, h.g11, h.g9, bmTy, isDic, bmV, keyOf, dget, L2.atI, L2.ixN, he]
  | inp n =>
    unfold okE at he
    simp only [Bool.and_eq_true, decide_eq_true_eq] at he
    simp [f_is_worth, startD, encE, is_tagged_ok h, is_number_int h, pls, pl, dps, dp, h.g11, h.g10, bmTy, isDic, bmV, keyOf, dget, L2.atI, L2.ixN, he]
  | get x =>
    unfold okE at he
    have hs := nmOk_sOk he
    simp [f_is_worth, startD, encE, is_tagged_ok h, is_name_ok h, pls, pl, dps, dp, h.g11, bmTy, isDic, bmV, keyOf, dget, L2.atI, L2.ixN, he, hs]
  | not a =>
    unfold okE at he
    have h1 := pl_E he
    have h2 := dp_E (e := a)
    unfold dpE at hd
    have h3 : dp (encE a) ≤ 63 := by omega
    simp [f_is_worth, startD, encE, is_tagged_ok h, pls, pl, dps, dp, h.g11, bmTy, isDic, bmV, keyOf, dget, L2.atI, L2.ixN, h1, h3]
  | op o a b =>
    unfold okE at he
    simp only [Bool.and_eq_true] at he
    have h1 := pl_E he.1
    have h2 := dp_E (e := a)
    have h1' := pl_E he.2
    have h2' := dp_E (e := b)
    unfold dpE at hd
    have h3 : dp (encE a) ≤ 63 := by omega
    have h3' : dp (encE b) ≤ 63 := by omega
    cases o <;> simp [f_is_worth, startD, encE, opS, is_tagged_ok h, pls, pl, dps, dp, h.g11, bmTy, isDic, bmV, keyOf, dget, L2.atI, L2.ixN, h1, h3, h1', h3', Nat.max_le]
theorem is_row_ok {r : Rw} (hr : okR r = true) (hd : 2 * dpR r + dxR r ≤ 60) : callD T (k + 2) 4 [encR r] st = .ok (.bl true) st := by
  rw [callD_of h.f4 rfl]
  have hp := pl_R hr
  have hz := dp_R (r := r)
  have hb := blocks_at_ok h (k := k) (st := st) (r := r)
  cases r with
  | set x e =>
    unfold okR at hr
    simp only [Bool.and_eq_true] at hr
    have hs := nmOk_sOk hr.1
    have h1 := pl_E hr.2
    have h2 := dp_E (e := e)
    simp only [dpR, dxR] at hd
    have h3 : dp (encE e) ≤ 63 := by omega
    simp only [encR] at hb
    simp [f_is_row, startD, encR, is_tagged_ok h, is_name_ok h, hb, pls, pl, dps, dp, h.g12, bmTy, isDic, bmV, keyOf, dget, L2.atI, L2.ixN, hr.1, hs, h1, h3]
  | say e =>
    unfold okR at hr
    have h1 := pl_E hr
    have h2 := dp_E (e := e)
    simp only [dpR, dxR] at hd
    have h3 : dp (encE e) ≤ 63 := by omega
    simp only [encR] at hb
    simp [f_is_row, startD, encR, is_tagged_ok h, hb, pls, pl, dps, dp, h.g12, bmTy, isDic, bmV, keyOf, dget, L2.atI, L2.ixN, h1, h3]
  | give e =>
    unfold okR at hr
    have h1 := pl_E hr
    have h2 := dp_E (e := e)
    simp only [dpR, dxR] at hd
    have h3 : dp (encE e) ≤ 63 := by omega
    simp only [encR] at hb
    simp [f_is_row, startD, encR, is_tagged_ok h, hb, pls, pl, dps, dp, h.g12, bmTy, isDic, bmV, keyOf, dget, L2.atI, L2.ixN, h1, h3]
  | ifr e a b =>
    unfold okR at hr
    simp only [Bool.and_eq_true] at hr
    have h1 := pl_E hr.1
    have h2 := dp_E (e := e)
    have h4 := pl_Rs hr.2.1
    have h5 := pl_Rs hr.2.2
    have h6 := dp_Rs (rs := a)
    have h7 := dp_Rs (rs := b)
    simp only [dpR, dxR] at hd
    have h3 : dp (encE e) ≤ 63 := by omega
    have h8 : dps (encRs a) ≤ 62 := by omega
    have h9 : dps (encRs b) ≤ 62 := by omega
    simp only [encR] at hb
    simp [f_is_row, startD, encR, is_tagged_ok h, hb, pls, pl, dps, dp, h.g12, bmTy, isDic, bmV, keyOf, dget, L2.atI, L2.ixN, h1, h3, h4, h5, h8, h9, Nat.max_le, lcT_eq, wipeD]
  | whl e a =>
    unfold okR at hr
    simp only [Bool.and_eq_true] at hr
    have h1 := pl_E hr.1
    have h2 := dp_E (e := e)
    have h4 := pl_Rs hr.2
    have h6 := dp_Rs (rs := a)
    simp only [dpR, dxR] at hd
    have h3 : dp (encE e) ≤ 63 := by omega
    have h8 : dps (encRs a) ≤ 62 := by omega
    simp only [encR] at hb
    simp [f_is_row, startD, encR, is_tagged_ok h, hb, pls, pl, dps, dp, h.g12, bmTy, isDic, bmV, keyOf, dget, L2.atI, L2.ixN, h1, h3, h4, h8, Nat.max_le, lcT_eq, wipeD]
abbrev lkO (m r w : Int) : SO := .ins 12 [.int m, .int r, .int w]
theorem look_worth_ok : ∀ (e : Ex) {m r w deep : Int} {p q : Store} {k : Nat}, okE e = true → w + szE e ≤ 120 → 0 ≤ w → 1 ≤ deep → deep + dpE e ≤ 9 → dpE e + 3 ≤ k →
    callD T k 53 [.ref p.length, encE e, .int deep] (p ++ lkO m r w :: q) = .ok .non (p ++ lkO (m + szE e) r (w + szE e) :: q)
  | e, m, r, w, deep, p, q, k, he, hw, hw0, hd0, hd, hk => by
    obtain ⟨k, rfl⟩ : ∃ k', k = k' + 3 := ⟨k - 3, by omega⟩
    rw [callD_of h.f53 rfl]
    have hde : dpE e ≤ 60 := by omega
    have ha := fun st => worths_at_ok h (k := k + 1) (st := st) (e := e)
    have hi := fun st => is_worth_ok h (k := k) (st := st) he hde
    have hs1 : 1 ≤ szE e := by cases e <;> simp [szE]
    have hd1 : 1 ≤ dpE e := by cases e <;> simp [dpE]
    have hw1 : ¬ (120 < w + 1) := by omega
    have hd2 : ¬ (8 < deep) := by omega
    cases e with
    | not a =>
      unfold okE at he
      simp only [szE, dpE] at hw hd hk ha hs1 hd1
      have ih := look_worth_ok a (m := m + 1) (r := r) (w := w + 1) (deep := deep + 1) (p := p) (q := q) (k := k + 2) he (by omega) (by omega) (by omega) (by omega) (by omega)
      simp only [encE] at ha hi
      simp [f_Looker_look_worth, startD, encE, fldV, setFV, h.c12, h.g6, h.g8, ha, hi, hw1, hd2, L2.atI, L2.ixN, ih, szE]
      omega
    | op o a b =>
      unfold okE at he
      simp only [Bool.and_eq_true] at he
      simp only [szE, dpE] at hw hd hk ha hs1 hd1
      have ih := look_worth_ok a (m := m + 1) (r := r) (w := w + 1) (deep := deep + 1) (p := p) (q := q) (k := k + 2) he.1 (by omega) (by omega) (by omega) (by omega) (by omega)
      have ih2 := look_worth_ok b (m := m + 1 + szE a) (r := r) (w := w + 1 + szE a) (deep := deep + 1) (p := p) (q := q) (k := k + 2) he.2 (by omega) (by omega) (by omega) (by omega) (by omega)
      simp only [encE] at ha hi
      simp [f_Looker_look_worth, startD, encE, fldV, setFV, h.c12, h.g6, h.g8, ha, hi, hw1, hd2, L2.atI, L2.ixN, ih, ih2, szE]
      omega
    | num n =>
      simp only [encE] at ha hi
      simp [f_Looker_look_worth, startD, encE, fldV, setFV, h.c12, h.g6, h.g8, ha, hi, hw1, hd2, szE]
    | inp n =>
      simp only [encE] at ha hi
      simp [f_Looker_look_worth, startD, encE, fldV, setFV, h.c12, h.g6, h.g8, ha, hi, hw1, hd2, szE]
    | get n =>
      simp only [encE] at ha hi
      simp [f_Looker_look_worth, startD, encE, fldV, setFV, h.c12, h.g6, h.g8, ha, hi, hw1, hd2, szE]
end
end TS
end

section
set_option Elab.async false
set_option linter.all false
set_option maxRecDepth 100000
set_option maxHeartbeats 4000000
set_option autoImplicit false
namespace TS
open PySem
def forB : DSs → DSs
  | .cons (.for_ _ _ b) _ => b
  | .cons _ r => forB r
  | .nil => .nil
section
variable {T : Tab} (h : PR T)
include h
theorem look_fn {k : Nat} {a c : D} {xs : List D} {st st' : Store} {s1 : Slots} (e1 : forR T (callD T k) (.n 3) (forB f_Looker_look.body) (fun _ => true) xs [some a, some (.tup xs), some c, none, none, none] st = .next s1 st') : callD T (k + 1) 52 [a, .tup xs, c] st = .ok .non st' := by
  rw [callD_of h.f52 rfl]
  simp only [f_Looker_look, forB] at e1
  simp [f_Looker_look, startD, e1]
mutual
theorem look_R : ∀ (r : Rw) {m rr w deep : Int} {p q : Store} {k : Nat} {X : D} {x4 x5 : Option D}, okR r = true → rr + rwsR r ≤ 30 → w + esR r ≤ 120 → 0 ≤ w → 1 ≤ deep → deep + dpR r ≤ 7 → dxR r ≤ 8 → dpR r + 11 ≤ k →
    ∃ a b, exSs T (callD T k) (forB f_Looker_look.body) [some (.ref p.length), some X, some (.int deep), some (encR r), x4, x5] (p ++ lkO m rr w :: q) =
      .next [some (.ref p.length), some X, some (.int deep), some (encR r), a, b] (p ++ lkO (m + (rwsR r + esR r : Nat)) (rr + rwsR r) (w + esR r) :: q)
  | r, m, rr, w, deep, p, q, k, X, x4, x5, hr, h1, h2, hw, hd1, hd, hx, hk => by
    obtain ⟨k, rfl⟩ : ∃ k', k = k' + 11 := ⟨k - 11, by omega⟩
    have hp1 : 1 ≤ rwsR r := by cases r <;> simp [rwsR]
    have hp2 : 1 ≤ dpR r := by cases r <;> simp [dpR]
    have c1 : ¬ (30 < rr + 1) := by omega
    have c2 : ¬ (6 < deep) := by omega
    have hi := fun st => is_row_ok h (k := k + 9) (st := st) hr (by omega)
    have hw1 := fun st => worth_at_ok h (k := k + 10) (st := st) (r := r)
    have hb1 := fun st => blocks_at_ok h (k := k + 10) (st := st) (r := r)
    cases r with
    | set x e =>
      unfold okR at hr
      simp only [Bool.and_eq_true] at hr
      simp only [rwsR, esR, dpR, dxR] at h1 h2 hd hx
      have hl := look_worth_ok h e (m := m + 1) (r := rr + 1) (w := w) (deep := 1) (p := p) (q := q) (k := k + 11) hr.2 h2 hw (by omega) (by omega) (by omega)
      simp only [encR] at hi hw1 hb1 ⊢
      simp [f_Looker_look, forB, fldV, setFV, h.c12, h.g5, h.g7, c1, c2, hi, hw1, hb1, L2.atI, L2.ixN, hl, rwsR, esR]
      omega
    | say e =>
      unfold okR at hr
      simp only [rwsR, esR, dpR, dxR] at h1 h2 hd hx
      have hl := look_worth_ok h e (m := m + 1) (r := rr + 1) (w := w) (deep := 1) (p := p) (q := q) (k := k + 11) hr h2 hw (by omega) (by omega) (by omega)
      simp only [encR] at hi hw1 hb1 ⊢
      simp [f_Looker_look, forB, fldV, setFV, h.c12, h.g5, h.g7, c1, c2, hi, hw1, hb1, L2.atI, L2.ixN, hl, rwsR, esR]
      omega
    | give e =>
      unfold okR at hr
      simp only [rwsR, esR, dpR, dxR] at h1 h2 hd hx
      have hl := look_worth_ok h e (m := m + 1) (r := rr + 1) (w := w) (deep := 1) (p := p) (q := q) (k := k + 11) hr h2 hw (by omega) (by omega) (by omega)
      simp only [encR] at hi hw1 hb1 ⊢
      simp [f_Looker_look, forB, fldV, setFV, h.c12, h.g5, h.g7, c1, c2, hi, hw1, hb1, L2.atI, L2.ixN, hl, rwsR, esR]
      omega
    | ifr e a b =>
      unfold okR at hr
      simp only [Bool.and_eq_true] at hr
      simp only [rwsR, esR, dpR, dxR] at h1 h2 hd hx hk
      have hl := look_worth_ok h e (m := m + 1) (r := rr + 1) (w := w) (deep := 1) (p := p) (q := q) (k := k + 11) hr.1 (by omega) hw (by omega) (by omega) (by omega)
      obtain ⟨s1, e1⟩ := look_Rs a (m := m + 1 + szE e) (rr := rr + 1) (w := w + szE e) (deep := deep + 1) (p := p) (q := q) (k := k + 10) (X := .tup (encRs a)) (x3 := none) (x4 := none) (x5 := none) hr.2.1 (by omega) (by omega) (by omega) (by omega) (by omega) (by omega) (by omega)
      obtain ⟨s2, e2⟩ := look_Rs b (m := m + 1 + szE e + (rwsRs a + esRs a : Nat)) (rr := rr + 1 + rwsRs a) (w := w + szE e + esRs a) (deep := deep + 1) (p := p) (q := q) (k := k + 10) (X := .tup (encRs b)) (x3 := none) (x4 := none) (x5 := none) hr.2.2 (by omega) (by omega) (by omega) (by omega) (by omega) (by omega) (by omega)
      have f1 : callD T (k + 11) 52 [.ref p.length, .tup (encRs a), .int (deep + 1)] (p ++ lkO (m + 1 + szE e) (rr + 1) (w + szE e) :: q) = .ok .non (p ++ lkO (m + 1 + szE e + (rwsRs a + esRs a : Nat)) (rr + 1 + rwsRs a) (w + szE e + esRs a) :: q) := look_fn h e1
      have f2 : callD T (k + 11) 52 [.ref p.length, .tup (encRs b), .int (deep + 1)] (p ++ lkO (m + 1 + szE e + (rwsRs a + esRs a : Nat)) (rr + 1 + rwsRs a) (w + szE e + esRs a) :: q) = .ok .non (p ++ lkO (m + 1 + szE e + (rwsRs a + esRs a : Nat) + (rwsRs b + esRs b : Nat)) (rr + 1 + rwsRs a + rwsRs b) (w + szE e + esRs a + esRs b) :: q) := look_fn h e2
      simp only [encR] at hi hw1 hb1 ⊢
      simp only [Int.natCast_add] at f1 f2
      simp [f_Looker_look, forB, fldV, setFV, h.c12, h.g5, h.g7, c1, c2, hi, hw1, hb1, L2.atI, L2.ixN, hl, f1, f2, rwsR, esR]
      omega
    | whl e a =>
      unfold okR at hr
      simp only [Bool.and_eq_true] at hr
      simp only [rwsR, esR, dpR, dxR] at h1 h2 hd hx hk
      have hl := look_worth_ok h e (m := m + 1) (r := rr + 1) (w := w) (deep := 1) (p := p) (q := q) (k := k + 11) hr.1 (by omega) hw (by omega) (by omega) (by omega)
      obtain ⟨s1, e1⟩ := look_Rs a (m := m + 1 + szE e) (rr := rr + 1) (w := w + szE e) (deep := deep + 1) (p := p) (q := q) (k := k + 10) (X := .tup (encRs a)) (x3 := none) (x4 := none) (x5 := none) hr.2 (by omega) (by omega) (by omega) (by omega) (by omega) (by omega) (by omega)
      have f1 : callD T (k + 11) 52 [.ref p.length, .tup (encRs a), .int (deep + 1)] (p ++ lkO (m + 1 + szE e) (rr + 1) (w + szE e) :: q) = .ok .non (p ++ lkO (m + 1 + szE e + (rwsRs a + esRs a : Nat)) (rr + 1 + rwsRs a) (w + szE e + esRs a) :: q) := look_fn h e1
      simp only [encR] at hi hw1 hb1 ⊢
      simp only [Int.natCast_add] at f1
      simp [f_Looker_look, forB, fldV, setFV, h.c12, h.g5, h.g7, c1, c2, hi, hw1, hb1, L2.atI, L2.ixN, hl, f1, rwsR, esR]
      omega
theorem look_Rs : ∀ (rs : List Rw) {m rr w deep : Int} {p q : Store} {k : Nat} {X : D} {x3 x4 x5 : Option D}, okRs rs = true → rr + rwsRs rs ≤ 30 → w + esRs rs ≤ 120 → 0 ≤ w → 1 ≤ deep → deep + dpRs rs ≤ 7 → dxRs rs ≤ 8 → dpRs rs + 11 ≤ k →
    ∃ sl, forR T (callD T k) (.n 3) (forB f_Looker_look.body) (fun _ => true) (encRs rs) [some (.ref p.length), some X, some (.int deep), x3, x4, x5] (p ++ lkO m rr w :: q) =
      .next sl (p ++ lkO (m + (rwsRs rs + esRs rs : Nat)) (rr + rwsRs rs) (w + esRs rs) :: q)
  | [], m, rr, w, deep, p, q, k, X, x3, x4, x5, _, _, _, _, _, _, _, _ => by simp [encRs, rwsRs, esRs]
  | r :: rs, m, rr, w, deep, p, q, k, X, x3, x4, x5, hr, h1, h2, hw, hd1, hd, hx, hk => by
    unfold okRs at hr
    simp only [Bool.and_eq_true] at hr
    simp only [rwsRs, esRs, dpRs, dxRs] at h1 h2 hd hx hk
    obtain ⟨a, b, e⟩ := look_R r (m := m) (rr := rr) (w := w) (deep := deep) (p := p) (q := q) (k := k) (X := X) (x4 := x4) (x5 := x5) hr.1 (by omega) (by omega) hw hd1 (by omega) (by omega) (by omega)
    obtain ⟨sl, e2⟩ := look_Rs rs (m := m + (rwsR r + esR r : Nat)) (rr := rr + rwsR r) (w := w + esR r) (deep := deep) (p := p) (q := q) (k := k) (X := X) (x3 := some (encR r)) (x4 := a) (x5 := b) hr.2 (by omega) (by omega) (by omega) hd1 (by omega) (by omega) (by omega)
    refine ⟨sl, ?_⟩
    simp only [encRs, for_cons, asg_n, if_true, List.set_cons_succ, List.set_cons_zero]
    rw [e, bndS_next, e2]
    simp only [rwsRs, esRs]
    congr 4
    all_goals first
      | omega
      | (simp only [Int.natCast_add]; omega)
      | (congr 2; first | omega | (simp only [Int.natCast_add]; omega))
      | skip
end
theorem looker_init {k : Nat} {p q : Store} : callD T (k + 1) 51 [.ref p.length] (p ++ .ins 12 [] :: q) = .ok .non (p ++ lkO 0 0 0 :: q) := by
  rw [callD_of h.f51 rfl]
  simp [f_Looker___init__, startD, setFV, h.c12]
theorem need_program_ok {p : List Rw} (hp : okP p = true) {k : Nat} (hk : 20 ≤ k) {st : Store} : callD T k 8 [encP p] st = .ok .non st := by
  obtain ⟨k, rfl⟩ : ∃ k', k = k' + 20 := ⟨k - 20, by omega⟩
  unfold okP at hp
  simp only [Bool.and_eq_true, decide_eq_true_eq] at hp
  obtain ⟨h1, h2, h3, h4, h5⟩ := hp
  obtain ⟨sl, e⟩ := look_Rs h p (m := 0) (rr := 0) (w := 0) (deep := 1) (p := st) (q := []) (k := k + 18) (X := encP p) (x3 := none) (x4 := none) (x5 := none) h1 (by omega) (by omega) (by omega) (by omega) (by omega) (by omega) (by omega)
  have e2 := look_fn h e
  rw [callD_of h.f8 rfl]
  simp [f_need_program, startD, h.i12, looker_init h, e2]
end
end TS
end

section
set_option Elab.async false
set_option linter.all false
set_option maxRecDepth 100000
set_option maxHeartbeats 4000000
set_option autoImplicit false
namespace TS
open PySem
def okI (ins : List Int) : Bool := decide (ins.length ≤ 4) && ins.all fun i => decide (-9999 ≤ i) && decide (i ≤ 9999)
abbrev encI (ins : List Int) : D := .tup (ins.map .int)
@[simp] theorem st_getF {p q r : Store} {a b : SO} : (p ++ a :: (q ++ b :: r))[p.length + (q.length + 1)]? = some b := by
  rw [List.getElem?_append_right (by omega)]
  have : p.length + (q.length + 1) - p.length = q.length + 1 := by omega
  rw [this, List.getElem?_cons_succ]
  simp
@[simp] theorem st_setF {p q r : Store} {a b x : SO} : (p ++ a :: (q ++ b :: r)).set (p.length + (q.length + 1)) x = p ++ a :: (q ++ x :: r) := by
  rw [List.set_append_right _ _ (by omega)]
  have : p.length + (q.length + 1) - p.length = q.length + 1 := by omega
  rw [this, List.set_cons_succ]
  simp
def markE : Int → Ex → D
  | a, .not e => .tup [.int a, encE (.not e), .lst [markE (a + 1) e]]
  | a, .op o e e' => .tup [.int a, encE (.op o e e'), .lst [markE (a + 1) e, markE (a + 1 + szE e) e']]
  | a, e => .tup [.int a, encE e, .lst []]
abbrev mkO (a : Int) : SO := .ins 13 [.int a]
abbrev nR (r : Rw) : Nat := rwsR r + esR r
abbrev nRs (rs : List Rw) : Nat := rwsRs rs + esRs rs
mutual
def markR : Int → Rw → D
  | a, .set x e => .tup [.int a, encR (.set x e), markE (a + 1) e, .lst []]
  | a, .say e => .tup [.int a, encR (.say e), markE (a + 1) e, .lst []]
  | a, .give e => .tup [.int a, encR (.give e), markE (a + 1) e, .lst []]
  | a, .ifr e x y => .tup [.int a, encR (.ifr e x y), markE (a + 1) e, .lst [.lst (markRs (a + 1 + szE e) x), .lst (markRs (a + 1 + szE e + nRs x) y)]]
  | a, .whl e x => .tup [.int a, encR (.whl e x), markE (a + 1) e, .lst [.lst (markRs (a + 1 + szE e) x)]]
def markRs : Int → List Rw → List D
  | _, [] => []
  | a, r :: rs => markR a r :: markRs (a + nR r) rs
end
section
variable {T : Tab} (h : PR T)
include h
theorem are_inputs_ok {ins : List Int} (hi : okI ins = true) {k : Nat} {st : Store} : callD T (k + 2) 14 [encI ins] st = .ok (.bl true) st := by
  unfold okI at hi
  simp only [Bool.and_eq_true, decide_eq_true_eq, List.all_eq_true] at hi
  obtain ⟨h1, h2⟩ := hi
  have c : ¬ ((4 : Int) < (ins.length : Int)) := by omega
  have hl := lcR_map (T := T) (f := callD T (k + 1)) (st := st) (ok := fun _ => true) (e := .call 0 (.cons (.v 1) (.cons (.bin .sub (.c (.int 0)) (.g 9)) (.cons (.g 9) .nil))) []) (tg := .n 1) (cs := .nil) (own := [1]) (sl := [some (encI ins), none]) (g := fun _ => .bl true) (xs := ins.map D.int) rfl (fun x hx => by
    obtain ⟨i, hi, rfl⟩ := List.mem_map.mp hx
    have := h2 i hi
    simp [lcT_eq, wipeD, h.g9, is_number_int h, this])
  have e := boolsD_map (fun _ : Int => true) ins
  have hz : ins.length ≤ LIM := by rw [lim_eq]; omega
  rw [callD_of h.f14 rfl]
  simp [f_are_inputs, startD, h.g10, c, hl, hz, Function.comp_def, e]
theorem is_limit_ok {l : Int} {k : Nat} {st : Store} : callD T (k + 2) 15 [.int l] st = .ok (.bl (decide (1 ≤ l) && decide (l ≤ 100000))) st := by
  rw [callD_of h.f15 rfl]
  simp [f_is_limit, startD, h.g14, is_number_int h]
theorem marker_init {k : Nat} {p q : Store} : callD T (k + 1) 54 [.ref p.length] (p ++ .ins 13 [] :: q) = .ok .non (p ++ mkO 0 :: q) := by
  rw [callD_of h.f54 rfl]
  simp [f_Marker___init__, startD, setFV, h.c13]
theorem taken_ok {k : Nat} {p q : Store} {a : Int} : callD T (k + 1) 55 [.ref p.length] (p ++ mkO a :: q) = .ok (.int a) (p ++ mkO (a + 1) :: q) := by
  rw [callD_of h.f55 rfl]
  simp [f_Marker_taken, startD, fldV, setFV, h.c13]
theorem mark_worth_ok : ∀ (e : Ex) {a : Int} {p q : Store} {k : Nat}, dpE e + 1 ≤ k → callD T k 56 [.ref p.length, encE e] (p ++ mkO a :: q) = .ok (markE a e) (p ++ mkO (a + szE e) :: q)
  | e, a, p, q, k, hk => by
    have hd1 : 1 ≤ dpE e := by cases e <;> simp [dpE]
    obtain ⟨k, rfl⟩ : ∃ k', k = k' + 2 := ⟨k - 2, by omega⟩
    have ha := fun st => worths_at_ok h (k := k) (st := st) (e := e)
    have ht := taken_ok h (k := k) (p := p) (q := q) (a := a)
    rw [callD_of h.f56 rfl]
    cases e with
    | not e =>
      simp only [dpE] at hk
      have ih := mark_worth_ok e (a := a + 1) (p := p) (q := q) (k := k + 1) (by omega)
      simp only [encE] at ha
      simp [f_Marker_worth, startD, encE, ht, ha, lcT_eq, wipeD, L2.atI, L2.ixN, ih, markE, szE]
      omega
    | op o e e' =>
      simp only [dpE] at hk
      have ih := mark_worth_ok e (a := a + 1) (p := p) (q := q) (k := k + 1) (by omega)
      have ih2 := mark_worth_ok e' (a := a + 1 + szE e) (p := p) (q := q) (k := k + 1) (by omega)
      simp only [encE] at ha
      simp [f_Marker_worth, startD, encE, ht, ha, lcT_eq, wipeD, L2.atI, L2.ixN, ih, ih2, markE, szE]
      omega
    | num n =>
      simp only [encE] at ha
      simp [f_Marker_worth, startD, encE, ht, ha, markE, szE]
    | inp n =>
      simp only [encE] at ha
      simp [f_Marker_worth, startD, encE, ht, ha, markE, szE]
    | get n =>
      simp only [encE] at ha
      simp [f_Marker_worth, startD, encE, ht, ha, markE, szE]
abbrev dds (j : Nat) : Store := List.replicate j .dead
omit h in
theorem dds_succ {j : Nat} : SO.dead :: dds j = dds (j + 1) := rfl
omit h in
theorem nRs_cons {r : Rw} {rs : List Rw} : nRs (r :: rs) = nR r + nRs rs := by simp only [nRs, nR, rwsRs, esRs]; omega
omit h in
theorem rws_pos (r : Rw) : 1 ≤ rwsR r := by cases r <;> simp [rwsR]
omit h in
theorem len_rws : ∀ (rs : List Rw), rs.length ≤ rwsRs rs
  | [] => by simp [rwsRs]
  | r :: rs => by
    have := len_rws rs
    have := rws_pos r
    simp only [rwsRs, List.length_cons]
    omega
omit h in
theorem dds_app {i j : Nat} : dds i ++ dds j = dds (i + j) := List.replicate_append_replicate
theorem marked_fn {k : Nat} {p q r : Store} {a b : Int} {rs xs : List D} {y3 y4 y5 y6 : Option D}
    (e : forR T (callD T k) (.n 3) (forB f_Marker_marked.body) (fun _ => true) rs [some (.ref p.length), some (.tup rs), some (.ref (p.length + (q.length + 1))), none, none, none, none] (p ++ mkO a :: (q ++ .lst [] :: [])) =
      .next [some (.ref p.length), some (.tup rs), some (.ref (p.length + (q.length + 1))), y3, y4, y5, y6] (p ++ mkO b :: (q ++ .lst xs :: r))) :
    callD T (k + 1) 57 [.ref p.length, .tup rs] (p ++ mkO a :: q) = .ok (.lst xs) (p ++ mkO b :: (q ++ .dead :: r)) := by
  rw [callD_of h.f57 rfl]
  simp only [f_Marker_marked, forB] at e
  simp [f_Marker_marked, startD, shV, e, fzV]
mutual
theorem marked_R : ∀ (r : Rw) {a : Int} {p q d : Store} {xs : List D} {k : Nat} {X : D} {x4 x5 x6 : Option D}, rwsR r ≤ 1000 → dxR r ≤ 8 → dpR r + 9 ≤ k → xs.length < LIM →
    ∃ j y4 y5 y6, exSs T (callD T k) (forB f_Marker_marked.body) [some (.ref p.length), some X, some (.ref (p.length + (q.length + 1))), some (encR r), x4, x5, x6] (p ++ mkO a :: (q ++ .lst xs :: d)) =
      .next [some (.ref p.length), some X, some (.ref (p.length + (q.length + 1))), some (encR r), y4, y5, y6] (p ++ mkO (a + nR r) :: (q ++ .lst (xs ++ [markR a r]) :: (d ++ dds j)))
  | r, a, p, q, d, xs, k, X, x4, x5, x6, hrw, hx, hk, hl => by
    obtain ⟨k, rfl⟩ : ∃ k', k = k' + 9 := ⟨k - 9, by omega⟩
    have hw1 := fun st => worth_at_ok h (k := k + 8) (st := st) (r := r)
    have hb1 := fun st => blocks_at_ok h (k := k + 8) (st := st) (r := r)
    have ht := taken_ok h (k := k + 8) (p := p) (q := q ++ .lst xs :: d) (a := a)
    cases r with
    | set x e =>
      simp only [dxR] at hx
      have hm := mark_worth_ok h e (a := a + 1) (p := p) (q := q ++ .lst xs :: d) (k := k + 9) (by omega)
      simp only [encR] at hw1 hb1 ⊢
      refine ⟨0, ?_⟩
      simp [f_Marker_marked, forB, ht, hw1, hb1, L2.atI, L2.ixN, hm, bmTy, litems, bmV, hl, markR, encR, nR, rwsR, esR]
      omega
    | say e =>
      simp only [dxR] at hx
      have hm := mark_worth_ok h e (a := a + 1) (p := p) (q := q ++ .lst xs :: d) (k := k + 9) (by omega)
      simp only [encR] at hw1 hb1 ⊢
      refine ⟨0, ?_⟩
      simp [f_Marker_marked, forB, ht, hw1, hb1, L2.atI, L2.ixN, hm, bmTy, litems, bmV, hl, markR, encR, nR, rwsR, esR]
      omega
    | give e =>
      simp only [dxR] at hx
      have hm := mark_worth_ok h e (a := a + 1) (p := p) (q := q ++ .lst xs :: d) (k := k + 9) (by omega)
      simp only [encR] at hw1 hb1 ⊢
      refine ⟨0, ?_⟩
      simp [f_Marker_marked, forB, ht, hw1, hb1, L2.atI, L2.ixN, hm, bmTy, litems, bmV, hl, markR, encR, nR, rwsR, esR]
      omega
    | ifr e u v =>
      simp only [dxR, dpR, rwsR] at hx hk hrw
      have lu := len_rws u
      have lv := len_rws v
      have hm := mark_worth_ok h e (a := a + 1) (p := p) (q := q ++ .lst xs :: d) (k := k + 9) (by omega)
      obtain ⟨j1, y3, y4, y5, y6, e1⟩ := marked_Rs u (a := a + 1 + szE e) (p := p) (q := q ++ .lst xs :: d) (d := []) (xs := []) (k := k + 8) (X := .tup (encRs u)) (x3 := none) (x4 := none) (x5 := none) (x6 := none) (by omega) (by omega) (by omega) (by rw [lim_eq]; simp; omega)
      have f1 := marked_fn h e1
      obtain ⟨j2, z3, z4, z5, z6, e2⟩ := marked_Rs v (a := a + 1 + szE e + nRs u) (p := p) (q := (q ++ .lst xs :: d) ++ .dead :: dds j1) (d := []) (xs := []) (k := k + 8) (X := .tup (encRs v)) (x3 := none) (x4 := none) (x5 := none) (x6 := none) (by omega) (by omega) (by omega) (by rw [lim_eq]; simp; omega)
      have f2 := marked_fn h e2
      simp only [encR] at hw1 hb1 ⊢
      refine ⟨(j1 + 1) + (j2 + 1), ?_⟩
      simp at f1 f2
      simp [f_Marker_marked, forB, ht, hw1, hb1, L2.atI, L2.ixN, hm, lcT_eq, wipeD, f1, f2, bmTy, litems, bmV, hl, markR, encR, nR, rwsR, esR]
      refine ⟨by omega, ?_⟩
      rw [dds_succ (j := j2), ← List.cons_append, dds_succ (j := j1), dds_app]
    | whl e u =>
      simp only [dxR, dpR, rwsR] at hx hk hrw
      have lu := len_rws u
      have hm := mark_worth_ok h e (a := a + 1) (p := p) (q := q ++ .lst xs :: d) (k := k + 9) (by omega)
      obtain ⟨j1, y3, y4, y5, y6, e1⟩ := marked_Rs u (a := a + 1 + szE e) (p := p) (q := q ++ .lst xs :: d) (d := []) (xs := []) (k := k + 8) (X := .tup (encRs u)) (x3 := none) (x4 := none) (x5 := none) (x6 := none) (by omega) (by omega) (by omega) (by rw [lim_eq]; simp; omega)
      have f1 := marked_fn h e1
      simp only [encR] at hw1 hb1 ⊢
      refine ⟨j1 + 1, ?_⟩
      simp at f1
      simp [f_Marker_marked, forB, ht, hw1, hb1, L2.atI, L2.ixN, hm, lcT_eq, wipeD, f1, bmTy, litems, bmV, hl, markR, encR, nR, rwsR, esR]
      refine ⟨by omega, rfl⟩
theorem marked_Rs : ∀ (rs : List Rw) {a : Int} {p q d : Store} {xs : List D} {k : Nat} {X : D} {x3 x4 x5 x6 : Option D}, rwsRs rs ≤ 1000 → dxRs rs ≤ 8 → dpRs rs + 9 ≤ k → xs.length + rs.length ≤ LIM →
    ∃ j y3 y4 y5 y6, forR T (callD T k) (.n 3) (forB f_Marker_marked.body) (fun _ => true) (encRs rs) [some (.ref p.length), some X, some (.ref (p.length + (q.length + 1))), x3, x4, x5, x6] (p ++ mkO a :: (q ++ .lst xs :: d)) =
      .next [some (.ref p.length), some X, some (.ref (p.length + (q.length + 1))), y3, y4, y5, y6] (p ++ mkO (a + nRs rs) :: (q ++ .lst (xs ++ markRs a rs) :: (d ++ dds j)))
  | [], a, p, q, d, xs, k, X, x3, x4, x5, x6, _, _, _, _ => ⟨0, x3, x4, x5, x6, by simp [encRs, nRs, rwsRs, esRs, markRs]⟩
  | r :: rs, a, p, q, d, xs, k, X, x3, x4, x5, x6, hrw, hx, hk, hl => by
    simp only [dxRs, dpRs, rwsRs, List.length_cons] at hrw hx hk hl
    obtain ⟨j1, a4, a5, a6, e1⟩ := marked_R r (a := a) (p := p) (q := q) (d := d) (xs := xs) (k := k) (X := X) (x4 := x4) (x5 := x5) (x6 := x6) (by omega) (by omega) (by omega) (by omega)
    obtain ⟨j2, b3, b4, b5, b6, e2⟩ := marked_Rs rs (a := a + nR r) (p := p) (q := q) (d := d ++ dds j1) (xs := xs ++ [markR a r]) (k := k) (X := X) (x3 := some (encR r)) (x4 := a4) (x5 := a5) (x6 := a6) (by omega) (by omega) (by omega) (by rw [List.length_append]; simp; omega)
    refine ⟨j1 + j2, b3, b4, b5, b6, ?_⟩
    simp only [encRs, for_cons, asg_n, if_true, List.set_cons_succ, List.set_cons_zero]
    rw [e1, bndS_next, e2]
    simp only [markRs, List.append_assoc, dds_app, nRs_cons, List.singleton_append, List.cons_append, List.nil_append]
    congr 4
    simp only [Int.natCast_add]
    omega
end
theorem marked_ok {rs : List Rw} {a : Int} {p q : Store} {k : Nat} (h1 : rwsRs rs ≤ 1000) (h2 : dxRs rs ≤ 8) (h3 : dpRs rs + 10 ≤ k) :
    ∃ j, callD T k 57 [.ref p.length, .tup (encRs rs)] (p ++ mkO a :: q) = .ok (.lst (markRs a rs)) (p ++ mkO (a + nRs rs) :: (q ++ dds j)) := by
  obtain ⟨k, rfl⟩ : ∃ k', k = k' + 1 := ⟨k - 1, by omega⟩
  have l := len_rws rs
  obtain ⟨j, y3, y4, y5, y6, e⟩ := marked_Rs h rs (a := a) (p := p) (q := q) (d := []) (xs := []) (k := k) (X := .tup (encRs rs)) (x3 := none) (x4 := none) (x5 := none) (x6 := none) h1 h2 (by omega) (by rw [lim_eq]; simp; omega)
  exact ⟨j + 1, marked_fn h e⟩
end
end TS
end

section
set_option Elab.async false
set_option linter.all false
set_option maxRecDepth 100000
set_option maxHeartbeats 4000000
set_option autoImplicit false
namespace TS
open PySem
inductive Why where
  | gave (n : Int)
  | fell (w : Str) (p : Int)
  | tired (p : Int)
  deriving DecidableEq
structure RS where
  names : List (Str × Int)
  said : List Int
  steps : Int
  why : Option Why
def whyD : Option Why → D
  | none => .non
  | some (.gave n) => .tup [.str "gave", .int n]
  | some (.fell w p) => .tup [.str "fell", .str w, .int p]
  | some (.tired p) => .tup [.str "tired", .int p]
@[simp] theorem isN_why {w : Option Why} : isN (whyD w) = w.isNone := by
  cases w with
  | none => rfl
  | some w => cases w <;> rfl
abbrev RSt (ins : List Int) (lim : Int) (p : Store) (s : RS) (q : Store) : Store :=
  p ++ .ins 14 [encI ins, .int lim, .ref (p.length + 1), .ref (p.length + 2), .int s.steps, whyD s.why] :: .dic (s.names.map fun x => .inr x.1) (s.names.map fun x => .int x.2) :: .lst (s.said.map .int) :: q
def beg (lim : Int) (s : RS) (pl : Int) : Bool × RS := if s.steps = lim then (false, { s with why := some (.tired pl) }) else (true, { s with steps := s.steps + 1 })
abbrev GREAT : Int := 1000000000
def gr (v pl : Int) (s : RS) : Int × RS := if absI v ≤ GREAT then (v, s) else (0, { s with why := some (.fell "great" pl) })
def rk (o : Op) (a b pl : Int) (s : RS) : Int × RS := match o with
  | .and => (boolB (decide (b ≠ 0)), s)
  | .or => (boolB (decide (b ≠ 0)), s)
  | .less => (boolB (decide (a < b)), s)
  | .same => (boolB (decide (a = b)), s)
  | .over => if b = 0 then (0, { s with why := some (.fell "nought" pl) }) else (a.fdiv b, s)
  | .plus => gr (a + b) pl s
  | .minus => gr (a - b) pl s
  | .times => gr (a * b) pl s
def stp (lim pl : Int) (s : RS) (k : RS → Int × RS) : Int × RS := if s.steps = lim then (0, { s with why := some (.tired pl) }) else k { s with steps := s.steps + 1 }
def stops (o : Op) (a : Int) : Bool := (decide (o = .and) && decide (a = 0)) || (decide (o = .or) && decide (a ≠ 0))
def evL (ins : List Int) (lim : Int) : Ex → Int → RS → Int × RS
  | .num n, pl, s => stp lim pl s fun s1 => (n, s1)
  | .inp k, pl, s => stp lim pl s fun s1 => if k < ins.length then (ins.getD k.toNat 0, s1) else (0, { s1 with why := some (.fell "unread" pl) })
  | .get x, pl, s => stp lim pl s fun s1 => match s1.names.lookup x with
    | some v => (v, s1)
    | none => (0, { s1 with why := some (.fell "unset" pl) })
  | .not a, pl, s => stp lim pl s fun s1 => if (evL ins lim a (pl + 1) s1).2.why.isSome then (0, (evL ins lim a (pl + 1) s1).2) else (boolB (decide ((evL ins lim a (pl + 1) s1).1 = 0)), (evL ins lim a (pl + 1) s1).2)
  | .op o a b, pl, s => stp lim pl s fun s1 =>
    if (evL ins lim a (pl + 1) s1).2.why.isSome then (0, (evL ins lim a (pl + 1) s1).2)
    else if stops o (evL ins lim a (pl + 1) s1).1 then (boolB (decide ((evL ins lim a (pl + 1) s1).1 ≠ 0)), (evL ins lim a (pl + 1) s1).2)
    else if (evL ins lim b (pl + 1 + szE a) (evL ins lim a (pl + 1) s1).2).2.why.isSome then (0, (evL ins lim b (pl + 1 + szE a) (evL ins lim a (pl + 1) s1).2).2)
    else rk o (evL ins lim a (pl + 1) s1).1 (evL ins lim b (pl + 1 + szE a) (evL ins lim a (pl + 1) s1).2).1 pl (evL ins lim b (pl + 1 + szE a) (evL ins lim a (pl + 1) s1).2).2
@[simp] theorem op_num {o : Op} : (opS o = "num") = False := by cases o <;> simp [opS]
@[simp] theorem op_in {o : Op} : (opS o = "in") = False := by cases o <;> simp [opS]
@[simp] theorem op_get {o : Op} : (opS o = "get") = False := by cases o <;> simp [opS]
@[simp] theorem op_not {o : Op} : (opS o = "not") = False := by cases o <;> simp [opS]
@[simp] theorem op_and {o : Op} : (opS o = "and") = (o = .and) := by cases o <;> simp [opS]
@[simp] theorem op_or {o : Op} : (opS o = "or") = (o = .or) := by cases o <;> simp [opS]
@[simp] theorem and_op {o : Op} : ("and" = opS o) = (o = .and) := by cases o <;> simp [opS]
@[simp] theorem or_op {o : Op} : ("or" = opS o) = (o = .or) := by cases o <;> simp [opS]
def tailB : Nat → DSs → DSs
  | 0, b => b
  | n + 1, .cons _ b => tailB n b
  | _, .nil => .nil
section
variable {T : Tab} (h : PR T) {ins : List Int} {lim : Int} {p q : Store}
include h
theorem begins_ok {k : Nat} {s : RS} {pl : Int} : callD T (k + 1) 59 [.ref p.length, .int pl] (RSt ins lim p s q) = .ok (.bl (beg lim s pl).1) (RSt ins lim p (beg lim s pl).2 q) := by
  rw [callD_of h.f59 rfl]
  by_cases e : s.steps = lim
  · simp [f_Run_begins, startD, fldV, setFV, h.c14, e, beg, whyD]
  · simp [f_Run_begins, startD, fldV, setFV, h.c14, e, beg]
theorem falls_ok {k : Nat} {s : RS} {w : Str} {pl : Int} : callD T (k + 1) 60 [.ref p.length, .str w, .int pl] (RSt ins lim p s q) = .ok (.int 0) (RSt ins lim p { s with why := some (.fell w pl) } q) := by
  rw [callD_of h.f60 rfl]
  simp [f_Run_falls, startD, setFV, h.c14, whyD]
omit h in
theorem b64 {a : Int} (h : absI a ≤ GREAT) : inB64 a = true := by
  simp only [absI, GREAT] at h
  split at h <;> simp [inB64] <;> omega
theorem reckoned_ok {k : Nat} {s : RS} {o : Op} {a b pl : Int} (ha : absI a ≤ GREAT) (hb : absI b ≤ GREAT) : callD T (k + 2) 62 [.ref p.length, .str (opS o), .int a, .int b, .int pl] (RSt ins lim p s q) = .ok (.int (rk o a b pl s).1) (RSt ins lim p (rk o a b pl s).2 q) := by
  rw [callD_of h.f62 rfl]
  have b1 := b64 ha
  have b2 := b64 hb
  have hf := fun w => falls_ok h (ins := ins) (lim := lim) (p := p) (q := q) (k := k) (s := s) (w := w) (pl := pl)
  have hn : b.natAbs < 1073741824 := by
    simp only [absI, GREAT] at hb
    split at hb <;> omega
  cases o with
  | and => simp [f_Run_reckoned, startD, opS, inV?, flatD, eqF, rk]
  | or => simp [f_Run_reckoned, startD, opS, inV?, flatD, eqF, rk]
  | less => simp [f_Run_reckoned, startD, opS, inV?, flatD, eqF, rk]
  | same => simp [f_Run_reckoned, startD, opS, inV?, flatD, eqF, rk]
  | over =>
    by_cases e : b = 0
    · simp [f_Run_reckoned, startD, opS, inV?, flatD, eqF, rk, e]
      subst e
      simp [hf]
    · simp [f_Run_reckoned, startD, opS, inV?, flatD, eqF, rk, e, binV, hn]
  | plus =>
    by_cases e : absI (a + b) ≤ GREAT
    · simp [f_Run_reckoned, startD, opS, inV?, flatD, eqF, rk, gr, e, binV, b1, ixV, items, ditems, keyOf, dget, h.g15]
    · simp [f_Run_reckoned, startD, opS, inV?, flatD, eqF, rk, gr, e, binV, b1, ixV, items, ditems, keyOf, dget, h.g15, hf]
  | minus =>
    by_cases e : absI (a - b) ≤ GREAT
    · simp [f_Run_reckoned, startD, opS, inV?, flatD, eqF, rk, gr, e, binV, b1, ixV, items, ditems, keyOf, dget, h.g15]
    · simp [f_Run_reckoned, startD, opS, inV?, flatD, eqF, rk, gr, e, binV, b1, ixV, items, ditems, keyOf, dget, h.g15, hf]
  | times =>
    by_cases e : absI (a * b) ≤ GREAT
    · simp [f_Run_reckoned, startD, opS, inV?, flatD, eqF, rk, gr, e, binV, b1, ixV, items, ditems, keyOf, dget, h.g15]
    · simp [f_Run_reckoned, startD, opS, inV?, flatD, eqF, rk, gr, e, binV, b1, ixV, items, ditems, keyOf, dget, h.g15, hf]
omit h in
theorem dget_names {x : Str} : ∀ (l : List (Str × Int)), dget (l.map fun x => .inr x.1) (l.map fun x => .int x.2) (.inr x) = (l.lookup x).map .int
  | [] => rfl
  | (y, v) :: l => by
    rw [List.map_cons, List.map_cons, dget, List.lookup_cons]
    by_cases e : y = x
    · subst e; simp
    · have e1 : (x == y) = false := by rw [beq_eq_false_iff_ne]; exact Ne.symm e
      rw [e1]
      simp [e, dget_names l]
omit h in
theorem absI_boolB (b : Bool) : absI (boolB b) ≤ GREAT := by cases b <;> decide
def bnd (ins : List Int) (s : RS) : Prop := (∀ i ∈ ins, absI i ≤ GREAT) ∧ ∀ x ∈ s.names, absI x.2 ≤ GREAT
omit h in
theorem okI_bnd (hi : okI ins = true) : ∀ i ∈ ins, absI i ≤ GREAT := by
  unfold okI at hi
  simp only [Bool.and_eq_true, decide_eq_true_eq, List.all_eq_true] at hi
  intro i hm
  have := hi.2 i hm
  simp only [absI, GREAT]
  split <;> omega
omit h in
theorem fdiv_le {a b : Int} (ha : absI a ≤ GREAT) (hb : b ≠ 0) : absI (a.fdiv b) ≤ GREAT := by
  have h1 := Int.natAbs_fdiv_le_natAbs a b
  simp only [absI, GREAT] at ha ⊢
  split at ha <;> split <;> omega
omit h in
theorem rk_bnd {o : Op} {a b pl : Int} {s : RS} (ha : absI a ≤ GREAT) (hb : absI b ≤ GREAT) : absI (rk o a b pl s).1 ≤ GREAT ∧ (rk o a b pl s).2.names = s.names ∧ (rk o a b pl s).2.said = s.said ∧ (rk o a b pl s).2.steps = s.steps := by
  have z : absI 0 ≤ GREAT := by decide
  have g : ∀ v, absI (gr v pl s).1 ≤ GREAT ∧ (gr v pl s).2.names = s.names ∧ (gr v pl s).2.said = s.said ∧ (gr v pl s).2.steps = s.steps := by
    intro v
    unfold gr
    split
    · rename_i e; exact ⟨e, rfl, rfl, rfl⟩
    · exact ⟨z, rfl, rfl, rfl⟩
  cases o with
  | over =>
    unfold rk
    simp only
    split
    · exact ⟨z, rfl, rfl, rfl⟩
    · rename_i e; exact ⟨fdiv_le ha e, rfl, rfl, rfl⟩
  | plus => exact g _
  | minus => exact g _
  | times => exact g _
  | _ => exact ⟨absI_boolB _, rfl, rfl, rfl⟩
omit h in
theorem lookup_mem {x : Str} {v : Int} : ∀ {l : List (Str × Int)}, l.lookup x = some v → (x, v) ∈ l
  | [], e => by cases e
  | (y, u) :: l, e => by
    rw [List.lookup_cons] at e
    split at e
    · rename_i q
      cases e
      rw [beq_iff_eq.mp q]
      exact List.mem_cons_self
    · exact List.mem_cons_of_mem _ (lookup_mem e)
structure EvOk (lim : Int) (s : RS) (r : Int × RS) : Prop where
  val : absI r.1 ≤ GREAT
  names : r.2.names = s.names
  said : r.2.said = s.said
  up : s.steps ≤ r.2.steps
  low : r.2.steps ≤ lim
omit h in
theorem evL_ok : ∀ (e : Ex) {pl : Int} {s : RS}, okE e = true → bnd ins s → s.steps ≤ lim → EvOk lim s (evL ins lim e pl s)
  | e, pl, s, he, hb, hs => by
    have z : absI 0 ≤ GREAT := by decide
    have st : ∀ (k : RS → Int × RS), (s.steps ≠ lim → EvOk lim s (k { s with steps := s.steps + 1 })) → EvOk lim s (stp lim pl s k) := by
      intro k hk
      unfold stp
      split
      · exact ⟨z, rfl, rfl, Int.le_refl _, hs⟩
      · rename_i hne; exact hk hne
    cases e with
    | num n =>
      unfold okE at he
      simp only [Bool.and_eq_true, decide_eq_true_eq] at he
      unfold evL
      refine st _ fun hne => ⟨?_, rfl, rfl, by simp; omega, by simp; omega⟩
      simp only [absI, GREAT]
      split <;> omega
    | inp n =>
      unfold evL
      refine st _ fun hne => ?_
      split
      · rename_i hlt
        refine ⟨?_, rfl, rfl, by simp; omega, by simp; omega⟩
        simp only [List.getD_eq_getElem?_getD]
        cases q : ins[n.toNat]? with
        | none => exact z
        | some v => exact hb.1 v (List.mem_of_getElem? q)
      · exact ⟨z, rfl, rfl, by simp; omega, by simp; omega⟩
    | get x =>
      unfold evL
      refine st _ fun hne => ?_
      split
      · rename_i v hv
        exact ⟨hb.2 _ (lookup_mem hv), rfl, rfl, by simp; omega, by simp; omega⟩
      · exact ⟨z, rfl, rfl, by simp; omega, by simp; omega⟩
    | not a =>
      unfold okE at he
      unfold evL
      refine st _ fun hne => ?_
      have ih := evL_ok a (pl := pl + 1) (s := { s with steps := s.steps + 1 }) he hb (by simp; omega)
      have := ih.up
      simp only at this
      split
      · exact ⟨z, ih.names, ih.said, by simp only; omega, ih.low⟩
      · exact ⟨absI_boolB _, ih.names, ih.said, by simp; omega, ih.low⟩
    | op o a b =>
      unfold okE at he
      simp only [Bool.and_eq_true] at he
      unfold evL
      refine st _ fun hne => ?_
      have ih := evL_ok a (pl := pl + 1) (s := { s with steps := s.steps + 1 }) he.1 hb (by simp; omega)
      have u1 := ih.up
      simp only at u1
      split
      · exact ⟨z, ih.names, ih.said, by simp only; omega, ih.low⟩
      · split
        · exact ⟨absI_boolB _, ih.names, ih.said, by simp; omega, ih.low⟩
        · have ih2 := evL_ok b (pl := pl + 1 + szE a) (s := (evL ins lim a (pl + 1) { s with steps := s.steps + 1 }).2) he.2 ⟨hb.1, by rw [ih.names]; exact hb.2⟩ ih.low
          have u2 := ih2.up
          split
          · exact ⟨z, ih2.names.trans ih.names, ih2.said.trans ih.said, by simp only; omega, ih2.low⟩
          · obtain ⟨r1, r2, r3, r4⟩ := rk_bnd (o := o) (pl := pl) (s := (evL ins lim b (pl + 1 + szE a) (evL ins lim a (pl + 1) { s with steps := s.steps + 1 }).2).2) ih.val ih2.val
            exact ⟨r1, r2.trans (ih2.names.trans ih.names), r3.trans (ih2.said.trans ih.said), by rw [r4]; omega, by rw [r4]; exact ih2.low⟩
theorem worth_tired (e : Ex) {pl : Int} {s : RS} {k : Nat} (hst : s.steps = lim) : callD T (k + 3) 61 [.ref p.length, markE pl (e)] (RSt ins lim p s q) = .ok (.int (evL ins lim (e) pl s).1) (RSt ins lim p (evL ins lim (e) pl s).2 q) := by
  have hbe := begins_ok h (ins := ins) (lim := lim) (p := p) (q := q) (k := k + 1) (s := s) (pl := pl)
  rw [callD_of h.f61 rfl]
  have e1 : (beg lim s pl).1 = false := by unfold beg; rw [if_pos hst]
  have e2 : evL ins lim e pl s = (0, (beg lim s pl).2) := by
    unfold beg
    rw [if_pos hst]
    cases e <;> (unfold evL stp; rw [if_pos hst])
  rw [e1] at hbe
  rw [e2]
  cases e <;> simp [f_Run_worth, markE, startD, asgV, hbe]
theorem worth_num (n : Int) {pl : Int} {s : RS} {k : Nat} (hst : s.steps ≠ lim) (he : okE (.num n) = true) (hb : bnd ins s) (hs : s.steps ≤ lim)  : callD T (k + 3) 61 [.ref p.length, markE pl (.num n)] (RSt ins lim p s q) = .ok (.int (evL ins lim (.num n) pl s).1) (RSt ins lim p (evL ins lim (.num n) pl s).2 q) := by
  have hbe := begins_ok h (ins := ins) (lim := lim) (p := p) (q := q) (k := k + 1) (s := s) (pl := pl)
  have hf := fun w s => falls_ok h (ins := ins) (lim := lim) (p := p) (q := q) (k := k + 1) (s := s) (w := w) (pl := pl)
  have e1 : beg lim s pl = (true, { s with steps := s.steps + 1 }) := by unfold beg; rw [if_neg hst]
  rw [e1] at hbe
  simp only at hbe
  rw [callD_of h.f61 rfl]
  simp [f_Run_worth, markE, startD, asgV, hbe, encE, L2.atI, L2.ixN, evL, stp, hst]
theorem worth_inp (n : Int) {pl : Int} {s : RS} {k : Nat} (hst : s.steps ≠ lim) (he : okE (.inp n) = true) (hb : bnd ins s) (hs : s.steps ≤ lim)  : callD T (k + 3) 61 [.ref p.length, markE pl (.inp n)] (RSt ins lim p s q) = .ok (.int (evL ins lim (.inp n) pl s).1) (RSt ins lim p (evL ins lim (.inp n) pl s).2 q) := by
  have hbe := begins_ok h (ins := ins) (lim := lim) (p := p) (q := q) (k := k + 1) (s := s) (pl := pl)
  have hf := fun w s => falls_ok h (ins := ins) (lim := lim) (p := p) (q := q) (k := k + 1) (s := s) (w := w) (pl := pl)
  have e1 : beg lim s pl = (true, { s with steps := s.steps + 1 }) := by unfold beg; rw [if_neg hst]
  rw [e1] at hbe
  simp only at hbe
  rw [callD_of h.f61 rfl]
  unfold okE at he
  simp only [Bool.and_eq_true, decide_eq_true_eq] at he
  by_cases hn : n < ins.length
  · have h0 : 0 ≤ n := he.1
    obtain ⟨j, rfl⟩ : ∃ j : Nat, n = j := ⟨n.toNat, by omega⟩
    have hj : j < ins.length := by omega
    simp [f_Run_worth, markE, startD, asgV, hbe, encE, L2.atI, L2.ixN, evL, stp, hst, hn, hj, fldV]
  · simp [f_Run_worth, markE, startD, asgV, hbe, encE, L2.atI, L2.ixN, evL, stp, hst, hn, fldV, hf]
theorem worth_get (x : Str) {pl : Int} {s : RS} {k : Nat} (hst : s.steps ≠ lim) (he : okE (.get x) = true) (hb : bnd ins s) (hs : s.steps ≤ lim)  : callD T (k + 3) 61 [.ref p.length, markE pl (.get x)] (RSt ins lim p s q) = .ok (.int (evL ins lim (.get x) pl s).1) (RSt ins lim p (evL ins lim (.get x) pl s).2 q) := by
  have hbe := begins_ok h (ins := ins) (lim := lim) (p := p) (q := q) (k := k + 1) (s := s) (pl := pl)
  have hf := fun w s => falls_ok h (ins := ins) (lim := lim) (p := p) (q := q) (k := k + 1) (s := s) (w := w) (pl := pl)
  have e1 : beg lim s pl = (true, { s with steps := s.steps + 1 }) := by unfold beg; rw [if_neg hst]
  rw [e1] at hbe
  simp only at hbe
  rw [callD_of h.f61 rfl]
  unfold okE at he
  have hx := nmOk_sOk he
  cases hl : s.names.lookup x with
  | some v => simp [f_Run_worth, markE, startD, asgV, hbe, encE, L2.atI, L2.ixN, evL, stp, hst, fldV, inV?, ixV, items, ditems, keyOf, dget_names, hl]
  | none => simp [f_Run_worth, markE, startD, asgV, hbe, encE, L2.atI, L2.ixN, evL, stp, hst, fldV, inV?, items, ditems, keyOf, dget_names, hl, hf]
theorem worth_not (a : Ex) {pl : Int} {s : RS} {k : Nat} (hst : s.steps ≠ lim) (he : okE (.not a) = true) (hb : bnd ins s) (hs : s.steps ≤ lim) (ih : callD T (k + 2) 61 [.ref p.length, markE (pl + 1) a] (RSt ins lim p { s with steps := s.steps + 1 } q) = .ok (.int (evL ins lim a (pl + 1) { s with steps := s.steps + 1 }).1) (RSt ins lim p (evL ins lim a (pl + 1) { s with steps := s.steps + 1 }).2 q)) : callD T (k + 3) 61 [.ref p.length, markE pl (.not a)] (RSt ins lim p s q) = .ok (.int (evL ins lim (.not a) pl s).1) (RSt ins lim p (evL ins lim (.not a) pl s).2 q) := by
  have hbe := begins_ok h (ins := ins) (lim := lim) (p := p) (q := q) (k := k + 1) (s := s) (pl := pl)
  have hf := fun w s => falls_ok h (ins := ins) (lim := lim) (p := p) (q := q) (k := k + 1) (s := s) (w := w) (pl := pl)
  have e1 : beg lim s pl = (true, { s with steps := s.steps + 1 }) := by unfold beg; rw [if_neg hst]
  rw [e1] at hbe
  simp only at hbe
  rw [callD_of h.f61 rfl]
  unfold okE at he
  have hE : evL ins lim (.not a) pl s = if (evL ins lim a (pl + 1) { s with steps := s.steps + 1 }).2.why.isSome then (0, (evL ins lim a (pl + 1) { s with steps := s.steps + 1 }).2) else (boolB (decide ((evL ins lim a (pl + 1) { s with steps := s.steps + 1 }).1 = 0)), (evL ins lim a (pl + 1) { s with steps := s.steps + 1 }).2) := by
    rw [evL]; unfold stp; rw [if_neg hst]
  rw [hE]
  clear hE
  generalize evL ins lim a (pl + 1) { s with steps := s.steps + 1 } = r1 at ih ⊢
  obtain ⟨v1, s1⟩ := r1
  simp only at ih ⊢
  cases hw : s1.why with
  | none => simp [f_Run_worth, markE, startD, asgV, hbe, encE, L2.atI, L2.ixN, fldV, ih, hw]
  | some y => simp [f_Run_worth, markE, startD, asgV, hbe, encE, L2.atI, L2.ixN, fldV, ih, hw]
theorem worth_op (o : Op) (a b : Ex) {pl : Int} {s : RS} {k : Nat} (hst : s.steps ≠ lim) (he : okE (.op o a b) = true) (hb : bnd ins s) (hs : s.steps ≤ lim) (ih : callD T (k + 2) 61 [.ref p.length, markE (pl + 1) a] (RSt ins lim p { s with steps := s.steps + 1 } q) = .ok (.int (evL ins lim a (pl + 1) { s with steps := s.steps + 1 }).1) (RSt ins lim p (evL ins lim a (pl + 1) { s with steps := s.steps + 1 }).2 q)) (ih2 : callD T (k + 2) 61 [.ref p.length, markE (pl + 1 + szE a) b] (RSt ins lim p (evL ins lim a (pl + 1) { s with steps := s.steps + 1 }).2 q) = .ok (.int (evL ins lim b (pl + 1 + szE a) (evL ins lim a (pl + 1) { s with steps := s.steps + 1 }).2).1) (RSt ins lim p (evL ins lim b (pl + 1 + szE a) (evL ins lim a (pl + 1) { s with steps := s.steps + 1 }).2).2 q)) : callD T (k + 3) 61 [.ref p.length, markE pl (.op o a b)] (RSt ins lim p s q) = .ok (.int (evL ins lim (.op o a b) pl s).1) (RSt ins lim p (evL ins lim (.op o a b) pl s).2 q) := by
  have hbe := begins_ok h (ins := ins) (lim := lim) (p := p) (q := q) (k := k + 1) (s := s) (pl := pl)
  have hf := fun w s => falls_ok h (ins := ins) (lim := lim) (p := p) (q := q) (k := k + 1) (s := s) (w := w) (pl := pl)
  have e1 : beg lim s pl = (true, { s with steps := s.steps + 1 }) := by unfold beg; rw [if_neg hst]
  rw [e1] at hbe
  simp only at hbe
  rw [callD_of h.f61 rfl]
  unfold okE at he
  simp only [Bool.and_eq_true] at he
  have ok1 := evL_ok (ins := ins) (lim := lim) a (pl := pl + 1) (s := { s with steps := s.steps + 1 }) he.1 hb (by simp; omega)
  have ok2 := evL_ok (ins := ins) (lim := lim) b (pl := pl + 1 + szE a) (s := (evL ins lim a (pl + 1) { s with steps := s.steps + 1 }).2) he.2 ⟨hb.1, by rw [ok1.names]; exact hb.2⟩ ok1.low
  have hr := reckoned_ok h (ins := ins) (lim := lim) (p := p) (q := q) (k := k) (s := (evL ins lim b (pl + 1 + szE a) (evL ins lim a (pl + 1) { s with steps := s.steps + 1 }).2).2) (o := o) (pl := pl) ok1.val ok2.val
  have hE : evL ins lim (.op o a b) pl s = if (evL ins lim a (pl + 1) { s with steps := s.steps + 1 }).2.why.isSome then (0, (evL ins lim a (pl + 1) { s with steps := s.steps + 1 }).2)
    else if stops o (evL ins lim a (pl + 1) { s with steps := s.steps + 1 }).1 then (boolB (decide ((evL ins lim a (pl + 1) { s with steps := s.steps + 1 }).1 ≠ 0)), (evL ins lim a (pl + 1) { s with steps := s.steps + 1 }).2)
    else if (evL ins lim b (pl + 1 + szE a) (evL ins lim a (pl + 1) { s with steps := s.steps + 1 }).2).2.why.isSome then (0, (evL ins lim b (pl + 1 + szE a) (evL ins lim a (pl + 1) { s with steps := s.steps + 1 }).2).2)
    else rk o (evL ins lim a (pl + 1) { s with steps := s.steps + 1 }).1 (evL ins lim b (pl + 1 + szE a) (evL ins lim a (pl + 1) { s with steps := s.steps + 1 }).2).1 pl (evL ins lim b (pl + 1 + szE a) (evL ins lim a (pl + 1) { s with steps := s.steps + 1 }).2).2 := by
    rw [evL]; unfold stp; rw [if_neg hst]
  rw [hE]
  clear ok1 ok2 hE
  generalize evL ins lim a (pl + 1) { s with steps := s.steps + 1 } = r1 at ih ih2 hr ⊢
  obtain ⟨v1, s1⟩ := r1
  simp only at ih ih2 hr ⊢
  generalize evL ins lim b (pl + 1 + szE a) s1 = r2 at ih2 hr ⊢
  obtain ⟨v2, s2⟩ := r2
  simp only at ih2 hr ⊢
  generalize rk o v1 v2 pl s2 = r3 at hr ⊢
  obtain ⟨v3, s3⟩ := r3
  simp only at hr ⊢
  cases hw : s1.why with
  | some y => simp [f_Run_worth, markE, startD, asgV, hbe, encE, L2.atI, L2.ixN, fldV, ih, hw]
  | none =>
    by_cases hs : stops o v1 = true
    · rcases (by unfold stops at hs; simpa using hs : (o = .and ∧ v1 = 0) ∨ (o = .or ∧ v1 ≠ 0)) with ⟨rfl, h0⟩ | ⟨rfl, h0⟩
      · simp [f_Run_worth, markE, startD, asgV, hbe, encE, L2.atI, L2.ixN, fldV, ih, hw, h0, stops]
      · simp [f_Run_worth, markE, startD, asgV, hbe, encE, L2.atI, L2.ixN, fldV, ih, hw, h0, stops]
    · have tail : exSs T (callD T (k + 2)) (tailB 10 f_Run_worth.body) [some (.ref p.length), some (markE pl (.op o a b)), some (.int pl), some (encE (.op o a b)), some (.lst [markE (pl + 1) a, markE (pl + 1 + szE a) b]), some (.str (opS o)), some (.int v1), none] (RSt ins lim p s1 q) = .ret (.int (if s2.why.isSome then 0 else v3)) (RSt ins lim p (if s2.why.isSome then s2 else s3) q) := by
        cases hw2 : s2.why with
        | some y => simp [tailB, f_Run_worth, L2.atI, L2.ixN, fldV, ih2, hw2]
        | none => simp [tailB, f_Run_worth, L2.atI, L2.ixN, fldV, ih2, hw2, hr]
      have hs' : stops o v1 = false := by simpa using hs
      simp only [tailB, f_Run_worth, markE, encE] at tail
      have fin2 : (if s2.why.isSome = true then ((0 : Int), s2) else (v3, s3)) = (if s2.why.isSome = true then 0 else v3, if s2.why.isSome = true then s2 else s3) := by split <;> rfl
      obtain ⟨K, hK⟩ : ∃ K : Slots → Store → OutS, ∀ sl st, exSs T (callD T (k + 2)) (tailB 10 f_Run_worth.body) sl st = K sl st := ⟨_, fun _ _ => rfl⟩
      have tail2 := tail
      simp only [tailB, f_Run_worth] at hK
      rw [hK] at tail2
      by_cases ho : o = .and ∨ o = .or
      · rcases ho with rfl | rfl
        · have h0 : v1 ≠ 0 := by unfold stops at hs; simpa using hs
          simp [f_Run_worth, markE, startD, asgV, hbe, encE, L2.atI, L2.ixN, fldV, ih, hw, h0, hK, hs', fin2]
          rw [tail2]
          simp
        · have h0 : v1 = 0 := by unfold stops at hs; simpa using hs
          subst h0
          simp [f_Run_worth, markE, startD, asgV, hbe, encE, L2.atI, L2.ixN, fldV, ih, hw, hK, hs', fin2]
          rw [tail2]
          simp
      · rw [not_or] at ho
        simp [f_Run_worth, markE, startD, asgV, hbe, encE, L2.atI, L2.ixN, fldV, ih, hw, ho, hK, hs', fin2]
        rw [tail2]
        simp
theorem worth_ok : ∀ (e : Ex) {pl : Int} {s : RS} {k : Nat}, okE e = true → bnd ins s → s.steps ≤ lim → dpE e + 3 ≤ k →
    callD T k 61 [.ref p.length, markE pl e] (RSt ins lim p s q) = .ok (.int (evL ins lim e pl s).1) (RSt ins lim p (evL ins lim e pl s).2 q)
  | e, pl, s, k, he, hb, hs, hk => by
    obtain ⟨k, rfl⟩ : ∃ k', k = k' + 3 := ⟨k - 3, by omega⟩
    by_cases hst : s.steps = lim
    · exact worth_tired h e hst
    · cases e with
      | num n => exact worth_num h n hst he hb hs
      | inp n => exact worth_inp h n hst he hb hs
      | get n => exact worth_get h n hst he hb hs
      | not a =>
        have he' := he
        unfold okE at he'
        simp only [dpE] at hk
        exact worth_not h a hst he hb hs (worth_ok a he' hb (by simp only; omega) (by omega))
      | op o a b =>
        have he' := he
        unfold okE at he'
        simp only [Bool.and_eq_true] at he'
        simp only [dpE] at hk
        have ok1 := evL_ok (ins := ins) (lim := lim) a (pl := pl + 1) (s := { s with steps := s.steps + 1 }) he'.1 hb (by simp only; omega)
        exact worth_op h o a b hst he hb hs (worth_ok a he'.1 hb (by simp only; omega) (by omega)) (worth_ok b he'.2 ⟨hb.1, by rw [ok1.names]; exact hb.2⟩ ok1.low (by omega))
end
end TS
end

section
set_option Elab.async false
set_option linter.all false
set_option maxRecDepth 100000
set_option maxHeartbeats 4000000
set_option autoImplicit false
namespace TS
open PySem
def putN (l : List (Str × Int)) (x : Str) (v : Int) : List (Str × Int) := if l.any (fun y => decide (y.1 = x)) then l.map (fun y => if y.1 = x then (y.1, v) else y) else l ++ [(x, v)]
theorem putN_K {l : List (Str × Int)} {x : Str} {v : Int} : dputK (l.map fun y => .inr y.1) (.inr x) = (putN l x v).map fun y => .inr y.1 := by
  unfold dputK putN
  have e : ((l.map fun y => (Sum.inr y.1 : L2.Key)).any fun k => decide (k = Sum.inr x)) = l.any fun y => decide (y.1 = x) := by
    rw [List.any_map]; congr; funext y; simp
  rw [e]
  by_cases h : (l.any fun y => decide (y.1 = x)) = true
  · rw [if_pos h, if_pos h, List.map_map]
    apply List.map_congr_left
    intro y _
    simp only [Function.comp]
    split <;> rfl
  · rw [if_neg h, if_neg h]; simp
theorem putN_D {l : List (Str × Int)} {x : Str} {v : Int} : dputD (l.map fun y => .inr y.1) (l.map fun y => .int y.2) (.inr x) (.int v) = (putN l x v).map fun y => .int y.2 := by
  unfold dputD putN
  have e : ((l.map fun y => (Sum.inr y.1 : L2.Key)).any fun k => decide (k = Sum.inr x)) = l.any fun y => decide (y.1 = x) := by
    rw [List.any_map]; congr; funext y; simp
  rw [e]
  by_cases h : (l.any fun y => decide (y.1 = x)) = true
  · rw [if_pos h, if_pos h, List.map_map, List.zip_map', List.map_map]
    apply List.map_congr_left
    intro y _
    simp only [Function.comp]
    by_cases q : y.1 = x
    · simp [q]
    · simp [q]
  · rw [if_neg h, if_neg h]; simp
def rst (lim pl : Int) (s : RS) (ev : RS → Int × RS) (k : Int → RS → RS) : RS :=
  if s.steps = lim then { s with why := some (.tired pl) } else if (ev { s with steps := s.steps + 1 }).2.why.isSome then (ev { s with steps := s.steps + 1 }).2 else k (ev { s with steps := s.steps + 1 }).1 (ev { s with steps := s.steps + 1 }).2
def whlL (lim pl : Int) (ev : RS → Int × RS) (body : RS → RS) : Nat → RS → RS
  | 0, s => s
  | n + 1, s => if s.why.isSome then s else rst lim pl s ev fun v s2 => if v ≠ 0 then whlL lim pl ev body n (body s2) else s2
mutual
def oneL (ins : List Int) (lim : Int) : Rw → Int → RS → RS
  | .set x e, pl, s => rst lim pl s (evL ins lim e (pl + 1)) fun v s2 => { s2 with names := putN s2.names x v }
  | .say e, pl, s => rst lim pl s (evL ins lim e (pl + 1)) fun v s2 => { s2 with said := s2.said ++ [v] }
  | .give e, pl, s => rst lim pl s (evL ins lim e (pl + 1)) fun v s2 => { s2 with why := some (.gave v) }
  | .ifr e a b, pl, s => rst lim pl s (evL ins lim e (pl + 1)) fun v s2 => if v ≠ 0 then goL ins lim a (pl + 1 + szE e) s2 else goL ins lim b (pl + 1 + szE e + nRs a) s2
  | .whl e a, pl, s => whlL lim pl (evL ins lim e (pl + 1)) (fun s2 => goL ins lim a (pl + 1 + szE e) s2) 100001 s
def goL (ins : List Int) (lim : Int) : List Rw → Int → RS → RS
  | [], _, s => s
  | r :: rs, pl, s => goL ins lim rs (pl + nR r) (if s.why.isSome then s else oneL ins lim r pl s)
end
structure GoOk (ins : List Int) (lim : Int) (s s' : RS) : Prop where
  b : bnd ins s'
  up : s.steps ≤ s'.steps
  low : s'.steps ≤ lim
  more : s.said.length ≤ s'.said.length
  few : (s'.said.length : Int) - s.said.length ≤ s'.steps - s.steps
  nms : (s'.names.length : Int) - s.names.length ≤ s'.steps - s.steps
section
variable {ins : List Int} {lim : Int}
theorem GoOk.refl {s : RS} (h : bnd ins s) (hs : s.steps ≤ lim) : GoOk ins lim s s := ⟨h, Int.le_refl _, hs, Nat.le_refl _, by omega, by omega⟩
theorem GoOk.trans {s t u : RS} (a : GoOk ins lim s t) (b : GoOk ins lim t u) : GoOk ins lim s u := ⟨b.b, by have := a.up; have := b.up; omega, b.low, by have := a.more; have := b.more; omega, by have := a.few; have := b.few; omega, by have := a.nms; have := b.nms; omega⟩
theorem putN_bnd {l : List (Str × Int)} {x : Str} {v : Int} (h : ∀ y ∈ l, absI y.2 ≤ GREAT) (hv : absI v ≤ GREAT) : ∀ y ∈ putN l x v, absI y.2 ≤ GREAT := by
  unfold putN
  split
  · intro y hy
    obtain ⟨z, hz, rfl⟩ := List.mem_map.mp hy
    split
    · exact hv
    · exact h z hz
  · intro y hy
    rcases List.mem_append.mp hy with hy | hy
    · exact h y hy
    · rw [List.mem_singleton.mp hy]; exact hv
theorem putN_len {l : List (Str × Int)} {x : Str} {v : Int} : (putN l x v).length ≤ l.length + 1 := by
  unfold putN
  split <;> simp
theorem rst_ok {e : Ex} {pl pl2 : Int} {s : RS} {k : Int → RS → RS} (he : okE e = true) (hb : bnd ins s) (hs : s.steps ≤ lim) (hk : ∀ v s2, EvOk lim { s with steps := s.steps + 1 } (v, s2) → bnd ins s2 → GoOk ins lim { s2 with steps := s2.steps - 1 } (k v s2)) : GoOk ins lim s (rst lim pl s (evL ins lim e pl2) k) := by
  unfold rst
  split
  · exact ⟨hb, Int.le_refl _, hs, Nat.le_refl _, by simp, by simp⟩
  · rename_i hne
    have ok := evL_ok (ins := ins) (lim := lim) e (pl := pl2) (s := { s with steps := s.steps + 1 }) he hb (by simp; omega)
    have hb2 : bnd ins (evL ins lim e pl2 { s with steps := s.steps + 1 }).2 := ⟨hb.1, by rw [ok.names]; exact hb.2⟩
    have u := ok.up
    have z := ok.said
    have zn := ok.names
    simp only at u z zn
    split
    · exact ⟨hb2, by omega, ok.low, by rw [z]; exact Nat.le_refl _, by rw [z]; omega, by rw [zn]; omega⟩
    · have g := hk _ _ ok hb2
      have g1 := g.up
      have g2 := g.more
      have g3 := g.few
      have g4 := g.nms
      simp only at g1 g2 g3 g4
      rw [z] at g2 g3
      rw [zn] at g4
      exact ⟨g.b, by omega, g.low, g2, by omega, by omega⟩
theorem whlL_ok {e : Ex} {pl pl2 : Int} {body : RS → RS} (he : okE e = true) (hbd : ∀ s, bnd ins s → s.steps ≤ lim → GoOk ins lim s (body s)) : ∀ (n : Nat) {s : RS}, bnd ins s → s.steps ≤ lim → GoOk ins lim s (whlL lim pl (evL ins lim e pl2) body n s)
  | 0, s, hb, hs => .refl hb hs
  | n + 1, s, hb, hs => by
    unfold whlL
    split
    · exact .refl hb hs
    · refine rst_ok he hb hs fun v s2 ok hb2 => ?_
      have r : GoOk ins lim { s2 with steps := s2.steps - 1 } s2 := ⟨hb2, by simp only; omega, ok.low, Nat.le_refl _, by simp only; omega, by simp only; omega⟩
      split
      · have g := hbd s2 hb2 ok.low
        exact r.trans (g.trans (whlL_ok he hbd n g.b g.low))
      · exact r
mutual
theorem oneL_ok : ∀ (r : Rw) {pl : Int} {s : RS}, okR r = true → bnd ins s → s.steps ≤ lim → GoOk ins lim s (oneL ins lim r pl s)
  | .set x e, pl, s, hr, hb, hs => by
    unfold okR at hr
    simp only [Bool.and_eq_true] at hr
    unfold oneL
    refine rst_ok hr.2 hb hs fun v s2 ok hb2 => ⟨⟨hb2.1, putN_bnd hb2.2 ok.val⟩, by simp only; omega, ok.low, Nat.le_refl _, by simp only; omega, by have := putN_len (l := s2.names) (x := x) (v := v); simp only; omega⟩
  | .say e, pl, s, hr, hb, hs => by
    unfold okR at hr
    unfold oneL
    refine rst_ok hr hb hs fun v s2 ok hb2 => ⟨hb2, by simp only; omega, ok.low, by simp, by simp; omega, by simp only; omega⟩
  | .give e, pl, s, hr, hb, hs => by
    unfold okR at hr
    unfold oneL
    refine rst_ok hr hb hs fun v s2 ok hb2 => ⟨hb2, by simp only; omega, ok.low, Nat.le_refl _, by simp only; omega, by simp only; omega⟩
  | .ifr e a b, pl, s, hr, hb, hs => by
    unfold okR at hr
    simp only [Bool.and_eq_true] at hr
    unfold oneL
    refine rst_ok hr.1 hb hs fun v s2 ok hb2 => ?_
    have r : GoOk ins lim { s2 with steps := s2.steps - 1 } s2 := ⟨hb2, by simp only; omega, ok.low, Nat.le_refl _, by simp only; omega, by simp only; omega⟩
    split
    · exact r.trans (goL_ok a hr.2.1 hb2 ok.low)
    · exact r.trans (goL_ok b hr.2.2 hb2 ok.low)
  | .whl e a, pl, s, hr, hb, hs => by
    unfold okR at hr
    simp only [Bool.and_eq_true] at hr
    unfold oneL
    exact whlL_ok hr.1 (fun s hb hs => goL_ok a hr.2 hb hs) _ hb hs
theorem goL_ok : ∀ (rs : List Rw) {pl : Int} {s : RS}, okRs rs = true → bnd ins s → s.steps ≤ lim → GoOk ins lim s (goL ins lim rs pl s)
  | [], pl, s, _, hb, hs => by unfold goL; exact .refl hb hs
  | r :: rs, pl, s, hr, hb, hs => by
    unfold okRs at hr
    simp only [Bool.and_eq_true] at hr
    unfold goL
    split
    · exact goL_ok rs hr.2 hb hs
    · have g := oneL_ok r (pl := pl) hr.1 hb hs
      exact g.trans (goL_ok rs hr.2 g.b g.low)
end
end
structure RI (ins : List Int) (lim : Int) (s : RS) : Prop where
  b : bnd ins s
  low : s.steps ≤ lim
  sd : (s.said.length : Int) ≤ s.steps
  nm : (s.names.length : Int) ≤ s.steps
theorem GoOk.ri {ins : List Int} {lim : Int} {s t : RS} (g : GoOk ins lim s t) (i : RI ins lim s) : RI ins lim t := ⟨g.b, g.low, by have := g.few; have := i.sd; omega, by have := g.nms; have := i.nm; omega⟩
section
variable {T : Tab} (h : PR T) {ins : List Int} {lim : Int} {p q : Store} (hl : lim ≤ 100000)
include h
theorem does_set {k : Nat} {s : RS} {x : Str} {e : Ex} {v : Int} {bl : D} (hn : s.names.length < LIM) : callD T (k + 1) 65 [.ref p.length, .str "set", encR (.set x e), .int v, bl] (RSt ins lim p s q) = .ok .non (RSt ins lim p { s with names := putN s.names x v } q) := by
  rw [callD_of h.f65 rfl]
  simp [f_Run_does, startD, encR, L2.atI, L2.ixN, fldV, setIV, keyOf, hn, putN_D]
  exact putN_K
theorem does_say {k : Nat} {s : RS} {r bl : D} {v : Int} (hn : s.said.length < LIM) : callD T (k + 1) 65 [.ref p.length, .str "say", r, .int v, bl] (RSt ins lim p s q) = .ok .non (RSt ins lim p { s with said := s.said ++ [v] } q) := by
  rw [callD_of h.f65 rfl]
  simp [f_Run_does, startD, fldV, bmTy, litems, bmV, hn]
theorem does_give {k : Nat} {s : RS} {r bl : D} {v : Int} : callD T (k + 1) 65 [.ref p.length, .str "give", r, .int v, bl] (RSt ins lim p s q) = .ok .non (RSt ins lim p { s with why := some (.gave v) } q) := by
  rw [callD_of h.f65 rfl]
  simp [f_Run_does, startD, setFV, h.c14, whyD]
theorem does_if {k : Nat} {s s' : RS} {r a b : D} {v : Int} (hg : callD T k 63 [.ref p.length, if v ≠ 0 then a else b] (RSt ins lim p s q) = .ok .non (RSt ins lim p s' q)) : callD T (k + 1) 65 [.ref p.length, .str "if", r, .int v, .lst [a, b]] (RSt ins lim p s q) = .ok .non (RSt ins lim p s' q) := by
  rw [callD_of h.f65 rfl]
  by_cases e : v = 0
  · simp [e] at hg
    simp [f_Run_does, startD, L2.atI, L2.ixN, e, hg]
  · simp [e] at hg
    simp [f_Run_does, startD, L2.atI, L2.ixN, e, hg]
theorem does_whl {k : Nat} {s s' : RS} {r a : D} {v : Int} (hg : v ≠ 0 → callD T k 63 [.ref p.length, a] (RSt ins lim p s q) = .ok .non (RSt ins lim p s' q)) (h0 : v = 0 → s' = s) : callD T (k + 1) 65 [.ref p.length, .str "while", r, .int v, .lst [a]] (RSt ins lim p s q) = .ok .non (RSt ins lim p s' q) := by
  rw [callD_of h.f65 rfl]
  by_cases e : v = 0
  · rw [h0 e]
    simp [f_Run_does, startD, e]
  · simp [f_Run_does, startD, L2.atI, L2.ixN, e, hg e]
def whlB : DSs → DSs
  | .cons (.whl _ b) _ => b
  | .cons _ r => whlB r
  | .nil => .nil
def whlT : DSs → DE
  | .cons (.whl t _) _ => t
  | .cons _ r => whlT r
  | .nil => .c .non
abbrev slO (p : Store) (mk : D) (pl : Int) (row inner bl : D) (w : Str) (g : Option D) (x : Option D) : Slots := [some (.ref p.length), some mk, some (.int pl), some row, some inner, some bl, some (.str w), g, x]
theorem one_body {k : Nat} {s s2 s3 : RS} {mk row inner bl : D} {pl v : Int} {w : Str} {g x : Option D} (hw : sOk w = true) (hs : s.steps ≠ lim) (hi : callD T (k + 1) 61 [.ref p.length, inner] (RSt ins lim p { s with steps := s.steps + 1 } q) = .ok (.int v) (RSt ins lim p s2 q))
    (hd : s2.why = none → callD T (k + 1) 65 [.ref p.length, .str w, row, .int v, bl] (RSt ins lim p s2 q) = .ok .non (RSt ins lim p s3 q)) :
    ∃ y, exSs T (callD T (k + 1)) (whlB f_Run_one.body) (slO p mk pl row inner bl w g x) (RSt ins lim p s q) =
      .next (slO p mk pl row inner bl w (some (.bl (s2.why.isNone && (decide (w = "while") && decide (v ≠ 0))))) y) (RSt ins lim p (if s2.why.isSome then s2 else s3) q) := by
  have hb := begins_ok h (ins := ins) (lim := lim) (p := p) (q := q) (k := k) (s := s) (pl := pl)
  unfold beg at hb
  rw [if_neg hs] at hb
  simp only at hb
  cases hy : s2.why with
  | some y => exact ⟨some (.int v), by simp [f_Run_one, whlB, hb, hi, fldV, hy]⟩
  | none =>
    refine ⟨some (.int v), ?_⟩
    have hd := hd hy
    by_cases e : w = "while"
    · subst e
      simp [f_Run_one, whlB, hb, hi, fldV, hy, hd]
    · simp [f_Run_one, whlB, hb, hi, fldV, hy, hw, e, hd]
theorem one_tired {k : Nat} {s : RS} {mk row inner bl : D} {pl : Int} {w : Str} {g x : Option D} (hs : s.steps = lim) :
    exSs T (callD T (k + 1)) (whlB f_Run_one.body) (slO p mk pl row inner bl w g x) (RSt ins lim p s q) =
      .next (slO p mk pl row inner bl w (some (.bl false)) x) (RSt ins lim p { s with why := some (.tired pl) } q) := by
  have hb := begins_ok h (ins := ins) (lim := lim) (p := p) (q := q) (k := k) (s := s) (pl := pl)
  unfold beg at hb
  rw [if_pos hs] at hb
  simp only at hb
  simp [f_Run_one, whlB, hb]
theorem one_test {f : Phi} {s : RS} {mk row inner bl : D} {pl : Int} {w : Str} {g : Bool} {x : Option D} :
    evT T f (whlT f_Run_one.body) (slO p mk pl row inner bl w (some (.bl g)) x) (RSt ins lim p s q) = .ok (g && s.why.isNone) (RSt ins lim p s q) := by
  cases g
  · simp [f_Run_one, whlT]
  · cases hw : s.why <;> simp [f_Run_one, whlT, fldV, hw]
end
end TS
end

section
set_option Elab.async false
set_option linter.all false
set_option maxRecDepth 100000
set_option maxHeartbeats 4000000
set_option autoImplicit false
namespace TS
open PySem
section
variable {T : Tab} (h : PR T) {ins : List Int} {lim : Int} {p q : Store}
include h
theorem one_fn {k : Nat} {s s' : RS} {inner bl : D} {rest : List D} {pl : Int} {w : Str} {sl : Slots}
    (hW : whlR T (callD T (k + 1)) (whlT f_Run_one.body) (whlB f_Run_one.body) WF (slO p (.tup [.int pl, .tup (.str w :: rest), inner, bl]) pl (.tup (.str w :: rest)) inner bl w (some (.bl true)) none) (RSt ins lim p s q) = .next sl (RSt ins lim p s' q)) :
    callD T (k + 2) 64 [.ref p.length, .tup [.int pl, .tup (.str w :: rest), inner, bl]] (RSt ins lim p s q) = .ok .non (RSt ins lim p s' q) := by
  rw [callD_of h.f64 rfl]
  simp only [f_Run_one, whlT, whlB] at hW
  simp [f_Run_one, startD, asgV, L2.atI, L2.ixN, hW]
theorem whl_once {k : Nat} {s : RS} {mk row inner bl : D} {pl : Int} {w : Str} {x : Option D} {ev : RS → Int × RS} {kk : Int → RS → RS} (hw : sOk w = true) (hne : w ≠ "while") (hy : s.why = none)
    (hi : s.steps ≠ lim → callD T (k + 1) 61 [.ref p.length, inner] (RSt ins lim p { s with steps := s.steps + 1 } q) = .ok (.int (ev { s with steps := s.steps + 1 }).1) (RSt ins lim p (ev { s with steps := s.steps + 1 }).2 q))
    (hd : s.steps ≠ lim → (ev { s with steps := s.steps + 1 }).2.why = none → callD T (k + 1) 65 [.ref p.length, .str w, row, .int (ev { s with steps := s.steps + 1 }).1, bl] (RSt ins lim p (ev { s with steps := s.steps + 1 }).2 q) = .ok .non (RSt ins lim p (kk (ev { s with steps := s.steps + 1 }).1 (ev { s with steps := s.steps + 1 }).2) q)) :
    ∃ sl, whlR T (callD T (k + 1)) (whlT f_Run_one.body) (whlB f_Run_one.body) WF (slO p mk pl row inner bl w (some (.bl true)) x) (RSt ins lim p s q) = .next sl (RSt ins lim p (rst lim pl s ev kk) q) := by
  rw [show WF = 999998 + 1 + 1 from rfl, whl_succ, one_test h, hy]
  by_cases hs : s.steps = lim
  · refine ⟨slO p mk pl row inner bl w (some (.bl false)) x, ?_⟩
    simp only [then_ok, Option.isNone_none, Bool.and_self, if_true]
    rw [one_tired h hs, bindS_next, whl_succ, one_test h]
    unfold rst
    rw [if_pos hs]
    simp
  · obtain ⟨y, e⟩ := one_body h (ins := ins) (lim := lim) (p := p) (q := q) (k := k) (s := s) (mk := mk) (row := row) (inner := inner) (bl := bl) (pl := pl) (w := w) (g := some (.bl true)) (x := x) hw hs (hi hs) (hd hs)
    refine ⟨slO p mk pl row inner bl w (some (.bl false)) y, ?_⟩
    simp only [then_ok, Option.isNone_none, Bool.and_self, if_true]
    rw [e, bindS_next]
    have e2 : (decide (w = "while")) = false := decide_eq_false hne
    rw [e2, Bool.false_and, Bool.and_false, whl_succ, one_test h]
    unfold rst
    rw [if_neg hs]
    simp
theorem whl_loop {k : Nat} {mk row inner bl : D} {pl : Int} {ev : RS → Int × RS} {body : RS → RS}
    (hev : ∀ s, RI ins lim s → s.steps ≠ lim → callD T (k + 1) 61 [.ref p.length, inner] (RSt ins lim p { s with steps := s.steps + 1 } q) = .ok (.int (ev { s with steps := s.steps + 1 }).1) (RSt ins lim p (ev { s with steps := s.steps + 1 }).2 q))
    (hok : ∀ s, RI ins lim s → s.steps ≠ lim → RI ins lim (ev { s with steps := s.steps + 1 }).2 ∧ s.steps < (ev { s with steps := s.steps + 1 }).2.steps)
    (hb : ∀ s, RI ins lim s → RI ins lim (body s) ∧ s.steps ≤ (body s).steps)
    (hd : ∀ s v, RI ins lim s → callD T (k + 1) 65 [.ref p.length, .str "while", row, .int v, bl] (RSt ins lim p s q) = .ok .non (RSt ins lim p (if v ≠ 0 then body s else s) q)) :
    ∀ (N n m : Nat) {s : RS} {x : Option D}, RI ins lim s → (lim - s.steps).toNat < N → N ≤ n → N ≤ m →
      ∃ sl, whlR T (callD T (k + 1)) (whlT f_Run_one.body) (whlB f_Run_one.body) (n + 1) (slO p mk pl row inner bl "while" (some (.bl true)) x) (RSt ins lim p s q) = .next sl (RSt ins lim p (whlL lim pl ev body m s) q)
  | 0, _, _, _, _, _, hN, _, _ => by omega
  | N + 1, n, m, s, x, hR, hN, hn, hm => by
    obtain ⟨n, rfl⟩ : ∃ n', n = n' + 1 := ⟨n - 1, by omega⟩
    obtain ⟨m, rfl⟩ : ∃ m', m = m' + 1 := ⟨m - 1, by omega⟩
    rw [whl_succ, one_test h]
    unfold whlL
    cases hy : s.why with
    | some y => exact ⟨slO p mk pl row inner bl "while" (some (.bl true)) x, by simp⟩
    | none =>
      simp only [then_ok, Option.isNone_none, Bool.and_self, if_true, Option.isSome_none, Bool.false_eq_true, if_false]
      by_cases hs : s.steps = lim
      · refine ⟨slO p mk pl row inner bl "while" (some (.bl false)) x, ?_⟩
        rw [one_tired h hs, bindS_next, whl_succ, one_test h]
        unfold rst
        rw [if_pos hs]
        simp
      · obtain ⟨r1, r2⟩ := hok s hR hs
        obtain ⟨y, e⟩ := one_body h (ins := ins) (lim := lim) (p := p) (q := q) (k := k) (s := s) (mk := mk) (row := row) (inner := inner) (bl := bl) (pl := pl) (w := "while") (g := some (.bl true)) (x := x) (by simp) hs (hev s hR hs) (fun _ => hd _ _ r1)
        rw [e, bindS_next]
        unfold rst
        rw [if_neg hs]
        generalize ev { s with steps := s.steps + 1 } = r at r1 r2 ⊢
        obtain ⟨v, s2⟩ := r
        simp only at r1 r2 ⊢
        cases hy2 : s2.why with
        | some z =>
          refine ⟨slO p mk pl row inner bl "while" (some (.bl false)) y, ?_⟩
          simp only [Option.isNone_some, Bool.false_and, Option.isSome_some, if_true]
          rw [whl_succ, one_test h]
          simp
        | none =>
          simp only [Option.isNone_none, Bool.true_and, Option.isSome_none, Bool.false_eq_true, if_false, decide_true]
          by_cases hv : v = 0
          · refine ⟨slO p mk pl row inner bl "while" (some (.bl false)) y, ?_⟩
            rw [whl_succ]
            have e3 : decide (v ≠ 0) = false := decide_eq_false (fun z => z hv)
            rw [e3, one_test h]
            simp [hv]
          · have e3 : decide (v ≠ 0) = true := decide_eq_true hv
            rw [e3, if_pos hv, if_pos hv]
            obtain ⟨b1, b2⟩ := hb s2 r1
            exact whl_loop hev hok hb hd N n m b1 (by have := hR.low; omega) (by omega) (by omega)
theorem go_fn {k : Nat} {s s' : RS} {xs : List D} {sl : Slots} (e : forR T (callD T k) (.n 2) (forB f_Run_go.body) (fun _ => true) xs [some (.ref p.length), some (.lst xs), none] (RSt ins lim p s q) = .next sl (RSt ins lim p s' q)) :
    callD T (k + 1) 63 [.ref p.length, .lst xs] (RSt ins lim p s q) = .ok .non (RSt ins lim p s' q) := by
  rw [callD_of h.f63 rfl]
  simp only [f_Run_go, forB] at e
  simp [f_Run_go, startD, e]
variable (hl : lim ≤ 100000)
include hl
mutual
theorem one_ok : ∀ (r : Rw) {pl : Int} {s : RS} {k : Nat}, okR r = true → dxR r ≤ 8 → RI ins lim s → s.why = none → 3 * dpR r + 11 ≤ k →
    callD T k 64 [.ref p.length, markR pl r] (RSt ins lim p s q) = .ok .non (RSt ins lim p (oneL ins lim r pl s) q)
  | .set x e, pl, s, k, hr, hx, hR, hy, hk => by
    obtain ⟨k, rfl⟩ : ∃ k', k = k' + 13 := ⟨k - 13, by simp only [dpR] at hk; omega⟩
    unfold okR at hr
    simp only [Bool.and_eq_true] at hr
    simp only [dxR] at hx
    unfold oneL markR
    have b1 := hR.b
    have b2 := hR.low
    have b3 := hR.nm
    simp only [encR]
    obtain ⟨sl, e1⟩ := whl_once h (ins := ins) (lim := lim) (p := p) (q := q) (k := k + 11) (s := s) (mk := .tup [.int pl, .tup [.str "set", .str x, encE e], markE (pl + 1) e, .lst []]) (row := .tup [.str "set", .str x, encE e]) (inner := markE (pl + 1) e) (bl := .lst []) (pl := pl) (w := "set") (x := none) (ev := evL ins lim e (pl + 1)) (kk := fun v s2 => { s2 with names := putN s2.names x v }) (by simp) (by simp) hy
      (fun hs => worth_ok h e hr.2 b1 (by simp only; omega) (by omega))
      (fun hs _ => by
        have ok := evL_ok (ins := ins) (lim := lim) e (pl := pl + 1) (s := { s with steps := s.steps + 1 }) hr.2 b1 (by simp only; omega)
        have := ok.names
        have := does_set h (ins := ins) (lim := lim) (p := p) (q := q) (k := k + 11) (s := (evL ins lim e (pl + 1) { s with steps := s.steps + 1 }).2) (x := x) (e := e) (v := (evL ins lim e (pl + 1) { s with steps := s.steps + 1 }).1) (bl := .lst []) (by rw [ok.names, lim_eq]; simp only; omega)
        simp only [encR] at this
        exact this)
    exact one_fn h e1
  | .say e, pl, s, k, hr, hx, hR, hy, hk => by
    obtain ⟨k, rfl⟩ : ∃ k', k = k' + 13 := ⟨k - 13, by simp only [dpR] at hk; omega⟩
    unfold okR at hr
    simp only [dxR] at hx
    unfold oneL markR
    have b1 := hR.b
    have b2 := hR.low
    have b3 := hR.sd
    simp only [encR]
    obtain ⟨sl, e1⟩ := whl_once h (ins := ins) (lim := lim) (p := p) (q := q) (k := k + 11) (s := s) (mk := .tup [.int pl, .tup [.str "say", encE e], markE (pl + 1) e, .lst []]) (row := .tup [.str "say", encE e]) (inner := markE (pl + 1) e) (bl := .lst []) (pl := pl) (w := "say") (x := none) (ev := evL ins lim e (pl + 1)) (kk := fun v s2 => { s2 with said := s2.said ++ [v] }) (by simp) (by simp) hy
      (fun hs => worth_ok h e hr b1 (by simp only; omega) (by omega))
      (fun hs _ => by
        have ok := evL_ok (ins := ins) (lim := lim) e (pl := pl + 1) (s := { s with steps := s.steps + 1 }) hr b1 (by simp only; omega)
        exact does_say h (by rw [ok.said, lim_eq]; simp only; omega))
    exact one_fn h e1
  | .give e, pl, s, k, hr, hx, hR, hy, hk => by
    obtain ⟨k, rfl⟩ : ∃ k', k = k' + 13 := ⟨k - 13, by simp only [dpR] at hk; omega⟩
    unfold okR at hr
    simp only [dxR] at hx
    unfold oneL markR
    have b1 := hR.b
    have b2 := hR.low
    simp only [encR]
    obtain ⟨sl, e1⟩ := whl_once h (ins := ins) (lim := lim) (p := p) (q := q) (k := k + 11) (s := s) (mk := .tup [.int pl, .tup [.str "give", encE e], markE (pl + 1) e, .lst []]) (row := .tup [.str "give", encE e]) (inner := markE (pl + 1) e) (bl := .lst []) (pl := pl) (w := "give") (x := none) (ev := evL ins lim e (pl + 1)) (kk := fun v s2 => { s2 with why := some (.gave v) }) (by simp) (by simp) hy
      (fun hs => worth_ok h e hr b1 (by simp only; omega) (by omega))
      (fun hs _ => does_give h)
    exact one_fn h e1
  | .ifr e a b, pl, s, k, hr, hx, hR, hy, hk => by
    obtain ⟨k, rfl⟩ : ∃ k', k = k' + 14 := ⟨k - 14, by simp only [dpR] at hk; omega⟩
    unfold okR at hr
    simp only [Bool.and_eq_true] at hr
    simp only [dxR, dpR] at hx hk
    unfold oneL markR
    have b1 := hR.b
    have b2 := hR.low
    simp only [encR]
    obtain ⟨sl, e1⟩ := whl_once h (ins := ins) (lim := lim) (p := p) (q := q) (k := k + 12) (s := s) (mk := .tup [.int pl, .tup [.str "if", encE e, .tup (encRs a), .tup (encRs b)], markE (pl + 1) e, .lst [.lst (markRs (pl + 1 + szE e) a), .lst (markRs (pl + 1 + szE e + nRs a) b)]]) (row := .tup [.str "if", encE e, .tup (encRs a), .tup (encRs b)]) (inner := markE (pl + 1) e) (bl := .lst [.lst (markRs (pl + 1 + szE e) a), .lst (markRs (pl + 1 + szE e + nRs a) b)]) (pl := pl) (w := "if") (x := none) (ev := evL ins lim e (pl + 1)) (kk := fun v s2 => if v ≠ 0 then goL ins lim a (pl + 1 + szE e) s2 else goL ins lim b (pl + 1 + szE e + nRs a) s2) (by simp) (by simp) hy
      (fun hs => worth_ok h e hr.1 b1 (by simp only; omega) (by omega))
      (fun hs _ => by
        have ok := evL_ok (ins := ins) (lim := lim) e (pl := pl + 1) (s := { s with steps := s.steps + 1 }) hr.1 b1 (by simp only; omega)
        have u := ok.up
        simp only at u
        have R2 : RI ins lim (evL ins lim e (pl + 1) { s with steps := s.steps + 1 }).2 := ⟨⟨b1.1, by rw [ok.names]; exact b1.2⟩, ok.low, by rw [ok.said]; have := hR.sd; simp only; omega, by rw [ok.names]; have := hR.nm; simp only; omega⟩
        refine does_if h ?_
        split
        · obtain ⟨y, e2⟩ := goR_ok a (pl := pl + 1 + szE e) (k := k + 11) (x := none) (X := .lst (markRs (pl + 1 + szE e) a)) hr.2.1 (by omega) R2 (by omega)
          exact go_fn h e2
        · obtain ⟨y, e2⟩ := goR_ok b (pl := pl + 1 + szE e + nRs a) (k := k + 11) (x := none) (X := .lst (markRs (pl + 1 + szE e + nRs a) b)) hr.2.2 (by omega) R2 (by omega)
          exact go_fn h e2)
    exact one_fn h e1
  | .whl e a, pl, s, k, hr, hx, hR, hy, hk => by
    obtain ⟨k, rfl⟩ : ∃ k', k = k' + 14 := ⟨k - 14, by simp only [dpR] at hk; omega⟩
    unfold okR at hr
    simp only [Bool.and_eq_true] at hr
    simp only [dxR, dpR] at hx hk
    unfold oneL markR
    simp only [encR]
    have st0 : 0 ≤ s.steps := by have := hR.sd; omega
    obtain ⟨sl, e1⟩ := whl_loop h (ins := ins) (lim := lim) (p := p) (q := q) (k := k + 12) (mk := .tup [.int pl, .tup [.str "while", encE e, .tup (encRs a)], markE (pl + 1) e, .lst [.lst (markRs (pl + 1 + szE e) a)]]) (row := .tup [.str "while", encE e, .tup (encRs a)]) (inner := markE (pl + 1) e) (bl := .lst [.lst (markRs (pl + 1 + szE e) a)]) (pl := pl) (ev := evL ins lim e (pl + 1)) (body := fun s2 => goL ins lim a (pl + 1 + szE e) s2)
      (fun s hR hs => worth_ok h e hr.1 hR.b (by have := hR.low; simp only; omega) (by omega))
      (fun s hR hs => by
        have := hR.low
        have ok := evL_ok (ins := ins) (lim := lim) e (pl := pl + 1) (s := { s with steps := s.steps + 1 }) hr.1 hR.b (by simp only; omega)
        have u := ok.up
        simp only at u
        exact ⟨⟨⟨hR.b.1, by rw [ok.names]; exact hR.b.2⟩, ok.low, by rw [ok.said]; have := hR.sd; simp only; omega, by rw [ok.names]; have := hR.nm; simp only; omega⟩, by omega⟩)
      (fun s hR => by
        have g := goL_ok (ins := ins) (lim := lim) a (pl := pl + 1 + szE e) hr.2 hR.b hR.low
        exact ⟨g.ri hR, g.up⟩)
      (fun s v hR => by
        refine does_whl h (fun hv => ?_) (fun hv => if_neg (fun z => z hv))
        rw [if_pos hv]
        obtain ⟨y, e2⟩ := goR_ok a (pl := pl + 1 + szE e) (k := k + 11) (x := none) (X := .lst (markRs (pl + 1 + szE e) a)) hr.2 (by omega) hR (by omega)
        exact go_fn h e2)
      100001 999999 100001 (x := none) hR (by have := hR.low; omega) (by omega) (by omega)
    exact one_fn h e1
theorem goR_ok : ∀ (rs : List Rw) {pl : Int} {s : RS} {k : Nat} {X : D} {x : Option D}, okRs rs = true → dxRs rs ≤ 8 → RI ins lim s → 3 * dpRs rs + 11 ≤ k →
    ∃ y, forR T (callD T k) (.n 2) (forB f_Run_go.body) (fun _ => true) (markRs pl rs) [some (.ref p.length), some X, x] (RSt ins lim p s q) = .next [some (.ref p.length), some X, y] (RSt ins lim p (goL ins lim rs pl s) q)
  | [], pl, s, k, X, x, _, _, _, _ => ⟨x, by simp [markRs, goL]⟩
  | r :: rs, pl, s, k, X, x, hr, hx, hR, hk => by
    unfold okRs at hr
    simp only [Bool.and_eq_true] at hr
    simp only [dxRs, dpRs] at hx hk
    unfold markRs goL
    cases hy : s.why with
    | some z =>
      obtain ⟨y, e⟩ := goR_ok rs (pl := pl + nR r) (k := k) (X := X) (x := some (markR pl r)) hr.2 (by omega) hR (by omega)
      refine ⟨y, ?_⟩
      generalize pl + (nR r : Int) = pl2 at e ⊢
      rw [for_cons]
      simp only [f_Run_go, forB] at e ⊢
      simp [fldV, hy, e]
    | none =>
      have e1 := one_ok r (pl := pl) (k := k) hr.1 (by omega) hR hy (by omega)
      have g := oneL_ok (ins := ins) (lim := lim) r (pl := pl) hr.1 hR.b hR.low
      obtain ⟨y, e⟩ := goR_ok rs (pl := pl + nR r) (s := oneL ins lim r pl s) (k := k) (X := X) (x := some (markR pl r)) hr.2 (by omega) (g.ri hR) (by omega)
      refine ⟨y, ?_⟩
      generalize pl + (nR r : Int) = pl2 at e ⊢
      rw [for_cons]
      simp only [f_Run_go, forB] at e ⊢
      simp [fldV, hy, e1, e]
end
end
end TS
end

section
set_option Elab.async false
set_option linter.all false
set_option maxRecDepth 100000
set_option maxHeartbeats 4000000
set_option autoImplicit false
namespace TS
open PySem
def rs0 : RS := ⟨[], [], 0, none⟩
def runL (ins : List Int) (lim : Int) (p : List Rw) : RS := goL ins lim p 0 rs0
def whyF : Option Why → D
  | none => .tup [.str "over"]
  | w => whyD w
def resD (s : RS) : D := .tup [whyF s.why, .lst (s.said.map .int), .int s.steps]
@[simp] theorem noRef_why {w : Option Why} : noRef (whyD w) = true := by
  cases w with
  | none => rfl
  | some w => cases w <;> simp [whyD]
@[simp] theorem noRefs_int : ∀ {l : List Int}, noRefs (l.map .int) = true
  | [] => rfl
  | a :: l => by simp [noRefs_int (l := l)]
theorem ri0 {ins : List Int} {lim : Int} (hi : okI ins = true) (hl : 1 ≤ lim) : RI ins lim rs0 := ⟨⟨okI_bnd hi, fun x hx => by cases hx⟩, by simp [rs0]; omega, by simp [rs0], by simp [rs0]⟩
section
variable {T : Tab} (h : PR T) {ins : List Int} {lim : Int} {p q : Store}
include h
theorem run_init {k : Nat} : callD T (k + 1) 58 [.ref p.length, encI ins, .int lim] (p ++ [.ins 14 []]) = .ok .non (RSt ins lim p rs0 []) := by
  rw [callD_of h.f58 rfl]
  simp [f_Run___init__, startD, setFV, h.c14, shV, rs0, whyD]
theorem ran_ok (h16 : T.fn 16 = some f_ran) {P : List Rw} (hp : okP P = true) (hi : okI ins = true) (h1 : 1 ≤ lim) (h2 : lim ≤ 100000) {k : Nat} (hk : 32 ≤ k) {st : Store} :
    callD T k 16 [encP P, encI ins, .int lim] st = .ok (resD (runL ins lim P)) st := by
  obtain ⟨k, rfl⟩ : ∃ k', k = k' + 32 := ⟨k - 32, by omega⟩
  unfold okP at hp
  simp only [Bool.and_eq_true, decide_eq_true_eq] at hp
  obtain ⟨p1, p2, p3, p4, p5⟩ := hp
  have r0 := ri0 hi h1
  have e1 := run_init h (ins := ins) (lim := lim) (p := st) (k := k + 30)
  have e2 := marker_init h (k := k + 30) (p := RSt ins lim st rs0 []) (q := [])
  obtain ⟨j, e3⟩ := marked_ok h (rs := P) (a := 0) (p := RSt ins lim st rs0 []) (q := []) (k := k + 31) (by omega) p5 (by omega)
  obtain ⟨y, e4⟩ := goR_ok h (ins := ins) (lim := lim) (p := st) (q := mkO (0 + nRs P) :: ([] ++ dds j)) h2 P (pl := 0) (s := rs0) (k := k + 30) (X := .lst (markRs 0 P)) (x := none) p1 p5 r0 (by omega)
  have e5 := go_fn h e4
  have hs : goL ins lim P 0 rs0 = runL ins lim P := rfl
  rw [hs] at e5
  clear e4 hs
  generalize runL ins lim P = s at e5 ⊢
  simp at e1 e2 e3 e5
  rw [callD_of h16 rfl]
  cases hw : s.why with
  | none => simp [f_ran, startD, h.i14, h.i13, e1, e2, e3, e5, fldV, fzV, hw, resD, whyF]
  | some w => simp [f_ran, startD, h.i14, h.i13, e1, e2, e3, e5, fldV, fzV, hw, resD, whyF]
end
end TS
end

section
set_option Elab.async false
set_option linter.all false
set_option maxRecDepth 100000
set_option maxHeartbeats 4000000
set_option autoImplicit false
namespace TS
open PySem
section
variable {ins : List Int} {lim : Int}
theorem goL_why : ∀ {rs : List Rw} {pl : Int} {s : RS}, s.why.isSome = true → goL ins lim rs pl s = s
  | [], pl, s, _ => by unfold goL; rfl
  | r :: rs, pl, s, h => by unfold goL; rw [if_pos h]; exact goL_why h
theorem goL_app : ∀ {a b : List Rw} {pl : Int} {s : RS}, goL ins lim (a ++ b) pl s = goL ins lim b (pl + nRs a) (goL ins lim a pl s)
  | [], b, pl, s => by simp [goL, nRs, rwsRs, esRs]
  | r :: rs, b, pl, s => by
    have e1 : ∀ (xs : List Rw) (p : Int) (t : RS), goL ins lim (r :: xs) p t = goL ins lim xs (p + nR r) (if t.why.isSome then t else oneL ins lim r p t) := fun xs p t => by rw [goL]
    rw [List.cons_append, e1, e1, goL_app]
    have : pl + (nR r : Int) + (nRs rs : Int) = pl + ((nRs (r :: rs) : Nat) : Int) := by simp [nRs, nR, rwsRs, esRs]; omega
    rw [this]
def okW : Option Why → Bool
  | some (.fell w _) => sOk w
  | _ => true
def Ext (s t : RS) : Prop := (∃ u, t.said = s.said ++ u) ∧ (okW s.why = true → okW t.why = true)
theorem Ext.refl {s : RS} : Ext s s := ⟨⟨[], by simp⟩, id⟩
theorem Ext.of {s t : RS} (h : t.said = s.said) (w : okW s.why = true → okW t.why = true) : Ext s t := ⟨⟨[], by simp [h]⟩, w⟩
theorem Ext.trans {s t u : RS} (a : Ext s t) (b : Ext t u) : Ext s u := by
  obtain ⟨⟨x, hx⟩, a⟩ := a
  obtain ⟨⟨y, hy⟩, b⟩ := b
  exact ⟨⟨x ++ y, by rw [hy, hx, List.append_assoc]⟩, fun h => b (a h)⟩
theorem gr_w {v pl : Int} {s : RS} (h : okW s.why = true) : okW (gr v pl s).2.why = true := by unfold gr; split; exact h; rfl
theorem rk_w {o : Op} {a b pl : Int} {s : RS} (h : okW s.why = true) : okW (rk o a b pl s).2.why = true := by
  cases o <;> first | exact gr_w h | exact h | (unfold rk; dsimp only; split; rfl; exact h)
theorem evL_w : ∀ (e : Ex) {pl : Int} {s : RS}, okW s.why = true → okW (evL ins lim e pl s).2.why = true
  | .num n, pl, s, h => by unfold evL stp; split; rfl; exact h
  | .inp k, pl, s, h => by unfold evL stp; split; rfl; dsimp only; split; exact h; rfl
  | .get x, pl, s, h => by unfold evL stp; split; rfl; dsimp only; split; exact h; rfl
  | .not a, pl, s, h => by
    unfold evL stp
    split; rfl
    dsimp only
    split <;> exact evL_w a h
  | .op o a b, pl, s, h => by
    have ha := fun pl s h => evL_w a (pl := pl) (s := s) h
    have hb := fun pl s h => evL_w b (pl := pl) (s := s) h
    unfold evL stp
    split
    · rfl
    · dsimp only
      split
      · exact ha _ _ h
      · split
        · exact ha _ _ h
        · split
          · exact hb _ _ (ha _ _ h)
          · exact rk_w (hb _ _ (ha _ _ h))
theorem gr_said {v pl : Int} {s : RS} : (gr v pl s).2.said = s.said := by unfold gr; split <;> rfl
theorem rk_said {o : Op} {a b pl : Int} {s : RS} : (rk o a b pl s).2.said = s.said := by
  cases o <;> first | exact gr_said | rfl | (unfold rk; dsimp only; split <;> rfl)
theorem evL_said : ∀ (e : Ex) {pl : Int} {s : RS}, (evL ins lim e pl s).2.said = s.said
  | .num n, pl, s => by unfold evL stp; split <;> rfl
  | .inp k, pl, s => by unfold evL stp; split; rfl; split <;> rfl
  | .get x, pl, s => by unfold evL stp; split; rfl; dsimp only; split <;> rfl
  | .not a, pl, s => by
    unfold evL stp
    split; rfl
    dsimp only
    split <;> exact evL_said a
  | .op o a b, pl, s => by
    have ha := fun pl s => evL_said a (pl := pl) (s := s)
    have hb := fun pl s => evL_said b (pl := pl) (s := s)
    unfold evL stp
    split
    · rfl
    · dsimp only
      split
      · exact ha _ _
      · split
        · exact ha _ _
        · split
          · rw [hb, ha]
          · rw [rk_said, hb, ha]
theorem rst_ext {e : Ex} {pl pl2 : Int} {s : RS} {k : Int → RS → RS} (hk : ∀ v s2, Ext s2 (k v s2)) : Ext s (rst lim pl s (evL ins lim e pl2) k) := by
  unfold rst
  split
  · exact .of rfl fun _ => rfl
  · have z : (evL ins lim e pl2 { s with steps := s.steps + 1 }).2.said = s.said := evL_said e
    have zw : okW s.why = true → okW (evL ins lim e pl2 { s with steps := s.steps + 1 }).2.why = true := fun h => evL_w e h
    split
    · exact .of z zw
    · exact (Ext.of (t := (evL ins lim e pl2 { s with steps := s.steps + 1 }).2) z zw).trans (hk _ _)
theorem whl_ext {e : Ex} {pl pl2 : Int} {body : RS → RS} (hb : ∀ s, Ext s (body s)) : ∀ (n : Nat) {s : RS}, Ext s (whlL lim pl (evL ins lim e pl2) body n s)
  | 0, s => .refl
  | n + 1, s => by
    unfold whlL
    split
    · exact .refl
    · refine rst_ext fun v s2 => ?_
      split
      · exact (hb s2).trans (whl_ext hb n)
      · exact .refl
mutual
theorem one_ext : ∀ (r : Rw) {pl : Int} {s : RS}, Ext s (oneL ins lim r pl s)
  | .set x e, pl, s => by unfold oneL; exact rst_ext fun v s2 => .of rfl id
  | .say e, pl, s => by unfold oneL; exact rst_ext fun v s2 => ⟨⟨[v], rfl⟩, id⟩
  | .give e, pl, s => by unfold oneL; exact rst_ext fun v s2 => .of rfl fun _ => rfl
  | .ifr e a b, pl, s => by
    unfold oneL
    refine rst_ext fun v s2 => ?_
    split
    · exact go_ext a
    · exact go_ext b
  | .whl e a, pl, s => by unfold oneL; exact whl_ext (fun s => go_ext a) _
theorem go_ext : ∀ (rs : List Rw) {pl : Int} {s : RS}, Ext s (goL ins lim rs pl s)
  | [], pl, s => by unfold goL; exact .refl
  | r :: rs, pl, s => by
    unfold goL
    split
    · exact go_ext rs
    · exact (one_ext r).trans (go_ext rs)
end
theorem give_why {e : Ex} {pl : Int} {s : RS} : (goL ins lim [.give e] pl s).why.isSome = true := by
  unfold goL
  split
  · rename_i h; rw [goL_why h]; exact h
  · unfold goL oneL rst
    split
    · rfl
    · split
      · assumption
      · rfl
theorem run_app {a b : List Rw} : runL ins lim (a ++ b) = goL ins lim b (0 + nRs a) (runL ins lim a) := goL_app
theorem run_stop {a b : List Rw} (h : (runL ins lim a).why.isSome = true) : runL ins lim (a ++ b) = runL ins lim a := by rw [run_app, goL_why h]
theorem run_more {a b : List Rw} : ∃ u, (runL ins lim (a ++ b)).said = (runL ins lim a).said ++ u := by rw [run_app]; exact (go_ext b).1
theorem run_give2 {a b : List Rw} {e : Ex} : runL ins lim (a ++ [.give e] ++ b) = runL ins lim (a ++ [.give e]) := run_stop (by rw [run_app]; exact give_why)
theorem run_up {a b : List Rw} (hb : okRs b = true) (ha : okRs a = true) (hi : okI ins = true) (hl : 1 ≤ lim) : (runL ins lim a).steps ≤ (runL ins lim (a ++ b)).steps := by
  have r := ri0 hi hl
  have g := goL_ok (ins := ins) (lim := lim) a (pl := 0) ha r.b r.low
  rw [run_app]
  exact (goL_ok b hb g.b g.low).up
theorem run_w {a : List Rw} : okW (runL ins lim a).why = true := (go_ext a).2 rfl
theorem pls_ints : ∀ {l : List Int}, pls (l.map .int) = true
  | [] => rfl
  | x :: l => by simp [pls, pl, pls_ints (l := l)]
theorem dps_ints : ∀ {l : List Int}, dps (l.map .int) = 0
  | [] => rfl
  | x :: l => by simp [dps, dp, dps_ints (l := l)]
theorem eqDs_refl : ∀ {l : List Int}, eqDs (l.map .int) (l.map .int) = true
  | [] => rfl
  | x :: l => by simp [eqDs, eqD, eqDs_refl (l := l)]
theorem pl_why {w : Option Why} (h : okW w = true) : pl (whyF w) = true := by
  cases w with
  | none => decide
  | some w => cases w <;> first | (simp [whyF, whyD, pl, pls] <;> decide) | (unfold okW at h; simp [whyF, whyD, pl, pls, h] <;> decide)
theorem dp_why {w : Option Why} : dp (whyF w) = 1 := by
  cases w with
  | none => rfl
  | some w => cases w <;> rfl
theorem eqD_why {w : Option Why} : eqD (whyF w) (whyF w) = true := by
  cases w with
  | none => simp [whyF, eqD, eqDs]
  | some w => cases w <;> simp [whyF, whyD, eqD, eqDs]
theorem pl_resD {s : RS} (h : okW s.why = true) : pl (resD s) = true := by simp [resD, pl, pls, pl_why h, pls_ints]
theorem dp_resD {s : RS} : dp (resD s) ≤ 64 := by simp [resD, dp, dps, dp_why, dps_ints]
theorem eqD_resD {s : RS} : eqD (resD s) (resD s) = true := by simp [resD, eqD, eqDs, eqD_why, eqDs_refl]
theorem eqv_resD {s : RS} {st : Store} (h : okW s.why = true) : eqv? st (resD s) (resD s) = some true := by
  rw [eqv_pl (pl_resD h) (pl_resD h) dp_resD dp_resD, eqD_resD]
theorem eqv_said {l : List Int} {st : Store} : eqv? st (.lst (l.map .int)) (.lst (l.map .int)) = some true := by
  rw [eqv_pl (by simp [pl, pls_ints]) (by simp [pl, pls_ints]) (by simp [dp, dps_ints]) (by simp [dp, dps_ints])]
  simp [eqD, eqDs_refl]
end
end TS
end

section
set_option Elab.async false
set_option linter.all false
set_option maxRecDepth 100000
set_option maxHeartbeats 4000000
set_option autoImplicit false
namespace TS
open PySem
theorem lcR_mapf {ok : Store → Bool} {tg : Tg} {sl : Slots} {st : Store} {T : Tab} {f : Phi} {e : DE} {cs : DEs} {own : List Nat} {α : Type} {enc g : α → D} (hok : ok st = true) : ∀ {xs : List α}, (∀ x ∈ xs, lcT T f e tg cs own sl (enc x) st = .ok (some (g x)) st) → lcR T f e tg cs own sl ok (xs.map enc) st = .ok (xs.map g) st
  | [], _ => by simp [hok]
  | x :: xs, h => by
    have ih := lcR_mapf hok (xs := xs) fun y hy => h y (List.mem_cons_of_mem _ hy)
    simp [hok, h x List.mem_cons_self, ih]
def inG (i : Int) : Bool := decide (-1000000000 ≤ i) && decide (i ≤ 1000000000)
end TS
end

section
set_option Elab.async false
set_option linter.all false
set_option maxRecDepth 100000
set_option maxHeartbeats 4000000
set_option autoImplicit false
namespace TS
open PySem
structure Tri where
  ins : List Int
  said : List Int
  gave : Option Int
  worth : Int
  shown : Bool
structure Tsk where
  trials : List Tri
  limit : Int
  late : Int
  most : Int
  best : Bool
def optD : Option Int → D
  | none => .non
  | some v => .int v
abbrev dueD (said : List Int) (gave : Option Int) : D := .tup [.tup (said.map .int), optD gave]
def encT (t : Tri) : D := .tup [encI t.ins, dueD t.said t.gave, .int t.worth, .bl t.shown]
def ruleS (b : Bool) : Str := if b then "best" else "last"
def encK (t : Tsk) : D := .tup [.tup (t.trials.map encT), .int t.limit, .int t.late, .int t.most, .str (ruleS t.best)]
structure TriOk (t : Tri) : Prop where
  ins : okI t.ins = true
  len : t.said.length ≤ 20
  said : ∀ i ∈ t.said, inG i = true
  gave : ∀ i, t.gave = some i → inG i = true
  w0 : 1 ≤ t.worth
  w1 : t.worth ≤ 9
structure TskOk (t : Tsk) : Prop where
  l0 : 1 ≤ t.trials.length
  l1 : t.trials.length ≤ 8
  tri : ∀ x ∈ t.trials, TriOk x
  m0 : 1 ≤ t.limit
  m1 : t.limit ≤ 100000
  a0 : 0 ≤ t.late
  a1 : t.late ≤ 9
  k0 : 1 ≤ t.most
  k1 : t.most ≤ 20
section
variable {T : Tab} (h : PR T) (ht : PT T) {k : Nat} {st : Store}
include h ht
theorem is_told_ok {i : Int} (hi : inG i = true) : callD T (k + 2) 37 [.int i] st = .ok (.bl true) st := by
  unfold inG at hi
  simp only [Bool.and_eq_true, decide_eq_true_eq] at hi
  rw [callD_of ht.f37 rfl]
  simp [f_is_told, startD, h.g15, is_number_int h, hi]
theorem is_due_ok {said : List Int} {gave : Option Int} (hl : said.length ≤ 20) (hs : ∀ i ∈ said, inG i = true) (hg : ∀ i, gave = some i → inG i = true) : callD T (k + 3) 38 [dueD said gave] st = .ok (.bl true) st := by
  have c : ¬ ((20 : Int) < (said.length : Int)) := by omega
  have hl2 := lcR_map (T := T) (f := callD T (k + 2)) (st := st) (ok := fun _ => true) (e := .call 37 (.cons (.v 1) .nil) []) (tg := .n 1) (cs := .nil) (own := [1]) (sl := [some (dueD said gave), none]) (g := fun _ => .bl true) (xs := said.map D.int) rfl (fun x hx => by
    obtain ⟨i, hi, rfl⟩ := List.mem_map.mp hx
    simp [lcT_eq, wipeD, is_told_ok h ht (hs i hi)])
  have e := boolsD_map (fun _ : Int => true) said
  have hz : said.length ≤ LIM := by rw [lim_eq]; omega
  rw [callD_of ht.f38 rfl]
  cases gave with
  | none => simp [f_is_due, startD, ht.g18, L2.atI, L2.ixN, c, hl2, hz, Function.comp_def, e, optD]
  | some v => simp [f_is_due, startD, ht.g18, L2.atI, L2.ixN, c, hl2, hz, Function.comp_def, e, optD, is_told_ok h ht (hg v rfl)]
theorem is_trial_ok {t : Tri} (hk : TriOk t) : callD T (k + 4) 39 [encT t] st = .ok (.bl true) st := by
  rw [callD_of ht.f39 rfl]
  have e1 := fun st => are_inputs_ok h hk.ins (k := k + 1) (st := st)
  have e2 := fun st => is_due_ok h ht (k := k) (st := st) hk.len hk.said hk.gave
  have w0 := hk.w0
  have w1 := hk.w1
  simp [f_is_trial, startD, encT, L2.atI, L2.ixN, e1, e2, is_number_int h, ht.g19, w0, w1]
theorem need_task_ok {t : Tsk} (hk : TskOk t) : callD T (k + 5) 40 [encK t] st = .ok .non st := by
  have l0 : (1 : Int) ≤ (t.trials.length : Int) := by have := hk.l0; omega
  have l1 : (t.trials.length : Int) ≤ 8 := by have := hk.l1; omega
  have m0 := hk.m0
  have m1 := hk.m1
  have a0 := hk.a0
  have a1 := hk.a1
  have k0 := hk.k0
  have k1 := hk.k1
  have hl2 := fun X => lcR_map (T := T) (f := callD T (k + 4)) (st := st) (ok := fun _ => true) (e := .call 39 (.cons (.v 1) .nil) []) (tg := .n 1) (cs := .nil) (own := [1]) (sl := [some X, none]) (g := fun _ => .bl true) (xs := t.trials.map encT) rfl (fun x hx => by
    obtain ⟨i, hi, rfl⟩ := List.mem_map.mp hx
    simp [lcT_eq, wipeD, is_trial_ok h ht (hk.tri i hi)])
  have e := boolsD_map (fun _ : Tri => true) t.trials
  have hz : t.trials.length ≤ LIM := by rw [lim_eq]; have := hk.l1; omega
  have e3 := fun st => is_limit_ok h (l := t.limit) (k := k + 2) (st := st)
  rw [callD_of ht.f40 rfl]
  obtain ⟨tr, lim, late, most, best⟩ := t
  simp only at *
  simp only [List.map_map, Function.comp_def] at hl2
  cases best
  · simp [f_need_task, startD, encK, L2.atI, L2.ixN, ht.g17, l0, l1, hl2, hz, Function.comp_def, e, e3, m0, m1, is_number_int h, ht.g19, a0, a1, ht.g20, k0, k1, ruleS, ht.g21, sOk]
  · simp [f_need_task, startD, encK, L2.atI, L2.ixN, ht.g17, l0, l1, hl2, hz, Function.comp_def, e, e3, m0, m1, is_number_int h, ht.g19, a0, a1, ht.g20, k0, k1, ruleS, ht.g21, sOk]
end
def wordL (P : List Rw) (lim : Int) (t : Tri) : Str := match (runL t.ins lim P).why with
  | some (.fell _ _) => "fell"
  | some (.tired _) => "tired"
  | some (.gave v) => if (runL t.ins lim P).said = t.said ∧ t.gave = some v then "good" else "wrong"
  | none => if (runL t.ins lim P).said = t.said ∧ t.gave = none then "good" else "wrong"
theorem eqDs_ints : ∀ {a b : List Int}, eqDs (a.map .int) (b.map .int) = decide (a = b)
  | [], [] => rfl
  | [], b :: bs => rfl
  | a :: as, [] => rfl
  | a :: as, b :: bs => by
    rw [List.map_cons, List.map_cons, eqDs, eqDs_ints]
    have : eqD (.int a) (.int b) = decide (a = b) := by
      unfold eqD
      exact Bool.eq_iff_iff.mpr (by rw [beq_iff_eq, decide_eq_true_iff])
    rw [this, Bool.eq_iff_iff]
    simp
theorem eqD_opt {a b : Option Int} : eqD (optD a) (optD b) = decide (a = b) := by
  cases a <;> cases b <;> first | rfl | (simp [optD, eqD]; done) | exact Bool.eq_iff_iff.mpr (by simp [optD, eqD])
theorem pl_opt {a : Option Int} : pl (optD a) = true := by cases a <;> rfl
theorem dp_opt {a : Option Int} : dp (optD a) = 0 := by cases a <;> rfl
theorem eqv_due {st : Store} {a b : List Int} {x y : Option Int} : eqv? st (dueD a x) (dueD b y) = some (decide (a = b ∧ x = y)) := by
  rw [eqv_pl]
  · simp [eqD, eqDs, eqDs_ints, eqD_opt]
  · simp [pl, pls, pls_ints, pl_opt]
  · simp [pl, pls, pls_ints, pl_opt]
  · simp [dp, dps, dps_ints, dp_opt]
  · simp [dp, dps, dps_ints, dp_opt]
section
variable {T : Tab} (h : PR T) (ht : PT T)
include h ht
theorem word_of_ok {P : List Rw} (hp : okP P = true) {t : Tri} (hk : TriOk t) {lim : Int} (h1 : 1 ≤ lim) (h2 : lim ≤ 100000) {k : Nat} (hk2 : 33 ≤ k) {st : Store} : callD T k 41 [encP P, encT t, .int lim] st = .ok (.str (wordL P lim t)) st := by
  obtain ⟨k, rfl⟩ : ∃ k', k = k' + 33 := ⟨k - 33, by omega⟩
  have e := fun st => ran_ok h ht.f16 hp hk.ins h1 h2 (k := k + 32) (by omega) (st := st)
  have hw := run_w (ins := t.ins) (lim := lim) (a := P)
  rw [callD_of ht.f41 rfl]
  unfold wordL
  generalize runL t.ins lim P = s at e hw ⊢
  have ed := fun (x : Option Int) st => eqv_due (st := st) (a := s.said) (b := t.said) (x := x) (y := t.gave)
  have z : ∀ xs : List D, items st (.lst xs) = some xs := fun _ => rfl
  cases hy : s.why with
  | none =>
    have ed : ∀ st, eqv? st (.tup [.tup (s.said.map .int), .non]) (dueD t.said t.gave) = some (decide (s.said = t.said ∧ none = t.gave)) := fun st => eqv_due (x := none)
    simp only [resD, hy, whyF, whyD] at e
    have ew : encT t = .tup [encI t.ins, dueD t.said t.gave, .int t.worth, .bl t.shown] := rfl
    rw [ew]
    generalize dueD t.said t.gave = DU at ed
    by_cases c : s.said = t.said ∧ t.gave = none
    · have ed : ∀ st, eqv? st (.tup [.tup (s.said.map .int), .non]) DU = some true := fun st => by rw [ed, decide_eq_true (⟨c.1, c.2.symm⟩ : s.said = t.said ∧ none = t.gave)]
      simp only [if_pos c]
      generalize s.said.map D.int = as at e ed
      generalize encP P = pp at e
      simp [f_word_of, startD, asgV, e, L2.atI, L2.ixN, inV?, flatD, eqF, ed]
    · have ed : ∀ st, eqv? st (.tup [.tup (s.said.map .int), .non]) DU = some false := fun st => by rw [ed, decide_eq_false (fun z : s.said = t.said ∧ none = t.gave => c ⟨z.1, z.2.symm⟩)]
      simp only [if_neg c]
      generalize s.said.map D.int = as at e ed
      generalize encP P = pp at e
      simp [f_word_of, startD, asgV, e, L2.atI, L2.ixN, inV?, flatD, eqF, ed]
  | some w =>
    cases w with
    | gave v =>
      have ed : ∀ st, eqv? st (.tup [.tup (s.said.map .int), .int v]) (dueD t.said t.gave) = some (decide (s.said = t.said ∧ some v = t.gave)) := fun st => eqv_due (x := some v)
      simp only [resD, hy, whyF, whyD] at e
      have ew : encT t = .tup [encI t.ins, dueD t.said t.gave, .int t.worth, .bl t.shown] := rfl
      rw [ew]
      generalize dueD t.said t.gave = DU at ed
      by_cases c : s.said = t.said ∧ t.gave = some v
      · have ed : ∀ st, eqv? st (.tup [.tup (s.said.map .int), .int v]) DU = some true := fun st => by rw [ed, decide_eq_true (⟨c.1, c.2.symm⟩ : s.said = t.said ∧ some v = t.gave)]
        simp only [if_pos c]
        generalize s.said.map D.int = as at e ed
        generalize encP P = pp at e
        simp [f_word_of, startD, asgV, e, L2.atI, L2.ixN, inV?, flatD, eqF, ed]
      · have ed : ∀ st, eqv? st (.tup [.tup (s.said.map .int), .int v]) DU = some false := fun st => by rw [ed, decide_eq_false (fun z : s.said = t.said ∧ some v = t.gave => c ⟨z.1, z.2.symm⟩)]
        simp only [if_neg c]
        generalize s.said.map D.int = as at e ed
        generalize encP P = pp at e
        simp [f_word_of, startD, asgV, e, L2.atI, L2.ixN, inV?, flatD, eqF, ed]
    | fell v p =>
      simp only [resD, hy, whyF, whyD] at e
      simp [f_word_of, startD, encT, asgV, e, L2.atI, L2.ixN, inV?, flatD, eqF]
    | tired p =>
      simp only [resD, hy, whyF, whyD] at e
      simp [f_word_of, startD, encT, asgV, e, L2.atI, L2.ixN, inV?, flatD, eqF]
def wordsL (P : List Rw) (t : Tsk) : List Str := t.trials.map (wordL P t.limit)
theorem words_of_ok {P : List Rw} (hp : okP P = true) {t : Tsk} (hk : TskOk t) {k : Nat} (hk2 : 34 ≤ k) {st : Store} : callD T k 42 [encP P, encK t] st = .ok (.tup ((wordsL P t).map .str)) st := by
  obtain ⟨k, rfl⟩ : ∃ k', k = k' + 34 := ⟨k - 34, by omega⟩
  have hl2 := lcR_mapf (T := T) (f := callD T (k + 33)) (st := st) (ok := fun _ => true) (e := .call 41 (.cons (.v 0) (.cons (.v 2) (.cons (.ix (.v 1) (.c (.int 1))) .nil))) []) (tg := .n 2) (cs := .nil) (own := [2]) (sl := [some (encP P), some (encK t), none]) (enc := encT) (g := fun x => .str (wordL P t.limit x)) (xs := t.trials) rfl (fun x hx => by
    have e := fun st => word_of_ok h ht hp (hk.tri x hx) hk.m0 hk.m1 (k := k + 33) (by omega) (st := st)
    generalize encP P = pp at e ⊢
    generalize encT x = tx at e ⊢
    simp [lcT_eq, wipeD, encK, L2.atI, L2.ixN, e])
  have hz : t.trials.length ≤ LIM := by rw [lim_eq]; have := hk.l1; omega
  rw [callD_of ht.f42 rfl]
  generalize encP P = pp at hl2 ⊢
  unfold encK at hl2 ⊢
  simp [f_words_of, startD, L2.atI, L2.ixN, hl2, hz, wordsL]
end
end TS
end

section
set_option Elab.async false
set_option linter.all false
set_option maxRecDepth 100000
set_option maxHeartbeats 4000000
set_option autoImplicit false
namespace TS
open PySem
def gv : Option Why → Option Int
  | some (.gave v) => some v
  | _ => none
section
variable {ins : List Int} {lim : Int}
theorem gr_gv {v pl : Int} {s : RS} (h : gv s.why = none) : gv (gr v pl s).2.why = none := by unfold gr; split; exact h; rfl
theorem rk_gv {o : Op} {a b pl : Int} {s : RS} (h : gv s.why = none) : gv (rk o a b pl s).2.why = none := by
  cases o <;> first | exact gr_gv h | exact h | (unfold rk; dsimp only; split; rfl; exact h)
theorem evL_gv : ∀ (e : Ex) {pl : Int} {s : RS}, gv s.why = none → gv (evL ins lim e pl s).2.why = none
  | .num n, pl, s, h => by unfold evL stp; split; rfl; exact h
  | .inp k, pl, s, h => by unfold evL stp; split; rfl; dsimp only; split; exact h; rfl
  | .get x, pl, s, h => by unfold evL stp; split; rfl; dsimp only; split; exact h; rfl
  | .not a, pl, s, h => by
    unfold evL stp
    split; rfl
    dsimp only
    split <;> exact evL_gv a h
  | .op o a b, pl, s, h => by
    have ha := fun pl s h => evL_gv a (pl := pl) (s := s) h
    have hb := fun pl s h => evL_gv b (pl := pl) (s := s) h
    unfold evL stp
    split
    · rfl
    · dsimp only
      split
      · exact ha _ _ h
      · split
        · exact ha _ _ h
        · split
          · exact hb _ _ (ha _ _ h)
          · exact rk_gv (hb _ _ (ha _ _ h))
structure SB (ins : List Int) (lim : Int) (s : RS) : Prop where
  b : bnd ins s
  low : s.steps ≤ lim
  said : ∀ v ∈ s.said, absI v ≤ GREAT
  gave : ∀ v, gv s.why = some v → absI v ≤ GREAT
theorem rst_sb {e : Ex} {pl pl2 : Int} {s : RS} {k : Int → RS → RS} (he : okE e = true) (h : SB ins lim s) (hw : s.why = none) (hk : ∀ v s2, SB ins lim s2 → absI v ≤ GREAT → SB ins lim (k v s2)) : SB ins lim (rst lim pl s (evL ins lim e pl2) k) := by
  unfold rst
  split
  · exact ⟨h.b, h.low, h.said, fun v e => by cases e⟩
  · rename_i hne
    have low := h.low
    have ok := evL_ok (ins := ins) (lim := lim) e (pl := pl2) (s := { s with steps := s.steps + 1 }) he h.b (by simp only; omega)
    have hg := evL_gv (ins := ins) (lim := lim) e (pl := pl2) (s := { s with steps := s.steps + 1 }) (by simp only; rw [hw]; rfl)
    have h2 : SB ins lim (evL ins lim e pl2 { s with steps := s.steps + 1 }).2 := ⟨⟨h.b.1, by rw [ok.names]; exact h.b.2⟩, ok.low, by rw [ok.said]; exact h.said, fun v e => by rw [hg] at e; cases e⟩
    split
    · exact h2
    · exact hk _ _ h2 ok.val
theorem whl_sb {e : Ex} {pl pl2 : Int} {body : RS → RS} (he : okE e = true) (hb : ∀ s, SB ins lim s → SB ins lim (body s)) : ∀ (n : Nat) {s : RS}, SB ins lim s → SB ins lim (whlL lim pl (evL ins lim e pl2) body n s)
  | 0, s, h => h
  | n + 1, s, h => by
    unfold whlL
    split
    · exact h
    · rename_i hw
      refine rst_sb he h (by simpa using hw) fun v s2 h2 _ => ?_
      split
      · exact whl_sb he hb n (hb s2 h2)
      · exact h2
mutual
theorem one_sb : ∀ (r : Rw) {pl : Int} {s : RS}, okR r = true → SB ins lim s → s.why = none → SB ins lim (oneL ins lim r pl s)
  | .set x e, pl, s, hr, h, hw => by
    unfold okR at hr
    simp only [Bool.and_eq_true] at hr
    unfold oneL
    exact rst_sb hr.2 h hw fun v s2 h2 hv => ⟨⟨h2.b.1, putN_bnd h2.b.2 hv⟩, h2.low, h2.said, h2.gave⟩
  | .say e, pl, s, hr, h, hw => by
    unfold okR at hr
    unfold oneL
    refine rst_sb hr h hw fun v s2 h2 hv => ⟨h2.b, h2.low, fun x hx => ?_, h2.gave⟩
    rcases List.mem_append.mp hx with hx | hx
    · exact h2.said x hx
    · rw [List.mem_singleton.mp hx]; exact hv
  | .give e, pl, s, hr, h, hw => by
    unfold okR at hr
    unfold oneL
    exact rst_sb hr h hw fun v s2 h2 hv => ⟨h2.b, h2.low, h2.said, fun x hx => by cases hx; exact hv⟩
  | .ifr e a b, pl, s, hr, h, hw => by
    unfold okR at hr
    simp only [Bool.and_eq_true] at hr
    unfold oneL
    refine rst_sb hr.1 h hw fun v s2 h2 hv => ?_
    split
    · exact go_sb a hr.2.1 h2
    · exact go_sb b hr.2.2 h2
  | .whl e a, pl, s, hr, h, hw => by
    unfold okR at hr
    simp only [Bool.and_eq_true] at hr
    unfold oneL
    exact whl_sb hr.1 (fun s h => go_sb a hr.2 h) _ h
theorem go_sb : ∀ (rs : List Rw) {pl : Int} {s : RS}, okRs rs = true → SB ins lim s → SB ins lim (goL ins lim rs pl s)
  | [], pl, s, _, h => by unfold goL; exact h
  | r :: rs, pl, s, hr, h => by
    unfold okRs at hr
    simp only [Bool.and_eq_true] at hr
    unfold goL
    split
    · exact go_sb rs hr.2 h
    · rename_i hw
      exact go_sb rs hr.2 (one_sb r hr.1 h (by simpa using hw))
end
theorem run_sb {P : List Rw} (hp : okRs P = true) (hi : okI ins = true) (hl : 1 ≤ lim) : SB ins lim (runL ins lim P) := go_sb P hp ⟨⟨okI_bnd hi, (fun x hx => nomatch hx)⟩, by simp [rs0]; omega, (fun v hv => nomatch hv), (fun v hv => nomatch hv)⟩
theorem inG_of {v : Int} (h : absI v ≤ GREAT) : inG v = true := by
  unfold inG
  simp only [absI, GREAT] at h
  simp only [Bool.and_eq_true, decide_eq_true_eq]
  split at h <;> omega
end
theorem is_bool_int {st : Store} : isiV "list" "bool" = false := by decide
mutual
def plS : D → Bool
  | .non => true
  | .bl _ => true
  | .int _ => true
  | .str s => sOk s
  | .tup xs => decide (xs.length ≤ 1000000) && plSs xs
  | .lst xs => decide (xs.length ≤ 1000000) && plSs xs
  | _ => false
def plSs : List D → Bool
  | [] => true
  | x :: r => plS x && plSs r
end
theorem plSs_mem : ∀ {xs : List D} {x : D}, plSs xs = true → x ∈ xs → plS x = true
  | y :: ys, x, h, hx => by
    unfold plSs at h
    simp only [Bool.and_eq_true] at h
    rcases List.mem_cons.mp hx with rfl | hx
    · exact h.1
    · exact plSs_mem h.2 hx
theorem dps_mem : ∀ {xs : List D} {x : D}, x ∈ xs → dp x ≤ dps xs
  | y :: ys, x, hx => by
    unfold dps
    rcases List.mem_cons.mp hx with rfl | hx
    · omega
    · have := dps_mem hx; omega
theorem atI_nat {α : Type} {xs : List α} {i : Nat} (h : i < xs.length) : L2.atI xs (i : Int) = some xs[i] := by
  have h1 : (i : Int) < (xs.length : Int) := by omega
  simp [L2.atI, L2.ixN, h1, h]
end TS
end

section
set_option Elab.async false
set_option linter.all false
set_option maxRecDepth 100000
set_option maxHeartbeats 4000000
set_option autoImplicit false
namespace TS
open PySem
structure TryR where
  who : Str
  name : Str
  prog : List Rw
  on : Int
  counts : Bool
structure Sch where
  day : Int
  tasks : List (Str × (Tsk × Int))
  tries : List TryR
  book : List D
def taskD (x : Tsk × Int) : D := .tup [encK x.1, .int x.2]
def tryO (x : TryR) : SO := .ins 18 [.str x.who, .str x.name, encP x.prog, .int x.on, .bl x.counts]
structure At where
  p : Nat
  t : Nat
  r : Nat
  b : Nat
  is_ : List Nat
structure SchAt (st : Store) (A : At) (S : Sch) : Prop where
  hp : st[A.p]? = some (.ins 17 [.int S.day, .ref A.t, .ref A.r, .ref A.b])
  ht : st[A.t]? = some (.dic (S.tasks.map fun x => .inr x.1) (S.tasks.map fun x => taskD x.2))
  hr : st[A.r]? = some (.lst (A.is_.map .ref))
  hb : st[A.b]? = some (.lst S.book)
  hl : A.is_.length = S.tries.length
  hi : ∀ (j i : Nat) (x : TryR), A.is_[j]? = some i → S.tries[j]? = some x → st[i]? = some (tryO x)
  nd : A.is_.Nodup
  rb : A.r ≠ A.b
structure TryOk (x : TryR) : Prop where
  who : nmOk x.who = true
  name : nmOk x.name = true
  prog : okP x.prog = true
  o0 : 0 ≤ x.on
  o1 : x.on ≤ 999
structure SchOk (S : Sch) : Prop where
  d0 : 0 ≤ S.day
  d1 : S.day ≤ 999
  tn : ∀ x ∈ S.tasks, nmOk x.1 = true ∧ TskOk x.2.1 ∧ 0 ≤ x.2.2 ∧ x.2.2 ≤ 999
  td : (S.tasks.map (·.1)).Nodup
  tr : ∀ x ∈ S.tries, TryOk x
  th : ∀ x ∈ S.tries, ∃ y, S.tasks.lookup x.name = some y
  few : S.tries.length ≤ 60
  fewb : S.book.length ≤ 1000
  fewt : S.tasks.length ≤ 1000
theorem dget_map {β : Type} {g : β → D} {n : Str} : ∀ {l : List (Str × β)}, dget (l.map fun x => (Sum.inr x.1 : L2.Key)) (l.map fun x => g x.2) (.inr n) = (l.lookup n).map g
  | [] => rfl
  | x :: l => by
    obtain ⟨a, b⟩ := x
    rw [List.map_cons, List.map_cons, dget, List.lookup_cons]
    by_cases c : a = n
    · subst c
      simp
    · have c2 : (n == a) = false := by simpa using fun z => c z.symm
      have c3 : ¬ ((Sum.inr a : L2.Key) = .inr n) := fun z => c (by injection z)
      rw [c2, if_neg c3]
      exact dget_map
theorem lcR_filtf {ok : Store → Bool} {tg : Tg} {sl : Slots} {st : Store} {T : Tab} {f : Phi} {e : DE} {cs : DEs} {own : List Nat} {α : Type} {enc : α → D} {g : α → Option D} (hok : ok st = true) : ∀ {xs : List α}, (∀ x ∈ xs, lcT T f e tg cs own sl (enc x) st = .ok (g x) st) → lcR T f e tg cs own sl ok (xs.map enc) st = .ok (xs.filterMap g) st
  | [], _ => by simp [hok]
  | x :: xs, h => by
    have ih := lcR_filtf hok (xs := xs) fun y hy => h y (List.mem_cons_of_mem _ hy)
    have h0 := h x List.mem_cons_self
    cases e0 : g x with
    | none => rw [e0] at h0; simp [hok, h0, ih, e0]
    | some y => rw [e0] at h0; simp [hok, h0, ih, e0]
section
variable {st : Store} {A : At} {S : Sch} (a : SchAt st A S)
include a
theorem SchAt.f0 : fldV 17 0 st (.ref A.p) = some (.int S.day) := by simp [fldV, a.hp]
theorem SchAt.f1 : fldV 17 1 st (.ref A.p) = some (.ref A.t) := by simp [fldV, a.hp]
theorem SchAt.f2 : fldV 17 2 st (.ref A.p) = some (.ref A.r) := by simp [fldV, a.hp]
theorem SchAt.f3 : fldV 17 3 st (.ref A.p) = some (.ref A.b) := by simp [fldV, a.hp]
theorem SchAt.tin {n : Str} : inV? st (.str n) (.ref A.t) = some (S.tasks.lookup n).isSome := by
  have e : inV? st (.str n) (.ref A.t) = match items st (.ref A.t) with
    | some ys => if flatD (.str n) && ys.all flatD then some (ys.any fun z => eqF z (.str n)) else none
    | none => match ditems st (.ref A.t), keyOf (.str n) with
      | some (ks, ds), some k => some (dget ks ds k).isSome
      | _, _ => none := rfl
  rw [e]
  simp only [items, ditems, a.ht, keyOf]
  rw [dget_map]
  simp
theorem SchAt.tix {n : Str} : ixV st (.ref A.t) (.str n) = (S.tasks.lookup n).map taskD := by
  unfold ixV
  simp only [items, ditems, a.ht, keyOf]
  exact dget_map
theorem SchAt.len : lenD st (.ref A.r) = some S.tries.length := by
  simp [lenD, items, a.hr, a.hl]
theorem SchAt.zip {x : Nat × TryR} (hx : x ∈ A.is_.zip S.tries) : st[x.1]? = some (tryO x.2) := by
  obtain ⟨j, hj⟩ := List.mem_iff_getElem?.mp hx
  rw [List.getElem?_zip_eq_some] at hj
  exact a.hi j _ _ hj.1 hj.2
theorem SchAt.refs : A.is_.map D.ref = (A.is_.zip S.tries).map fun x => .ref x.1 := by
  have e : (A.is_.zip S.tries).map (·.1) = A.is_ := List.map_fst_zip (by rw [a.hl]; exact Nat.le_refl _)
  conv => lhs; rw [← e, List.map_map]
  rfl
theorem SchAt.wk : wkOf st (.ref A.r) = some ⟨(A.is_.zip S.tries).map fun x => .ref x.1, fun s => stays s (.ref A.r) (A.is_.map .ref)⟩ := by
  unfold wkOf
  simp only [items, a.hr]
  rw [← a.refs]
  rfl
theorem SchAt.stay : stays st (.ref A.r) (A.is_.map .ref) = true := by
  unfold stays
  simp only [a.hr]
  exact D.beqs_refl _
end
theorem try_f {st : Store} {x : TryR} {i : Nat} (e : st[i]? = some (tryO x)) : fldV 18 0 st (.ref i) = some (.str x.who) ∧ fldV 18 1 st (.ref i) = some (.str x.name) ∧ fldV 18 2 st (.ref i) = some (encP x.prog) ∧ fldV 18 3 st (.ref i) = some (.int x.on) ∧ fldV 18 4 st (.ref i) = some (.bl x.counts) := by
  unfold tryO at e
  simp [fldV, e]
def forT (n w : Str) (x : TryR) : Bool := x.counts && (decide (x.name = n) && decide (x.who = w))
def selT (A : At) (S : Sch) (q : TryR → Bool) : List (Nat × TryR) := (A.is_.zip S.tries).filter fun x => q x.2
section
variable {T : Tab} (h : PR T) (hs : PS T) {st : Store} {A : At} {S : Sch}
include h hs
omit h in
theorem day_ok {k : Nat} (a : SchAt st A S) : callD T (k + 1) 88 [.ref A.p] st = .ok (.int S.day) st := by
  rw [callD_of hs.f88 rfl]
  simp [f_School_day, startD, a.f0, hs.c17]
omit h in
theorem deeds_ok {k : Nat} (a : SchAt st A S) (ok : SchOk S) : callD T (k + 1) 100 [.ref A.p] st = .ok (.lst S.book) st := by
  rw [callD_of hs.f100 rfl]
  have z : S.book.length ≤ LIM := by rw [lim_eq]; have := ok.fewb; omega
  simp [f_School_deeds, startD, a.f3, hs.c17, bfV, items, a.hb, z]
theorem need_name_ok {k : Nat} {s : Str} (n : nmOk s = true) : callD T (k + 2) 77 [.str s] st = .ok .non st := by
  have e := is_name_ok h n (k := k) (st := st)
  rw [callD_of hs.f77 rfl]
  simp [f_need_name, startD, e]
omit h in
theorem need_tn_ok {k : Nat} (a : SchAt st A S) {n : Str} (hn : (S.tasks.lookup n).isSome = true) : callD T (k + 1) 79 [.ref A.p, .str n] st = .ok .non st := by
  rw [callD_of hs.f79 rfl]
  simp [f_School_need_task_name, startD, a.f1, hs.c17, a.tin, hn]
omit h hs in
theorem cut_take {α : Type} {xs : List α} {m : Int} (hm : 0 ≤ m) : cutD xs none (some m) = xs.take m.toNat := by
  obtain ⟨n, rfl⟩ := Int.eq_ofNat_of_zero_le hm
  have e0 : HT.sIx xs.length 0 none = 0 := rfl
  have e1 : HT.sIx xs.length xs.length (some (n : Int)) = min n xs.length := by
    simp [HT.sIx]
    omega
  unfold cutD
  rw [e0, e1, List.drop_zero, Nat.sub_zero]
  by_cases c : n ≤ xs.length
  · rw [Nat.min_eq_left c]; rfl
  · rw [Nat.min_eq_right (by omega), List.take_of_length_le (Nat.le_refl _)]
    exact (List.take_of_length_le (by simp; omega)).symm
omit h hs in
theorem filt_sel {A : At} {S : Sch} {q : TryR → Bool} : ((A.is_.zip S.tries).filterMap fun x => if q x.2 = true then some (D.ref x.1) else none) = (selT A S q).map fun x => .ref x.1 := by
  unfold selT
  induction A.is_.zip S.tries with
  | nil => rfl
  | cons x l ih =>
    by_cases c : q x.2 = true
    · simp [c, ih]
    · simp [c, ih]
omit h hs in
theorem sel_mem {A : At} {S : Sch} {q : TryR → Bool} {x : Nat × TryR} (hx : x ∈ selT A S q) : x ∈ A.is_.zip S.tries ∧ q x.2 = true := List.mem_filter.mp hx
omit h hs in
theorem zip_try {A : At} {S : Sch} (ok : SchOk S) {x : Nat × TryR} (hx : x ∈ A.is_.zip S.tries) : TryOk x.2 := ok.tr _ (List.of_mem_zip hx).2
omit h hs in
theorem sel_len {A : At} {S : Sch} {q : TryR → Bool} (ok : SchOk S) : (selT A S q).length ≤ 60 := by
  have e1 : (selT A S q).length ≤ (A.is_.zip S.tries).length := List.length_filter_le ..
  have e2 : (A.is_.zip S.tries).length ≤ S.tries.length := by rw [List.length_zip]; exact Nat.min_le_right _ _
  have := ok.few
  omega
omit h in
theorem counting_ok {k : Nat} (a : SchAt st A S) (ok : SchOk S) {n w : Str} {t : Tsk} {l : Int} (hn : S.tasks.lookup n = some (t, l)) (nn : nmOk n = true) (nw : nmOk w = true) (tk : 0 ≤ t.most) :
    callD T (k + 1) 81 [.ref A.p, .str n, .str w] st = .ok (.lst (((selT A S (forT n w)).take t.most.toNat).map fun x => .ref x.1)) st := by
  have sn := nmOk_sOk nn
  have sw := nmOk_sOk nw
  have e1 : ∀ f : Phi, lcR T f (.v 4) (.n 4) (.cons (.band (.cons (.fld 18 4 (.v 4)) (.cons (.cmp .eq (.fld 18 1 (.v 4)) (.v 1)) (.cons (.cmp .eq (.fld 18 0 (.v 4)) (.v 2)) .nil)))) .nil) [4] [some (.ref A.p), some (.str n), some (.str w), none, none] (fun s => stays s (.ref A.r) (A.is_.map .ref)) ((A.is_.zip S.tries).map fun x => .ref x.1) st =
      .ok ((selT A S (forT n w)).map fun x => .ref x.1) st := by
    intro f
    rw [← filt_sel]
    refine lcR_filtf a.stay fun x hx => ?_
    obtain ⟨g0, g1, g2, g3, g4⟩ := try_f (a.zip hx)
    have ty := zip_try ok hx
    have s1 := nmOk_sOk ty.name
    have s2 := nmOk_sOk ty.who
    by_cases c1 : x.2.counts = true
    · by_cases c2 : x.2.name = n
      · by_cases c3 : x.2.who = w
        · simp [lcT_eq, asgV, wipeD, g4, g1, g0, sn, sw, s1, s2, forT, c1, c2, c3]
        · simp [lcT_eq, asgV, wipeD, g4, g1, g0, sn, sw, s1, s2, forT, c1, c2, c3]
      · simp [lcT_eq, asgV, wipeD, g4, g1, g0, sn, sw, s1, s2, forT, c1, c2]
    · have c1 : x.2.counts = false := by simpa using c1
      simp [lcT_eq, asgV, wipeD, g4, g1, g0, sn, sw, s1, s2, forT, c1]
  have z : (selT A S (forT n w)).length ≤ LIM := by rw [lim_eq]; have := sel_len (A := A) (q := forT n w) ok; omega
  rw [callD_of hs.f81 rfl]
  have e2 : L2.atI [D.tup (t.trials.map encT), .int t.limit, .int t.late, .int t.most, .str (ruleS t.best)] 3 = some (.int t.most) := rfl
  have e3 := cut_take (xs := (selT A S (forT n w)).map fun x => D.ref x.1) tk
  simp [f_School_counting, startD, a.f1, a.f2, hs.c17, a.wk, e1, a.tix, hn, z, taskD, encK, e2, slV, litems, optI, e3, L2.atI, L2.ixN]
end
end TS
end

section
set_option Elab.async false
set_option linter.all false
set_option maxRecDepth 100000
set_option maxHeartbeats 4000000
set_option autoImplicit false
namespace TS
open PySem
theorem prsD_map : ∀ {ps : List (L2.Key × D)}, prsD (ps.map fun p => .tup [kD p.1, p.2]) = some ps
  | [] => rfl
  | p :: ps => by
    obtain ⟨k, d⟩ := p
    have ih := prsD_map (ps := ps)
    have ek : keyOf (kD k) = some k := by cases k <;> rfl
    rw [List.map_cons, prsD]
    simp only [ek, ih]
theorem loop_filtf {ok : Store → Bool} {st : Store} {turn : D → Store → Out (Option D)} {α : Type} {enc : α → D} {g : α → Option D} (hok : ok st = true) : ∀ {xs : List α}, (∀ x ∈ xs, turn (enc x) st = .ok (g x) st) → lcLoop ok turn (xs.map enc) st = .ok (xs.filterMap g) st
  | [], _ => by simp [lcLoop, hok]
  | x :: xs, h => by
    have ih := loop_filtf hok (xs := xs) fun y hy => h y (List.mem_cons_of_mem _ hy)
    have h0 := h x List.mem_cons_self
    rw [List.map_cons, lcLoop, if_pos hok, h0]
    show Out.bind (lcLoop ok turn (xs.map enc) st) _ = _
    rw [ih]
    cases e0 : g x with
    | none => simp [Out.bind, e0]
    | some y => simp [Out.bind, e0]
theorem dc_ok {T : Tab} {f : Phi} {k e : DE} {tg : Tg} {it : DI} {cs : DEs} {own : List Nat} {sl : Slots} {st st1 st2 : Store} {w : Wk} {ps : List (L2.Key × D)} (hi : evI T f it sl st = .ok w st1)
    (hl : lcLoop w.ok (dcTurn T f k e tg cs own sl) w.xs st1 = .ok (ps.map fun p => .tup [kD p.1, p.2]) st2) (few : ps.length ≤ LIM) : evE T f (.dc k e tg it cs own) sl st = .ok (.dic (putAllK ps []) (putAllD ps [] [])) st2 := by
  rw [evE_dcM, dcM, hi]
  show (match lcLoop w.ok (dcTurn T f k e tg cs own sl) w.xs st1 with | .ok ys st2 => _ | _ => _) = _
  rw [hl]
  show (match prsD (ps.map fun p => .tup [kD p.1, p.2]) with | some ps => _ | none => _) = _
  rw [prsD_map]
  show (if ps.length ≤ LIM then _ else _) = _
  rw [if_pos few]
def putU : List Str → List Str → List Str
  | [], acc => acc
  | w :: l, acc => putU l (if w ∈ acc then acc else acc ++ [w])
theorem putU_mem : ∀ {l acc : List Str} {k : Str}, k ∈ putU l acc ↔ k ∈ l ∨ k ∈ acc
  | [], acc, k => by simp [putU]
  | w :: l, acc, k => by
    rw [putU, putU_mem]
    split
    · rename_i c
      rw [List.mem_cons]
      constructor
      · rintro (h | h)
        · exact .inl (.inr h)
        · exact .inr h
      · rintro ((rfl | h) | h)
        · exact .inr c
        · exact .inl h
        · exact .inr h
    · rw [List.mem_append, List.mem_singleton, List.mem_cons]
      constructor
      · rintro (h | h | h)
        · exact .inl (.inr h)
        · exact .inr h
        · exact .inl (.inl h)
      · rintro ((h | h) | h)
        · exact .inr (.inr h)
        · exact .inl h
        · exact .inr (.inl h)
theorem putU_nodup : ∀ {l acc : List Str}, acc.Nodup → (putU l acc).Nodup
  | [], acc, h => h
  | w :: l, acc, h => by
    rw [putU]
    split
    · exact putU_nodup h
    · rename_i c
      refine putU_nodup (List.nodup_append.mpr ⟨h, by simp, fun a ha b hb e => ?_⟩)
      rw [List.mem_singleton] at hb
      exact c (hb ▸ e ▸ ha)
theorem putK_u {g : Str → D} : ∀ {l acc : List Str}, putAllK (l.map fun w => ((Sum.inr w : L2.Key), g w)) (acc.map .inr) = (putU l acc).map .inr
  | [], acc => rfl
  | w :: l, acc => by
    rw [List.map_cons, putAllK, putU]
    have e : dputK (acc.map .inr) (Sum.inr w : L2.Key) = (if w ∈ acc then acc else acc ++ [w]).map .inr := by
      unfold dputK
      by_cases c : w ∈ acc
      · rw [if_pos c, if_pos (by simp [c])]
      · rw [if_neg c, if_neg (by simp [c])]
        simp
    show putAllK (l.map fun w => ((Sum.inr w : L2.Key), g w)) (dputK (acc.map .inr) (Sum.inr w)) = _
    rw [e]
    exact putK_u
def inT (n : Str) (x : TryR) : Bool := x.counts && decide (x.name = n)
def learnL (S : Sch) (n : Str) : List Str := sortStr (dedS ((S.tries.filter (inT n)).map (·.who)))
theorem sort_u {l : List Str} : sortStr (putU l []) = sortStr (dedS l) :=
  pair_unique sort_pair sort_pair ((sort_perm.trans ((List.perm_ext_iff_of_nodup (putU_nodup List.nodup_nil) ded_nodup).mpr fun k => by rw [putU_mem, ded_mem]; simp)).trans sort_perm.symm)
theorem keysS_map : ∀ {l : List Str}, keysS (l.map .inr) = some l
  | [] => rfl
  | w :: l => by
    have ih := keysS_map (l := l)
    rw [List.map_cons, keysS]
    simp [ih]
theorem sel_who {A : At} {S : Sch} {q : TryR → Bool} (hl : A.is_.length = S.tries.length) : (selT A S q).map (·.2) = S.tries.filter q := by
  have e : (A.is_.zip S.tries).map (·.2) = S.tries := List.map_snd_zip (by omega)
  unfold selT
  conv => rhs; rw [← e, List.filter_map]
  rfl
theorem sort_len {l : List Str} : (sortStr (dedS l)).length ≤ l.length := by
  rw [sort_perm.length_eq]
  induction l with
  | nil => exact Nat.le_refl _
  | cons x r ih =>
    unfold dedS
    split
    · exact Nat.le_trans ih (Nat.le_succ _)
    · rw [List.length_cons, List.length_cons]; exact Nat.succ_le_succ ih
section
variable {T : Tab} (h : PR T) (ht : PT T) (hs : PS T) {st : Store} {A : At} {S : Sch}
include hs
theorem learners_ok {k : Nat} (a : SchAt st A S) (ok : SchOk S) {n : Str} (nn : nmOk n = true) : callD T (k + 1) 82 [.ref A.p, .str n] st = .ok (.lst ((learnL S n).map .str)) st := by
  have sn := nmOk_sOk nn
  have few := sel_len (A := A) (q := inT n) ok
  have e1 : ∀ f : Phi, lcLoop (fun s => stays s (.ref A.r) (A.is_.map .ref)) (dcTurn T f (.fld 18 0 (.v 2)) (.c (.bl true)) (.n 2) (.cons (.band (.cons (.fld 18 4 (.v 2)) (.cons (.cmp .eq (.fld 18 1 (.v 2)) (.v 1)) .nil))) .nil) [2] [some (.ref A.p), some (.str n), none]) ((A.is_.zip S.tries).map fun x => .ref x.1) st =
      .ok (((selT A S (inT n)).map fun x => ((Sum.inr x.2.who : L2.Key), D.bl true)).map fun p => .tup [kD p.1, p.2]) st := by
    intro f
    have e2 : (((selT A S (inT n)).map fun x => ((Sum.inr x.2.who : L2.Key), D.bl true)).map fun p => D.tup [kD p.1, p.2]) = (A.is_.zip S.tries).filterMap fun x => if inT n x.2 = true then some (.tup [.str x.2.who, .bl true]) else none := by
      unfold selT
      induction A.is_.zip S.tries with
      | nil => rfl
      | cons x l ih =>
        by_cases c : inT n x.2 = true
        · simp [c, kD] at ih ⊢
          exact ih
        · simp [c] at ih ⊢
          exact ih
    rw [e2]
    refine loop_filtf a.stay fun x hx => ?_
    obtain ⟨g0, g1, g2, g3, g4⟩ := try_f (a.zip hx)
    have ty := zip_try ok hx
    have s1 := nmOk_sOk ty.name
    by_cases c1 : x.2.counts = true
    · by_cases c2 : x.2.name = n
      · simp [dcTurn, asgV, wipeD, g4, g1, g0, sn, s1, inT, c1, c2]
      · simp [dcTurn, asgV, wipeD, g4, g1, g0, sn, s1, inT, c1, c2]
    · have c1 : x.2.counts = false := by simpa using c1
      simp [dcTurn, asgV, wipeD, g4, g1, g0, sn, s1, inT, c1]
  have e3 : ∀ f : Phi, evI T f (.e (.fld 17 2 (.v 0))) [some (.ref A.p), some (.str n), none] st = .ok ⟨(A.is_.zip S.tries).map fun x => .ref x.1, fun s => stays s (.ref A.r) (A.is_.map .ref)⟩ st := by
    intro f
    simp [a.f2, hs.c17, a.wk]
  have e4 := fun f => dc_ok (e3 f) (e1 f) (by rw [List.length_map, lim_eq]; omega)
  have e5 : (selT A S (inT n)).map (fun x => ((Sum.inr x.2.who : L2.Key), D.bl true)) = ((S.tries.filter (inT n)).map (·.who)).map fun w => ((Sum.inr w : L2.Key), D.bl true) := by
    rw [← sel_who (A := A) a.hl, List.map_map, List.map_map]
    rfl
  have e6 : putAllK ((selT A S (inT n)).map (fun x => ((Sum.inr x.2.who : L2.Key), D.bl true))) [] = (putU ((S.tries.filter (inT n)).map (·.who)) []).map .inr := by
    rw [e5]
    exact putK_u (g := fun _ => .bl true) (acc := [])
  rw [e6] at e4
  have e7 : ((putU ((S.tries.filter (inT n)).map (·.who)) [])).length < 64 := by
    have z1 : (putU ((S.tries.filter (inT n)).map (·.who)) []).length = (sortStr (dedS ((S.tries.filter (inT n)).map (·.who)))).length := by rw [← sort_u, sort_perm.length_eq]
    have z2 := sort_len (l := (S.tries.filter (inT n)).map (·.who))
    have z3 : (S.tries.filter (inT n)).length ≤ S.tries.length := List.length_filter_le ..
    have := ok.few
    rw [List.length_map] at z2
    omega
  have e8 : ∀ (ds : List D), bfV .sortK st [.dic ((putU ((S.tries.filter (inT n)).map (·.who)) []).map .inr) ds] = some (.lst ((learnL S n).map .str)) := by
    intro ds
    unfold bfV
    simp only [ditems, Option.bind_some, keysS_map]
    rw [if_pos e7, sort_u]
    rfl
  rw [callD_of hs.f82 rfl]
  simp [f_School_learners, startD, e4, e8]
end
end TS
end

section
set_option Elab.async false
set_option linter.all false
set_option maxRecDepth 100000
set_option maxHeartbeats 4000000
set_option autoImplicit false
namespace TS
open PySem
theorem intsD_all : ∀ {l : List Int}, intsD (l.map .int) = some l
  | [] => rfl
  | x :: l => by
    have ih := intsD_all (l := l)
    rw [List.map_cons, intsD, ih]
    rfl
theorem zipD_map {α : Type} {f g : α → D} : ∀ {l : List α}, zipD (l.map f) (l.map g) = l.map fun x => .tup [f x, g x]
  | [] => rfl
  | x :: l => by
    rw [List.map_cons, List.map_cons, zipD, zipD_map]; rfl
def mx (i j : Int) : Int := if j > i then j else i
def worthL (P : List Rw) (t : Tsk) : Int := ((t.trials.filter fun r => decide (wordL P t.limit r = "good")).map (·.worth)).sum
def tryL (x : TryR) (t : Tsk) (l : Int) : Int := mx 0 (worthL x.prog t - t.late * mx 0 (x.on - l))
section
variable {T : Tab} (h : PR T) (ht : PT T) (hs : PS T) {st : Store} {A : At} {S : Sch}
include h ht hs
theorem try_marks_ok {k : Nat} (hk : 35 ≤ k) (a : SchAt st A S) (ok : SchOk S) {i : Nat} {x : TryR} (hx : (i, x) ∈ A.is_.zip S.tries) {t : Tsk} {l : Int} (hn : S.tasks.lookup x.name = some (t, l)) (tk : TskOk t) :
    callD T k 83 [.ref A.p, .ref i] st = .ok (.int (tryL x t l)) st := by
  obtain ⟨k, rfl⟩ : ∃ k', k = k' + 35 := ⟨k - 35, by omega⟩
  obtain ⟨g0, g1, g2, g3, g4⟩ := try_f (a.zip hx)
  have ty := zip_try ok hx
  have e1 := words_of_ok h ht ty.prog tk (k := k + 34) (by omega) (st := st)
  have e2 : ∀ (f : Phi) (W : D), lcR T f (.ix (.v 6) (.c (.int 2))) (.t [6, 7]) (.cons (.cmp .eq (.v 7) (.c (.str "good"))) .nil) [6, 7] [some (.ref A.p), some (.ref i), some (encK t), some (.int l), some W, none, none, none] (fun _ => true) (t.trials.map fun r => .tup [encT r, .str (wordL x.prog t.limit r)]) st =
      .ok (((t.trials.filter fun r => decide (wordL x.prog t.limit r = "good")).map (·.worth)).map .int) st := by
    intro f W
    have e : (((t.trials.filter fun r => decide (wordL x.prog t.limit r = "good")).map (·.worth)).map D.int) = t.trials.filterMap fun r => if wordL x.prog t.limit r = "good" then some (.int r.worth) else none := by
      induction t.trials with
      | nil => rfl
      | cons r rs ih =>
        by_cases c : wordL x.prog t.limit r = "good"
        · simp [c] at ih ⊢; exact ih
        · simp [c] at ih ⊢; exact ih
    rw [e]
    refine lcR_filtf rfl fun r hr => ?_
    have so : sOk "good" = true := by decide
    have sw : sOk (wordL x.prog t.limit r) = true := by
      unfold wordL
      split
      · decide
      · decide
      · split <;> decide
      · split <;> decide
    by_cases c : wordL x.prog t.limit r = "good"
    · simp [lcT_eq, asgV, wipeD, so, sw, c, encT, L2.atI, L2.ixN]
    · simp [lcT_eq, asgV, wipeD, so, sw, c]
  have e3 : zipD (t.trials.map encT) ((wordsL x.prog t).map .str) = t.trials.map fun r => .tup [encT r, .str (wordL x.prog t.limit r)] := by
    unfold wordsL
    rw [List.map_map]
    exact zipD_map
  have z : ((t.trials.filter fun r => decide (wordL x.prog t.limit r = "good")).map (·.worth)).length ≤ LIM := by
    rw [List.length_map, lim_eq]
    have z1 : (t.trials.filter fun r => decide (wordL x.prog t.limit r = "good")).length ≤ t.trials.length := List.length_filter_le ..
    have := tk.l1
    omega
  have b : inB64 t.late = true := by
    have := tk.a0
    have := tk.a1
    simp [inB64]; omega
  have k0 : encK t = .tup [.tup (t.trials.map encT), .int t.limit, .int t.late, .int t.most, .str (ruleS t.best)] := rfl
  have et : taskD (t, l) = .tup [encK t, .int l] := rfl
  have i0 : ixV st (encK t) (.int 0) = some (.tup (t.trials.map encT)) := rfl
  have i2 : ixV st (encK t) (.int 2) = some (.int t.late) := rfl
  rw [callD_of hs.f83 rfl]
  have e5 := fun (l : List Int) => intsD_all (l := l)
  generalize encK t = kk at *
  generalize (wordsL x.prog t).map D.str = ww at *
  generalize encP x.prog = pp at *
  unfold tryL worthL
  generalize ((t.trials.filter fun r => decide (wordL x.prog t.limit r = "good")).map (·.worth)) = ws at *
  generalize (t.trials.map fun r => D.tup [encT r, .str (wordL x.prog t.limit r)]) = zs at *
  generalize t.trials.map encT = ts at *
  simp [f_School_try_marks, startD, a.f1, hs.c17, g1, a.tix, hn, et, asgV, g2, e1, i0, e3, e2, z, e5, i2, g3, bfV, binV, b, mx, litems]
end
end TS
end

section
set_option Elab.async false
set_option linter.all false
set_option maxRecDepth 100000
set_option maxHeartbeats 4000000
set_option autoImplicit false
namespace TS
open PySem
theorem at_last {α : Type} {xs : List α} : L2.atI xs (-1) = xs.getLast? := by
  cases xs with
  | nil => rfl
  | cons x r =>
    have e : L2.ixN (x :: r).length (-1) = some r.length := by
      unfold L2.ixN
      simp
      omega
    unfold L2.atI
    rw [e]
    simp [List.getLast?_eq_getElem?]
theorem eqv_nilI {ms : List Int} {st : Store} : eqv? st (.lst (ms.map .int)) (.lst []) = some (decide (ms = [])) := by
  rw [eqv_pl (by simp [pl, pls_ints]) (by simp [pl, pls]) (by simp [dp, dps_ints]) (by simp [dp, dps])]
  have := eqDs_ints (a := ms) (b := [])
  simp only [List.map_nil] at this
  simp [eqD, this]
def cntL (S : Sch) (w n : Str) (t : Tsk) (l : Int) : List Int := ((S.tries.filter (forT n w)).take t.most.toNat).map fun x => tryL x t l
def markL (S : Sch) (w n : Str) : Option Int := match S.tasks.lookup n with
  | none => none
  | some (t, l) => if cntL S w n t l = [] then none else if t.best = true then listMax (cntL S w n t l) else (cntL S w n t l).getLast?
section
variable {T : Tab} (h : PR T) (ht : PT T) (hs : PS T) {st : Store} {A : At} {S : Sch}
include h ht hs
omit h ht hs in
theorem task_at (ok : SchOk S) {n : Str} {t : Tsk} {l : Int} (hn : S.tasks.lookup n = some (t, l)) : TskOk t ∧ 0 ≤ l ∧ l ≤ 999 := by
  have : ∀ (ts : List (Str × (Tsk × Int))), ts.lookup n = some (t, l) → ∃ m, (m, (t, l)) ∈ ts := by
    intro ts
    induction ts with
    | nil => intro e; cases e
    | cons y ts ih =>
      obtain ⟨m, v⟩ := y
      intro e
      rw [List.lookup_cons] at e
      cases c : n == m with
      | true => rw [c] at e; cases e; exact ⟨m, List.mem_cons_self⟩
      | false =>
        rw [c] at e
        obtain ⟨m, hm⟩ := ih e
        exact ⟨m, List.mem_cons_of_mem _ hm⟩
  obtain ⟨m, hm⟩ := this _ hn
  have z := ok.tn _ hm
  exact ⟨z.2.1, z.2.2.1, z.2.2.2⟩
theorem mark_of_ok {k : Nat} (hk : 37 ≤ k) (a : SchAt st A S) (ok : SchOk S) {w n : Str} (nn : nmOk n = true) (nw : nmOk w = true) :
    callD T k 84 [.ref A.p, .str w, .str n] st = .ok (optD (markL S w n)) st := by
  obtain ⟨k, rfl⟩ : ∃ k', k = k' + 37 := ⟨k - 37, by omega⟩
  rw [callD_of hs.f84 rfl]
  cases hn : S.tasks.lookup n with
  | none => simp [f_School_mark_of, startD, a.f1, hs.c17, a.tin, hn, markL, optD]
  | some v =>
    obtain ⟨t, l⟩ := v
    obtain ⟨tk, l0, l1⟩ := task_at ok hn
    have e1 := counting_ok hs (k := k + 35) a ok hn nn nw (by have := tk.k0; omega)
    have e2 : lcR T (callD T (k + 36)) (.mth 17 83 (.v 0) (.cons (.v 4) .nil)) (.n 4) .nil [4] [some (.ref A.p), some (.str w), some (.str n), none, none] (fun _ => true) (((selT A S (forT n w)).take t.most.toNat).map fun x => .ref x.1) st =
        .ok ((cntL S w n t l).map .int) st := by
      have e : (cntL S w n t l).map D.int = ((selT A S (forT n w)).take t.most.toNat).map fun x => D.int (tryL x.2 t l) := by
        unfold cntL
        rw [← sel_who (A := A) a.hl, ← List.map_take, List.map_map, List.map_map]
        rfl
      rw [e]
      refine lcR_mapf rfl fun x hx => ?_
      have hx2 := List.mem_of_mem_take hx
      obtain ⟨m1, m2⟩ := sel_mem hx2
      have en : x.2.name = n := by
        unfold forT at m2
        simp at m2
        exact m2.2.1
      have e3 := try_marks_ok h ht hs (k := k + 36) (by omega) a ok (i := x.1) (x := x.2) m1 (t := t) (l := l) (by rw [en]; exact hn) tk
      simp [lcT_eq, asgV, wipeD, a.hp, e3]
    have z : (cntL S w n t l).length ≤ LIM := by
      unfold cntL
      rw [List.length_map, lim_eq]
      have z1 : ((S.tries.filter (forT n w)).take t.most.toNat).length ≤ (S.tries.filter (forT n w)).length := by rw [List.length_take]; exact Nat.min_le_right _ _
      have z2 : (S.tries.filter (forT n w)).length ≤ S.tries.length := List.length_filter_le ..
      have := ok.few
      omega
    have et : taskD (t, l) = .tup [encK t, .int l] := rfl
    have i4 : ixV st (encK t) (.int 4) = some (.str (ruleS t.best)) := rfl
    have em : markL S w n = if cntL S w n t l = [] then none else if t.best = true then listMax (cntL S w n t l) else (cntL S w n t l).getLast? := by
      unfold markL; rw [hn]
    rw [em]
    have e5 := fun (l : List Int) => intsD_all (l := l)
    generalize cntL S w n t l = ms at *
    generalize encK t = kk at *
    generalize (((selT A S (forT n w)).take t.most.toNat).map fun x => D.ref x.1) = rs at *
    have sb : sOk "best" = true := by decide
    have sl : sOk "last" = true := by decide
    have nb : ¬ (("last" : Str) = "best") := by decide
    have al : ∀ xs : List Int, L2.atI (xs.map D.int) (-1) = xs.getLast?.map D.int := fun xs => by rw [at_last, List.getLast?_map]
    have en : eqv? st (.lst []) (.lst []) = some true := by
      have := eqv_nilI (ms := []) (st := st)
      simpa using this
    have a0 : L2.atI [kk, D.int l] 0 = some kk := rfl
    by_cases c : ms = []
    · simp [f_School_mark_of, startD, a.f1, hs.c17, a.tin, hn, a.hp, e1, wkOf, items, e2, z, en, c, optD]
    · cases tb : t.best with
      | true =>
        rw [tb] at i4
        obtain ⟨m, hm⟩ : ∃ m, listMax ms = some m := by
          cases ms with
          | nil => exact absurd rfl c
          | cons x r => exact ⟨_, rfl⟩
        simp [f_School_mark_of, startD, a.f1, hs.c17, a.tin, hn, a.hp, e1, wkOf, items, e2, z, eqv_nilI, c, a.tix, et, L2.atI, L2.ixN, i4, ruleS, sb, bfV, litems, e5, hm, optD]
      | false =>
        rw [tb] at i4
        obtain ⟨m, hm⟩ : ∃ m, ms.getLast? = some m := by
          cases q : ms.getLast? with
          | some m => exact ⟨m, rfl⟩
          | none => exact absurd (List.getLast?_eq_none_iff.mp q) c
        simp [f_School_mark_of, startD, a.f1, hs.c17, a.tin, hn, a.hp, e1, wkOf, items, e2, z, eqv_nilI, c, a.tix, et, a0, i4, ruleS, sb, sl, nb, al, hm, optD]
end
end TS
end

section
set_option Elab.async false
set_option linter.all false
set_option maxRecDepth 100000
set_option maxHeartbeats 4000000
set_option autoImplicit false
namespace TS
open PySem
theorem putAll_new : ∀ {ps : List (L2.Key × D)} {ks : List L2.Key} {ds : List D}, (ks ++ ps.map (·.1)).Nodup → putAllK ps ks = ks ++ ps.map (·.1) ∧ putAllD ps ks ds = ds ++ ps.map (·.2)
  | [], ks, ds, _ => by simp [putAllK, putAllD]
  | p :: ps, ks, ds, nd => by
    obtain ⟨q, x⟩ := p
    have nq : q ∉ ks := fun z => by
      rw [List.nodup_append] at nd
      exact nd.2.2 q z q (by simp) rfl
    have na : ¬ (ks.any fun k => decide (k = q)) = true := fun z => by
      obtain ⟨y, hy, e⟩ := List.any_eq_true.mp z
      rw [of_decide_eq_true e] at hy
      exact nq hy
    have e1 : dputK ks q = ks ++ [q] := by unfold dputK; rw [if_neg na]
    have e2 : dputD ks ds q x = ds ++ [x] := by unfold dputD; rw [if_neg na]
    have ih := putAll_new (ps := ps) (ks := ks ++ [q]) (ds := ds ++ [x]) (by rw [List.append_assoc]; exact nd)
    rw [putAllK, putAllD]
    show putAllK ps (dputK ks q) = _ ∧ putAllD ps (dputK ks q) (dputD ks ds q x) = _
    rw [e1, e2, ih.1, ih.2]
    simp
theorem learn_nodup {S : Sch} {n : Str} : (learnL S n).Nodup := sort_perm.nodup_iff.mpr ded_nodup
theorem learn_mem {S : Sch} {n w : Str} : w ∈ learnL S n ↔ ∃ x ∈ S.tries, inT n x = true ∧ x.who = w := by
  unfold learnL
  rw [sort_perm.mem_iff, ded_mem, List.mem_map]
  constructor
  · rintro ⟨x, hx, e⟩
    exact ⟨x, (List.mem_filter.mp hx).1, (List.mem_filter.mp hx).2, e⟩
  · rintro ⟨x, h1, h2, e⟩
    exact ⟨x, List.mem_filter.mpr ⟨h1, h2⟩, e⟩
theorem learn_nm {S : Sch} (ok : SchOk S) {n w : Str} (hw : w ∈ learnL S n) : nmOk w = true := by
  obtain ⟨x, h1, _, rfl⟩ := learn_mem.mp hw
  exact (ok.tr x h1).who
theorem learn_few {S : Sch} (ok : SchOk S) {n : Str} : (learnL S n).length ≤ 60 := by
  have z2 := sort_len (l := (S.tries.filter (inT n)).map (·.who))
  have z3 : (S.tries.filter (inT n)).length ≤ S.tries.length := List.length_filter_le ..
  have := ok.few
  rw [List.length_map] at z2
  unfold learnL
  omega
def marksD (S : Sch) (n : Str) : D := .dic ((learnL S n).map .inr) ((learnL S n).map fun w => optD (markL S w n))
section
variable {T : Tab} (h : PR T) (ht : PT T) (hs : PS T) {st : Store} {A : At} {S : Sch}
include h ht hs
theorem all_marks_ok {k : Nat} (hk : 38 ≤ k) (a : SchAt st A S) (ok : SchOk S) {n : Str} (nn : nmOk n = true) : callD T k 85 [.ref A.p, .str n] st = .ok (marksD S n) st := by
  obtain ⟨k, rfl⟩ : ∃ k', k = k' + 38 := ⟨k - 38, by omega⟩
  have e1 := learners_ok hs (k := k + 36) a ok nn
  have e2 : lcLoop (fun _ => true) (dcTurn T (callD T (k + 37)) (.v 2) (.mth 17 84 (.v 0) (.cons (.v 2) (.cons (.v 1) .nil))) (.n 2) .nil [2] [some (.ref A.p), some (.str n), none]) ((learnL S n).map .str) st =
      .ok (((learnL S n).map fun w => ((Sum.inr w : L2.Key), optD (markL S w n))).map fun p => .tup [kD p.1, p.2]) st := by
    have e : (((learnL S n).map fun w => ((Sum.inr w : L2.Key), optD (markL S w n))).map fun p => D.tup [kD p.1, p.2]) = (learnL S n).filterMap fun w => some (.tup [.str w, optD (markL S w n)]) := by
      rw [List.map_map]
      induction learnL S n with
      | nil => rfl
      | cons w l ih => simp [kD] at ih ⊢
    rw [e]
    refine loop_filtf rfl fun w hw => ?_
    have e3 := mark_of_ok h ht hs (k := k + 37) (by omega) a ok nn (learn_nm ok hw)
    simp [dcTurn, asgV, wipeD, a.hp, e3]
  have e3 : evI T (callD T (k + 37)) (.e (.mth 17 82 (.v 0) (.cons (.v 1) .nil))) [some (.ref A.p), some (.str n), none] st = .ok ⟨(learnL S n).map .str, fun _ => true⟩ st := by
    simp [a.hp, e1, wkOf, items]
  have e4 := dc_ok e3 e2 (by rw [List.length_map, lim_eq]; have := learn_few ok (n := n); omega)
  have nd : (([] : List L2.Key) ++ (((learnL S n).map fun w => ((Sum.inr w : L2.Key), optD (markL S w n))).map (·.1))).Nodup := by
    rw [List.nil_append, List.map_map]
    have := learn_nodup (S := S) (n := n)
    refine List.Pairwise.map _ (fun x y q z => q ?_) this
    injection z
  obtain ⟨p1, p2⟩ := putAll_new (ds := []) nd
  rw [p1, p2] at e4
  have e5 : D.dic ([] ++ ((learnL S n).map fun w => ((Sum.inr w : L2.Key), optD (markL S w n))).map (·.1)) ([] ++ ((learnL S n).map fun w => ((Sum.inr w : L2.Key), optD (markL S w n))).map (·.2)) = marksD S n := by
    unfold marksD
    rw [List.nil_append, List.nil_append, List.map_map, List.map_map]
    rfl
  rw [e5] at e4
  rw [callD_of hs.f85 rfl]
  simp [f_School_all_marks, startD, e4]
theorem mark_ok {k : Nat} (hk : 39 ≤ k) (a : SchAt st A S) (ok : SchOk S) {w n : Str} (nn : nmOk n = true) (nw : nmOk w = true) (hn : (S.tasks.lookup n).isSome = true) : callD T k 92 [.ref A.p, .str w, .str n] st = .ok (optD (markL S w n)) st := by
  obtain ⟨k, rfl⟩ : ∃ k', k = k' + 39 := ⟨k - 39, by omega⟩
  have e1 := need_name_ok h hs (k := k + 36) (st := st) nw
  have e2 := need_tn_ok hs (k := k + 37) a hn
  have e3 := mark_of_ok h ht hs (k := k + 38) (by omega) a ok nn nw
  rw [callD_of hs.f92 rfl]
  simp [f_School_mark, startD, e1, a.hp, e2, e3]
theorem marks_ok {k : Nat} (hk : 39 ≤ k) (a : SchAt st A S) (ok : SchOk S) {n : Str} (nn : nmOk n = true) (hn : (S.tasks.lookup n).isSome = true) : callD T k 93 [.ref A.p, .str n] st = .ok (.lst ((learnL S n).map fun w => .tup [.str w, optD (markL S w n)])) st := by
  obtain ⟨k, rfl⟩ : ∃ k', k = k' + 39 := ⟨k - 39, by omega⟩
  have e1 := learners_ok hs (k := k + 37) a ok nn
  have e2 := need_tn_ok hs (k := k + 37) a hn
  have e3 : lcR T (callD T (k + 38)) (.tup (.cons (.v 2) (.cons (.mth 17 84 (.v 0) (.cons (.v 2) (.cons (.v 1) .nil))) .nil))) (.n 2) .nil [2] [some (.ref A.p), some (.str n), none] (fun _ => true) ((learnL S n).map .str) st = .ok ((learnL S n).map fun w => .tup [.str w, optD (markL S w n)]) st := by
    refine lcR_mapf rfl fun w hw => ?_
    have e4 := mark_of_ok h ht hs (k := k + 38) (by omega) a ok nn (learn_nm ok hw)
    simp [lcT_eq, asgV, wipeD, a.hp, e4]
  have z : (learnL S n).length ≤ LIM := by rw [lim_eq]; have := learn_few ok (n := n); omega
  rw [callD_of hs.f93 rfl]
  simp [f_School_marks, startD, e1, a.hp, e2, wkOf, items, e3, z]
end
end TS
end

section
set_option Elab.async false
set_option linter.all false
set_option maxRecDepth 100000
set_option maxHeartbeats 4000000
set_option autoImplicit false
namespace TS
open PySem
def mkD (l : List Str) (g : Str → Option Int) : D := .dic (l.map .inr) (l.map fun w => optD (g w))
def lkM (l : List Str) (g : Str → Option Int) (w : Str) : Option Int := if w ∈ l then g w else none
theorem dget_mk {g : Str → D} {w : Str} : ∀ {l : List Str}, dget (l.map fun x => (Sum.inr x : L2.Key)) (l.map g) (.inr w) = if w ∈ l then some (g w) else none
  | [] => rfl
  | x :: l => by
    rw [List.map_cons, List.map_cons, dget]
    by_cases c : x = w
    · subst c; simp
    · have c3 : ¬ ((Sum.inr x : L2.Key) = .inr w) := fun z => c (by injection z)
      rw [if_neg c3, dget_mk]
      have c4 : ¬ w = x := fun z => c z.symm
      simp [c4]
theorem get_mkD {st : Store} {l : List Str} {g : Str → Option Int} {w : Str} : bmV .get2 st (mkD l g) [.str w, .non] = .ok (optD (lkM l g w)) st := by
  have e := dget_mk (g := fun w => optD (g w)) (w := w) (l := l)
  unfold mkD lkM
  simp only [bmV, ditems, keyOf]
  rw [e]
  by_cases c : w ∈ l
  · simp [c]
  · simp [c, optD]
theorem in_mkD {st : Store} {l : List Str} {g : Str → Option Int} {w : Str} : inV? st (.str w) (mkD l g) = some (decide (w ∈ l)) := by
  have e := dget_mk (g := fun w => optD (g w)) (w := w) (l := l)
  have e2 : inV? st (.str w) (mkD l g) = some (dget (l.map fun x => (Sum.inr x : L2.Key)) (l.map fun w => optD (g w)) (.inr w)).isSome := rfl
  rw [e2, e]
  by_cases c : w ∈ l <;> simp [c]
theorem eqv_opt {st : Store} {a b : Option Int} : eqv? st (optD a) (optD b) = some (decide (a = b)) := by
  rw [eqv_pl pl_opt pl_opt (by rw [dp_opt]; omega) (by rw [dp_opt]; omega), eqD_opt]
def chgD (o n : Str → Option Int) (w : Str) : Option D := if o w = n w then none else some (.tup [.str w, optD (o w), optD (n w)])
def chgL (l1 l2 : List Str) (g1 g2 : Str → Option Int) : List D := (sortStr (l1 ++ l2.filter fun w => decide (w ∉ l1))).filterMap (chgD (lkM l1 g1) (lkM l2 g2))
section
variable {T : Tab} (h : PR T) (ht : PT T) (hs : PS T) {st : Store} {A : At} {S : Sch}
theorem chg_loop {f : Phi} {l1 l2 : List Str} {g1 g2 : Str → Option Int} {y0 y1 : Option D} : ∀ (ws : List Str) (acc : List D) {x5 x6 x7 x8 : Option D}, acc.length + ws.length ≤ 1000 →
    ∃ z5 z7 z8, forR T f (.n 5) (forB f_School_changes.body) (fun _ => true) (ws.map .str) [y0, y1, some (mkD l1 g1), some (mkD l2 g2), some (.ref st.length), x5, x6, x7, x8] (st ++ [.lst acc]) =
      .next [y0, y1, some (mkD l1 g1), some (mkD l2 g2), some (.ref st.length), z5, x6, z7, z8] (st ++ [.lst (acc ++ ws.filterMap (chgD (lkM l1 g1) (lkM l2 g2)))])
  | [], acc, x5, x6, x7, x8, _ => ⟨x5, x7, x8, by simp⟩
  | w :: ws, acc, x5, x6, x7, x8, hl => by
    rw [List.length_cons] at hl
    have gb : ∀ (s : Store) (l : List Str) (g : Str → Option Int), bmV .get2 s (mkD l g) [.str w, .non] = .ok (optD (lkM l g w)) s := fun s l g => get_mkD
    have eo : ∀ s, eqv? s (optD (lkM l1 g1 w)) (optD (lkM l2 g2 w)) = some (decide (lkM l1 g1 w = lkM l2 g2 w)) := fun s => eqv_opt
    have bt : ∀ (s : Store) (l : List Str) (g : Str → Option Int), bmTy .get2 s (mkD l g) = true := fun _ _ _ => rfl
    have lz : acc.length < LIM := by rw [lim_eq]; omega
    by_cases c : lkM l1 g1 w = lkM l2 g2 w
    · obtain ⟨z5, z7, z8, e⟩ := chg_loop (f := f) ws acc (y0 := y0) (y1 := y1) (x5 := some (.str w)) (x6 := x6) (x7 := some (optD (lkM l1 g1 w))) (x8 := some (optD (lkM l2 g2 w))) (by omega)
      refine ⟨z5, z7, z8, ?_⟩
      have ec : chgD (lkM l1 g1) (lkM l2 g2) w = none := by unfold chgD; rw [if_pos c]
      rw [List.filterMap_cons_none ec, ← e]
      have es : ∀ s, eqv? s (optD (lkM l2 g2 w)) (optD (lkM l2 g2 w)) = some true := fun s => by rw [eqv_opt]; simp
      simp [f_School_changes, forB, bt, gb, es, c]
    · obtain ⟨z5, z7, z8, e⟩ := chg_loop (f := f) ws (acc ++ [.tup [.str w, optD (lkM l1 g1 w), optD (lkM l2 g2 w)]]) (y0 := y0) (y1 := y1) (x5 := some (.str w)) (x6 := x6) (x7 := some (optD (lkM l1 g1 w))) (x8 := some (optD (lkM l2 g2 w))) (by rw [List.length_append, List.length_singleton]; omega)
      refine ⟨z5, z7, z8, ?_⟩
      have ec : chgD (lkM l1 g1) (lkM l2 g2) w = some (.tup [.str w, optD (lkM l1 g1 w), optD (lkM l2 g2 w)]) := by unfold chgD; rw [if_neg c]
      rw [List.append_assoc, List.singleton_append, ← List.filterMap_cons_some ec] at e
      rw [← e]
      have ab : bmV .append (st ++ [.lst acc]) (.ref st.length) [.tup [.str w, optD (lkM l1 g1 w), optD (lkM l2 g2 w)]] = .ok .non (st ++ [.lst (acc ++ [.tup [.str w, optD (lkM l1 g1 w), optD (lkM l2 g2 w)]])]) := by simp [bmV, lz]
      have bt2 : bmTy .append (st ++ [.lst acc]) (.ref st.length) = true := by simp [bmTy, litems]
      simp [f_School_changes, forB, bt, bt2, gb, eo, c, ab]
theorem strsD_map : ∀ {l : List Str}, strsD (l.map .str) = some l
  | [] => rfl
  | w :: l => by
    have ih := strsD_map (l := l)
    rw [List.map_cons, strsD]
    simp [ih]
include h ht hs
theorem changes_ok {k : Nat} (hk : 39 ≤ k) (a : SchAt st A S) (ok : SchOk S) {n : Str} (nn : nmOk n = true) {l1 : List Str} {g1 : Str → Option Int} (few : (l1 ++ (learnL S n).filter fun w => decide (w ∉ l1)).length < 64) :
    callD T k 86 [.ref A.p, .str n, mkD l1 g1] st = .ok (.lst (chgL l1 (learnL S n) g1 fun w => markL S w n)) st := by
  obtain ⟨k, rfl⟩ : ∃ k', k = k' + 39 := ⟨k - 39, by omega⟩
  have e1 := all_marks_ok h ht hs (k := k + 38) (by omega) a ok nn
  have em : marksD S n = mkD (learnL S n) fun w => markL S w n := rfl
  rw [em] at e1
  have len0 := List.length_append (as := l1) (bs := (learnL S n).filter fun w => decide (w ∉ l1))
  obtain ⟨z5, z7, z8, e2⟩ := chg_loop (T := T) (st := st) (f := callD T (k + 38)) (l1 := l1) (l2 := learnL S n) (g1 := g1) (g2 := fun w => markL S w n) (y0 := some (.ref A.p)) (y1 := some (.str n)) (x5 := none) (x6 := none) (x7 := none) (x8 := none) (sortStr (l1 ++ (learnL S n).filter fun w => decide (w ∉ l1))) [] (by rw [sort_perm.length_eq]; simp only [List.length_nil]; omega)
  have e3 : ∀ (s : Store), lcR T (callD T (k + 38)) (.v 6) (.n 6) (.cons (.cmp .notIn (.v 6) (.v 2)) .nil) [6] [some (.ref A.p), some (.str n), some (mkD l1 g1), some (mkD (learnL S n) fun w => markL S w n), some (.ref st.length), none, none, none, none] (fun _ => true) ((learnL S n).map .str) s =
      .ok (((learnL S n).filter fun w => decide (w ∉ l1)).map .str) s := by
    intro s
    have e : (((learnL S n).filter fun w => decide (w ∉ l1)).map D.str) = (learnL S n).filterMap fun w => if w ∉ l1 then some (.str w) else none := by
      induction learnL S n with
      | nil => rfl
      | cons w l ih =>
        by_cases c : w ∈ l1
        · simp [c] at ih ⊢; exact ih
        · simp [c] at ih ⊢; exact ih
    rw [e]
    refine lcR_filtf rfl fun w hw => ?_
    have ei : ∀ s, inV? s (.str w) (mkD l1 g1) = some (decide (w ∈ l1)) := fun s => in_mkD
    by_cases c : w ∈ l1
    · simp [lcT_eq, asgV, wipeD, ei, c]
    · simp [lcT_eq, asgV, wipeD, ei, c]
  have e4 : ∀ (s : Store), bfV .listK s [mkD l1 g1] = some (.lst (l1.map .str)) := by
    intro s
    unfold bfV mkD
    simp only [ditems, Option.map_some]
    rw [List.map_map]
    rfl
  have e5 : ∀ (s : Store), wkOf s (mkD (learnL S n) fun w => markL S w n) = some ⟨(learnL S n).map .str, fun _ => true⟩ := by
    intro s
    unfold mkD wkOf
    simp only
    rw [List.map_map]
    rfl
  have z1 : (l1.map D.str).length + ((((learnL S n).filter fun w => decide (w ∉ l1))).map D.str).length ≤ LIM := by rw [List.length_map, List.length_map, lim_eq]; omega
  have z2 : (((learnL S n).filter fun w => decide (w ∉ l1))).length ≤ LIM := by rw [lim_eq]; omega
  have e6 : ∀ (s : Store), bfV .sortS s [.lst (l1.map .str ++ ((learnL S n).filter fun w => decide (w ∉ l1)).map .str)] = some (.lst ((sortStr (l1 ++ (learnL S n).filter fun w => decide (w ∉ l1))).map .str)) := by
    intro s
    unfold bfV
    simp only [litems, Option.bind_some]
    rw [← List.map_append, strsD_map]
    simp only [Option.bind_some]
    rw [if_pos few]
  unfold chgL
  rw [List.nil_append] at e2
  have nr : noRefs ((sortStr (l1 ++ (learnL S n).filter fun w => decide (w ∉ l1))).filterMap (chgD (lkM l1 g1) (lkM (learnL S n) fun w => markL S w n))) = true := by
    induction sortStr (l1 ++ (learnL S n).filter fun w => decide (w ∉ l1)) with
    | nil => rfl
    | cons w l ih =>
      have no : ∀ o : Option Int, noRef (optD o) = true := fun o => by cases o <;> rfl
      by_cases c : lkM l1 g1 w = lkM (learnL S n) (fun w => markL S w n) w
      · rw [List.filterMap_cons_none (by unfold chgD; rw [if_pos c])]; exact ih
      · rw [List.filterMap_cons_some (by unfold chgD; rw [if_neg c])]; simp [no, ih]
  simp only [f_School_changes, forB] at e2
  generalize (sortStr (l1 ++ (learnL S n).filter fun w => decide (w ∉ l1))).filterMap (chgD (lkM l1 g1) (lkM (learnL S n) fun w => markL S w n)) = R at *
  generalize sortStr (l1 ++ (learnL S n).filter fun w => decide (w ∉ l1)) = ws at *
  generalize ((learnL S n).filter fun w => decide (w ∉ l1)) = ls at *
  generalize (mkD (learnL S n) fun w => markL S w n) = now at *
  generalize mkD l1 g1 = bef at *
  have z3 : l1.length + ls.length ≤ LIM := by simpa using z1
  have ew : ∀ (s : Store) (xs : List D), wkOf s (.lst xs) = some ⟨xs, fun _ => true⟩ := fun _ _ => rfl
  have eb : ∀ (s : Store), binV .add s (.lst (l1.map .str)) (.lst (ls.map .str)) = some (.lst (l1.map .str ++ ls.map .str)) := fun s => by
    simp [binV, litems, z3]
  rw [callD_of hs.f86 rfl]
  simp [f_School_changes, startD, a.hp, e1, e4, e5, e3, z2, eb, e6, shV, ew, e2, fzV, nr]
end
end TS
end

section
set_option Elab.async false
set_option linter.all false
set_option maxRecDepth 100000
set_option maxHeartbeats 4000000
set_option autoImplicit false
namespace TS
open PySem
section
variable {T : Tab} (h : PR T) (ht : PT T) (hs : PS T) {st : Store} {A : At} {S : Sch}
def At.all (A : At) : List Nat := A.p :: A.t :: A.r :: A.b :: A.is_
theorem SchAt.lt (a : SchAt st A S) : ∀ n ∈ A.all, n < st.length := by
  intro n hn
  have g : ∀ {n : Nat} {o : SO}, st[n]? = some o → n < st.length := fun e => (List.getElem?_eq_some_iff.mp e).1
  unfold At.all at hn
  rcases List.mem_cons.mp hn with rfl | hn
  · exact g a.hp
  rcases List.mem_cons.mp hn with rfl | hn
  · exact g a.ht
  rcases List.mem_cons.mp hn with rfl | hn
  · exact g a.hr
  rcases List.mem_cons.mp hn with rfl | hn
  · exact g a.hb
  · obtain ⟨j, hj⟩ := List.mem_iff_getElem?.mp hn
    have hl : j < S.tries.length := by rw [← a.hl]; exact (List.getElem?_eq_some_iff.mp hj).1
    exact g (a.hi j n _ hj (List.getElem?_eq_getElem hl))
theorem SchAt.keep {st' : Store} (a : SchAt st A S) (k : ∀ n ∈ A.all, st'[n]? = st[n]?) : SchAt st' A S := by
  have m1 : A.p ∈ A.all := by simp [At.all]
  have m2 : A.t ∈ A.all := by simp [At.all]
  have m3 : A.r ∈ A.all := by simp [At.all]
  have m4 : A.b ∈ A.all := by simp [At.all]
  refine ⟨by rw [k _ m1]; exact a.hp, by rw [k _ m2]; exact a.ht, by rw [k _ m3]; exact a.hr, by rw [k _ m4]; exact a.hb, a.hl, fun j i x e1 e2 => ?_, a.nd, a.rb⟩
  have m5 : i ∈ A.all := by
    have := List.mem_of_getElem? e1
    simp [At.all, this]
  rw [k _ m5]
  exact a.hi j i x e1 e2
theorem SchAt.setDay {d : Int} (a : SchAt st A S) : SchAt (st.set A.p (.ins 17 [.int d, .ref A.t, .ref A.r, .ref A.b])) A { S with day := d } := by
  have lt := a.lt A.p (by simp [At.all])
  have ne : ∀ {n : Nat} {o : SO}, st[n]? = some o → (∀ ds, o ≠ .ins 17 ds) → A.p ≠ n := fun e q z => by
    rw [← z, a.hp] at e; cases e; exact q _ rfl
  refine ⟨by rw [List.getElem?_set_self lt], by rw [List.getElem?_set_ne (ne a.ht fun _ z => by cases z)]; exact a.ht, by rw [List.getElem?_set_ne (ne a.hr fun _ z => by cases z)]; exact a.hr, by rw [List.getElem?_set_ne (ne a.hb fun _ z => by cases z)]; exact a.hb, a.hl, fun j i x e1 e2 => ?_, a.nd, a.rb⟩
  have e3 := a.hi j i x e1 e2
  rw [List.getElem?_set_ne (ne e3 fun _ z => by unfold tryO at z; cases z)]
  exact e3
theorem SchAt.addBook {x : D} (a : SchAt st A S) : SchAt (st.set A.b (.lst (S.book ++ [x]))) A { S with book := S.book ++ [x] } := by
  have lt := a.lt A.b (by simp [At.all])
  have ne : ∀ {n : Nat} {o : SO}, st[n]? = some o → (∀ ds, o ≠ .lst ds) → A.b ≠ n := fun e q z => by
    rw [← z, a.hb] at e; cases e; exact q _ rfl
  refine ⟨by rw [List.getElem?_set_ne (ne a.hp fun _ z => by cases z)]; exact a.hp, by rw [List.getElem?_set_ne (ne a.ht fun _ z => by cases z)]; exact a.ht, by rw [List.getElem?_set_ne (Ne.symm a.rb)]; exact a.hr, by rw [List.getElem?_set_self lt], a.hl, fun j i x e1 e2 => ?_, a.nd, a.rb⟩
  have e3 := a.hi j i x e1 e2
  rw [List.getElem?_set_ne (ne e3 fun _ z => by unfold tryO at z; cases z)]
  exact e3
def turnS (S : Sch) (d : Int) : Sch := { S with day := d, book := S.book ++ [.tup [.str "turn", .int d]] }
include h hs
theorem turn_ok {k : Nat} (a : SchAt st A S) (ok : SchOk S) {d : Int} (h1 : S.day ≤ d) (h2 : d ≤ 999) :
    ∃ st', callD T (k + 2) 87 [.ref A.p, .int d] st = .ok .non st' ∧ SchAt st' A (turnS S d) ∧ st'.length = st.length ∧ ∀ n, n ∉ A.all → st'[n]? = st[n]? := by
  have e0 : callD T (k + 1) 0 [.int d, .int S.day, .int 999] st = .ok (.bl true) st := by
    rw [callD_of h.f0 rfl]
    simp [f_is_number, startD, h1, h2]
  have a1 := a.setDay (d := d)
  have a2 := a1.addBook (x := .tup [.str "turn", .int d])
  have lz : S.book.length < LIM := by rw [lim_eq]; have := ok.fewb; omega
  have s1 : setFV 4 17 0 st (.ref A.p) (.int d) = .ok () (st.set A.p (.ins 17 [.int d, .ref A.t, .ref A.r, .ref A.b])) := by
    simp [setFV, a.hp]
  have s2 : bmV .append (st.set A.p (.ins 17 [.int d, .ref A.t, .ref A.r, .ref A.b])) (.ref A.b) [.tup [.str "turn", .int d]] = .ok .non ((st.set A.p (.ins 17 [.int d, .ref A.t, .ref A.r, .ref A.b])).set A.b (.lst (S.book ++ [.tup [.str "turn", .int d]]))) := by
    have := a1.hb
    simp only at this
    simp [bmV, this, lz]
  have s3 : bmTy .append (st.set A.p (.ins 17 [.int d, .ref A.t, .ref A.r, .ref A.b])) (.ref A.b) = true := by
    have := a1.hb
    simp only at this
    simp [bmTy, litems, this]
  have f3 := a1.f3
  refine ⟨_, ?_, a2, by simp, fun n hn => ?_⟩
  · rw [callD_of hs.f87 rfl]
    simp [f_School_turn, startD, a.f0, hs.c17, hs.g25, e0, s1, f3, s2, s3]
  · have n1 : A.p ≠ n := fun z => hn (by simp [At.all, z])
    have n2 : A.b ≠ n := fun z => hn (by simp [At.all, z])
    rw [List.getElem?_set_ne n2, List.getElem?_set_ne n1]
theorem one_try_ok {k : Nat} (a : SchAt st A S) {j i : Nat} (hj : A.is_[j]? = some i) : callD T (k + 2) 80 [.ref A.p, .int (j : Int)] st = .ok (.ref i) st := by
  have lj : j < A.is_.length := (List.getElem?_eq_some_iff.mp hj).1
  have lt : j < S.tries.length := by rw [← a.hl]; exact lj
  have e0 := is_number_int h (T := T) (i := (j : Int)) (lo := 0) (hi := (S.tries.length : Int) - 1) (k := k) (st := st)
  have b0 : (0 : Int) ≤ (j : Int) := by omega
  have b1 : (j : Int) ≤ (S.tries.length : Int) - 1 := by omega
  simp only [b0, b1, decide_true, Bool.and_self] at e0
  have e1 : ixV st (.ref A.r) (.int (j : Int)) = some (.ref i) := by
    unfold ixV
    simp only [items, a.hr]
    rw [atI_nat (by rw [List.length_map]; exact lj)]
    have := (List.getElem?_eq_some_iff.mp hj).2
    simp [this]
  rw [callD_of hs.f80 rfl]
  simp [f_School_one, startD, a.f2, hs.c17, a.len, e0, e1]
end
end TS
end

section
set_option Elab.async false
set_option linter.all false
set_option maxRecDepth 100000
set_option maxHeartbeats 4000000
set_option autoImplicit false
namespace TS
open PySem
def putT (l : List (Str × (Tsk × Int))) (n : Str) (v : Tsk × Int) : List (Str × (Tsk × Int)) := if l.any (fun y => decide (y.1 = n)) then l.map (fun y => if y.1 = n then (y.1, v) else y) else l ++ [(n, v)]
theorem putT_any {l : List (Str × (Tsk × Int))} {n : Str} : ((l.map fun y => (Sum.inr y.1 : L2.Key)).any fun k => decide (k = Sum.inr n)) = l.any fun y => decide (y.1 = n) := by
  rw [List.any_map]; congr; funext y; simp
theorem putT_K {l : List (Str × (Tsk × Int))} {n : Str} {v : Tsk × Int} : dputK (l.map fun y => .inr y.1) (.inr n) = (putT l n v).map fun y => .inr y.1 := by
  unfold dputK putT
  rw [putT_any]
  by_cases h : (l.any fun y => decide (y.1 = n)) = true
  · rw [if_pos h, if_pos h, List.map_map]
    apply List.map_congr_left
    intro y _
    simp only [Function.comp]
    split <;> rfl
  · rw [if_neg h, if_neg h]; simp
theorem putT_D {l : List (Str × (Tsk × Int))} {n : Str} {v : Tsk × Int} : dputD (l.map fun y => .inr y.1) (l.map fun y => taskD y.2) (.inr n) (taskD v) = (putT l n v).map fun y => taskD y.2 := by
  unfold dputD putT
  rw [putT_any]
  by_cases h : (l.any fun y => decide (y.1 = n)) = true
  · rw [if_pos h, if_pos h, List.map_map, List.zip_map', List.map_map]
    apply List.map_congr_left
    intro y _
    simp only [Function.comp]
    by_cases q : y.1 = n
    · simp [q]
    · simp [q]
  · rw [if_neg h, if_neg h]; simp
theorem putT_lk {l : List (Str × (Tsk × Int))} {n m : Str} {v : Tsk × Int} : (putT l n v).lookup m = if m = n then some v else l.lookup m := by
  unfold putT
  by_cases h : (l.any fun y => decide (y.1 = n)) = true
  · rw [if_pos h]
    induction l with
    | nil => cases h
    | cons y l ih =>
      obtain ⟨a, b⟩ := y
      rw [List.map_cons]
      by_cases c : a = n
      · subst c
        simp only [if_true, List.lookup_cons]
        by_cases d : m = a
        · subst d; simp
        · have d2 : (m == a) = false := by simpa using d
          rw [d2, if_neg d]
          by_cases h2 : (l.any fun y => decide (y.1 = a)) = true
          · have := ih h2; rw [if_neg d] at this; exact this
          · have e : (l.map fun y => if y.1 = a then (y.1, v) else y) = l := by
              conv => rhs; rw [← List.map_id l]
              apply List.map_congr_left
              intro z hz
              rw [if_neg fun q => h2 (List.any_eq_true.mpr ⟨z, hz, by simp [q]⟩)]
              rfl
            rw [e]
      · rw [if_neg c, List.lookup_cons, List.lookup_cons]
        have h2 : (l.any fun y => decide (y.1 = n)) = true := by simpa [c] using h
        by_cases d : m = a
        · subst d; simp [c]
        · have d2 : (m == a) = false := by simpa using d
          rw [d2]; exact ih h2
  · rw [if_neg h]
    induction l with
    | nil =>
      by_cases d : m = n
      · subst d; simp
      · have d2 : (m == n) = false := by simpa using d
        simp [List.lookup_cons, d, d2]
    | cons y l ih =>
      obtain ⟨a, b⟩ := y
      have c : ¬ a = n := fun q => h (by simp [q])
      have h2 : ¬ (l.any fun y => decide (y.1 = n)) = true := fun q => h (by simp [q])
      rw [List.cons_append, List.lookup_cons, List.lookup_cons, ih h2]
      by_cases d : m = a
      · subst d; simp [c]
      · have d2 : (m == a) = false := by simpa using d
        rw [d2]
section
variable {T : Tab} {st : Store} {A : At} {S : Sch}
theorem SchAt.setTask {n : Str} {v : Tsk × Int} (a : SchAt st A S) : SchAt (st.set A.t (.dic ((putT S.tasks n v).map fun y => .inr y.1) ((putT S.tasks n v).map fun y => taskD y.2))) A { S with tasks := putT S.tasks n v } := by
  have lt := a.lt A.t (by simp [At.all])
  have ne : ∀ {n : Nat} {o : SO}, st[n]? = some o → (∀ ks ds, o ≠ .dic ks ds) → A.t ≠ n := fun e q z => by
    rw [← z, a.ht] at e; cases e; exact q _ _ rfl
  refine ⟨by rw [List.getElem?_set_ne (ne a.hp fun _ _ z => by cases z)]; exact a.hp, by rw [List.getElem?_set_self lt], by rw [List.getElem?_set_ne (ne a.hr fun _ _ z => by cases z)]; exact a.hr, by rw [List.getElem?_set_ne (ne a.hb fun _ _ z => by cases z)]; exact a.hb, a.hl, fun j i x e1 e2 => ?_, a.nd, a.rb⟩
  have e3 := a.hi j i x e1 e2
  rw [List.getElem?_set_ne (ne e3 fun _ _ z => by unfold tryO at z; cases z)]
  exact e3
end
end TS
end

section
set_option Elab.async false
set_option linter.all false
set_option maxRecDepth 100000
set_option maxHeartbeats 4000000
set_option autoImplicit false
namespace TS
open PySem
section
variable {T : Tab} {st : Store} {A : At} {S : Sch}
def mendS (S : Sch) (n : Str) (t : Tsk) (l : Int) : Sch := { S with tasks := putT S.tasks n (t, l), book := S.book ++ [.tup [.str "mend", .str n, encK t, .int l]] }
variable (h : PR T) (ht : PT T) (hs : PS T)
include h ht hs
theorem mend_ok {k : Nat} (hk : 40 ≤ k) (a : SchAt st A S) (ok : SchOk S) {n : Str} {t : Tsk} {l : Int} (nn : nmOk n = true) (tk : TskOk t) (l0 : 0 ≤ l) (l1 : l ≤ 999) (ok2 : SchOk (mendS S n t l)) :
    ∃ st', callD T k 89 [.ref A.p, .str n, encK t, .int l] st = .ok (.lst (chgL (learnL S n) (learnL S n) (fun w => markL S w n) fun w => markL (mendS S n t l) w n)) st' ∧ SchAt st' A (mendS S n t l) ∧ st'.length = st.length ∧ ∀ m, m ∉ A.all → st'[m]? = st[m]? := by
  obtain ⟨k, rfl⟩ : ∃ k', k = k' + 40 := ⟨k - 40, by omega⟩
  have e1 := need_name_ok h hs (k := k + 37) (st := st) nn
  have e2 := need_task_ok h ht tk (k := k + 34) (st := st)
  have e3 := is_number_int h (T := T) (i := l) (lo := 0) (hi := 999) (k := k + 38) (st := st)
  simp only [l0, l1, decide_true, Bool.and_self] at e3
  have e4 := all_marks_ok h ht hs (k := k + 39) (by omega) a ok nn
  have a1 := a.setTask (n := n) (v := (t, l))
  have a2 := a1.addBook (x := .tup [.str "mend", .str n, encK t, .int l])
  have a3 : SchAt _ A (mendS S n t l) := a2
  have le : learnL (mendS S n t l) n = learnL S n := rfl
  have few : (learnL S n ++ (learnL (mendS S n t l) n).filter fun w => decide (w ∉ learnL S n)).length < 64 := by
    rw [le, List.filter_eq_nil_iff.mpr (by intro w hw; simp [hw]), List.append_nil]
    have := learn_few ok (n := n)
    omega
  have e5 := changes_ok h ht hs (k := k + 39) (by omega) a3 ok2 nn (g1 := fun w => markL S w n) few
  rw [le] at e5
  have lz : S.book.length < LIM := by rw [lim_eq]; have := ok.fewb; omega
  refine ⟨_, ?_, a3, by simp, fun m hm => ?_⟩
  · have s1 : setIV st (.ref A.t) (.str n) (taskD (t, l)) = .ok () (st.set A.t (.dic ((putT S.tasks n (t, l)).map fun y => .inr y.1) ((putT S.tasks n (t, l)).map fun y => taskD y.2))) := by
      have lt : S.tasks.length < LIM := by rw [lim_eq]; have := ok.fewt; omega
      simp only [setIV, a.ht, keyOf]
      rw [List.length_map, if_pos lt, putT_K (v := (t, l)), putT_D]
    have et : taskD (t, l) = .tup [encK t, .int l] := rfl
    rw [et] at s1
    have hb1 := a1.hb
    have f3 := a1.f3
    simp only at hb1
    generalize (st.set A.t (.dic ((putT S.tasks n (t, l)).map fun y => .inr y.1) ((putT S.tasks n (t, l)).map fun y => taskD y.2))) = st1 at *
    have s2 : bmV .append st1 (.ref A.b) [.tup [.str "mend", .str n, encK t, .int l]] = .ok .non (st1.set A.b (.lst (S.book ++ [.tup [.str "mend", .str n, encK t, .int l]]))) := by
      simp [bmV, hb1, lz]
    have s3 : bmTy .append st1 (.ref A.b) = true := by simp [bmTy, litems, hb1]
    have hp2 := a3.hp
    generalize (st1.set A.b (.lst (S.book ++ [.tup [.str "mend", .str n, encK t, .int l]]))) = st2 at *
    have em : marksD S n = mkD (learnL S n) fun w => markL S w n := rfl
    rw [em] at e4
    generalize (mkD (learnL S n) fun w => markL S w n) = bef at *
    generalize encK t = kk at *
    rw [callD_of hs.f89 rfl]
    simp [f_School_mend, startD, e1, e2, hs.g25, e3, a.hp, e4, a.f1, hs.c17, s1, f3, s2, s3, hp2, e5]
  · have n1 : A.t ≠ m := fun z => hm (by simp [At.all, z])
    have n2 : A.b ≠ m := fun z => hm (by simp [At.all, z])
    rw [List.getElem?_set_ne n2, List.getElem?_set_ne n1]
end
end TS
end

section
set_option Elab.async false
set_option linter.all false
set_option maxRecDepth 100000
set_option maxHeartbeats 4000000
set_option autoImplicit false
namespace TS
open PySem
section
variable {T : Tab} {st : Store} {A : At} {S : Sch}
theorem SchAt.more {r : Store} (a : SchAt st A S) : SchAt (st ++ r) A S := a.keep fun n hn => List.getElem?_append_left (a.lt n hn)
theorem SchAt.addTry {x : TryR} (a : SchAt st A S) : SchAt ((st ++ [tryO x]).set A.r (.lst ((A.is_ ++ [st.length]).map .ref))) { A with is_ := A.is_ ++ [st.length] } { S with tries := S.tries ++ [x] } := by
  have b := a.more (r := [tryO x])
  have lt := b.lt A.r (by simp [At.all])
  have ne : ∀ {n : Nat} {o : SO}, (st ++ [tryO x])[n]? = some o → (∀ ds, o ≠ .lst ds) → A.r ≠ n := fun e q z => by
    rw [← z, b.hr] at e; cases e; exact q _ rfl
  have hx : (st ++ [tryO x])[st.length]? = some (tryO x) := by simp
  refine ⟨by rw [List.getElem?_set_ne (ne b.hp fun _ z => by cases z)]; exact b.hp, by rw [List.getElem?_set_ne (ne b.ht fun _ z => by cases z)]; exact b.ht, by rw [List.getElem?_set_self lt], by rw [List.getElem?_set_ne a.rb]; exact b.hb, by simp [a.hl], fun j i y e1 e2 => ?_, ?_, a.rb⟩
  · have e3 : (st ++ [tryO x])[i]? = some (tryO y) := by
      by_cases c : j < A.is_.length
      · rw [List.getElem?_append_left c] at e1
        rw [List.getElem?_append_left (by rw [← a.hl]; exact c)] at e2
        exact b.hi j i y e1 e2
      · rw [List.getElem?_append_right (by omega)] at e1
        rw [List.getElem?_append_right (by rw [← a.hl]; omega)] at e2
        have j0 : j - A.is_.length = 0 := by
          have := (List.getElem?_eq_some_iff.mp e1).1
          simp at this
          omega
        rw [j0] at e1
        rw [show j - S.tries.length = 0 by rw [← a.hl]; exact j0] at e2
        simp at e1 e2
        rw [← e1, ← e2]
        exact hx
    rw [List.getElem?_set_ne (ne e3 fun _ z => by unfold tryO at z; cases z)]
    exact e3
  · refine List.nodup_append.mpr ⟨a.nd, by simp, fun m hm k hk e => ?_⟩
    have := a.lt m (by simp [At.all, hm])
    simp at hk
    omega
end
end TS
end

section
set_option Elab.async false
set_option linter.all false
set_option maxRecDepth 100000
set_option maxHeartbeats 4000000
set_option autoImplicit false
namespace TS
open PySem
section
variable {T : Tab} (h : PR T) (ht : PT T) (hs : PS T) {st : Store} {A : At} {S : Sch}
def handS (S : Sch) (w n : Str) (P : List Rw) : Sch := { S with tries := S.tries ++ [⟨w, n, P, S.day, true⟩], book := S.book ++ [.tup [.str "hand", .str w, .str n, encP P]] }
include hs
theorem try_init {k : Nat} {w n p : D} {d : D} : callD T (k + 1) 101 [.ref st.length, w, n, p, d] (st ++ [.ins 18 []]) = .ok .non (st ++ [.ins 18 [w, n, p, d, .bl true]]) := by
  rw [callD_of hs.f101 rfl]
  simp [f_Try___init__, startD, setFV, hs.c18]
theorem school_init {k : Nat} : callD T (k + 1) 78 [.ref st.length] (st ++ [.ins 17 []]) = .ok .non (st ++ [.ins 17 [.int 0, .ref (st.length + 1), .ref (st.length + 2), .ref (st.length + 3)], .dic [] [], .lst [], .lst []]) := by
  rw [callD_of hs.f78 rfl]
  simp [f_School___init__, startD, setFV, hs.c17, shV]
def newS : Sch := ⟨0, [], [], []⟩
omit hs in
theorem new_at {n : Nat} {q r : Store} (e : n = q.length) : SchAt (q ++ [.ins 17 [.int 0, .ref (n + 1), .ref (n + 2), .ref (n + 3)], .dic [] [], .lst [], .lst []] ++ r) ⟨n, n + 1, n + 2, n + 3, []⟩ newS := by
  subst e
  refine ⟨?_, ?_, ?_, ?_, rfl, ?_, List.nodup_nil, by simp⟩
  · simp [newS]
  · simp [newS]
  · simp [newS]
  · simp [newS]
  · intro j i x e; simp at e
include h
theorem hand_ok {k : Nat} (hk : 40 ≤ k) (a : SchAt st A S) (ok : SchOk S) {w n : Str} {P : List Rw} (nw : nmOk w = true) (hn : (S.tasks.lookup n).isSome = true) (hp : okP P = true) :
    ∃ st', callD T k 102 [.ref A.p, .str w, .str n, encP P] st = .ok (.int (S.tries.length : Int)) st' ∧ SchAt st' { A with is_ := A.is_ ++ [st.length] } (handS S w n P) ∧ st'.length = st.length + 1 ∧ ∀ m, m < st.length → m ∉ A.all → st'[m]? = st[m]? := by
  obtain ⟨k, rfl⟩ : ∃ k', k = k' + 40 := ⟨k - 40, by omega⟩
  have e1 := need_name_ok h hs (k := k + 37) (st := st) nw
  have e2 := need_tn_ok hs (k := k + 38) a hn
  have e3 := need_program_ok h hp (k := k + 39) (by omega) (st := st)
  have e4 : callD T (k + 39) 101 [.ref st.length, .str w, .str n, encP P, .int S.day] (st ++ [.ins 18 []]) = .ok .non (st ++ [tryO ⟨w, n, P, S.day, true⟩]) := try_init hs
  have b := a.more (r := [tryO ⟨w, n, P, S.day, true⟩])
  have a1 := a.addTry (x := ⟨w, n, P, S.day, true⟩)
  have a2 := a1.addBook (x := .tup [.str "hand", .str w, .str n, encP P])
  have a3 : SchAt _ _ (handS S w n P) := a2
  have lz : S.book.length < LIM := by rw [lim_eq]; have := ok.fewb; omega
  have lt : A.is_.length < LIM := by rw [lim_eq, a.hl]; have := ok.few; omega
  refine ⟨_, ?_, a3, by simp, fun m lm hm => ?_⟩
  · have s1 : bmV .append (st ++ [tryO ⟨w, n, P, S.day, true⟩]) (.ref A.r) [.ref st.length] = .ok .non ((st ++ [tryO ⟨w, n, P, S.day, true⟩]).set A.r (.lst ((A.is_ ++ [st.length]).map .ref))) := by
      simp [bmV, b.hr, lt]
    have t0 : bmTy .append st (.ref A.r) = true := by simp [bmTy, litems, a.hr]
    have f3 := a1.f3
    have hb1 := a1.hb
    simp only at hb1 f3
    generalize ((st ++ [tryO ⟨w, n, P, S.day, true⟩]).set A.r (.lst ((A.is_ ++ [st.length]).map .ref))) = st1 at *
    have s2 : bmV .append st1 (.ref A.b) [.tup [.str "hand", .str w, .str n, encP P]] = .ok .non (st1.set A.b (.lst (S.book ++ [.tup [.str "hand", .str w, .str n, encP P]]))) := by
      simp [bmV, hb1, lz]
    have s3 : bmTy .append st1 (.ref A.b) = true := by simp [bmTy, litems, hb1]
    have f2 := a3.f2
    have l2 := a3.len
    have l3 : (handS S w n P).tries.length = S.tries.length + 1 := by simp [handS]
    rw [l3] at l2
    simp only at f2 l2
    generalize (st1.set A.b (.lst (S.book ++ [.tup [.str "hand", .str w, .str n, encP P]]))) = st2 at *
    generalize (tryO ⟨w, n, P, S.day, true⟩) = tr at *
    generalize encP P = pp at *
    have z : (((S.tries.length + 1 : Nat) : Int) - 1) = (S.tries.length : Int) := by omega
    rw [callD_of hs.f102 rfl]
    simp [f_School_hand_v2, startD, e1, a.hp, e2, e3, a.f2, a.f0, hs.c17, t0, hs.i18, e4, s1, f3, s2, s3, f2, l2, z]
  · have n1 : A.r ≠ m := fun z => hm (by simp [At.all, z])
    have n2 : A.b ≠ m := fun z => hm (by simp [At.all, z])
    rw [List.getElem?_set_ne n2, List.getElem?_set_ne n1, List.getElem?_append_left lm]
end
end TS
end

section
set_option Elab.async false
set_option linter.all false
set_option maxRecDepth 100000
set_option maxHeartbeats 4000000
set_option autoImplicit false
namespace TS
open PySem
section
variable {T : Tab} (h : PR T) (ht : PT T) (hs : PS T) {st : Store} {A : At} {S : Sch}
theorem SchAt.setTry {j i : Nat} {y : TryR} (a : SchAt st A S) (hj : A.is_[j]? = some i) : SchAt (st.set i (tryO y)) A { S with tries := S.tries.set j y } := by
  have mem : i ∈ A.is_ := List.mem_of_getElem? hj
  have lt := a.lt i (by simp [At.all, mem])
  have lj : j < A.is_.length := (List.getElem?_eq_some_iff.mp hj).1
  have hi := a.hi j i _ hj (List.getElem?_eq_getElem (by rw [← a.hl]; exact lj))
  have ne : ∀ {n : Nat} {o : SO}, st[n]? = some o → (∀ ds, o ≠ .ins 18 ds) → i ≠ n := fun e q z => by
    rw [← z, hi] at e; cases e; exact q _ rfl
  refine ⟨by rw [List.getElem?_set_ne (ne a.hp fun _ z => by cases z)]; exact a.hp, by rw [List.getElem?_set_ne (ne a.ht fun _ z => by cases z)]; exact a.ht, by rw [List.getElem?_set_ne (ne a.hr fun _ z => by cases z)]; exact a.hr, by rw [List.getElem?_set_ne (ne a.hb fun _ z => by cases z)]; exact a.hb, by simp [a.hl], fun j2 i2 x e1 e2 => ?_, a.nd, a.rb⟩
  by_cases c : j2 = j
  · subst c
    rw [hj] at e1
    cases e1
    rw [List.getElem?_set_self (by rw [← a.hl]; exact lj)] at e2
    cases e2
    rw [List.getElem?_set_self lt]
  · rw [List.getElem?_set_ne (fun z => c z.symm)] at e2
    have ni : i ≠ i2 := fun z => by
      subst z
      have l2 := (List.getElem?_eq_some_iff.mp e1)
      have l1 := (List.getElem?_eq_some_iff.mp hj)
      exact c ((List.getElem_inj a.nd).mp (l2.2.trans l1.2.symm))
    rw [List.getElem?_set_ne ni]
    exact a.hi j2 i2 x e1 e2
def strikeS (S : Sch) (j : Nat) (x : TryR) : Sch := { S with tries := S.tries.set j { x with counts := false }, book := S.book ++ [.tup [.str "strike", .int (j : Int)]] }
theorem strike_learn {j : Nat} {x : TryR} {n w : Str} (hw : w ∈ learnL (strikeS S j x) n) : w ∈ learnL S n := by
  obtain ⟨y, h1, h2, h3⟩ := learn_mem.mp hw
  refine learn_mem.mpr ⟨y, ?_, h2, h3⟩
  rcases List.mem_or_eq_of_mem_set h1 with h1 | rfl
  · exact h1
  · simp [inT] at h2
include h ht hs
theorem strike_ok {k : Nat} (hk : 41 ≤ k) (a : SchAt st A S) (ok : SchOk S) {j : Nat} {x : TryR} (hj : S.tries[j]? = some x) (hc : x.counts = true) (ok2 : SchOk (strikeS S j x)) :
    ∃ st', callD T k 103 [.ref A.p, .int (j : Int)] st = .ok (.lst (chgL (learnL S x.name) (learnL (strikeS S j x) x.name) (fun w => markL S w x.name) fun w => markL (strikeS S j x) w x.name)) st' ∧ SchAt st' A (strikeS S j x) ∧ st'.length = st.length ∧ ∀ m, m ∉ A.all → st'[m]? = st[m]? := by
  obtain ⟨k, rfl⟩ : ∃ k', k = k' + 41 := ⟨k - 41, by omega⟩
  have lj : j < S.tries.length := (List.getElem?_eq_some_iff.mp hj).1
  obtain ⟨i, hi⟩ : ∃ i, A.is_[j]? = some i := ⟨_, List.getElem?_eq_getElem (by rw [a.hl]; exact lj)⟩
  have mi : i ∈ A.all := by have := List.mem_of_getElem? hi; simp [At.all, this]
  have lx := a.hi j i x hi hj
  have tx := ok.tr x (List.mem_of_getElem? hj)
  obtain ⟨g0, g1, g2, g3, g4⟩ := try_f lx
  have e1 := one_try_ok h hs (k := k + 38) a hi
  have e2 := all_marks_ok h ht hs (k := k + 40) (by omega) a ok tx.name
  have a1 := a.setTry (y := { x with counts := false }) hi
  have a2 := a1.addBook (x := .tup [.str "strike", .int (j : Int)])
  have a3 : SchAt _ A (strikeS S j x) := a2
  have few : (learnL S x.name ++ (learnL (strikeS S j x) x.name).filter fun w => decide (w ∉ learnL S x.name)).length < 64 := by
    rw [List.filter_eq_nil_iff.mpr (by intro w hw; simp [strike_learn hw]), List.append_nil]
    have := learn_few ok (n := x.name)
    omega
  have e5 := changes_ok h ht hs (k := k + 40) (by omega) a3 ok2 tx.name (g1 := fun w => markL S w x.name) few
  have lz : S.book.length < LIM := by rw [lim_eq]; have := ok.fewb; omega
  refine ⟨_, ?_, a3, by simp, fun m hm => ?_⟩
  · have s1 : setFV 5 18 4 st (.ref i) (.bl false) = .ok () (st.set i (tryO { x with counts := false })) := by
      have lx2 := lx
      unfold tryO at lx2
      simp [setFV, lx2, tryO]
    have hb1 := a1.hb
    have f3 := a1.f3
    have hi1 := (try_f (a3.hi j i { x with counts := false } hi (by unfold strikeS; simp only; rw [List.getElem?_set_self lj]))).2.1
    simp only at hb1
    generalize (st.set i (tryO { x with counts := false })) = st1 at *
    have s2 : bmV .append st1 (.ref A.b) [.tup [.str "strike", .int (j : Int)]] = .ok .non (st1.set A.b (.lst (S.book ++ [.tup [.str "strike", .int (j : Int)]]))) := by
      simp [bmV, hb1, lz]
    have s3 : bmTy .append st1 (.ref A.b) = true := by simp [bmTy, litems, hb1]
    have hp2 := a3.hp
    generalize (st1.set A.b (.lst (S.book ++ [.tup [.str "strike", .int (j : Int)]]))) = st2 at *
    have em : marksD S x.name = mkD (learnL S x.name) fun w => markL S w x.name := rfl
    rw [em] at e2
    simp only at hi1
    generalize (mkD (learnL S x.name) fun w => markL S w x.name) = bef at *
    rw [callD_of hs.f103 rfl]
    simp [f_School_strike_v2, startD, a.hp, e1, g4, hc, g1, e2, hs.c18, s1, f3, hs.c17, s2, s3, hi1, hp2, e5]
  · have n1 : i ≠ m := fun z => hm (z ▸ mi)
    have n2 : A.b ≠ m := fun z => hm (by simp [At.all, z])
    rw [List.getElem?_set_ne n2, List.getElem?_set_ne n1]
end
end TS
end

section
set_option Elab.async false
set_option linter.all false
set_option maxRecDepth 100000
set_option maxHeartbeats 4000000
set_option autoImplicit false
namespace TS
open PySem
inductive Deed where
  | turn (d : Int)
  | mend (n : Str) (t : Tsk) (l : Int)
  | hand (w n : Str) (P : List Rw)
  | strike (j : Nat)
def deedD : Deed → D
  | .turn d => .tup [.str "turn", .int d]
  | .mend n t l => .tup [.str "mend", .str n, encK t, .int l]
  | .hand w n P => .tup [.str "hand", .str w, .str n, encP P]
  | .strike j => .tup [.str "strike", .int (j : Int)]
def doS (S : Sch) : Deed → Sch
  | .turn d => turnS S d
  | .mend n t l => mendS S n t l
  | .hand w n P => handS S w n P
  | .strike j => match S.tries[j]? with
    | some x => strikeS S j x
    | none => S
def tellD (S : Sch) : Deed → D
  | .turn _ => .non
  | .mend n t l => .lst (chgL (learnL S n) (learnL S n) (fun w => markL S w n) fun w => markL (mendS S n t l) w n)
  | .hand _ _ _ => .int (S.tries.length : Int)
  | .strike j => match S.tries[j]? with
    | some x => .lst (chgL (learnL S x.name) (learnL (strikeS S j x) x.name) (fun w => markL S w x.name) fun w => markL (strikeS S j x) w x.name)
    | none => .non
def DeedOk (S : Sch) : Deed → Prop
  | .turn d => S.day ≤ d ∧ d ≤ 999
  | .mend n t l => nmOk n = true ∧ TskOk t ∧ 0 ≤ l ∧ l ≤ 999
  | .hand w n P => nmOk w = true ∧ nmOk n = true ∧ (S.tasks.lookup n).isSome = true ∧ okP P = true
  | .strike j => ∃ x, S.tries[j]? = some x ∧ x.counts = true
structure Room (S : Sch) : Prop where
  t : S.tries.length < 60
  b : S.book.length < 1000
  k : S.tasks.length < 1000
theorem putT_mem {l : List (Str × (Tsk × Int))} {n : Str} {v : Tsk × Int} {y : Str × (Tsk × Int)} (hy : y ∈ putT l n v) : y ∈ l ∨ y = (n, v) := by
  unfold putT at hy
  split at hy
  · obtain ⟨z, h1, h2⟩ := List.mem_map.mp hy
    split at h2
    · rename_i c
      right
      rw [← h2, c]
    · left; rw [← h2]; exact h1
  · rcases List.mem_append.mp hy with h | h
    · exact .inl h
    · exact .inr (List.mem_singleton.mp h)
theorem putT_nodup {l : List (Str × (Tsk × Int))} {n : Str} {v : Tsk × Int} (h : (l.map (·.1)).Nodup) : ((putT l n v).map (·.1)).Nodup := by
  unfold putT
  split
  · have e : (l.map fun y => if y.1 = n then (y.1, v) else y).map (·.1) = l.map (·.1) := by
      rw [List.map_map]
      apply List.map_congr_left
      intro y _
      simp only [Function.comp]
      split <;> rfl
    rw [e]; exact h
  · rename_i c
    rw [List.map_append]
    refine List.nodup_append.mpr ⟨h, by simp, fun a ha b hb e => ?_⟩
    obtain ⟨y, hy, rfl⟩ := List.mem_map.mp ha
    simp at hb
    exact c (List.any_eq_true.mpr ⟨y, hy, by simp [e, hb]⟩)
theorem putT_len {l : List (Str × (Tsk × Int))} {n : Str} {v : Tsk × Int} : (putT l n v).length ≤ l.length + 1 := by
  unfold putT
  split
  · rw [List.length_map]; omega
  · simp
theorem ok_turn {S : Sch} (ok : SchOk S) (r : Room S) {d : Int} (h1 : S.day ≤ d) (h2 : d ≤ 999) : SchOk (turnS S d) :=
  ⟨by have := ok.d0; show 0 ≤ d; omega, h2, ok.tn, ok.td, ok.tr, ok.th, ok.few, by have := r.b; show (S.book ++ _).length ≤ 1000; simp; omega, ok.fewt⟩
theorem ok_book {S : Sch} (ok : SchOk S) (r : Room S) (x : D) : SchOk { S with book := S.book ++ [x] } :=
  ⟨ok.d0, ok.d1, ok.tn, ok.td, ok.tr, ok.th, ok.few, by have := r.b; show (S.book ++ _).length ≤ 1000; simp; omega, ok.fewt⟩
theorem ok_mend {S : Sch} (ok : SchOk S) (r : Room S) {n : Str} {t : Tsk} {l : Int} (nn : nmOk n = true) (tk : TskOk t) (l0 : 0 ≤ l) (l1 : l ≤ 999) : SchOk (mendS S n t l) := by
  refine ⟨ok.d0, ok.d1, fun x hx => ?_, putT_nodup ok.td, ok.tr, fun x hx => ?_, ok.few, by have := r.b; show (S.book ++ _).length ≤ 1000; simp; omega, Nat.le_trans putT_len r.k⟩
  · rcases putT_mem hx with h | rfl
    · exact ok.tn x h
    · exact ⟨nn, tk, l0, l1⟩
  · obtain ⟨y, hy⟩ := ok.th x hx
    show ∃ y, (putT S.tasks n (t, l)).lookup x.name = some y
    rw [putT_lk]
    split
    · exact ⟨_, rfl⟩
    · exact ⟨y, hy⟩
theorem ok_hand {S : Sch} (ok : SchOk S) (r : Room S) {w n : Str} {P : List Rw} (nw : nmOk w = true) (nn : nmOk n = true) (hn : (S.tasks.lookup n).isSome = true) (hp : okP P = true) : SchOk (handS S w n P) := by
  refine ⟨ok.d0, ok.d1, ok.tn, ok.td, fun x hx => ?_, fun x hx => ?_, by have := r.t; show (S.tries ++ _).length ≤ 60; simp; omega, by have := r.b; show (S.book ++ _).length ≤ 1000; simp; omega, ok.fewt⟩
  · rcases List.mem_append.mp hx with h | h
    · exact ok.tr x h
    · rw [List.mem_singleton.mp h]
      exact ⟨nw, nn, hp, ok.d0, ok.d1⟩
  · rcases List.mem_append.mp hx with h | h
    · exact ok.th x h
    · rw [List.mem_singleton.mp h]
      exact Option.isSome_iff_exists.mp hn
theorem ok_strike {S : Sch} (ok : SchOk S) (r : Room S) {j : Nat} {x : TryR} (hj : S.tries[j]? = some x) : SchOk (strikeS S j x) := by
  have mx := List.mem_of_getElem? hj
  refine ⟨ok.d0, ok.d1, ok.tn, ok.td, fun y hy => ?_, fun y hy => ?_, by have := r.t; show (S.tries.set _ _).length ≤ 60; simp; omega, by have := r.b; show (S.book ++ _).length ≤ 1000; simp; omega, ok.fewt⟩
  · rcases List.mem_or_eq_of_mem_set hy with h | rfl
    · exact ok.tr y h
    · have z := ok.tr x mx
      exact ⟨z.who, z.name, z.prog, z.o0, z.o1⟩
  · rcases List.mem_or_eq_of_mem_set hy with h | rfl
    · exact ok.th y h
    · exact ok.th x mx
theorem ok_do {S : Sch} (ok : SchOk S) (r : Room S) {x : Deed} (h : DeedOk S x) : SchOk (doS S x) := by
  cases x with
  | turn d => exact ok_turn ok r h.1 h.2
  | mend n t l => exact ok_mend ok r h.1 h.2.1 h.2.2.1 h.2.2.2
  | hand w n P => exact ok_hand ok r h.1 h.2.1 h.2.2.1 h.2.2.2
  | strike j =>
    obtain ⟨y, e, _⟩ := h
    show SchOk (match S.tries[j]? with | some x => strikeS S j x | none => S)
    rw [e]
    exact ok_strike ok r e
def Fr (st st' : Store) (W : List Nat) : Prop := st.length ≤ st'.length ∧ ∀ m, m < st.length → m ∉ W → st'[m]? = st[m]?
theorem Fr.refl {st : Store} {W : List Nat} : Fr st st W := ⟨Nat.le_refl _, fun _ _ _ => rfl⟩
theorem Fr.trans {s1 s2 s3 : Store} {W : List Nat} (a : Fr s1 s2 W) (b : Fr s2 s3 W) : Fr s1 s3 W :=
  ⟨Nat.le_trans a.1 b.1, fun m lm hm => by rw [b.2 m (Nat.lt_of_lt_of_le lm a.1) hm, a.2 m lm hm]⟩
theorem Fr.mono {s1 s2 : Store} {W V : List Nat} (a : Fr s1 s2 W) (h : ∀ m, m < s1.length → m ∈ W → m ∈ V) : Fr s1 s2 V := ⟨a.1, fun m lm hm => a.2 m lm fun z => hm (h m lm z)⟩
theorem Fr.set {st : Store} {n : Nat} {o : SO} {W : List Nat} (h : n ∈ W) : Fr st (st.set n o) W := ⟨by simp, fun m _ hm => by rw [List.getElem?_set_ne (show n ≠ m from fun z => hm (z ▸ h))]⟩
theorem Fr.app {st r : Store} {W : List Nat} : Fr st (st ++ r) W := ⟨by simp, fun m lm _ => List.getElem?_append_left lm⟩
end TS
end

section
set_option Elab.async false
set_option linter.all false
set_option maxRecDepth 100000
set_option maxHeartbeats 4000000
set_option autoImplicit false
namespace TS
open PySem
section
variable {T : Tab} (hm : PL T)
include hm
theorem alike_refl : ∀ (n : Nat) {x : D} {k : Nat} {st : Store}, dp x ≤ n → n + 1 ≤ k → plS x = true → callD T k 155 [x, x] st = .ok (.bl true) st
  | n, x, k, st, hn, hk, hp => by
    obtain ⟨k, rfl⟩ : ∃ k', k = k' + 1 := ⟨k - 1, by omega⟩
    rw [callD_of hm.f155 rfl]
    have seq : ∀ xs : List D, plSs xs = true → dps xs + 1 ≤ n → xs.length ≤ 1000000 → ∀ X, (∀ st, ∀ i : Int, ixV st X (.int i) = L2.atI xs i) → ∀ Y, lcR T (callD T k) (.call 155 (.cons (.ix (.v 0) (.v 2)) (.cons (.ix (.v 1) (.v 2)) .nil)) []) (.n 2) .nil [2] [some X, some X, Y] (fun _ => true) (rangeD 0 xs.length) st = .ok ((List.range xs.length).map fun _ => .bl true) st := by
      intro xs h1 h2 h3 X hX Y
      unfold rangeD
      refine lcR_mapf (enc := fun (i : Nat) => D.int (0 + (i : Int))) (g := fun _ => .bl true) rfl fun i hi => ?_
      have hi : i < xs.length := List.mem_range.mp hi
      have e := alike_refl (n - 1) (x := xs[i]) (k := k) (st := st) (by have := dps_mem (x := xs[i]) (List.getElem_mem hi); omega) (by omega) (plSs_mem h1 (List.getElem_mem hi))
      simp [lcT_eq, wipeD, hX, atI_nat hi, e]
    have z : ∀ (l : Nat), boolsD ((List.range l).map fun _ => D.bl true) = some ((List.range l).map fun _ => true) := fun l => boolsD_map (fun _ : Nat => true) (List.range l)
    cases x with
    | non => simp [f__law_alike, startD]
    | bl b => simp [f__law_alike, startD]
    | int i => simp [f__law_alike, startD]
    | str s =>
      unfold plS at hp
      simp [f__law_alike, startD, hp]
    | tup xs =>
      unfold plS at hp
      simp only [Bool.and_eq_true, decide_eq_true_eq] at hp
      have e := seq xs hp.2 (by unfold dp at hn; exact hn) hp.1 (.tup xs) (fun _ _ => rfl)
      have l1 : (xs.length : Int) ≤ 1000000000 := by have := hp.1; omega
      have l2 : -1000000000 ≤ (xs.length : Int) := by omega
      have l3 : xs.length ≤ LIM := by rw [lim_eq]; have := hp.1; omega
      simp [f__law_alike, startD, l1, l2, e, l3, z]
    | lst xs =>
      unfold plS at hp
      simp only [Bool.and_eq_true, decide_eq_true_eq] at hp
      have e := seq xs hp.2 (by unfold dp at hn; exact hn) hp.1 (.lst xs) (fun _ _ => rfl)
      have l1 : (xs.length : Int) ≤ 1000000000 := by have := hp.1; omega
      have l2 : -1000000000 ≤ (xs.length : Int) := by omega
      have l3 : xs.length ≤ LIM := by rw [lim_eq]; have := hp.1; omega
      simp [f__law_alike, startD, l1, l2, e, l3, z]
    | _ => cases hp
  termination_by n => n
  decreasing_by
    have := hn
    unfold dp at *
    omega
end
end TS
end

section
set_option Elab.async false
set_option linter.all false
set_option maxRecDepth 100000
set_option maxHeartbeats 4000000
set_option autoImplicit false
namespace TS
open PySem
structure Dice where
  a : Int
  b : Int
  r : List Int
abbrev dcO (d : Dice) : SO := .lst (.int d.a :: .int d.b :: d.r.map .int)
theorem for_inv {T : Tab} {f : Phi} {tg : Tg} {b : DSs} {ok : Store → Bool} {P : Slots → Store → Prop} (hok : ∀ sl st, P sl st → ok st = true) : ∀ {xs : List D} {sl : Slots} {st : Store},
    (∀ x ∈ xs, ∀ sl st, P sl st → ∃ sl1, asgV tg sl x = some sl1 ∧ ∃ sl2 st2, exSs T f b sl1 st = .next sl2 st2 ∧ P sl2 st2) → P sl st → ∃ sl' st', forR T f tg b ok xs sl st = .next sl' st' ∧ P sl' st'
  | [], sl, st, _, h => ⟨sl, st, by simp [hok sl st h], h⟩
  | x :: xs, sl, st, hb, h => by
    obtain ⟨sl1, e1, sl2, st2, e2, h2⟩ := hb x List.mem_cons_self sl st h
    obtain ⟨sl', st', e3, h3⟩ := for_inv hok (xs := xs) (fun y hy => hb y (List.mem_cons_of_mem _ hy)) h2
    exact ⟨sl', st', by simp [hok sl st h, e1, e2, e3], h3⟩
section
variable {T : Tab} (h : PD T)
include h
theorem off_ok {d : Dice} {u : Int} (hu : 0 < u) (hu2 : u < 1000000) {k : Nat} {p q : Store} : ∃ v d', callD T (k + 1) 125 [.ref p.length, .int u] (p ++ dcO d :: q) = .ok (.int v) (p ++ dcO d' :: q) ∧ 0 ≤ v ∧ v < u := by
  have hz : u ≠ 0 := by omega
  have hn : u.natAbs < 1073741824 := by omega
  have key : ∀ (a b : Int) (r : List Int), (0 < b → ∃ v d', exSs T (callD T 0) (tailB 1 f__law_off.body) [some (.ref p.length), some (.int u), none] (p ++ dcO ⟨a, b, r⟩ :: q) = .ret (.int v) (p ++ dcO d' :: q) ∧ 0 ≤ v ∧ v < u) ∧
      (¬ 0 < b → ∃ v d', exSs T (callD T 0) (tailB 1 f__law_off.body) [some (.ref p.length), some (.int u), none] (p ++ dcO ⟨a, b, r⟩ :: q) = .ret (.int v) (p ++ dcO d' :: q) ∧ 0 ≤ v ∧ v < u) := by
    intro a b r
    have h63 : (1 : Int) < (r.length : Int) + 1 + 1 := by omega
    have h64 : (0 : Int) < (r.length : Int) + 1 + 1 := by omega
    constructor
    · intro hb
      refine ⟨b.fmod u, ⟨a, b.fdiv u, r⟩, ?_, Int.fmod_nonneg_of_pos b hu, Int.fmod_lt_of_pos b hu⟩
      simp [tailB, f__law_off, ixV, items, L2.atI, L2.ixN, hb, binV, hz, hn, setIV, h63, h64]
    · intro hb
      refine ⟨((a * 48271 + 11).fmod 2147483647 |>.fdiv 64).fmod u, ⟨(a * 48271 + 11).fmod 2147483647, b, r⟩, ?_, Int.fmod_nonneg_of_pos _ hu, Int.fmod_lt_of_pos _ hu⟩
      simp [tailB, f__law_off, ixV, items, L2.atI, L2.ixN, hb, binV, hz, setIV, inB64, h63, h64]
  have key2 : ∀ (a b : Int) (r : List Int), ∃ v d', exSs T (callD T 0) (tailB 1 f__law_off.body) [some (.ref p.length), some (.int u), none] (p ++ dcO ⟨a, b, r⟩ :: q) = .ret (.int v) (p ++ dcO d' :: q) ∧ 0 ≤ v ∧ v < u := fun a b r => by
    by_cases hb : 0 < b
    · exact (key a b r).1 hb
    · exact (key a b r).2 hb
  obtain ⟨a, b, r⟩ := d
  obtain ⟨K, hK⟩ : ∃ K : Slots → Store → OutS, ∀ sl st, exSs T (callD T 0) (tailB 1 f__law_off.body) sl st = K sl st := ⟨_, fun _ _ => rfl⟩
  simp only [hK] at key2
  simp only [tailB, f__law_off] at hK
  rw [callD_of h.f125 rfl]
  by_cases h1 : b = 0 ∧ r ≠ []
  · obtain ⟨rfl, h2⟩ := h1
    cases r with
    | nil => exact absurd rfl h2
    | cons x r =>
      obtain ⟨v, d', e, hv⟩ := key2 a x r
      refine ⟨v, d', ?_, hv⟩
      have h63 : (1 : Int) < (r.length : Int) + 1 + 1 + 1 := by omega
      have h64 : (0 : Int) < (r.length : Int) + 1 + 1 + 1 := by omega
      have h65 : (2 : Int) < (r.length : Int) + 1 + 1 + 1 := by omega
      have h66 : (1 : Int) < (r.length : Int) + 1 + 1 := by omega
      simp [f__law_off, startD, ixV, items, lenD, L2.atI, L2.ixN, bmTy, litems, bmV, setIV, h63, h64, h65, h66, hK, e]
  · obtain ⟨v, d', e, hv⟩ := key2 a b r
    refine ⟨v, d', ?_, hv⟩
    have h63 : (1 : Int) < (r.length : Int) + 1 + 1 := by omega
    have h2 : b = 0 → ¬ (2 : Int) < (r.length : Int) + 1 + 1 := by
      intro z
      rw [not_and] at h1
      have : r = [] := Classical.not_not.mp (h1 z)
      subst this
      simp
    by_cases hb : b = 0
    · simp [f__law_off, startD, ixV, items, lenD, L2.atI, L2.ixN, h63, hb, h2 hb, hK]
      rw [← hb]
      simp [e]
    · simp [f__law_off, startD, ixV, items, lenD, L2.atI, L2.ixN, h63, hb, hK, e]
theorem dice_ok {ns : List Int} (hl : ns.length ≤ 63) {c : Int} {k : Nat} {st : Store} : ∃ d, callD T (k + 1) 124 [.scr ns, .int c] st = .ok (.ref st.length) (st ++ [dcO d]) := by
  obtain ⟨sl, st', e1, hP⟩ := for_inv (T := T) (f := callD T 0) (tg := .n 3) (b := forB f__law_dice.body) (ok := fun _ => true) (P := fun sl st' => st' = st ∧ ∃ f x, sl = [some (.scr ns), some (.int c), some (.int f), x]) (fun _ _ _ => rfl) (xs := ns.map .int) (sl := [some (.scr ns), some (.int c), some (.int c), none]) (st := st)
    (fun x hx sl st' hP => by
      obtain ⟨i, _, rfl⟩ := List.mem_map.mp hx
      obtain ⟨rfl, f, x, rfl⟩ := hP
      refine ⟨_, by rw [asg_n], _, _, ?_, rfl, (f * 31 + absI i).fmod 2147483647, some (.int i), rfl⟩
      simp [f__law_dice, forB, binV, inB64]) ⟨rfl, c, none, rfl⟩
  obtain ⟨rfl, f, x, rfl⟩ := hP
  have e2 := lcR_filt (T := T) (f := callD T 0) (st := st') (ok := fun _ => true) (e := .v 3) (tg := .n 3) (cs := .cons (.cmp .ge (.v 3) (.bin .pow (.c (.int 10)) (.c (.int 18)))) .nil) (own := [3]) (sl := [some (.scr ns), some (.int c), some (.int f), x]) (g := fun y => match y with | .int i => if 1000000000000000000 ≤ i then some (.int i) else none | _ => none) (xs := ns.map .int) rfl
    (fun y hy => by
      obtain ⟨i, _, rfl⟩ := List.mem_map.mp hy
      by_cases hi : 1000000000000000000 ≤ i
      · simp [lcT_eq, wipeD, binV, hi]
      · simp [lcT_eq, wipeD, binV, hi])
  have e3 : ∀ l : List Int, (l.map D.int).filterMap (fun y => match y with | .int i => if 1000000000000000000 ≤ i then some (.int i) else none | _ => none) = (l.filter fun i => decide (1000000000000000000 ≤ i)).map D.int := by
    intro l
    induction l with
    | nil => rfl
    | cons a l ih =>
      rw [List.map_cons, List.filterMap_cons, List.filter_cons]
      by_cases ha : 1000000000000000000 ≤ a
      · simp [ha, ih]
      · simp [ha, ih]
  rw [e3] at e2
  have hz : (ns.filter fun i => decide (1000000000000000000 ≤ i)).length ≤ 63 := Nat.le_trans (List.length_filter_le _ _) hl
  generalize ns.filter (fun i => decide (1000000000000000000 ≤ i)) = l at e2 hz
  have h1 : l.length ≤ LIM := by rw [lim_eq]; omega
  have h2 : 2 + l.length ≤ LIM := by rw [lim_eq]; omega
  refine ⟨⟨f, 0, l⟩, ?_⟩
  rw [callD_of h.f124 rfl]
  simp only [f__law_dice, forB] at e1
  simp [f__law_dice, startD, e1, e2, h1, h2, binV, litems, shV]
end
end TS
end

section
set_option Elab.async false
set_option linter.all false
set_option maxRecDepth 100000
set_option maxHeartbeats 4000000
set_option autoImplicit false
namespace TS
open PySem
def headB : Nat → DSs → DSs → DSs
  | 0, _, R => R
  | n + 1, .cons s b, R => .cons s (headB n b R)
  | _, .nil, R => R
theorem headB_tail : ∀ (n : Nat) (b : DSs), headB n b (tailB n b) = b
  | 0, b => rfl
  | n + 1, .cons s b => by rw [tailB, headB, headB_tail n b]
  | n + 1, .nil => rfl
theorem seg {T : Tab} {f : Phi} {b : DSs} {sl : Slots} {st : Store} (n : Nat) : exSs T f b sl st = exSs T f (headB n b (tailB n b)) sl st := by rw [headB_tail]
theorem tail_tail : ∀ (m n : Nat) (b : DSs), tailB m (tailB n b) = tailB (n + m) b
  | m, 0, b => by rw [Nat.zero_add]; rfl
  | m, n + 1, .cons s b => by
    have : n + 1 + m = (n + m) + 1 := by omega
    rw [this, tailB, tailB, tail_tail m n b]
  | 0, n + 1, .nil => rfl
  | m + 1, n + 1, .nil => rfl
end TS
end

section
set_option Elab.async false
set_option linter.all false
set_option maxRecDepth 100000
set_option maxHeartbeats 4000000
set_option autoImplicit false
namespace TS
open PySem
def P22 : Nat → List Rw
  | 0 => [.give (.num 1)]
  | 1 => [.give (.inp 0)]
  | 2 => []
  | _ => [.give (.op .or (.num 0) (.num 1))]
def T22 (w0 w1 late most : Int) (b : Bool) : Tsk := ⟨[⟨[1], [], some 1, w0, true⟩, ⟨[5], [], some 5, w1, false⟩], 100, late, most, b⟩
def g22 (w0 w1 : Int) : Nat → Int
  | 0 => w0
  | 1 => w0 + w1
  | 2 => 0
  | _ => w0
def pr22 (w0 w1 : Int) : List D := [.tup [encP (P22 0), .int (g22 w0 w1 0)], .tup [encP (P22 1), .int (g22 w0 w1 1)], .tup [encP (P22 2), .int (g22 w0 w1 2)], .tup [encP (P22 3), .int (g22 w0 w1 3)]]
theorem P22_ok : ∀ i, okP (P22 i) = true
  | 0 => rfl
  | 1 => rfl
  | 2 => rfl
  | _ + 3 => rfl
theorem T22_ok {w0 w1 late most : Int} {b : Bool} (a0 : 1 ≤ w0) (a1 : w0 ≤ 9) (b0 : 1 ≤ w1) (b1 : w1 ≤ 9) (c0 : 0 ≤ late) (c1 : late ≤ 9) (d0 : 1 ≤ most) (d1 : most ≤ 20) : TskOk (T22 w0 w1 late most b) := by
  refine ⟨by show 1 ≤ 2; decide, by show 2 ≤ 8; decide, fun x hx => ?_, by show (1 : Int) ≤ 100; decide, by show (100 : Int) ≤ 100000; decide, c0, c1, d0, d1⟩
  rcases List.mem_cons.mp hx with rfl | hx
  · exact ⟨rfl, by show 0 ≤ 20; decide, fun i hi => (nomatch hi), fun i hi => by cases hi; rfl, a0, a1⟩
  · rw [List.mem_singleton.mp hx]
    exact ⟨rfl, by show 0 ≤ 20; decide, fun i hi => (nomatch hi), fun i hi => by cases hi; rfl, b0, b1⟩
theorem w22 {w0 w1 late most : Int} {b : Bool} : ∀ i, i < 4 → worthL (P22 i) (T22 w0 w1 late most b) = g22 w0 w1 i
  | 0, _ => by
    have e1 : wordL (P22 0) 100 ⟨[1], [], some 1, w0, true⟩ = "good" := by kernel_rfl
    have e2 : wordL (P22 0) 100 ⟨[5], [], some 5, w1, false⟩ = "wrong" := by kernel_rfl
    have n : ¬ (("wrong" : Str) = "good") := by decide
    simp [worthL, T22, e1, e2, n, g22]
  | 1, _ => by
    have e1 : wordL (P22 1) 100 ⟨[1], [], some 1, w0, true⟩ = "good" := by kernel_rfl
    have e2 : wordL (P22 1) 100 ⟨[5], [], some 5, w1, false⟩ = "good" := by kernel_rfl
    simp [worthL, T22, e1, e2, g22]
  | 2, _ => by
    have e1 : wordL (P22 2) 100 ⟨[1], [], some 1, w0, true⟩ = "wrong" := by kernel_rfl
    have e2 : wordL (P22 2) 100 ⟨[5], [], some 5, w1, false⟩ = "wrong" := by kernel_rfl
    have n : ¬ (("wrong" : Str) = "good") := by decide
    simp [worthL, T22, e1, e2, n, g22]
  | 3, _ => by
    have e1 : wordL (P22 3) 100 ⟨[1], [], some 1, w0, true⟩ = "good" := by kernel_rfl
    have e2 : wordL (P22 3) 100 ⟨[5], [], some 5, w1, false⟩ = "wrong" := by kernel_rfl
    have n : ¬ (("wrong" : Str) = "good") := by decide
    simp [worthL, T22, e1, e2, n, g22]
def rowO (t : Tsk) (l : Int) (x : TryR) : SO := .lst [.str x.who, .int (tryL x t l), .bl x.counts]
structure At22 (st : Store) (A : At) (S : Sch) (R : List TryR) (t : Tsk) (l : Int) (w0 w1 : Int) (pp rr : Nat) (is_ : List Nat) : Prop where
  a : SchAt st A S
  d : ∃ dc q, st = dcO dc :: q
  p : st[pp]? = some (.lst (pr22 w0 w1))
  r : st[rr]? = some (.lst (is_.map .ref))
  ll : is_.length = R.length
  i : ∀ (j i : Nat) (x : TryR), is_[j]? = some i → R[j]? = some x → st[i]? = some (rowO t l x)
  nd : (0 :: pp :: rr :: is_).Nodup
  dis : ∀ n ∈ 0 :: pp :: rr :: is_, n ∉ A.all
structure Ok22 (S : Sch) (t : Tsk) (l : Int) (n : Nat) : Prop where
  ok : SchOk S
  tk : S.tasks = [(("sum" : Str), (t, l))]
  nm : ∀ x ∈ S.tries, x.name = "sum"
  nt : S.tries.length ≤ n
  nb : S.book.length ≤ 1 + 3 * n
  dy : S.day ≤ 3 * (n : Int)

theorem row_i {st : Store} {t : Tsk} {l : Int} {x : TryR} {i : Nat} (e : st[i]? = some (rowO t l x)) : ixV st (.ref i) (.int 0) = some (.str x.who) ∧ ixV st (.ref i) (.int 1) = some (.int (tryL x t l)) ∧ ixV st (.ref i) (.int 2) = some (.bl x.counts) := by
  unfold rowO at e
  have e2 : items st (.ref i) = some [.str x.who, .int (tryL x t l), .bl x.counts] := by simp [items, e]
  unfold ixV
  simp only [e2]
  exact ⟨rfl, rfl, rfl⟩
theorem pick22 {w0 w1 v : Int} (h0 : 0 ≤ v) (h1 : v < 4) : ∃ i, i < 4 ∧ L2.atI (pr22 w0 w1) v = some (.tup [encP (P22 i), .int (g22 w0 w1 i)]) := by
  have : v = 0 ∨ v = 1 ∨ v = 2 ∨ v = 3 := by omega
  rcases this with rfl | rfl | rfl | rfl
  · exact ⟨0, by omega, rfl⟩
  · exact ⟨1, by omega, rfl⟩
  · exact ⟨2, by omega, rfl⟩
  · exact ⟨3, by omega, rfl⟩
theorem pick3' {a b c : Str} {v : Int} (h0 : 0 ≤ v) (h1 : v < 3) : ∃ s ∈ [a, b, c], L2.atI [D.str a, .str b, .str c] v = some (.str s) := by
  have : v = 0 ∨ v = 1 ∨ v = 2 := by omega
  rcases this with rfl | rfl | rfl
  · exact ⟨a, by simp, rfl⟩
  · exact ⟨b, by simp, rfl⟩
  · exact ⟨c, by simp, rfl⟩
theorem dice22 {d d' : Dice} {q : Store} : Fr (dcO d :: q) (dcO d' :: q) [0] := ⟨by simp, fun m lm hm => by
  cases m with
  | zero => exact absurd (by simp) hm
  | succ n => rfl⟩
theorem head22 {st st' : Store} (h0 : st'[0]? = st[0]?) (hd : ∃ dc q, st = dcO dc :: q) : ∃ dc q, st' = dcO dc :: q := by
  obtain ⟨dc, q, e⟩ := hd
  rw [e] at h0
  cases st' with
  | nil => simp at h0
  | cons o q' => simp at h0; exact ⟨dc, q', by rw [h0]⟩
section
variable {st st' : Store} {A A' : At} {S S' : Sch} {R : List TryR} {t : Tsk} {l w0 w1 : Int} {pp rr : Nat} {is_ : List Nat}
theorem At22.lt (z : At22 st A S R t l w0 w1 pp rr is_) : ∀ n ∈ 0 :: pp :: rr :: is_, n < st.length := fun n hn => by
  have g : ∀ {n : Nat} {o : SO}, st[n]? = some o → n < st.length := fun e => (List.getElem?_eq_some_iff.mp e).1
  rcases List.mem_cons.mp hn with rfl | hn
  · obtain ⟨dc, q, e⟩ := z.d; rw [e]; simp
  rcases List.mem_cons.mp hn with rfl | hn
  · exact g z.p
  rcases List.mem_cons.mp hn with rfl | hn
  · exact g z.r
  · obtain ⟨j, hj⟩ := List.mem_iff_getElem?.mp hn
    have hl : j < R.length := by rw [← z.ll]; exact (List.getElem?_eq_some_iff.mp hj).1
    exact g (z.i j n _ hj (List.getElem?_eq_getElem hl))
theorem At22.fr (z : At22 st A S R t l w0 w1 pp rr is_) (f : Fr st st' A.all) (a : SchAt st' A' S') (pa : ∀ n ∈ A'.all, n ∈ A.all ∨ st.length ≤ n) : At22 st' A' S' R t l w0 w1 pp rr is_ := by
  have lt := z.lt
  have kp : ∀ n ∈ 0 :: pp :: rr :: is_, st'[n]? = st[n]? := fun n hn => f.2 n (lt n hn) (z.dis n hn)
  refine ⟨a, ?_, by rw [kp pp (by simp)]; exact z.p, by rw [kp rr (by simp)]; exact z.r, z.ll, fun j i x e1 e2 => ?_, z.nd, fun n hn hz => ?_⟩
  · exact head22 (kp 0 (by simp)) z.d
  · have := List.mem_of_getElem? e1
    rw [kp i (by simp [this])]
    exact z.i j i x e1 e2
  · rcases pa n hz with g | g
    · exact z.dis n hn g
    · have := lt n hn; omega
theorem At22.off {T : Tab} (hd : PD T) {k : Nat} (z : At22 st A S R t l w0 w1 pp rr is_) {u : Int} (hu : 0 < u) (hu2 : u < 1000000) : ∃ v st', callD T (k + 1) 125 [.ref 0, .int u] st = .ok (.int v) st' ∧ 0 ≤ v ∧ v < u ∧ At22 st' A S R t l w0 w1 pp rr is_ := by
  obtain ⟨dc, q, rfl⟩ := z.d
  obtain ⟨v, d', e1, l1, u1⟩ := off_ok hd (d := dc) (u := u) hu hu2 (k := k) (p := []) (q := q)
  simp only [List.nil_append, List.length_nil] at e1
  have kp : ∀ n, n ≠ 0 → (dcO d' :: q)[n]? = (dcO dc :: q)[n]? := fun n hn => by
    cases n with
    | zero => exact absurd rfl hn
    | succ n => rfl
  have nd := z.nd
  simp only [List.nodup_cons, List.mem_cons, not_or] at nd
  have n0 : ∀ n ∈ is_, n ≠ 0 := fun n hn e => nd.1.2.2 (e ▸ hn)
  refine ⟨v, _, e1, l1, u1, z.a.keep fun n hn => kp n fun e => z.dis 0 (by simp) (e ▸ hn), ⟨_, _, rfl⟩, by rw [kp pp (Ne.symm nd.1.1)]; exact z.p, by rw [kp rr (Ne.symm nd.1.2.1)]; exact z.r, z.ll, fun j i x e1 e2 => ?_, z.nd, z.dis⟩
  rw [kp i (n0 i (List.mem_of_getElem? e1))]
  exact z.i j i x e1 e2
theorem At22.rix (z : At22 st A S R t l w0 w1 pp rr is_) {j i : Nat} (hj : is_[j]? = some i) : ixV st (.ref rr) (.int (j : Int)) = some (.ref i) := by
  have lj : j < is_.length := (List.getElem?_eq_some_iff.mp hj).1
  unfold ixV
  simp only [items, z.r]
  rw [atI_nat (by rw [List.length_map]; exact lj)]
  have := (List.getElem?_eq_some_iff.mp hj).2
  simp [this]
theorem At22.add (z : At22 st A S R t l w0 w1 pp rr is_) {x : TryR} : At22 ((st ++ [rowO t l x]).set rr (.lst ((is_ ++ [st.length]).map .ref))) A S (R ++ [x]) t l w0 w1 pp rr (is_ ++ [st.length]) := by
  have lt := z.lt
  have nd := z.nd
  simp only [List.nodup_cons, List.mem_cons, not_or] at nd
  obtain ⟨⟨n1, n2, n3⟩, ⟨n4, n5⟩, n6, n7⟩ := nd
  have lr := lt rr (by simp)
  have kp : ∀ n, n < st.length → n ≠ rr → ((st ++ [rowO t l x]).set rr (.lst ((is_ ++ [st.length]).map .ref)))[n]? = st[n]? := fun n h1 h2 => by
    rw [List.getElem?_set_ne (Ne.symm h2), List.getElem?_append_left h1]
  refine ⟨z.a.keep fun n hn => kp n (z.a.lt n hn) fun e => z.dis rr (by simp) (e ▸ hn), ?_, by rw [kp pp (lt pp (by simp)) n4]; exact z.p, by rw [List.getElem?_set_self (by simp; omega)], by simp [z.ll], fun j i y e1 e2 => ?_, ?_, fun n hn => ?_⟩
  · exact head22 (kp 0 (lt 0 (by simp)) n2) z.d
  · by_cases c : j < is_.length
    · rw [List.getElem?_append_left c] at e1
      rw [List.getElem?_append_left (by rw [← z.ll]; exact c)] at e2
      have m := List.mem_of_getElem? e1
      rw [kp i (lt i (by simp [m])) fun e => n6 (e ▸ m)]
      exact z.i j i y e1 e2
    · rw [List.getElem?_append_right (by omega)] at e1
      rw [List.getElem?_append_right (by rw [← z.ll]; omega)] at e2
      have j0 : j - is_.length = 0 := by
        have := (List.getElem?_eq_some_iff.mp e1).1
        simp at this
        omega
      rw [j0] at e1
      rw [show j - R.length = 0 by rw [← z.ll]; exact j0] at e2
      simp at e1 e2
      subst e1 e2
      rw [List.getElem?_set_ne (show rr ≠ st.length by omega)]
      simp
  · have e : 0 :: pp :: rr :: (is_ ++ [st.length]) = (0 :: pp :: rr :: is_) ++ [st.length] := rfl
    rw [e]
    refine List.nodup_append.mpr ⟨z.nd, by simp, fun m hm k hk e => ?_⟩
    have := lt m hm
    simp at hk
    omega
  · have e : 0 :: pp :: rr :: (is_ ++ [st.length]) = (0 :: pp :: rr :: is_) ++ [st.length] := rfl
    rw [e] at hn
    rcases List.mem_append.mp hn with h | h
    · exact z.dis n h
    · intro hz
      rw [List.mem_singleton.mp h] at hz
      have := z.a.lt _ hz
      omega
theorem At22.put (z : At22 st A S R t l w0 w1 pp rr is_) {j i : Nat} {y : TryR} (hj : is_[j]? = some i) : At22 (st.set i (rowO t l y)) A S (R.set j y) t l w0 w1 pp rr is_ := by
  have lt := z.lt
  have nd := z.nd
  simp only [List.nodup_cons, List.mem_cons, not_or] at nd
  obtain ⟨⟨n1, n2, n3⟩, ⟨n4, n5⟩, n6, n7⟩ := nd
  have mi := List.mem_of_getElem? hj
  have li := lt i (by simp [mi])
  have lj := (List.getElem?_eq_some_iff.mp hj).1
  have ne : ∀ {x : Nat}, x ∉ is_ → i ≠ x := fun h e => h (e ▸ mi)
  refine ⟨z.a.keep fun n hn => List.getElem?_set_ne (show i ≠ n from fun e => z.dis i (by simp [mi]) (by rw [e]; exact hn)), ?_, by rw [List.getElem?_set_ne (ne n5)]; exact z.p, by rw [List.getElem?_set_ne (ne n6)]; exact z.r, by simp [z.ll], fun j2 i2 x e1 e2 => ?_, z.nd, z.dis⟩
  · obtain ⟨dc, q, rfl⟩ := z.d
    cases i with
    | zero => exact absurd mi n3
    | succ i => exact ⟨dc, _, rfl⟩
  · by_cases c : j2 = j
    · subst c
      rw [hj] at e1
      cases e1
      rw [List.getElem?_set_self (by rw [← z.ll]; exact lj)] at e2
      cases e2
      exact List.getElem?_set_self li
    · rw [List.getElem?_set_ne (fun q => c q.symm)] at e2
      have ni : i ≠ i2 := fun q => by
        subst q
        have l2 := (List.getElem?_eq_some_iff.mp e1)
        have l1 := (List.getElem?_eq_some_iff.mp hj)
        exact c ((List.getElem_inj n7).mp (l2.2.trans l1.2.symm))
      rw [List.getElem?_set_ne ni]
      exact z.i j2 i2 x e1 e2
end
section
variable {T : Tab} (h : PR T) (ht : PT T) (hs : PS T) (hd : PD T) (hm : PL T) {st : Store} {A : At} {S : Sch} {t : Tsk} {l w0 w1 : Int} {pp rr : Nat} {is_ : List Nat}
include h ht hs hd
theorem k22_turn {late most : Int} {b : Bool} (et : t = T22 w0 w1 late most b) (tk : TskOk t) (l0 : 0 ≤ l) (l1 : l ≤ 999) {n : Nat} (hn : n < 20) (z : At22 st A S S.tries t l w0 w1 pp rr is_) (ok : Ok22 S t l n) {y0 y5 y6 y7 x12 x13 x14 x15 x16 : Option D} :
    ∃ st' A' S' is' z13 z14 z15 z16, exSs T (callD T 59) (forB f_law_k22.body) [y0, some (.ref 0), some (.ref A.p), some (.int late), some (.int most), y5, y6, y7, some (.int l), some (.ref pp), some (.ref rr), some (.int S.day), x12, x13, x14, x15, x16, none, none, none] st =
      .next [y0, some (.ref 0), some (.ref A.p), some (.int late), some (.int most), y5, y6, y7, some (.int l), some (.ref pp), some (.ref rr), some (.int S'.day), x12, z13, z14, z15, z16, none, none, none] st' ∧ At22 st' A' S' S'.tries t l w0 w1 pp rr is' ∧ Ok22 S' t l (n + 1) ∧ A'.p = A.p := by
  have late0 : t.late = late := by rw [et]; rfl
  have nt := ok.nt
  have nb := ok.nb
  have dy := ok.dy
  have d0 := ok.ok.d0
  have lk : S.tasks.lookup ("sum" : Str) = some (t, l) := by rw [ok.tk]; rfl
  obtain ⟨v, s1, e1, v0, v1, z1⟩ := z.off hd (k := 58) (u := 4) (by omega) (by omega)
  obtain ⟨s2, e2, a2, le2, f2⟩ := turn_ok h hs (k := 57) z1.a ok.ok (d := S.day + v) (by omega) (by omega)
  have z2 := z1.fr (S' := turnS S (S.day + v)) ⟨by omega, fun m _ hm => f2 m hm⟩ a2 fun n hn => .inl hn
  obtain ⟨u, s3, e3, u0, u1, z3⟩ := z2.off hd (k := 58) (u := 4) (by omega) (by omega)
  obtain ⟨i, hi, e4⟩ := pick22 (w0 := w0) (w1 := w1) u0 u1
  obtain ⟨c, s4, e5, c0, c1, z4⟩ := z3.off hd (k := 58) (u := 3) (by omega) (by omega)
  obtain ⟨w, hw, e6⟩ := pick3' (a := "ann") (b := "bo") (c := "cy") c0 c1
  have nw : nmOk w = true := by
    simp only [List.mem_cons, List.not_mem_nil, or_false] at hw
    rcases hw with rfl | rfl | rfl <;> decide
  have rm : Room S := ⟨by omega, by omega, by rw [ok.tk]; show 1 < 1000; decide⟩
  have ok2 := ok_turn ok.ok rm (d := S.day + v) (by omega) (by omega)
  have rm2 : Room (turnS S (S.day + v)) := ⟨by show S.tries.length < 60; omega, by show (S.book ++ _).length < 1000; simp; omega, by show S.tasks.length < 1000; rw [ok.tk]; show 1 < 1000; decide⟩
  obtain ⟨s5, e7, a5, le5, f5⟩ := hand_ok h hs (k := 59) (by omega) z4.a ok2 (w := w) (n := "sum") (P := P22 i) nw (by show (S.tasks.lookup ("sum" : Str)).isSome = true; rw [lk]; rfl) (P22_ok i)
  have ok5 := ok_hand ok2 rm2 (w := w) (n := "sum") (P := P22 i) nw (by decide) (by show (S.tasks.lookup ("sum" : Str)).isSome = true; rw [lk]; rfl) (P22_ok i)
  have z5 := z4.fr (A' := { A with is_ := A.is_ ++ [s4.length] }) (S' := handS (turnS S (S.day + v)) w "sum" (P22 i)) ⟨by omega, fun m lm hm => f5 m lm hm⟩ a5 fun n hn => by
    have h2 : n ∈ A.all ++ [s4.length] := hn
    rcases List.mem_append.mp h2 with q | q
    · exact .inl q
    · exact .inr (by rw [List.mem_singleton.mp q]; exact Nat.le_refl _)
  have z6 := z5.add (x := ⟨w, "sum", P22 i, S.day + v, true⟩)
  have tv : tryL ⟨w, "sum", P22 i, S.day + v, true⟩ t l = mx 0 (g22 w0 w1 i - late * mx 0 (S.day + v - l)) := by
    unfold tryL
    simp only
    rw [late0, et, w22 i hi]
  have eS : (handS (turnS S (S.day + v)) w "sum" (P22 i)).tries = S.tries ++ [⟨w, "sum", P22 i, S.day + v, true⟩] := rfl
  have lis : is_.length < LIM := by rw [lim_eq, z.ll]; omega
  have s6a : shV s5 (.lst [.str w, .int (mx 0 (g22 w0 w1 i - late * mx 0 (S.day + v - l))), .bl true]) = .ok (.ref s5.length) (s5 ++ [rowO t l ⟨w, "sum", P22 i, S.day + v, true⟩]) := by
    unfold rowO
    rw [tv]; rfl
  have r6 : (s5 ++ [rowO t l ⟨w, "sum", P22 i, S.day + v, true⟩])[rr]? = some (.lst (is_.map .ref)) := by rw [List.getElem?_append_left (z5.lt rr (by simp))]; exact z5.r
  have s6b : bmV .append (s5 ++ [rowO t l ⟨w, "sum", P22 i, S.day + v, true⟩]) (.ref rr) [.ref s5.length] = .ok .non ((s5 ++ [rowO t l ⟨w, "sum", P22 i, S.day + v, true⟩]).set rr (.lst ((is_ ++ [s5.length]).map .ref))) := by
    simp [bmV, r6, lis]
  have t6 : bmTy .append s5 (.ref rr) = true := by simp [bmTy, litems, z5.r]
  have p3 : ixV s3 (.ref pp) (.int u) = some (.tup [encP (P22 i), .int (g22 w0 w1 i)]) := by
    unfold ixV
    simp only [items, z3.p]
    exact e4
  have b64 : inB64 late = true := by
    have := tk.a0
    have := tk.a1
    rw [late0] at *
    simp [inB64]; omega
  have mx2 : ∀ (s : Store) (i j : Int), bfV .max2 s [.int i, .int j] = some (.int (mx i j)) := fun _ _ _ => rfl
  obtain ⟨b5, s7, e8, b50, b51, z7⟩ := z6.off hd (k := 58) (u := 5) (by omega) (by omega)
  have hp1 := z1.a.hp
  have hp4 := z4.a.hp
  have fin7 : Ok22 (handS (turnS S (S.day + v)) w "sum" (P22 i)) t l (n + 1) := ⟨ok5, ok.tk, fun x hx => by
      rcases List.mem_append.mp hx with q | q
      · exact ok.nm x q
      · rw [List.mem_singleton.mp q], by show (S.tries ++ _).length ≤ n + 1; simp; omega, by show (S.book ++ [_] ++ [_]).length ≤ _; simp; omega, by show S.day + v ≤ _; omega⟩
  have mulr : ∀ (s : Store) (X : Int), binV .mul s (.int late) (.int X) = some (.int (late * X)) := fun s X => by simp [binV, b64]
  generalize (s5 ++ [rowO t l ⟨w, "sum", P22 i, S.day + v, true⟩]) = s5r at *
  have lisn : (is_ ++ [s5.length]).length = S.tries.length + 1 := by simp [z.ll]
  generalize is_ ++ [s5.length] = is2 at *
  by_cases c5 : b5 = 0
  · obtain ⟨j, s8, e9, j0, j1, z8⟩ := z7.off hd (k := 58) (u := (is2.length : Int)) (by omega) (by omega)
    obtain ⟨jn, rfl⟩ := Int.eq_ofNat_of_zero_le j0
    have hjn : jn < is2.length := by omega
    have hjt : jn < (S.tries ++ [(⟨w, "sum", P22 i, S.day + v, true⟩ : TryR)]).length := by rw [List.length_append, List.length_singleton]; omega
    have ij := List.getElem?_eq_getElem hjn
    have xj := List.getElem?_eq_getElem hjt
    generalize is2[jn] = ix at ij
    generalize (S.tries ++ [(⟨w, "sum", P22 i, S.day + v, true⟩ : TryR)])[jn] = xx at xj
    have len7 : lenD s7 (.ref rr) = some is2.length := by simp [lenD, items, z7.r]
    have rx8 := z8.rix ij
    obtain ⟨_, _, g2⟩ := row_i (z8.i jn ix xx ij xj)
    by_cases cc : xx.counts = true
    · obtain ⟨s9, e10, a9, le9, f9⟩ := strike_ok h ht hs (k := 59) (by omega) z8.a ok5 (j := jn) (x := xx) xj cc (ok_strike ok5 ⟨by show (S.tries ++ _).length < 60; simp; omega, by show (S.book ++ [_] ++ [_]).length < 1000; simp; omega, by show S.tasks.length < 1000; rw [ok.tk]; show 1 < 1000; decide⟩ xj)
      have z9 := z8.fr (S' := strikeS (handS (turnS S (S.day + v)) w "sum" (P22 i)) jn xx) ⟨by omega, fun m _ hm => f9 m hm⟩ a9 fun n hn => .inl hn
      have z10 := z9.put (y := { xx with counts := false }) ij
      have rx9 := z9.rix ij
      have st9 : setIV s9 (.ref ix) (.int 2) (.bl false) = .ok () (s9.set ix (rowO t l { xx with counts := false })) := by
        have q := z9.i jn ix xx ij xj
        unfold rowO at q
        simp only [setIV, q]
        rfl
      have nm : xx.name = "sum" := fin7.nm xx (List.mem_of_getElem? xj)
      have hp8 := z8.a.hp
      refine ⟨_, _, strikeS (handS (turnS S (S.day + v)) w "sum" (P22 i)) jn xx, _, some (encP (P22 i)), some (.int (g22 w0 w1 i)), some (.str w), some (.int (jn : Int)), ?_, z10, ⟨ok_strike ok5 ⟨by show (S.tries ++ _).length < 60; simp; omega, by show (S.book ++ [_] ++ [_]).length < 1000; simp; omega, by show S.tasks.length < 1000; rw [ok.tk]; show 1 < 1000; decide⟩ xj, ok.tk, fun x hx => ?_, by show ((S.tries ++ _).set _ _).length ≤ n + 1; simp; omega, by show (S.book ++ [_] ++ [_] ++ [_]).length ≤ _; simp; omega, by show S.day + v ≤ _; omega⟩, rfl⟩
      · show _ = OutS.next [y0, some (.ref 0), some (.ref A.p), some (.int late), some (.int most), y5, y6, y7, some (.int l), some (.ref pp), some (.ref rr), some (.int (S.day + v)), x12, some (encP (P22 i)), some (.int (g22 w0 w1 i)), some (.str w), some (.int (jn : Int)), none, none, none] _
        generalize encP (P22 i) = PP at *
        generalize (s9.set ix (rowO t l { xx with counts := false })) = s10 at *
        generalize (s5r.set rr (.lst (is2.map .ref))) = s6 at *
        rw [cc] at g2
        simp [f_law_k22, forB, e1, hp1, e2, e3, p3, asgV, e5, e6, hp4, e7, t6, mulr, mx2, s6a, s6b, e8, c5, len7, e9, rx8, g2, hp8, e10, rx9, st9]
      · rcases List.mem_or_eq_of_mem_set hx with q | rfl
        · exact fin7.nm x q
        · exact nm
    · have cf : xx.counts = false := by simpa using cc
      refine ⟨_, _, handS (turnS S (S.day + v)) w "sum" (P22 i), _, some (encP (P22 i)), some (.int (g22 w0 w1 i)), some (.str w), some (.int (jn : Int)), ?_, z8, fin7, rfl⟩
      show _ = OutS.next [y0, some (.ref 0), some (.ref A.p), some (.int late), some (.int most), y5, y6, y7, some (.int l), some (.ref pp), some (.ref rr), some (.int (S.day + v)), x12, some (encP (P22 i)), some (.int (g22 w0 w1 i)), some (.str w), some (.int (jn : Int)), none, none, none] _
      generalize encP (P22 i) = PP at *
      generalize (s5r.set rr (.lst (is2.map .ref))) = s6 at *
      rw [cf] at g2
      simp [f_law_k22, forB, e1, hp1, e2, e3, p3, asgV, e5, e6, hp4, e7, t6, mulr, mx2, s6a, s6b, e8, c5, len7, e9, rx8, g2]
  · refine ⟨_, _, handS (turnS S (S.day + v)) w "sum" (P22 i), _, some (encP (P22 i)), some (.int (g22 w0 w1 i)), some (.str w), x16, ?_, z7, fin7, rfl⟩
    show _ = OutS.next [y0, some (.ref 0), some (.ref A.p), some (.int late), some (.int most), y5, y6, y7, some (.int l), some (.ref pp), some (.ref rr), some (.int (S.day + v)), x12, some (encP (P22 i)), some (.int (g22 w0 w1 i)), some (.str w), x16, none, none, none] _
    generalize encP (P22 i) = PP at *
    generalize (s5r.set rr (.lst (is2.map .ref))) = s6 at *
    simp [f_law_k22, forB, e1, hp1, e2, e3, p3, asgV, e5, e6, hp4, e7, t6, mulr, mx2, s6a, s6b, e8, c5]
omit h ht hs hd in
theorem At22.zip (z : At22 st A S S.tries t l w0 w1 pp rr is_) {x : Nat × TryR} (hx : x ∈ is_.zip S.tries) : st[x.1]? = some (rowO t l x.2) := by
  obtain ⟨j, hj⟩ := List.mem_iff_getElem?.mp hx
  rw [List.getElem?_zip_eq_some] at hj
  exact z.i j _ _ hj.1 hj.2
include hm
theorem k22_mark (tk : TskOk t) {n : Nat} (z : At22 st A S S.tries t l w0 w1 pp rr is_) (ok : Ok22 S t l n) {w : Str} (nw : nmOk w = true) {y0 y1 y3 y6 y7 y8 y9 y11 y12 y13 y14 y16 x17 x18 x19 : Option D} :
    ∃ z17 z18 z19, exSs T (callD T 59) (forB (tailB 12 f_law_k22.body)) [y0, y1, some (.ref A.p), y3, some (.int t.most), some (.str (ruleS t.best)), y6, y7, y8, y9, some (.ref rr), y11, y12, y13, y14, some (.str w), y16, x17, x18, x19] st =
      .next [y0, y1, some (.ref A.p), y3, some (.int t.most), some (.str (ruleS t.best)), y6, y7, y8, y9, some (.ref rr), y11, y12, y13, y14, some (.str w), y16, z17, z18, z19] st := by
  have lk : S.tasks.lookup ("sum" : Str) = some (t, l) := by rw [ok.tk]; rfl
  have sw := nmOk_sOk nw
  have e1 : ∀ Y17 Y18 Y19, lcR T (callD T 59) (.ix (.v 18) (.c (.int 1))) (.n 18) (.cons (.band (.cons (.cmp .eq (.ix (.v 18) (.c (.int 0))) (.v 15)) (.cons (.ix (.v 18) (.c (.int 2))) .nil))) .nil) [18] [y0, y1, some (.ref A.p), y3, some (.int t.most), some (.str (ruleS t.best)), y6, y7, y8, y9, some (.ref rr), y11, y12, y13, y14, some (.str w), y16, Y17, Y18, Y19] (fun s => stays s (.ref rr) (is_.map .ref)) (is_.map .ref) st =
      .ok (((S.tries.filter (forT "sum" w)).map fun x => tryL x t l).map .int) st := by
    intro Y17 Y18 Y19
    have er : is_.map D.ref = (is_.zip S.tries).map fun x => .ref x.1 := by
      have e : (is_.zip S.tries).map (·.1) = is_ := List.map_fst_zip (by rw [z.ll]; exact Nat.le_refl _)
      conv => lhs; rw [← e, List.map_map]
      rfl
    have ev : (((S.tries.filter (forT "sum" w)).map fun x => tryL x t l).map D.int) = (is_.zip S.tries).filterMap fun x => if forT "sum" w x.2 = true then some (.int (tryL x.2 t l)) else none := by
      have e : (is_.zip S.tries).map (·.2) = S.tries := List.map_snd_zip (by rw [z.ll]; exact Nat.le_refl _)
      conv => lhs; rw [← e]
      induction is_.zip S.tries with
      | nil => rfl
      | cons x l2 ih =>
        by_cases c : forT "sum" w x.2 = true
        · simp [c] at ih ⊢; exact ih
        · simp [c] at ih ⊢; exact ih
    have sty : stays st (.ref rr) (is_.map .ref) = true := by
      unfold stays
      simp only [z.r]
      exact D.beqs_refl _
    rw [ev]
    conv => lhs; rw [er]
    refine lcR_filtf (by rw [← er]; exact sty) fun x hx => ?_
    obtain ⟨g0, g1, g2⟩ := row_i (z.zip hx)
    have mx := (List.of_mem_zip hx).2
    have ty := ok.ok.tr _ mx
    have s2 := nmOk_sOk ty.who
    have nm := ok.nm _ mx
    by_cases c1 : x.2.who = w
    · by_cases c2 : x.2.counts = true
      · simp [lcT_eq, asgV, wipeD, g0, g1, g2, s2, sw, c1, c2, forT, nm]
      · have c2 : x.2.counts = false := by simpa using c2
        simp [lcT_eq, asgV, wipeD, g0, g1, g2, s2, sw, c1, c2, forT, nm]
    · simp [lcT_eq, asgV, wipeD, g0, g1, g2, s2, sw, c1, forT, nm]
  have wk : wkOf st (.ref rr) = some ⟨is_.map .ref, fun s => stays s (.ref rr) (is_.map .ref)⟩ := by
    unfold wkOf
    simp only [items, z.r]
    rfl
  have few := ok.ok.few
  have lf : (S.tries.filter (forT "sum" w)).length ≤ S.tries.length := List.length_filter_le ..
  have lz : (((S.tries.filter (forT "sum" w)).map fun x => tryL x t l).map D.int).length ≤ LIM := by rw [List.length_map, List.length_map, lim_eq]; omega
  have k0 := tk.k0
  have ct := cut_take (xs := ((S.tries.filter (forT "sum" w)).map fun x => tryL x t l).map D.int) (m := t.most) (by omega)
  have ec : (((S.tries.filter (forT "sum" w)).map fun x => tryL x t l).map D.int).take t.most.toNat = (cntL S w "sum" t l).map .int := by
    unfold cntL
    rw [← List.map_take, ← List.map_take]
  rw [ec] at ct
  have e2 := mark_ok h ht hs (k := 59) (by omega) z.a ok.ok (w := w) (n := "sum") (by decide) nw (by rw [lk]; rfl)
  have em : markL S w "sum" = if cntL S w "sum" t l = [] then none else if t.best = true then listMax (cntL S w "sum" t l) else (cntL S w "sum" t l).getLast? := by
    unfold markL; rw [lk]
  have en := fun ms => eqv_nilI (ms := ms) (st := st)
  have al := fun o => alike_refl hm 0 (x := optD o) (k := 59) (st := st) (by rw [dp_opt]; exact Nat.le_refl _) (by omega) (by cases o <;> rfl)
  have hp := z.a.hp
  have i5 := fun (l : List Int) => intsD_all (l := l)
  have sb : sOk "best" = true := by decide
  have sl : sOk "last" = true := by decide
  have nb : ¬ (("last" : Str) = "best") := by decide
  have alI : ∀ xs : List Int, L2.atI (xs.map D.int) (-1) = xs.getLast?.map D.int := fun xs => by rw [at_last, List.getLast?_map]
  rw [em] at e2
  generalize cntL S w "sum" t l = ms at *
  generalize (((S.tries.filter (forT "sum" w)).map fun x => tryL x t l).map D.int) = vs at *
  generalize is_.map D.ref = rs at *
  have enn : eqv? st (.lst []) (.lst []) = some true := by
    have := en []
    simpa using this
  by_cases c : ms = []
  · subst c
    rw [if_pos rfl] at e2
    refine ⟨some (.lst []), x18, some .non, ?_⟩
    have al0 := al none
    simp only [optD] at e2 al0
    simp only [List.map_nil] at ct
    simp [f_law_k22, tailB, forB, wk, e1, lz, slV, litems, optI, ct, enn, hp, e2, al0]
  · rw [if_neg c] at e2
    have enc : eqv? st (.lst (ms.map .int)) (.lst []) = some false := by rw [en]; simp [c]
    cases tb : t.best with
    | true =>
      rw [tb] at e2
      obtain ⟨m, hm2⟩ : ∃ m, listMax ms = some m := by
        cases ms with
        | nil => exact absurd rfl c
        | cons x r => exact ⟨_, rfl⟩
      have al0 := al (some m)
      rw [if_pos rfl, hm2] at e2
      simp only [optD] at e2 al0
      refine ⟨some (.lst (ms.map .int)), x18, some (.int m), ?_⟩
      simp only [tb, ruleS, if_true] at e1
      simp [f_law_k22, tailB, forB, wk, e1, lz, slV, litems, optI, ct, enc, ruleS, tb, sb, bfV, i5, hm2, hp, e2, al0]
    | false =>
      rw [tb] at e2
      obtain ⟨m, hm2⟩ : ∃ m, ms.getLast? = some m := by
        cases q : ms.getLast? with
        | some m => exact ⟨m, rfl⟩
        | none => exact absurd (List.getLast?_eq_none_iff.mp q) c
      have al0 := al (some m)
      rw [if_neg (by decide), hm2] at e2
      simp only [optD] at e2 al0
      refine ⟨some (.lst (ms.map .int)), x18, some (.int m), ?_⟩
      simp only [tb, ruleS, Bool.false_eq_true, if_false] at e1
      simp [f_law_k22, tailB, forB, wk, e1, lz, slV, litems, optI, ct, enc, ruleS, tb, sb, sl, nb, alI, hm2, hp, e2, al0]
theorem law22 {ns : List Int} (hl : ns.length ≤ 63) (hT : T.fn 259 = some f_law_k22) : ∃ st, callD T 60 259 [.scr ns] [] = .ok (.bl true) st := by
  obtain ⟨d, e0⟩ := dice_ok hd hl (c := 0) (k := 58) (st := [])
  simp only [List.nil_append, List.length_nil] at e0
  have i1 : callD T 59 78 [.ref 1] [dcO d, .ins 17 []] = .ok .non (dcO d :: [.ins 17 [.int 0, .ref 2, .ref 3, .ref 4], .dic [] [], .lst [], .lst []]) := school_init hs (k := 58) (st := [dcO d])
  have off : ∀ (d : Dice) (q : Store) (u : Int), 0 < u → u < 1000000 → ∃ v d', callD T 59 125 [.ref 0, .int u] (dcO d :: q) = .ok (.int v) (dcO d' :: q) ∧ 0 ≤ v ∧ v < u := fun d q u h1 h2 => by
    have := off_ok hd (d := d) (u := u) h1 h2 (k := 58) (p := []) (q := q)
    simpa only [List.nil_append, List.length_nil] using this
  obtain ⟨Q4, hQ4⟩ : ∃ Q4 : Store, Q4 = [.ins 17 [.int 0, .ref 2, .ref 3, .ref 4], .dic [] [], .lst [], .lst []] := ⟨_, rfl⟩
  obtain ⟨late, d1, e1, l0, l1⟩ := off d Q4 10 (by omega) (by omega)
  obtain ⟨mo, d2, e2, m0, m1⟩ := off d1 Q4 4 (by omega) (by omega)
  obtain ⟨ru, d3, e3, r0, r1⟩ := off d2 Q4 2 (by omega) (by omega)
  obtain ⟨b, eb⟩ : ∃ b : Bool, L2.atI [D.str "best", .str "last"] ru = some (.str (ruleS b)) := by
    have : ru = 0 ∨ ru = 1 := by omega
    rcases this with rfl | rfl
    · exact ⟨true, rfl⟩
    · exact ⟨false, rfl⟩
  obtain ⟨v0, d4, e4, v00, v01⟩ := off d3 Q4 9 (by omega) (by omega)
  obtain ⟨v1, d5, e5, v10, v11⟩ := off d4 Q4 9 (by omega) (by omega)
  obtain ⟨la, d6, e6, la0, la1⟩ := off d5 Q4 20 (by omega) (by omega)
  obtain ⟨lb, d7, e7, lb0, lb1⟩ := off d6 Q4 2 (by omega) (by omega)
  obtain ⟨l, el, ll0, ll1⟩ : ∃ l : Int, L2.atI [D.int la, .int 2] lb = some (.int l) ∧ 0 ≤ l ∧ l ≤ 999 := by
    have : lb = 0 ∨ lb = 1 := by omega
    rcases this with rfl | rfl
    · exact ⟨la, rfl, by omega, by omega⟩
    · exact ⟨2, rfl, by omega, by omega⟩
  have tk := T22_ok (w0 := 1 + v0) (w1 := 1 + v1) (late := late) (most := 1 + mo) (b := b) (by omega) (by omega) (by omega) (by omega) l0 (by omega) (by omega) (by omega)
  have kk : encK (T22 (1 + v0) (1 + v1) late (1 + mo) b) = .tup [.tup [.tup [.tup [.int 1], .tup [.tup [], .int 1], .int (1 + v0), .bl true], .tup [.tup [.int 5], .tup [.tup [], .int 5], .int (1 + v1), .bl false]], .int 100, .int late, .int (1 + mo), .str (ruleS b)] := rfl
  have a0 := new_at (q := [dcO d7]) (r := []) (n := 1) rfl
  rw [List.append_nil] at a0
  have a0' : SchAt (dcO d7 :: Q4) ⟨1, 2, 3, 4, []⟩ newS := by rw [hQ4]; exact a0
  have ok0 : SchOk newS := ⟨by decide, by decide, fun x h => (nomatch h), List.nodup_nil, fun x h => (nomatch h), fun x h => (nomatch h), by decide, by decide, by decide⟩
  have oka : SchOk (mendS newS "sum" (T22 (1 + v0) (1 + v1) late (1 + mo) b) l) := ok_mend ok0 ⟨by decide, by decide, by decide⟩ (by decide) tk ll0 ll1
  obtain ⟨s8, e8, a8, le8, f8⟩ := mend_ok h ht hs (k := 59) (by omega) a0' ok0 (n := "sum") (by decide) tk ll0 ll1 oka
  have len8 : s8.length = 5 := by rw [le8, hQ4]; rfl
  have z8 : At22 (s8 ++ [.lst (pr22 (1 + v0) (1 + v1))] ++ [.lst []]) ⟨1, 2, 3, 4, []⟩ (mendS newS "sum" (T22 (1 + v0) (1 + v1) late (1 + mo) b) l) [] (T22 (1 + v0) (1 + v1) late (1 + mo) b) l (1 + v0) (1 + v1) 5 6 [] := by
    refine ⟨(a8.more).more, ?_, by rw [List.append_assoc, List.getElem?_append_right (by omega), len8]; rfl, by rw [List.getElem?_append_right (by rw [List.length_append, len8]; show 6 ≤ 6; decide), List.length_append, len8]; rfl, rfl, fun j i x q => by simp at q, by decide, by decide⟩
    have h0 := f8 0 (by decide)
    obtain ⟨dc, q, e⟩ := head22 (st := dcO d7 :: Q4) (st' := s8) h0 ⟨_, _, rfl⟩
    exact ⟨dc, q ++ [.lst (pr22 (1 + v0) (1 + v1))] ++ [.lst []], by rw [e]; rfl⟩
  have ok8 : Ok22 (mendS newS "sum" (T22 (1 + v0) (1 + v1) late (1 + mo) b) l) (T22 (1 + v0) (1 + v1) late (1 + mo) b) l 0 := ⟨oka, rfl, fun x hx => (nomatch hx), by show 0 ≤ 0; decide, by show 1 ≤ 1 + 3 * 0; decide, by show (0 : Int) ≤ 3 * ((0 : Nat) : Int); decide⟩
  have n1 : shV s8 (.lst [.tup [encP (P22 0), .int (1 + v0)], .tup [encP (P22 1), .int ([1 + v0, 1 + v1] : List Int).sum], .tup [encP (P22 2), .int 0]]) = .ok (.ref 5) (s8 ++ [.lst [.tup [encP (P22 0), .int (1 + v0)], .tup [encP (P22 1), .int ([1 + v0, 1 + v1] : List Int).sum], .tup [encP (P22 2), .int 0]]]) := by
    unfold shV; rw [len8]
  have n2 : bmV .append (s8 ++ [.lst [.tup [encP (P22 0), .int (1 + v0)], .tup [encP (P22 1), .int ([1 + v0, 1 + v1] : List Int).sum], .tup [encP (P22 2), .int 0]]]) (.ref 5) [.tup [encP (P22 3), .int (1 + v0)]] = .ok .non (s8 ++ [.lst (pr22 (1 + v0) (1 + v1))]) := by
    have g : (s8 ++ [SO.lst [.tup [encP (P22 0), .int (1 + v0)], .tup [encP (P22 1), .int ([1 + v0, 1 + v1] : List Int).sum], .tup [encP (P22 2), .int 0]]])[5]? = some (.lst [.tup [encP (P22 0), .int (1 + v0)], .tup [encP (P22 1), .int ([1 + v0, 1 + v1] : List Int).sum], .tup [encP (P22 2), .int 0]]) := by
      rw [List.getElem?_append_right (by omega), len8]; rfl
    have lz : (3 : Nat) < LIM := by rw [lim_eq]; omega
    unfold bmV
    simp only [g]
    refine (if_pos (show (3 : Nat) < LIM from lz)).trans ?_
    congr 1
    have e5 : (5 : Nat) = s8.length := len8.symm
    rw [e5, List.set_append_right _ _ (Nat.le_refl _), Nat.sub_self]
    have gs : g22 (1 + v0) (1 + v1) 1 = ([1 + v0, 1 + v1] : List Int).sum := by simp [g22]
    show s8 ++ [SO.lst _] = s8 ++ [SO.lst (pr22 (1 + v0) (1 + v1))]
    unfold pr22
    rw [gs]
    rfl
  have n3 : bmTy .append (s8 ++ [.lst [.tup [encP (P22 0), .int (1 + v0)], .tup [encP (P22 1), .int ([1 + v0, 1 + v1] : List Int).sum], .tup [encP (P22 2), .int 0]]]) (.ref 5) = true := by
    have g : (s8 ++ [SO.lst [.tup [encP (P22 0), .int (1 + v0)], .tup [encP (P22 1), .int ([1 + v0, 1 + v1] : List Int).sum], .tup [encP (P22 2), .int 0]]])[5]? = some (.lst [.tup [encP (P22 0), .int (1 + v0)], .tup [encP (P22 1), .int ([1 + v0, 1 + v1] : List Int).sum], .tup [encP (P22 2), .int 0]]) := by
      rw [List.getElem?_append_right (by omega), len8]; rfl
    unfold bmTy litems
    simp only [g]
    rfl
  have n4 : shV (s8 ++ [.lst (pr22 (1 + v0) (1 + v1))]) (.lst []) = .ok (.ref 6) (s8 ++ [.lst (pr22 (1 + v0) (1 + v1))] ++ [.lst []]) := by
    unfold shV; rw [List.length_append, len8]; rfl
  have p0 : encP (P22 0) = .tup [.tup [.str "give", .tup [.str "num", .int 1]]] := rfl
  have p1 : encP (P22 1) = .tup [.tup [.str "give", .tup [.str "in", .int 0]]] := rfl
  have p2 : encP (P22 2) = .tup [] := rfl
  have p3 : encP (P22 3) = .tup [.tup [.str "give", .tup [.str "or", .tup [.str "num", .int 0], .tup [.str "num", .int 1]]]] := rfl
  obtain ⟨tn, s9, e9, tn0, tn1, z9⟩ := z8.off hd (k := 58) (u := 20) (by omega) (by omega)
  have loop : ∀ (xs : List D) {n : Nat} {S : Sch} {st : Store} {A : At} {is_ : List Nat} {x12 x13 x14 x15 x16 : Option D}, A.p = 1 → At22 st A S S.tries (T22 (1 + v0) (1 + v1) late (1 + mo) b) l (1 + v0) (1 + v1) 5 6 is_ → Ok22 S (T22 (1 + v0) (1 + v1) late (1 + mo) b) l n → n + xs.length ≤ 20 →
      ∃ S' st' A' is' n' z12 z13 z14 z15 z16, forR T (callD T 59) (.n 12) (forB f_law_k22.body) (fun _ => true) xs [some (.scr ns), some (.ref 0), some (.ref 1), some (.int late), some (.int (1 + mo)), some (.str (ruleS b)), some (.tup [.int (1 + v0), .int (1 + v1)]), some (.tup [.tup [.tup [.int 1], .tup [.tup [], .int 1], .int (1 + v0), .bl true], .tup [.tup [.int 5], .tup [.tup [], .int 5], .int (1 + v1), .bl false]]), some (.int l), some (.ref 5), some (.ref 6), some (.int S.day), x12, x13, x14, x15, x16, none, none, none] st =
        .next [some (.scr ns), some (.ref 0), some (.ref 1), some (.int late), some (.int (1 + mo)), some (.str (ruleS b)), some (.tup [.int (1 + v0), .int (1 + v1)]), some (.tup [.tup [.tup [.int 1], .tup [.tup [], .int 1], .int (1 + v0), .bl true], .tup [.tup [.int 5], .tup [.tup [], .int 5], .int (1 + v1), .bl false]]), some (.int l), some (.ref 5), some (.ref 6), some (.int S'.day), z12, z13, z14, z15, z16, none, none, none] st' ∧ A'.p = 1 ∧ At22 st' A' S' S'.tries (T22 (1 + v0) (1 + v1) late (1 + mo) b) l (1 + v0) (1 + v1) 5 6 is' ∧ Ok22 S' (T22 (1 + v0) (1 + v1) late (1 + mo) b) l n' := by
    intro xs
    induction xs with
    | nil => intro n S st A is_ x12 x13 x14 x15 x16 hA z ok _; exact ⟨S, st, A, is_, n, x12, x13, x14, x15, x16, by simp, hA, z, ok⟩
    | cons y xs ih =>
      intro n S st A is_ x12 x13 x14 x15 x16 hA z ok hl
      rw [List.length_cons] at hl
      obtain ⟨st1, A1, S1, is1, z13, z14, z15, z16, e, zz, ok1, pA⟩ := k22_turn h ht hs hd rfl tk ll0 ll1 (n := n) (by omega) z ok (y0 := some (.scr ns)) (y5 := some (.str (ruleS b))) (y6 := some (.tup [.int (1 + v0), .int (1 + v1)])) (y7 := some (.tup [.tup [.tup [.int 1], .tup [.tup [], .int 1], .int (1 + v0), .bl true], .tup [.tup [.int 5], .tup [.tup [], .int 5], .int (1 + v1), .bl false]])) (x12 := some y) (x13 := x13) (x14 := x14) (x15 := x15) (x16 := x16)
      rw [hA] at e pA
      obtain ⟨S2, st2, A2, is2, n2, z12, z13', z14', z15', z16', e', hA2, zz2, ok2⟩ := ih (n := n + 1) (x12 := some y) (x13 := z13) (x14 := z14) (x15 := z15) (x16 := z16) pA zz ok1 (by omega)
      exact ⟨S2, st2, A2, is2, n2, z12, z13', z14', z15', z16', by simp [e, e'], hA2, zz2, ok2⟩
  obtain ⟨S', st', A', is', n', z12, z13, z14, z15, z16, e10, hA, zf, okf⟩ := loop (rangeD 0 tn.toNat) (n := 0) (x12 := none) (x13 := none) (x14 := none) (x15 := none) (x16 := none) rfl z9 ok8 (by unfold rangeD; simp; omega)
  have fb : ∀ (ws : List Str) {x15 x17 x18 x19 : Option D}, (∀ w ∈ ws, w ∈ (["ann", "bo", "cy", "dee"] : List Str)) → ∃ z15' z17 z18 z19, forR T (callD T 59) (.n 15) (forB (tailB 12 f_law_k22.body)) (fun _ => true) (ws.map .str) [some (.scr ns), some (.ref 0), some (.ref 1), some (.int late), some (.int (1 + mo)), some (.str (ruleS b)), some (.tup [.int (1 + v0), .int (1 + v1)]), some (.tup [.tup [.tup [.int 1], .tup [.tup [], .int 1], .int (1 + v0), .bl true], .tup [.tup [.int 5], .tup [.tup [], .int 5], .int (1 + v1), .bl false]]), some (.int l), some (.ref 5), some (.ref 6), some (.int S'.day), z12, z13, z14, x15, z16, x17, x18, x19] st' =
      .next [some (.scr ns), some (.ref 0), some (.ref 1), some (.int late), some (.int (1 + mo)), some (.str (ruleS b)), some (.tup [.int (1 + v0), .int (1 + v1)]), some (.tup [.tup [.tup [.int 1], .tup [.tup [], .int 1], .int (1 + v0), .bl true], .tup [.tup [.int 5], .tup [.tup [], .int 5], .int (1 + v1), .bl false]]), some (.int l), some (.ref 5), some (.ref 6), some (.int S'.day), z12, z13, z14, z15', z16, z17, z18, z19] st' := by
    intro ws
    induction ws with
    | nil => intro x15 x17 x18 x19 _; exact ⟨x15, x17, x18, x19, by simp⟩
    | cons w ws ih =>
      intro x15 x17 x18 x19 hw2
      have nw : nmOk w = true := by
        have := hw2 w List.mem_cons_self
        simp only [List.mem_cons, List.not_mem_nil, or_false] at this
        rcases this with rfl | rfl | rfl | rfl <;> decide
      obtain ⟨z17, z18, z19, e⟩ := k22_mark h ht hs hd hm tk zf okf nw (y0 := some (.scr ns)) (y1 := some (.ref 0)) (y3 := some (.int late)) (y6 := some (.tup [.int (1 + v0), .int (1 + v1)])) (y7 := some (.tup [.tup [.tup [.int 1], .tup [.tup [], .int 1], .int (1 + v0), .bl true], .tup [.tup [.int 5], .tup [.tup [], .int 5], .int (1 + v1), .bl false]])) (y8 := some (.int l)) (y9 := some (.ref 5)) (y11 := some (.int S'.day)) (y12 := z12) (y13 := z13) (y14 := z14) (y16 := z16) (x17 := x17) (x18 := x18) (x19 := x19)
      rw [hA] at e
      have e : exSs T (callD T 59) (forB (tailB 12 f_law_k22.body)) [some (.scr ns), some (.ref 0), some (.ref 1), some (.int late), some (.int (1 + mo)), some (.str (ruleS b)), some (.tup [.int (1 + v0), .int (1 + v1)]), some (.tup [.tup [.tup [.int 1], .tup [.tup [], .int 1], .int (1 + v0), .bl true], .tup [.tup [.int 5], .tup [.tup [], .int 5], .int (1 + v1), .bl false]]), some (.int l), some (.ref 5), some (.ref 6), some (.int S'.day), z12, z13, z14, some (.str w), z16, x17, x18, x19] st' = .next [some (.scr ns), some (.ref 0), some (.ref 1), some (.int late), some (.int (1 + mo)), some (.str (ruleS b)), some (.tup [.int (1 + v0), .int (1 + v1)]), some (.tup [.tup [.tup [.int 1], .tup [.tup [], .int 1], .int (1 + v0), .bl true], .tup [.tup [.int 5], .tup [.tup [], .int 5], .int (1 + v1), .bl false]]), some (.int l), some (.ref 5), some (.ref 6), some (.int S'.day), z12, z13, z14, some (.str w), z16, z17, z18, z19] st' := e
      obtain ⟨z15', z17', z18', z19', e2⟩ := ih (x15 := some (.str w)) (x17 := z17) (x18 := z18) (x19 := z19) fun y hy => hw2 y (List.mem_cons_of_mem _ hy)
      exact ⟨z15', z17', z18', z19', by simp [e, e2]⟩
  obtain ⟨z15', z17, z18, z19, e11⟩ := fb ["ann", "bo", "cy", "dee"] (x15 := z15) (x17 := none) (x18 := none) (x19 := none) fun w hw => hw
  have e12 := day_ok hs (k := 58) zf.a
  rw [hA] at e12
  have hpf := zf.a.hp
  rw [hA] at hpf
  have hp8 := a0'.hp
  refine ⟨[], ?_⟩
  rw [callD_of hT rfl]
  simp only [f_law_k22, forB] at e10
  simp only [f_law_k22, forB, tailB, List.map_cons, List.map_nil] at e11
  rw [kk] at e8
  rw [p0, p1, p2] at n1 n2 n3
  rw [p3] at n2
  have day0 : (mendS newS "sum" (T22 (1 + v0) (1 + v1) late (1 + mo) b) l).day = 0 := rfl
  rw [day0] at e10
  have tn2 : tn ≤ 1000000000 := by omega
  have tn3 : -1000000000 ≤ tn := by omega
  have sm : ∀ s : Store, bfV .sumT s [.tup [.int (1 + v0), .int (1 + v1)]] = some (.int ([1 + v0, 1 + v1] : List Int).sum) := fun _ => rfl
  have i1' : callD T 59 78 [.ref 1] [dcO d, .ins 17 []] = .ok .non (dcO d :: Q4) := by rw [hQ4]; exact i1
  clear i1 z8 z9 zf loop fb a8 a0 a0'
  generalize (s8 ++ [SO.lst (pr22 (1 + v0) (1 + v1))] ++ [SO.lst []]) = s10 at *
  generalize (s8 ++ [SO.lst (pr22 (1 + v0) (1 + v1))]) = s8b at *
  have at0 : L2.atI [D.int (1 + v0), .int (1 + v1)] 0 = some (.int (1 + v0)) := rfl
  have at1 : L2.atI [D.int (1 + v0), .int (1 + v1)] 1 = some (.int (1 + v1)) := rfl
  generalize ([1 + v0, 1 + v1] : List Int).sum = sm12 at *
  generalize (s8 ++ [SO.lst [.tup [.tup [.tup [.str "give", .tup [.str "num", .int 1]]], .int (1 + v0)], .tup [.tup [.tup [.str "give", .tup [.str "in", .int 0]]], .int sm12], .tup [.tup [], .int 0]]]) = s8a at *
  generalize chgL (learnL newS "sum") (learnL newS "sum") (fun w => markL newS w "sum") (fun w => markL (mendS newS "sum" (T22 (1 + v0) (1 + v1) late (1 + mo) b) l) w "sum") = CH at *
  generalize ruleS b = RB at *
  simp [f_law_k22, startD, e0, hs.i17, i1', e1, e2, e3, eb, e4, e5, e6, e7, el, at0, at1, hp8, e8, sm, n1, n2, n3, n4, e9, tn2, tn3, e10, e11, hpf, e12, pre]
end
end TS
end

section
set_option Elab.async false
set_option linter.all false
set_option maxRecDepth 100000
set_option maxHeartbeats 0
namespace TS
open PySem
theorem pr_k22 : PR ld_k22.tab := by constructor <;> rfl
theorem pt_k22 : PT ld_k22.tab := by constructor <;> rfl
theorem ps_k22 : PS ld_k22.tab := by constructor <;> rfl
theorem pd_k22 : PD ld_k22.tab := by constructor <;> rfl
theorem pl_k22 : PL ld_k22.tab := by constructor <;> rfl
theorem law_k22 : ∀ ns : List Int, ns.length ≤ 63 → (∀ z ∈ ns, Builtin.Int.intBits z ≤ 1048576) → ∃ st, callD ld_k22.tab 60 259 [.scr ns] [] = .ok (.bl true) st := fun ns hl _ => law22 pr_k22 pt_k22 ps_k22 pd_k22 pl_k22 hl rfl
end TS
open PySem PySem.W PySem.Calls PyProof.Rows
set_option Elab.async false
set_option maxRecDepth 100000 in
set_option maxHeartbeats 0 in
theorem PySem.Challenge.cw_tryschool_k22_marks_by_rule_holds : PySem.Challenge.rw_tryschool_k22_marks_by_rule.Holds := by
  w_on; o_law
  refine HandSHeadRun.head_any (r := OpenLaw.row PySem.Challenge.rw_tryschool_k22_marks_by_rule) (q := K22.qv) (H := TS.ld_k22.hookA K22.as_) (ob := TS.ld_k22.obA K22.as_) (M := 40000) (loose := K22.names) (d := HandSHeadRun.topDef (OpenLaw.row PySem.Challenge.rw_tryschool_k22_marks_by_rule).prog 58) (kwd := []) (TS.LD.obA_eq TS.ld_k22 K22.as_)
    (by kernel_rfl) (fun s => by kernel_rfl) K22.run (by kernel_rfl) (by kernel_rfl) (by kernel_rfl) (by rfl) (by first | assumption | decide +kernel) (by decide +kernel) ⟨rfl, rfl, rfl, rfl, rfl, by decide +kernel⟩ ?hw ?hc
  case hw => w_witness2
  case hc =>
    exact TS.LD.walk (D := TS.ld_k22) (l := PySem.Challenge.rw_tryschool_k22_marks_by_rule) (n := 63) (fuel := 60) (li := 259) (m := 5) (x := "_law_script") (nm := "law") (dl := TS.dl_k22) (by kernel_rfl) rfl (by decide) (by kernel_rfl) ⟨rfl, by decide, by decide⟩ (by kernel_rfl) (by kernel_rfl) (by kernel_rfl) (by kernel_rfl) (by kernel_rfl) TS.law_k22
end

