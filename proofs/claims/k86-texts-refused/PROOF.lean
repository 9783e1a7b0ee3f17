import PyProof.Rows.All
import Wide.All
import OpenK.AllK
import Wide.FinOn
import HandS.List
import HandS.Text
import HandS.Wide
import HandS.Words
import HandS.Comp
import HandS.Lambda
import HandS.Base
import HandS.Call
import HandS.Exc
import HandS.TupAny
import HandS.Deep
import HandS.IsInst
import HandS.RaiseMore
import HandS.Dict
import PyProof.ReprRoads
import HandS.SetFor
import KE.GoesComp
import HandS.Iter
import HandS.ExcInit
import HandS.Defaults
import HandS.EndTab
import HandS.EndBits
import HandS.HeadHook4
import HandS.ExcIs
import HandS.ExcField
import HandS.HeadWalk
import HandS.Head0
import HandS.Head1
import HandS.Head2
import KE.KStateDown
import Lean
import HandS.HeadEnd
import PySem.Challenge.RW_letterfolk_k86_texts_refused
set_option Elab.async false
set_option linter.all false
/-! A small interpreter for the dialect of the program: values by themselves, a heap of numbered objects, frames by slots. -/
namespace LF
open PySem
abbrev LIM : Nat := 10000000
/-- a value: tuples and exceptions stand by themselves, lists, dicts and instances by their numbers -/
inductive IV where
  | non | bl (b : Bool) | int (i : Int) | str (x : Str) | tup (xs : List IV) | ref (n : Nat) | exc (C : Nat) (fs : List IV) | glo (k : Nat)
  deriving Inhabited
abbrev Fr := List (Option IV)
inductive IO where
  | lst (xs : List IV)
  | fro (xs : List Int)
  | dct (kvs : List (Str × IV))
  deriving Inhabited
abbrev IH := List IO
inductive Rs (α : Type) where
  | ok (a : α) (A : IH)
  | ex (C : Nat) (fs : List IV) (A : IH)
  | bad
def Rs.bind {α β : Type} (r : Rs α) (f : α → IH → Rs β) : Rs β := match r with
  | .ok a A => f a A
  | .ex C fs A => .ex C fs A
  | .bad => .bad
inductive Bop | add | sub | mul | fdiv | mod | pow
  deriving DecidableEq, Repr
inductive Cop | eq | ne | lt | le | gt | ge | isin | notin | isn | notn
  deriving DecidableEq, Repr
inductive Bi | len | int | str | tuple | list | all | any | repr
  deriving DecidableEq, Repr
inductive Me | append | extend | pop | split | join | partition | count | index | get
  deriving DecidableEq, Repr
/-- what isinstance asks -/
inductive Ty | int | str | bool | tuple | ve | cls (k : Nat)
  deriving DecidableEq, Repr
inductive TG where
  | nm (i : Nat)
  | tp (ts : List TG)
mutual
inductive CE where
  | non | bl (b : Bool) | int (i : Int) | str (x : Str)
  | var (i : Nat)
  | gco (k : Nat)
  | tup (es : CEs) | lst (es : CEs)
  | dct (ks : List Str) (es : CEs)
  | bin (op : Bop) (a b : CE)
  | neg (a : CE)
  | cmp (op : Cop) (a b : CE)
  | chain (op op' : Cop) (a b c : CE)
  | not (a : CE)
  | and (a b : CE) | or (a b : CE)
  | ite (c a b : CE)
  | ix (a i : CE)
  | sl (a : CE) (lo hi : CO)
  | call (f : Nat) (es : CEs) (ds : List IV) (pm : List Nat)
  | bi (b : Bi) (es : CEs)
  | me (m : Me) (o : CE) (es : CEs)
  | isi (e : CE) (t : Ty)
  | att (e : CE) (f : Nat)
  | lc (elt : CE) (tg : TG) (s : CSrc) (c : CO) (own : List Nat)
  | gin (k : Nat) (e : CE)
  | gix (k : Nat) (e : CE)
  | gget (k : Nat) (e d : CE)
  | said (e : CE)
inductive CO where
  | no
  | some (e : CE)
inductive CEs where
  | nil
  | cons (e : CE) (es : CEs)
inductive CSrc where
  | val (e : CE)
  | rng (e : CE)
  | enum (e : CE)
end
mutual
inductive CS where
  | asg (t : TG) (e : CE)
  | par (i j : Nat) (a b : CE)
  | setix (o i e : CE)
  | expr (e : CE)
  | ret (e : CE)
  | ite (c : CE) (a b : CSs)
  | for (t : TG) (s : CSrc) (b : CSs)
  | cont | brk | pass
  | raise (C : Nat) (es : CEs)
inductive CSs where
  | nil
  | cons (s : CS) (r : CSs)
end
/-! ### data -/
mutual
/-- a value as plain data; g: what an object holds -/
def toW (g : Nat → Option PyData) : IV → Option PyData
  | .non => some .none
  | .bl b => some (.bool b)
  | .int i => some (.int i)
  | .str x => some (.str x)
  | .tup xs => (toWs g xs).map .tuple
  | .ref n => g n
  | .exc _ _ => none
  | .glo _ => none
def toWs (g : Nat → Option PyData) : List IV → Option (List PyData)
  | [] => some []
  | x :: xs => match toW g x, toWs g xs with
    | some d, some ds => some (d :: ds)
    | _, _ => none
end
/-- what the object of a number holds, as data -/
def refD : Nat → IH → Nat → Option PyData
  | 0, _, _ => none
  | k + 1, A, n => match A[n]? with
    | some (.lst xs) => (toWs (refD k A) xs).map .list
    | some (.fro ns) => some (.list (ns.map .int))
    | _ => none
abbrev toD (A : IH) (v : IV) : Option PyData := toW (refD 6 A) v
/-! ### operations on values -/
def cutL {α : Type} (xs : List α) (lo hi : Option Int) : List α := (xs.drop (HT.sIx xs.length 0 lo)).take (HT.sIx xs.length xs.length hi - HT.sIx xs.length 0 lo)
def listOf (A : IH) (n : Nat) : Option (List IV) := match A[n]? with
  | some (.lst xs) => some xs
  | some (.fro ns) => some (ns.map .int)
  | _ => none
def signL (z : Str) : List IV := z.cps.toList.map fun c => .str ⟨#[c]⟩
def catS (x y : Str) (A : IH) : Rs IV := if x.length + y.length ≤ LIM then .ok (.str (x ++ y)) A else .bad
def binI : Bop → IV → IV → IH → Rs IV
  | .add, .int i, .int j, A => .ok (.int (i + j)) A
  | .add, .str x, .str y, A => catS x y A
  | .add, .ref m, .ref n, A => match A[m]?, A[n]? with
    | some (.lst xs), some (.lst ys) => if xs.length + ys.length ≤ LIM then .ok (.ref A.length) (A ++ [.lst (xs ++ ys)]) else .bad
    | _, _ => .bad
  | .sub, .int i, .int j, A => .ok (.int (i - j)) A
  | .mul, .int i, .int j, A => if i.natAbs.log2 + j.natAbs.log2 < 1000000 then .ok (.int (i * j)) A else .bad
  | .fdiv, .int i, .int j, A => if 0 < j ∧ j.natAbs.log2 < 9000 then .ok (.int (i / j)) A else .bad
  | .mod, .int i, .int j, A => if 0 < j then .ok (.int (i % j)) A else .bad
  | .pow, .int i, .int j, A => if 0 ≤ j ∧ j ≤ 1000000 ∧ i.natAbs < 2 ^ 64 then .ok (.int (i ^ j.toNat)) A else .bad
  | _, _, _, _ => .bad
def flatI : IV → Bool
  | .non => true
  | .bl _ => true
  | .int _ => true
  | .str _ => true
  | _ => false
def eqF : IV → IV → Bool
  | .non, .non => true
  | .bl a, .bl b => a == b
  | .bl a, .int b => (if a then 1 else 0) == b
  | .int a, .bl b => a == (if b then 1 else 0)
  | .int a, .int b => a == b
  | .str a, .str b => a == b
  | _, _ => false
def eqI (v w : IV) (A : IH) : Option Bool := match toD A v, toD A w with
  | some d, some e => if SeqAt.shaped d && SeqAt.shaped e then some (PyData.eqv d e) else none
  | _, _ => none
def inI (v w : IV) (A : IH) : Option Bool := match v, w with
  | .str x, .str z => if x.length = 1 then some (decide (x.cps.getD 0 0 ∈ z.cps.toList)) else none
  | v, .tup xs => if flatI v && xs.all flatI then some (xs.any fun y => eqF y v) else none
  | v, .ref n => match toD A v, toD A (.ref n) with
    | some d, some (.list ds) => if SeqAt.shaped d && SeqAt.shaped (.list ds) then some (ds.any fun z => PyData.eqv z d) else none
    | _, _ => none
  | _, _ => none
def optB (o : Option Bool) (A : IH) : Rs IV := match o with
  | some b => .ok (.bl b) A
  | none => .bad
def cmpI : Cop → IV → IV → IH → Rs IV
  | .eq, v, w, A => optB (eqI v w A) A
  | .ne, v, w, A => optB ((eqI v w A).map (!·)) A
  | .lt, .int i, .int j, A => .ok (.bl (decide (i < j))) A
  | .le, .int i, .int j, A => .ok (.bl (decide (i ≤ j))) A
  | .gt, .int i, .int j, A => .ok (.bl (decide (j < i))) A
  | .ge, .int i, .int j, A => .ok (.bl (decide (j ≤ i))) A
  | .isin, v, w, A => optB (inI v w A) A
  | .notin, v, w, A => optB ((inI v w A).map (!·)) A
  | .isn, v, .non, A => .ok (.bl (match v with | .non => true | _ => false)) A
  | .notn, v, .non, A => .ok (.bl (match v with | .non => false | _ => true)) A
  | _, _, _, _ => .bad
def optR (o : Option IV) (A : IH) : Rs IV := match o with
  | some v => .ok v A
  | none => .bad
def ixI : IV → IV → IH → Rs IV
  | .tup xs, .int i, A => optR (L2.atI xs i) A
  | .str z, .int i, A => if z.length ≤ LIM then optR ((L2.atI z.cps.toList i).map fun c => .str ⟨#[c]⟩) A else .bad
  | .ref n, .int i, A => match listOf A n with
    | some xs => optR (L2.atI xs i) A
    | none => .bad
  | .ref n, .str k, A => match A[n]? with
    | some (.dct kvs) => optR (kvs.lookup k) A
    | _ => .bad
  | _, _, _ => .bad
def slI (v : IV) (lo hi : Option Int) (A : IH) : Rs IV := match v with
  | .tup xs => .ok (.tup (cutL xs lo hi)) A
  | .str z => if z.length ≤ LIM then .ok (.str (L2.cutS z lo hi)) A else .bad
  | .ref n => match listOf A n with
    | some xs => .ok (.ref A.length) (A ++ [.lst (cutL xs lo hi)])
    | none => .bad
  | _ => .bad
def blsOf : List IV → Option (List Bool)
  | [] => some []
  | .bl b :: r => (blsOf r).map (b :: ·)
  | _ :: _ => none
def strsOf : List IV → Option (List Str)
  | [] => some []
  | .str x :: r => (strsOf r).map (x :: ·)
  | _ :: _ => none
def newL (xs : List IV) (A : IH) : Rs IV := .ok (.ref A.length) (A ++ [.lst xs])
def biI : Bi → List IV → IH → Rs IV
  | .len, [.tup xs], A => .ok (.int xs.length) A
  | .len, [.str z], A => if z.length ≤ LIM then .ok (.int z.length) A else .bad
  | .len, [.ref n], A => match listOf A n with
    | some xs => .ok (.int xs.length) A
    | none => .bad
  | .int, [.str z], A => match intText? z with
    | some n => if z.length ≤ 640 then .ok (.int n) A else .bad
    | none => .bad
  | .str, [.int i], A => if i.natAbs.log2 < 1920 then .ok (.str (Str.ofString (toString i))) A else .bad
  | .str, [.str x], A => .ok (.str x) A
  | .tuple, [.tup xs], A => .ok (.tup xs) A
  | .tuple, [.ref n], A => match listOf A n with
    | some xs => .ok (.tup xs) A
    | none => .bad
  | .list, [.tup xs], A => newL xs A
  | .list, [.ref n], A => match listOf A n with
    | some xs => newL xs A
    | none => .bad
  | .all, [.ref n], A => match (listOf A n).bind blsOf with
    | some bs => .ok (.bl (bs.all id)) A
    | none => .bad
  | .any, [.ref n], A => match (listOf A n).bind blsOf with
    | some bs => .ok (.bl (bs.any id)) A
    | none => .bad
  | .repr, [v], A => match toD A v with
    | some d => if d.showable && (!d.hasDict) && decide (d.shown.length ≤ LIM) && decide (d.depth ≤ 64) then .ok (.str d.shown) A else .bad
    | none => .bad
  | _, _, _ => .bad
def idxF (v : IV) : List IV → Nat → Option Nat
  | [], _ => none
  | y :: r, k => if eqF y v then some k else idxF v r (k + 1)
def meI : Me → IV → List IV → IH → Rs IV
  | .append, .ref n, [v], A => match A[n]? with
    | some (.lst xs) => if xs.length < LIM then .ok .non (A.set n (.lst (xs ++ [v]))) else .bad
    | _ => .bad
  | .extend, .ref n, [.ref m], A => match A[n]?, A[m]? with
    | some (.lst xs), some (.lst ys) => if xs.length + ys.length ≤ LIM then .ok .non (A.set n (.lst (xs ++ ys))) else .bad
    | _, _ => .bad
  | .pop, .ref n, [], A => match A[n]? with
    | some (.lst xs) => match xs[xs.length - 1]? with
      | some v => .ok v (A.set n (.lst xs.dropLast))
      | none => .bad
    | _ => .bad
  | .split, .str x, [.str y], A => if y.length ≠ 0 ∧ x.length ≤ LIM then newL ((Txt.split x y).map .str) A else .bad
  | .partition, .str x, [.str y], A => if y.length ≠ 0 ∧ x.length ≤ LIM then .ok (.tup [.str (Txt.partition x y).1, .str (Txt.partition x y).2.1, .str (Txt.partition x y).2.2]) A else .bad
  | .join, .str x, [.ref n], A => match (listOf A n).bind strsOf with
    | some ys => if (ys.map (·.length)).sum + ys.length * x.length ≤ LIM then .ok (.str (Txt.join x ys)) A else .bad
    | none => .bad
  | .count, .ref n, [v], A => match listOf A n with
    | some xs => if flatI v && xs.all flatI then .ok (.int (xs.countP fun y => eqF y v : Nat)) A else .bad
    | none => .bad
  | .get, .ref n, [.str k, w], A => match A[n]? with
    | some (.dct kvs) => .ok ((kvs.lookup k).getD w) A
    | _ => .bad
  | .index, .ref n, [v], A => match listOf A n with
    | some xs => if flatI v && xs.all flatI then (match idxF v xs 0 with
      | some k => .ok (.int k) A
      | none => .bad) else .bad
    | none => .bad
  | _, _, _, _ => .bad
/-- what the method is asked of -/
def recvI (m : Me) (v : IV) (A : IH) : Bool := match m, v with
  | .split, .str _ => true
  | .join, .str _ => true
  | .partition, .str _ => true
  | .get, .ref n => (match A[n]? with
    | some (.dct _) => true
    | _ => false)
  | .split, _ => false
  | .join, _ => false
  | .partition, _ => false
  | _, .ref n => (listOf A n).isSome
  | _, _ => false
structure Def where
  np : Nat
  ns : Nat
  body : CSs
structure Prg where
  gc : List IV
  gd : List (List (Str × IV))
  /-- own classes: is the one the other, or below it; where a field of it stands -/
  sub : Nat → Nat → Bool
  fld : Nat → Nat → Option Nat
  /-- the classes that are ever made -/
  live : Nat → Bool
  /-- the class that 'said' catches, the def that it hands the caught one to -/
  folk : Nat
  refusal : Nat
  defs : List Def
def isI (P : Prg) (v : IV) (t : Ty) : Option Bool := match v, t with
  | .int _, .int => some true
  | .bl _, .int => some true
  | .bl _, .bool => some true
  | .str _, .str => some true
  | .tup _, .tuple => some true
  | .exc C _, .ve => if P.live C then some true else none
  | .exc C _, .cls k => if P.live C then some (P.sub C k) else none
  | .exc _ _, _ => none
  | .glo _, _ => none
  | .ref _, _ => none
  | _, .ve => none
  | _, .cls _ => none
  | _, _ => some false
/-! ### targets -/
mutual
def stG (A : IH) : TG → IV → Fr → Option Fr
  | .nm i, v, ρ => if i < ρ.length then some (ρ.set i (some v)) else none
  | .tp ts, v, ρ => match v with
    | .tup xs => stGs A ts xs ρ
    | _ => none
def stGs (A : IH) : List TG → List IV → Fr → Option Fr
  | [], [], ρ => some ρ
  | t :: ts, x :: xs, ρ => match stG A t x ρ with
    | some ρ' => stGs A ts xs ρ'
    | none => none
  | _, _, _ => none
end
/-! ### what is walked -/
inductive Sq where
  | fix (xs : List IV)
  | live (n : Nat)
  | enL (n : Nat)
/-- the i-th item: none: that can't be asked; some none: it is over -/
def Sq.item : Sq → Nat → IH → Option (Option IV)
  | .fix xs, i, _ => some xs[i]?
  | .live n, i, A => (listOf A n).map fun xs => xs[i]?
  | .enL n, i, A => (listOf A n).map fun xs => xs[i]?.map fun x => .tup [.int i, x]
/-! ### the interpreter -/
def wipeF (ρ : Fr) : List Nat → Fr
  | [] => ρ
  | v :: vs => (wipeF ρ vs).set v none
abbrev Cal := Nat → List IV → IH → Rs IV
/-- a comprehension's turns: the new list stands at d -/
def lcGo (f : IV → IH → Rs (Option IV)) (q : Sq) (d : Nat) : Nat → Nat → IH → Rs IV
  | 0, _, _ => .bad
  | k + 1, i, A => match q.item i A with
    | none => .bad
    | some none => .ok (.ref d) A
    | some (some x) => (f x A).bind fun r A' => match r with
      | none => lcGo f q d k (i + 1) A'
      | some y => match A'[d]? with
        | some (.lst acc) => if acc.length < LIM then lcGo f q d k (i + 1) (A'.set d (.lst (acc ++ [y]))) else .bad
        | _ => .bad
def putD (kvs : List (Str × IV)) (k : Str) (v : IV) : List (Str × IV) := match kvs with
  | [] => [(k, v)]
  | (a, x) :: r => if a = k then (a, v) :: r else (a, x) :: putD r k v
def mergeD (kvs : List (Str × IV)) : List (Str × IV) → List (Str × IV)
  | [] => kvs
  | (k, v) :: r => mergeD (putD kvs k v) r
def strOf : IV → Option Str
  | .str x => some x
  | _ => none
def permute {α : Type} (pm : List Nat) (vs : List α) : List α := if pm.isEmpty then vs else pm.filterMap fun i => vs[i]?
section
variable (P : Prg) (C : Cal)
mutual
def evE : CE → Fr → IH → Rs IV
  | .non, _, A => .ok .non A
  | .bl b, _, A => .ok (.bl b) A
  | .int i, _, A => .ok (.int i) A
  | .str x, _, A => .ok (.str x) A
  | .var i, ρ, A => match ρ[i]? with
    | some (some v) => .ok v A
    | _ => .bad
  | .gco k, _, A => optR P.gc[k]? A
  | .tup es, ρ, A => (evEs es ρ A).bind fun vs A => if vs.length ≤ LIM then .ok (.tup vs) A else .bad
  | .lst es, ρ, A => (evEs es ρ A).bind fun vs A => if vs.length ≤ LIM then newL vs A else .bad
  | .dct ks es, ρ, A => (evEs es ρ (A ++ [.dct []])).bind fun vs A' => match A'[A.length]? with
    | some (.dct []) => if ks.length = vs.length ∧ vs.length ≤ 15 then .ok (.ref A.length) (A'.set A.length (.dct (mergeD [] (ks.zip vs)))) else .bad
    | _ => .bad
  | .bin op a b, ρ, A => (evE a ρ A).bind fun v A => (evE b ρ A).bind fun w A => binI op v w A
  | .neg a, ρ, A => (evE a ρ A).bind fun v A => match v with
    | .int i => .ok (.int (-i)) A
    | _ => .bad
  | .cmp op a b, ρ, A => (evE a ρ A).bind fun v A => (evE b ρ A).bind fun w A => cmpI op v w A
  | .chain op op' a b c, ρ, A => (evE a ρ A).bind fun v A => (evE b ρ A).bind fun w A => (cmpI op v w A).bind fun z A => match z with
    | .bl true => (evE c ρ A).bind fun u A => cmpI op' w u A
    | .bl false => .ok (.bl false) A
    | _ => .bad
  | .not a, ρ, A => (evE a ρ A).bind fun v A => match v with
    | .bl b => .ok (.bl (!b)) A
    | _ => .bad
  | .and a b, ρ, A => (evE a ρ A).bind fun v A => match v with
    | .bl true => evE b ρ A
    | .bl false => .ok (.bl false) A
    | _ => .bad
  | .or a b, ρ, A => (evE a ρ A).bind fun v A => match v with
    | .bl true => .ok (.bl true) A
    | .bl false => evE b ρ A
    | _ => .bad
  | .ite c a b, ρ, A => (evE c ρ A).bind fun v A => match v with
    | .bl true => evE a ρ A
    | .bl false => evE b ρ A
    | _ => .bad
  | .ix a i, ρ, A => (evE a ρ A).bind fun v A => (evE i ρ A).bind fun w A => ixI v w A
  | .sl a lo hi, ρ, A => (evE a ρ A).bind fun v A => (evO lo ρ A).bind fun l A => (evO hi ρ A).bind fun h A => slI v l h A
  | .call f es ds pm, ρ, A => (evEs es ρ A).bind fun vs A => C f (permute pm (vs ++ ds)) A
  | .bi b es, ρ, A => (evEs es ρ A).bind fun vs A => biI b vs A
  | .me m o es, ρ, A => (evE o ρ A).bind fun v A => if recvI m v A then (evEs es ρ A).bind fun vs A => meI m v vs A else .bad
  | .isi e t, ρ, A => (evE e ρ A).bind fun v A => optB (isI P v t) A
  | .att e f, ρ, A => (evE e ρ A).bind fun v A => match v with
    | .exc D fs => optR ((P.fld D f).bind fun j => fs[j]?) A
    | _ => .bad
  | .lc elt t s c own, ρ, A => (evQ s ρ A).bind fun q A => lcGo (fun x A => match stG A t x (wipeF ρ own) with
      | none => .bad
      | some ρ' => (evT c ρ' A).bind fun b A => if b then (evE elt ρ' A).bind fun y A => .ok (some y) A else .ok none A) q A.length (LIM + 1) 0 (A ++ [.lst []])
  | .gin k e, ρ, A => (evE e ρ A).bind fun v A => match P.gd[k]?, v with
    | some kvs, .str x => .ok (.bl (kvs.lookup x).isSome) A
    | _, _ => .bad
  | .gix k e, ρ, A => (evE e ρ A).bind fun v A => match P.gd[k]?, v with
    | some kvs, .str x => optR (kvs.lookup x) A
    | _, _ => .bad
  | .gget k e d, ρ, A => (evE e ρ A).bind fun v A => (evE d ρ A).bind fun w A => match P.gd[k]?, v with
    | some kvs, .str x => .ok ((kvs.lookup x).getD w) A
    | _, _ => .bad
  | .said e, ρ, A => match evE e ρ A with
    | .ok v A => .ok (.tup [.str "told", v]) A
    | .ex D fs A => if P.sub D P.folk then C P.refusal [.exc D fs] A else .bad
    | .bad => .bad
def evO : CO → Fr → IH → Rs (Option Int)
  | .no, _, A => .ok none A
  | .some e, ρ, A => (evE e ρ A).bind fun v A => match v with
    | .int i => .ok (some i) A
    | _ => .bad
/-- a clause's test, if it has one -/
def evT : CO → Fr → IH → Rs Bool
  | .no, _, A => .ok true A
  | .some e, ρ, A => (evE e ρ A).bind fun v A => match v with
    | .bl b => .ok b A
    | _ => .bad
def evEs : CEs → Fr → IH → Rs (List IV)
  | .nil, _, A => .ok [] A
  | .cons e es, ρ, A => (evE e ρ A).bind fun v A => (evEs es ρ A).bind fun vs A => .ok (v :: vs) A
def evQ : CSrc → Fr → IH → Rs Sq
  | .val e, ρ, A => (evE e ρ A).bind fun v A => match v with
    | .tup xs => .ok (.fix xs) A
    | .str z => .ok (.fix (signL z)) A
    | .ref n => if (listOf A n).isSome then .ok (.live n) A else .bad
    | _ => .bad
  | .rng e, ρ, A => (evE e ρ A).bind fun v A => match v with
    | .int n => if n < 2 ^ 62 ∧ -(2 ^ 62) ≤ n then .ok (.fix ((List.range n.toNat).map fun (i : Nat) => IV.int (i : Int))) A else .bad
    | _ => .bad
  | .enum e, ρ, A => (evE e ρ A).bind fun v A => match v with
    | .ref n => if (listOf A n).isSome then .ok (.enL n) A else .bad
    | _ => .bad
end
inductive SR where
  | nx (ρ : Fr) (A : IH)
  | rt (v : IV) (A : IH)
  | bk (ρ : Fr) (A : IH)
  | ct (ρ : Fr) (A : IH)
  | ex (C : Nat) (fs : List IV) (ρ : Fr) (A : IH)
  | bad
/-- an expression, then on -/
def Rs.on {α : Type} (r : Rs α) (ρ : Fr) (f : α → IH → SR) : SR := match r with
  | .ok a A => f a A
  | .ex C fs A => .ex C fs ρ A
  | .bad => .bad
def SR.next (r : SR) (f : Fr → IH → SR) : SR := match r with
  | .nx ρ A => f ρ A
  | r => r
def forGo (f : IV → Fr → IH → SR) (q : Sq) : Nat → Nat → Fr → IH → SR
  | 0, _, _, _ => .bad
  | k + 1, i, ρ, A => match q.item i A with
    | none => .bad
    | some none => .nx ρ A
    | some (some x) => match f x ρ A with
      | .nx ρ A => forGo f q k (i + 1) ρ A
      | .ct ρ A => forGo f q k (i + 1) ρ A
      | .bk ρ A => .nx ρ A
      | r => r
mutual
def evS : CS → Fr → IH → SR
  | .asg t e, ρ, A => (evE P C e ρ A).on ρ fun v A => match stG A t v ρ with
    | some ρ => .nx ρ A
    | none => .bad
  | .par i j a b, ρ, A => (evE P C a ρ A).on ρ fun v A => (evE P C b ρ A).on ρ fun w A => if i < ρ.length ∧ j < ρ.length then .nx ((ρ.set i (some v)).set j (some w)) A else .bad
  | .setix o i e, ρ, A => (evE P C e ρ A).on ρ fun v A => (evE P C o ρ A).on ρ fun w A => (evE P C i ρ A).on ρ fun k A => match w, k with
    | .ref n, .str x => (match A[n]? with
      | some (.dct kvs) => if kvs.length < LIM then .nx ρ (A.set n (.dct (putD kvs x v))) else .bad
      | _ => .bad)
    | _, _ => .bad
  | .expr e, ρ, A => (evE P C e ρ A).on ρ fun _ A => .nx ρ A
  | .ret e, ρ, A => (evE P C e ρ A).on ρ fun v A => .rt v A
  | .ite c a b, ρ, A => (evE P C c ρ A).on ρ fun v A => match v with
    | .bl true => evSs a ρ A
    | .bl false => evSs b ρ A
    | _ => .bad
  | .for t s b, ρ, A => (evQ P C s ρ A).on ρ fun q A => forGo (fun x ρ A => match stG A t x ρ with
      | some ρ => evSs b ρ A
      | none => .bad) q (LIM + 1) 0 ρ A
  | .cont, ρ, A => .ct ρ A
  | .brk, ρ, A => .bk ρ A
  | .pass, ρ, A => .nx ρ A
  | .raise D es, ρ, A => (evEs P C es ρ A).on ρ fun vs A => .ex D vs ρ A
def evSs : CSs → Fr → IH → SR
  | .nil, ρ, A => .nx ρ A
  | .cons s r, ρ, A => (evS s ρ A).next fun ρ A => evSs r ρ A
end
end
def startF (n : Nat) (vs : List IV) : Fr := vs.map some ++ List.replicate (n - vs.length) none
/-- a call, so many calls within one another at most -/
def callI (P : Prg) : Nat → Cal
  | 0, _, _, _ => .bad
  | n + 1, f, vs, A => match P.defs[f]? with
    | none => .bad
    | some d => if vs.length = d.np then (match evSs P (callI P n) d.body (startF d.ns vs) A with
      | .nx _ A => .ok .non A
      | .rt v A => .ok v A
      | .ex D fs _ A => .ex D fs A
      | _ => .bad) else .bad
end LF
set_option Elab.async false
set_option linter.all false
/-! From the text's own trees to the interpreter's. -/
namespace LF
open PySem L2
structure FnG where
  name : Str
  ps : List Str
  npos : Nat
  dfl : List (Str × IV) := []
  /-- the ways it is called: so many values by place, names of the others -/
  shp : List (Nat × List Str) := []
structure Gx where
  fns : List FnG
  cos : List Str
  dts : List Str
  cls : List (Str × List Str)
  fls : List Str
  said : Str
  /-- the classes that are raised -/
  rz : List Nat := []
def ixOf (x : Str) : List Str → Option Nat
  | [] => none
  | y :: r => if y = x then some 0 else (ixOf x r).map (· + 1)
def fnIx (x : Str) : List FnG → Nat → Option (Nat × FnG)
  | [], _ => none
  | g :: r, k => if g.name = x then some (k, g) else fnIx x r (k + 1)
def isVis (sc : Scope) (x : Str) : Bool := match sc.names.lookup x with
  | some .local => true
  | some .cell => true
  | some .free => true
  | _ => false
def isLoc (sc : Scope) (x : Str) : Bool := match sc.names.lookup x with
  | some .local => true
  | some .cell => true
  | _ => false
/-- a block's own names, with their places -/
def ownOf (N : List Str) : List (Str × NameKind) → List (Str × Nat)
  | [] => []
  | (x, .local) :: r => (match ixOf x N with
    | some i => (x, i) :: ownOf N r
    | none => ownOf N r)
  | (x, .cell) :: r => (match ixOf x N with
    | some i => (x, i) :: ownOf N r
    | none => ownOf N r)
  | _ :: r => ownOf N r
def isTup : Expr → Bool
  | .Tuple _ _ _ => true
  | _ => false
def isComp : Expr → Bool
  | .ListComp _ _ _ _ => true
  | _ => false
def isLo (sc : Scope) (x : Str) : Bool := match sc.names.lookup x with
  | some .local => true
  | _ => false
def noArgs : Arguments → Bool
  | ⟨[], [], none, [], [], none, []⟩ => true
  | _ => false
def plainB : Expr → Bool
  | .Call (.Name _ _) [] [] _ => false
  | _ => true
def isGl (sc : Scope) (x : Str) : Bool := match sc.names.lookup x with
  | some .globalImplicit => true
  | _ => false
def toEs : List CE → CEs
  | [] => .nil
  | e :: r => .cons e (toEs r)
def bopOf : Operator → Option Bop
  | .Add => some .add | .Sub => some .sub | .Mult => some .mul | .FloorDiv => some .fdiv | .Mod => some .mod | .Pow => some .pow
  | _ => none
def copOf : CmpOp → Cop
  | .Eq => .eq | .NotEq => .ne | .Lt => .lt | .LtE => .le | .Gt => .gt | .GtE => .ge | .Is => .isn | .IsNot => .notn | .In => .isin | .NotIn => .notin
def biOf (x : Str) : Option Bi :=
  if x = "len" then some .len else if x = "int" then some .int else if x = "str" then some .str else if x = "tuple" then some .tuple
  else if x = "list" then some .list else if x = "all" then some .all else if x = "any" then some .any else if x = "repr" then some .repr else none
def meOf (x : Str) : Option Me :=
  if x = "append" then some .append else if x = "extend" then some .extend else if x = "pop" then some .pop else if x = "split" then some .split
  else if x = "join" then some .join else if x = "partition" then some .partition else if x = "count" then some .count else if x = "index" then some .index else if x = "get" then some .get else none
def tyOf (G : Gx) (x : Str) : Option Ty :=
  if x = "int" then some .int else if x = "str" then some .str else if x = "bool" then some .bool else if x = "tuple" then some .tuple
  else if x = "ValueError" then some .ve else (ixOf x (G.cls.map (·.1))).map .cls
def strK : Expr → Option Str
  | .Constant (.str x) _ _ => some x
  | _ => none
def keysK : List (Option Expr) → Option (List Str)
  | [] => some []
  | some e :: r => match strK e, keysK r with
    | some x, some xs => some (x :: xs)
    | _, _ => none
  | none :: _ => none
def kwNames : List Keyword → Option (List Str)
  | [] => some []
  | ⟨some n, _, _⟩ :: r => (kwNames r).map (n :: ·)
  | _ => none
/-- for each parameter: which of the written values it has, or else its default's -/
def plan (g : FnG) (nas : Nat) (ks : List Str) : List Str → Nat → Nat → Option (List Nat × List IV)
  | [], _, _ => some ([], [])
  | p :: r, j, m =>
    if j < nas then (plan g nas ks r (j + 1) m).map fun q => (j :: q.1, q.2)
    else match ixOf p ks with
      | some i => (plan g nas ks r (j + 1) m).map fun q => ((nas + i) :: q.1, q.2)
      | none => match g.dfl.lookup p with
        | some c => (plan g nas ks r (j + 1) (m + 1)).map fun q => (m :: q.1, c :: q.2)
        | none => none
mutual
def cTg (N : List Str) (sc : Scope) : Expr → Option TG
  | .Name x _ => if isLoc sc x then (ixOf x N).map .nm else none
  | .Tuple es _ _ => (cTgs N sc es).map .tp
  | _ => none
def cTgs (N : List Str) (sc : Scope) : List Expr → Option (List TG)
  | [] => some []
  | e :: r => match cTg N sc e, cTgs N sc r with
    | some t, some ts => some (t :: ts)
    | _, _ => none
end
def cL (g : Expr → Option CE) : List Expr → Option (List CE)
  | [] => some []
  | e :: r => match g e, cL g r with
    | some c, some cs => some (c :: cs)
    | _, _ => none
def cO (g : Expr → Option CE) : Option Expr → Option CO
  | none => some .no
  | some e => (g e).map .some
section
variable (G : Gx) (N : List Str)
def cSrc (g : Expr → Option CE) (sc : Scope) (tp : Bool) : Expr → Option CSrc
  | .Call (.Name x p) [e] [] q =>
    if x = "range" ∧ isGl sc x then (g e).map .rng
    else if x = "enumerate" ∧ isGl sc x ∧ tp = true then (g e).map .enum
    else (g (.Call (.Name x p) [e] [] q)).map .val
  | e => (g e).map .val
def cCall (g : Expr → Option CE) (gl : Scope → Expr → Option CE) (sd : Bool) (sc : Scope) (x : Str) (as : List Expr) (ks : List Keyword) : Option CE :=
  if !isGl sc x then none
  else if x = "isinstance" then (match as, ks with
    | [e, .Name t _], [] => if isGl sc t then (match g e, tyOf G t with
      | some c, some ty => some (.isi c ty)
      | _, _ => none) else none
    | _, _ => none)
  else if x = G.said then if sd = false then none else (match as, ks with
    | [.Lambda a b ls _], [] => if noArgs a && LamX.lamSB sc ls then (gl ls b).map .said else none
    | _, _ => none)
  else match biOf x with
    | some b => if ks.isEmpty then (cL g as).map fun cs => .bi b (toEs cs) else none
    | none => match fnIx x G.fns 0, kwNames ks with
      | some (k, f), some kn => if !f.shp.contains (as.length, kn) then none else (match plan f as.length kn f.ps 0 (as.length + kn.length), cL g (as ++ ks.map (·.value)) with
        | some (pm, ds), some cs => some (.call k (toEs cs) ds pm)
        | _, _ => none)
      | _, _ => none
def comp : Nat → Bool → Scope → Expr → Option CE
  | 0, _, _, _ => none
  | n + 1, sd, sc, e => match e with
    | .Constant c _ _ => (match c with
      | .none => some .non
      | .bool b => some (.bl b)
      | .int i => some (.int i)
      | .str x => some (.str x)
      | _ => none)
    | .Name x _ => if isVis sc x then (ixOf x N).map .var else if isGl sc x then (ixOf x G.cos).map .gco else none
    | .Tuple es _ _ => (cL (comp n sd sc) es).map fun cs => .tup (toEs cs)
    | .List es _ => (cL (comp n sd sc) es).map fun cs => .lst (toEs cs)
    | .Dict ks vs _ => if ks.length ≠ vs.length ∨ 15 < ks.length then none else (match keysK ks, cL (comp n sd sc) vs with
      | some xs, some cs => some (.dct xs (toEs cs))
      | _, _ => none)
    | .BinOp a op b _ => (match bopOf op, comp n sd sc a, comp n sd sc b with
      | some o, some x, some y => some (.bin o x y)
      | _, _, _ => none)
    | .UnaryOp .USub a _ => (comp n sd sc a).map .neg
    | .UnaryOp .Not a _ => (comp n sd sc a).map .not
    | .BoolOp .And [a, b] _ => (match comp n sd sc a, comp n sd sc b with
      | some x, some y => some (.and x y)
      | _, _ => none)
    | .BoolOp .And (a :: b :: c :: r) p => (match comp n sd sc a, comp n sd sc (.BoolOp .And (b :: c :: r) p) with
      | some x, some y => some (.and x y)
      | _, _ => none)
    | .BoolOp .Or [a, b] _ => (match comp n sd sc a, comp n sd sc b with
      | some x, some y => some (.or x y)
      | _, _ => none)
    | .BoolOp .Or (a :: b :: c :: r) p => (match comp n sd sc a, comp n sd sc (.BoolOp .Or (b :: c :: r) p) with
      | some x, some y => some (.or x y)
      | _, _ => none)
    | .IfExp c a b _ => (match comp n sd sc c, comp n sd sc a, comp n sd sc b with
      | some z, some x, some y => some (.ite z x y)
      | _, _, _ => none)
    | .Compare a [op] [.Name d p] _ => if op = .In ∧ isGl sc d ∧ (ixOf d G.dts).isSome then (match ixOf d G.dts, comp n sd sc a with
        | some k, some x => some (.gin k x)
        | _, _ => none)
      else (match comp n sd sc a, comp n sd sc (.Name d p) with
        | some x, some y => some (.cmp (copOf op) x y)
        | _, _ => none)
    | .Compare a [op] [b] _ => (match comp n sd sc a, comp n sd sc b with
      | some x, some y => some (.cmp (copOf op) x y)
      | _, _ => none)
    | .Compare a [op, op'] [b, c] _ => (match comp n sd sc a, comp n sd sc b, comp n sd sc c with
      | some x, some y, some z => some (.chain (copOf op) (copOf op') x y z)
      | _, _, _ => none)
    | .Subscript a (.Slice lo hi none _) _ => (match comp n sd sc a, cO (comp n sd sc) lo, cO (comp n sd sc) hi with
      | some x, some l, some h => some (.sl x l h)
      | _, _, _ => none)
    | .Subscript (.Name d p) i _ => if isGl sc d ∧ (ixOf d G.dts).isSome then (match ixOf d G.dts, comp n sd sc i with
        | some k, some y => some (.gix k y)
        | _, _ => none)
      else (match comp n sd sc (.Name d p), comp n sd sc i with
        | some x, some y => some (.ix x y)
        | _, _ => none)
    | .Subscript a i _ => (match comp n sd sc a, comp n sd sc i with
      | some x, some y => some (.ix x y)
      | _, _ => none)
    | .Call (.Name x _) as ks _ => cCall G (comp n sd sc) (comp n false) sd sc x as ks
    | .Call (.Attribute (.Name d p) m ap) as [] cp => if (ap.endLine == cp.line) = false ∨ 28 < as.length then none else if m = "get" ∧ isGl sc d then (match as, ixOf d G.dts with
        | [e, f], some k => (match comp n sd sc e, comp n sd sc f with
          | some x, some y => some (.gget k x y)
          | _, _ => none)
        | _, _ => none)
      else (match comp n sd sc (.Name d p), meOf m, cL (comp n sd sc) as with
        | some x, some q, some cs => some (.me q x (toEs cs))
        | _, _, _ => none)
    | .Call (.Attribute o m ap) as [] cp => if (ap.endLine == cp.line) = false ∨ plainB o = false ∨ 28 < as.length then none else (match comp n sd sc o, meOf m, cL (comp n sd sc) as with
      | some x, some q, some cs => some (.me q x (toEs cs))
      | _, _, _ => none)
    | .Attribute a f _ => if plainB a = false then none else (match comp n sd sc a, ixOf f G.fls with
      | some x, some k => some (.att x k)
      | _, _ => none)
    | .ListComp elt [⟨t, i, [], 0⟩] ls _ => if blkC N sc ls (ownOf N ls.names) = false then none else (match cSrc (comp n sd sc) sc (isTup t) i, cTg N ls t, comp n false (L2.relS ls sc) elt with
      | some s, some tg, some x => some (.lc x tg s .no ((ownOf N ls.names).map (·.2)))
      | _, _, _ => none)
    | .ListComp elt [⟨t, i, [c], 0⟩] ls _ => if blkC N sc ls (ownOf N ls.names) = false then none else (match cSrc (comp n sd sc) sc (isTup t) i, cTg N ls t, comp n false (L2.relS ls sc) elt, comp n false (L2.relS ls sc) c with
      | some s, some tg, some x, some y => some (.lc x tg s (.some y) ((ownOf N ls.names).map (·.2)))
      | _, _, _, _ => none)
    | _ => none
def cSs (g : Stmt → Option CS) : List Stmt → Option CSs
  | [] => some .nil
  | s :: r => match g s, cSs g r with
    | some c, some cs => some (.cons c cs)
    | _, _ => none
def compS (m : Nat) (sd : Bool) (sc : Scope) : Nat → Stmt → Option CS
  | 0, _ => none
  | n + 1, st => match st with
    | .Assign [.Subscript o i _] e _ => (match comp G N m sd sc o, comp G N m sd sc i, comp G N m sd sc e with
      | some x, some y, some z => some (.setix x y z)
      | _, _, _ => none)
    | .Assign [.Tuple [.Name x px, .Name y py] _ _] (.Tuple [a, b] _ _) _ =>
      if isLo sc x && isLo sc y && decide (x ≠ y) && px.line == py.line && !(foldedForSure 8 a && foldedForSure 8 b) && !(constantsAlone 8 a && constantsAlone 8 b) then (match ixOf x N, ixOf y N, comp G N m sd sc a, comp G N m sd sc b with
        | some i, some j, some u, some v => some (.par i j u v)
        | _, _, _, _ => none) else none
    | .Assign [t] e _ => if isTup t && isTup e then none else (match cTg N sc t, comp G N m sd sc e with
      | some g, some z => some (.asg g z)
      | _, _ => none)
    | .Expr e _ => if isComp e then none else (comp G N m sd sc e).map .expr
    | .Return (some e) _ => (comp G N m sd sc e).map .ret
    | .If c a b _ => (match comp G N m sd sc c, cSs (compS m sd sc n) a, cSs (compS m sd sc n) b with
      | some z, some x, some y => some (.ite z x y)
      | _, _, _ => none)
    | .For t i b [] _ => (match cTg N sc t, cSrc (comp G N m sd sc) sc (isTup t) i, cSs (compS m sd sc n) b with
      | some g, some s, some x => some (.for g s x)
      | _, _, _ => none)
    | .Continue _ => some .cont
    | .Break _ => some .brk
    | .Pass _ => some .pass
    | .Raise (some (.Call (.Name x _) as [] _)) none _ => (match ixOf x (G.cls.map (·.1)), cL (comp G N m sd sc) as with
      | some k, some cs => if isGl sc x ∧ (G.cls[k]?.map (·.2.length)) = some cs.length ∧ k ∈ G.rz then some (.raise k (toEs cs)) else none
      | _, _ => none)
    | _ => none
end
def compB (G : Gx) (N : List Str) (sd : Bool) (sc : Scope) (b : List Stmt) : Option CSs := cSs (compS G N 40 sd sc 20) b
end LF
set_option Elab.async false
set_option linter.all false
/-! How the interpreter's states lie in the layer's heap. -/
namespace LF
open PySem L2
structure Lk where
  K : PySem.W.Frag
  /-- own classes, the names of their fields -/
  cA : Nat → Addr
  cf : Nat → List Str
  /-- the tables of code objects that a lambda is noted in -/
  T : List (Addr × Str)
/-- a caught exception: its class, its own dict -/
def exT (C : Addr) (d a : Addr) : HO := .ext fun h => ∃ (oe : Obj) (us : Array Value), h.get? a = some oe ∧ oe.cls = .ref C ∧ oe.dict = some d ∧ oe.data = .fields us
/-- what never turns -/
def Stb : HO → Prop
  | .tup _ => True
  | .xd _ => True
  | .frz _ _ => True
  | .ext _ => True
  | _ => False
/-- what is never written -/
def NW : HO → Prop
  | .tup _ => True
  | .xd _ => True
  | .frz _ _ => True
  | .ext _ => True
  | .tbl _ => True
  | _ => False
theorem Stb.nw {o : HO} (h : Stb o) : NW o := by cases o <;> first | trivial | exact h
structure Ext (ι : List Addr) (H : Hp) (ι' : List Addr) (H' : Hp) : Prop where
  pre : ∃ r, ι' = ι ++ r
  stb : ∀ a o, H a = some o → Stb o → H' a = some o
theorem Ext.refl {ι : List Addr} {H : Hp} : Ext ι H ι H := ⟨⟨[], by simp⟩, fun _ _ h _ => h⟩
theorem Ext.trans {ι ι1 ι2 : List Addr} {H H1 H2 : Hp} (a : Ext ι H ι1 H1) (b : Ext ι1 H1 ι2 H2) : Ext ι H ι2 H2 := by
  obtain ⟨r, rfl⟩ := a.pre
  obtain ⟨q, rfl⟩ := b.pre
  exact ⟨⟨r ++ q, by rw [List.append_assoc]⟩, fun c o h s => b.stb c o (a.stb c o h s) s⟩
theorem Ext.get {ι ι' : List Addr} {H H' : Hp} (e : Ext ι H ι' H') {n : Nat} {a : Addr} (h : ι[n]? = some a) : ι'[n]? = some a := by
  obtain ⟨r, rfl⟩ := e.pre
  rw [List.getElem?_append_left]
  · exact h
  · exact (List.getElem?_eq_some_iff.mp h).1
theorem Ext.new {ι : List Addr} {H : Hp} {p : Addr} {o : HO} (h : H p = none) : Ext ι H (ι ++ [p]) (upd H p o) :=
  ⟨⟨[p], rfl⟩, fun a u e _ => by rw [upd_ne (ne_of_none e h)]; exact e⟩
theorem Ext.lay {ι : List Addr} {H : Hp} {p : Addr} {o : HO} (h : H p = none) : Ext ι H ι (upd H p o) :=
  ⟨⟨[], by simp⟩, fun a u e _ => by rw [upd_ne (ne_of_none e h)]; exact e⟩
theorem Ext.put {ι : List Addr} {H : Hp} {p : Addr} {o u : HO} (h : H p = some u) (hu : ¬ NW u) : Ext ι H ι (upd H p o) :=
  ⟨⟨[], by simp⟩, fun a z e s => by
    rw [upd_ne]
    · exact e
    · intro q
      subst q
      rw [h] at e
      cases e
      exact hu s.nw⟩
theorem Ext.sqT {K : PySem.W.Frag} {ι ι' : List Addr} {H H' : Hp} (e : Ext ι H ι' H') {a : Addr} {xs : List V} (h : SqT K H a xs) : SqT K H' a xs := by
  rcases h with (h | ⟨o, h⟩) | h
  · exact .inl (.inl (e.stb _ _ h trivial))
  · exact .inl (.inr ⟨o, e.stb _ _ h trivial⟩)
  · exact .inr h
section
variable (L : Lk) (ι : List Addr) (H : Hp)
mutual
/-- a value -/
def RV : IV → V → Prop
  | .non, v => v = .non
  | .bl b, v => v = .bl b
  | .int i, v => v = .int i
  | .str x, v => v = .str x
  | .tup xs, v => ∃ a ws, v = .ref a ∧ SqT L.K H a ws ∧ RVs xs ws
  | .ref n, v => ∃ a, v = .ref a ∧ ι[n]? = some a
  | .exc C fs, v => ∃ (a d : Addr) (gs : List (Str × V)) (ws : List V), v = .ref a ∧ H a = some (exT (L.cA C) d a) ∧ H d = some (.xd gs) ∧ (L.cf C).map (fun f => gs.lookup f) = ws.map some ∧ RVs fs ws
  | .glo _, _ => False
def RVs : List IV → List V → Prop
  | [], ws => ws = []
  | x :: xs, ws => ∃ w r, ws = w :: r ∧ RV x w ∧ RVs xs r
end
/-- a frame -/
def RF (ρ : Fr) (σ : St) : Prop := ρ.length = σ.length ∧ ∀ (i : Nat) (v : IV), ρ[i]? = some (some v) → ∃ w, σ[i]? = some (some w) ∧ RV L ι H v w
/-- an object -/
def RO (a : Addr) : IO → Prop
  | .lst xs => ∃ ws, H a = some (.lst ws) ∧ RVs L ι H xs ws
  | .fro ns => ∃ o, H a = some (.frz o (.lst (ns.map V.int)))
  | .dct kvs => ∃ gs : List (Key × V), H a = some (.dK gs) ∧ gs.map (·.1) = kvs.map (fun p => Sum.inr p.1) ∧ RVs L ι H (kvs.map (·.2)) (gs.map (·.2)) ∧ (kvs.map (·.1)).Nodup
structure RH (A : IH) : Prop where
  len : ι.length = A.length
  nd : ι.Nodup
  at_ : ∀ (n : Nat) (a : Addr) (o : IO), ι[n]? = some a → A[n]? = some o → RO L ι H a o
  tab : LamX.Tabs L.T H
end
theorem tab_new {H : Hp} {p : Addr} {o : HO} {T : List (Addr × Str)} (hp : H p = none) (t : LamX.Tabs T H) : LamX.Tabs T (upd H p o) := t.ext fun b u h => by rw [upd_ne (ne_of_none h hp)]; exact h
theorem tab_put {H : Hp} {p : Addr} {o u : HO} {T : List (Addr × Str)} (hp : H p = some u) (hu : ¬ NW u) (t : LamX.Tabs T H) : LamX.Tabs T (upd H p o) := fun q hq => by
  obtain ⟨ps, h1, h2, h3⟩ := t q hq
  have ne : ∀ b v, H b = some v → NW v → b ≠ p := fun b v e n z => by
    subst z
    rw [hp] at e
    cases e
    exact hu n
  refine ⟨ps, by rw [upd_ne (ne _ _ h1 trivial)]; exact h1, h2, fun pos cv hc => ?_⟩
  obtain ⟨c, e1, e2⟩ := h3 pos cv hc
  exact ⟨c, e1, by rw [upd_ne (ne _ _ e2 trivial)]; exact e2⟩
section
variable {L : Lk} {ι ι' : List Addr} {H H' : Hp}
mutual
theorem RV.mono (e : Ext ι H ι' H') : ∀ {x : IV} {v : V}, RV L ι H x v → RV L ι' H' x v
  | .non, _, h => h
  | .bl _, _, h => h
  | .int _, _, h => h
  | .str _, _, h => h
  | .tup xs, _, h => by
    unfold RV at h ⊢
    obtain ⟨a, ws, rfl, s, r⟩ := h
    exact ⟨a, ws, rfl, e.sqT s, RVs.mono e r⟩
  | .ref n, _, h => by
    unfold RV at h ⊢
    obtain ⟨a, rfl, s⟩ := h
    exact ⟨a, rfl, e.get s⟩
  | .exc C fs, _, h => by
    unfold RV at h ⊢
    obtain ⟨a, d, gs, ws, rfl, h1, h2, h3, r⟩ := h
    exact ⟨a, d, gs, ws, rfl, e.stb _ _ h1 trivial, e.stb _ _ h2 trivial, h3, RVs.mono e r⟩
  | .glo _, _, h => h
theorem RVs.mono (e : Ext ι H ι' H') : ∀ {xs : List IV} {ws : List V}, RVs L ι H xs ws → RVs L ι' H' xs ws
  | [], _, h => h
  | x :: xs, _, h => by
    unfold RVs at h ⊢
    obtain ⟨w, r, rfl, h1, h2⟩ := h
    exact ⟨w, r, rfl, RV.mono e h1, RVs.mono e h2⟩
end
theorem RVs.nil : RVs L ι H [] [] := rfl
theorem RVs.cons {x : IV} {xs : List IV} {w : V} {ws : List V} (h : RV L ι H x w) (r : RVs L ι H xs ws) : RVs L ι H (x :: xs) (w :: ws) := ⟨w, ws, rfl, h, r⟩
theorem RVs.length : ∀ {xs : List IV} {ws : List V}, RVs L ι H xs ws → xs.length = ws.length
  | [], ws, h => by
    have e : ws = [] := h
    rw [e]
    rfl
  | x :: xs, _, h => by
    obtain ⟨w, r, rfl, _, h2⟩ := h
    simp [RVs.length h2]
theorem RVs.get : ∀ {xs : List IV} {ws : List V} {i : Nat} {x : IV}, RVs L ι H xs ws → xs[i]? = some x → ∃ w, ws[i]? = some w ∧ RV L ι H x w
  | [], _, _, _, _, h => by simp at h
  | y :: xs, _, 0, x, h, e => by
    obtain ⟨w, r, rfl, h1, h2⟩ := h
    simp at e
    subst e
    exact ⟨w, rfl, h1⟩
  | y :: xs, _, i + 1, x, h, e => by
    obtain ⟨w, r, rfl, h1, h2⟩ := h
    exact RVs.get (i := i) h2 (by simpa using e)
theorem RVs.append : ∀ {xs ys : List IV} {us ws : List V}, RVs L ι H xs us → RVs L ι H ys ws → RVs L ι H (xs ++ ys) (us ++ ws)
  | [], _, _, _, h, q => by rw [show _ = [] from h]; exact q
  | x :: xs, _, _, _, h, q => by
    obtain ⟨w, r, rfl, h1, h2⟩ := h
    exact .cons h1 (RVs.append h2 q)
theorem RVs.take : ∀ {xs : List IV} {ws : List V} (n : Nat), RVs L ι H xs ws → RVs L ι H (xs.take n) (ws.take n)
  | _, _, 0, _ => by simp [RVs.nil]
  | [], _, _ + 1, h => by rw [show _ = [] from h]; exact .nil
  | x :: xs, _, n + 1, h => by
    obtain ⟨w, r, rfl, h1, h2⟩ := h
    exact .cons h1 (RVs.take n h2)
theorem RVs.drop : ∀ {xs : List IV} {ws : List V} (n : Nat), RVs L ι H xs ws → RVs L ι H (xs.drop n) (ws.drop n)
  | _, _, 0, h => h
  | [], _, _ + 1, h => by rw [show _ = [] from h]; exact .nil
  | x :: xs, _, n + 1, h => by
    obtain ⟨w, r, rfl, h1, h2⟩ := h
    exact RVs.drop n h2
theorem RVs.dropLast {xs : List IV} {ws : List V} (h : RVs L ι H xs ws) : RVs L ι H xs.dropLast ws.dropLast := by
  rw [List.dropLast_eq_take, List.dropLast_eq_take, h.length]
  exact h.take _
theorem RVs.ints : ∀ (ns : List Int), RVs L ι H (ns.map .int) (ns.map .int)
  | [] => rfl
  | n :: r => .cons rfl (RVs.ints r)
theorem RVs.strs : ∀ (ns : List Str), RVs L ι H (ns.map .str) (ns.map .str)
  | [] => rfl
  | n :: r => .cons rfl (RVs.strs r)
theorem RVs.bls : ∀ (ns : List Bool), RVs L ι H (ns.map .bl) (ns.map .bl)
  | [] => rfl
  | n :: r => .cons rfl (RVs.bls r)
theorem RVs.set {x : IV} {w : V} (h1 : RV L ι H x w) : ∀ {xs : List IV} {ws : List V} (i : Nat), RVs L ι H xs ws → RVs L ι H (xs.set i x) (ws.set i w)
  | [], _, _, h => by rw [show _ = [] from h]; exact .nil
  | y :: xs, _, 0, h => by
    obtain ⟨w', r, rfl, _, h2⟩ := h
    exact .cons h1 h2
  | y :: xs, _, i + 1, h => by
    obtain ⟨w', r, rfl, h3, h2⟩ := h
    exact .cons h3 (RVs.set h1 i h2)
theorem RF.mono (e : Ext ι H ι' H') {ρ : Fr} {σ : St} (h : RF L ι H ρ σ) : RF L ι' H' ρ σ :=
  ⟨h.1, fun i v q => let ⟨w, e1, r⟩ := h.2 i v q; ⟨w, e1, r.mono e⟩⟩
theorem RF.set {ρ : Fr} {σ : St} {v : IV} {w : V} (h : RF L ι H ρ σ) (i : Nat) (r : RV L ι H v w) : RF L ι H (ρ.set i (some v)) (σ.set i (some w)) := by
  refine ⟨by simp [h.1], fun j u q => ?_⟩
  by_cases hj : i = j
  · subst hj
    by_cases hl : i < ρ.length
    · rw [List.getElem?_set_self hl] at q
      cases q
      exact ⟨w, List.getElem?_set_self (by rw [← h.1]; exact hl), r⟩
    · rw [List.getElem?_eq_none (by simpa using hl)] at q
      cases q
  · rw [List.getElem?_set_ne hj] at q ⊢
    exact h.2 j u q
theorem RF.start {n : Nat} {vs : List IV} {ws : List V} {N : List Str} (h : RVs L ι H vs ws) (hn : n = N.length) : RF L ι H (startF n vs) (L2.start N ws) := by
  subst hn
  unfold startF L2.start
  refine ⟨by simp [h.length], fun i v q => ?_⟩
  by_cases hi : i < vs.length
  · rw [List.getElem?_append_left (by simpa using hi), List.getElem?_map] at q
    cases e : vs[i]? with
    | none => rw [e] at q; cases q
    | some x =>
      rw [e] at q
      cases q
      obtain ⟨w, e2, r⟩ := h.get e
      refine ⟨w, ?_, r⟩
      rw [List.getElem?_append_left (by simpa [← h.length] using hi), List.getElem?_map, e2]
      rfl
  · rw [List.getElem?_append_right (by simpa using hi), List.getElem?_replicate] at q
    split at q <;> cases q
/-- what an object says stays behind what leaves the object's own place alone -/
theorem RO.mono (e : Ext ι H ι' H') {a : Addr} {o : IO} (h : RO L ι H a o) (k : H' a = H a) : RO L ι' H' a o := by
  cases o with
  | lst xs =>
    obtain ⟨ws, h1, r⟩ := h
    exact ⟨ws, k.trans h1, r.mono e⟩
  | fro ns =>
    obtain ⟨o, h1⟩ := h
    exact ⟨o, k.trans h1⟩
  | dct kvs =>
    obtain ⟨gs, h1, h2, r, nd⟩ := h
    exact ⟨gs, k.trans h1, h2, r.mono e, nd⟩
/-- what stands at an object's place isn't free -/
theorem RO.there {a : Addr} {o : IO} (h : RO L ι H a o) : ∃ u, H a = some u := by
  cases o with
  | lst xs => obtain ⟨ws, h1, _⟩ := h; exact ⟨_, h1⟩
  | fro ns => obtain ⟨o, h1⟩ := h; exact ⟨_, h1⟩
  | dct kvs => obtain ⟨gs, h1, _⟩ := h; exact ⟨_, h1⟩
theorem RH.has {A : IH} (h : RH L ι H A) {n : Nat} {o : IO} (h2 : A[n]? = some o) : ∃ a, ι[n]? = some a := by
  have := (List.getElem?_eq_some_iff.mp h2).1
  exact ⟨ι[n]'(by rw [h.len]; exact this), by simp⟩
theorem RH.back {A : IH} (h : RH L ι H A) {n : Nat} {a : Addr} (h2 : ι[n]? = some a) : ∃ o, A[n]? = some o ∧ RO L ι H a o := by
  have := (List.getElem?_eq_some_iff.mp h2).1
  have e : A[n]? = some (A[n]'(by rw [← h.len]; exact this)) := by simp
  exact ⟨_, e, h.at_ n a _ h2 e⟩
theorem RH.lst {A : IH} (h : RH L ι H A) {n : Nat} {a : Addr} {xs : List IV} (h1 : ι[n]? = some a) (h2 : A[n]? = some (.lst xs)) : ∃ ws, H a = some (.lst ws) ∧ RVs L ι H xs ws := h.at_ n a _ h1 h2
/-- a list or the script, to be read -/
theorem RH.sqL {A : IH} (h : RH L ι H A) {n : Nat} {a : Addr} {xs : List IV} (h1 : ι[n]? = some a) (h2 : listOf A n = some xs) : ∃ ws, SqL L.K H a ws ∧ RVs L ι H xs ws := by
  obtain ⟨o, e, r⟩ := h.back h1
  unfold listOf at h2
  rw [e] at h2
  cases o with
  | lst ys =>
    cases h2
    obtain ⟨ws, q, rv⟩ := r
    exact ⟨ws, .inl (.inl q), rv⟩
  | fro ns =>
    cases h2
    obtain ⟨ob, q⟩ := r
    exact ⟨_, .inl (.inr ⟨ob, q⟩), RVs.ints ns⟩
  | dct kvs => cases h2
theorem nodup_get {ι : List Addr} (h : ι.Nodup) {m n : Nat} {a : Addr} (h1 : ι[m]? = some a) (h2 : ι[n]? = some a) : m = n := by
  induction ι generalizing m n with
  | nil => simp at h1
  | cons b r ih =>
    obtain ⟨nb, nr⟩ := List.nodup_cons.mp h
    cases m with
    | zero =>
      cases n with
      | zero => rfl
      | succ n =>
        simp at h1 h2
        subst h1
        exact absurd (List.mem_of_getElem? h2) nb
    | succ m =>
      cases n with
      | zero =>
        simp at h1 h2
        subst h2
        exact absurd (List.mem_of_getElem? h1) nb
      | succ n =>
        simp at h1 h2
        rw [ih nr h1 h2]
/-- a new object -/
theorem RH.new {A : IH} (h : RH L ι H A) {p : Addr} {u : HO} {o : IO} (hp : H p = none) (r : RO L (ι ++ [p]) (upd H p u) p o) : RH L (ι ++ [p]) (upd H p u) (A ++ [o]) := by
  have e : Ext ι H (ι ++ [p]) (upd H p u) := Ext.new hp
  have hne : ∀ n a, ι[n]? = some a → a ≠ p := fun n a q z => by
    obtain ⟨_, _, r'⟩ := h.back q
    obtain ⟨v, hv⟩ := r'.there
    rw [z, hp] at hv
    cases hv
  refine ⟨by simp [h.len], ?_, fun n a o' h1 h2 => ?_, tab_new hp h.tab⟩
  · refine List.nodup_append.mpr ⟨h.nd, by simp, fun a ha b hb z => ?_⟩
    obtain ⟨n, hn⟩ := List.getElem?_of_mem ha
    simp at hb
    exact hne n a hn (z.trans hb)
  · by_cases hn : n < A.length
    · have hn' : n < ι.length := by rw [h.len]; exact hn
      rw [List.getElem?_append_left hn'] at h1
      rw [List.getElem?_append_left hn] at h2
      exact (h.at_ n a o' h1 h2).mono e (upd_ne (hne n a h1))
    · have hl := (List.getElem?_eq_some_iff.mp h2).1
      simp at hl
      have en : n = A.length := by omega
      subst en
      rw [List.getElem?_append_right (Nat.le_refl _), Nat.sub_self] at h2
      rw [← h.len, List.getElem?_append_right (Nat.le_refl _), Nat.sub_self] at h1
      cases h1
      cases h2
      exact r
/-- an object written -/
theorem RH.put {A : IH} (h : RH L ι H A) {n : Nat} {a : Addr} {u w : HO} {o : IO} (h1 : ι[n]? = some a) (h2 : H a = some u) (hu : ¬ NW u) (r : RO L ι (upd H a w) a o) : RH L ι (upd H a w) (A.set n o) := by
  have e : Ext ι H ι (upd H a w) := Ext.put h2 hu
  refine ⟨by simp [h.len], h.nd, fun m b o' q1 q2 => ?_, tab_put h2 hu h.tab⟩
  by_cases hm : n = m
  · subst hm
    rw [h1] at q1
    cases q1
    have hl : n < A.length := by rw [← h.len]; exact (List.getElem?_eq_some_iff.mp h1).1
    rw [List.getElem?_set_self hl] at q2
    cases q2
    exact r
  · rw [List.getElem?_set_ne hm] at q2
    refine (h.at_ m b o' q1 q2).mono e (upd_ne fun z => hm ?_)
    subst z
    exact nodup_get h.nd h1 q1
/-- what is laid for itself (a tuple) -/
theorem RH.lay {A : IH} (h : RH L ι H A) {p : Addr} {u : HO} (hp : H p = none) : RH L ι (upd H p u) A := by
  have e : Ext ι H ι (upd H p u) := Ext.lay hp
  refine ⟨h.len, h.nd, fun n a o' h1 h2 => ?_, tab_new hp h.tab⟩
  have r := h.at_ n a o' h1 h2
  refine r.mono e (upd_ne fun z => ?_)
  obtain ⟨v, hv⟩ := r.there
  rw [z, hp] at hv
  cases hv
theorem RH.newL {A : IH} (h : RH L ι H A) {p : Addr} {xs : List IV} {ws : List V} (hp : H p = none) (r : RVs L ι H xs ws) : RH L (ι ++ [p]) (upd H p (.lst ws)) (A ++ [.lst xs]) :=
  h.new hp ⟨ws, upd_same, r.mono (Ext.new hp)⟩
theorem RH.putL {A : IH} (h : RH L ι H A) {n : Nat} {a : Addr} {xs : List IV} {vs ws : List V} (h1 : ι[n]? = some a) (h2 : H a = some (.lst vs)) (r : RVs L ι H xs ws) : RH L ι (upd H a (.lst ws)) (A.set n (.lst xs)) :=
  h.put h1 h2 (fun z => z) ⟨ws, upd_same, r.mono (Ext.put h2 fun z => z)⟩
theorem RV.new {A : IH} (h : RH L ι H A) {p : Addr} {H' : Hp} : RV L (ι ++ [p]) H' (.ref A.length) (.ref p) := by
  refine ⟨p, rfl, ?_⟩
  rw [← h.len]
  simp
/-- a tuple just laid -/
theorem RV.tupNew {p : Addr} {xs : List IV} {ws : List V} (hp : H p = none) (r : RVs L ι H xs ws) : RV L ι (upd H p (.tup ws)) (.tup xs) (.ref p) :=
  ⟨p, ws, rfl, .inl (.inl upd_same), r.mono (Ext.lay hp)⟩
end
end LF
set_option Elab.async false
set_option linter.all false
/-! Readings: what the interpreter says of an expression, as a reading of the layer. -/
namespace LF
open PySem L2
section
variable {α β γ δ : Type} (L : Lk)
abbrev Rel (α β : Type) := List Addr → Hp → α → β → Prop
/-- how a result lies behind -/
def Po (R : Rel α β) (E : XK) (ι : List Addr) (H : Hp) (r : Rs α) (Q : β → Hp → Prop) : Prop := match r with
  | .ok v A => ∀ ι' H' w, Ext ι H ι' H' → RH L ι' H' A → R ι' H' v w → Q w H'
  | .ex C fs A => ∀ ι' H' (d : Addr) (gs : List (Str × V)) (ws : List V), Ext ι H ι' H' → RH L ι' H' A → H' d = some (.xd gs) → (L.cf C).map (fun f => gs.lookup f) = ws.map some → RVs L ι' H' fs ws → E (.ref (L.cA C)) (some d) H'
  | .bad => False
/-- the reading of what is evaluated so -/
def tR (W : WX) (R : Rel α β) (ev : Fr → IH → Rs α) : St → Hp → (β → Hp → Prop) → Prop := fun σ H Q =>
  ∃ ι ρ A, RF L ι H ρ σ ∧ RH L ι H A ∧ Po L R (fun c d H => W c d σ H) ι H (ev ρ A) Q
end
section
variable {α β γ δ : Type} {L : Lk} {R : Rel α β} {S : Rel γ δ} {E : XK} {ι ι1 : List Addr} {H H1 : Hp}
theorem Po.base {r : Rs α} {Q : β → Hp → Prop} (h : Po L R E ι H r Q) (e : Ext ι H ι1 H1) : Po L R E ι1 H1 r Q := by
  cases r with
  | ok v A => exact fun ι' H' w e' => h ι' H' w (e.trans e')
  | ex C fs A => exact fun ι' H' d gs ws e' => h ι' H' d gs ws (e.trans e')
  | bad => exact h
theorem Po.bind {r : Rs α} {f : α → IH → Rs γ} {Q : δ → Hp → Prop} (h : Po L S E ι H (r.bind f) Q) :
    Po L R E ι H r fun x H1 => ∃ ι1 A v, Ext ι H ι1 H1 ∧ RH L ι1 H1 A ∧ R ι1 H1 v x ∧ Po L S E ι1 H1 (f v A) Q := by
  cases r with
  | ok v A => exact fun ι' H' w e' rh rv => ⟨ι', A, v, e', rh, rv, Po.base (show Po L S E ι H (f v A) Q from h) e'⟩
  | ex C fs A => exact h
  | bad => exact h
theorem Po.imp {r : Rs α} {Q Q' : β → Hp → Prop} (h : Po L R E ι H r Q) (k : ∀ x H, Q x H → Q' x H) : Po L R E ι H r Q' := by
  cases r with
  | ok v A => exact fun ι' H' w e' rh rv => k _ _ (h ι' H' w e' rh rv)
  | ex C fs A => exact h
  | bad => exact h
/-- a value at hand -/
theorem Po.now {v : α} {A : IH} {Q : β → Hp → Prop} {x : β} (h : Po L R E ι H (.ok v A) Q) (rh : RH L ι H A) (rv : R ι H v x) : Q x H := h ι H x .refl rh rv
theorem Po.at_ {v : α} {A : IH} {Q : β → Hp → Prop} {x : β} (h : Po L R E ι H (.ok v A) Q) (e : Ext ι H ι1 H1) (rh : RH L ι1 H1 A) (rv : R ι1 H1 v x) : Q x H1 := h ι1 H1 x e rh rv
end
/-- a reading may be weaker -/
theorem peImp {X : Cx} {e : Expr} {t t' : TE} (h : PE X e t) (k : ∀ σ H Q, t' σ H Q → t σ H Q) : PE X e t' := ⟨fun pins s σ H Q I q => h.run pins s σ H Q I (k σ H Q q)⟩
theorem ptImp {X : Cx} {e : Expr} {t t' : TT} (h : PT X e t) (k : ∀ σ H Q, t' σ H Q → t σ H Q) : PT X e t' := ⟨fun pins s σ H Q I q => h.run pins s σ H Q I (k σ H Q q)⟩
theorem psImp {X : Cx} {e : Stmt} {t t' : TS} (h : PS X e t) (k : ∀ D σ H, t' D σ H → t D σ H) : PS X e t' := ⟨fun pins s σ H D I q => h.run pins s σ H D I (k D σ H q)⟩
theorem lim_ok {n : Nat} (h : n ≤ LIM) : n ≤ sizeLine := by rw [sizeLine_eq]; exact Nat.le_trans h (by decide)
theorem lim_lt {n : Nat} (h : n < LIM) : n < sizeLine := by rw [sizeLine_eq]; exact Nat.lt_of_lt_of_le h (by decide)
/-! ### data -/
section
variable {L : Lk} {ι : List Addr} {H : Hp} {A : IH}
mutual
theorem toW_dp {g : Nat → Option PyData} (hg : ∀ n d a, g n = some d → ι[n]? = some a → Dp L.K H (.ref a) d) : ∀ {v : IV} {x : V} {d : PyData}, toW g v = some d → RV L ι H v x → Dp L.K H x d
  | .non, _, _, h, r => by cases h; rw [show _ = V.non from r]; exact .non
  | .bl b, _, _, h, r => by cases h; rw [show _ = V.bl b from r]; exact .bl b
  | .int i, _, _, h, r => by cases h; rw [show _ = V.int i from r]; exact .int i
  | .str z, _, _, h, r => by cases h; rw [show _ = V.str z from r]; exact .str z
  | .tup xs, _, d, h, r => by
    unfold toW at h
    obtain ⟨a, ws, rfl, s, rs⟩ := r
    cases e : toWs g xs with
    | none => rw [e] at h; cases h
    | some ds =>
      rw [e] at h
      cases h
      exact .tup s (toWs_dp hg e rs)
  | .ref n, _, d, h, r => by
    obtain ⟨a, rfl, q⟩ := r
    exact hg n d a h q
  | .exc _ _, _, _, h, _ => by unfold toW at h; cases h
  | .glo _, _, _, h, _ => by unfold toW at h; cases h
theorem toWs_dp {g : Nat → Option PyData} (hg : ∀ n d a, g n = some d → ι[n]? = some a → Dp L.K H (.ref a) d) : ∀ {vs : List IV} {xs : List V} {ds : List PyData}, toWs g vs = some ds → RVs L ι H vs xs → DpAll L.K H xs ds
  | [], xs, _, h, r => by
    cases h
    rw [show xs = [] from r]
    exact .nil
  | v :: vs, xs, ds, h, r => by
    obtain ⟨w, ws, rfl, r1, r2⟩ := r
    unfold toWs at h
    cases e1 : toW g v with
    | none => rw [e1] at h; simp at h
    | some d =>
      cases e2 : toWs g vs with
      | none => rw [e1, e2] at h; simp at h
      | some es =>
        rw [e1, e2] at h
        cases h
        exact .cons (toW_dp hg e1 r1) (toWs_dp hg e2 r2)
end
theorem dp_ints (K : PySem.W.Frag) : ∀ ns : List Int, DpAll K H (ns.map V.int) (ns.map PyData.int)
  | [] => .nil
  | n :: r => .cons (.int n) (dp_ints K r)
theorem refD_dp (rh : RH L ι H A) : ∀ (k n : Nat) (d : PyData) (a : Addr), refD k A n = some d → ι[n]? = some a → Dp L.K H (.ref a) d
  | 0, _, _, _, h, _ => by cases h
  | k + 1, n, d, a, h, q => by
    obtain ⟨o, e, r⟩ := rh.back q
    unfold refD at h
    rw [e] at h
    cases o with
    | lst xs =>
      obtain ⟨ws, hw, rv⟩ := r
      have h1 : (toWs (refD k A) xs).map PyData.list = some d := h
      cases e2 : toWs (refD k A) xs with
      | none => rw [e2] at h1; cases h1
      | some ds =>
        rw [e2] at h1
        cases h1
        exact .lst (.inl (.inl hw)) (toWs_dp (refD_dp rh k) e2 rv)
    | fro ns =>
      obtain ⟨ob, hw⟩ := r
      have h1 : some (PyData.list (ns.map .int)) = some d := h
      cases h1
      exact .lst (.inl (.inr ⟨ob, hw⟩)) (dp_ints L.K ns)
    | dct kvs => cases h
theorem toD_dp (rh : RH L ι H A) {v : IV} {x : V} {d : PyData} (h : toD A v = some d) (r : RV L ι H v x) : Dp L.K H x d := toW_dp (refD_dp rh 6) h r
end
/-! ### operations by values -/
section
variable {L : Lk} {ι : List Addr} {H : Hp} {A : IH} {v w : IV} {x y : V} {E : XK} {Q : VK}
theorem po_ok {v : IV} {A : IH} {x : V} (h : Po L (RV L) E ι H (.ok v A) Q) (rh : RH L ι H A) (rv : RV L ι H v x) : Q x H := h.now rh rv
/-- a new list -/
theorem po_newL {xs : List IV} {ws : List V} (rh : RH L ι H A) (rs : RVs L ι H xs ws) (h : Po L (RV L) E ι H (newL xs A) Q) {p : Addr} (hp : H p = none) : Q (.ref p) (upd H p (.lst ws)) :=
  Po.at_ (show Po L (RV L) E ι H (.ok (.ref A.length) (A ++ [.lst xs])) Q from h) (Ext.new hp) (rh.newL hp rs) (RV.new rh)
theorem po_tup {xs : List IV} {ws : List V} (rh : RH L ι H A) (rs : RVs L ι H xs ws) (h : Po L (RV L) E ι H (.ok (.tup xs) A) Q) {p : Addr} (hp : H p = none) : Q (.ref p) (upd H p (.tup ws)) :=
  Po.at_ h (Ext.lay hp) (rh.lay hp) (RV.tupNew hp rs)
/-- the reading of a binary operation -/
def rAdd : R2 := fun x y H Q => (∃ i j, x = .int i ∧ y = .int j ∧ Q (.int (i + j)) H) ∨ ((∃ i j, x = .str i ∧ y = .str j ∧ i.length + j.length ≤ sizeLine ∧ Q (.str (i ++ j)) H) ∨ rCat x y H Q)
theorem opAdd {X : Cx} : OpR X (binaryOp .Add) rAdd := op_add.or (op_add_str.or op_cat)
theorem binAdd (rh : RH L ι H A) (r1 : RV L ι H v x) (r2 : RV L ι H w y) (h : Po L (RV L) E ι H (binI .add v w A) Q) : rAdd x y H Q := by
  unfold binI at h
  split at h
  all_goals first | (rename_i e; cases e) | skip
  · rw [show x = _ from r1, show y = _ from r2]
    exact .inl ⟨_, _, rfl, rfl, h.now rh rfl⟩
  · rename_i a b
    unfold catS at h
    split at h
    · rename_i hl
      rw [show x = _ from r1, show y = _ from r2]
      exact .inr (.inl ⟨_, _, rfl, rfl, lim_ok hl, h.now rh rfl⟩)
    · exact h.elim
  · rename_i m n
    split at h
    · rename_i xs ys e1 e2
      split at h
      · rename_i hl
        obtain ⟨a, rfl, ha⟩ := r1
        obtain ⟨b, rfl, hb⟩ := r2
        obtain ⟨us, hu, ru⟩ := rh.lst ha e1
        obtain ⟨ws, hw, rw'⟩ := rh.lst hb e2
        exact .inr (.inr ⟨a, b, us, ws, rfl, rfl, hu, hw, lim_ok (by rw [← ru.length, ← rw'.length]; exact hl), fun p hp => po_newL rh (ru.append rw') h hp⟩)
      · exact h.elim
    · exact h.elim
  all_goals first | exact h.elim | skip
end
end LF
set_option Elab.async false
set_option linter.all false
/-! Operations by values, one by one. -/
namespace LF
open PySem L2
section
variable {L : Lk} {ι : List Addr} {H : Hp} {A : IH} {v w : IV} {x y : V} {E : XK} {Q : VK}
theorem po_optR {o : Option IV} (h : Po L (RV L) E ι H (optR o A) Q) : ∃ z, o = some z ∧ Po L (RV L) E ι H (.ok z A) Q := by
  cases o with
  | none => exact h.elim
  | some z => exact ⟨z, rfl, h⟩
theorem po_optB {o : Option Bool} (rh : RH L ι H A) (h : Po L (RV L) E ι H (optB o A) Q) : ∃ b, o = some b ∧ Q (.bl b) H := by
  cases o with
  | none => exact h.elim
  | some b => exact ⟨b, rfl, Po.now (show Po L (RV L) E ι H (.ok (.bl b) A) Q from h) rh rfl⟩
/-! ### numbers -/
def rBin (K : PySem.W.Frag) : Bop → R2
  | .add => rAdd
  | .sub => rI0 fun i j => .int (i - j)
  | .mul => rI CMulW fun i j => .int (i * j)
  | .fdiv => rI CDivW fun i j => .int (i / j)
  | .mod => rI (fun _ j => 0 < j) fun i j => .int (i % j)
  | .pow => rI CPow fun i j => .int (i ^ j.toNat)
def opB : Bop → Operator
  | .add => .Add | .sub => .Sub | .mul => .Mult | .fdiv => .FloorDiv | .mod => .Mod | .pow => .Pow
theorem opBin {X : Cx} : ∀ o : Bop, OpR X (binaryOp (opB o)) (rBin X.K o)
  | .add => opAdd
  | .sub => op_sub
  | .mul => op_mulW
  | .fdiv => op_fdivW
  | .mod => op_mod
  | .pow => op_pow
theorem leafBin (rh : RH L ι H A) (r1 : RV L ι H v x) (r2 : RV L ι H w y) (o : Bop) (h : Po L (RV L) E ι H (binI o v w A) Q) : rBin L.K o x y H Q := by
  cases o with
  | add => exact binAdd rh r1 r2 h
  | sub =>
    unfold binI at h
    split at h
    all_goals first | (rename_i e; cases e; done) | skip
    · rw [show x = _ from r1, show y = _ from r2]
      exact ⟨_, _, rfl, rfl, h.now rh rfl⟩
    · exact h.elim
  | mul =>
    unfold binI at h
    split at h
    all_goals first | (rename_i e; cases e; done) | skip
    · split at h
      · rename_i hc
        rw [show x = _ from r1, show y = _ from r2]
        exact ⟨_, _, rfl, rfl, hc, h.now rh rfl⟩
      · exact h.elim
    · exact h.elim
  | fdiv =>
    unfold binI at h
    split at h
    all_goals first | (rename_i e; cases e; done) | skip
    · split at h
      · rename_i hc
        rw [show x = _ from r1, show y = _ from r2]
        exact ⟨_, _, rfl, rfl, hc, h.now rh rfl⟩
      · exact h.elim
    · exact h.elim
  | mod =>
    unfold binI at h
    split at h
    all_goals first | (rename_i e; cases e; done) | skip
    · split at h
      · rename_i hc
        rw [show x = _ from r1, show y = _ from r2]
        exact ⟨_, _, rfl, rfl, hc, h.now rh rfl⟩
      · exact h.elim
    · exact h.elim
  | pow =>
    unfold binI at h
    split at h
    all_goals first | (rename_i e; cases e; done) | skip
    · split at h
      · rename_i hc
        rw [show x = _ from r1, show y = _ from r2]
        exact ⟨_, _, rfl, rfl, hc, h.now rh rfl⟩
      · exact h.elim
    · exact h.elim
/-! ### comparisons -/
theorem flat_rv (r : RV L ι H v x) (f : flatI v = true) : flatV x = true := by
  cases v <;> first | (cases f; done) | (rw [show x = _ from r]; rfl)
theorem flat_rvs : ∀ {vs : List IV} {xs : List V}, RVs L ι H vs xs → vs.all flatI = true → xs.all flatV = true
  | [], xs, r, _ => by rw [show xs = [] from r]; rfl
  | v :: vs, xs, r, f => by
    obtain ⟨w, ws, rfl, r1, r2⟩ := r
    simp only [List.all_cons, Bool.and_eq_true] at f ⊢
    exact ⟨flat_rv r1 f.1, flat_rvs r2 f.2⟩
theorem eq_rv (r : RV L ι H v x) (f : flatI v = true) (r' : RV L ι H w y) (f' : flatI w = true) : eqV x y = eqF v w := by
  cases v <;> first | (cases f; done) | (cases w <;> first | (cases f'; done) | (rw [show x = _ from r, show y = _ from r']; rfl))
theorem in_rvs (r : RV L ι H v x) (f : flatI v = true) : ∀ {vs : List IV} {xs : List V}, RVs L ι H vs xs → vs.all flatI = true → inV x xs = vs.any fun y => eqF y v
  | [], xs, rs, _ => by rw [show xs = [] from rs]; rfl
  | u :: vs, xs, rs, g => by
    obtain ⟨w, ws, rfl, r1, r2⟩ := rs
    simp only [List.all_cons, Bool.and_eq_true] at g
    show (eqV w x || inV x ws) = _
    rw [in_rvs r f r2 g.2, eq_rv r1 g.1 r f]
    rfl
def rIS : R2 := fun x y H Q => ∃ (c : Nat) (z : Str), x = .str ⟨#[c]⟩ ∧ y = .str z ∧ Q (.bl (decide (c ∈ z.cps.toList))) H
def rNIS : R2 := fun x y H Q => ∃ (c : Nat) (z : Str), x = .str ⟨#[c]⟩ ∧ y = .str z ∧ Q (.bl (!decide (c ∈ z.cps.toList))) H
def rCmp (K : PySem.W.Frag) : Cop → R2
  | .eq => rEqD K
  | .ne => rNeD K
  | .lt => rI0 fun i j => .bl (decide (i < j))
  | .le => rI0 fun i j => .bl (decide (i ≤ j))
  | .gt => rI0 fun i j => .bl (decide (j < i))
  | .ge => rI0 fun i j => .bl (decide (j ≤ i))
  | .isin => fun x y H Q => rIS x y H Q ∨ (rIn K false x y H Q ∨ rInD K x y H Q)
  | .notin => fun x y H Q => rNIS x y H Q ∨ (rIn K true x y H Q ∨ rNotInD K x y H Q)
  | .isn => fun x y H Q => y = .non ∧ Q (.bl (decide (x = .non))) H
  | .notn => fun x y H Q => y = .non ∧ Q (.bl (!decide (x = .non))) H
def opC : Cop → CmpOp
  | .eq => .Eq | .ne => .NotEq | .lt => .Lt | .le => .LtE | .gt => .Gt | .ge => .GtE | .isin => .In | .notin => .NotIn | .isn => .Is | .notn => .IsNot
theorem opCmp {X : Cx} (hu : X.A.units + 65 < cLine) : ∀ o : Cop, OpR X (compareOp (opC o)) (rCmp X.K o)
  | .eq => op_eqD (by omega)
  | .ne => op_neD (by omega)
  | .lt => op_lt
  | .le => op_le
  | .gt => op_gt
  | .ge => op_ge
  | .isin => op_in_sign.or (op_in_seq.or (op_inD hu))
  | .notin => op_notIn_sign.or (op_notIn_seq.or (op_notInD hu))
  | .isn => op_isN
  | .notn => op_notN
theorem str_one {x : Str} (h : x.length = 1) : x = ⟨#[x.cps.getD 0 0]⟩ := by
  obtain ⟨⟨l⟩⟩ := x
  have h' : l.length = 1 := h
  match l, h' with
  | [c], _ => rfl
theorem in_cases {b : Bool} (rh : RH L ι H A) (r1 : RV L ι H v x) (r2 : RV L ι H w y) (h : inI v w A = some b) :
    (∃ (c : Nat) (z : Str), x = .str ⟨#[c]⟩ ∧ y = .str z ∧ b = decide (c ∈ z.cps.toList)) ∨
    (∃ p xs, y = .ref p ∧ (SqL L.K H p xs ∨ SqT L.K H p xs) ∧ flatV x = true ∧ xs.all flatV = true ∧ b = inV x xs) ∨
    ∃ d ds, Dp L.K H x d ∧ Dp L.K H y (.list ds) ∧ SeqAt.shaped d = true ∧ SeqAt.shaped (.list ds) = true ∧ b = ds.any fun z => PyData.eqv z d := by
  unfold inI at h
  split at h
  · rename_i a z
    split at h
    · rename_i hl
      cases h
      rw [show x = _ from r1, show y = _ from r2]
      exact .inl ⟨_, z, congrArg V.str (str_one hl), rfl, rfl⟩
    · cases h
  · rename_i a xs _
    split at h
    · rename_i hf
      cases h
      simp only [Bool.and_eq_true] at hf
      obtain ⟨p, ws, rfl, hs, rs⟩ := r2
      exact .inr (.inl ⟨p, ws, rfl, .inr hs, flat_rv r1 hf.1, flat_rvs rs hf.2, (in_rvs r1 hf.1 rs hf.2).symm⟩)
    · cases h
  · rename_i a n _
    split at h
    · rename_i d ds e1 e2
      split at h
      · rename_i hf
        cases h
        simp only [Bool.and_eq_true] at hf
        exact .inr (.inr ⟨d, ds, toD_dp rh e1 r1, toD_dp rh e2 r2, hf.1, hf.2, rfl⟩)
      · cases h
    · cases h
  · cases h
theorem eq_cases {b : Bool} (rh : RH L ι H A) (r1 : RV L ι H v x) (r2 : RV L ι H w y) (h : eqI v w A = some b) :
    ∃ d e, Dp L.K H x d ∧ Dp L.K H y e ∧ SeqAt.shaped d = true ∧ SeqAt.shaped e = true ∧ b = PyData.eqv d e := by
  unfold eqI at h
  split at h
  · rename_i d e e1 e2
    split at h
    · rename_i hf
      cases h
      simp only [Bool.and_eq_true] at hf
      exact ⟨d, e, toD_dp rh e1 r1, toD_dp rh e2 r2, hf.1, hf.2, rfl⟩
    · cases h
  · cases h
theorem leafCmp (rh : RH L ι H A) (r1 : RV L ι H v x) (r2 : RV L ι H w y) (o : Cop) (h : Po L (RV L) E ι H (cmpI o v w A) Q) : rCmp L.K o x y H Q := by
  cases o with
  | eq =>
    obtain ⟨b, e, q⟩ := po_optB rh (show Po L (RV L) E ι H (optB (eqI v w A) A) Q from by unfold cmpI at h; exact h)
    obtain ⟨d, e2, h1, h2, h3, h4, rfl⟩ := eq_cases rh r1 r2 e
    exact ⟨d, e2, h1, h2, h3, h4, q⟩
  | ne =>
    obtain ⟨b, e, q⟩ := po_optB rh (show Po L (RV L) E ι H (optB ((eqI v w A).map (!·)) A) Q from by unfold cmpI at h; exact h)
    obtain ⟨b', e', rfl⟩ := Option.map_eq_some_iff.mp e
    obtain ⟨d, e2, h1, h2, h3, h4, rfl⟩ := eq_cases rh r1 r2 e'
    exact ⟨d, e2, h1, h2, h3, h4, q⟩
  | isin =>
    obtain ⟨b, e, q⟩ := po_optB rh (show Po L (RV L) E ι H (optB (inI v w A) A) Q from by unfold cmpI at h; exact h)
    rcases in_cases rh r1 r2 e with ⟨c, z, h1, h2, rfl⟩ | ⟨p, xs, h1, h2, h3, h4, rfl⟩ | ⟨d, ds, h1, h2, h3, h4, rfl⟩
    · exact .inl ⟨c, z, h1, h2, q⟩
    · exact .inr (.inl ⟨p, xs, h1, h2, h3, h4, q⟩)
    · exact .inr (.inr ⟨d, ds, h1, h2, h3, h4, q⟩)
  | notin =>
    obtain ⟨b, e, q⟩ := po_optB rh (show Po L (RV L) E ι H (optB ((inI v w A).map (!·)) A) Q from by unfold cmpI at h; exact h)
    obtain ⟨b', e', rfl⟩ := Option.map_eq_some_iff.mp e
    rcases in_cases rh r1 r2 e' with ⟨c, z, h1, h2, rfl⟩ | ⟨p, xs, h1, h2, h3, h4, rfl⟩ | ⟨d, ds, h1, h2, h3, h4, rfl⟩
    · exact .inl ⟨c, z, h1, h2, q⟩
    · exact .inr (.inl ⟨p, xs, h1, h2, h3, h4, q⟩)
    · exact .inr (.inr ⟨d, ds, h1, h2, h3, h4, q⟩)
  | isn =>
    cases w with
    | non =>
      refine ⟨r2, ?_⟩
      cases v with
      | non => rw [show x = _ from r1]; exact Po.now (show Po L (RV L) E ι H (.ok (.bl _) A) Q from h) rh rfl
      | bl b => rw [show x = _ from r1]; exact Po.now (show Po L (RV L) E ι H (.ok (.bl _) A) Q from h) rh rfl
      | int b => rw [show x = _ from r1]; exact Po.now (show Po L (RV L) E ι H (.ok (.bl _) A) Q from h) rh rfl
      | str b => rw [show x = _ from r1]; exact Po.now (show Po L (RV L) E ι H (.ok (.bl _) A) Q from h) rh rfl
      | tup b => obtain ⟨a, _, rfl, _⟩ := r1; exact Po.now (show Po L (RV L) E ι H (.ok (.bl _) A) Q from h) rh rfl
      | ref b => obtain ⟨a, rfl, _⟩ := r1; exact Po.now (show Po L (RV L) E ι H (.ok (.bl _) A) Q from h) rh rfl
      | exc b c => obtain ⟨a, _, _, _, rfl, _⟩ := r1; exact Po.now (show Po L (RV L) E ι H (.ok (.bl _) A) Q from h) rh rfl
      | glo b => exact False.elim r1
    | bl b => exact False.elim h
    | int b => exact False.elim h
    | str b => exact False.elim h
    | tup b => exact False.elim h
    | ref b => exact False.elim h
    | exc b c => exact False.elim h
    | glo b => exact False.elim h
  | notn =>
    cases w with
    | non =>
      refine ⟨r2, ?_⟩
      cases v with
      | non => rw [show x = _ from r1]; exact Po.now (show Po L (RV L) E ι H (.ok (.bl _) A) Q from h) rh rfl
      | bl b => rw [show x = _ from r1]; exact Po.now (show Po L (RV L) E ι H (.ok (.bl _) A) Q from h) rh rfl
      | int b => rw [show x = _ from r1]; exact Po.now (show Po L (RV L) E ι H (.ok (.bl _) A) Q from h) rh rfl
      | str b => rw [show x = _ from r1]; exact Po.now (show Po L (RV L) E ι H (.ok (.bl _) A) Q from h) rh rfl
      | tup b => obtain ⟨a, _, rfl, _⟩ := r1; exact Po.now (show Po L (RV L) E ι H (.ok (.bl _) A) Q from h) rh rfl
      | ref b => obtain ⟨a, rfl, _⟩ := r1; exact Po.now (show Po L (RV L) E ι H (.ok (.bl _) A) Q from h) rh rfl
      | exc b c => obtain ⟨a, _, _, _, rfl, _⟩ := r1; exact Po.now (show Po L (RV L) E ι H (.ok (.bl _) A) Q from h) rh rfl
      | glo b => exact False.elim r1
    | bl b => exact False.elim h
    | int b => exact False.elim h
    | str b => exact False.elim h
    | tup b => exact False.elim h
    | ref b => exact False.elim h
    | exc b c => exact False.elim h
    | glo b => exact False.elim h
  | lt =>
    unfold cmpI at h
    split at h
    all_goals first | (rename_i e; cases e; done) | skip
    · rw [show x = _ from r1, show y = _ from r2]
      exact ⟨_, _, rfl, rfl, h.now rh rfl⟩
    · exact h.elim
  | le =>
    unfold cmpI at h
    split at h
    all_goals first | (rename_i e; cases e; done) | skip
    · rw [show x = _ from r1, show y = _ from r2]
      exact ⟨_, _, rfl, rfl, h.now rh rfl⟩
    · exact h.elim
  | gt =>
    unfold cmpI at h
    split at h
    all_goals first | (rename_i e; cases e; done) | skip
    · rw [show x = _ from r1, show y = _ from r2]
      exact ⟨_, _, rfl, rfl, h.now rh rfl⟩
    · exact h.elim
  | ge =>
    unfold cmpI at h
    split at h
    all_goals first | (rename_i e; cases e; done) | skip
    · rw [show x = _ from r1, show y = _ from r2]
      exact ⟨_, _, rfl, rfl, h.now rh rfl⟩
    · exact h.elim
end
end LF
set_option Elab.async false
set_option linter.all false
set_option maxHeartbeats 2000000
/-! Subscripts, slices, the built-in functions, the methods: by values. -/
namespace LF
open PySem PySem.Spec PyProof.Rows L2
section
variable {L : Lk} {ι : List Addr} {H : Hp} {A : IH} {v w : IV} {x y : V} {E : XK} {Q : VK}
/-! ### subscripts -/
theorem RVs.at_ {xs : List IV} {ws : List V} (r : RVs L ι H xs ws) {i : Int} {z : IV} (h : L2.atI xs i = some z) : ∃ u, L2.atI ws i = some u ∧ RV L ι H z u := by
  unfold L2.atI at h ⊢
  rw [← r.length]
  cases e : ixN xs.length i with
  | none => rw [e] at h; cases h
  | some j =>
    rw [e] at h
    exact r.get h
theorem look_rv : ∀ {kvs : List (Str × IV)} {gs : List (Key × V)} {k : Str} {z : IV}, gs.map (·.1) = kvs.map (fun p => Sum.inr p.1) → RVs L ι H (kvs.map (·.2)) (gs.map (·.2)) → kvs.lookup k = some z →
    ∃ u, valV gs (.inr k) = some u ∧ RV L ι H z u
  | [], _, _, _, _, _, h => by simp at h
  | (a, b) :: kvs, [], _, _, e, _, _ => by simp at e
  | (a, b) :: kvs, (c, d) :: gs, k, z, e, r, h => by
    simp only [List.map_cons, List.cons.injEq] at e
    obtain ⟨e1, e2⟩ := e
    obtain ⟨w', r', e3, r1, r2⟩ := r
    cases e3
    subst e1
    by_cases hk : k = a
    · subst hk
      simp only [List.lookup_cons, beq_self_eq_true] at h
      cases h
      exact ⟨d, by unfold valV; simp, r1⟩
    · have hk' : (k == a) = false := beq_eq_false_iff_ne.mpr hk
      simp only [List.lookup_cons, hk'] at h
      obtain ⟨u, h1, h2⟩ := look_rv e2 r2 h
      refine ⟨u, ?_, h2⟩
      unfold valV at h1 ⊢
      rw [List.find?_cons]
      have : decide ((Sum.inr a : Key) = Sum.inr k) = false := decide_eq_false (fun q => hk (Sum.inr.inj q).symm)
      simp only [this]
      exact h1
theorem look_no : ∀ {kvs : List (Str × IV)} {gs : List (Key × V)} {k : Str}, gs.map (·.1) = kvs.map (fun p => Sum.inr p.1) → kvs.lookup k = none → valV gs (.inr k) = none
  | [], gs, k, e, h => by
    have : gs = [] := by simpa using e
    subst this
    rfl
  | (a, b) :: kvs, [], _, e, _ => by simp at e
  | (a, b) :: kvs, (c, d) :: gs, k, e, h => by
    simp only [List.map_cons, List.cons.injEq] at e
    obtain ⟨e1, e2⟩ := e
    subst e1
    by_cases hk : k = a
    · subst hk
      simp only [List.lookup_cons, beq_self_eq_true] at h
      cases h
    · have hk' : (k == a) = false := beq_eq_false_iff_ne.mpr hk
      simp only [List.lookup_cons, hk'] at h
      have h1 := look_no e2 h
      unfold valV at h1 ⊢
      rw [List.find?_cons]
      have : decide ((Sum.inr a : Key) = Sum.inr k) = false := decide_eq_false (fun q => hk (Sum.inr.inj q).symm)
      simp only [this]
      exact h1
def rIxK : R2 := fun x y H Q => ∃ (a : Addr) (k : Str) (u : V), x = .ref a ∧ y = .str k ∧ DGet H a (.str k) (some u) ∧ Q u H
theorem ix_dk {X : Cx} (hu : X.A.units + 1 < cLine) : IxR X rIxK := by
  intro value slice pins s σ H x y v u Q I rx ry h hs
  obtain ⟨a, k, z, rfl, rfl, g, q⟩ := h
  cases rx
  exact tail_any (dict_typeIs I g) PySem.F.slot_dict_getitem.lookup (d_getItem hu I g ry fun w' s' I' r' => ⟨z, H, I', r', q⟩) hs
def rIxA (K : PySem.W.Frag) : R2 := fun x y H Q => rIx K x y H Q ∨ rIxK x y H Q
theorem ixA {X : Cx} (hu : X.A.units + 1 < cLine) : IxR X (rIxA X.K) := ix_seq.or (ix_dk hu)
theorem leafIx (rh : RH L ι H A) (r1 : RV L ι H v x) (r2 : RV L ι H w y) (h : Po L (RV L) E ι H (ixI v w A) Q) : rIxA L.K x y H Q := by
  unfold ixI at h
  split at h
  · rename_i xs i
    obtain ⟨z, e, h⟩ := po_optR h
    obtain ⟨a, ws, rfl, hs, rs⟩ := r1
    obtain ⟨u, e2, r3⟩ := rs.at_ e
    rw [show y = _ from r2]
    exact .inl (.inr (.inl ⟨a, ws, i, u, rfl, rfl, hs, e2, h.now rh r3⟩))
  · rename_i z i
    split at h
    · rename_i hl
      obtain ⟨z', e, h⟩ := po_optR h
      obtain ⟨c, e1, rfl⟩ := Option.map_eq_some_iff.mp e
      rw [show x = _ from r1, show y = _ from r2]
      exact .inl (.inr (.inr ⟨z, i, c, rfl, rfl, lim_ok hl, e1, h.now rh rfl⟩))
    · exact h.elim
  · rename_i n i
    split at h
    · rename_i xs e0
      obtain ⟨z, e, h⟩ := po_optR h
      obtain ⟨a, rfl, ha⟩ := r1
      obtain ⟨ws, hs, rs⟩ := rh.sqL ha e0
      obtain ⟨u, e2, r3⟩ := rs.at_ e
      rw [show y = _ from r2]
      exact .inl (.inl ⟨a, ws, i, u, rfl, rfl, hs, e2, h.now rh r3⟩)
    · exact h.elim
  · rename_i n k
    split at h
    · rename_i kvs e0
      obtain ⟨z, e, h⟩ := po_optR h
      obtain ⟨a, rfl, ha⟩ := r1
      obtain ⟨gs, h1, h2, h3, h4⟩ := rh.at_ n a _ ha e0
      obtain ⟨u, e2, r3⟩ := look_rv h2 h3 e
      rw [show y = _ from r2]
      refine .inr ⟨a, k, u, rfl, rfl, ?_, h.now rh r3⟩
      have := DGet.k (k := .inr k) h1
      rw [e2] at this
      exact this
    · exact h.elim
  · exact h.elim
/-! ### slices -/
theorem RVs.cut {xs : List IV} {ws : List V} (r : RVs L ι H xs ws) (lo hi : Option Int) : RVs L ι H (cutL xs lo hi) (cutV ws lo hi) := by
  unfold cutL cutV
  rw [← r.length]
  exact (r.drop _).take _
def rSl (K : PySem.W.Frag) : V → Option Int → Option Int → Hp → VK → Prop := fun x lo hi H Q => rSlA K x lo hi H Q ∨ (rSlL K x lo hi H Q ∨ rSlS x lo hi H Q)
theorem slA {X : Cx} : SlR X (rSl X.K) := sl_tupA.or (sl_list.or sl_str)
theorem cut_all {α : Type} (xs : List α) (lo hi : Option Int) (h : HT.sIx xs.length 0 lo = 0 ∧ HT.sIx xs.length xs.length hi = xs.length) : cutL xs lo hi = xs := by
  unfold cutL
  rw [h.1, h.2]
  simp
theorem leafSl (rh : RH L ι H A) (r1 : RV L ι H v x) {lo hi : Option Int} (h : Po L (RV L) E ι H (slI v lo hi A) Q) : rSl L.K x lo hi H Q := by
  unfold slI at h
  split at h
  · rename_i xs
    obtain ⟨a, ws, rfl, hs, rs⟩ := r1
    refine .inl ⟨a, ws, rfl, hs, fun e => ?_, fun _ p hp => po_tup rh (rs.cut lo hi) h hp⟩
    rw [← rs.length] at e
    rw [cut_all xs lo hi e] at h
    exact h.now rh ⟨a, ws, rfl, hs, rs⟩
  · rename_i z
    split at h
    · rename_i hl
      rw [show x = _ from r1]
      exact .inr (.inr ⟨z, rfl, lim_ok hl, h.now rh rfl⟩)
    · exact h.elim
  · rename_i n
    split at h
    · rename_i xs e0
      obtain ⟨a, rfl, ha⟩ := r1
      obtain ⟨ws, hs, rs⟩ := rh.sqL ha e0
      exact .inr (.inl ⟨a, ws, rfl, hs, fun p hp => po_newL rh (rs.cut lo hi) h hp⟩)
    · exact h.elim
  · exact h.elim
/-! ### the built-in functions -/
theorem bls_rv : ∀ {xs : List IV} {bs : List Bool} {ws : List V}, blsOf xs = some bs → RVs L ι H xs ws → ws = bs.map V.bl
  | [], bs, ws, h, r => by
    cases h
    exact r
  | z :: xs, bs, ws, h, r => by
    cases z <;> first | (cases h; done) | skip
    rename_i b
    unfold blsOf at h
    obtain ⟨cs, e, rfl⟩ := Option.map_eq_some_iff.mp h
    obtain ⟨w', r', rfl, h1, h2⟩ := r
    rw [show w' = _ from h1, bls_rv e h2]
    rfl
theorem strs_rv : ∀ {xs : List IV} {bs : List Str} {ws : List V}, strsOf xs = some bs → RVs L ι H xs ws → ws = bs.map V.str
  | [], bs, ws, h, r => by
    cases h
    exact r
  | z :: xs, bs, ws, h, r => by
    cases z <;> first | (cases h; done) | skip
    rename_i b
    unfold strsOf at h
    obtain ⟨cs, e, rfl⟩ := Option.map_eq_some_iff.mp h
    obtain ⟨w', r', rfl, h1, h2⟩ := r
    rw [show w' = _ from h1, strs_rv e h2]
    rfl
abbrev CR1 := List V → Hp → VK → Prop
def rRepr (K : PySem.W.Frag) : CR1 := fun xs H Q => ∃ x d, xs = [x] ∧ Dp K H x d ∧ d.showable = true ∧ d.hasDict = false ∧ d.shown.length ≤ LIM ∧ d.depth ≤ 64 ∧ Q (.str d.shown) H
theorem call_repr {X : Cx} (hg : X.A.guards = some []) (hu : X.A.units + 65 < cLine) : CallR X (.builtin "repr") (rRepr X.K) := by
  intro pins s σ H xs us Q I r h
  obtain ⟨x, d, rfl, hd, h1, h2, h3, h4, q⟩ := h
  obtain ⟨u, rfl, ru⟩ := vals1 r
  obtain ⟨as, r1⟩ := Dp.reads I d x u hd ru
  have big : ∀ a, u = .ref a → wpAny (model X.prog X.w) X.A (call (.builtin "repr") [u]) (EP X pins σ Q) X.xe s := fun a e => by
    subst e
    exact repr_of_reads' r1 h1 (fun e => by rw [h2] at e; cases e) hg (by omega) (fun b o e => e)
      (fun h' t k kp => ⟨.str d.shown, H, I.kept kp, ⟨t, rfl⟩, q⟩) (lim_ok h3)
  cases hd with
  | non => cases ru; exact PySem.P.repr_of_none ⟨.str _, H, I.tok _, ⟨_, by simp only [PyData.shown]; rfl⟩, q⟩
  | bl b =>
    cases ru
    exact PySem.P.repr_of_bool ⟨.str _, H, I.tok _, ⟨s.toks, by simp only [PyData.shown]⟩, q⟩
  | int i =>
    obtain ⟨t, rfl⟩ := ru
    exact PySem.P.repr_of_int (by simpa [PyData.showable] using h1) ⟨.str _, H, I.tok _, ⟨_, by simp only [PyData.shown]; rfl⟩, q⟩
  | str z =>
    obtain ⟨t, rfl⟩ := ru
    simp only [PyData.shown] at h3
    exact PySem.P.repr_of_str ⟨.str _, H, I.tok _, ⟨_, by simp only [PyData.shown]; rfl⟩, q⟩ (lim_ok h3)
  | lst hs ha => cases ru; exact big _ rfl
  | tup hs ha => cases ru; exact big _ rfl
def rBi (K : PySem.W.Frag) : Bi → CR1
  | .len => fun xs H Q => (∃ p ys, xs = [.ref p] ∧ (SqL K H p ys ∨ SqT K H p ys) ∧ Q (.int ys.length) H) ∨ ∃ z, xs = [.str z] ∧ z.length ≤ sizeLine ∧ Q (.int z.length) H
  | .int => fun xs H Q => ∃ a n, xs = [.str a] ∧ PySem.intText? a = some n ∧ a.length ≤ 640 ∧ Q (.int n) H
  | .str => fun xs H Q => (∃ i, xs = [.int i] ∧ i.natAbs.log2 < 1920 ∧ Q (.str (toString i)) H) ∨ ∃ a, xs = [.str a] ∧ Q (.str a) H
  | .tuple => fun xs H Q => ∃ p ys, xs = [.ref p] ∧ ((SqL K H p ys ∧ ∀ l, H l = none → Q (.ref l) (upd H l (.tup ys))) ∨ (SqT K H p ys ∧ Q (.ref p) H))
  | .list => fun xs H Q => ∃ p ys, xs = [.ref p] ∧ (SqL K H p ys ∨ SqT K H p ys) ∧ ∀ l, H l = none → Q (.ref l) (upd H l (.lst ys))
  | .all => rAll K
  | .any => rAny K
  | .repr => rRepr K
def biF : Bi → Value
  | .len => .builtin "len" | .int => .type "int" | .str => .type "str" | .tuple => .type "tuple" | .list => .type "list" | .all => .builtin "all" | .any => .builtin "any" | .repr => .builtin "repr"
theorem callBi {X : Cx} (hc : X.calm = true) (hg : X.A.guards = some []) (hu : X.A.units + 65 < cLine) : ∀ b : Bi, CallR X (biF b) (rBi X.K b)
  | .len => call_len_seq.or call_len_str
  | .int => call_int_str
  | .str => call_str_int.or SkE.call_str_str
  | .tuple => call_tuple_of
  | .list => call_list_of
  | .all => cr_all hc
  | .any => cr_any hc
  | .repr => call_repr hg hu
theorem rvs1 {v : IV} {xs : List V} (r : RVs L ι H [v] xs) : ∃ x, xs = [x] ∧ RV L ι H v x := by
  obtain ⟨w, r', rfl, h1, h2⟩ := r
  cases h2
  exact ⟨w, rfl, h1⟩
theorem rvs2 {v w : IV} {xs : List V} (r : RVs L ι H [v, w] xs) : ∃ x y, xs = [x, y] ∧ RV L ι H v x ∧ RV L ι H w y := by
  obtain ⟨w, r', rfl, h1, h2⟩ := r
  obtain ⟨y, rfl, h3⟩ := rvs1 h2
  exact ⟨w, y, rfl, h1, h3⟩
theorem leafBi (rh : RH L ι H A) {vs : List IV} {xs : List V} (rs : RVs L ι H vs xs) (b : Bi) (h : Po L (RV L) E ι H (biI b vs A) Q) : rBi L.K b xs H Q := by
  unfold biI at h
  split at h
  · rename_i ys
    obtain ⟨x, rfl, a, ws, rfl, hs, r⟩ := rvs1 rs
    exact .inl ⟨a, ws, rfl, .inr hs, by rw [← r.length]; exact h.now rh rfl⟩
  · rename_i z
    split at h
    · rename_i hl
      obtain ⟨x, rfl, rfl⟩ := rvs1 rs
      exact .inr ⟨z, rfl, lim_ok hl, h.now rh rfl⟩
    · exact h.elim
  · rename_i n
    split at h
    · rename_i ys e
      obtain ⟨x, rfl, a, rfl, ha⟩ := rvs1 rs
      obtain ⟨ws, hs, r⟩ := rh.sqL ha e
      exact .inl ⟨a, ws, rfl, .inl hs, by rw [← r.length]; exact h.now rh rfl⟩
    · exact h.elim
  · rename_i z
    split at h
    · rename_i n e
      split at h
      · rename_i hl
        obtain ⟨x, rfl, rfl⟩ := rvs1 rs
        exact ⟨z, n, rfl, e, hl, h.now rh rfl⟩
      · exact h.elim
    · exact h.elim
  · rename_i i
    split at h
    · rename_i hl
      obtain ⟨x, rfl, rfl⟩ := rvs1 rs
      exact .inl ⟨i, rfl, hl, h.now rh rfl⟩
    · exact h.elim
  · rename_i z
    obtain ⟨x, rfl, rfl⟩ := rvs1 rs
    exact .inr ⟨z, rfl, h.now rh rfl⟩
  · rename_i ys
    obtain ⟨x, rfl, a, ws, rfl, hs, r⟩ := rvs1 rs
    exact ⟨a, ws, rfl, .inr ⟨hs, h.now rh ⟨a, ws, rfl, hs, r⟩⟩⟩
  · rename_i n
    split at h
    · rename_i ys e
      obtain ⟨x, rfl, a, rfl, ha⟩ := rvs1 rs
      obtain ⟨ws, hs, r⟩ := rh.sqL ha e
      exact ⟨a, ws, rfl, .inl ⟨hs, fun p hp => po_tup rh r h hp⟩⟩
    · exact h.elim
  · rename_i ys
    obtain ⟨x, rfl, a, ws, rfl, hs, r⟩ := rvs1 rs
    exact ⟨a, ws, rfl, .inr hs, fun p hp => po_newL rh r h hp⟩
  · rename_i n
    split at h
    · rename_i ys e
      obtain ⟨x, rfl, a, rfl, ha⟩ := rvs1 rs
      obtain ⟨ws, hs, r⟩ := rh.sqL ha e
      exact ⟨a, ws, rfl, .inl hs, fun p hp => po_newL rh r h hp⟩
    · exact h.elim
  · rename_i n
    split at h
    · rename_i bs e
      obtain ⟨ys, e1, e2⟩ := Option.bind_eq_some_iff.mp e
      obtain ⟨x, rfl, a, rfl, ha⟩ := rvs1 rs
      obtain ⟨ws, hs, r⟩ := rh.sqL ha e1
      exact ⟨a, bs, rfl, by rw [← bls_rv e2 r]; exact hs, h.now rh rfl⟩
    · exact h.elim
  · rename_i n
    split at h
    · rename_i bs e
      obtain ⟨ys, e1, e2⟩ := Option.bind_eq_some_iff.mp e
      obtain ⟨x, rfl, a, rfl, ha⟩ := rvs1 rs
      obtain ⟨ws, hs, r⟩ := rh.sqL ha e1
      exact ⟨a, bs, rfl, by rw [← bls_rv e2 r]; exact hs, h.now rh rfl⟩
    · exact h.elim
  · rename_i v
    split at h
    · rename_i d e
      split at h
      · rename_i hc
        simp only [Bool.and_eq_true, Bool.not_eq_true', decide_eq_true_eq] at hc
        obtain ⟨x, rfl, r⟩ := rvs1 rs
        exact ⟨x, d, rfl, toD_dp rh e r, hc.1.1.1, hc.1.1.2, hc.1.2, hc.2, h.now rh rfl⟩
      · exact h.elim
    · exact h.elim
  · exact h.elim
/-! ### methods -/
def meT : Me → String
  | .split => "str" | .join => "str" | .partition => "str" | .get => "dict" | _ => "list"
def meId : Me → String
  | .append => "list.append" | .extend => "list.extend" | .pop => "list.pop" | .split => "str.split" | .join => "str.join" | .partition => "str.partition" | .count => "list.count" | .index => "list.index" | .get => "dict.get"
def meN : Me → Str
  | .append => "append" | .extend => "extend" | .pop => "pop" | .split => "split" | .join => "join" | .partition => "partition" | .count => "count" | .index => "index" | .get => "get"
theorem meSlot : ∀ m : Me, Slot (meT m) (meN m) (meId m)
  | .append => PySem.F.slot_list_append | .extend => PySem.F.slot_list_extend | .pop => PySem.F.slot_list_pop | .split => PySem.F.slot_str_split | .join => PySem.F.slot_str_join
  | .partition => PySem.F.slot_str_partition | .count => PySem.F.slot_list_count | .index => PySem.F.slot_list_index | .get => PySem.F.slot_dict_get
theorem meTy : ∀ m : Me, typeOf (.builtin (meId m)) = pure (.type "method_descriptor")
  | .append => PySem.F.type_list_append | .extend => PySem.F.type_list_extend | .pop => PySem.F.type_list_pop | .split => PySem.F.type_str_split | .join => PySem.F.type_str_join
  | .partition => PySem.F.type_str_partition | .count => PySem.F.type_list_count | .index => PySem.F.type_list_index | .get => PySem.F.type_dict_get
theorem mePl : ∀ m : Me, PlainAttrs (meT m)
  | .append => PySem.F.plainAttrs_list | .extend => PySem.F.plainAttrs_list | .pop => PySem.F.plainAttrs_list | .split => PySem.F.plainAttrs_str | .join => PySem.F.plainAttrs_str
  | .partition => PySem.F.plainAttrs_str | .count => PySem.F.plainAttrs_list | .index => PySem.F.plainAttrs_list | .get => PySem.F.plainAttrs_dict
theorem meOf_n {x : Str} {m : Me} (h : meOf x = some m) : x = meN m := by
  unfold meOf at h
  repeat (split at h; · cases h; assumption)
  cases h
def rCountF (K : PySem.W.Frag) : V → CR1 := fun x xs H Q => ∃ (a : Addr) (ys : List V) (y : V), x = .ref a ∧ xs = [y] ∧ SqL K H a ys ∧ flatV y = true ∧ ys.all flatV = true ∧ Q (.int (ys.countP fun z => eqV z y : Nat)) H
theorem countP_vals {y : V} : ∀ {ys : List V} {us : List Value}, Vals ys us → ys.all flatV = true → us.countP (eqU y) = ys.countP fun z => eqV z y
  | _, _, .nil, _ => rfl
  | z :: ys, u :: us, .cons r t, f => by
    rw [List.all_cons, Bool.and_eq_true] at f
    rw [List.countP_cons, List.countP_cons, countP_vals t f.2, eqU_of r f.1]
theorem mt_countF {X : Cx} : MtR X "list.count" (rCountF X.K) := by
  intro pins s σ H x xs v us Q I rx rxs h
  obtain ⟨a, ys, y, rfl, rfl, hs, fy, fys, q⟩ := h
  cases rx
  obtain ⟨u, rfl, ru⟩ := rxs.one
  obtain ⟨its, rv, ⟨⟨cls, dd, data, sl⟩, n, ho, hc, hdn, hd⟩, hlen⟩ := I.list hs
  simp only at hc hd
  subst hc hd
  refine call_meets PySem.F.slot_list_count ⟨_, ho, rfl⟩ PySem.F.entry_list_count (PySem.F.args_list_count_2 _ _)
    (SeqAt.list_countAt a its.toArray n dd sl u (eqU y)) ⟨ho, fun z hz => mem_eqAt ru fy rv fys z (by simpa using hz), ?_⟩
  refine ⟨.int _, H, I.tok _, ⟨s.toks, ?_⟩, q⟩
  show Value.int ((its.toArray.toList.countP (eqU y) : Nat) : Int) s.toks = _
  rw [List.toList_toArray, countP_vals rv fys]
def rGetD : V → CR1 := fun x xs H Q => ∃ (a : Addr) (k : Str) (d : V) (o : Option V), x = .ref a ∧ xs = [.str k, d] ∧ DGet H a (.str k) o ∧ Q (o.getD d) H
theorem mt_getD {X : Cx} (hu : X.A.units + 1 < cLine) : MtR X "dict.get" rGetD := by
  intro pins s σ H x xs v us Q I rx rxs h
  obtain ⟨a, k, d, o, rfl, rfl, g, q⟩ := h
  cases rx
  obtain ⟨u1, u2, rfl, r1, r2⟩ := rxs.two
  exact d_get2 hu I g r1 r2 fun w' s' I' rw' => ⟨_, H, I', rw', q⟩
def rMe (K : PySem.W.Frag) : Me → V → CR1
  | .append => rAppend
  | .extend => rExtend
  | .pop => rPop
  | .split => fun x xs H Q => ∃ a b, x = .str a ∧ xs = [.str b] ∧ (b.length == 0) = false ∧ a.length + 2 ≤ sizeLine ∧ rNewStrs (Txt.split a b) H Q
  | .join => fun x xs H Q => ∃ a p, ∃ ys : List Str, x = .str a ∧ xs = [.ref p] ∧ (SqL K H p (ys.map V.str) ∨ SqT K H p (ys.map V.str)) ∧ (ys.map (·.length)).sum + ys.length * a.length ≤ 16777216 ∧ Q (.str (Txt.join a ys)) H
  | .partition => fun x xs H Q => ∃ a b, x = .str a ∧ xs = [.str b] ∧ (b.length == 0) = false ∧ a.length ≤ sizeLine ∧
    ∀ p, H p = none → Q (.ref p) (upd H p (.tup [.str (Txt.partition a b).1, .str (Txt.partition a b).2.1, .str (Txt.partition a b).2.2]))
  | .count => rCountF K
  | .index => rIndex K
  | .get => rGetD
theorem mtMe {X : Cx} (hu : X.A.units + 1 < cLine) : ∀ m : Me, MtR X (meId m) (rMe X.K m)
  | .append => mt_append
  | .extend => mt_extend
  | .pop => mt_pop
  | .split => mt_split
  | .join => mt_join
  | .partition => mt_partition
  | .count => mt_countF
  | .index => mt_index
  | .get => mt_getD hu
theorem lim2 {n : Nat} (h : n ≤ LIM) : n + 2 ≤ sizeLine := by rw [sizeLine_eq]; have : LIM = 10000000 := rfl; omega
theorem count_rvs {v : IV} {y : V} (r : RV L ι H v y) (f : flatI v = true) : ∀ {xs : List IV} {ws : List V}, RVs L ι H xs ws → xs.all flatI = true → (ws.countP fun z => eqV z y) = xs.countP fun z => eqF z v
  | [], ws, rs, _ => by rw [show ws = [] from rs]; rfl
  | x :: xs, ws, rs, g => by
    obtain ⟨w', r', rfl, h1, h2⟩ := rs
    simp only [List.all_cons, Bool.and_eq_true] at g
    rw [List.countP_cons, List.countP_cons, count_rvs r f h2 g.2, eq_rv h1 g.1 r f]
theorem idx_rvs {v : IV} {y : V} (r : RV L ι H v y) (f : flatI v = true) : ∀ {xs : List IV} {ws : List V} {k0 k : Nat}, RVs L ι H xs ws → xs.all flatI = true → idxF v xs k0 = some k →
    ∃ (j : Nat) (z : V), k = k0 + j ∧ ws[j]? = some z ∧ eqV z y = true ∧ ∀ (m : Nat) (z' : V), m < j → ws[m]? = some z' → eqV z' y = false
  | [], ws, _, _, _, _, h => by cases h
  | x :: xs, ws, k0, k, rs, g, h => by
    obtain ⟨w', r', rfl, h1, h2⟩ := rs
    simp only [List.all_cons, Bool.and_eq_true] at g
    unfold idxF at h
    split at h
    · rename_i e
      cases h
      exact ⟨0, w', rfl, rfl, by rw [eq_rv h1 g.1 r f]; exact e, fun m z' hm => absurd hm (Nat.not_lt_zero _)⟩
    · rename_i e
      obtain ⟨j, z, e1, e2, e3, e4⟩ := idx_rvs r f h2 g.2 h
      refine ⟨j + 1, z, by omega, e2, e3, fun m z' hm hz => ?_⟩
      cases m with
      | zero =>
        simp at hz
        subst hz
        rw [eq_rv h1 g.1 r f]
        simpa using e
      | succ m => exact e4 m z' (by omega) hz
theorem look_opt {kvs : List (Str × IV)} {gs : List (Key × V)} {k : Str} (e : gs.map (·.1) = kvs.map (fun p => Sum.inr p.1)) (r : RVs L ι H (kvs.map (·.2)) (gs.map (·.2))) {d : IV} {z : V} (rd : RV L ι H d z) :
    RV L ι H ((kvs.lookup k).getD d) ((valV gs (.inr k)).getD z) := by
  cases h : kvs.lookup k with
  | none => rw [look_no e h]; exact rd
  | some u =>
    obtain ⟨u', h1, h2⟩ := look_rv e r h
    rw [h1]
    exact h2
theorem leafMe (rh : RH L ι H A) (r1 : RV L ι H v x) {vs : List IV} {xs : List V} (rs : RVs L ι H vs xs) (m : Me) (h : Po L (RV L) E ι H (meI m v vs A) Q) : rMe L.K m x xs H Q := by
  unfold meI at h
  split at h
  · rename_i n z
    split at h
    · rename_i ys e
      split at h
      · rename_i hl
        obtain ⟨a, rfl, ha⟩ := r1
        obtain ⟨w', rfl, r2⟩ := rvs1 rs
        obtain ⟨ws, hs, r⟩ := rh.lst ha e
        refine ⟨a, ws, w', rfl, rfl, hs, by rw [← r.length]; exact lim_lt hl, ?_⟩
        exact Po.at_ h (Ext.put hs fun z => z) (rh.putL ha hs (r.append (.cons r2 .nil))) rfl
      · exact h.elim
    · exact h.elim
  · rename_i n m
    split at h
    · rename_i ys zs e1 e2
      split at h
      · rename_i hl
        obtain ⟨a, rfl, ha⟩ := r1
        obtain ⟨w', rfl, b, rfl, hb⟩ := rvs1 rs
        obtain ⟨ws, hs, r⟩ := rh.lst ha e1
        obtain ⟨us, hs2, r2⟩ := rh.lst hb e2
        refine ⟨a, b, ws, us, rfl, rfl, hs, hs2, by rw [← r.length, ← r2.length]; exact lim_ok hl, ?_⟩
        exact Po.at_ h (Ext.put hs fun z => z) (rh.putL ha hs (r.append r2)) rfl
      · exact h.elim
    · exact h.elim
  · rename_i n
    split at h
    · rename_i ys e
      split at h
      · rename_i z ez
        obtain ⟨a, rfl, ha⟩ := r1
        cases rs
        obtain ⟨ws, hs, r⟩ := rh.lst ha e
        obtain ⟨u, hu, ru⟩ := r.get ez
        refine ⟨a, ws, u, rfl, rfl, hs, by rw [← r.length]; exact hu, ?_⟩
        exact Po.at_ h (Ext.put hs fun z => z) (rh.putL ha hs r.dropLast) (ru.mono (Ext.put hs fun z => z))
      · exact h.elim
    · exact h.elim
  · rename_i a b
    split at h
    · rename_i hl
      obtain ⟨w', rfl, rfl⟩ := rvs1 rs
      rw [show x = _ from r1]
      exact ⟨a, b, rfl, rfl, beq_eq_false_iff_ne.mpr hl.1, lim2 hl.2, fun p hp => po_newL rh (RVs.strs _) h hp⟩
    · exact h.elim
  · rename_i a b
    split at h
    · rename_i hl
      obtain ⟨w', rfl, rfl⟩ := rvs1 rs
      rw [show x = _ from r1]
      exact ⟨a, b, rfl, rfl, beq_eq_false_iff_ne.mpr hl.1, lim_ok hl.2, fun p hp => po_tup rh (RVs.strs [_, _, _]) h hp⟩
    · exact h.elim
  · rename_i a n
    split at h
    · rename_i ys e
      split at h
      · rename_i hl
        obtain ⟨zs, e1, e2⟩ := Option.bind_eq_some_iff.mp e
        obtain ⟨w', rfl, b, rfl, hb⟩ := rvs1 rs
        obtain ⟨ws, hs, r⟩ := rh.sqL hb e1
        rw [show x = _ from r1]
        exact ⟨a, b, ys, rfl, rfl, .inl (by rw [← strs_rv e2 r]; exact hs), Nat.le_trans hl (by decide), h.now rh rfl⟩
      · exact h.elim
    · exact h.elim
  · rename_i n z
    split at h
    · rename_i ys e
      split at h
      · rename_i hf
        simp only [Bool.and_eq_true] at hf
        obtain ⟨a, rfl, ha⟩ := r1
        obtain ⟨w', rfl, r2⟩ := rvs1 rs
        obtain ⟨ws, hs, r⟩ := rh.sqL ha e
        exact ⟨a, ws, w', rfl, rfl, hs, flat_rv r2 hf.1, flat_rvs r hf.2, by rw [count_rvs r2 hf.1 r hf.2]; exact h.now rh rfl⟩
      · exact h.elim
    · exact h.elim
  · rename_i n k d
    split at h
    · rename_i kvs e
      obtain ⟨a, rfl, ha⟩ := r1
      obtain ⟨w1, w2, rfl, rfl, r3⟩ := rvs2 rs
      obtain ⟨gs, h1, h2, h3, h4⟩ := rh.at_ n a _ ha e
      exact ⟨a, k, w2, _, rfl, rfl, DGet.k (k := .inr k) h1, h.now rh (look_opt h2 h3 r3)⟩
    · exact h.elim
  · rename_i n z
    split at h
    · rename_i ys e
      split at h
      · rename_i hf
        simp only [Bool.and_eq_true] at hf
        split at h
        · rename_i k ek
          obtain ⟨a, rfl, ha⟩ := r1
          obtain ⟨w', rfl, r2⟩ := rvs1 rs
          obtain ⟨ws, hs, r⟩ := rh.sqL ha e
          obtain ⟨j, z', rfl, e2, e3, e4⟩ := idx_rvs r2 hf.1 r hf.2 ek
          rw [Nat.zero_add] at h
          exact ⟨a, ws, w', j, z', rfl, rfl, hs, flat_rv r2 hf.1, flat_rvs r hf.2, e2, e3, e4, h.now rh rfl⟩
        · exact h.elim
      · exact h.elim
    · exact h.elim
  · exact h.elim
theorem recv_ty (rh : RH L ι H A) (r : RV L ι H v x) {m : Me} (h : recvI m v A = true) : tyV L.K (meT m) x H := by
  have lst : ∀ {n : Nat} {a : Addr}, ι[n]? = some a → (listOf A n).isSome = true → tyV L.K "list" (.ref a) H := fun {n a} ha e => by
    obtain ⟨xs, e⟩ := Option.isSome_iff_exists.mp e
    obtain ⟨ws, hs, _⟩ := rh.sqL ha e
    exact .inl ⟨rfl, ws, hs⟩
  cases m with
  | split => cases v <;> first | (cases h; done) | (rw [show x = _ from r]; rfl)
  | join => cases v <;> first | (cases h; done) | (rw [show x = _ from r]; rfl)
  | partition => cases v <;> first | (cases h; done) | (rw [show x = _ from r]; rfl)
  | get =>
    cases v <;> first | (cases h; done) | skip
    rename_i n
    obtain ⟨a, rfl, ha⟩ := r
    obtain ⟨o, e, ro⟩ := rh.back ha
    have h : (match A[n]? with
      | some (.dct _) => true
      | _ => false) = true := h
    rw [e] at h
    cases o <;> first | (cases h; done) | skip
    obtain ⟨gs, h1, _⟩ := ro
    exact .inr (.inr (.inl ⟨rfl, .inl ⟨gs, h1⟩⟩))
  | append => cases v <;> first | (cases h; done) | (obtain ⟨a, rfl, ha⟩ := r; exact lst ha h)
  | extend => cases v <;> first | (cases h; done) | (obtain ⟨a, rfl, ha⟩ := r; exact lst ha h)
  | pop => cases v <;> first | (cases h; done) | (obtain ⟨a, rfl, ha⟩ := r; exact lst ha h)
  | count => cases v <;> first | (cases h; done) | (obtain ⟨a, rfl, ha⟩ := r; exact lst ha h)
  | index => cases v <;> first | (cases h; done) | (obtain ⟨a, rfl, ha⟩ := r; exact lst ha h)
end
end LF
set_option Elab.async false
set_option linter.all false
set_option maxHeartbeats 2000000
/-! Exceptions that leave a comprehension's block. -/
namespace LF
open PySem PySem.Spec PyProof.Rows L2 HandSPX
/-- an exception in the air of a def, or of a block within it; l: the def's frame -/
def XEL (X : Cx) (l : Addr) (E : XK) (u : Value) (s' : Shared) : Prop :=
  ∃ (a : Addr) (B : Heap) (sI : Shared) (pins : List (Addr × Obj)) (σ : L2.St) (H : Hp) (cls : Value) (d : Option Addr), u = .ref a ∧ L2.Inv X pins σ H sI ∧
    (∀ b o, sI.heap.get? b = some o → b ∉ frs X.stack → B.get? b = some o) ∧ sI.heap.UpToSlots s'.heap ∧ Sky B X.stack a (Zc cls d) l s'.heap ∧ H a = none ∧ s'.os = sI.os ∧ AllBare s'.gens ∧ E cls d H
/-- what flies through X's code is taken -/
structure Air (X : Cx) (E : XK) : Prop where
  at_ : ∃ (top : Env) (rest : List Env) (l : Addr), X.stack = top :: rest ∧ top.frame = some l ∧ X.env.frame = some l ∧ ∀ u s', XEL X l E u s' → X.xe u s'
theorem Air.of {X : Cx} {E : XK} {rest : List Env} (hs : X.stack = X.env :: rest) (hf : X.env.frame = some X.env.locals) (tk : Takes X fun c d _ H => E c d H) : Air X E :=
  ⟨X.env, rest, X.env.locals, hs, hf, hf, fun u s' x => tk u s' x⟩
theorem flying_sky {B B' : Heap} {l l' : List Env} {a L L' : Addr} {Z Z' : Obj → Prop} {h : Heap} (f : FlyingZ B l a Z h) (s : Sky B' l' a Z' L h) : Sky B' l' a Z' L' h := by
  obtain ⟨_, _, _, oe, vs, T, oT, ts, e1, _, e2, e3, _, _, e4, e5, e6⟩ := f
  rcases s with ⟨_, _, _, oe', vs', e1', _, e2', e3'⟩ | s | ⟨_, _, _, oe', vs', T', oT', ts', e1', _, e2', e3', _, _, e4', e5', e6'⟩
  · rw [e1] at e1'; cases e1'
    rw [e2] at e2'; cases e2'
    rw [e3] at e3'; cases e3'
  · exact .inr (.inl s)
  · rw [e1] at e1'; cases e1'
    rw [e2] at e2'; cases e2'
    rw [e3] at e3'; cases e3'
    rw [e4] at e4'; cases e4'
    rw [e5] at e5'; cases e5'
    rw [e6] at e6'; cases e6'
/-- a callee's exception is taken -/
theorem Air.passes {X : Cx} {E : XK} (air : Air X E) {F : XK} (hF : ∀ c d H, F c d H → E c d H) {pins : List (Addr × Obj)} {σ : L2.St} {H : Hp} {s s' : Shared} {u : Value} (I : L2.Inv X pins σ H s)
    (c : CX X.prog X.w X.stack H s F u s') : X.xe u s' := by
  obtain ⟨top, rest, l, h1, h2, h3, take⟩ := air.at_
  obtain ⟨a0, B0, _, _, _, hu, fl, _⟩ := id c
  obtain ⟨a, B, sI, p2, σ2, H2, cls, d, ea, r1, r2, r3, sky, r4⟩ := XE.of_call (W := fun c d _ H => E c d H) I (fun c d H q => hF c d H q) c
  subst ea
  have e : a0 = a := by injection hu with e; exact e.symm
  subst e
  exact take _ _ ⟨a0, B, sI, p2, σ2, H2, cls, d, rfl, r1, r2, r3, flying_sky fl sky, r4⟩
theorem note_same {e : Value} {env env' : Env} (h : env.frame = env'.frame) : noteFrame e env = noteFrame e env' := by
  unfold noteFrame PySem.frameOf
  rw [h]
theorem frames_less {B B' h h' : Heap} {C : Addr} (hB : ∀ b o, B'.get? b = some o → B.get? b = some o) (hh : ∀ b, b ≠ C → h'.get? b = h.get? b) : ∀ {l : List Env}, C ∉ frs l → h.FunFrames B l → h'.FunFrames B' l
  | [], _, _ => trivial
  | env :: l, hn, ⟨k, ⟨L, o, e1, e2, e3, e4⟩, r⟩ => by
    have hL : L ≠ C := fun q => hn (List.mem_filterMap.mpr ⟨env, List.mem_cons_self, by rw [e1, q]⟩)
    refine ⟨k, ⟨L, o, e1, ?_, (hh L hL).trans e3, e4⟩, frames_less hB hh (fun q => hn ?_) r⟩
    · cases q : B'.get? L with
      | none => rfl
      | some u => rw [hB _ _ q] at e2; cases e2
    · obtain ⟨e, m, z⟩ := List.mem_filterMap.mp q
      exact List.mem_filterMap.mpr ⟨e, List.mem_cons_of_mem _ m, z⟩
/-- a block's context, with what is wanted of exceptions -/
abbrev blkE (X : Cx) (s : Shared) (H : Hp) (scope : Scope) (ce : Env) (fp : List Addr) (xe : Value → Shared → Prop) : Cx := { X.blk s H scope ce fp with xe := xe }
theorem air_blk {X : Cx} {E : XK} (air : Air X E) {pins : List (Addr × Obj)} {σ : L2.St} {H : Hp} {s : Shared} {scope : Scope} {ce : Env} {fp : List Addr} (I : L2.Inv X pins σ H s) (hC : ce.locals = s.heap.objs.size) (hf : ce.frame = X.env.frame)
    (f : ∀ b ∈ fp, FpOk X pins H b ∧ b < s.heap.objs.size) : Air (blkE X s H scope ce fp (notedBy (model X.prog X.w) X.A ce (CompFails (model X.prog X.w) X.A X.xe ce))) E := by
  obtain ⟨top, rest, l, h1, h2, h3, take⟩ := air.at_
  refine ⟨top, rest, l, h1, h2, hf.trans h3, fun u s' x => ?_⟩
  obtain ⟨a, B, sI, p2, σ2, H2, cls, d, rfl, J, nb, up, sky, na, os, ag, hE⟩ := x
  have hfr : X.A.frames = some (top :: rest) := by rw [I.ok.frames, h1]
  have nC : H2 ce.locals = none := J.free
  have sC : ce.locals ∉ frs X.stack := fun m => by
    obtain ⟨_, o, e, _⟩ := I.stack.mem m
    have := Heap.lt_size e
    rw [hC] at this
    exact absurd this (Nat.lt_irrefl _)
  obtain ⟨m, ⟨oC, es, ep, eC, dC⟩, _⟩ := J.loc
  have eC : sI.heap.get? ce.locals = some oC := eC
  have bC := nb _ _ eC sC
  have fin : ∀ h', HeldZ B X.stack a (Zc cls d) l h' → s'.heap.UpToSlots h' → CompFails (model X.prog X.w) X.A X.xe ce (.ref a) { s' with heap := h' } := fun h1' hh up1 => by
    obtain ⟨q1, q2, q3, oe, vs, T, oT, ts, t1, t2, t3, t4, t5, t6, t7, t8, t9⟩ := hh
    refine ⟨m, ⟨oC, es, ep, q1 _ _ bC, dC⟩, fun h' m' _ sb => ?_⟩
    have aC : a ≠ ce.locals := fun z => by rw [z, bC] at q2; cases q2
    have TC : T ≠ ce.locals := fun z => by rw [z, bC] at t5; cases t5
    have ob : ∀ b o, (PySem.W.hideAll B [ce.locals]).get? b = some o → B.get? b = some o ∧ b ≠ ce.locals := fun b o e => ⟨PySem.W.of_hideAll _ e, fun z => by
      rw [PySem.W.hideAll_none [ce.locals] (by simp [z])] at e
      cases e⟩
    have g1 : (PySem.W.hideAll B [ce.locals]).get? a = none := by
      cases q : (PySem.W.hideAll B [ce.locals]).get? a with
      | none => rfl
      | some u => rw [(ob _ _ q).1] at q2; cases q2
    have g2 : (PySem.W.hideAll B [ce.locals]).get? T = none := by
      cases q : (PySem.W.hideAll B [ce.locals]).get? T with
      | none => rfl
      | some u => rw [(ob _ _ q).1] at t5; cases t5
    have held : HeldZ (PySem.W.hideAll B [ce.locals]) X.stack a (Zc cls d) l h' :=
      ⟨fun b o e => (sb.2 b (ob b o e).2).trans (q1 b o (ob b o e).1), g1, frames_less (fun b o e => (ob b o e).1) sb.2 sC q3,
        oe, vs, T, oT, ts, (sb.2 a aC).trans t1, t2, t3, t4, g2, t6, (sb.2 T TC).trans t7, t8, t9⟩
    unfold PySem.passOn
    refine wpAny_bind (wpAny_field ((sb.2 a aC).trans t1) t3 t4 ?_)
    rw [if_neg (show ¬ ((Value.ref T == Value.none) = true) from fun z => by cases z), hf, h3]
    refine wpAny_bind (setFlight_onZ (L := l) (s := { s' with heap := h' }) held fun h2' held2 up2 => wpAny_throw ?_)
    have I0 : L2.Inv X pins σ H2 sI := I.call' (ch := fp) J.os J.base J.hok J.bare fun b hb => ⟨(f b hb).1.2.2.2.1, (f b hb).1.2.1, (f b hb).1.2.2.2.2.1, (f b hb).1.2.2.2.2.2⟩
    obtain ⟨f0, f1, f2, f3, f4, f5⟩ := I.fpOk (Nat.le_of_eq hC.symm) nC
    have I1 : L2.Inv X pins σ H2 { sI with heap := PySem.W.hideAll sI.heap [ce.locals] } :=
      I0.turned (t' := sI.toks) (it := ce.locals) (fun b o hb e => PySem.W.hideAll_get _ e (by simpa using hb)) f0 f1 f3 f4 f5
    refine take _ _ ⟨a, PySem.W.hideAll B [ce.locals], _, pins, σ, H2, cls, d, rfl, I1, fun b o e hb => ?_, fun b o e hd => ?_, .inr (.inr held2), na, os, ag, hE⟩
    · have hb' : b ≠ ce.locals := fun z => by
        rw [PySem.W.hideAll_none [ce.locals] (by simp [z])] at e
        cases e
      exact PySem.W.hideAll_get _ (nb b o (PySem.W.of_hideAll _ e) hb) (by simpa using hb')
    · have hb' : b ≠ ce.locals := fun z => by
        rw [PySem.W.hideAll_none [ce.locals] (by simp [z])] at e
        cases e
      obtain ⟨sl1, e1⟩ := up b o (PySem.W.of_hideAll _ e) hd
      obtain ⟨sl2, e2⟩ := up1 b _ e1 hd
      obtain ⟨sl3, e3⟩ := up2 b _ ((sb.2 b hb').trans e2) hd
      exact ⟨sl3, e3⟩
  show wpAny _ _ (noteFrame (.ref a) ce) _ _ s'
  rw [note_same (env' := top) (by rw [hf, h3, h2])]
  have sky : Sky B X.stack a (Zc cls d) l s'.heap := sky
  rw [h1] at sky
  rcases sky with ⟨hB, hn, hl, oe, vs, he, hz, hd, hv⟩ | fl | hh
  · exact look_newZ Zc.steady hfr hl h2 he hB hn hd hv hz fun h' hh up1 => fin h' (by rw [h1]; exact hh) up1
  · exact looks_onZ Zc.steady hfr h2 fl fun h' hh up1 => fin h' (by rw [h1]; exact hh) up1
  · exact againZ h2 hh.2.2.2 (fin s'.heap (by rw [h1]; exact hh) (Heap.UpToSlots.refl _))
end LF
set_option Elab.async false
set_option linter.all false
set_option maxHeartbeats 2000000
/-! A list comprehension whose block may raise. -/
namespace LF
open PySem PySem.Spec PyProof.Rows L2 HandSPX
/-- the blocks of a comprehension's scope within X -/
def IsBlk (X : Cx) (scope : Scope) (E : XK) (B : Cx) : Prop :=
  Air B E ∧ ∃ s H C cl fp xe, B = blkE X s H scope (compEnvC scope cl C X.env) fp xe
variable {X : Cx}
theorem lc_coreX {E : XK} (air : Air X E) {pins : List (Addr × Obj)} {s : Shared} {σ : L2.St} {H : Hp} {Q : VK} {elt tg iter : Expr} {ifs : List Expr} {scope : Scope} {own : List (Str × Nat)} {pos pos' : Pos}
    {wi : TI} {g : L2.TG} {tt : TT} {te : TE} {use : Option (Value → Sem Unit)} {Qf : Value → Shared → Prop} (calm : X.calm = true) (nd : X.N.Nodup) (I : L2.Inv X pins σ H s) (hi : PI X tg iter wi)
    (ok : BlkOk X.N X.env.scope scope own) (hg : ∀ B, IsBlk X scope E B → PG B tg g) (ht : ∀ B, IsBlk X scope E B → PTs B ifs tt) (he : ∀ B, IsBlk X scope E B → PE B elt te)
    (hs : ∀ x, foldedSetIterable iter X.env x = pure x) (h : tLc wi g tt te (own.map (·.2)) σ H Q)
    (fin : ∀ D C s' m H', L2.Inv X pins σ H' s' → Q (.ref D) H' → s'.heap.Ns C m → FpOk X pins H' C → ∀ ce : Env, ce.locals = C → compEnds (model X.prog X.w) X.A X.xe use Qf (.ref D) ce (.ok .next) s') :
    wpAny (model X.prog X.w) X.A (comprehension (.ListComp elt [⟨tg, iter, ifs, 0⟩] scope pos) scope X.env pos' (newList []) false (eval iter X.env) use) Qf X.xe s := by
  have caught : ∀ y ∈ scope.names, y.2 = .free → ∃ c, X.env.cells.lookup y.1 = some c := fun y hy e => by
    rcases ok.free y hy e with z | z
    · exact I.ok.has _ (.inl z)
    · exact I.ok.has _ (.inr z)
  refine comprehension_at (use := use) rfl hs (closure_ok caught) ok.kind (fun y hy e => by rw [ok.uniq y hy, e]) (thn (hi.run pins s σ H _ I h) fun xv s1 hx => thn hx fun itv s2 h2 => ?_)
  obtain ⟨it, fp, tn, J, H2, rfl, I2, T, st2, f2, q⟩ := h2
  refine wpAny_newObj_type (newEnv_comp ?_) (by show 0 ≤ sizeLine; decide)
  obtain ⟨D, hD⟩ : ∃ D, s2.heap.objs.size = D := ⟨_, rfl⟩
  have freeD : H2 D = none := I2.hok.fresh (Nat.le_of_eq hD)
  obtain ⟨Wt, ⟨m0, w0⟩, turn⟩ := q D freeD
  rw [hD]
  obtain ⟨s3, hs3⟩ : ∃ s3 : Shared, ({ s2 with heap := s2.heap.push { cls := .type "list", data := .seq ([] : List Value).toArray } } : Shared) = s3 := ⟨_, rfl⟩
  have heap3 : s3.heap = s2.heap.push { cls := .type "list", data := .seq ([] : List Value).toArray } := by rw [← hs3]
  have I3 : L2.Inv X pins (σ) (upd H2 D (.lst [])) s3 := by
    subst hs3
    refine I2.laid (t' := s2.toks) (fun b o e => Heap.get?_push_of_some _ e) (Nat.le_of_eq hD) ⟨Nat.zero_le _, [], 0, .nil, ?_⟩
    rw [← hD]
    exact Heap.get?_push_size _ rfl
  have f3 : ∀ b ∈ fp, FpOk X pins (upd H2 D (.lst [])) b ∧ b < s3.heap.objs.size := fun b hb => by
    obtain ⟨o, e, _⟩ := T.obj _ _ st2 b hb
    have lt := Heap.lt_size e
    refine ⟨⟨?_, (f2 b hb).2⟩, by rw [heap3, Heap.size_push]; exact Nat.lt_succ_of_lt lt⟩
    rw [upd_ne (by rw [← hD]; exact Nat.ne_of_lt lt)]
    exact (f2 b hb).1
  have st3 : tn 0 s3.heap := T.keep _ _ _ st2 fun b _ o e => by rw [heap3]; exact Heap.get?_push_of_some _ e
  have I4 := block_start I3 ok nd f3
  rw [hs3]
  obtain ⟨cl, hcl⟩ : ∃ cl, cellsFrom (s3.heap.objs.size + 1) scope.names (cloFrom X.env.cells scope.names []) = cl := ⟨_, rfl⟩
  rw [hcl] at I4
  obtain ⟨ce, hce⟩ : ∃ ce, compEnvC scope cl s3.heap.objs.size X.env = ce := ⟨_, rfl⟩
  have locC : ce.locals = s3.heap.objs.size := by rw [← hce]; rfl
  have frC : ce.frame = X.env.frame := by rw [← hce]; rfl
  have blk : IsBlk X scope E (blkE X s3 (upd H2 D (.lst [])) scope ce fp (notedBy (model X.prog X.w) X.A ce (CompFails (model X.prog X.w) X.A X.xe ce))) :=
    ⟨air_blk air I3 locC frC f3, s3, _, s3.heap.objs.size, cl, fp, _, by rw [hce]⟩
  have pg := hg _ blk
  have pt := ht _ blk
  have pe := he _ blk
  show codeAny _ _ (.compStart (.ListComp elt [⟨tg, iter, ifs, 0⟩] scope pos) 0 (.ref it) (.ref D) (compEnvC scope (cellsFrom (s3.heap.objs.size + 1) scope.names (cloFrom X.env.cells scope.names [])) s3.heap.objs.size X.env))
    (compEnds (model X.prog X.w) X.A X.xe use Qf (.ref D) (compEnvC scope (cellsFrom (s3.heap.objs.size + 1) scope.names (cloFrom X.env.cells scope.names [])) s3.heap.objs.size X.env)) { s3 with heap := pushCells (s3.heap.push { cls := .type "dict", data := .dict #[] }) scope.names }
  rw [hcl, hce]
  rw [hce] at I4
  have free3 : ∀ b ∈ fp, (upd H2 D (.lst [])) b = none := fun b hb => (f3 b hb).1.1
  obtain ⟨H3, hH3⟩ : ∃ H3, upd H2 D (.lst []) = H3 := ⟨_, rfl⟩
  rw [hH3] at I3 I4 pg pt pe w0 free3 f3 blk
  obtain ⟨s4, hs4⟩ : ∃ s4 : Shared, ({ s3 with heap := pushCells (s3.heap.push { cls := .type "dict", data := .dict #[] }) scope.names } : Shared) = s4 := ⟨_, rfl⟩
  have st4 : tn 0 s4.heap := T.keep _ _ _ st3 fun b _ o e => by rw [← hs4]; exact pushCells_keeps _ _ _ _ (Heap.get?_push_of_some _ e)
  rw [hs4] at I4 ⊢
  obtain ⟨Bx, hB⟩ : ∃ Bx, blkE X s3 H3 scope ce fp (notedBy (model X.prog X.w) X.A ce (CompFails (model X.prog X.w) X.A X.xe ce)) = Bx := ⟨_, rfl⟩
  -- the state of the block, whatever is wanted of exceptions
  have conv : ∀ {σ' : L2.St} {H' : Hp} {s' : Shared} {ps : List (Addr × Obj)}, L2.Inv (X.blk s3 H3 scope ce fp) ps σ' H' s' → L2.Inv (blkE X s3 H3 scope ce fp (notedBy (model X.prog X.w) X.A ce (CompFails (model X.prog X.w) X.A X.xe ce))) ps σ' H' s' := fun {σ' H' s' ps} j =>
    ⟨⟨j.ok.mod, j.ok.kind, j.ok.glob, j.ok.blt, j.ok.above, j.ok.inj, j.ok.has, j.ok.cab, j.ok.hd, j.ok.frames, j.ok.stk, j.ok.exf, j.ok.bs, j.ok.bsz, j.ok.noex, j.ok.exfs, j.ok.funs, j.ok.frf⟩, j.os, j.bare, j.base, j.loc, j.cell, j.free, j.freeC, j.pin, j.hok, j.len⟩
  have I5 := conv I4
  clear I4
  rw [hB] at I5 pg pt pe
  have eN : Bx.prog = X.prog ∧ Bx.w = X.w ∧ Bx.K = X.K ∧ Bx.A = X.A ∧ Bx.calm = X.calm ∧ Bx.ex = fp ∧ Bx.env = ce ∧ Bx.pn = [] ∧ Bx.s_0 = s3 ∧ Bx.H_0 = H3 ∧ Bx.outer = X.stack ∧ Bx.xe = notedBy (model X.prog X.w) X.A ce (CompFails (model X.prog X.w) X.A X.xe ce) := by
    rw [← hB]
    exact ⟨rfl, rfl, rfl, rfl, rfl, rfl, rfl, rfl, rfl, rfl, rfl, rfl⟩
  have own_fp : ∀ {σ' : L2.St} {H' : Hp} {s' : Shared}, L2.Inv Bx [] σ' H' s' → (∀ b ∈ fp, H' b = none) → ∀ b ∈ fp, FpOk Bx [] H' b := fun {σ' H' s'} J n b hb => by
    have hb' : b ∈ Bx.ex := by rw [eN.2.2.2.2.2.1]; exact hb
    refine ⟨n b hb, (J.ok.exf b hb').1, J.ok.exfs b hb', .inl hb', fun x c e => (J.ok.exf b hb').2 x c e, fun p hp => ?_⟩
    rw [eN.2.2.2.2.2.2.2.1] at hp
    cases hp
  have loop : codeAny (model X.prog X.w) X.A (.compLoop (.ListComp elt [⟨tg, iter, ifs, 0⟩] scope pos) 0 (.ref it) (.ref D) ce) (compEnds (model X.prog X.w) X.A X.xe use Qf (.ref D) ce) s4 := by
    refine compLoop_any (fun n s' => ∃ i H', L2.Inv Bx [] (wipe σ (own.map (·.2))) H' s' ∧ tn i s'.heap ∧ (∀ b ∈ fp, H' b = none) ∧ Wt i n H') ?_ m0 ⟨0, H3, I5, st4, free3, w0⟩
    rintro n s5 ⟨i, H5, J5, st5, n5, w5⟩
    have raise : (notedBy (model X.prog X.w) X.A ce fun e s' => compEnds (model X.prog X.w) X.A X.xe use Qf (.ref D) ce (.error e) s') = Bx.xe := by
      rw [eN.2.2.2.2.2.2.2.2.2.2.2]
      cases use <;> rfl
    rw [raise]
    have eP := eN.1
    have eW := eN.2.1
    have eA := eN.2.2.2.1
    have eE := eN.2.2.2.2.2.2.1
    rcases turn i n H5 w5 with ⟨stop, qq⟩ | ⟨go, Nx, hNx, step⟩
    · have td := T.done Bx eN.1 eN.2.1 eN.2.2.1 (eN.2.2.2.2.1.trans calm) i [] s5 _ H5 Bx.xe J5 (own_fp J5 n5) st5 stop
      rw [eA] at td
      refine thn td fun r s6 ⟨hr, I6⟩ => ?_
      subst hr
      rw [← hB] at I6
      have I7 : L2.Inv X pins σ H5 s6 := I3.call' (ch := fp) I6.os I6.base I6.hok I6.bare fun b hb => ⟨(f3 b hb).1.2.2.2.1, (f3 b hb).1.2.1, (f3 b hb).1.2.2.2.2.1, (f3 b hb).1.2.2.2.2.2⟩
      have nC : H5 s3.heap.objs.size = none := by
        have z : H5 ce.locals = none := I6.free
        rw [locC] at z
        exact z
      obtain ⟨m, hn, _⟩ := I6.loc
      have hn : s6.heap.Ns ce.locals m := hn
      rw [locC] at hn
      exact fin D s3.heap.objs.size s6 m H5 I7 qq hn (I3.fpOk (Nat.le_refl _) nC) ce locC
    · have ti := T.item Bx eN.1 eN.2.1 eN.2.2.1 (eN.2.2.2.2.1.trans calm) i [] s5 _ H5 Bx.xe J5 (own_fp J5 n5) st5 go
      rw [eA] at ti
      refine thn ti fun r s6 ⟨u, hr, h6⟩ => ?_
      subst hr
      refine thn h6 fun _ s7 ⟨x, H7, I7, r7, y7, st7, n7⟩ => ?_
      have I7' := I7.pinned (own_fp I7 n7) (T.obj _ _ st7)
      have rg := pg.run _ s7 _ H7 x u _ I7' r7 (step x H7 y7)
      rw [eP, eW, eA, eE] at rg
      refine thn rg fun _ s8 ⟨σ8, H8, I8, hw8, q8⟩ => ?_
      have rt := pt.run _ s8 σ8 H8 _ I8 q8
      rw [eP, eW, eA, eE] at rt
      refine thn rt fun b s9 ⟨H9, I9, q9⟩ => ?_
      have next : ∀ {s' : Shared} {H' : Hp}, L2.Inv Bx ([] ++ pinsAt fp s7.heap) σ8 H' s' → Nx H' → ∃ m, m < n ∧ ∃ i H', L2.Inv Bx [] (wipe σ (own.map (·.2))) H' s' ∧ tn i s'.heap ∧ (∀ b ∈ fp, H' b = none) ∧ Wt i m H' := fun {s' H'} I' nx => by
        obtain ⟨m', hm, w'⟩ := hNx H' nx
        have pinned : ∀ b ∈ fp, ∀ o, s7.heap.get? b = some o → s'.heap.get? b = some o ∧ H' b = none := fun b hb o e =>
          let z := I'.pin (b, o) (List.mem_append_right _ (List.mem_append_right _ (mem_pinsAt hb e)))
          ⟨z.1, z.2.1⟩
        have hl : (wipe σ (own.map (·.2))).length = σ8.length := by rw [← hw8, wipe_length]
        refine ⟨m', hm, i + 1, H', (I'.unpinned (pins := [])).weak hl (fun j v e => ?_), T.keep _ _ _ st7 fun b hb o e => (pinned b hb o e).1, fun b hb => ?_, w'⟩
        · rw [← hw8] at e
          exact (wipe_some e).1
        · obtain ⟨o, e, _⟩ := T.obj _ _ st7 b hb
          exact (pinned b hb o e).2
      cases b with
      | false =>
        simp only [Bool.false_eq_true, if_false] at q9 ⊢
        exact next I9 q9
      | true =>
        simp only [if_true] at q9 ⊢
        have re := pe.run _ s9 σ8 H9 _ I9 q9
        rw [eP, eW, eA, eE] at re
        refine thn re fun z s10 ⟨yv, H10, I10, r10, acc, hD10, hz10, nx⟩ => ?_
        have ap := app_ok (E := Bx.xe) (Q := fun _ s' => ∃ m, m < n ∧ ∃ i H', L2.Inv Bx [] (wipe σ (own.map (·.2))) H' s' ∧ tn i s'.heap ∧ (∀ b ∈ fp, H' b = none) ∧ Wt i m H') I10 hD10 hz10 r10 fun s11 I11 => next I11 nx
        rw [eP, eW, eA] at ap
        exact ap
  exact codeAny_compStart_list loop (T.self X.A 0 _ _ _ st4 loop)
/-- as a value -/
theorem pe_lcX {E : XK} (air : Air X E) {elt tg iter : Expr} {ifs : List Expr} {scope : Scope} {own : List (Str × Nat)} {pos : Pos} {wi : TI} {g : L2.TG} {tt : TT} {te : TE} (calm : X.calm = true) (nd : X.N.Nodup)
    (hi : PI X tg iter wi) (ok : BlkOk X.N X.env.scope scope own) (hg : ∀ B, IsBlk X scope E B → PG B tg g) (ht : ∀ B, IsBlk X scope E B → PTs B ifs tt) (he : ∀ B, IsBlk X scope E B → PE B elt te)
    (hs : ∀ x, foldedSetIterable iter X.env x = pure x) : PE X (.ListComp elt [⟨tg, iter, ifs, 0⟩] scope pos) (tLc wi g tt te (own.map (·.2))) := by
  refine ⟨fun pins s σ H Q I h => ?_⟩
  rw [eval_ListComp]
  refine lc_coreX air calm nd I hi ok hg ht he hs h fun D C s' m H' I' q hn f ce hC => ?_
  subst hC
  obtain ⟨f0, f1, f2, f3, f4, f5⟩ := f
  exact ⟨m, hn, fun h'' sb => ⟨.ref D, H', I'.turned (t' := s'.toks) (fun b o hb e => (sb.2 b hb).trans e) f0 f1 f3 f4 f5, rfl, q⟩⟩
/-- x = [..] on one line -/
theorem ps_setLcX {E : XK} (air : Air X E) {i : Nat} {y : Str} {py : Pos} {elt tg iter : Expr} {ifs : List Expr} {scope : Scope} {own : List (Str × Nat)} {pos spos : Pos} {wi : TI} {g : L2.TG} {tt : TT} {te : TE} (calm : X.calm = true) (nd : X.N.Nodup)
    (hy : X.N[i]? = some y) (hyl : X.env.scope.names.lookup y = some .local) (hsw : swapsWith (.ListComp elt [⟨tg, iter, ifs, 0⟩] scope pos) (some (.Name y py)) spos.line X.env = pure true)
    (hi : PI X tg iter wi) (ok : BlkOk X.N X.env.scope scope own) (hg : ∀ B, IsBlk X scope E B → PG B tg g) (ht : ∀ B, IsBlk X scope E B → PTs B ifs tt) (he : ∀ B, IsBlk X scope E B → PE B elt te)
    (hs : ∀ x, foldedSetIterable iter X.env x = pure x) : PS X (.Assign [.Name y py] (.ListComp elt [⟨tg, iter, ifs, 0⟩] scope pos) spos) (tAsg (tLc wi g tt te (own.map (·.2))) (gName i)) := by
  refine ⟨fun pins s σ H D I h => ?_⟩
  rw [exec_Assign_Name_used _ _ _ _ hsw]
  refine wpAny_bind (wpAny_standAt (wpAny_bind ?_))
  have h : tLc wi g tt te (own.map (·.2)) σ H (fun x H1 => gName i x σ H1 D.nx) := h
  refine wpAny_bind (thn (lc_coreX (use := some (assign (.Name y py) X.env)) (Qf := fun _ s' => SP X pins D .next s') air calm nd I hi ok hg ht he hs h fun L C s' m H' I' q hn f ce hC => ?_) fun _ s' hq => wpAny_pure (wpAny_pure hq))
  subst hC
  show wpAny _ _ (assign (.Name y py) X.env (.ref L)) _ _ _
  refine wpAny_assign_Name (store_ok2 (v := V.ref L) I' nd hy (.inl hyl) rfl (fun s2 I2 ⟨a, sb, ha⟩ => ?_) (.inr hyl))
  obtain ⟨f0, f1, f2, f3, f4, f5⟩ := f
  have ne : ce.locals ≠ a := by
    rcases ha with z | z
    · rw [z]; exact f1
    · exact fun e => f4 y a z e.symm
  exact ⟨m, hn.sameBut sb ne, fun h3 sb3 => ⟨_, H', I2.turned (t' := s2.toks) (fun b o hb e => (sb3.2 b hb).trans e) f0 f1 f3 f4 f5, q⟩⟩
end LF
set_option Elab.async false
set_option linter.all false
set_option maxHeartbeats 4000000
/-! Readings of the interpreter; walks; targets. -/
namespace LF
open PySem PySem.Spec PyProof.Rows L2
section
variable {α β γ δ : Type} (L : Lk) (E : XK)
/-- the reading of what is evaluated so -/
def tE (R : Rel α β) (ev : Fr → IH → Rs α) : L2.St → Hp → (β → Hp → Prop) → Prop := fun σ H Q =>
  ∃ ι ρ A, RF L ι H ρ σ ∧ RH L ι H A ∧ Po L R E ι H (ev ρ A) Q
end
def RB : Rel Bool Bool := fun _ _ b c => b = c
def ROI : Rel (Option Int) (Option Int) := fun _ _ b c => b = c
def blR : IV → IH → Rs Bool := fun v A => match v with
  | .bl b => .ok b A
  | _ => .bad
theorem Rs.assoc {α β γ : Type} {r : Rs α} {f : α → IH → Rs β} {g : β → IH → Rs γ} : (r.bind f).bind g = r.bind fun a A => (f a A).bind g := by
  cases r <;> rfl
/-- what a source walks -/
def RQ (L : Lk) : Rel Sq It := fun ι H q J => match q with
  | .fix xs => (∃ a ws, J = Itt L.K a ∧ SqT L.K H a ws ∧ RVs L ι H xs ws) ∨ (∃ z : Str, J = Its z ∧ xs = signL z) ∨ (∃ n : Nat, J = Itr 0 n ∧ xs = (List.range n).map fun (i : Nat) => IV.int (i : Int))
  | .live n => ∃ a, J = Itl L.K a ∧ ι[n]? = some a
  | .enL n => ∃ a, J = Ite L.K a ∧ ι[n]? = some a
section
variable {L : Lk} {ι ι' : List Addr} {H H' : Hp} {A : IH} {q : Sq} {J : It}
theorem RQ.mono (e : Ext ι H ι' H') (r : RQ L ι H q J) : RQ L ι' H' q J := by
  cases q with
  | fix xs =>
    rcases r with ⟨a, ws, h1, h2, h3⟩ | r | r
    · exact .inl ⟨a, ws, h1, e.sqT h2, h3.mono e⟩
    · exact .inr (.inl r)
    · exact .inr (.inr r)
  | live n => obtain ⟨a, h1, h2⟩ := r; exact ⟨a, h1, e.get h2⟩
  | enL n => obtain ⟨a, h1, h2⟩ := r; exact ⟨a, h1, e.get h2⟩
theorem signs_at {z : Str} {i : Nat} : (signL z)[i]? = (z.cps[i]?).map fun c => IV.str ⟨#[c]⟩ := by
  unfold signL
  rw [List.getElem?_map, Array.getElem?_toList]
theorem range_at {n i : Nat} {x : IV} (h : ((List.range n).map fun (i : Nat) => IV.int (i : Int))[i]? = some x) : i < n ∧ x = .int i := by
  rw [List.getElem?_map] at h
  obtain ⟨k, h1, rfl⟩ := Option.map_eq_some_iff.mp h
  obtain ⟨hl, h2⟩ := List.getElem?_eq_some_iff.mp h1
  rw [List.length_range] at hl
  rw [List.getElem_range] at h2
  exact ⟨hl, by rw [h2]⟩
theorem walk_stop (rh : RH L ι H A) (r : RQ L ι H q J) {i : Nat} (h : q.item i A = some none) : J.stop i H := by
  cases q with
  | fix xs =>
    have h : xs[i]? = none := by simpa [Sq.item] using h
    have hl := List.getElem?_eq_none_iff.mp h
    rcases r with ⟨a, ws, rfl, h2, h3⟩ | ⟨z, rfl, rfl⟩ | ⟨n, rfl, rfl⟩
    · exact ⟨ws, h2, by rw [← h3.length]; exact hl⟩
    · show z.cps.size ≤ i
      simpa [signL] using hl
    · show n ≤ i
      simpa using hl
  | live n =>
    obtain ⟨a, rfl, ha⟩ := r
    obtain ⟨xs, e, h⟩ := Option.map_eq_some_iff.mp (show (listOf A n).map (fun xs => xs[i]?) = some none from h)
    obtain ⟨ws, h1, h2⟩ := rh.sqL ha e
    exact ⟨ws, h1, by rw [← h2.length]; exact List.getElem?_eq_none_iff.mp h⟩
  | enL n =>
    obtain ⟨a, rfl, ha⟩ := r
    obtain ⟨xs, e, h⟩ := Option.map_eq_some_iff.mp (show (listOf A n).map (fun xs => xs[i]?.map fun x => IV.tup [.int i, x]) = some none from h)
    obtain ⟨ws, h1, h2⟩ := rh.sqL ha e
    refine ⟨ws, h1, ?_⟩
    rw [← h2.length]
    exact List.getElem?_eq_none_iff.mp (by simpa using h)
theorem walk_go (rh : RH L ι H A) (r : RQ L ι H q J) {i : Nat} {x : IV} (h : q.item i A = some (some x)) : J.go i H ∧ ∀ x' H', J.yld i H x' H' → Ext ι H ι H' ∧ RH L ι H' A ∧ RV L ι H' x x' := by
  cases q with
  | fix xs =>
    have h : xs[i]? = some x := by simpa [Sq.item] using h
    rcases r with ⟨a, ws, rfl, h2, h3⟩ | ⟨z, rfl, rfl⟩ | ⟨n, rfl, rfl⟩
    · obtain ⟨w, e, rw'⟩ := h3.get h
      refine ⟨⟨ws, w, h2, e⟩, fun x' H' y => ?_⟩
      obtain ⟨rfl, y⟩ := y
      have := y ws h2
      rw [e] at this
      cases this
      exact ⟨.refl, rh, rw'⟩
    · rw [signs_at] at h
      obtain ⟨c, e, rfl⟩ := Option.map_eq_some_iff.mp h
      refine ⟨(Array.getElem?_eq_some_iff.mp e).1, fun x' H' y => ?_⟩
      obtain ⟨rfl, c', e', rfl⟩ := y
      rw [e] at e'
      cases e'
      exact ⟨.refl, rh, rfl⟩
    · obtain ⟨hl, rfl⟩ := range_at h
      refine ⟨hl, fun x' H' y => ?_⟩
      obtain ⟨rfl, rfl⟩ := y
      exact ⟨.refl, rh, by rw [Int.zero_add]; rfl⟩
  | live n =>
    obtain ⟨a, rfl, ha⟩ := r
    obtain ⟨xs, e, h⟩ := Option.map_eq_some_iff.mp (show (listOf A n).map (fun xs => xs[i]?) = some (some x) from h)
    obtain ⟨ws, h1, h2⟩ := rh.sqL ha e
    obtain ⟨w, e, rw'⟩ := h2.get h
    refine ⟨⟨ws, w, h1, e⟩, fun x' H' y => ?_⟩
    obtain ⟨rfl, y⟩ := y
    have := y ws h1
    rw [e] at this
    cases this
    exact ⟨.refl, rh, rw'⟩
  | enL n =>
    obtain ⟨a, rfl, ha⟩ := r
    obtain ⟨xs, e, h⟩ := Option.map_eq_some_iff.mp (show (listOf A n).map (fun xs => xs[i]?.map fun x => IV.tup [.int i, x]) = some (some x) from h)
    obtain ⟨z, hz, rfl⟩ := Option.map_eq_some_iff.mp h
    obtain ⟨ws, h1, h2⟩ := rh.sqL ha e
    obtain ⟨w, e, rw'⟩ := h2.get hz
    refine ⟨⟨ws, w, h1, e⟩, fun x' H' y => ?_⟩
    obtain ⟨T, z', rfl, hT, rfl, y⟩ := y
    have := y ws h1
    rw [e] at this
    cases this
    exact ⟨.lay hT, rh.lay hT, RV.tupNew hT (.cons rfl (.cons rw' .nil))⟩
end
/-! ### targets -/
mutual
def tgIn (vs : List Nat) : TG → Prop
  | .nm i => i ∈ vs
  | .tp ts => tgsIn vs ts
def tgsIn (vs : List Nat) : List TG → Prop
  | [] => True
  | t :: ts => tgIn vs t ∧ tgsIn vs ts
end
/-- behind a store -/
def AftG (L : Lk) (ι : List Addr) (H : Hp) (own : List Nat → Prop) (ρ' : Fr) (σ σ' : L2.St) : Prop := RF L ι H ρ' σ' ∧ ∀ vs, own vs → wipe σ' vs = wipe σ vs
def tTg (L : Lk) (t : TG) : L2.TG := fun v σ H Q => ∃ ι iv A ρ ρ', RV L ι H iv v ∧ RF L ι H ρ σ ∧ RH L ι H A ∧ stG A t iv ρ = some ρ' ∧ ∀ σ', AftG L ι H (fun vs => tgIn vs t) ρ' σ σ' → Q σ' H
def tTgs (L : Lk) (t : List TG) : L2.TGs := fun v σ H Q => ∃ ι iv A ρ ρ', RVs L ι H iv v ∧ RF L ι H ρ σ ∧ RH L ι H A ∧ stGs A t iv ρ = some ρ' ∧ ∀ σ', AftG L ι H (fun vs => tgsIn vs t) ρ' σ σ' → Q σ' H
theorem wipe_set {σ : L2.St} {i : Nat} {x : Option V} : ∀ {vs : List Nat}, i ∈ vs → wipe (σ.set i x) vs = wipe σ vs
  | v :: vs, h => by
    unfold wipe
    by_cases hv : i ∈ vs
    · rw [wipe_set hv]
    · have e : i = v := by
        rcases List.mem_cons.mp h with e | e
        · exact e
        · exact absurd e hv
      subst e
      have out : ∀ {ws : List Nat}, i ∉ ws → wipe (σ.set i x) ws = (wipe σ ws).set i x := fun {ws} hw => by
        induction ws with
        | nil => rfl
        | cons u us ih =>
          unfold wipe
          rw [ih (fun z => hw (List.mem_cons_of_mem _ z)), List.set_comm]
          exact fun z => hw (by rw [z]; exact List.mem_cons_self)
      rw [out hv, List.set_set]
theorem peG {X : Cx} {e : Expr} {t t' : L2.TG} (h : PG X e t) (k : ∀ v σ H Q, t' v σ H Q → t v σ H Q) : PG X e t' := ⟨fun pins s σ H v u Q I r q => h.run pins s σ H v u Q I r (k v σ H Q q)⟩
theorem peGs {X : Cx} {e : List Expr} {t t' : L2.TGs} (h : PGs X e t) (k : ∀ v σ H Q, t' v σ H Q → t v σ H Q) : PGs X e t' := ⟨fun pins s σ H v u Q I r q => h.run pins s σ H v u Q I r (k v σ H Q q)⟩
theorem ixOf_get {x : Str} : ∀ {N : List Str} {i : Nat}, ixOf x N = some i → N[i]? = some x
  | [], _, h => by cases h
  | y :: r, i, h => by
    unfold ixOf at h
    split at h
    · rename_i e
      cases h
      rw [e]
      rfl
    · obtain ⟨j, h1, rfl⟩ := Option.map_eq_some_iff.mp h
      exact ixOf_get (N := r) h1
theorem tg_length {N : List Str} {sc : Scope} : ∀ {es : List Expr} {ts : List TG}, cTgs N sc es = some ts → es.length = ts.length
  | [], ts, h => by cases h; rfl
  | e :: r, ts, h => by
    unfold cTgs at h
    split at h
    · rename_i t us e1 e2
      cases h
      simp [tg_length e2]
    · cases h
theorem tg_star {N : List Str} {sc : Scope} {e : Expr} {t : TG} (h : cTg N sc e = some t) (env : Env) (r : List Expr) : assignEach (e :: r) env = (false, assign e env) :: assignEach r env := by
  cases e <;> first | rfl | (unfold cTg at h; cases h)
theorem tgs_star {N : List Str} {sc : Scope} (env : Env) : ∀ {es : List Expr} {ts : List TG}, cTgs N sc es = some ts → (assignEach es env).findIdx? (·.1) = none ∧ (assignEach es env).length = es.length
  | [], _, _ => ⟨rfl, rfl⟩
  | e :: r, ts, h => by
    unfold cTgs at h
    split at h
    · rename_i t us e1 e2
      obtain ⟨h1, h2⟩ := tgs_star env e2
      rw [tg_star e1 env r]
      refine ⟨?_, by simp [h2]⟩
      rw [List.findIdx?_cons, h1]
      rfl
    · cases h
section
variable {X : Cx} {L : Lk} {N : List Str} {sc : Scope}
/-- the scope's own names may be stored -/
def StOk (X : Cx) (sc : Scope) : Prop := (∀ x : Str, sc.names.lookup x = some .local → X.env.scope.names.lookup x = some .local) ∧ ∀ x : Str, sc.names.lookup x = some .cell → X.env.scope.names.lookup x = some .cell ∧ X.fn x = true
theorem isLoc_or {x : Str} (h : isLoc sc x = true) : sc.names.lookup x = some .local ∨ sc.names.lookup x = some .cell := by
  unfold isLoc at h
  split at h
  · exact .inl (by assumption)
  · exact .inr (by assumption)
  · cases h
mutual
theorem tgSound (K : L.K = X.K) (calm : X.calm = true) (nd : X.N.Nodup) (so : StOk X sc) : ∀ {e : Expr} {t : TG}, cTg X.N sc e = some t → PG X e (tTg L t)
  | .Name x p, t, h => by
    unfold cTg at h
    split at h
    · rename_i hl
      obtain ⟨i, hi, rfl⟩ := Option.map_eq_some_iff.mp h
      have loc : Loc X.env.scope x ∧ (X.fn x = true ∨ X.env.scope.names.lookup x = some .local) := by
        rcases isLoc_or hl with z | z
        · exact ⟨.inl (so.1 x z), .inr (so.1 x z)⟩
        · exact ⟨.inr (so.2 x z).1, .inl (so.2 x z).2⟩
      refine peG (pg_name nd (ixOf_get hi) loc.1 loc.2) fun v σ H Q ⟨ι, iv, A, ρ, ρ', rv, rf, rh, e, k⟩ => ?_
      unfold stG at e
      split at e
      · cases e
        exact k _ ⟨rf.set i rv, fun vs hv => wipe_set hv⟩
      · cases e
    · cases h
  | .Tuple es k p, t, h => by
    unfold cTg at h
    obtain ⟨ts, h1, rfl⟩ := Option.map_eq_some_iff.mp h
    obtain ⟨s1, s2⟩ := tgs_star X.env h1
    refine peG (pg_tup calm (tgsSound K calm nd so h1) s2 s1) fun v σ H Q ⟨ι, iv, A, ρ, ρ', rv, rf, rh, e, k⟩ => ?_
    unfold stG at e
    split at e
    · rename_i xs
      obtain ⟨a, ws, rfl, hs, rs⟩ := rv
      refine ⟨a, ws, rfl, by rw [← K]; exact hs, ?_, ι, xs, A, ρ, ρ', rs, rf, rh, e, fun σ' z => k σ' ⟨z.1, fun vs q => z.2 vs (by unfold tgIn at q; exact q)⟩⟩
      rw [← rs.length, tg_length h1]
      have len : ∀ {ts : List TG} {xs : List IV} {ρ ρ' : Fr}, stGs A ts xs ρ = some ρ' → xs.length = ts.length := by
        intro ts
        induction ts with
        | nil =>
          intro xs ρ ρ' q
          cases xs with
          | nil => rfl
          | cons => unfold stGs at q; cases q
        | cons t ts ih =>
          intro xs ρ ρ' q
          cases xs with
          | nil => unfold stGs at q; cases q
          | cons x xs =>
            unfold stGs at q
            split at q
            · simp [ih q]
            · cases q
      exact len e
    · cases e
  | .Constant .., t, h => by unfold cTg at h; cases h
  | .BoolOp .., t, h => by unfold cTg at h; cases h
  | .NamedExpr .., t, h => by unfold cTg at h; cases h
  | .BinOp .., t, h => by unfold cTg at h; cases h
  | .UnaryOp .., t, h => by unfold cTg at h; cases h
  | .Subscript .., t, h => by unfold cTg at h; cases h
  | .Attribute .., t, h => by unfold cTg at h; cases h
  | .Starred .., t, h => by unfold cTg at h; cases h
  | .List .., t, h => by unfold cTg at h; cases h
  | .Dict .., t, h => by unfold cTg at h; cases h
  | .Set .., t, h => by unfold cTg at h; cases h
  | .Call .., t, h => by unfold cTg at h; cases h
  | .Compare .., t, h => by unfold cTg at h; cases h
  | .IfExp .., t, h => by unfold cTg at h; cases h
  | .Lambda .., t, h => by unfold cTg at h; cases h
  | .ListComp .., t, h => by unfold cTg at h; cases h
  | .SetComp .., t, h => by unfold cTg at h; cases h
  | .DictComp .., t, h => by unfold cTg at h; cases h
  | .GeneratorExp .., t, h => by unfold cTg at h; cases h
  | .Slice .., t, h => by unfold cTg at h; cases h
  | .Await .., t, h => by unfold cTg at h; cases h
  | .Yield .., t, h => by unfold cTg at h; cases h
  | .YieldFrom .., t, h => by unfold cTg at h; cases h
  | .JoinedStr .., t, h => by unfold cTg at h; cases h
  | .FormattedValue .., t, h => by unfold cTg at h; cases h
theorem tgsSound (K : L.K = X.K) (calm : X.calm = true) (nd : X.N.Nodup) (so : StOk X sc) : ∀ {es : List Expr} {ts : List TG}, cTgs X.N sc es = some ts → PGs X es (tTgs L ts)
  | [], ts, h => by
    unfold cTgs at h
    cases h
    refine peGs pgs_nil fun v σ H Q ⟨ι, iv, A, ρ, ρ', rv, rf, rh, e, k⟩ => ?_
    cases iv with
    | nil =>
      unfold stGs at e
      cases e
      exact ⟨rv, k σ ⟨rf, fun vs _ => rfl⟩⟩
    | cons => unfold stGs at e; cases e
  | e :: r, ts, h => by
    unfold cTgs at h
    split at h
    · rename_i t us e1 e2
      cases h
      refine peGs (pgs_cons (tgSound K calm nd so e1) (tgsSound K calm nd so e2) (by rw [tg_star e1 X.env r]; rfl)) fun v σ H Q ⟨ι, iv, A, ρ, ρ', rv, rf, rh, e, k⟩ => ?_
      cases iv with
      | nil => unfold stGs at e; cases e
      | cons x xs =>
        obtain ⟨w, ws, rfl, r1, r2⟩ := rv
        unfold stGs at e
        split at e
        · rename_i ρ1 q1
          refine ⟨w, ws, rfl, ι, x, A, ρ, ρ1, r1, rf, rh, q1, fun σ1 z1 => ?_⟩
          exact ⟨ι, xs, A, ρ1, ρ', r2, z1.1, rh, e, fun σ2 z2 => k σ2 ⟨z2.1, fun vs q => (z2.2 vs q.2).trans (z1.2 vs q.1)⟩⟩
        · cases e
    · cases h
end
end
end LF
set_option Elab.async false
set_option linter.all false
set_option maxHeartbeats 4000000
/-! What is known of a context; the expressions, form by form. -/
namespace LF
open PySem PySem.Spec PyProof.Rows L2
/-- what a def of the text promises -/
structure FnL (P0 : Program) (w : World) (K : PySem.W.Frag) (mg : Str → Option Value) (base : Heap) (L : Lk) (C : Cal) (k n : Nat) (f : Addr) (fd : FuncData) (ps : List Str) : Prop where
  run : ∀ (A : Around) (outer : List Env) (s : Shared) (H : Hp) (args : Args) (us : List Value) (vs : List V) (ivs : List IV) (ι : List Addr) (AA : IH) (Q : VK) (E : XK), Room n A → A.guards = some [] → L2.Env0 P0 w K mg base A outer s H →
    BindsTo s fd args (ps.zip us) → Vals vs us → RVs L ι H ivs vs → RH L ι H AA → Po L (RV L) E ι H (C k ivs AA) Q → codeAny (model P0 w) A (.call (.ref f) args) (L2.CR (L2.CX P0 w) outer P0 w H s Q E) s
/-- how it stands: by which name, how its calls bind -/
structure FnN (X : Cx) (L : Lk) (C : Cal) (lv k : Nat) (g : FnG) : Prop where
  nd : (g.name == ("__debug__" : Str)) = false
  ex : ∃ (f : Addr) (fd : FuncData), X.mg g.name = some (.ref f) ∧ PySem.W.keepIn X.K (.ref f) = true ∧ FnL X.prog X.w X.K X.mg X.base L C k lv f fd g.ps ∧
    ∀ (nas : Nat) (kn : List Str) (pm : List Nat) (ds : List IV), (nas, kn) ∈ g.shp → plan g nas kn g.ps 0 (nas + kn.length) = some (pm, ds) → ∃ (dV : List V) (dus : List Value), Vals dV dus ∧ (∀ ι H, RVs L ι H ds dV) ∧
      ∀ (s : Shared) (us ws : List Value), X.K.In s.heap → us.length = nas → ws.length = kn.length → BindsTo s fd ⟨us, kn.zip ws⟩ (g.ps.zip (permute pm (us ++ ws ++ dus)))
def bltN : List Str := ["len", "int", "str", "tuple", "list", "all", "any", "repr", "isinstance", "range", "enumerate", "bool", "ValueError"]
/-- a dict of the text's -/
def KTab (X : Cx) (L : Lk) (x : Str) (kvs : List (Str × IV)) : Prop := ∃ d es n, X.mg x = some (.ref d) ∧ KDict X.K X.w d es n ∧
  ∀ z : Str, ∃ r, PySem.W.nsIn X.K d z = some r ∧ (match kvs.lookup z with
    | some iv => ∃ u v, r = some u ∧ RelV v u ∧ ∀ ι H, RV L ι H iv v
    | none => r = none)
structure Good (X : Cx) (L : Lk) (P : Prg) (C : Cal) (G : Gx) (lv : Nat) (E : XK) : Prop where
  K : L.K = X.K
  calm : X.calm = true
  grd : X.A.guards = some []
  room : Room lv X.A
  nd : X.N.Nodup
  nb : ∀ x ∈ X.N, (x == ("__debug__" : Str)) = false ∧ (x == ("__classdict__" : Str)) = false
  air : Air X E
  blt : ∀ x ∈ bltN, X.mg x = none
  cos : ∀ (k : Nat) (x : Str) (c : IV), G.cos[k]? = some x → P.gc[k]? = some c → (x == ("__debug__" : Str)) = false ∧ ∃ v u, X.mg x = some u ∧ RelV v u ∧ ∀ ι H, RV L ι H c v
  dts : ∀ (k : Nat) (x : Str), G.dts[k]? = some x → (x == ("__debug__" : Str)) = false ∧ ∃ kvs, P.gd[k]? = some kvs ∧ KTab X L x kvs
  fns : ∀ (k : Nat) (g : FnG), G.fns[k]? = some g → FnN X L C lv k g
  /-- isinstance, by a class's name -/
  isi : ∀ (x : Str) (t : Ty), tyOf G x = some t → (x == ("__debug__" : Str)) = false ∧ x ≠ "__name__" ∧ ∃ (cu : Value) (cv : V), (∀ u, RelV cv u ↔ u = cu) ∧ (X.mg x = some cu ∨ (X.mg x = none ∧ bootBuiltins x = some cu)) ∧
    ∀ (Y : Cx) (pins : List (Addr × Obj)) (s : Shared) (σ : L2.St) (H : Hp) (ι : List Addr) (A : IH) (v : IV) (y : V) (u : Value) (Q : VK) (F : XK), Y.K = X.K → Y.calm = true → L2.Inv Y pins σ H s → RelV y u → RH L ι H A → RV L ι H v y → Po L (RV L) F ι H (optB (isI P v t) A) Q →
      wpAny (model Y.prog Y.w) Y.A (call (.builtin "isinstance") [u, cu]) (EP Y pins σ Q) Y.xe s
  /-- an exception's field -/
  att : ∀ (k : Nat) (f : Str), G.fls[k]? = some f → ∀ (Y : Cx) (pins : List (Addr × Obj)) (s : Shared) (σ : L2.St) (H : Hp) (ι : List Addr) (D j : Nat) (fs : List IV) (z : IV) (y : V) (u : Value) (Q : VK) (b : Bool), Y.K = X.K → L2.Inv Y pins σ H s → RelV y u →
    RV L ι H (.exc D fs) y → P.fld D k = some j → fs[j]? = some z → (∀ w, RV L ι H z w → Q w H) → wpAny (model Y.prog Y.w) Y.A (getAttr u f b) (EP Y pins σ Q) Y.xe s
section
variable {X : Cx} {L : Lk} {P : Prg} {C : Cal} {G : Gx} {lv : Nat} {E : XK}
theorem Good.hu (g : Good X L P C G lv E) : X.A.units + 65 < cLine := by
  have := g.room.un
  omega
/-- the same in a comprehension's block -/
theorem Good.blk (g : Good X L P C G lv E) {scope : Scope} {B : Cx} (b : IsBlk X scope E B) : Good B L P C G lv E := by
  obtain ⟨air, s, H, c, cl, fp, xe, rfl⟩ := b
  exact ⟨g.K, g.calm, g.grd, g.room, g.nd, g.nb, air, g.blt, g.cos, g.dts, fun k f hk => ⟨(g.fns k f hk).nd, (g.fns k f hk).ex⟩, g.isi, g.att⟩
abbrev SE (X : Cx) (L : Lk) (P : Prg) (C : Cal) (E : XK) (e : Expr) (c : CE) : Prop := PE X e (tE L E (RV L) (evE P C c))
abbrev ST (X : Cx) (L : Lk) (P : Prg) (C : Cal) (E : XK) (e : Expr) (c : CE) : Prop := PT X e (tE L E RB fun ρ A => (evE P C c ρ A).bind blR)
abbrev SW (X : Cx) (L : Lk) (P : Prg) (C : Cal) (E : XK) (e : Expr) (c : CE) : Prop := PW X e (tE L E RB fun ρ A => (evE P C c ρ A).bind blR)
abbrev SA (X : Cx) (L : Lk) (P : Prg) (C : Cal) (E : XK) (es : List Expr) (cs : CEs) : Prop := PA X es (tE L E (RVs L) (evEs P C cs))
variable {e e1 e2 e3 : Expr} {c c1 c2 c3 : CE} {pos : Pos}
/-- a value at hand, as a reading -/
theorem tE_const {iv : IV} {v : V} {ev : Fr → IH → Rs IV} (he : ∀ ρ A, ev ρ A = .ok iv A) (hv : ∀ ι H, RV L ι H iv v) {σ : L2.St} {H : Hp} {Q : VK} (h : tE L E (RV L) ev σ H Q) : tC v σ H Q := by
  obtain ⟨ι, ρ, A, rf, rh, po⟩ := h
  rw [he] at po
  exact po.now rh (hv ι H)
theorem s_non {k} : SE X L P C E (.Constant .none k pos) .non := peImp pe_non fun _ _ _ h => tE_const (fun _ _ => by rw [evE]) (fun _ _ => by unfold RV; rfl) h
theorem s_bl {b k} : SE X L P C E (.Constant (.bool b) k pos) (.bl b) := peImp pe_bl fun _ _ _ h => tE_const (fun _ _ => by rw [evE]) (fun _ _ => by unfold RV; rfl) h
theorem s_int {i k} : SE X L P C E (.Constant (.int i) k pos) (.int i) := peImp pe_int fun _ _ _ h => tE_const (fun _ _ => by rw [evE]) (fun _ _ => by unfold RV; rfl) h
theorem s_str {x k} : SE X L P C E (.Constant (.str x) k pos) (.str x) := peImp pe_str fun _ _ _ h => tE_const (fun _ _ => by rw [evE]) (fun _ _ => by unfold RV; rfl) h
theorem isVis_or {sc : Scope} {x : Str} (h : isVis sc x = true) : Vis sc x := by
  unfold isVis at h
  split at h
  · exact .inl (by assumption)
  · exact .inr (.inl (by assumption))
  · exact .inr (.inr (by assumption))
  · cases h
theorem isGl_gl {x : Str} (h : isGl X.env.scope x = true) : Gl X x := by
  unfold isGl at h
  split at h
  · assumption
  · cases h
theorem s_var (g : Good X L P C G lv E) {x : Str} {i : Nat} (hv : isVis X.env.scope x = true) (hi : ixOf x X.N = some i) : SE X L P C E (.Name x pos) (.var i) := by
  have hN := ixOf_get hi
  obtain ⟨h1, h2⟩ := g.nb x (List.mem_of_getElem? hN)
  refine peImp (pe_var hN (isVis_or hv) h1 h2) fun σ H Q ⟨ι, ρ, A, rf, rh, po⟩ => ?_
  unfold evE at po
  split at po
  · rename_i v e
    obtain ⟨w, e2, r⟩ := rf.2 i v e
    exact ⟨w, e2, po.now rh r⟩
  · exact po.elim
theorem s_gco (g : Good X L P C G lv E) {x : Str} {k : Nat} (hg : isGl X.env.scope x = true) (hk : ixOf x G.cos = some k) : SE X L P C E (.Name x pos) (.gco k) := by
  refine ⟨fun pins s σ H Q I ⟨ι, ρ, A, rf, rh, po⟩ => ?_⟩
  unfold evE at po
  obtain ⟨z, e, po⟩ := po_optR po
  obtain ⟨h1, v, u, h2, h3, h4⟩ := g.cos k x z (ixOf_get hk) e
  exact (pe_glob (isGl_gl hg) h2 h3 h1).run pins s σ H Q I (po.now rh (h4 ι H))
/-! ### two in a row -/
theorem tE2 {α β : Type} {R : Rel α β} {ev : Fr → IH → Rs α} {ev1 ev2 : Fr → IH → Rs IV} (op : IV → IV → IH → Rs α) {σ : L2.St} {H : Hp} {Q : β → Hp → Prop} {k : V → V → Hp → Prop}
    (h : tE L E R ev σ H Q) (hev : ∀ ρ A, ev ρ A = (ev1 ρ A).bind fun v A => (ev2 ρ A).bind fun w A => op v w A)
    (leaf : ∀ ι ρ A H v w x y, RF L ι H ρ σ → RH L ι H A → RV L ι H v x → RV L ι H w y → Po L R E ι H (op v w A) Q → k x y H) : tE L E (RV L) ev1 σ H fun x H1 => tE L E (RV L) ev2 σ H1 fun y H2 => k x y H2 := by
  obtain ⟨ι, ρ, A, rf, rh, po⟩ := h
  rw [hev] at po
  refine ⟨ι, ρ, A, rf, rh, (Po.bind po).imp fun x H1 ⟨ι1, A1, v, e1, rh1, rv1, po1⟩ => ⟨ι1, ρ, A1, rf.mono e1, rh1, (Po.bind po1).imp fun y H2 ⟨ι2, A2, w, e2, rh2, rv2, po2⟩ => ?_⟩⟩
  exact leaf ι2 ρ A2 H2 v w x y ((rf.mono e1).mono e2) rh2 (rv1.mono e2) rv2 po2
/-- on, with the frame at hand: the rest's reading depends on what was there -/
theorem tEk {α β γ δ : Type} {R : Rel α β} {S : Rel γ δ} {ev : Fr → IH → Rs α} {ev1 : Fr → IH → Rs γ} (op : γ → Fr → IH → Rs α) {σ : L2.St} {H : Hp} {Q : β → Hp → Prop} {k : δ → Hp → Prop} (h : tE L E R ev σ H Q)
    (hev : ∀ ρ A, ev ρ A = (ev1 ρ A).bind fun v A => op v ρ A) (leaf : ∀ ι ρ A H v x, RF L ι H ρ σ → RH L ι H A → S ι H v x → Po L R E ι H (op v ρ A) Q → k x H) : tE L E S ev1 σ H k := by
  obtain ⟨ι, ρ, A, rf, rh, po⟩ := h
  rw [hev] at po
  exact ⟨ι, ρ, A, rf, rh, (Po.bind po).imp fun x H1 ⟨ι1, A1, v, e1, rh1, rv1, po1⟩ => leaf ι1 ρ A1 H1 v x (rf.mono e1) rh1 rv1 po1⟩
theorem s_bin (g : Good X L P C G lv E) (o : Bop) (h1 : SE X L P C E e1 c1) (h2 : SE X L P C E e2 c2) : SE X L P C E (.BinOp e1 (opB o) e2 pos) (.bin o c1 c2) :=
  peImp (pe_op (opBin o) h1 h2) fun σ H Q h => tE2 (binI o) h (fun ρ A => by rw [evE]) fun ι ρ A H v w x y rf rh rv rw' po => by
    rw [← g.K]
    exact leafBin rh rv rw' o po
theorem s_neg (h1 : SE X L P C E e1 c1) : SE X L P C E (.UnaryOp .USub e1 pos) (.neg c1) :=
  peImp (pe_un un_neg h1) fun σ H Q h => tEk (S := RV L) (fun v _ A => match v with
    | .int i => .ok (.int (-i)) A
    | _ => .bad) h (fun ρ A => by rw [evE] <;> rfl) fun ι ρ A H v x rf rh rv po => by
    split at po
    · rw [show x = _ from rv]
      exact ⟨_, rfl, po.now rh rfl⟩
    · exact po.elim
/-- no set display -/
def noSet : Expr → Bool
  | .Set _ _ _ => false
  | _ => true
theorem noSet_mark {op : CmpOp} (h : noSet e = true) : behindInMarks op e = false := by
  cases e <;> first | rfl | cases h
theorem s_cmp (g : Good X L P C G lv E) (o : Cop) (h1 : SE X L P C E e1 c1) (h2 : SE X L P C E e2 c2) (hn : noSet e2 = true) : SE X L P C E (.Compare e1 [opC o] [e2] pos) (.cmp o c1 c2) :=
  peImp (pe_cmpR (opCmp g.hu o) h1 h2 (noSet_mark hn)) fun σ H Q h => tE2 (cmpI o) h (fun ρ A => by rw [evE]) fun ι ρ A H v w x y rf rh rv rw' po => by
    rw [← g.K]
    exact leafCmp rh rv rw' o po
/-- as a bool -/
theorem bl_bind {r : Rs IV} {ι : List Addr} {H : Hp} {Q : Bool → Hp → Prop} (h : Po L RB E ι H (r.bind blR) Q) : Po L (RV L) E ι H r fun x H => ∃ k, x = .bl k ∧ Q k H :=
  (Po.bind h).imp fun x H1 ⟨ι1, A, v, e, rh, rv, po⟩ => by
    cases v <;> first | exact False.elim po | skip
    exact ⟨_, rv, Po.now (show Po L RB E ι1 H1 (.ok _ A) Q from po) rh rfl⟩
theorem tE_bl {ev : Fr → IH → Rs IV} {σ : L2.St} {H : Hp} {Q : Bool → Hp → Prop} (h : tE L E RB (fun ρ A => (ev ρ A).bind blR) σ H Q) : tE L E (RV L) ev σ H fun x H => ∃ k, x = .bl k ∧ Q k H := by
  obtain ⟨ι, ρ, A, rf, rh, po⟩ := h
  exact ⟨ι, ρ, A, rf, rh, bl_bind po⟩
theorem t_cmp (g : Good X L P C G lv E) (o : Cop) (h1 : SE X L P C E e1 c1) (h2 : SE X L P C E e2 c2) (hn : noSet e2 = true) : ST X L P C E (.Compare e1 [opC o] [e2] pos) (.cmp o c1 c2) :=
  ptImp (pt_cmpR (opCmp g.hu o) h1 h2 (noSet_mark hn)) fun σ H Q h => by
    have h := tE_bl h
    exact tE2 (cmpI o) h (fun ρ A => by rw [evE]) fun ι ρ A H v w x y rf rh rv rw' po => by
      rw [← g.K]
      exact leafCmp rh rv rw' o po
theorem s_chain (g : Good X L P C G lv E) (o o' : Cop) (h1 : SE X L P C E e1 c1) (h2 : SE X L P C E e2 c2) (h3 : SE X L P C E e3 c3) (hn : noSet e3 = true) : SE X L P C E (.Compare e1 [opC o, opC o'] [e2, e3] pos) (.chain o o' c1 c2 c3) :=
  peImp (pe_chain (opCmp g.hu o) (opCmp g.hu o') h1 h2 h3 (noSet_mark hn)) fun σ H Q ⟨ι, ρ, A, rf, rh, po⟩ => by
    unfold evE at po
    refine ⟨ι, ρ, A, rf, rh, (Po.bind po).imp fun x H1 ⟨ι1, A1, v, e1, rh1, rv1, po1⟩ => ⟨ι1, ρ, A1, rf.mono e1, rh1, (Po.bind po1).imp fun y H2 ⟨ι2, A2, w, e2, rh2, rv2, po2⟩ => ?_⟩⟩
    rw [← g.K]
    refine leafCmp rh2 (rv1.mono e2) rv2 o ((Po.bind po2).imp fun z H3 ⟨ι3, A3, u, e3, rh3, rv3, po3⟩ => ?_)
    split at po3
    · refine ⟨true, rv3, ?_⟩
      simp only [if_true]
      refine ⟨ι3, ρ, A3, ((rf.mono e1).mono e2).mono e3, rh3, (Po.bind po3).imp fun t H4 ⟨ι4, A4, t', e4, rh4, rv4, po4⟩ => ?_⟩
      exact leafCmp rh4 ((rv2.mono e3).mono e4) rv4 o' po4
    · refine ⟨false, rv3, ?_⟩
      simp only [Bool.false_eq_true, if_false]
      exact po3.now rh3 rfl
    · exact po3.elim
theorem t_chain (g : Good X L P C G lv E) (o o' : Cop) (h1 : SE X L P C E e1 c1) (h2 : SE X L P C E e2 c2) (h3 : SE X L P C E e3 c3) (hn : noSet e3 = true) : ST X L P C E (.Compare e1 [opC o, opC o'] [e2, e3] pos) (.chain o o' c1 c2 c3) :=
  ptImp (pt_chain (opCmp g.hu o) (opCmp g.hu o') h1 h2 h3 (noSet_mark hn)) fun σ H Q h => by
    obtain ⟨ι, ρ, A, rf, rh, po⟩ := tE_bl h
    unfold evE at po
    refine ⟨ι, ρ, A, rf, rh, (Po.bind po).imp fun x H1 ⟨ι1, A1, v, e1, rh1, rv1, po1⟩ => ⟨ι1, ρ, A1, rf.mono e1, rh1, (Po.bind po1).imp fun y H2 ⟨ι2, A2, w, e2, rh2, rv2, po2⟩ => ?_⟩⟩
    rw [← g.K]
    refine leafCmp rh2 (rv1.mono e2) rv2 o ((Po.bind po2).imp fun z H3 ⟨ι3, A3, u, e3, rh3, rv3, po3⟩ => ?_)
    split at po3
    · refine ⟨true, rv3, ?_⟩
      simp only [if_true]
      refine ⟨ι3, ρ, A3, ((rf.mono e1).mono e2).mono e3, rh3, (Po.bind po3).imp fun t H4 ⟨ι4, A4, t', e4, rh4, rv4, po4⟩ => ?_⟩
      exact leafCmp rh4 ((rv2.mono e3).mono e4) rv4 o' po4
    · refine ⟨false, rv3, ?_⟩
      simp only [Bool.false_eq_true, if_false]
      exact po3.now rh3 rfl
    · exact po3.elim
/-! ### not, and, or, if -/
theorem s_not (h1 : SE X L P C E e1 c1) : SE X L P C E (.UnaryOp .Not e1 pos) (.not c1) :=
  peImp (pe_not h1) fun σ H Q h => tEk (S := RV L) (fun v _ A => match v with
    | .bl b => .ok (.bl (!b)) A
    | _ => .bad) h (fun ρ A => by rw [evE] <;> rfl) fun ι ρ A H v x rf rh rv po => by
    split at po
    · rw [show x = _ from rv]
      exact ⟨_, rfl, po.now rh rfl⟩
    · exact po.elim
theorem t_not (h1 : ST X L P C E e1 c1) : ST X L P C E (.UnaryOp .Not e1 pos) (.not c1) :=
  ptImp (pt_not h1) fun σ H Q ⟨ι, ρ, A, rf, rh, po⟩ => by
    refine ⟨ι, ρ, A, rf, rh, ?_⟩
    have h := bl_bind po
    unfold evE at h
    refine Po.imp (Q := fun b H => Q (!b) H) ?_ fun _ _ z => z
    have key : ∀ {r : Rs IV}, Po L RB E ι H ((r.bind fun v A => match v with
      | .bl b => .ok (.bl (!b)) A
      | _ => .bad).bind blR) Q → Po L RB E ι H (r.bind blR) fun b H => Q (!b) H := fun {r} q => by
      cases r with
      | ok v A => cases v <;> first | exact q.elim | skip
                  exact fun ι' H' w e rh rv => by cases rv; exact q ι' H' _ e rh rfl
      | ex D fs A => exact q
      | bad => exact q
    exact key (by unfold evE at po; exact po)
theorem s_and (h1 : SE X L P C E e1 c1) {rest : List Expr} (h2 : SE X L P C E (.BoolOp .And (e2 :: rest) pos) c2) : SE X L P C E (.BoolOp .And (e1 :: e2 :: rest) pos) (.and c1 c2) :=
  peImp (pe_and h1 h2) fun σ H Q h => tEk (S := RV L) (fun v ρ A => match v with
    | .bl true => evE P C c2 ρ A
    | .bl false => .ok (.bl false) A
    | _ => .bad) h (fun ρ A => by rw [evE] <;> rfl) fun ι ρ A H v x rf rh rv po => by
    split at po
    · exact ⟨true, rv, by simp only [if_true]; exact ⟨ι, ρ, A, rf, rh, po⟩⟩
    · exact ⟨false, rv, by simp only [Bool.false_eq_true, if_false]; exact po.now rh rfl⟩
    · exact po.elim
theorem s_or (h1 : SE X L P C E e1 c1) {rest : List Expr} (h2 : SE X L P C E (.BoolOp .Or (e2 :: rest) pos) c2) : SE X L P C E (.BoolOp .Or (e1 :: e2 :: rest) pos) (.or c1 c2) :=
  peImp (pe_or h1 h2) fun σ H Q h => tEk (S := RV L) (fun v ρ A => match v with
    | .bl true => .ok (.bl true) A
    | .bl false => evE P C c2 ρ A
    | _ => .bad) h (fun ρ A => by rw [evE] <;> rfl) fun ι ρ A H v x rf rh rv po => by
    split at po
    · exact ⟨true, rv, by simp only [if_true]; exact po.now rh rfl⟩
    · exact ⟨false, rv, by simp only [Bool.false_eq_true, if_false]; exact ⟨ι, ρ, A, rf, rh, po⟩⟩
    · exact po.elim
/-- a test's run of two -/
theorem and_key {r : Rs IV} {f : IH → Rs IV} {ι : List Addr} {H : Hp} {Q : Bool → Hp → Prop} (q : Po L RB E ι H ((r.bind fun v A => match v with
      | .bl true => f A
      | .bl false => .ok (.bl false) A
      | _ => .bad).bind blR) Q) : Po L RB E ι H ((r.bind blR).bind fun b A => if b = true then (f A).bind blR else .ok false A) Q := by
  cases r with
  | ok v A =>
    cases v <;> first | exact q.elim | skip
    rename_i b
    cases b <;> exact q
  | ex D fs A => exact q
  | bad => exact q
theorem or_key {r : Rs IV} {f : IH → Rs IV} {ι : List Addr} {H : Hp} {Q : Bool → Hp → Prop} (q : Po L RB E ι H ((r.bind fun v A => match v with
      | .bl true => .ok (.bl true) A
      | .bl false => f A
      | _ => .bad).bind blR) Q) : Po L RB E ι H ((r.bind blR).bind fun b A => if b = true then .ok true A else (f A).bind blR) Q := by
  cases r with
  | ok v A =>
    cases v <;> first | exact q.elim | skip
    rename_i b
    cases b <;> exact q
  | ex D fs A => exact q
  | bad => exact q
theorem w_and (h1 : ST X L P C E e1 c1) {rest : List Expr} (h2 : SW X L P C E (.BoolOp .And (e2 :: rest) pos) c2) : SW X L P C E (.BoolOp .And (e1 :: e2 :: rest) pos) (.and c1 c2) :=
by
  refine ⟨fun wh pins s σ H Q I ⟨ι, ρ, A, rf, rh, po⟩ => (pw_and h1 h2).run wh pins s σ H Q I ?_⟩
  refine ⟨ι, ρ, A, rf, rh, (Po.bind (R := RB) (Q := Q) (and_key (f := fun A => evE P C c2 ρ A) (by unfold evE at po; exact po))).imp fun x H1 ⟨ι1, A1, v, e1, rh1, rv1, po1⟩ => by
    cases rv1
    cases x
    · simp only [Bool.false_eq_true, if_false] at po1 ⊢
      exact po1.now rh1 rfl
    · simp only [if_true] at po1 ⊢
      exact ⟨ι1, ρ, A1, rf.mono e1, rh1, po1⟩⟩
theorem w_or (h1 : ST X L P C E e1 c1) {rest : List Expr} (h2 : SW X L P C E (.BoolOp .Or (e2 :: rest) pos) c2) : SW X L P C E (.BoolOp .Or (e1 :: e2 :: rest) pos) (.or c1 c2) :=
by
  refine ⟨fun wh pins s σ H Q I ⟨ι, ρ, A, rf, rh, po⟩ => (pw_or h1 h2).run wh pins s σ H Q I ?_⟩
  refine ⟨ι, ρ, A, rf, rh, (Po.bind (R := RB) (Q := Q) (or_key (f := fun A => evE P C c2 ρ A) (by unfold evE at po; exact po))).imp fun x H1 ⟨ι1, A1, v, e1, rh1, rv1, po1⟩ => by
    cases rv1
    cases x
    · simp only [Bool.false_eq_true, if_false] at po1 ⊢
      exact ⟨ι1, ρ, A1, rf.mono e1, rh1, po1⟩
    · simp only [if_true] at po1 ⊢
      exact po1.now rh1 rfl⟩
theorem s_ite (h1 : ST X L P C E e1 c1) (h2 : SE X L P C E e2 c2) (h3 : SE X L P C E e3 c3) : SE X L P C E (.IfExp e1 e2 e3 pos) (.ite c1 c2 c3) :=
  peImp (pe_ifExp h1 h2 h3) fun σ H Q ⟨ι, ρ, A, rf, rh, po⟩ => by
    unfold evE at po
    have key : ∀ {r : Rs IV}, Po L (RV L) E ι H (r.bind fun v A => match v with
      | .bl true => evE P C c2 ρ A
      | .bl false => evE P C c3 ρ A
      | _ => .bad) Q → Po L (RV L) E ι H ((r.bind blR).bind fun b A => if b = true then evE P C c2 ρ A else evE P C c3 ρ A) Q := fun {r} q => by
      cases r with
      | ok v A =>
        cases v <;> first | exact q.elim | skip
        rename_i b
        cases b <;> exact q
      | ex D fs A => exact q
      | bad => exact q
    refine ⟨ι, ρ, A, rf, rh, (Po.bind (R := RB) (key po)).imp fun x H1 ⟨ι1, A1, v, e1, rh1, rv1, po1⟩ => ?_⟩
    cases rv1
    cases x
    · simp only [Bool.false_eq_true, if_false] at po1 ⊢
      exact ⟨ι1, ρ, A1, rf.mono e1, rh1, po1⟩
    · simp only [if_true] at po1 ⊢
      exact ⟨ι1, ρ, A1, rf.mono e1, rh1, po1⟩
theorem t_ite (h1 : ST X L P C E e1 c1) (h2 : ST X L P C E e2 c2) (h3 : ST X L P C E e3 c3) : ST X L P C E (.IfExp e1 e2 e3 pos) (.ite c1 c2 c3) := by
  refine ⟨fun pins s σ H Q I ⟨ι, ρ, A, rf, rh, po⟩ => ?_⟩
  have key : ∀ {r : Rs IV}, Po L RB E ι H ((r.bind fun v A => match v with
      | .bl true => evE P C c2 ρ A
      | .bl false => evE P C c3 ρ A
      | _ => .bad).bind blR) Q → Po L RB E ι H ((r.bind blR).bind fun b A => if b = true then (evE P C c2 ρ A).bind blR else (evE P C c3 ρ A).bind blR) Q := fun {r} q => by
    cases r with
    | ok v A =>
      cases v <;> first | exact q.elim | skip
      rename_i b
      cases b <;> exact q
    | ex D fs A => exact q
    | bad => exact q
  show wpAny _ _ (do if ← isTrue e1 X.env (eval e1 X.env) then isTrue e2 X.env (eval e2 X.env) else isTrue e3 X.env (eval e3 X.env)) _ _ s
  refine wpAny_bind (thn (h1.run pins s σ H _ I ⟨ι, ρ, A, rf, rh, Po.bind (R := RB) (key (by unfold evE at po; exact po))⟩) fun b s1 ⟨H1, I1, ι1, A1, v, e1, rh1, rv1, po1⟩ => ?_)
  cases rv1
  cases b
  · simp only [Bool.false_eq_true, if_false] at po1 ⊢
    exact h3.run pins s1 σ H1 Q I1 ⟨ι1, ρ, A1, rf.mono e1, rh1, po1⟩
  · simp only [if_true] at po1 ⊢
    exact h2.run pins s1 σ H1 Q I1 ⟨ι1, ρ, A1, rf.mono e1, rh1, po1⟩
/-- an expression that is no test by itself -/
theorem t_val (h1 : SE X L P C E e c) (he : ∀ whole, isTrue e X.env whole = (do let v ← whole; standAt e.pos; holding [v] (truthy v))) : ST X L P C E e c :=
  ptImp (pt_val h1 he) fun σ H Q h => tE_bl h
end
end LF
set_option Elab.async false
set_option linter.all false
set_option maxHeartbeats 4000000
/-! Subscripts, slices, displays, argument lists, calls. -/
namespace LF
open PySem PySem.Spec PyProof.Rows L2
section
variable {X : Cx} {L : Lk} {P : Prg} {C : Cal} {G : Gx} {lv : Nat} {E : XK} {e e1 e2 e3 : Expr} {c c1 c2 c3 : CE} {pos : Pos}
theorem Good.hu1 (g : Good X L P C G lv E) : X.A.units + 1 < cLine := by
  have := g.hu
  omega
theorem s_ix (g : Good X L P C G lv E) (h1 : SE X L P C E e1 c1) (h2 : SE X L P C E e2 c2) (hs : PlainIx e2) : SE X L P C E (.Subscript e1 e2 pos) (.ix c1 c2) :=
  peImp (pe_ix (ixA g.hu1) h1 h2 hs) fun σ H Q h => tE2 ixI h (fun ρ A => by rw [evE]) fun ι ρ A H v w x y rf rh rv rw' po => by
    rw [← g.K]
    exact leafIx rh rv rw' po
/-- a part of a slice -/
abbrev SO (X : Cx) (L : Lk) (P : Prg) (C : Cal) (E : XK) (e : Option Expr) (c : CO) : Prop := PO X e (tE L E ROI (evO P C c))
theorem o_no : SO X L P C E none .no := ⟨fun pins s σ H Q I ⟨ι, ρ, A, rf, rh, po⟩ => by
  rw [evalPart_none]
  unfold evO at po
  exact wpAny_pure ⟨none, H, I, .none, po.now rh rfl⟩⟩
theorem o_some (h : SE X L P C E e c) : SO X L P C E (some e) (.some c) := ⟨fun pins s σ H Q I ⟨ι, ρ, A, rf, rh, po⟩ => by
  rw [evalPart_some]
  unfold evO at po
  refine thn (h.run pins s σ H _ I ⟨ι, ρ, A, rf, rh, Po.bind po⟩) fun u s1 ⟨x, H1, I1, r1, ι1, A1, v, e1, rh1, rv1, po1⟩ => ?_
  split at po1
  · obtain rfl : x = V.int _ := rv1
    obtain ⟨t, rfl⟩ := r1
    exact ⟨some _, H1, I1, .int _ t, po1.now rh1 rfl⟩
  · exact po1.elim⟩
theorem s_sl (g : Good X L P C G lv E) {lo hi : Option Expr} {l h : CO} {p2 : Pos} (h1 : SE X L P C E e1 c1) (hl : SO X L P C E lo l) (hh : SO X L P C E hi h) : SE X L P C E (.Subscript e1 (.Slice lo hi none p2) pos) (.sl c1 l h) :=
  peImp (pe_slice slA h1 hl hh) fun σ H Q ⟨ι, ρ, A, rf, rh, po⟩ => by
    unfold evE at po
    refine ⟨ι, ρ, A, rf, rh, (Po.bind po).imp fun x H1 ⟨ι1, A1, v, e1, rh1, rv1, po1⟩ => ⟨ι1, ρ, A1, rf.mono e1, rh1, (Po.bind (R := ROI) po1).imp fun y H2 ⟨ι2, A2, w, e2, rh2, rv2, po2⟩ => ?_⟩⟩
    refine ⟨ι2, ρ, A2, (rf.mono e1).mono e2, rh2, (Po.bind (R := ROI) po2).imp fun z H3 ⟨ι3, A3, u, e3, rh3, rv3, po3⟩ => ?_⟩
    cases rv2
    cases rv3
    rw [← g.K]
    exact leafSl rh3 ((rv1.mono e2).mono e3) po3
/-! ### argument lists -/
def noStar : Expr → Bool
  | .Starred _ _ => false
  | _ => true
theorem star_of (h : noStar e = true) (env : Env) (r : List Expr) : starEach (e :: r) env = (false, eval e env) :: starEach r env := by
  cases e <;> first | rfl | cases h
theorem stars_none (env : Env) (pos : Pos) : ∀ {es : List Expr}, es.all noStar = true → (backTo pos (starEach es env)).any (·.1) = false
  | [], _ => rfl
  | e :: r, h => by
    simp only [List.all_cons, Bool.and_eq_true] at h
    rw [star_of h.1]
    exact stars_none env pos h.2
theorem a_nil : SA X L P C E [] .nil := ⟨fun pos pins s σ H Q I ⟨ι, ρ, A, rf, rh, po⟩ => pa_nil.run pos pins s σ H Q I (by unfold evEs at po; exact po.now rh rfl)⟩
theorem paImp {es : List Expr} {t t' : TA} (h : PA X es t) (k : ∀ σ H Q, t' σ H Q → t σ H Q) : PA X es t' := ⟨fun pos pins s σ H Q I q => h.run pos pins s σ H Q I (k σ H Q q)⟩
theorem a_cons {es : List Expr} {cs : CEs} (h1 : SE X L P C E e c) (h2 : SA X L P C E es cs) (hs : noStar e = true) : SA X L P C E (e :: es) (.cons c cs) :=
  paImp (pa_cons h1 h2 (star_of hs _ _)) fun σ H Q ⟨ι, ρ, A, rf, rh, po⟩ => by
    unfold evEs at po
    refine ⟨ι, ρ, A, rf, rh, (Po.bind po).imp fun x H1 ⟨ι1, A1, v, e1, rh1, rv1, po1⟩ => ⟨ι1, ρ, A1, rf.mono e1, rh1, (Po.bind po1).imp fun y H2 ⟨ι2, A2, w, e2, rh2, rv2, po2⟩ => ?_⟩⟩
    exact po2.now rh2 (.cons (rv1.mono e2) rv2)
theorem a_list {g : Expr → Option CE} (hg : ∀ e c, g e = some c → SE X L P C E e c ∧ noStar e = true) : ∀ {es : List Expr} {cs : List CE}, cL g es = some cs → SA X L P C E es (toEs cs) ∧ es.all noStar = true ∧ es.length = cs.length
  | [], cs, h => by cases h; exact ⟨a_nil, rfl, rfl⟩
  | e :: r, cs, h => by
    unfold cL at h
    split at h
    · rename_i c ds e1 e2
      cases h
      obtain ⟨s1, n1⟩ := hg _ _ e1
      obtain ⟨s2, n2, l2⟩ := a_list hg e2
      exact ⟨a_cons s1 s2 n1, by simp [n1, n2], by simp [l2]⟩
    · cases h
/-! ### displays -/
theorem s_tup {es : List Expr} {cs : CEs} {k : Nat} (h : SA X L P C E es cs) : SE X L P C E (.Tuple es k pos) (.tup cs) :=
  peImp (pe_tup h) fun σ H Q h => tEk (S := RVs L) (fun vs _ A => if vs.length ≤ LIM then .ok (.tup vs) A else .bad) h (fun ρ A => by rw [evE]) fun ι ρ A H v x rf rh rv po => by
    split at po
    · rename_i hl
      exact ⟨by rw [← rv.length]; exact lim_ok hl, fun p hp => po_tup rh rv po hp⟩
    · exact po.elim
theorem s_lst {es : List Expr} {cs : CEs} (h : SA X L P C E es cs) : SE X L P C E (.List es pos) (.lst cs) :=
  peImp (pe_lst h) fun σ H Q h => tEk (S := RVs L) (fun vs _ A => if vs.length ≤ LIM then newL vs A else .bad) h (fun ρ A => by rw [evE]) fun ι ρ A H v x rf rh rv po => by
    split at po
    · rename_i hl
      exact ⟨by rw [← rv.length]; exact lim_ok hl, fun p hp => po_newL rh rv po hp⟩
    · exact po.elim
/-! ### built-in functions -/
theorem biOf_n {x : Str} {b : Bi} (h : biOf x = some b) : x ∈ bltN ∧ bootBuiltins x = some (biF b) ∧ x ≠ "__name__" ∧ (x == ("__debug__" : Str)) = false := by
  unfold biOf at h
  repeat (split at h; · cases h; rename_i e; subst e; exact ⟨by decide, by decide +kernel, by decide, by decide⟩)
  cases h
theorem s_bi (g : Good X L P C G lv E) {x : Str} {b : Bi} {es : List Expr} {cs : CEs} {p : Pos} (hg : isGl X.env.scope x = true) (hx : biOf x = some b) (h : SA X L P C E es cs) (hn : es.all noStar = true) (h0 : es = [] → cs = .nil) :
    SE X L P C E (.Call (.Name x p) es [] pos) (.bi b cs) := by
  obtain ⟨h1, h2, h3, h4⟩ := biOf_n hx
  have key : ∀ σ H Q, tE L E (RV L) (evE P C (.bi b cs)) σ H Q → tCB (rBi X.K b) (tE L E (RVs L) (evEs P C cs)) σ H Q := fun σ H Q h =>
    tEk (S := RVs L) (fun vs _ A => biI b vs A) h (fun ρ A => by rw [evE]) fun ι ρ A H v x rf rh rv po => by
      rw [← g.K]
      exact leafBi rh rv b po
  cases es with
  | nil =>
    refine ⟨fun pins s σ H Q I ⟨ι, ρ, A, rf, rh, po⟩ => ?_⟩
    rw [h0 rfl] at po
    unfold evE evEs at po
    cases b <;> exact False.elim po
  | cons e r =>
    simp only [List.all_cons, Bool.and_eq_true] at hn
    have cr := callBi g.calm g.grd g.hu b
    have bo := g.blt x h1
    cases b with
    | len => exact peImp (pe_callB cr (isGl_gl hg) bo h2 h h3 h4 (star_of hn.1 _ _) (stars_none _ _ hn.2)) key
    | int => exact peImp (pe_callTy cr (isGl_gl hg) bo h2 h h3 h4 (star_of hn.1 _ _) (stars_none _ _ hn.2)) key
    | str => exact peImp (pe_callTy cr (isGl_gl hg) bo h2 h h3 h4 (star_of hn.1 _ _) (stars_none _ _ hn.2)) key
    | tuple => exact peImp (pe_callTy cr (isGl_gl hg) bo h2 h h3 h4 (star_of hn.1 _ _) (stars_none _ _ hn.2)) key
    | list => exact peImp (pe_callTy cr (isGl_gl hg) bo h2 h h3 h4 (star_of hn.1 _ _) (stars_none _ _ hn.2)) key
    | all => exact peImp (pe_callB cr (isGl_gl hg) bo h2 h h3 h4 (star_of hn.1 _ _) (stars_none _ _ hn.2)) key
    | any => exact peImp (pe_callB cr (isGl_gl hg) bo h2 h h3 h4 (star_of hn.1 _ _) (stars_none _ _ hn.2)) key
    | repr => exact peImp (pe_callB cr (isGl_gl hg) bo h2 h h3 h4 (star_of hn.1 _ _) (stars_none _ _ hn.2)) key
/-! ### methods -/
theorem base_of {o : Expr} (h : plainB o = true) (m : Str) (env : Env) (whole : Sem Value) : attributeBase o m env whole = whole := by
  unfold attributeBase
  split
  · cases h
  · rfl
theorem few_of {es : List Expr} {pos : Pos} (h : es.all noStar = true) (env : Env) (hl : es.length + 1 < 30) :
    ((backTo pos (starEach es env)).all (fun x => !x.1) && (backToKw pos (keywordEach [] env)).all (fun x => x.1.isSome) && decide (es.length + ([] : List Keyword).length + (if ([] : List Keyword).isEmpty then 0 else 1) < 30)) = true := by
  have h1 : (backTo pos (starEach es env)).all (fun x => !x.1) = true := by
    have := stars_none env pos h
    rw [List.all_eq_not_any_not]
    simpa using this
  rw [h1]
  have h2 : (backToKw pos (keywordEach [] env)) = [] := rfl
  rw [h2]
  simp
  omega
theorem s_me (g : Good X L P C G lv E) {o : Expr} {co : CE} {x : Str} {m : Me} {es : List Expr} {cs : CEs} {ap : Pos} (hx : meOf x = some m) (ho : SE X L P C E o co) (h : SA X L P C E es cs) (hn : es.all noStar = true) (hb : plainB o = true)
    (hl : (ap.endLine == pos.line) = true) (h0 : es = [] → cs = .nil) (hf : es.length + 1 < 30) : SE X L P C E (.Call (.Attribute o x ap) es [] pos) (.me m co cs) := by
  have ex := meOf_n hx
  subst ex
  have key : ∀ σ H Q, tE L E (RV L) (evE P C (.me m co cs)) σ H Q → tBM X.K (meT m) (rMe X.K m) (tE L E (RV L) (evE P C co)) (tE L E (RVs L) (evEs P C cs)) σ H Q := fun σ H Q ⟨ι, ρ, A, rf, rh, po⟩ => by
    unfold evE at po
    refine ⟨ι, ρ, A, rf, rh, (Po.bind po).imp fun x H1 ⟨ι1, A1, v, e1, rh1, rv1, po1⟩ => ?_⟩
    split at po1
    · rename_i hr
      rw [← g.K]
      refine ⟨recv_ty rh1 rv1 hr, ι1, ρ, A1, rf.mono e1, rh1, (Po.bind po1).imp fun xs H2 ⟨ι2, A2, w, e2, rh2, rv2, po2⟩ => ?_⟩
      exact leafMe rh2 (rv1.mono e2) rv2 m po2
    · exact po1.elim
  cases es with
  | nil =>
    refine peImp (pe_bm0 (mePl m) (meSlot m) (meTy m) (mtMe g.hu1 m) ho (base_of hb _ _ _) hl) fun σ H Q h => ?_
    obtain ⟨ι, ρ, A, rf, rh, po⟩ := key σ H Q h
    rw [h0 rfl] at po
    refine ⟨ι, ρ, A, rf, rh, po.imp fun x H1 ⟨t1, ι1, ρ1, A1, rf1, rh1, po1⟩ => ⟨t1, ?_⟩⟩
    unfold evEs at po1
    exact po1.now rh1 rfl
  | cons e r =>
    have hn' := hn
    simp only [List.all_cons, Bool.and_eq_true] at hn
    exact peImp (pe_bm (mePl m) (meSlot m) (meTy m) (mtMe g.hu1 m) ho h (base_of hb _ _ _) (few_of hn' _ hf) hl (star_of hn.1 _ _) (stars_none _ _ hn.2)) key
end
end LF
set_option Elab.async false
set_option linter.all false
set_option maxHeartbeats 4000000
/-! Dict displays, calls of the text's own defs. -/
namespace LF
open PySem PySem.Spec PyProof.Rows L2
/-! ### dicts -/
/-- a dict's pairs behind -/
def RD (L : Lk) (ι : List Addr) (H : Hp) (kvs : List (Str × IV)) (gs : List (Key × V)) : Prop := gs.map (·.1) = kvs.map (fun p => Sum.inr p.1) ∧ RVs L ι H (kvs.map (·.2)) (gs.map (·.2)) ∧ (kvs.map (·.1)).Nodup
section
variable {L : Lk} {ι : List Addr} {H : Hp}
theorem putD_keys {k : Str} {v : IV} : ∀ {kvs : List (Str × IV)}, (putD kvs k v).map (·.1) = if k ∈ kvs.map (·.1) then kvs.map (·.1) else kvs.map (·.1) ++ [k]
  | [] => rfl
  | (a, x) :: r => by
    unfold putD
    by_cases h : a = k
    · subst h
      simp
    · rw [if_neg h, List.map_cons, putD_keys (kvs := r)]
      by_cases h2 : k ∈ r.map (·.1)
      · rw [if_pos h2, if_pos (by simp only [List.map_cons, List.mem_cons]; exact .inr h2)]
        rfl
      · rw [if_neg h2, if_neg (by simp only [List.map_cons, List.mem_cons, not_or]; exact ⟨fun q => h q.symm, h2⟩)]
        rfl
theorem putD_nodup {k : Str} {v : IV} {kvs : List (Str × IV)} (h : (kvs.map (·.1)).Nodup) : ((putD kvs k v).map (·.1)).Nodup := by
  rw [putD_keys]
  split
  · exact h
  · rename_i h2
    exact List.nodup_append.mpr ⟨h, by simp, fun a ha b hb q => h2 (by simp at hb; subst hb; rw [← q]; exact ha)⟩
theorem putK_cons_ne {a : Key} {w : V} {r : List (Key × V)} {k : Key} {v : V} (h : a ≠ k) : putK ((a, w) :: r) k v = (a, w) :: putK r k v := by
  unfold putK
  have e : decide (a = k) = false := decide_eq_false h
  simp only [List.any_cons, e, Bool.false_or]
  split
  · simp [h]
  · simp
theorem putK_cons_eq {w : V} {r : List (Key × V)} {k : Key} {v : V} (h : k ∉ r.map (·.1)) : putK ((k, w) :: r) k v = (k, v) :: r := by
  unfold putK
  simp only [List.any_cons, decide_true, Bool.true_or, if_true, List.map_cons]
  congr 1
  induction r with
  | nil => rfl
  | cons q r ih =>
    simp only [List.map_cons, List.mem_cons, not_or] at h
    rw [List.map_cons, ih h.2, if_neg (fun z => h.1 z.symm)]
theorem RD.put {k : Str} {v : IV} {w : V} (rv : RV L ι H v w) : ∀ {kvs : List (Str × IV)} {gs : List (Key × V)}, RD L ι H kvs gs → RD L ι H (putD kvs k v) (putK gs (.inr k) w)
  | [], gs, h => by
    have : gs = [] := by simpa using h.1
    subst this
    exact ⟨rfl, .cons rv .nil, by simp [putD]⟩
  | (a, x) :: kvs, [], h => by
    have := h.1
    simp at this
  | (a, x) :: kvs, (b, y) :: gs, h => by
    obtain ⟨h1, ⟨w', ws, e, r1, r2⟩, nd⟩ := h
    simp only [List.map_cons, List.cons.injEq] at h1
    obtain ⟨rfl, h1⟩ := h1
    cases e
    simp only [List.map_cons, List.nodup_cons] at nd
    by_cases ha : a = k
    · subst ha
      have hk : (Sum.inr a : Key) ∉ gs.map (·.1) := by
        rw [h1]
        intro m
        obtain ⟨p, hp, e⟩ := List.mem_map.mp m
        exact nd.1 (List.mem_map.mpr ⟨p, hp, Sum.inr.inj e⟩)
      rw [putK_cons_eq hk]
      unfold putD
      rw [if_pos rfl]
      exact ⟨by simp [h1], .cons rv r2, by simpa using nd⟩
    · rw [putK_cons_ne (fun q => ha (Sum.inr.inj q))]
      unfold putD
      rw [if_neg ha]
      obtain ⟨i1, i2, i3⟩ := RD.put rv (kvs := kvs) (gs := gs) ⟨h1, r2, nd.2⟩
      refine ⟨by simp [i1], .cons r1 i2, ?_⟩
      simp only [List.map_cons, List.nodup_cons]
      refine ⟨?_, i3⟩
      rw [putD_keys]
      split
      · exact nd.1
      · simp only [List.mem_append, List.mem_singleton, not_or]
        exact ⟨nd.1, ha⟩
theorem RD.merge : ∀ {ks : List Str} {vs : List IV} {ws : List V} {kvs : List (Str × IV)} {gs : List (Key × V)}, RVs L ι H vs ws → RD L ι H kvs gs → RD L ι H (mergeD kvs (ks.zip vs)) (mergeK gs ((ks.zip ws).map fun p => (Sum.inr p.1, p.2)))
  | [], vs, ws, kvs, gs, _, h => by simpa [mergeD, mergeK] using h
  | k :: ks, [], ws, kvs, gs, r, h => by
    rw [show ws = [] from r]
    simpa [mergeD, mergeK] using h
  | k :: ks, v :: vs, ws, kvs, gs, r, h => by
    obtain ⟨w, ws, rfl, r1, r2⟩ := r
    simp only [List.zip_cons_cons, List.map_cons]
    unfold mergeD
    exact RD.merge (ks := ks) r2 (h.put r1)
theorem mergeD_keys : ∀ {more kvs : List (Str × IV)}, (mergeD kvs more).length ≤ kvs.length + more.length
  | [], kvs => by simp [mergeD]
  | (k, v) :: r, kvs => by
    unfold mergeD
    refine Nat.le_trans (mergeD_keys (more := r)) ?_
    have : (putD kvs k v).length ≤ kvs.length + 1 := by
      have h1 : ((putD kvs k v).map (·.1)).length ≤ (kvs.map (·.1)).length + 1 := by
        rw [putD_keys]
        split
        · exact Nat.le_succ _
        · simp
      simpa using h1
    rw [List.length_cons]
    omega
theorem RO.dct {a : Addr} {kvs : List (Str × IV)} {gs : List (Key × V)} (h : H a = some (.dK gs)) (r : RD L ι H kvs gs) : RO L ι H a (.dct kvs) := ⟨gs, h, r.1, r.2.1, r.2.2⟩
end
section
variable {X : Cx} {L : Lk} {P : Prg} {C : Cal} {G : Gx} {lv : Nat} {E : XK} {e e1 e2 e3 : Expr} {c c1 c2 c3 : CE} {pos : Pos}
def trsOf (L : Lk) (P : Prg) (C : Cal) (E : XK) : List Str → List CE → List (TE × TE)
  | x :: xs, c :: cs => (tC (.str x), tE L E (RV L) (evE P C c)) :: trsOf L P C E xs cs
  | _, _ => []
theorem pps_of {g : Expr → Option CE} (hg : ∀ e c, g e = some c → SE X L P C E e c) : ∀ {ks : List (Option Expr)} {es : List Expr} {xs : List Str} {cs : List CE}, keysK ks = some xs → cL g es = some cs → ks.length = es.length → PPs X pos ks es (trsOf L P C E xs cs)
  | [], [], xs, cs, h1, h2, _ => by
    cases h1
    cases h2
    exact pps_nil
  | [], _ :: _, _, _, _, _, h => by simp at h
  | _ :: _, [], _, _, _, _, h => by simp at h
  | none :: _, _ :: _, _, _, h1, _, _ => by cases h1
  | some k :: ks, e :: es, xs, cs, h1, h2, h3 => by
    unfold keysK at h1
    unfold cL at h2
    split at h1
    · rename_i x ys k1 k2
      cases h1
      split at h2
      · rename_i c ds e1 e2
        cases h2
        have ek : ∃ j p, k = .Constant (.str x) j p := by
          unfold strK at k1
          split at k1
          · cases k1
            exact ⟨_, _, rfl⟩
          · cases k1
        obtain ⟨j, p, rfl⟩ := ek
        exact pps_cons pe_str (hg _ _ e1) (pps_of hg k2 e2 (by simpa using h3))
      · cases h2
    · cases h1
theorem pairs_read {σ : L2.St} : ∀ {xs : List Str} {cs : List CE} {H : Hp} {Q : List V → Hp → Prop} {Q' : List (V × V) → Hp → Prop}, xs.length = cs.length → tE L E (RVs L) (evEs P C (toEs cs)) σ H Q →
    (∀ ws H, Q ws H → Q' ((xs.zip ws).map fun p => (V.str p.1, p.2)) H) → tPairs (trsOf L P C E xs cs) σ H Q'
  | [], [], H, Q, Q', _, ⟨ι, ρ, A, rf, rh, po⟩, k => by
    unfold toEs evEs at po
    exact k [] H (po.now rh rfl)
  | [], _ :: _, _, _, _, h, _, _ => by simp at h
  | _ :: _, [], _, _, _, h, _, _ => by simp at h
  | x :: xs, c :: cs, H, Q, Q', hl, ⟨ι, ρ, A, rf, rh, po⟩, k => by
    unfold toEs evEs at po
    refine ⟨ι, ρ, A, rf, rh, (Po.bind po).imp fun y H1 ⟨ι1, A1, v, e1, rh1, rv1, po1⟩ => ?_⟩
    refine pairs_read (xs := xs) (cs := cs) (Q := fun ws H => Q (y :: ws) H) (by simpa using hl) ⟨ι1, ρ, A1, rf.mono e1, rh1, (Po.bind po1).imp fun ws H2 ⟨ι2, A2, w, e2, rh2, rv2, po2⟩ => ?_⟩ fun ws H q => ?_
    · exact po2.now rh2 (.cons (rv1.mono e2) rv2)
    · exact k (y :: ws) H q
theorem keysK_len : ∀ {ks : List (Option Expr)} {xs : List Str}, keysK ks = some xs → ks.length = xs.length ∧ ks.all (·.isSome) = true
  | [], xs, h => by cases h; exact ⟨rfl, rfl⟩
  | none :: _, _, h => by cases h
  | some k :: ks, xs, h => by
    unfold keysK at h
    split at h
    · rename_i x ys k1 k2
      cases h
      obtain ⟨i1, i2⟩ := keysK_len k2
      exact ⟨by simp [i1], by simp [i2]⟩
    · cases h
theorem cL_len {g : Expr → Option CE} : ∀ {es : List Expr} {cs : List CE}, cL g es = some cs → es.length = cs.length
  | [], cs, h => by cases h; rfl
  | e :: r, cs, h => by
    unfold cL at h
    split at h
    · rename_i c ds e1 e2
      cases h
      simp [cL_len e2]
    · cases h
theorem s_dct {g : Expr → Option CE} (hg : ∀ e c, g e = some c → SE X L P C E e c) {ks : List (Option Expr)} {es : List Expr} {xs : List Str} {cs : List CE} (h1 : keysK ks = some xs) (h2 : cL g es = some cs) (h3 : ks.length = es.length) (h4 : ks.length ≤ 15) :
    SE X L P C E (.Dict ks es pos) (.dct xs (toEs cs)) := by
  obtain ⟨l1, l2⟩ := keysK_len h1
  have l3 := cL_len h2
  -- the new dict, empty
  have start : ∀ {σ : L2.St} {H : Hp} {Q : VK}, tE L E (RV L) (evE P C (.dct xs (toEs cs))) σ H Q → ∀ p, H p = none → tE L E (RVs L) (evEs P C (toEs cs)) σ (upd H p (.dK [])) fun ws H2 => H2 p = some (.dK []) ∧ ws.length = xs.length ∧
      Q (.ref p) (upd H2 p (.dK (mergeK [] ((xs.zip ws).map fun q => (Sum.inr q.1, q.2))))) := fun {σ H Q} ⟨ι, ρ, A, rf, rh, po⟩ p hp => by
    unfold evE at po
    have ex : Ext ι H (ι ++ [p]) (upd H p (.dK [])) := Ext.new hp
    have rh0 : RH L (ι ++ [p]) (upd H p (.dK [])) (A ++ [.dct []]) := rh.new hp (RO.dct upd_same ⟨rfl, rfl, List.nodup_nil⟩)
    refine ⟨ι ++ [p], ρ, A ++ [.dct []], rf.mono ex, rh0, (Po.bind (Po.base po ex)).imp fun ws H2 ⟨ι2, A2, vs, e2, rh2, rv2, po2⟩ => ?_⟩
    have hp2 : ι2[A.length]? = some p := e2.get (by rw [← rh.len]; simp)
    split at po2
    · rename_i hd
      obtain ⟨gs, d1, d2, d3, d4⟩ := rh2.at_ _ _ _ hp2 hd
      have : gs = [] := by simpa using d2
      subst this
      split at po2
      · rename_i hl
        refine ⟨d1, by rw [← rv2.length]; exact hl.1.symm, ?_⟩
        refine Po.at_ po2 (Ext.put d1 fun z => z) (rh2.put hp2 d1 (fun z => z) (RO.dct upd_same ?_)) ⟨p, rfl, hp2⟩
        exact RD.merge (rv2.mono (Ext.put d1 fun z => z)) ⟨rfl, rfl, List.nodup_nil⟩
      · exact po2.elim
    · exact po2.elim
  cases ks with
  | nil =>
    cases es with
    | cons => simp at h3
    | nil =>
      have e1 : xs = [] := by simpa using l1.symm
      have e2 : cs = [] := by simpa using l3.symm
      subst e1 e2
      refine peImp pe_dnewK fun σ H Q h p hp => ?_
      obtain ⟨ι, ρ, A, rf, rh, po⟩ := start h p hp
      unfold toEs evEs at po
      obtain ⟨q1, q2, q3⟩ := po.now rh rfl
      have e : upd (upd H p (HO.dK [])) p (HO.dK (mergeK [] (List.map (fun q => (Sum.inr q.1, q.2)) ((([] : List Str)).zip ([] : List V))))) = upd H p (.dK []) := upd_upd
      rw [e] at q3
      exact q3
  | cons k ks =>
    refine peImp (pe_disp (pps_of hg h1 h2 h3) l2 h3 (by simp) h4) fun σ H Q h p hp => ?_
    refine pairs_read (by omega) (start h p hp) fun ws H2 ⟨q1, q2, q3⟩ => ⟨q1, (xs.zip ws).map fun q => (Sum.inr q.1, q.2), ?_, ?_, q3⟩
    · rw [List.map_map]
      rfl
    · simp only [List.length_map, List.length_zip]
      omega
/-! ### calls -/
theorem Po.bindE {α β γ δ : Type} {R : Rel α β} {S : Rel γ δ} {ι : List Addr} {H : Hp} {r : Rs α} {f : α → IH → Rs γ} {Q : δ → Hp → Prop} (h : Po L S E ι H (r.bind f) Q) :
    Po L R E ι H r fun x H1 => ∃ ι1 A v, r = .ok v A ∧ Ext ι H ι1 H1 ∧ RH L ι1 H1 A ∧ R ι1 H1 v x ∧ Po L S E ι1 H1 (f v A) Q := by
  cases r with
  | ok v A => exact fun ι' H' w e' rh rv => ⟨ι', A, v, rfl, e', rh, rv, Po.base (show Po L S E ι H (f v A) Q from h) e'⟩
  | ex C fs A => exact h
  | bad => exact h
theorem evEs_len {P : Prg} {C : Cal} : ∀ {cs : List CE} {ρ : Fr} {A A' : IH} {vs : List IV}, evEs P C (toEs cs) ρ A = .ok vs A' → vs.length = cs.length
  | [], ρ, A, A', vs, h => by
    unfold toEs evEs at h
    cases h
    rfl
  | c :: cs, ρ, A, A', vs, h => by
    unfold toEs evEs at h
    cases e1 : evE P C c ρ A with
    | ok v A1 =>
      rw [e1] at h
      have h : Rs.bind (evEs P C (toEs cs) ρ A1) (fun vs A => Rs.ok (v :: vs) A) = .ok vs A' := h
      cases e2 : evEs P C (toEs cs) ρ A1 with
      | ok us A2 =>
        rw [e2] at h
        cases h
        simp [evEs_len e2]
      | ex D fs B => rw [e2] at h; cases h
      | bad => rw [e2] at h; cases h
    | ex D fs B => rw [e1] at h; cases h
    | bad => rw [e1] at h; cases h
/-- the keywords' values -/
theorem toEs_append (P : Prg) (C : Cal) : ∀ (a b : List CE) (ρ : Fr) (A : IH), evEs P C (toEs (a ++ b)) ρ A = (evEs P C (toEs a) ρ A).bind fun vs A => (evEs P C (toEs b) ρ A).bind fun ws A => .ok (vs ++ ws) A
  | [], b, ρ, A => by
    have e : evEs P C (toEs ([] : List CE)) ρ A = .ok [] A := by unfold toEs evEs; rfl
    rw [e]
    show evEs P C (toEs b) ρ A = (evEs P C (toEs b) ρ A).bind fun ws A => .ok ws A
    cases evEs P C (toEs b) ρ A <;> rfl
  | c :: a, b, ρ, A => by
    have e1 : ∀ l : List CE, evEs P C (toEs (c :: l)) ρ A = (evE P C c ρ A).bind fun v A => (evEs P C (toEs l) ρ A).bind fun vs A => .ok (v :: vs) A := fun l => by
      rw [toEs, evEs]
    rw [List.cons_append, e1, e1, Rs.assoc]
    congr 1
    funext v A1
    rw [toEs_append P C a b ρ A1, Rs.assoc, Rs.assoc]
    congr 1
    funext vs A2
    show ((evEs P C (toEs b) ρ A2).bind fun ws A => Rs.ok (vs ++ ws) A).bind (fun vs A => Rs.ok (v :: vs) A) = (evEs P C (toEs b) ρ A2).bind fun ws A => .ok (v :: vs ++ ws) A
    rw [Rs.assoc]
    rfl
abbrev SK (X : Cx) (L : Lk) (P : Prg) (C : Cal) (E : XK) (ks : List Keyword) (cs : CEs) : Prop := PK X ks (tE L E (RVs L) (evEs P C cs))
theorem k_list {g : Expr → Option CE} (hg : ∀ e c, g e = some c → SE X L P C E e c) : ∀ {ks : List Keyword} {cs : List CE}, cL g (ks.map (·.value)) = some cs → SK X L P C E ks (toEs cs)
  | [], cs, h => by
    cases h
    exact ⟨fun pos pins s σ H Q I ⟨ι, ρ, A, rf, rh, po⟩ => pk_nil.run pos pins s σ H Q I (by unfold toEs evEs at po; exact po.now rh rfl)⟩
  | ⟨nm, v, kp⟩ :: ks, cs, h => by
    rw [List.map_cons] at h
    unfold cL at h
    split at h
    · rename_i c ds e1 e2
      cases h
      have i := k_list hg e2
      refine ⟨fun pos pins s σ H Q I ⟨ι, ρ, A, rf, rh, po⟩ => (pk_cons (hg _ _ e1) i).run pos pins s σ H Q I ?_⟩
      unfold toEs evEs at po
      refine ⟨ι, ρ, A, rf, rh, (Po.bind po).imp fun x H1 ⟨ι1, A1, v, e1, rh1, rv1, po1⟩ => ⟨ι1, ρ, A1, rf.mono e1, rh1, (Po.bind po1).imp fun y H2 ⟨ι2, A2, w, e2, rh2, rv2, po2⟩ => ?_⟩⟩
      exact po2.now rh2 (.cons (rv1.mono e2) rv2)
    · cases h
theorem kw_names {env : Env} {pos : Pos} : ∀ {ks : List Keyword} {kn : List Str}, kwNames ks = some kn → (backToKw pos (keywordEach ks env)).all (·.1.isSome) = true ∧ (backToKw pos (keywordEach ks env)).filterMap (·.1) = kn ∧
    (backToKw pos (keywordEach ks env)).any (·.1.isNone) = false ∧ ks.length = kn.length
  | [], kn, h => by cases h; exact ⟨rfl, rfl, rfl, rfl⟩
  | ⟨some n, v, p⟩ :: ks, kn, h => by
    unfold kwNames at h
    obtain ⟨kn', h1, rfl⟩ := Option.map_eq_some_iff.mp h
    obtain ⟨i1, i2, i3, i4⟩ := kw_names (env := env) (pos := pos) h1
    refine ⟨?_, ?_, ?_, by simp [i4]⟩
    · show (true && (backToKw pos (keywordEach ks env)).all (·.1.isSome)) = true
      rw [i1]
      rfl
    · show n :: (backToKw pos (keywordEach ks env)).filterMap (·.1) = n :: kn'
      rw [i2]
    · show (false || (backToKw pos (keywordEach ks env)).any (·.1.isNone)) = false
      rw [i3]
      rfl
  | ⟨none, v, p⟩ :: ks, kn, h => by cases h
theorem fnIx_get {x : Str} {k : Nat} {g : FnG} : ∀ {l : List FnG} {j : Nat}, fnIx x l j = some (k, g) → ∃ i, k = j + i ∧ l[i]? = some g ∧ g.name = x
  | [], j, h => by cases h
  | f :: r, j, h => by
    unfold fnIx at h
    split at h
    · rename_i e
      cases h
      exact ⟨0, rfl, rfl, e⟩
    · obtain ⟨i, h1, h2, h3⟩ := fnIx_get h
      exact ⟨i + 1, by omega, h2, h3⟩
theorem filt_vals {vs : List V} {us : List Value} (r : Vals vs us) : ∀ (pm : List Nat), Vals (pm.filterMap fun i => vs[i]?) (pm.filterMap fun i => us[i]?)
  | [] => .nil
  | i :: pm => by
    cases e : vs[i]? with
    | none =>
      have e2 : us[i]? = none := r.none_of e
      rw [List.filterMap_cons, List.filterMap_cons, e, e2]
      exact filt_vals r pm
    | some x =>
      obtain ⟨u, e2, ru⟩ := r.get e
      rw [List.filterMap_cons, List.filterMap_cons, e, e2]
      exact .cons ru (filt_vals r pm)
theorem perm_vals {vs : List V} {us : List Value} (r : Vals vs us) (pm : List Nat) : Vals (permute pm vs) (permute pm us) := by
  unfold permute
  split
  · exact r
  · exact filt_vals r pm
theorem filt_rvs {ι : List Addr} {H : Hp} {vs : List IV} {us : List V} (r : RVs L ι H vs us) : ∀ (pm : List Nat), RVs L ι H (pm.filterMap fun i => vs[i]?) (pm.filterMap fun i => us[i]?)
  | [] => .nil
  | i :: pm => by
    cases e : vs[i]? with
    | none =>
      have e2 : us[i]? = none := by
        have h1 := List.getElem?_eq_none_iff.mp e
        rw [r.length] at h1
        exact List.getElem?_eq_none_iff.mpr h1
      rw [List.filterMap_cons, List.filterMap_cons, e, e2]
      exact filt_rvs r pm
    | some x =>
      obtain ⟨u, e2, ru⟩ := r.get e
      rw [List.filterMap_cons, List.filterMap_cons, e, e2]
      exact .cons ru (filt_rvs r pm)
theorem perm_rvs {ι : List Addr} {H : Hp} {vs : List IV} {us : List V} (r : RVs L ι H vs us) (pm : List Nat) : RVs L ι H (permute pm vs) (permute pm us) := by
  unfold permute
  split
  · exact r
  · exact filt_rvs r pm
/-- the callee runs -/
theorem run_fnl (g : Good X L P C G lv E) {k : Nat} {f : Addr} {fd : FuncData} {ps : List Str} (F : FnL X.prog X.w X.K X.mg X.base L C k lv f fd ps) {pins : List (Addr × Obj)} {σ : L2.St} {H : Hp} {s : Shared} {Q : VK} {us us' : List Value} {kw : List (Str × Value)}
    {vs : List V} {ivs : List IV} {ι : List Addr} {A : IH} (I : L2.Inv X pins σ H s) (b : BindsTo s fd ⟨us, kw⟩ (ps.zip us')) (r : Vals vs us') (rr : RVs L ι H ivs vs) (rh : RH L ι H A) (po : Po L (RV L) E ι H (C k ivs A) Q) :
    wpAny (model X.prog X.w) X.A (call (.ref f) us kw) (EP X pins σ Q) X.xe s := by
  refine wpAny_call (codeAny_mono (F.run X.A X.stack s H ⟨us, kw⟩ us' vs ivs ι A Q E g.room g.grd I.env0 b r rr rh po) fun r s' hq => ?_)
  cases r with
  | error e => exact g.air.passes (fun _ _ _ q => q) I hq
  | ok fl =>
    cases fl with
    | ret u => exact I.after hq
    | next => exact False.elim hq
    | brk => exact False.elim hq
    | cont => exact False.elim hq
theorem s_call (g : Good X L P C G lv E) {gg : Expr → Option CE} (hg : ∀ e c, gg e = some c → SE X L P C E e c ∧ noStar e = true) {x : Str} {k : Nat} {f : FnG} {as : List Expr} {ks : List Keyword} {kn : List Str} {pm : List Nat} {ds : List IV} {cs : List CE} {p : Pos}
    (hgl : isGl X.env.scope x = true) (h1 : fnIx x G.fns 0 = some (k, f)) (h2 : kwNames ks = some kn) (h3 : (as.length, kn) ∈ f.shp) (h4 : plan f as.length kn f.ps 0 (as.length + kn.length) = some (pm, ds)) (h5 : cL gg (as ++ ks.map (·.value)) = some cs) :
    SE X L P C E (.Call (.Name x p) as ks pos) (.call k (toEs cs) ds pm) := by
  obtain ⟨i, ek, hi, rfl⟩ := fnIx_get h1
  rw [Nat.zero_add] at ek
  subst ek
  obtain ⟨nd, fa, fd, m1, m2, F, bind⟩ := g.fns k f hi
  obtain ⟨dV, dus, rd, rdv, bnd⟩ := bind as.length kn pm ds h3 h4
  obtain ⟨k1, k2, k3, k4⟩ := kw_names (env := X.env) (pos := pos) h2
  -- the parts of the list
  obtain ⟨ca, cb, rfl, ha, hb⟩ : ∃ ca cb, cs = ca ++ cb ∧ cL gg as = some ca ∧ cL gg (ks.map (·.value)) = some cb := by
    clear h3 h4 bnd bind k4 k3 k2 k1 h2
    induction as generalizing cs with
    | nil => exact ⟨[], cs, rfl, rfl, h5⟩
    | cons e r ih =>
      rw [List.cons_append] at h5
      unfold cL at h5
      split at h5
      · rename_i c ds' e1 e2
        cases h5
        obtain ⟨ca, cb, e3, e4, e5⟩ := ih e2
        refine ⟨c :: ca, cb, by rw [e3]; rfl, ?_, e5⟩
        unfold cL
        rw [e1, e4]
      · cases h5
  obtain ⟨sa, sn, sl⟩ := a_list hg ha
  have sk := k_list (fun e c h => (hg e c h).1) hb
  refine ⟨fun pins s σ H Q I ⟨ι, ρ, A, rf, rh, po⟩ => ?_⟩
  unfold evE at po
  rw [toEs_append, Rs.assoc] at po
  have fin : ∀ {s2 : Shared} {H2 : Hp} {us ws : List Value} {vs zs : List V} {ι2 : List Addr} {A2 : IH} {iv iz : List IV}, L2.Inv X pins σ H2 s2 → Vals vs us → Vals zs ws → us.length = as.length → ws.length = kn.length → RVs L ι2 H2 iv vs → RVs L ι2 H2 iz zs → RH L ι2 H2 A2 →
      Po L (RV L) E ι2 H2 (C k (permute pm (iv ++ iz ++ ds)) A2) Q → wpAny (model X.prog X.w) X.A (call (.ref fa) us (kn.zip ws)) (EP X pins σ Q) X.xe s2 := fun {s2 H2 us ws vs zs ι2 A2 iv iz} I2 r rz l1 l2 rv rvz rh2 po2 =>
    run_fnl g F I2 (bnd s2 us ws I2.kIn l1 l2) (perm_vals ((r.append rz).append rd) pm) (perm_rvs ((rv.append rvz).append (rdv ι2 H2)) pm) rh2 po2
  refine wpAny_Call_Name_kw (ld_glob I (isGl_gl hgl) m1 ?_ nd)
  -- the keywords' values, then the call
  have rest : ∀ {s1 : Shared} {H1 : Hp} {us : List Value} {vs : List V} {ι1 : List Addr} {A1 : IH} {iv : List IV}, L2.Inv X pins σ H1 s1 → Vals vs us → RF L ι1 H1 ρ σ → RH L ι1 H1 A1 → RVs L ι1 H1 iv vs → iv.length = as.length →
      Po L (RV L) E ι1 H1 (((evEs P C (toEs cb) ρ A1).bind fun ws A => Rs.ok (iv ++ ws) A).bind fun vs A => C k (permute pm (vs ++ ds)) A) Q →
      wpAny (model X.prog X.w) X.A (evalAll ((backToKw pos (keywordEach ks X.env)).map (·.2))) (fun ws s₂ => X.K.In s₂.heap ∧ wpAny (model X.prog X.w) X.A (call (.ref fa) us (((backToKw pos (keywordEach ks X.env)).filterMap (·.1)).zip ws)) (EP X pins σ Q) X.xe s₂) X.xe s1 := fun {s1 H1 us vs ι1 A1 iv} I1 r1 rf1 rh1 rv1 li po1 => by
    rw [Rs.assoc] at po1
    refine thn (sk.run pos pins s1 σ H1 _ I1 ⟨ι1, ρ, A1, rf1, rh1, Po.bindE po1⟩) fun ws s2 ⟨zs, H2, I2, rz, ι2, A2, iz, eq2, e2, rh2, rv2, po2⟩ => ⟨I2.kIn, ?_⟩
    rw [k2]
    refine fin I2 r1 rz ?_ ?_ (rv1.mono e2) rv2 rh2 po2
    · rw [← r1.length, ← rv1.length, li]
    · have hlen := evEs_len eq2
      rw [← rz.length, ← rv2.length, hlen, ← k4]
      have := cL_len hb
      simpa using this.symm
  cases as with
  | nil =>
    refine PySem.W.callWith_KW0 (h₀ := X.base) (first := []) I.ok.mod.kin m2 k1 ?_ (by rw [k3]; rfl)
    have e : evEs P C (toEs ca) ρ A = .ok [] A := by
      have : ca = [] := by simpa using sl.symm
      subst this
      unfold toEs evEs
      rfl
    rw [e] at po
    exact rest (us := []) (iv := []) I .nil rf rh .nil rfl po
  | cons e r =>
    have hn := sn
    simp only [List.all_cons, Bool.and_eq_true] at hn
    refine PySem.W.callWith_KW (h₀ := X.base) (first := []) I.ok.mod.kin m2 k1 (thn (sa.run pos pins s σ H _ I ⟨ι, ρ, A, rf, rh, Po.bindE po⟩) fun us s1 ⟨vs, H1, I1, r1, ι1, A1, iv, eq1, e1, rh1, rv1, po1⟩ => ?_) (by rw [stars_none _ _ sn, k3]; rfl) (star_of hn.1 _ _)
    exact rest (us := us) (iv := iv) I1 r1 (rf.mono e1) rh1 rv1 ((evEs_len eq1).trans sl.symm) po1
end
end LF
set_option Elab.async false
set_option linter.all false
set_option maxHeartbeats 4000000
/-! isinstance, fields, the text's dicts; what is walked; comprehensions. -/
namespace LF
open PySem PySem.Spec PyProof.Rows L2
section
variable {X : Cx} {L : Lk} {P : Prg} {C : Cal} {G : Gx} {lv : Nat} {E : XK} {e e1 e2 e3 : Expr} {c c1 c2 c3 : CE} {pos : Pos}
theorem s_isi (g : Good X L P C G lv E) {x : Str} {t : Ty} {p q : Pos} (hgl : isGl X.env.scope "isinstance" = true) (hgt : isGl X.env.scope x = true) (ht : tyOf G x = some t) (h : SE X L P C E e c) (hn : noStar e = true) :
    SE X L P C E (.Call (.Name "isinstance" p) [e, .Name x q] [] pos) (.isi c t) := by
  obtain ⟨d1, d2, cu, cv, hr, hc, run⟩ := g.isi x t ht
  have hname : PE X (.Name x q) (tC cv) := by
    rcases hc with m | ⟨m, b⟩
    · exact pe_glob (isGl_gl hgt) m ((hr cu).mpr rfl) d1
    · exact pe_bltn (isGl_gl hgt) m b ((hr cu).mpr rfl) d2 d1
  have ha : PA X [e, .Name x q] (tCons (tE L E (RV L) (evE P C c)) (tCons (tC cv) tNil)) := pa_cons h (pa_cons hname pa_nil rfl) (star_of hn _ _)
  refine ⟨fun pins s σ H Q I ⟨ι, ρ, A, rf, rh, po⟩ => ?_⟩
  unfold evE at po
  refine wpAny_Call_Name_kw (ld_blt I (isGl_gl hgl) (g.blt _ (by decide)) (show bootBuiltins "isinstance" = some (.builtin "isinstance") by decide +kernel) ?_ (by decide) (by decide))
  have arg := ha.run pos pins s σ H (fun vs H1 => ∃ x, vs = [x, cv] ∧ ∃ ι1 A1 v, Ext ι H ι1 H1 ∧ RH L ι1 H1 A1 ∧ RV L ι1 H1 v x ∧ Po L (RV L) E ι1 H1 (optB (isI P v t) A1) Q) I
    ⟨ι, ρ, A, rf, rh, (Po.bind po).imp fun y H1 h1 => ⟨y, rfl, h1⟩⟩
  refine PyProof.Rows.callWith_builtin1 (thn arg fun us s1 ⟨vs, H1, I1, r1, y, ev, ι1, A1, v, e1, rh1, rv1, po1⟩ => ?_) (star_of hn _ _) (by rfl)
  subst ev
  obtain ⟨u1, u2, rfl, ru1, ru2⟩ := vals2 r1
  have := (hr u2).mp ru2
  subst this
  exact run X pins s1 σ H1 ι1 A1 v y u1 Q E rfl g.calm I1 ru1 rh1 rv1 po1
theorem s_att (g : Good X L P C G lv E) {f : Str} {k : Nat} (hk : G.fls[k]? = some f) (h : SE X L P C E e c) (hb : plainB e = true) : SE X L P C E (.Attribute e f pos) (.att c k) := by
  refine ⟨fun pins s σ H Q I ⟨ι, ρ, A, rf, rh, po⟩ => ?_⟩
  unfold evE at po
  refine attr_of (base_of hb _ _ _) (thn (h.run pins s σ H _ I ⟨ι, ρ, A, rf, rh, Po.bind po⟩) fun u s1 ⟨x, H1, I1, rx, ι1, A1, v, e1, rh1, rv1, po1⟩ => ?_)
  split at po1
  · rename_i D fs
    obtain ⟨z, ez, po2⟩ := po_optR po1
    obtain ⟨j, e1, e2⟩ := Option.bind_eq_some_iff.mp ez
    exact g.att k f hk X pins s1 σ H1 ι1 D j fs z x u Q _ rfl I1 rx rv1 e1 e2 fun w rw' => po2.now rh1 rw'
  · exact po1.elim
/-! ### the text's dicts -/
theorem s_gin (g : Good X L P C G lv E) {d : Str} {k : Nat} {q : Pos} (hgl : isGl X.env.scope d = true) (hk : ixOf d G.dts = some k) (h : SE X L P C E e c) : SE X L P C E (.Compare e [.In] [.Name d q] pos) (.gin k c) ∧ ST X L P C E (.Compare e [.In] [.Name d q] pos) (.gin k c) := by
  obtain ⟨nd, kvs, hd, dd, es, n, m, kd, look⟩ := g.dts k d (ixOf_get hk)
  have hname : PE X (.Name d q) (tC (.ref dd)) := pe_glob (isGl_gl hgl) m rfl nd
  have leaf : ∀ {σ : L2.St} {H : Hp} {Q : VK}, tE L E (RV L) (evE P C (.gin k c)) σ H Q →
      tOp (fun x y H Q => ∃ (z : Str) (r : Option Value), x = .str z ∧ y = .ref dd ∧ PySem.W.nsIn X.K dd z = some r ∧ Q (.bl r.isSome) H) (tE L E (RV L) (evE P C c)) (tC (.ref dd)) σ H Q := fun {σ H Q} ⟨ι, ρ, A, rf, rh, po⟩ => by
    unfold evE at po
    rw [hd] at po
    refine ⟨ι, ρ, A, rf, rh, (Po.bind po).imp fun x H1 ⟨ι1, A1, v, e1, rh1, rv1, po1⟩ => ?_⟩
    cases v <;> first | exact po1.elim | skip
    rename_i z
    obtain ⟨r, l1, l2⟩ := look z
    refine ⟨z, r, rv1, rfl, l1, ?_⟩
    have : r.isSome = (kvs.lookup z).isSome := by
      cases hz : kvs.lookup z with
      | none => rw [hz] at l2; rw [l2]; rfl
      | some iv => rw [hz] at l2; obtain ⟨u, _, rfl, _⟩ := l2; rfl
    rw [this]
    exact Po.now (show Po L (RV L) E ι1 H1 (.ok _ A1) Q from po1) rh1 rfl
  exact ⟨peImp (pe_cmpR (op_in_kd kd) h hname rfl) fun σ H Q => leaf, ptImp (pt_cmpR (op_in_kd kd) h hname rfl) fun σ H Q q => leaf (tE_bl q)⟩
theorem s_gix (g : Good X L P C G lv E) {d : Str} {k : Nat} {q : Pos} (hgl : isGl X.env.scope d = true) (hk : ixOf d G.dts = some k) (h : SE X L P C E e c) (hs : PlainIx e) : SE X L P C E (.Subscript (.Name d q) e pos) (.gix k c) := by
  obtain ⟨nd, kvs, hd, dd, es, n, m, kd, look⟩ := g.dts k d (ixOf_get hk)
  have hname : PE X (.Name d q) (tC (.ref dd)) := pe_glob (isGl_gl hgl) m rfl nd
  refine peImp (pe_ix ix_kdict hname h hs) fun σ H Q ⟨ι, ρ, A, rf, rh, po⟩ => ?_
  unfold evE at po
  rw [hd] at po
  refine ⟨ι, ρ, A, rf, rh, (Po.bind po).imp fun x H1 ⟨ι1, A1, v, e1, rh1, rv1, po1⟩ => ?_⟩
  cases v <;> first | exact po1.elim | skip
  rename_i z
  obtain ⟨iv, hz, po2⟩ := po_optR po1
  obtain ⟨r, l1, l2⟩ := look z
  rw [hz] at l2
  obtain ⟨u, v0, rfl, ru, rv⟩ := l2
  exact ⟨dd, z, v0, rfl, rv1, ⟨es, n, u, kd.at_, kd.lit, l1, ru⟩, po2.now rh1 (rv ι1 H1)⟩
theorem s_gget (g : Good X L P C G lv E) {d : Str} {k : Nat} {q ap : Pos} (hgl : isGl X.env.scope d = true) (hk : ixOf d G.dts = some k) (h1 : SE X L P C E e1 c1) (h2 : SE X L P C E e2 c2) (n1 : noStar e1 = true) (n2 : noStar e2 = true) (hl : (ap.endLine == pos.line) = true) :
    SE X L P C E (.Call (.Attribute (.Name d q) "get" ap) [e1, e2] [] pos) (.gget k c1 c2) := by
  obtain ⟨nd, kvs, hd, dd, es, n, m, kd, look⟩ := g.dts k d (ixOf_get hk)
  refine ⟨fun pins s σ H Q I ⟨ι, ρ, A, rf, rh, po⟩ => ?_⟩
  unfold evE at po
  have hall : ([e1, e2] : List Expr).all noStar = true := by simp [n1, n2]
  have trees : backTo pos (starEach [e1, e2] X.env) = [(false, eval e1 X.env), (false, eval e2 X.env)] := by
    rw [star_of n1, star_of n2]
    rfl
  refine wpAny_Call_method (base_of (by rfl) _ _ _) (few_of hall _ (by simp)) hl PySem.F.plainAttrs_dict PySem.F.slot_dict_get PySem.F.type_dict_get (ld_glob I (isGl_gl hgl) m ?_ nd)
  refine ⟨kd_type kd I, fun b eb => ?_, ?_⟩
  · cases eb
    exact ⟨_, I.kIn _ _ kd.at_, rfl⟩
  rw [trees]
  refine Calls.callWith_builtin rfl (Calls.evalArgs_plain (Calls.spliced_cons (thn (h1.run pins s σ H _ I ⟨ι, ρ, A, rf, rh, Po.bind po⟩) fun u s1 ⟨x, H1, I1, rx, ι1, A1, v, x1, rh1, rv1, po1⟩ =>
    Calls.spliced_cons (thn (h2.run pins s1 σ H1 _ I1 ⟨ι1, ρ, A1, rf.mono x1, rh1, Po.bind po1⟩) fun u2 s2 ⟨y, H2, I2, ry, ι2, A2, w, x2, rh2, rv2, po2⟩ => Calls.spliced_nil ?_))))
  rw [hd] at po2
  obtain ⟨z, rfl⟩ : ∃ z, v = .str z := by
    cases v <;> first | exact po2.elim | exact ⟨_, rfl⟩
  obtain rfl : x = V.str z := rv1
  obtain ⟨t, rfl⟩ := rx
  obtain ⟨r, l1, l2⟩ := look z
  refine call_meetsIn PySem.F.slot_dict_get (kd_type kd I2) PySem.F.entry_dict_get (PySem.F.args_dict_get_3 _ _ _) (meets_dict_get_default (strKind X.prog X.w) dd (strKind_is X.prog X.w z t) kd.low u2)
    ⟨_, PySem.W.mapOf_K (prog := X.prog) I2.kIn kd.at_ kd.lit, ?_⟩
  rw [PySem.W.find_K kd.at_ l1]
  have po3 : Po L (RV L) E ι2 H2 (.ok ((kvs.lookup z).getD w) A2) Q := po2
  cases hz : kvs.lookup z with
  | none =>
    rw [hz] at l2 po3
    subst l2
    exact ⟨y, H2, I2.tok _, ry, po3.now rh2 rv2⟩
  | some iv =>
    rw [hz] at l2 po3
    obtain ⟨u3, v3, rfl, ru, rv⟩ := l2
    exact ⟨v3, H2, I2.tok _, ru, po3.now rh2 (rv ι2 H2)⟩
/-! ### what is walked -/
abbrev SQ (X : Cx) (L : Lk) (P : Prg) (C : Cal) (E : XK) (tg e : Expr) (s : CSrc) : Prop := PI X tg e (tE L E (RQ L) (evQ P C s))
theorem fold_of (h : noSet e = true) (env : Env) (x : Value) : foldedSetIterable e env x = pure x := by
  cases e <;> first | rfl | cases h
theorem q_val (g : Good X L P C G lv E) {tg : Expr} (h : SE X L P C E e c) : SQ X L P C E tg e (.val c) := by
  refine ⟨fun pins s σ H R I ⟨ι, ρ, A, rf, rh, po⟩ => ?_⟩
  unfold evQ at po
  cases hr : evE P C c ρ A with
  | bad => rw [hr] at po; exact po.elim
  | ex D fs B =>
    rw [hr] at po
    refine (pi_list h).run pins s σ H R I ⟨ι, ρ, A, rf, rh, ?_⟩
    rw [hr]
    exact po
  | ok v A1 =>
    rw [hr] at po
    cases v with
    | tup xs =>
      refine (pi_tup h).run pins s σ H R I ⟨ι, ρ, A, rf, rh, ?_⟩
      rw [hr]
      intro ι' H' w e' rh' rv
      obtain ⟨a, ws, rfl, hs, rs⟩ := rv
      rw [← g.K]
      exact ⟨a, rfl, ⟨ws, hs⟩, Po.at_ (show Po L (RQ L) E ι H (.ok (.fix xs) A1) R from po) e' rh' (.inl ⟨a, ws, rfl, hs, rs⟩)⟩
    | str z =>
      refine (pi_str h).run pins s σ H R I ⟨ι, ρ, A, rf, rh, ?_⟩
      rw [hr]
      intro ι' H' w e' rh' rv
      exact ⟨z, rv, Po.at_ (show Po L (RQ L) E ι H (.ok (.fix (signL z)) A1) R from po) e' rh' (.inr (.inl ⟨z, rfl, rfl⟩))⟩
    | ref n =>
      have po : Po L (RQ L) E ι H (if (listOf A1 n).isSome then .ok (.live n) A1 else .bad) R := po
      split at po
      · rename_i hl
        obtain ⟨xs, hx⟩ := Option.isSome_iff_exists.mp hl
        refine (pi_list h).run pins s σ H R I ⟨ι, ρ, A, rf, rh, ?_⟩
        rw [hr]
        intro ι' H' w e' rh' rv
        obtain ⟨a, rfl, ha⟩ := rv
        obtain ⟨ws, hs, _⟩ := rh'.sqL ha hx
        rw [← g.K]
        exact ⟨a, rfl, ⟨ws, hs⟩, Po.at_ po e' rh' ⟨a, rfl, ha⟩⟩
      · exact po.elim
    | non => exact False.elim po
    | bl b => exact False.elim po
    | int i => exact False.elim po
    | exc D fs => exact False.elim po
    | glo k => exact False.elim po
theorem q_rng (g : Good X L P C G lv E) {tg : Expr} {p : Pos} (hgl : isGl X.env.scope "range" = true) (h : SE X L P C E e c) (hn : noStar e = true) : SQ X L P C E tg (.Call (.Name "range" p) [e] [] pos) (.rng c) := by
  have ha : PA X [e] (tCons (tE L E (RV L) (evE P C c)) tNil) := pa_cons h pa_nil (star_of hn _ _)
  refine ⟨fun pins s σ H R I ⟨ι, ρ, A, rf, rh, po⟩ => (pi_range1 (isGl_gl hgl) (g.blt _ (by decide)) ha (star_of hn _ _)).run pins s σ H R I ?_⟩
  unfold evQ at po
  refine ⟨ι, ρ, A, rf, rh, (Po.bind po).imp fun x H1 ⟨ι1, A1, v, e1, rh1, rv1, po1⟩ => ?_⟩
  split at po1
  · rename_i n
    split at po1
    · rename_i hl
      exact ⟨n, by rw [show x = _ from rv1], hl.2, hl.1, po1.now rh1 (.inr (.inr ⟨n.toNat, rfl, rfl⟩))⟩
    · exact po1.elim
  · exact po1.elim
theorem q_enum (g : Good X L P C G lv E) {elts : List Expr} {kk : Nat} {tpos p : Pos} (hgl : isGl X.env.scope "enumerate" = true) (h : SE X L P C E e c) (hn : noStar e = true) :
    SQ X L P C E (.Tuple elts kk tpos) (.Call (.Name "enumerate" p) [e] [] pos) (.enum c) := by
  have ha : PA X [e] (tCons (tE L E (RV L) (evE P C c)) tNil) := pa_cons h pa_nil (star_of hn _ _)
  refine ⟨fun pins s σ H R I ⟨ι, ρ, A, rf, rh, po⟩ => (pi_enum (isGl_gl hgl) (g.blt _ (by decide)) ha (star_of hn _ _)).run pins s σ H R I ?_⟩
  unfold evQ at po
  refine ⟨ι, ρ, A, rf, rh, (Po.bind po).imp fun x H1 ⟨ι1, A1, v, e1, rh1, rv1, po1⟩ => ?_⟩
  split at po1
  · rename_i n
    split at po1
    · rename_i hl
      obtain ⟨xs, hx⟩ := Option.isSome_iff_exists.mp hl
      obtain ⟨a, rfl, ha⟩ := rv1
      obtain ⟨ws, hs, _⟩ := rh1.sqL ha hx
      rw [← g.K]
      exact ⟨a, ws, rfl, hs, po1.now rh1 ⟨a, rfl, ha⟩⟩
    · exact po1.elim
  · exact po1.elim
/-! ### a comprehension -/
theorem wipeF_len (ρ : Fr) : ∀ vs : List Nat, (wipeF ρ vs).length = ρ.length
  | [] => rfl
  | v :: vs => by unfold wipeF; rw [List.length_set, wipeF_len ρ vs]
theorem wipe_get {σ : L2.St} {i : Nat} : ∀ {vs : List Nat}, (L2.wipe σ vs)[i]? = if i ∈ vs then σ[i]?.map (fun _ => none) else σ[i]?
  | [] => by simp [L2.wipe]
  | v :: vs => by
    unfold L2.wipe
    by_cases hi : v = i
    · subst hi
      rw [if_pos List.mem_cons_self]
      rw [List.getElem?_set]
      simp only [if_true]
      by_cases hl : v < (L2.wipe σ vs).length
      · rw [if_pos hl]
        rw [wipe_length] at hl
        rw [List.getElem?_eq_getElem hl]
        rfl
      · rw [if_neg hl]
        rw [wipe_length] at hl
        rw [List.getElem?_eq_none (Nat.le_of_not_lt hl)]
        rfl
    · rw [List.getElem?_set_ne hi, wipe_get]
      by_cases hm : i ∈ vs
      · rw [if_pos hm, if_pos (List.mem_cons_of_mem _ hm)]
      · rw [if_neg hm, if_neg (fun z => by
          rcases List.mem_cons.mp z with e | e
          · exact hi e.symm
          · exact hm e)]
theorem wipe_idem {σ : L2.St} {vs : List Nat} : L2.wipe (L2.wipe σ vs) vs = L2.wipe σ vs := by
  refine List.ext_getElem? fun i => ?_
  rw [wipe_get, wipe_get]
  by_cases h : i ∈ vs
  · simp only [if_pos h, Option.map_map]
    rfl
  · simp only [if_neg h]
theorem RF.none {ι : List Addr} {H : Hp} {ρ : Fr} {σ : L2.St} (h : RF L ι H ρ σ) (i : Nat) : RF L ι H (ρ.set i none) (σ.set i none) := by
  refine ⟨by simp [h.1], fun j v q => ?_⟩
  by_cases hj : i = j
  · subst hj
    by_cases hl : i < ρ.length
    · rw [List.getElem?_set_self hl] at q
      cases q
    · rw [List.getElem?_eq_none (by simpa using hl)] at q
      cases q
  · rw [List.getElem?_set_ne hj] at q ⊢
    exact h.2 j v q
theorem RF.wipe {ι : List Addr} {H : Hp} {ρ : Fr} {σ : L2.St} (h : RF L ι H ρ σ) : ∀ vs : List Nat, RF L ι H (wipeF ρ vs) (L2.wipe σ vs)
  | [] => h
  | v :: vs => by
    unfold wipeF L2.wipe
    exact (RF.wipe h vs).none v
/-- a clause's test -/
abbrev SC (X : Cx) (L : Lk) (P : Prg) (C : Cal) (E : XK) (ifs : List Expr) (c : CO) : Prop := PTs X ifs (tE L E RB (evT P C c))
theorem c_no : SC X L P C E [] .no := ⟨fun pins s σ H Q I ⟨ι, ρ, A, rf, rh, po⟩ => pts_nil.run pins s σ H Q I (by unfold evT at po; exact po.now rh rfl)⟩
theorem c_some (h : ST X L P C E e c) : SC X L P C E [e] (.some c) := ⟨fun pins s σ H Q I ⟨ι, ρ, A, rf, rh, po⟩ => (pts_one h).run pins s σ H Q I ⟨ι, ρ, A, rf, rh, by unfold evT at po; exact po⟩⟩
theorem s_lc (g : Good X L P C G lv E) {elt tg iter : Expr} {ifs : List Expr} {scope : Scope} {own : List (Str × Nat)} {ce : CE} {t : TG} {sc : CSrc} {co : CO} (hb : BlkOk X.N X.env.scope scope own) (hi : SQ X L P C E tg iter sc) (hset : noSet iter = true)
    (ht : ∀ B, IsBlk X scope E B → PG B tg (tTg L t)) (hc : ∀ B, IsBlk X scope E B → SC B L P C E ifs co) (he : ∀ B, IsBlk X scope E B → SE B L P C E elt ce) (hin : tgIn (own.map (·.2)) t) :
    (∀ σ H Q, tE L E (RV L) (evE P C (.lc ce t sc co (own.map (·.2)))) σ H Q → tLc (tE L E (RQ L) (evQ P C sc)) (tTg L t) (tE L E RB (evT P C co)) (tE L E (RV L) (evE P C ce)) (own.map (·.2)) σ H Q) ∧
    SE X L P C E (.ListComp elt [⟨tg, iter, ifs, 0⟩] scope pos) (.lc ce t sc co (own.map (·.2))) := by
  have read : ∀ σ H Q, tE L E (RV L) (evE P C (.lc ce t sc co (own.map (·.2)))) σ H Q → tLc (tE L E (RQ L) (evQ P C sc)) (tTg L t) (tE L E RB (evT P C co)) (tE L E (RV L) (evE P C ce)) (own.map (·.2)) σ H Q := fun σ H Q ⟨ι, ρ, A, rf, rh, po⟩ => by
    generalize own.map (·.2) = vs at hin po ⊢
    unfold evE at po
    refine ⟨ι, ρ, A, rf, rh, (Po.bind (R := RQ L) po).imp fun J H1 ⟨ι1, A1, q, x1, rh1, rq1, po1⟩ D hD => ?_⟩
    generalize hf : (fun x A => match stG A t x (wipeF ρ vs) with
      | none => (.bad : Rs (Option IV))
      | some ρ' => (evT P C co ρ' A).bind fun b A => if b = true then (evE P C ce ρ' A).bind fun y A => .ok (some y) A else .ok none A) = f at po1
    have x2 : Ext ι1 H1 (ι1 ++ [D]) (upd H1 D (.lst [])) := Ext.new hD
    have hdl : (ι1 ++ [D])[A1.length]? = some D := by rw [← rh1.len]; simp
    refine ⟨fun i m H => ∃ ι A, RF L ι H ρ σ ∧ RH L ι H A ∧ RQ L ι H q J ∧ ι[A1.length]? = some D ∧ Po L (RV L) E ι H (lcGo f q A1.length m i A) Q, ⟨LIM + 1, ι1 ++ [D], A1 ++ [.lst []], (rf.mono x1).mono x2, rh1.newL hD .nil, rq1.mono x2, hdl, po1.base x2⟩, ?_⟩
    rintro i m H ⟨ι, A, rf, rh, rq, hd, po⟩
    cases m with
    | zero => exact False.elim po
    | succ m =>
      unfold lcGo at po
      cases hq : q.item i A with
      | none => rw [hq] at po; exact False.elim po
      | some o =>
        rw [hq] at po
        cases o with
        | none => exact .inl ⟨walk_stop rh rq hq, po.now rh ⟨D, rfl, hd⟩⟩
        | some x =>
          obtain ⟨go, yl⟩ := walk_go rh rq hq
          refine .inr ⟨go, fun H => ∃ ι A, RF L ι H ρ σ ∧ RH L ι H A ∧ RQ L ι H q J ∧ ι[A1.length]? = some D ∧ Po L (RV L) E ι H (lcGo f q A1.length m (i + 1) A) Q, fun H' w => ⟨m, Nat.lt_succ_self m, w⟩, fun x' H' y => ?_⟩
          obtain ⟨x3, rh3, rv3⟩ := yl x' H' y
          have po3 : Po L (RV L) E ι H' ((f x A).bind fun r A' => match r with
            | none => lcGo f q A1.length m (i + 1) A'
            | some y => match A'[A1.length]? with
              | some (.lst acc) => if acc.length < LIM then lcGo f q A1.length m (i + 1) (A'.set A1.length (.lst (acc ++ [y]))) else .bad
              | _ => .bad) Q := Po.base po x3
          rw [← hf] at po3
          dsimp only at po3
          cases hs : stG A t x (wipeF ρ vs) with
          | none => rw [hs] at po3; exact False.elim po3
          | some ρ' =>
            rw [hs] at po3
            refine ⟨ι, x, A, wipeF ρ vs, ρ', rv3, (rf.mono x3).wipe vs, rh3, hs, fun σ2 ⟨rf2, hw2⟩ => ⟨hw2 vs hin |>.trans ?_, ?_⟩⟩
            · exact wipe_idem
            · have po4 := po3
              rw [hf] at po4
              dsimp only at po3
              rw [Rs.assoc] at po3
              refine ⟨ι, ρ', A, rf2, rh3, (Po.bind (R := RB) po3).imp fun b H4 ⟨ι4, A4, b', x4, rh4, eb, po5⟩ => ?_⟩
              cases eb
              have rf4 : RF L ι4 H4 ρ σ := (rf.mono x3).mono x4
              have rq4 : RQ L ι4 H4 q J := (rq.mono x3).mono x4
              cases b with
              | false =>
                simp only [Bool.false_eq_true, if_false] at po5 ⊢
                rw [hf] at po5
                exact ⟨ι4, A4, rf4, rh4, rq4, x4.get hd, po5⟩
              | true =>
                simp only [if_true] at po5 ⊢
                rw [Rs.assoc] at po5
                refine ⟨ι4, ρ', A4, rf2.mono x4, rh4, (Po.bind po5).imp fun y H5 ⟨ι5, A5, v, x5, rh5, rv5, po6⟩ => ?_⟩
                have hd5 := x5.get (x4.get hd)
                have po6 : Po L (RV L) E ι5 H5 (match A5[A1.length]? with
                  | some (.lst acc) => if acc.length < LIM then lcGo _ q A1.length m (i + 1) (A5.set A1.length (.lst (acc ++ [v]))) else .bad
                  | _ => .bad) Q := po6
                rw [hf] at po6
                split at po6
                · rename_i acc ha
                  split at po6
                  · rename_i hl
                    obtain ⟨ws, h1, h2⟩ := rh5.lst hd5 ha
                    refine ⟨ws, h1, by rw [← h2.length]; exact lim_lt hl, ι5, A5.set A1.length (.lst (acc ++ [v])), (rf4.mono x5).mono (Ext.put h1 fun z => z), rh5.putL hd5 h1 (h2.append (.cons rv5 .nil)), (rq4.mono x5).mono (Ext.put h1 fun z => z), hd5, po6.base (Ext.put h1 fun z => z)⟩
                  · exact po6.elim
                · exact po6.elim
  exact ⟨read, peImp (pe_lcX g.air g.calm g.nd hi hb ht hc he (fold_of hset _)) read⟩
end
end LF
set_option Elab.async false
set_option linter.all false
set_option maxHeartbeats 8000000
set_option maxRecDepth 100000
/-! What is compiled is sound: expressions. -/
namespace LF
open PySem PySem.Spec PyProof.Rows L2
theorem bopOf_op {op : Operator} {o : Bop} (h : bopOf op = some o) : opB o = op := by
  cases op <;> first | (cases h; done) | (cases h; rfl)
theorem copOf_op (op : CmpOp) : opC (copOf op) = op := by cases op <;> rfl
theorem comp_form {G : Gx} {N : List Str} {n : Nat} {sd : Bool} {sc : Scope} {e : Expr} {c : CE} (h : comp G N n sd sc e = some c) : noStar e = true ∧ noSet e = true ∧ PlainIx e := by
  cases n with
  | zero => unfold comp at h; cases h
  | succ n => cases e <;> first | exact ⟨rfl, rfl, fun _ _ => rfl⟩ | (unfold comp at h; cases h)
theorem toEs_nil {cs : List CE} {es : List Expr} (h : es.length = cs.length) (e : es = []) : toEs cs = .nil := by
  subst e
  have : cs = [] := by simpa using h.symm
  subst this
  rfl
section
variable {L : Lk} {P : Prg} {C : Cal} {G : Gx} {lv : Nat}
/-- 'said': a call of a lambda, its refusals told -/
def SaidR (L : Lk) (P : Prg) (C : Cal) (G : Gx) (lv : Nat) (SD : Cx → Prop) : Prop := ∀ n, (∀ X E, Good X L P C G lv E → ∀ e c, comp G X.N n false X.env.scope e = some c → SE X L P C E e c) →
  ∀ X E, Good X L P C G lv E → SD X → ∀ a b ls lp p pos c, isGl X.env.scope G.said = true → noArgs a = true → LamX.lamSB X.env.scope ls = true → comp G X.N n false ls b = some c → SE X L P C E (.Call (.Name G.said p) [.Lambda a b ls lp] [] pos) (.said c)
abbrev Tri (X : Cx) (L : Lk) (P : Prg) (C : Cal) (E : XK) (e : Expr) (c : CE) : Prop := SE X L P C E e c ∧ ST X L P C E e c ∧ ∀ op vs p, e = .BoolOp op vs p → SW X L P C E e c
theorem tri_val {X : Cx} {E : XK} {e : Expr} {c : CE} (h : SE X L P C E e c) (he : ∀ whole, isTrue e X.env whole = (do let v ← whole; standAt e.pos; holding [v] (truthy v))) (hn : ∀ op vs p, e ≠ .BoolOp op vs p) : Tri X L P C E e c :=
  ⟨h, t_val h he, fun op vs p q => absurd q (hn op vs p)⟩
/-- what a source may be -/
theorem src_sound {X : Cx} {E : XK} (g : Good X L P C G lv E) {gg : Expr → Option CE} (hg : ∀ e c, gg e = some c → SE X L P C E e c ∧ noStar e = true ∧ noSet e = true) {t i : Expr} {s : CSrc} (h : cSrc gg X.env.scope (isTup t) i = some s) : SQ X L P C E t i s ∧ noSet i = true := by
  unfold cSrc at h
  split at h
  · rename_i x p e q
    split at h
    · rename_i hx
      obtain ⟨c, hc, rfl⟩ := Option.map_eq_some_iff.mp h
      obtain ⟨rfl, hgl⟩ := hx
      exact ⟨q_rng g hgl (hg _ _ hc).1 (hg _ _ hc).2.1, rfl⟩
    · split at h
      · rename_i hx
        obtain ⟨c, hc, rfl⟩ := Option.map_eq_some_iff.mp h
        obtain ⟨rfl, hgl, ht⟩ := hx
        cases t <;> first | (cases ht; done) | exact ⟨q_enum g hgl (hg _ _ hc).1 (hg _ _ hc).2.1, rfl⟩
      · obtain ⟨c, hc, rfl⟩ := Option.map_eq_some_iff.mp h
        exact ⟨q_val g (hg _ _ hc).1, rfl⟩
  · obtain ⟨c, hc, rfl⟩ := Option.map_eq_some_iff.mp h
    exact ⟨q_val g (hg _ _ hc).1, (hg _ _ hc).2.2⟩
theorem cO_sound {X : Cx} {E : XK} {gg : Expr → Option CE} (hg : ∀ e c, gg e = some c → SE X L P C E e c) {o : Option Expr} {c : CO} (h : cO gg o = some c) : SO X L P C E o c := by
  cases o with
  | none => cases h; exact o_no
  | some e =>
    unfold cO at h
    obtain ⟨c, hc, rfl⟩ := Option.map_eq_some_iff.mp h
    exact o_some (hg _ _ hc)
/-- the own names hold the target's -/
theorem own_mem {N : List Str} {x : Str} {i : Nat} (hi : ixOf x N = some i) : ∀ {names : List (Str × NameKind)} {k : NameKind}, (k = .local ∨ k = .cell) → (x, k) ∈ names → (x, i) ∈ ownOf N names
  | (y, k') :: r, k, hk, h => by
    rcases List.mem_cons.mp h with e | h
    · cases e
      rcases hk with rfl | rfl
      · unfold ownOf
        rw [hi]
        exact List.mem_cons_self
      · unfold ownOf
        rw [hi]
        exact List.mem_cons_self
    · have ih := own_mem hi hk h
      cases k' <;> unfold ownOf <;> first | exact ih | (split <;> first | exact List.mem_cons_of_mem _ ih | exact ih)
mutual
theorem tg_own {N : List Str} {ls : Scope} : ∀ {e : Expr} {t : TG}, cTg N ls e = some t → tgIn ((ownOf N ls.names).map (·.2)) t
  | .Name x p, t, h => by
    unfold cTg at h
    split at h
    · rename_i hl
      obtain ⟨i, hi, rfl⟩ := Option.map_eq_some_iff.mp h
      unfold tgIn
      rcases isLoc_or hl with z | z
      · exact List.mem_map.mpr ⟨(x, i), own_mem hi (.inl rfl) (PySem.mem_of_lookup z), rfl⟩
      · exact List.mem_map.mpr ⟨(x, i), own_mem hi (.inr rfl) (PySem.mem_of_lookup z), rfl⟩
    · cases h
  | .Tuple es k p, t, h => by
    unfold cTg at h
    obtain ⟨ts, h1, rfl⟩ := Option.map_eq_some_iff.mp h
    unfold tgIn
    exact tgs_own h1
  | .Constant .., t, h => by unfold cTg at h; cases h
  | .BoolOp .., t, h => by unfold cTg at h; cases h
  | .NamedExpr .., t, h => by unfold cTg at h; cases h
  | .BinOp .., t, h => by unfold cTg at h; cases h
  | .UnaryOp .., t, h => by unfold cTg at h; cases h
  | .Subscript .., t, h => by unfold cTg at h; cases h
  | .Attribute .., t, h => by unfold cTg at h; cases h
  | .Starred .., t, h => by unfold cTg at h; cases h
  | .List .., t, h => by unfold cTg at h; cases h
  | .Dict .., t, h => by unfold cTg at h; cases h
  | .Set .., t, h => by unfold cTg at h; cases h
  | .Call .., t, h => by unfold cTg at h; cases h
  | .Compare .., t, h => by unfold cTg at h; cases h
  | .IfExp .., t, h => by unfold cTg at h; cases h
  | .Lambda .., t, h => by unfold cTg at h; cases h
  | .ListComp .., t, h => by unfold cTg at h; cases h
  | .SetComp .., t, h => by unfold cTg at h; cases h
  | .DictComp .., t, h => by unfold cTg at h; cases h
  | .GeneratorExp .., t, h => by unfold cTg at h; cases h
  | .Slice .., t, h => by unfold cTg at h; cases h
  | .Await .., t, h => by unfold cTg at h; cases h
  | .Yield .., t, h => by unfold cTg at h; cases h
  | .YieldFrom .., t, h => by unfold cTg at h; cases h
  | .JoinedStr .., t, h => by unfold cTg at h; cases h
  | .FormattedValue .., t, h => by unfold cTg at h; cases h
theorem tgs_own {N : List Str} {ls : Scope} : ∀ {es : List Expr} {ts : List TG}, cTgs N ls es = some ts → tgsIn ((ownOf N ls.names).map (·.2)) ts
  | [], ts, h => by
    unfold cTgs at h
    cases h
    unfold tgsIn
    trivial
  | e :: r, ts, h => by
    unfold cTgs at h
    split at h
    · rename_i t us e1 e2
      cases h
      unfold tgsIn
      exact ⟨tg_own e1, tgs_own e2⟩
    · cases h
end
/-- a block's own names may be stored -/
theorem stok_blk {X : Cx} {E : XK} {ls : Scope} {B : Cx} (b : IsBlk X ls E B) : StOk B ls := by
  obtain ⟨_, s, H, c, cl, fp, xe, rfl⟩ := b
  refine ⟨fun x h => ?_, fun x h => ⟨?_, ?_⟩⟩
  · exact lookup_relS_keep (sc := X.env.scope) (by decide) h
  · exact lookup_relS_keep (sc := X.env.scope) (by decide) h
  · show (ls.names.lookup x == some NameKind.cell) = true
    rw [h]
    rfl
theorem blk_scope {X : Cx} {E : XK} {ls : Scope} {B : Cx} (b : IsBlk X ls E B) : B.env.scope = relS ls X.env.scope ∧ B.N = X.N := by
  obtain ⟨_, s, H, c, cl, fp, xe, rfl⟩ := b
  exact ⟨rfl, rfl⟩
theorem call_sound {X : Cx} {E : XK} (g : Good X L P C G lv E) {gg : Expr → Option CE} (hg : ∀ e c, gg e = some c → SE X L P C E e c ∧ noStar e = true) {gl : Scope → Expr → Option CE} {sd : Bool}
    (hsaid : sd = true → ∀ a b ls lp p pos c, isGl X.env.scope G.said = true → noArgs a = true → LamX.lamSB X.env.scope ls = true → gl ls b = some c → SE X L P C E (.Call (.Name G.said p) [.Lambda a b ls lp] [] pos) (.said c)) {x : Str} {as : List Expr} {ks : List Keyword} {p pos : Pos} {c : CE}
    (h : cCall G gg gl sd X.env.scope x as ks = some c) : SE X L P C E (.Call (.Name x p) as ks pos) c := by
  unfold cCall at h
  split at h
  · cases h
  · rename_i hgl
    have hgl : isGl X.env.scope x = true := by simpa using hgl
    split at h
    · rename_i ex
      subst ex
      split at h
      · rename_i e t q
        split at h
        · rename_i hgt
          split at h
          · rename_i cc ty e1 e2
            cases h
            exact s_isi g hgl hgt e2 (hg _ _ e1).1 (hg _ _ e1).2
          · cases h
        · cases h
      · cases h
    · split at h
      · rename_i ex
        subst ex
        split at h
        · cases h
        · rename_i hsd
          split at h
          · rename_i a b ls lp
            split at h
            · rename_i hn
              obtain ⟨cc, hc, rfl⟩ := Option.map_eq_some_iff.mp h
              exact hsaid (by simpa using hsd) a b ls lp p pos cc hgl (Bool.and_eq_true_iff.mp hn).1 (Bool.and_eq_true_iff.mp hn).2 hc
            · cases h
          · cases h
      · split at h
        · rename_i b hb
          split at h
          · rename_i hk
            obtain ⟨cs, hc, rfl⟩ := Option.map_eq_some_iff.mp h
            have : ks = [] := by simpa using hk
            subst this
            obtain ⟨i1, i2, i3⟩ := a_list hg hc
            exact s_bi g hgl hb i1 i2 (toEs_nil i3)
          · cases h
        · split at h
          · rename_i k f kn e1 e2
            split at h
            · cases h
            · rename_i hs
              split at h
              · rename_i pm ds cs e3 e4
                cases h
                exact s_call g hg hgl e1 e2 (by simpa using hs) e3 e4
              · cases h
          · cases h
theorem comp_sound {SD : Cx → Prop} (said : SaidR L P C G lv SD) : ∀ (n : Nat) (sd : Bool) (X : Cx) (E : XK) (e : Expr) (c : CE), Good X L P C G lv E → (sd = true → SD X) → comp G X.N n sd X.env.scope e = some c → Tri X L P C E e c
  | 0, sd, X, E, e, c, g, hd, h => by unfold comp at h; cases h
  | n + 1, sd, X, E, e, c, g, hd, h => by
    have ih := comp_sound said n
    have gg : ∀ e c, comp G X.N n sd X.env.scope e = some c → SE X L P C E e c ∧ noStar e = true := fun e c q => ⟨(ih sd X E e c g hd q).1, (comp_form q).1⟩
    have g3 : ∀ e c, comp G X.N n sd X.env.scope e = some c → SE X L P C E e c ∧ noStar e = true ∧ noSet e = true := fun e c q => ⟨(ih sd X E e c g hd q).1, (comp_form q).1, (comp_form q).2.1⟩
    have g1 : ∀ e c, comp G X.N n sd X.env.scope e = some c → SE X L P C E e c := fun e c q => (ih sd X E e c g hd q).1
    have tt : ∀ e c, comp G X.N n sd X.env.scope e = some c → ST X L P C E e c := fun e c q => (ih sd X E e c g hd q).2.1
    have blk : ∀ (ls : Scope) (B : Cx), IsBlk X ls E B → ∀ e c, comp G X.N n false (L2.relS ls X.env.scope) e = some c → Tri B L P C E e c := fun ls B b e c q => by
      obtain ⟨b1, b2⟩ := blk_scope b
      exact ih false B E e c (g.blk b) (fun z => by cases z) (by rw [b1, b2]; exact q)
    unfold comp at h
    split at h
    · -- a constant
      split at h
      · cases h; exact tri_val s_non (fun _ => rfl) (fun _ _ _ => nofun)
      · cases h; exact tri_val s_bl (fun _ => rfl) (fun _ _ _ => nofun)
      · cases h; exact tri_val s_int (fun _ => rfl) (fun _ _ _ => nofun)
      · cases h; exact tri_val s_str (fun _ => rfl) (fun _ _ _ => nofun)
      · cases h
    · -- a name
      refine tri_val ?_ (fun _ => rfl) (fun _ _ _ => nofun)
      split at h
      · rename_i hv
        obtain ⟨i, hi, rfl⟩ := Option.map_eq_some_iff.mp h
        exact s_var g hv hi
      · split at h
        · rename_i hgl
          obtain ⟨i, hi, rfl⟩ := Option.map_eq_some_iff.mp h
          exact s_gco g hgl hi
        · cases h
    · obtain ⟨cs, hc, rfl⟩ := Option.map_eq_some_iff.mp h
      exact tri_val (s_tup (a_list gg hc).1) (fun _ => rfl) (fun _ _ _ => nofun)
    · obtain ⟨cs, hc, rfl⟩ := Option.map_eq_some_iff.mp h
      exact tri_val (s_lst (a_list gg hc).1) (fun _ => rfl) (fun _ _ _ => nofun)
    · split at h
      · cases h
      · rename_i hk
        split at h
        · rename_i xs cs e1 e2
          cases h
          exact tri_val (s_dct g1 e1 e2 (by omega) (by omega)) (fun _ => rfl) (fun _ _ _ => nofun)
        · cases h
    · split at h
      · rename_i o x y e1 e2 e3
        cases h
        have := bopOf_op e1
        subst this
        exact tri_val (s_bin g o (g1 _ _ e2) (g1 _ _ e3)) (fun _ => rfl) (fun _ _ _ => nofun)
      · cases h
    · obtain ⟨x, hc, rfl⟩ := Option.map_eq_some_iff.mp h
      exact tri_val (s_neg (g1 _ _ hc)) (fun _ => rfl) (fun _ _ _ => nofun)
    · obtain ⟨x, hc, rfl⟩ := Option.map_eq_some_iff.mp h
      exact ⟨s_not (g1 _ _ hc), t_not (tt _ _ hc), fun _ _ _ => nofun⟩
    · rename_i a b pp
      split at h
      · rename_i x y e1 e2
        cases h
        have w := w_and (tt _ _ e1) (pw_and1 (pos := pp) (tt _ _ e2))
        exact ⟨s_and (g1 _ _ e1) (pe_one (g1 _ _ e2)), w.pt, fun _ _ _ _ => w⟩
      · cases h
    · split at h
      · rename_i x y e1 e2
        cases h
        have t2 := ih sd X E _ _ g hd e2
        have w := w_and (tt _ _ e1) (t2.2.2 _ _ _ rfl)
        exact ⟨s_and (g1 _ _ e1) t2.1, w.pt, fun _ _ _ _ => w⟩
      · cases h
    · rename_i a b pp
      split at h
      · rename_i x y e1 e2
        cases h
        have w := w_or (tt _ _ e1) (pw_or1 (pos := pp) (tt _ _ e2))
        exact ⟨s_or (g1 _ _ e1) (pe_one (g1 _ _ e2)), w.pt, fun _ _ _ _ => w⟩
      · cases h
    · split at h
      · rename_i x y e1 e2
        cases h
        have t2 := ih sd X E _ _ g hd e2
        have w := w_or (tt _ _ e1) (t2.2.2 _ _ _ rfl)
        exact ⟨s_or (g1 _ _ e1) t2.1, w.pt, fun _ _ _ _ => w⟩
      · cases h
    · split at h
      · rename_i z x y e1 e2 e3
        cases h
        exact ⟨s_ite (tt _ _ e1) (g1 _ _ e2) (g1 _ _ e3), t_ite (tt _ _ e1) (tt _ _ e2) (tt _ _ e3), fun _ _ _ => nofun⟩
      · cases h
    · -- x in d
      rename_i a op d p q
      split at h
      · rename_i hx
        obtain ⟨rfl, hgl, _⟩ := hx
        split at h
        · rename_i k x e1 e2
          cases h
          obtain ⟨i1, i2⟩ := s_gin g hgl e1 (g1 _ _ e2)
          exact ⟨i1, i2, fun _ _ _ => nofun⟩
        · cases h
      · split at h
        · rename_i x y e1 e2
          cases h
          have i1 := s_cmp (pos := q) g (copOf op) (g1 _ _ e1) (g1 _ _ e2) (comp_form e2).2.1
          have i2 := t_cmp (pos := q) g (copOf op) (g1 _ _ e1) (g1 _ _ e2) (comp_form e2).2.1
          rw [copOf_op] at i1 i2
          exact ⟨i1, i2, fun _ _ _ => nofun⟩
        · cases h
    · rename_i a op b q _
      split at h
      · rename_i x y e1 e2
        cases h
        have i1 := s_cmp (pos := q) g (copOf op) (g1 _ _ e1) (g1 _ _ e2) (comp_form e2).2.1
        have i2 := t_cmp (pos := q) g (copOf op) (g1 _ _ e1) (g1 _ _ e2) (comp_form e2).2.1
        rw [copOf_op] at i1 i2
        exact ⟨i1, i2, fun _ _ _ => nofun⟩
      · cases h
    · rename_i a op op' b c' q
      split at h
      · rename_i x y z e1 e2 e3
        cases h
        have i1 := s_chain (pos := q) g (copOf op) (copOf op') (g1 _ _ e1) (g1 _ _ e2) (g1 _ _ e3) (comp_form e3).2.1
        have i2 := t_chain (pos := q) g (copOf op) (copOf op') (g1 _ _ e1) (g1 _ _ e2) (g1 _ _ e3) (comp_form e3).2.1
        rw [copOf_op, copOf_op] at i1 i2
        exact ⟨i1, i2, fun _ _ _ => nofun⟩
      · cases h
    · split at h
      · rename_i x l hh e1 e2 e3
        cases h
        exact tri_val (s_sl g (g1 _ _ e1) (cO_sound g1 e2) (cO_sound g1 e3)) (fun _ => rfl) (fun _ _ _ => nofun)
      · cases h
    · split at h
      · rename_i hx
        split at h
        · rename_i k y e1 e2
          cases h
          exact tri_val (s_gix g hx.1 e1 (g1 _ _ e2) (comp_form e2).2.2) (fun _ => rfl) (fun _ _ _ => nofun)
        · cases h
      · split at h
        · rename_i x y e1 e2
          cases h
          exact tri_val (s_ix g (g1 _ _ e1) (g1 _ _ e2) (comp_form e2).2.2) (fun _ => rfl) (fun _ _ _ => nofun)
        · cases h
    · split at h
      · rename_i x y e1 e2
        cases h
        exact tri_val (s_ix g (g1 _ _ e1) (g1 _ _ e2) (comp_form e2).2.2) (fun _ => rfl) (fun _ _ _ => nofun)
      · cases h
    · refine tri_val (call_sound g gg (fun z a b ls lp p pos c hgl na ln hc => ?_) h) (fun _ => rfl) (fun _ _ _ => nofun)
      exact said n (fun X' E' g' e c q => (ih false X' E' e c g' (fun z => by cases z) q).1) X E g (hd z) a b ls lp p pos c hgl na ln hc
    · -- o.m(..), o a name
      split at h
      · cases h
      · rename_i hk
        have hl := Bool.not_eq_false _ |>.mp fun qq => hk (.inl qq)
        split at h
        · rename_i hx
          obtain ⟨rfl, hgl⟩ := hx
          split at h
          · rename_i e1 e2 k hkk
            split at h
            · rename_i x y q1 q2
              cases h
              exact tri_val (s_gget g hgl hkk (g1 _ _ q1) (g1 _ _ q2) (comp_form q1).1 (comp_form q2).1 hl) (fun _ => rfl) (fun _ _ _ => nofun)
            · cases h
          · cases h
        · split at h
          · rename_i x q cs e1 e2 e3
            cases h
            obtain ⟨i1, i2, i3⟩ := a_list gg e3
            refine tri_val (s_me g e2 (g1 _ _ e1) i1 i2 rfl hl (toEs_nil i3) ?_) (fun _ => rfl) (fun _ _ _ => nofun)
            have := fun z => hk (.inr z)
            omega
          · cases h
    · split at h
      · cases h
      · rename_i hk
        split at h
        · rename_i x q cs e1 e2 e3
          cases h
          obtain ⟨i1, i2, i3⟩ := a_list gg e3
          refine tri_val (s_me g e2 (g1 _ _ e1) i1 i2 ?_ ?_ (toEs_nil i3) ?_) (fun _ => rfl) (fun _ _ _ => nofun)
          · refine Bool.not_eq_false _ |>.mp fun qq => hk (.inr (.inl qq))
          · refine Bool.not_eq_false _ |>.mp fun qq => hk (.inl qq)
          · have := fun z => hk (.inr (.inr z))
            omega
        · cases h
    · split at h
      · cases h
      · rename_i hk
        split at h
        · rename_i x k e1 e2
          cases h
          refine tri_val (s_att g (ixOf_get e2) (g1 _ _ e1) (by simpa using hk)) (fun _ => rfl) (fun _ _ _ => nofun)
        · cases h
    · -- [.. for .. in ..]
      rename_i elt t i ls p
      split at h
      · cases h
      · rename_i hk
        split at h
        · rename_i s tg x e1 e2 e3
          cases h
          obtain ⟨q1, q2⟩ := src_sound g g3 e1
          refine tri_val (s_lc g (blkOk_by (by simpa using hk)) q1 q2 (fun B b => ?_) (fun B b => c_no) (fun B b => (blk ls B b _ _ e3).1) (tg_own e2)).2 (fun _ => rfl) (fun _ _ _ => nofun)
          have gb := g.blk b
          exact tgSound gb.K gb.calm gb.nd (stok_blk b) (by rw [(blk_scope b).2]; exact e2)
        · cases h
    · rename_i elt t i c' ls p
      split at h
      · cases h
      · rename_i hk
        split at h
        · rename_i s tg x y e1 e2 e3 e4
          cases h
          obtain ⟨q1, q2⟩ := src_sound g g3 e1
          refine tri_val (s_lc g (blkOk_by (by simpa using hk)) q1 q2 (fun B b => ?_) (fun B b => c_some (blk ls B b _ _ e4).2.1) (fun B b => (blk ls B b _ _ e3).1) (tg_own e2)).2 (fun _ => rfl) (fun _ _ _ => nofun)
          have gb := g.blk b
          exact tgSound gb.K gb.calm gb.nd (stok_blk b) (by rw [(blk_scope b).2]; exact e2)
        · cases h
    · cases h
end
end LF
set_option Elab.async false
set_option linter.all false
set_option maxHeartbeats 8000000
set_option maxRecDepth 100000
/-! Statements. -/
namespace LF
open PySem PySem.Spec PyProof.Rows L2
section
variable (L : Lk) (E : XK)
def PoS (ι : List Addr) (H : Hp) (r : SR) (D : Ends) : Prop := match r with
  | .nx ρ A => ∀ ι' H' σ', Ext ι H ι' H' → RF L ι' H' ρ σ' → RH L ι' H' A → D.nx σ' H'
  | .bk ρ A => ∀ ι' H' σ', Ext ι H ι' H' → RF L ι' H' ρ σ' → RH L ι' H' A → D.bk σ' H'
  | .ct ρ A => ∀ ι' H' σ', Ext ι H ι' H' → RF L ι' H' ρ σ' → RH L ι' H' A → D.ct σ' H'
  | .rt v A => ∀ ι' H' w, Ext ι H ι' H' → RH L ι' H' A → RV L ι' H' v w → D.rt w H'
  | .ex C fs ρ A => ∀ ι' H' (d : Addr) (gs : List (Str × V)) (ws : List V), Ext ι H ι' H' → RH L ι' H' A → H' d = some (.xd gs) → (L.cf C).map (fun f => gs.lookup f) = ws.map some → RVs L ι' H' fs ws → E (.ref (L.cA C)) (some d) H'
  | .bad => False
def tS (ev : Fr → IH → SR) : TS := fun D σ H => ∃ ι ρ A, RF L ι H ρ σ ∧ RH L ι H A ∧ PoS L E ι H (ev ρ A) D
end
section
variable {L : Lk} {E : XK} {ι ι1 : List Addr} {H H1 : Hp} {D : Ends}
theorem PoS.base {r : SR} (h : PoS L E ι H r D) (e : Ext ι H ι1 H1) : PoS L E ι1 H1 r D := by
  cases r with
  | nx ρ A => exact fun ι' H' σ' e' => h ι' H' σ' (e.trans e')
  | bk ρ A => exact fun ι' H' σ' e' => h ι' H' σ' (e.trans e')
  | ct ρ A => exact fun ι' H' σ' e' => h ι' H' σ' (e.trans e')
  | rt v A => exact fun ι' H' σ' e' => h ι' H' σ' (e.trans e')
  | ex C fs ρ A => exact fun ι' H' d gs ws e' => h ι' H' d gs ws (e.trans e')
  | bad => exact h
theorem PoS.on {α β : Type} {R : Rel α β} {r : Rs α} {ρ : Fr} {f : α → IH → SR} (h : PoS L E ι H (r.on ρ f) D) : Po L R E ι H r fun x H1 => ∃ ι1 A v, Ext ι H ι1 H1 ∧ RH L ι1 H1 A ∧ R ι1 H1 v x ∧ PoS L E ι1 H1 (f v A) D := by
  cases r with
  | ok v A => exact fun ι' H' w e' rh rv => ⟨ι', A, v, e', rh, rv, PoS.base (show PoS L E ι H (f v A) D from h) e'⟩
  | ex C fs A => exact h
  | bad => exact h
theorem PoS.next {r : SR} {f : Fr → IH → SR} (h : PoS L E ι H (r.next f) D) : PoS L E ι H r { D with nx := fun σ1 H1 => ∃ ι1 ρ1 A1, RF L ι1 H1 ρ1 σ1 ∧ RH L ι1 H1 A1 ∧ PoS L E ι1 H1 (f ρ1 A1) D } := by
  cases r with
  | nx ρ A => exact fun ι' H' σ' e' rf rh => ⟨ι', ρ, A, rf, rh, PoS.base (show PoS L E ι H (f ρ A) D from h) e'⟩
  | bk ρ A => exact h
  | ct ρ A => exact h
  | rt v A => exact h
  | ex C fs ρ A => exact h
  | bad => exact h
end
/-- a def's body's context -/
structure GoodS (X : Cx) (L : Lk) (P : Prg) (C : Cal) (G : Gx) (lv : Nat) (E : XK) : Prop where
  good : Good X L P C G lv E
  own : PassesOwn (model X.prog X.w) X.A X.env X.xe
  tk : Takes X fun c d _ H => E c d H
  fn : ∀ x : Str, X.fn x = true
  bk : X.env.blockKind = .function
  /-- an exception of the text's is made -/
  exc : ∀ (k : Nat) (x : Str) (fl : List Str), k ∈ G.rz → G.cls[k]? = some (x, fl) → ∀ (es : List Expr) (t : TA) (p pos : Pos), isGl X.env.scope x = true → PA X es t → es.all noStar = true → es.length = fl.length →
    PMk X (.Call (.Name x p) es [] pos) (fun σ H Q => t σ H fun vs H1 => vs.length = fl.length ∧ ∀ (d : Addr) (gs : List (Str × V)), H1 d = none → (L.cf k).map (fun f => gs.lookup f) = vs.map some → Q (.ref (L.cA k)) (some d) (upd H1 d (.xd gs)))
section
variable {X : Cx} {L : Lk} {P : Prg} {C : Cal} {G : Gx} {lv : Nat} {E : XK} {e e1 e2 e3 : Expr} {c c1 c2 c3 : CE} {pos : Pos} {st : Stmt} {cs : CS}
abbrev SS (X : Cx) (L : Lk) (P : Prg) (C : Cal) (E : XK) (s : Stmt) (c : CS) : Prop := PS X s (tS L E (evS P C c))
abbrev SSs (X : Cx) (L : Lk) (P : Prg) (C : Cal) (E : XK) (s : List Stmt) (c : CSs) : Prop := PSs X s (tS L E (evSs P C c))
theorem pssImp {e : List Stmt} {t t' : TS} (h : PSs X e t) (k : ∀ D σ H, t' D σ H → t D σ H) : PSs X e t' := ⟨fun pins s σ H D I q => h.run pins s σ H D I (k D σ H q)⟩
theorem ss_nil : SSs X L P C E [] .nil := pssImp pss_nil fun D σ H ⟨ι, ρ, A, rf, rh, po⟩ => by
  unfold evSs at po
  exact po ι H σ .refl rf rh
theorem ss_cons {r : List Stmt} {cr : CSs} (h1 : SS X L P C E st cs) (h2 : SSs X L P C E r cr) : SSs X L P C E (st :: r) (.cons cs cr) :=
  pssImp (pss_cons h1 h2) fun D σ H ⟨ι, ρ, A, rf, rh, po⟩ => by
    unfold evSs at po
    exact ⟨ι, ρ, A, rf, rh, PoS.next po⟩
theorem stmts_list {g : Stmt → Option CS} (hg : ∀ s c, g s = some c → SS X L P C E s c) : ∀ {es : List Stmt} {cs : CSs}, cSs g es = some cs → SSs X L P C E es cs
  | [], cs, h => by cases h; exact ss_nil
  | e :: r, cs, h => by
    unfold cSs at h
    split at h
    · rename_i c ds e1 e2
      cases h
      exact ss_cons (hg _ _ e1) (stmts_list hg e2)
    · cases h
theorem ss_ret (h : SE X L P C E e c) : SS X L P C E (.Return (some e) pos) (.ret c) := psImp (ps_ret h) fun D σ H ⟨ι, ρ, A, rf, rh, po⟩ => by
  unfold evS at po
  exact ⟨ι, ρ, A, rf, rh, (PoS.on (R := RV L) po).imp fun x H1 ⟨ι1, A1, v, e1, rh1, rv1, po1⟩ => po1 ι1 H1 x .refl rh1 rv1⟩
/-- no set comprehension, no dict comprehension -/
theorem comp_no {N : List Str} {n : Nat} {sd : Bool} {sc : Scope} (h : comp G N n sd sc e = some c) : (∀ a b d p, e ≠ .SetComp a b d p) ∧ ∀ a b c d p, e ≠ .DictComp a b c d p := by
  constructor
  · intro a b d p q
    subst q
    cases n <;> (unfold comp at h; cases h)
  · intro a b c d p q
    subst q
    cases n <;> (unfold comp at h; cases h)
theorem swaps_no' {N : List Str} {n : Nat} {sd : Bool} {sc : Scope} (h : comp G N n sd sc e = some c) (hn : isComp e = false) {t : Option Expr} {k : Nat} : swapsWith e t k X.env = pure false := by
  obtain ⟨h1, h2⟩ := comp_no h
  cases e <;> first | rfl | (cases hn; done) | exact absurd rfl (h1 _ _ _ _) | exact absurd rfl (h2 _ _ _ _ _)
/-- behind another target than a name nothing is swapped -/
theorem swaps_tg {N : List Str} {n : Nat} {sd : Bool} {sc : Scope} (h : comp G N n sd sc e = some c) {t : Expr} {k : Nat} (ht : ∀ x p, t ≠ .Name x p) : swapsWith e (some t) k X.env = pure false := by
  obtain ⟨h1, h2⟩ := comp_no h
  cases e <;> first | rfl | exact absurd rfl (h1 _ _ _ _) | exact absurd rfl (h2 _ _ _ _ _) | skip
  cases t <;> first | rfl | exact absurd rfl (ht _ _)
theorem ss_expr {N : List Str} {n : Nat} {sd : Bool} {sc : Scope} (hc : comp G N n sd sc e = some c) (hn : isComp e = false) (h : SE X L P C E e c) : SS X L P C E (.Expr e pos) (.expr c) := psImp (ps_expr h (swaps_no' hc hn)) fun D σ H ⟨ι, ρ, A, rf, rh, po⟩ => by
  unfold evS at po
  exact ⟨ι, ρ, A, rf, rh, (PoS.on (R := RV L) po).imp fun x H1 ⟨ι1, A1, v, e1, rh1, rv1, po1⟩ => po1 ι1 H1 σ .refl (rf.mono e1) rh1⟩
theorem ss_pass : SS X L P C E (.Pass pos) .pass := psImp ps_pass fun D σ H ⟨ι, ρ, A, rf, rh, po⟩ => by
  unfold evS at po
  exact po ι H σ .refl rf rh
theorem ss_brk : SS X L P C E (.Break pos) .brk := psImp ps_break fun D σ H ⟨ι, ρ, A, rf, rh, po⟩ => by
  unfold evS at po
  exact po ι H σ .refl rf rh
theorem ss_cont : SS X L P C E (.Continue pos) .cont := psImp ps_continue fun D σ H ⟨ι, ρ, A, rf, rh, po⟩ => by
  unfold evS at po
  exact po ι H σ .refl rf rh
theorem ss_if {a b : List Stmt} {ca cb : CSs} (h1 : ST X L P C E e c) (h2 : SSs X L P C E a ca) (h3 : SSs X L P C E b cb) : SS X L P C E (.If e a b pos) (.ite c ca cb) := psImp (ps_if h1 h2 h3) fun D σ H ⟨ι, ρ, A, rf, rh, po⟩ => by
  unfold evS at po
  have key : ∀ {r : Rs IV}, PoS L E ι H (r.on ρ fun v A => match v with
      | .bl true => evSs P C ca ρ A
      | .bl false => evSs P C cb ρ A
      | _ => .bad) D → PoS L E ι H ((r.bind blR).on ρ fun b A => if b = true then evSs P C ca ρ A else evSs P C cb ρ A) D := fun {r} q => by
    cases r with
    | ok v A =>
      cases v <;> first | exact q.elim | skip
      rename_i b
      cases b <;> exact q
    | ex D fs A => exact q
    | bad => exact q
  refine ⟨ι, ρ, A, rf, rh, (PoS.on (R := RB) (key po)).imp fun x H1 ⟨ι1, A1, v, e1, rh1, rv1, po1⟩ => ?_⟩
  cases rv1
  cases x
  · simp only [Bool.false_eq_true, if_false] at po1 ⊢
    exact ⟨ι1, ρ, A1, rf.mono e1, rh1, po1⟩
  · simp only [if_true] at po1 ⊢
    exact ⟨ι1, ρ, A1, rf.mono e1, rh1, po1⟩
/-! ### stores -/
theorem asg_read {t : TG} {te : TE} {g : L2.TG} (hte : ∀ σ H Q, tE L E (RV L) (evE P C c) σ H Q → te σ H Q) (hg : ∀ v σ H Q, tTg L t v σ H Q → g v σ H Q) {D : Ends} {σ : L2.St} {H : Hp} (h : tS L E (evS P C (.asg t c)) D σ H) : tAsg te g D σ H := by
  obtain ⟨ι, ρ, A, rf, rh, po⟩ := h
  unfold evS at po
  refine hte _ _ _ ⟨ι, ρ, A, rf, rh, (PoS.on (R := RV L) po).imp fun x H1 ⟨ι1, A1, v, e1, rh1, rv1, po1⟩ => hg _ _ _ _ ?_⟩
  cases hs : stG A1 t v ρ with
  | none => rw [hs] at po1; exact False.elim po1
  | some ρ' =>
    rw [hs] at po1
    exact ⟨ι1, v, A1, ρ, ρ', rv1, rf.mono e1, rh1, hs, fun σ' z => po1 ι1 H1 σ' .refl z.1 rh1⟩
theorem stok_fn (g : GoodS X L P C G lv E) : StOk X X.env.scope := ⟨fun x h => h, fun x h => ⟨h, g.fn x⟩⟩
theorem assign_one {t : Expr} (h : noStar t = true) (env : Env) : (assignEach [t] env).map (·.2) = [assign t env] := by
  cases t <;> first | rfl | cases h
theorem swapped_no {t e : Expr} (h : (isTup t && isTup e) = false) (ht : ∀ es p, t ≠ .List es p) (env : Env) : swappedStores [t] e env = pure none := by
  cases t <;> first | rfl | exact absurd rfl (ht _ _) | skip
  cases e <;> first | rfl | cases h
theorem ss_asg (g : GoodS X L P C G lv E) {n : Nat} {sd : Bool} {t : Expr} {tg : TG} (ht : cTg X.N X.env.scope t = some tg) (hc : comp G X.N n sd X.env.scope e = some c) (h : SE X L P C E e c) (hn : (isTup t && isTup e) = false)
    (hl : ∀ elt gs ls p, e = .ListComp elt gs ls p → ∀ x q, t = .Name x q → swapsWith e (some t) pos.line X.env = pure false) : SS X L P C E (.Assign [t] e pos) (.asg tg c) := by
  have gd := g.good
  have pg := tgSound gd.K gd.calm gd.nd (stok_fn g) ht
  have sw : swapsWith e (some t) pos.line X.env = pure false := by
    by_cases hx : ∃ x p, t = .Name x p
    · obtain ⟨x, p, rfl⟩ := hx
      cases hcmp : isComp e with
      | false => exact swaps_no' hc hcmp
      | true =>
        cases e <;> first | (cases hcmp; done) | exact hl _ _ _ _ rfl _ _ rfl
    · exact swaps_tg hc fun x p q => hx ⟨x, p, q⟩
  have star : noStar t = true := by
    cases t <;> first | rfl | (unfold cTg at ht; cases ht)
  refine psImp (ps_asg h pg sw (swapped_no hn (fun es p q => by subst q; unfold cTg at ht; cases ht) _) (assign_one star _)) fun D σ H q => asg_read (fun _ _ _ z => z) (fun _ _ _ _ z => z) q
theorem isLo_eq {sc : Scope} {x : Str} (h : isLo sc x = true) : sc.names.lookup x = some .local := by
  unfold isLo at h
  split at h
  · assumption
  · cases h
theorem swapped_two {a b : Expr} {x y : Str} {px py pt pt2 : Pos} {kt k2 : Nat} {env : Env} (hb : env.blockKind = .function) (hx : env.scope.names.lookup x = some .local) (hy : env.scope.names.lookup y = some .local) (hxy : x ≠ y) (hl : (px.line == py.line) = true)
    (na : noStar a = true) (nb : noStar b = true) (hf : (foldedForSure 8 a && foldedForSure 8 b) = false) (hk : (constantsAlone 8 a && constantsAlone 8 b) = false) :
    swappedStores [.Tuple [.Name x px, .Name y py] kt pt] (.Tuple [a, b] k2 pt2) env = pure (some [x, y]) := by
  have kx : env.kindOf x = some .local := hx
  have ky : env.kindOf y = some .local := hy
  have l2 : (py.line == px.line) = true := by
    have := beq_iff_eq.mp hl
    rw [this]
    exact beq_self_eq_true _
  have s1 : ∀ f : Expr → Bool, f a = false → f b = false → [a, b].any f = false := fun f h1 h2 => by simp [h1, h2]
  have s3 : ([a, b].all (foldedForSure 8)) = false := by simpa using hf
  have s4 : ([a, b].all (constantsAlone 8)) = false := by simpa using hk
  have d : ([x, y] : List Str).eraseDups.length = 2 := by
    have : ([x, y] : List Str).eraseDups = [x, y] := by
      rw [List.eraseDups_cons]
      have : ([y].filter fun b => !b == x) = [y] := by
        simp [Ne.symm hxy]
      rw [this]
      rfl
    rw [this]
    rfl
  unfold swappedStores
  simp only [List.length_cons, List.length_nil, hb, s3, s4]
  simp only [List.head?_cons, Option.map_some, Expr.pos, Option.getD_some, List.filterMap_cons, List.filterMap_nil, kx, ky, l2, beq_self_eq_true, Bool.and_self, if_true, d]
  rw [if_neg (by decide), s1 _ (by cases a <;> first | rfl | cases na) (by cases b <;> first | rfl | cases nb)]
  rfl
end
end LF
set_option Elab.async false
set_option linter.all false
set_option maxHeartbeats 8000000
set_option maxRecDepth 100000
/-! Statements, compiled. -/
namespace LF
open PySem PySem.Spec PyProof.Rows L2
section
variable {L : Lk} {P : Prg} {C : Cal} {G : Gx} {lv : Nat}
/-- the parts of a comprehension -/
theorem lc_parts {SD : Cx → Prop} (said : SaidR L P C G lv SD) {n : Nat} {sd : Bool} {X : Cx} {E : XK} {elt : Expr} {gs : List Comprehension} {ls : Scope} {p : Pos} {c : CE} (g : Good X L P C G lv E) (hd : sd = true → SD X)
    (h : comp G X.N n sd X.env.scope (.ListComp elt gs ls p) = some c) : ∃ tg iter ifs ce t sc co, gs = [⟨tg, iter, ifs, 0⟩] ∧ c = .lc ce t sc co ((ownOf X.N ls.names).map (·.2)) ∧ BlkOk X.N X.env.scope ls (ownOf X.N ls.names) ∧ SQ X L P C E tg iter sc ∧ noSet iter = true ∧
      (∀ B, IsBlk X ls E B → PG B tg (tTg L t)) ∧ (∀ B, IsBlk X ls E B → SC B L P C E ifs co) ∧ (∀ B, IsBlk X ls E B → SE B L P C E elt ce) ∧ tgIn ((ownOf X.N ls.names).map (·.2)) t := by
  cases n with
  | zero => unfold comp at h; cases h
  | succ n =>
    have ih := comp_sound said n
    have g3 : ∀ e c, comp G X.N n sd X.env.scope e = some c → SE X L P C E e c ∧ noStar e = true ∧ noSet e = true := fun e c q => ⟨(ih sd X E e c g hd q).1, (comp_form q).1, (comp_form q).2.1⟩
    have blk : ∀ (B : Cx), IsBlk X ls E B → ∀ e c, comp G X.N n false (L2.relS ls X.env.scope) e = some c → Tri B L P C E e c := fun B b e c q => by
      obtain ⟨b1, b2⟩ := blk_scope b
      exact ih false B E e c (g.blk b) (fun z => by cases z) (by rw [b1, b2]; exact q)
    have tgt : ∀ {t : Expr} {tg : TG}, cTg X.N ls t = some tg → ∀ B, IsBlk X ls E B → PG B t (tTg L tg) := fun {t tg} e2 B b => by
      have gb := g.blk b
      exact tgSound gb.K gb.calm gb.nd (stok_blk b) (by rw [(blk_scope b).2]; exact e2)
    unfold comp at h
    split at h <;> first | (rename_i q; cases q; done) | skip
    all_goals first | (cases h; done) | skip
    · rename_i elt' t i ls' p' q
      cases q
      split at h
      · cases h
      · rename_i hk
        split at h
        · rename_i s tg x e1 e2 e3
          cases h
          obtain ⟨q1, q2⟩ := src_sound g g3 e1
          exact ⟨_, _, _, _, _, _, _, rfl, rfl, blkOk_by (by simpa using hk), q1, q2, tgt e2, fun B b => c_no, fun B b => (blk B b _ _ e3).1, tg_own e2⟩
        · cases h
    · rename_i elt' t i c' ls' p' q
      cases q
      split at h
      · cases h
      · rename_i hk
        split at h
        · rename_i s tg x y e1 e2 e3 e4
          cases h
          obtain ⟨q1, q2⟩ := src_sound g g3 e1
          exact ⟨_, _, _, _, _, _, _, rfl, rfl, blkOk_by (by simpa using hk), q1, q2, tgt e2, fun B b => c_some (blk B b _ _ e4).2.1, fun B b => (blk B b _ _ e3).1, tg_own e2⟩
        · cases h
variable {X : Cx} {E : XK} {e e1 e2 e3 : Expr} {c c1 c2 c3 : CE} {pos : Pos} {st : Stmt} {cs : CS}
theorem ss_par (g : GoodS X L P C G lv E) {x y : Str} {px py pt pt2 : Pos} {kt k2 i j : Nat} (hi : ixOf x X.N = some i) (hj : ixOf y X.N = some j) (hx : isLo X.env.scope x = true) (hy : isLo X.env.scope y = true) (hxy : x ≠ y) (hl : (px.line == py.line) = true)
    (h1 : SE X L P C E e1 c1) (h2 : SE X L P C E e2 c2) (n1 : noStar e1 = true) (n2 : noStar e2 = true) (hf : (foldedForSure 8 e1 && foldedForSure 8 e2) = false) (hk : (constantsAlone 8 e1 && constantsAlone 8 e2) = false) :
    SS X L P C E (.Assign [.Tuple [.Name x px, .Name y py] kt pt] (.Tuple [e1, e2] k2 pt2) pos) (.par i j c1 c2) := by
  have hij : i ≠ j := fun q => by
    subst q
    have := (ixOf_get hi).symm.trans (ixOf_get hj)
    exact hxy (Option.some.inj this)
  have ha : PA X [e1, e2] (tCons (tE L E (RV L) (evE P C c1)) (tCons (tE L E (RV L) (evE P C c2)) tNil)) := pa_cons h1 (pa_cons h2 pa_nil (star_of n2 _ _)) (star_of n1 _ _)
  refine psImp (ps_par g.good.calm g.good.nd (ixOf_get hi) (ixOf_get hj) hij (isLo_eq hx) (isLo_eq hy) ha (swapped_two g.bk (isLo_eq hx) (isLo_eq hy) hxy hl n1 n2 hf hk)) fun D σ H ⟨ι, ρ, A, rf, rh, po⟩ => ?_
  unfold evS at po
  refine ⟨ι, ρ, A, rf, rh, (PoS.on (R := RV L) po).imp fun x H1 ⟨ι1, A1, v, x1, rh1, rv1, po1⟩ => ⟨ι1, ρ, A1, rf.mono x1, rh1, (PoS.on (R := RV L) po1).imp fun y H2 ⟨ι2, A2, w, x2, rh2, rv2, po2⟩ => ⟨x, y, rfl, ?_⟩⟩⟩
  split at po2
  · exact po2 ι2 H2 _ .refl ((((rf.mono x1).mono x2).set i (rv1.mono x2)).set j rv2) rh2
  · exact po2.elim
theorem ss_setix (g : GoodS X L P C G lv E) {n : Nat} {sd : Bool} {tp : Pos} (h1 : SE X L P C E e1 c1) (h2 : SE X L P C E e2 c2) (h3 : SE X L P C E e3 c3) (hc : comp G X.N n sd X.env.scope e3 = some c3) : SS X L P C E (.Assign [.Subscript e1 e2 tp] e3 pos) (.setix c1 c2 c3) :=
  psImp (ps_dput g.good.hu1 h1 h2 h3 (swaps_tg hc fun _ _ => nofun)) fun D σ H ⟨ι, ρ, A, rf, rh, po⟩ => by
    unfold evS at po
    refine ⟨ι, ρ, A, rf, rh, (PoS.on (R := RV L) po).imp fun x H1 ⟨ι1, A1, v, x1, rh1, rv1, po1⟩ => ⟨ι1, ρ, A1, rf.mono x1, rh1, (PoS.on (R := RV L) po1).imp fun y H2 ⟨ι2, A2, w, x2, rh2, rv2, po2⟩ => ?_⟩⟩
    have rf2 := (rf.mono x1).mono x2
    refine ⟨ι2, ρ, A2, rf2, rh2, (PoS.on (R := RV L) po2).imp fun z H3 ⟨ι3, A3, k, x3, rh3, rv3, po3⟩ => ?_⟩
    obtain ⟨m, rfl⟩ : ∃ m, w = .ref m := by
      cases w <;> first | exact ⟨_, rfl⟩ | exact False.elim po3
    obtain ⟨q, rfl⟩ : ∃ q, k = .str q := by
      cases k <;> first | exact ⟨_, rfl⟩ | exact False.elim po3
    dsimp only at po3
    · split at po3
      · rename_i kvs hk
        split at po3
        · rename_i hl
          obtain ⟨a, rfl, ha⟩ := rv2.mono x3
          obtain ⟨gs, d1, d2, d3, d4⟩ := rh3.at_ m a _ ha hk
          have hlen : gs.length = kvs.length := by
            have := congrArg List.length d2
            simpa using this
          rw [show z = _ from rv3]
          refine ⟨a, upd H3 a (.dK (putK gs (.inr q) x)), rfl, show DPut H3 a (kV (.inr q)) x _ from DPut.k d1 (by rw [hlen]; exact lim_lt hl), ?_⟩
          have ex : Ext ι3 H3 ι3 (upd H3 a (.dK (putK gs (.inr q) x))) := Ext.put d1 fun z => z
          refine po3 ι3 _ σ ex ((rf2.mono x3).mono ex) (rh3.put ha d1 (fun z => z) (RO.dct upd_same ?_))
          exact RD.put (((rv1.mono x2).mono x3).mono ex) ⟨d2, d3.mono ex, d4⟩
        · exact po3.elim
      · exact po3.elim
theorem ss_raise (g : GoodS X L P C G lv E) {x : Str} {k : Nat} {fl : List Str} {as : List Expr} {cs : List CE} {p q : Pos} (hgl : isGl X.env.scope x = true) (hk : k ∈ G.rz) (hc : G.cls[k]? = some (x, fl)) (h : SA X L P C E as (toEs cs)) (hn : as.all noStar = true) (hl : as.length = fl.length) (hl2 : cs.length = fl.length) :
    SS X L P C E (.Raise (some (.Call (.Name x p) as [] q)) none pos) (.raise k (toEs cs)) := by
  have mk := g.exc k x fl hk hc as _ p q hgl h hn hl
  refine psImp (ps_raise g.good.calm g.tk mk) fun D σ H ⟨ι, ρ, A, rf, rh, po⟩ => ?_
  unfold evS at po
  refine ⟨ι, ρ, A, rf, rh, ?_⟩
  have po' : PoS L E ι H ((evEs P C (toEs cs) ρ A).on ρ fun vs A => .ex k vs ρ A) D := po
  cases hr : evEs P C (toEs cs) ρ A with
  | bad => rw [hr] at po'; exact False.elim po'
  | ex Dd fs B => rw [hr] at po'; exact po'
  | ok vs A1 =>
    rw [hr] at po'
    intro ι' H' ws e' rh' rv
    refine ⟨by rw [← rv.length, evEs_len hr]; exact hl2, fun d gs hd hg => ?_⟩
    have ex : Ext ι' H' ι' (upd H' d (.xd gs)) := Ext.lay hd
    exact (show ∀ ι' H' (d : Addr) (gs : List (Str × V)) (ws : List V), Ext ι H ι' H' → RH L ι' H' A1 → H' d = some (.xd gs) → (L.cf k).map (fun f => gs.lookup f) = ws.map some → RVs L ι' H' vs ws → E (.ref (L.cA k)) (some d) H' from po') ι' _ d gs ws (e'.trans ex) (rh'.lay hd) upd_same hg (rv.mono ex)
/-! ### for -/
theorem ss_for (g : GoodS X L P C G lv E) {tg iter : Expr} {body : List Stmt} {t : TG} {s : CSrc} {b : CSs} (ht : cTg X.N X.env.scope tg = some t) (hi : SQ X L P C E tg iter s) (hset : noSet iter = true) (hb : SSs X L P C E body b) : SS X L P C E (.For tg iter body [] pos) (.for t s b) := by
  have gd := g.good
  refine psImp (ps_for g.own gd.calm hi (tgSound gd.K gd.calm gd.nd (stok_fn g) ht) hb (fold_of hset _)) fun D σ H ⟨ι, ρ, A, rf, rh, po⟩ => ?_
  unfold evS at po
  refine ⟨ι, ρ, A, rf, rh, (PoS.on (R := RQ L) po).imp fun J H1 ⟨ι1, A1, q, x1, rh1, rq1, po1⟩ => ?_⟩
  generalize hf : (fun x ρ A => match stG A t x ρ with
      | some ρ => evSs P C b ρ A
      | none => SR.bad) = f at po1
  refine ⟨fun i m σ H => ∃ ι ρ A, RF L ι H ρ σ ∧ RH L ι H A ∧ RQ L ι H q J ∧ PoS L E ι H (forGo f q m i ρ A) D, ⟨LIM + 1, ι1, ρ, A1, rf.mono x1, rh1, rq1, po1⟩, ?_⟩
  rintro i m σ H ⟨ι, ρ, A, rf, rh, rq, po⟩
  cases m with
  | zero => exact False.elim po
  | succ m =>
    unfold forGo at po
    cases hq : q.item i A with
    | none => rw [hq] at po; exact False.elim po
    | some o =>
      rw [hq] at po
      cases o with
      | none => exact .inl ⟨walk_stop rh rq hq, po ι H σ .refl rf rh⟩
      | some x =>
        obtain ⟨go, yl⟩ := walk_go rh rq hq
        refine .inr ⟨go, fun σ H => ∃ ι ρ A, RF L ι H ρ σ ∧ RH L ι H A ∧ RQ L ι H q J ∧ PoS L E ι H (forGo f q m (i + 1) ρ A) D, fun σ' H' w => ⟨m, Nat.lt_succ_self m, w⟩, fun x' H' y => ?_⟩
        obtain ⟨x3, rh3, rv3⟩ := yl x' H' y
        have po3 : PoS L E ι H' (match f x ρ A with
          | .nx ρ A => forGo f q m (i + 1) ρ A
          | .ct ρ A => forGo f q m (i + 1) ρ A
          | .bk ρ A => .nx ρ A
          | r => r) D := PoS.base po x3
        have ef : f x ρ A = (match stG A t x ρ with
          | some ρ => evSs P C b ρ A
          | none => SR.bad) := by rw [← hf]
        generalize f x ρ A = r0 at po3 ef
        cases hs : stG A t x ρ with
        | none =>
          rw [hs] at ef
          subst ef
          exact False.elim po3
        | some ρ' =>
          rw [hs] at ef
          have ef : r0 = evSs P C b ρ' A := ef
          rw [ef] at po3
          refine ⟨ι, x, A, ρ, ρ', rv3, rf.mono x3, rh3, hs, fun σ2 z => ⟨ι, ρ', A, z.1, rh3, ?_⟩⟩
          cases hr : evSs P C b ρ' A with
          | nx ρ1 A1 =>
            rw [hr] at po3
            exact fun ι' H2 σ' e' rf' rh' => ⟨ι', ρ1, A1, rf', rh', (rq.mono x3).mono e', PoS.base po3 e'⟩
          | ct ρ1 A1 =>
            rw [hr] at po3
            exact fun ι' H2 σ' e' rf' rh' => ⟨ι', ρ1, A1, rf', rh', (rq.mono x3).mono e', PoS.base po3 e'⟩
          | bk ρ1 A1 => rw [hr] at po3; exact po3
          | rt v A1 => rw [hr] at po3; exact po3
          | ex Dd fs ρ1 A1 => rw [hr] at po3; exact po3
          | bad => rw [hr] at po3; exact False.elim po3
/-- x = [..] -/
theorem ss_lc {SD : Cx → Prop} (said : SaidR L P C G lv SD) (g : GoodS X L P C G lv E) {sd : Bool} (hd : sd = true → SD X) {n : Nat} {elt : Expr} {gs : List Comprehension} {ls : Scope} {p q : Pos} {x : Str} {t : TG} (ht : cTg X.N X.env.scope (.Name x q) = some t)
    (h : comp G X.N n sd X.env.scope (.ListComp elt gs ls p) = some c) : SS X L P C E (.Assign [.Name x q] (.ListComp elt gs ls p) pos) (.asg t c) := by
  have gd := g.good
  have val := (comp_sound said n sd X E _ _ gd hd h).1
  have sw : swapsWith (.ListComp elt gs ls p) (some (.Name x q)) pos.line X.env = pure (X.env.blockKind == .function && X.env.kindOf x == some .local && q.line == p.line && !(ls.names.any fun (n, k) => n == x && (k == .local || k == .cell))) := rfl
  cases hb : (X.env.blockKind == .function && X.env.kindOf x == some .local && q.line == p.line && !(ls.names.any fun (n, k) => n == x && (k == .local || k == .cell))) with
  | false =>
    rw [hb] at sw
    exact ss_asg g ht h val rfl fun _ _ _ _ _ y q' e => by cases e; exact sw
  | true =>
    rw [hb] at sw
    obtain ⟨tg, iter, ifs, ce, t', sc, co, rfl, rfl, bo, sq, ns, hg, hc, he, hin⟩ := lc_parts said gd hd h
    have hl : X.env.scope.names.lookup x = some .local := by
      simp only [Bool.and_eq_true, beq_iff_eq] at hb
      exact hb.1.1.2
    have ht' : ∃ i, ixOf x X.N = some i ∧ t = .nm i := by
      unfold cTg at ht
      split at ht
      · obtain ⟨i, h1, rfl⟩ := Option.map_eq_some_iff.mp ht
        exact ⟨i, h1, rfl⟩
      · cases ht
    obtain ⟨i, hi, rfl⟩ := ht'
    have read := (s_lc (pos := p) gd bo sq ns hg hc he hin).1
    refine psImp (ps_setLcX gd.air gd.calm gd.nd (ixOf_get hi) hl sw sq bo hg hc he (fold_of ns _)) fun D σ H r => ?_
    refine asg_read (g := gName i) read (fun v σ H Q ⟨ι, iv, A, ρ, ρ', rv, rf, rh, e, k⟩ => ?_) r
    unfold stG at e
    split at e
    · cases e
      exact k _ ⟨rf.set i rv, fun vs hv => wipe_set hv⟩
    · cases e
theorem stmt_sound {SD : Cx → Prop} (said : SaidR L P C G lv SD) (g : GoodS X L P C G lv E) {sd : Bool} (hd : sd = true → SD X) (m : Nat) : ∀ (n : Nat) (s : Stmt) (c : CS), compS G X.N m sd X.env.scope n s = some c → SS X L P C E s c
  | 0, s, c, h => by unfold compS at h; cases h
  | n + 1, s, c, h => by
    have ih := stmt_sound said g hd m n
    have cs := fun e c (q : comp G X.N m sd X.env.scope e = some c) => comp_sound said m sd X E e c g.good hd q
    have g1 : ∀ e c, comp G X.N m sd X.env.scope e = some c → SE X L P C E e c := fun e c q => (cs e c q).1
    have gg : ∀ e c, comp G X.N m sd X.env.scope e = some c → SE X L P C E e c ∧ noStar e = true := fun e c q => ⟨(cs e c q).1, (comp_form q).1⟩
    have g3 : ∀ e c, comp G X.N m sd X.env.scope e = some c → SE X L P C E e c ∧ noStar e = true ∧ noSet e = true := fun e c q => ⟨(cs e c q).1, (comp_form q).1, (comp_form q).2.1⟩
    unfold compS at h
    split at h
    · split at h
      · rename_i x y z e1 e2 e3
        cases h
        exact ss_setix g (g1 _ _ e1) (g1 _ _ e2) (g1 _ _ e3) e3
      · cases h
    · split at h
      · rename_i hk
        simp only [Bool.and_eq_true, Bool.not_eq_true', decide_eq_true_eq] at hk
        obtain ⟨⟨⟨⟨⟨k1, k2⟩, k3⟩, k4⟩, k5⟩, k6⟩ := hk
        split at h
        · rename_i i j u v e1 e2 e3 e4
          cases h
          exact ss_par g e1 e2 k1 k2 k3 k4 (g1 _ _ e3) (g1 _ _ e4) (comp_form e3).1 (comp_form e4).1 k5 k6
        · cases h
      · cases h
    · rename_i t e p _ _
      split at h
      · cases h
      · rename_i hk
        split at h
        · rename_i tg z e1 e2
          cases h
          by_cases hx : ∃ elt gs ls q x r, e = .ListComp elt gs ls q ∧ t = .Name x r
          · obtain ⟨elt, gs, ls, q, x, r, rfl, rfl⟩ := hx
            exact ss_lc said g hd e1 e2
          · exact ss_asg g e1 e2 (g1 _ _ e2) (by simpa using hk) fun elt gs ls q he x r ht => absurd ⟨elt, gs, ls, q, x, r, he, ht⟩ hx
        · cases h
    · split at h
      · cases h
      · rename_i hk
        obtain ⟨z, hc, rfl⟩ := Option.map_eq_some_iff.mp h
        exact ss_expr hc (by simpa using hk) (g1 _ _ hc)
    · obtain ⟨z, hc, rfl⟩ := Option.map_eq_some_iff.mp h
      exact ss_ret (g1 _ _ hc)
    · split at h
      · rename_i z x y e1 e2 e3
        cases h
        exact ss_if (cs _ _ e1).2.1 (stmts_list ih e2) (stmts_list ih e3)
      · cases h
    · split at h
      · rename_i tg s b e1 e2 e3
        cases h
        obtain ⟨q1, q2⟩ := src_sound g.good g3 e2
        exact ss_for g e1 q1 q2 (stmts_list ih e3)
      · cases h
    · cases h; exact ss_cont
    · cases h; exact ss_brk
    · cases h; exact ss_pass
    · split at h
      · rename_i k cs' e1 e2
        split at h
        · rename_i hk
          cases h
          obtain ⟨h1, h2, h3⟩ := hk
          obtain ⟨i1, i2, i3⟩ := a_list gg e2
          obtain ⟨⟨nm, fl⟩, c1, c2⟩ := Option.map_eq_some_iff.mp h2
          have hn := ixOf_get e1
          rw [List.getElem?_map, c1] at hn
          have : nm = _ := Option.some.inj hn
          subst this
          have c2 : fl.length = cs'.length := c2
          exact ss_raise g h1 h3 c1 i1 i2 (i3.trans c2.symm) c2.symm
        · cases h
      · cases h
    · cases h
theorem body_sound {SD : Cx → Prop} (said : SaidR L P C G lv SD) (g : GoodS X L P C G lv E) {sd : Bool} (hd : sd = true → SD X) {b : List Stmt} {cs : CSs} (h : compB G X.N sd X.env.scope b = some cs) : SSs X L P C E b cs :=
  stmts_list (stmt_sound said g hd 40 20) h
end
end LF
set_option Elab.async false
set_option linter.all false
set_option maxHeartbeats 8000000
set_option maxRecDepth 100000
/-! Defs: by their bodies, by the depth of the calls. -/
namespace LF
open PySem PySem.Spec PyProof.Rows L2
/-- what stays as it is, whatever def runs -/
structure Stat (P0 : Program) (w : World) (K : PySem.W.Frag) (mg : Str → Option Value) (base : Heap) (L : Lk) (P : Prg) (G : Gx) : Prop where
  eK : L.K = K
  blt : ∀ x ∈ bltN, mg x = none
  cos : ∀ (k : Nat) (x : Str) (c : IV), G.cos[k]? = some x → P.gc[k]? = some c → (x == ("__debug__" : Str)) = false ∧ ∃ v u, mg x = some u ∧ RelV v u ∧ ∀ ι H, RV L ι H c v
  dts : ∀ (k : Nat) (x : Str), G.dts[k]? = some x → (x == ("__debug__" : Str)) = false ∧ ∃ kvs, P.gd[k]? = some kvs ∧ ∃ d es n, mg x = some (.ref d) ∧ KDict K w d es n ∧
    ∀ z : Str, ∃ r, PySem.W.nsIn K d z = some r ∧ (match kvs.lookup z with
      | some iv => ∃ u v, r = some u ∧ RelV v u ∧ ∀ ι H, RV L ι H iv v
      | none => r = none)
  isi : ∀ (x : Str) (t : Ty), tyOf G x = some t → (x == ("__debug__" : Str)) = false ∧ x ≠ "__name__" ∧ ∃ (cu : Value) (cv : V), (∀ u, RelV cv u ↔ u = cu) ∧ (mg x = some cu ∨ (mg x = none ∧ bootBuiltins x = some cu)) ∧
    ∀ (Y : Cx) (pins : List (Addr × Obj)) (s : Shared) (σ : L2.St) (H : Hp) (ι : List Addr) (A : IH) (v : IV) (y : V) (u : Value) (Q : VK) (F : XK), Y.K = K → Y.calm = true → L2.Inv Y pins σ H s → RelV y u → RH L ι H A → RV L ι H v y → Po L (RV L) F ι H (optB (isI P v t) A) Q →
      wpAny (model Y.prog Y.w) Y.A (call (.builtin "isinstance") [u, cu]) (EP Y pins σ Q) Y.xe s
  att : ∀ (k : Nat) (f : Str), G.fls[k]? = some f → ∀ (Y : Cx) (pins : List (Addr × Obj)) (s : Shared) (σ : L2.St) (H : Hp) (ι : List Addr) (D j : Nat) (fs : List IV) (z : IV) (y : V) (u : Value) (Q : VK) (b : Bool), Y.K = K → L2.Inv Y pins σ H s → RelV y u →
    RV L ι H (.exc D fs) y → P.fld D k = some j → fs[j]? = some z → (∀ w, RV L ι H z w → Q w H) → wpAny (model Y.prog Y.w) Y.A (getAttr u f b) (EP Y pins σ Q) Y.xe s
  exc : ∀ (X : Cx), X.prog = P0 → X.w = w → X.K = K → X.mg = mg → X.base = base → X.calm = true → Room 3 X.A → ∀ (k : Nat) (x : Str) (fl : List Str), k ∈ G.rz → G.cls[k]? = some (x, fl) → ∀ (es : List Expr) (t : TA) (p pos : Pos), isGl X.env.scope x = true →
    PA X es t → es.all noStar = true → es.length = fl.length →
    PMk X (.Call (.Name x p) es [] pos) (fun σ H Q => t σ H fun vs H1 => vs.length = fl.length ∧ ∀ (d : Addr) (gs : List (Str × V)), H1 d = none → (L.cf k).map (fun f => gs.lookup f) = vs.map some → Q (.ref (L.cA k)) (some d) (upd H1 d (.xd gs)))
/-- how a callee stands, without a context -/
def Stands (P0 : Program) (w : World) (K : PySem.W.Frag) (mg : Str → Option Value) (base : Heap) (L : Lk) (C : Cal) (lv k : Nat) (g : FnG) : Prop :=
  (g.name == ("__debug__" : Str)) = false ∧ ∃ (f : Addr) (fd : FuncData), mg g.name = some (.ref f) ∧ PySem.W.keepIn K (.ref f) = true ∧ FnL P0 w K mg base L C k lv f fd g.ps ∧
    ∀ (nas : Nat) (kn : List Str) (pm : List Nat) (ds : List IV), (nas, kn) ∈ g.shp → plan g nas kn g.ps 0 (nas + kn.length) = some (pm, ds) → ∃ (dV : List V) (dus : List Value), Vals dV dus ∧ (∀ ι H, RVs L ι H ds dV) ∧
      ∀ (s : Shared) (us ws : List Value), K.In s.heap → us.length = nas → ws.length = kn.length → BindsTo s fd ⟨us, kn.zip ws⟩ (g.ps.zip (permute pm (us ++ ws ++ dus)))
section
variable {P0 : Program} {w : World} {K : PySem.W.Frag} {mg : Str → Option Value} {base : Heap} {L : Lk} {P : Prg} {G : Gx}
theorem room_le {m n : Nat} {A : Around} (h : Room m A) (l : n ≤ m) : Room n A := h.mono l
/-- the context of a def's body is good -/
theorem goodS_of (st : Stat P0 w K mg base L P G) {C : Cal} {lv : Nat} (fns : ∀ k g, G.fns[k]? = some g → Stands P0 w K mg base L C lv k g) {N ps : List Str} {qual : Str} {scope : Scope} {f : Addr} {cd : Value} {A : Around} {outer : List Env} {s : Shared} {H : Hp} {E : XK}
    (S : FnScope N ps scope) (nb : ∀ x ∈ N, (x == ("__debug__" : Str)) = false ∧ (x == ("__classdict__" : Str)) = false) (hr : Room lv (A.deeper (envOfC qual scope s.heap.objs.size f cd))) (h3 : 3 ≤ lv) (hg : A.guards = some []) :
    GoodS (cxOf (L2.CX P0 w) P0 w K mg base N qual scope f cd A outer s H E) L P C G lv E where
  good := {
    K := st.eK
    calm := rfl
    grd := hg
    room := hr
    nd := S.nd
    nb := nb
    air := Air.of rfl rfl (takes_of (E := E) rfl rfl rfl rfl)
    blt := st.blt
    cos := st.cos
    dts := st.dts
    fns := fun k g hk => ⟨(fns k g hk).1, (fns k g hk).2⟩
    isi := fun x t ht => by
      obtain ⟨a, b, cu, cv, h1, h2, h3⟩ := st.isi x t ht
      exact ⟨a, b, cu, cv, h1, h2, h3⟩
    att := st.att }
  own := passes_of (K := fun e s'' => L2.CX P0 w outer H s E e s'') rfl
  tk := takes_of (E := E) rfl rfl rfl rfl
  fn := fun _ => rfl
  bk := by
    show (if scope.kind.isAnnotationScope then ScopeKind.function else scope.kind) = .function
    rw [S.kind]
    rfl
  exc := st.exc _ rfl rfl rfl rfl rfl rfl (hr.mono h3)
/-- the body's context, at any depth -/
abbrev Cxf (P0 : Program) (w : World) (K : PySem.W.Frag) (mg : Str → Option Value) (base : Heap) (N : List Str) (qual : Str) (scope : Scope) (f : Addr) (cd : Value) (A : Around) (outer : List Env) (s : Shared) (H : Hp) (E : XK) : Cx :=
  cxOf (L2.CX P0 w) P0 w K mg base N qual scope f cd A outer s H E
/-- a def, by what its body does: the frames, the arguments -/
theorem fnl_run {C : Cal} {k n : Nat} {f : Addr} {name qual : Str} {params : Arguments} {body : List Stmt} {scope : Scope} {dV kV doc pm cdv ct oc : Value} {an od : Option Addr} {osl : Array (Option Value)} {N ps : List Str}
    (lk : K.lookup f = some ⟨oc, od, .func (PySem.W.fnOf name qual params body scope dV kV doc pm an cdv ct), osl⟩) (hcd : PySem.W.codeIn K cdv qual = true) (S : FnScope N ps scope) (h1 : 1 ≤ n)
    (hlen : ∀ ivs A, ivs.length ≠ ps.length → C k ivs A = .bad)
    (hbody : ∀ (A : Around) (outer : List Env) (s : Shared) (H : Hp) (E : XK) (vs : List V) (ivs : List IV) (ι : List Addr) (AA : IH) (Q : VK), Room (n - 1) (A.deeper (envOfC qual scope s.heap.objs.size f cdv)) → A.guards = some [] → RVs L ι H ivs vs → RH L ι H AA → ivs.length = ps.length → Po L (RV L) E ι H (C k ivs AA) Q →
      ∃ t, PSs (Cxf P0 w K mg base N qual scope f cdv A outer s H E) body t ∧ t { nx := fun _ H' => Q .non H', rt := Q } (L2.start N vs) H) :
    FnL P0 w K mg base L C k n f (PySem.W.fnOf name qual params body scope dV kV doc pm an cdv ct) ps := by
  refine ⟨fun A outer s H args us vs ivs ι AA Q E hr hg e0 hb r rv rh po => ?_⟩
  have hl : vs.length = ps.length := by
    by_cases q : ivs.length = ps.length
    · rw [← rv.length, q]
    · rw [hlen ivs AA q] at po
      exact po.elim
  have inK : K.In s.heap := e0.mod.kin.keeps fun b o e => (e0.bs b o e).1
  have lim : s.heap.NoLimit := e0.mod.nolimit.keeps fun b o e => (e0.bs b o e).1
  have kinds : ∀ y ∈ ps.zip us, scope.names.lookup y.1 = some .local ∨ (scope.names.lookup y.1 = some .cell ∧ ((cellsFrom (s.heap.objs.size + 1) scope.names []).lookup y.1).isSome = true) := fun y hy => by
    rcases S.par y.1 (List.of_mem_zip hy).1 with q | q
    · exact .inl q
    · exact .inr ⟨q, PySem.W.cellsFrom_some _ _ _ (.inl q)⟩
  refine codeAny_call_function hr.depth (inK _ _ lk) rfl S.co S.gen rfl (PySem.W.codeRec_of inK hcd) (hb _ _ _ _ (wpAny_newFunctionEnv_cells S.kind kinds fun env he s1 x => ?_))
  subst he
  refine ⟨lim.keeps x.toInCall.keep, codeAny_func ?_⟩
  have hr' : Room (n - 1) (A.deeper (envOfC qual scope s.heap.objs.size f cdv)) := by
    obtain ⟨m, rfl⟩ : ∃ m, n = m + 1 := ⟨n - 1, by omega⟩
    exact hr.deeper _
  obtain ⟨t, ht, hq⟩ := hbody A outer s H E vs ivs ι AA Q hr' hg rv rh (by rw [rv.length, hl]) po
  have I : L2.Inv (Cxf P0 w K mg base N qual scope f cdv A outer s H E) [] (L2.start N vs) H s1 := inv_start S hr.hd e0 hl r x
  refine wpAny_mono (ht.run [] s1 (L2.start N vs) H _ I hq) (fun fl s' hs => ?_) fun e s' hs => hs
  have fin : ∀ {σ' : L2.St} {H' : Hp} {v : V} {u : Value}, L2.Inv (Cxf P0 w K mg base N qual scope f cdv A outer s H E) [] σ' H' s' → RelV v u → Q v H' → L2.CE outer P0 w H s Q u s' :=
    fun {σ' H' v u} J ru q => ⟨v, H', J.os, J.bare, J.base, J.hok, ru, q⟩
  match fl, hs with
  | .ret u, hs =>
    obtain ⟨v, σ', H', J, ru, q⟩ := hs
    exact fin J ru q
  | .next, hs =>
    obtain ⟨σ', H', J, q⟩ := hs
    exact fin (v := V.non) (u := Value.none) J rfl q
  | .brk, hs =>
    obtain ⟨_, _, _, q⟩ := hs
    exact q.elim
  | .cont, hs =>
    obtain ⟨_, _, _, q⟩ := hs
    exact q.elim
/-- the interpreter's call, as its body's end -/
theorem call_pos {n k : Nat} {d : Def} {ivs : List IV} {A : IH} {ι : List Addr} {H : Hp} {E : XK} {Q : VK} (hd : P.defs[k]? = some d) (po : Po L (RV L) E ι H (callI P (n + 1) k ivs A) Q) :
    ivs.length = d.np ∧ PoS L E ι H (evSs P (callI P n) d.body (startF d.ns ivs) A) { nx := fun _ H' => Q .non H', rt := Q } := by
  unfold callI at po
  rw [hd] at po
  dsimp only at po
  split at po
  · rename_i hl
    refine ⟨hl, ?_⟩
    cases hr : evSs P (callI P n) d.body (startF d.ns ivs) A with
    | nx ρ B => rw [hr] at po; exact fun ι' H' σ' e rf rh => po ι' H' .non e rh rfl
    | rt v B => rw [hr] at po; exact po
    | ex D fs ρ B => rw [hr] at po; exact po
    | bk ρ B => rw [hr] at po; exact po.elim
    | ct ρ B => rw [hr] at po; exact po.elim
    | bad => rw [hr] at po; exact po.elim
  · exact po.elim
theorem call_len {n k : Nat} {d : Def} (hd : P.defs[k]? = some d) (ivs : List IV) (A : IH) (h : ivs.length ≠ d.np) : callI P n k ivs A = .bad := by
  cases n with
  | zero => rfl
  | succ n =>
    unfold callI
    rw [hd]
    dsimp only
    rw [if_neg h]
/-- a def whose body is compiled -/
theorem fnl_comp (st : Stat P0 w K mg base L P G) {n k : Nat} (fns : ∀ k g, G.fns[k]? = some g → Stands P0 w K mg base L (callI P n) (5 * n + 3) k g) {x qual : Str} {params : Arguments} {body : List Stmt} {scope : Scope} {dvs : List V} {kws : List (Str × V)} {f : Addr} {fd : FuncData}
    (F : FunD K x qual params body scope dvs kws f fd) {N ps : List Str} (S : FnScope N ps scope) (nb : ∀ x ∈ N, (x == ("__debug__" : Str)) = false ∧ (x == ("__classdict__" : Str)) = false) {cs : CSs} {sd : Bool} {SD : Cx → Prop}
    (said : SaidR L P (callI P n) G (5 * n + 3) SD) (hsd : sd = true → ∀ cdv A outer s H E, fd.code = cdv → Room (5 * n + 7) (A.deeper (envOfC qual scope s.heap.objs.size f cdv)) → A.guards = some [] → SD (Cxf P0 w K mg base N qual scope f cdv A outer s H E))
    (hc : compB G N sd scope body = some cs) (hd : P.defs[k]? = some ⟨ps.length, N.length, cs⟩) : FnL P0 w K mg base L (callI P (n + 1)) k (5 * n + 8) f fd ps := by
  obtain ⟨oc, od, dV, kV, doc, pm, an, cdv, ct, osl, rfl, lk, hcd, _, _⟩ := F.ex
  refine fnl_run lk hcd S (by omega) (fun ivs A h => call_len hd ivs A h) fun A outer s H E vs ivs ι AA Q hr hg rv rh hl po => ?_
  have hr : Room (5 * n + 7) (A.deeper (envOfC qual scope s.heap.objs.size f cdv)) := hr
  have g : GoodS (Cxf P0 w K mg base N qual scope f cdv A outer s H E) L P (callI P n) G (5 * n + 3) E := goodS_of st fns S nb (hr.mono (by omega)) (by omega) hg
  obtain ⟨_, ps'⟩ := call_pos hd po
  refine ⟨_, body_sound said g (fun z => hsd z cdv A outer s H E rfl hr hg) (b := body) hc, ι, startF N.length ivs, AA, RF.start rv rfl, rh, ps'⟩
/-- no call is made at depth 0 -/
theorem fnl_zero {k lv : Nat} {f : Addr} {fd : FuncData} {ps : List Str} : FnL P0 w K mg base L (callI P 0) k lv f fd ps := ⟨fun A outer s H args us vs ivs ι AA Q E hr hg e0 hb r rv rh po => False.elim po⟩
end
end LF
set_option Elab.async false
set_option linter.all false
set_option maxHeartbeats 8000000
set_option maxRecDepth 100000
/-! A caught exception that is kept. -/
namespace LF
open PySem PySem.Spec PyProof.Rows L2 HandSPX
theorem exT_ok {P0 : Program} {w : World} {H : Hp} {h : Heap} {a C d : Addr} {oe : Obj} {us : Array Value} (e : h.get? a = some oe) (z : Zc (.ref C) (some d) oe) (hd : oe.data = .fields us) : ObjOk P0 w H h a (exT C d a) :=
  ⟨⟨oe, us, e, z.1, z.2, hd⟩, ⟨oe, e⟩, fun _ _ ⟨o, v, q, r⟩ k => ⟨o, v, k o q, r⟩⟩
section
variable {X : Cx} {pins : List (Addr × Obj)} {σ : L2.St} {H : Hp} {sI s' : Shared} {B : Heap} {a C dd : Addr}
/-- an exception that has landed is taken up -/
theorem adopt {h' : Heap} {oe : Obj} {us : Array Value} (J : L2.Inv X pins σ H sI) (nb : ∀ b o, sI.heap.get? b = some o → b ∉ frs X.stack → B.get? b = some o) (st : B.StaysIn h') (up : sI.heap.UpToSlots h') (hn : B.get? a = none) (na : H a = none)
    (he : h'.get? a = some oe) (hz : Zc (.ref C) (some dd) oe) (hd : oe.data = .fields us) (os : s'.os = sI.os) (ag : AllBare s'.gens) : L2.Inv X pins σ (upd H a (exT C dd a)) { s' with heap := h' } := by
  have fr : ∀ b ∈ frs X.stack, ∀ o, sI.heap.get? b = some o → ∃ sl, h'.get? b = some { o with slots := sl } := fun b hb o e => by
    obtain ⟨_, o', e', hnf⟩ := J.stack.mem hb
    rw [e] at e'
    cases e'
    exact up b o e hnf
  have nfa : a ∉ frs X.stack := fun m => by
    obtain ⟨_, o', e', hnf⟩ := J.stack.mem m
    obtain ⟨sl, q⟩ := up a o' e' hnf
    rw [he] at q
    cases q
    exact hnf us hd
  have new : ∀ b o, sI.heap.get? b = some o → b ≠ a := fun b o e z => by
    subst z
    have := nb b o e nfa
    rw [hn] at this
    cases this
  have hok : HOk X.prog X.w H h' := (J.inGround nb).kept st
  refine J.call' (s' := { s' with heap := h' }) (ch := []) os ⟨fun b o e n hb _ => st b o (nb b o e hb), fun b o e _ hb _ => fr b hb o e, fun b o e n _ => ?_, fun b o e _ => ?_, fun b xs q => ?_, fun b o u q => ?_, fun b ps q => ⟨#[], ?_⟩⟩ (fun b o q => ?_) ag (fun _ z => nomatch z)
  · rw [upd_ne (new b o e)]
    exact n
  · by_cases hb : b ∈ frs X.stack
    · obtain ⟨sl, q⟩ := fr b hb o e
      exact ⟨_, q⟩
    · exact ⟨o, st b o (nb b o e hb)⟩
  · rw [upd_ne (ne_of_none q na)]
    exact q
  · rw [upd_ne (ne_of_none q na)]
    exact q
  · rw [upd_ne (ne_of_none q na), q]
    simp
  · by_cases hb : b = a
    · subst hb
      rw [upd_same] at q
      cases q
      exact exT_ok he hz hd
    · rw [upd_ne hb] at q
      exact (hok b o q).stay (fun _ _ _ z => z) (fun c z => by rw [upd_ne (ne_of_none z na)]; exact z) fun c xs z => by rw [upd_ne (ne_of_none z na)]; exact z
/-- in the suite of an except clause; the caught one is tracked -/
theorem inSuite (I : L2.Inv X pins σ H sI) (a : Addr) : L2.Inv (X.suite a (X.pn ++ pins)) [] σ H sI :=
  ⟨I.ok.suite _ _, I.os, I.bare, I.base, I.loc, I.cell, I.free, I.freeC, fun p hp => I.pin p (by rw [List.append_nil] at hp; exact hp), I.hok, I.len⟩
theorem offSuite {pn' : List (Addr × Obj)} (I : L2.Inv (X.suite a (X.pn ++ pins)) pn' σ H sI) (ok : X.Ok) : L2.Inv X pins σ H sI :=
  ⟨ok, I.os, I.bare, I.base, I.loc, I.cell, I.free, I.freeC, fun p hp => I.pin p (List.mem_append_left _ hp), I.hok, I.len⟩
end
/-- the wish: every exception of the body is caught, tracked, and handed to the suite -/
def wHold (K : PySem.W.Frag) (nl : Nat) (c : Value) (i : Nat) (ts : Addr → TS) (D : Ends) : WX := fun cls d σ H => ∃ C dd : Addr, cls = .ref C ∧ d = some dd ∧ PySem.W.exmOne K cls c = some true ∧
  ∀ a, σ.length = nl → H a = none → ts a { nx := fun σ' H' => D.nx (σ'.set i none) H', rt := D.rt, bk := fun σ' H' => D.bk (σ'.set i none) H', ct := fun σ' H' => D.ct (σ'.set i none) H' } (σ.set i (some (.ref a))) (upd H a (exT C dd a))
theorem try_hold {X : Cx} {x n : Str} {c : Value} {i : Nat} {body suite : List Stmt} {b₀ : Stmt} {np pos pos' : Pos} {tb : WX → TS} {ts : Addr → TS} (hs : X.stack = X.env :: X.outer) (hf : X.env.frame = some X.env.locals) (nd : X.N.Nodup) (hi : X.N[i]? = some n)
    (hln : X.env.kindOf n = some .local) (hc : Names X x c) (hb : ∀ (W : WX) (pn : List (Addr × Obj)) (xe : Value → Shared → Prop), Takes (X.tr pn xe) W → PassesOwn (model X.prog X.w) X.A X.env xe → PSs (X.tr pn xe) body (tb W))
    (hsu : ∀ (a : Addr) (pn : List (Addr × Obj)), PSs (X.suite a pn) (b₀ :: suite) (ts a)) :
    PS X (.Try body [.ExceptHandler (some (.Name x np)) (some n) (b₀ :: suite) pos'] [] [] pos) (fun D σ H => tb (wHold X.K X.N.length c i ts D) D σ H) := by
  refine ⟨fun pins s σ H D I h => ?_⟩
  have ok := I.ok
  have hfr : X.A.frames = some (X.env :: X.outer) := by rw [ok.frames, hs]
  have back : ∀ {σ' : L2.St} {H' : Hp} {s1 : Shared} {pn' : List (Addr × Obj)} {xe : Value → Shared → Prop}, L2.Inv (X.tr (X.pn ++ pins) xe) pn' σ' H' s1 → L2.Inv X pins σ' H' s1 := fun j => j.ofTry ok
  refine wpAny_Try_except (wpAny_mono ((hb (wHold X.K X.N.length c i ts D) (X.pn ++ pins) (fun e s₁ => wpAny (model X.prog X.w) X.A (noteFrame e X.env) (fun _ s₂ => wpAny (model X.prog X.w) X.A (setFlight e none)
    (fun _ s₃ => wpAny (model X.prog X.w) X.A (handleBy e X.env [.ExceptHandler (some (.Name x np)) (some n) (b₀ :: suite) pos']) (SP X pins D) X.xe s₃) X.xe s₂) X.xe s₁) (fun u s' caught => ?_) PassesOwn.looking).run [] s σ H D (I.toTry _) h) (fun f s1 hsp => ?_) fun _ _ he => he)
  · obtain ⟨a, B, sI, pins', σ', H', cls, d, rfl, J', nb, up, sky, na, os, ag, C, dd, rfl, rfl, hm, go⟩ := caught
    have J := back J'
    show wpAny (model X.prog X.w) X.A (noteFrame (.ref a) X.env) _ _ _
    refine Sky.land Zc.steady hfr hf (by rw [← hs]; exact sky) fun h3 fl3 up3 => ?_
    obtain ⟨oe3, us3, he3, hz3, hd3⟩ := fl3.there
    have T3 := adopt (s' := s') J nb fl3.1 (up.trans up3) fl3.2.1 na he3 hz3 hd3 os ag
    have S3 := inSuite T3 a
    refine wpAny_handleBy_cons (codeAny_handlers_test ?_) (by intro q; cases q)
    have ty : PySem.W.Looks (model X.prog X.w) h3 (typeOf (.ref a)) (.ref C) := fun A Q E s k q => wpAny_typeOf_ref (k _ _ he3) (by rw [hz3.1]; exact q)
    have mt := PySem.W.exm_one (M := model X.prog X.w) T3.kIn ty hm
    have named : ∀ {Q : Value → Shared → Prop} {E : Value → Shared → Prop}, Q c { s' with heap := h3 } → wpAny (model X.prog X.w) (X.A.mark (some (.ref a))) (eval (.Name x np) X.env) Q E { s' with heap := h3 } := fun {Q E} q => by
      obtain ⟨g1, g2, g3 | ⟨g3, g4, g5⟩⟩ := hc
      · exact ld_glob (X := X.suite a (X.pn ++ pins)) S3 g1 g3 q g2
      · exact ld_blt (X := X.suite a (X.pn ++ pins)) S3 g1 g3 g4 q g5 g2
    refine named (mt.here ?_)
    refine codeAny_handlers_suite_as (lands_againZ fl3 fun h4 fl4 up4 => ?_)
    obtain ⟨oe4, us4, he4, hz4, hd4⟩ := fl4.there
    have T4 := adopt (s' := s') J nb fl4.1 ((up.trans up3).trans up4) fl4.2.1 na he4 hz4 hd4 os ag
    refine store_ok (X := X.suite a (X.pn ++ pins)) (v := .ref a) (inSuite T4 a) nd hi (.inl hln) rfl (fun s5 S5 => ?_) (.inr hln)
    refine wpAny_mono ((hsu a (X.pn ++ pins)).run [] s5 _ _ _ S5 (go a J.len na)) (fun f s6 hsp => ?_) (fun _ _ z => z.elim)
    have close : ∀ {σ6 : L2.St} {H6 : Hp} {Q : Shared → Prop}, L2.Inv (X.suite a (X.pn ++ pins)) [] σ6 H6 s6 → (∀ s7, L2.Inv X pins (σ6.set i none) H6 s7 → Q s7) → wpAny (model X.prog X.w) X.A (do bindName X.env n .none; unbindBehindTheSuite X.env n pos') (fun _ s7 => Q s7) X.xe s6 :=
      fun {σ6 H6 Q} S6 hq => gone_ok (offSuite S6 ok) nd hi hln hq
    match f, hsp with
    | .next, hsp =>
      obtain ⟨σ6, H6, S6, q6⟩ := hsp
      exact close S6 fun s7 J7 => ⟨_, _, J7, q6⟩
    | .brk, hsp =>
      obtain ⟨σ6, H6, S6, q6⟩ := hsp
      exact close S6 fun s7 J7 => ⟨_, _, J7, q6⟩
    | .cont, hsp =>
      obtain ⟨σ6, H6, S6, q6⟩ := hsp
      exact close S6 fun s7 J7 => ⟨_, _, J7, q6⟩
    | .ret u, hsp =>
      obtain ⟨v6, σ6, H6, S6, r6, q6⟩ := hsp
      exact close S6 fun s7 J7 => ⟨_, _, _, J7, r6, q6⟩
  · match f, hsp with
    | .next, hsp =>
      obtain ⟨σ', H', J', q⟩ := hsp
      exact wpAny_execs_nil ⟨σ', H', back J', q⟩
    | .brk, hsp =>
      obtain ⟨σ', H', J', q⟩ := hsp
      exact ⟨σ', H', back J', q⟩
    | .cont, hsp =>
      obtain ⟨σ', H', J', q⟩ := hsp
      exact ⟨σ', H', back J', q⟩
    | .ret u, hsp =>
      obtain ⟨v, σ', H', J', r, q⟩ := hsp
      exact ⟨v, σ', H', back J', r, q⟩
end LF
set_option Elab.async false
set_option linter.all false
set_option maxHeartbeats 8000000
set_option maxRecDepth 100000
/-! 'said': a call of a lambda, its refusals told. -/
namespace LF
open PySem PySem.Spec PyProof.Rows L2 HandSPX LamX
theorem noArgs_eq {a : Arguments} (h : noArgs a = true) : a = ⟨[], [], none, [], [], none, []⟩ := by
  unfold noArgs at h
  split at h
  · rfl
  · cases h
section
variable {L : Lk} {P : Prg} {C : Cal} {G : Gx} {lv : Nat}
/-- good, elsewhere -/
theorem Good.move {X Y : Cx} {E F : XK} (g : Good X L P C G lv E) (e1 : Y.prog = X.prog) (e2 : Y.w = X.w) (e3 : Y.K = X.K) (e4 : Y.mg = X.mg) (e5 : Y.base = X.base) (calm : Y.calm = true) (grd : Y.A.guards = some []) (room : Room lv Y.A) (nd : Y.N.Nodup)
    (nb : ∀ x ∈ Y.N, (x == ("__debug__" : Str)) = false ∧ (x == ("__classdict__" : Str)) = false) (air : Air Y F) : Good Y L P C G lv F := by
  obtain ⟨yp, yw, yK, ymg, yb, yA, yN, y0, yH, ye, yo, ys, yex, yfn, yc, ypn, yxe⟩ := Y
  dsimp only at e1 e2 e3 e4 e5
  subst e1 e2 e3 e4 e5
  exact ⟨g.K, calm, grd, room, nd, nb, air, g.blt, g.cos, g.dts, fun k f hk => ⟨(g.fns k f hk).nd, (g.fns k f hk).ex⟩, g.isi, g.att⟩
/-- x(), in the def that got the lambda -/
theorem pe_ask {X : Cx} {pins : List (Addr × Obj)} {σ : L2.St} {H : Hp} {s : Shared} {CXg : CXT} {Eg : XK} {Ng : List Str} {qg : Str} {sg : Scope} {g f c' : Addr} {cdg pm ctv : Value} {params : Arguments} {body : Expr} {scope : Scope} {k i : Nat} {a : Str} {pn : List (Addr × Obj)} {xe : Value → Shared → Prop} {W : WX} {E : XK} {tb : TE} {p1 p2 : Pos}
    (I : L2.Inv X pins σ H s) (hL : LamS X.env.scope scope) (hf : s.heap.get? f = some (PySem.W.kla_obj "<lambda>" (X.env.qual ++ "<lambda>") params body scope (cloFrom X.env.cells scope.names []) pm c' ctv)) (hfn : H f = none) (hfr : f ∉ frs X.stack)
    (hbind : bindArgs (PySem.W.kla_fn "<lambda>" (X.env.qual ++ "<lambda>") params body scope (cloFrom X.env.cells scope.names []) pm (.ref c') ctv) ⟨[], []⟩ = pure [])
    (tk : Takes ((cxOf CXg X.prog X.w X.K X.mg X.base Ng qg sg g cdg X.A X.stack s H Eg).tr pn xe) W) (hW : ∀ cls d σ' H', E cls d H' → W cls d σ' H') (hr : Room (k + 1) (X.A.deeper (envOfC qg sg s.heap.objs.size g cdg)))
    (hbody : ∀ (s1 : Shared) (H1 : Hp), Room k ((X.A.deeper (envOfC qg sg s.heap.objs.size g cdg)).deeper (lamEnv X scope s1.heap.objs.size f c')) →
      PE (lamCx X (X.A.deeper (envOfC qg sg s.heap.objs.size g cdg)) (envOfC qg sg s.heap.objs.size g cdg :: X.stack) s1 H1 E scope f c') body tb)
    (hN : Ng[i]? = some a) (hv : Vis sg a) (hd : (a == ("__debug__" : Str)) = false) (hcd : (a == ("__classdict__" : Str)) = false) :
    PE ((cxOf CXg X.prog X.w X.K X.mg X.base Ng qg sg g cdg X.A X.stack s H Eg).tr pn xe) (.Call (.Name a p1) [] [] p2)
      (fun σZ HZ Q => σZ[i]? = some (some (.ref f)) ∧ HZ c' = some (CodeO c' (X.env.qual ++ "<lambda>")) ∧ tb σ HZ Q) := by
  refine ⟨fun pinsZ sZ σZ HZ Q IZ ⟨hs, hc, ht⟩ => ?_⟩
  have name := (pe_var (X := (cxOf CXg X.prog X.w X.K X.mg X.base Ng qg sg g cdg X.A X.stack s H Eg).tr pn xe) (pos := p1) (i := i) hN hv hd hcd).run pinsZ sZ σZ HZ (fun v H1 => v = .ref f ∧ H1 = HZ) IZ ⟨.ref f, hs, rfl, rfl⟩
  refine wpAny_Call_Name_kw (thn name fun u s1 ⟨v, H1, I1, r1, ev, eH⟩ => ?_)
  subst ev
  rw [eH] at I1
  obtain rfl : u = Value.ref f := r1
  have lamAt := I1.base.keep f _ hf hfn hfr (fun z => nomatch (show f ∈ ([] : List Addr) from z))
  refine PySem.W.callWith_F0 ⟨_, _, _, _, lamAt⟩ ?_
  obtain ⟨⟨oc, vs, t, hoc, hdc, hvc⟩, _, _⟩ := I1.hok c' _ hc
  have run : codeAny (model X.prog X.w) (X.A.deeper (envOfC qg sg s.heap.objs.size g cdg)) (.call (.ref f) ⟨[], []⟩) (L2.CR (L2.CX X.prog X.w) (envOfC qg sg s.heap.objs.size g cdg :: X.stack) X.prog X.w HZ s1 Q E) s1 := by
    refine PySem.W.kla_callFunE hr.depth lamAt rfl hL.co hL.gen rfl ⟨c', oc, vs, t, rfl, hoc, hdc, hvc⟩ ?_
    rw [hbind]
    refine wpAny_pure (wpAny_newFunctionEnv (fun y hy => (hL.own y hy).2) (fun y hy => absurd hy (by simp)) (fun h₁ hns hsb => ⟨I1.nolimit.fresh _ hsb, ?_⟩) hL.kind)
    show codeAny _ _ (.expr body (lamEnv X scope s1.heap.objs.size f c')) _ _
    have start : L2.Inv (lamCx X (X.A.deeper (envOfC qg sg s.heap.objs.size g cdg)) (envOfC qg sg s.heap.objs.size g cdg :: X.stack) s1 HZ E scope f c') [] σ HZ { s1 with heap := h₁, toks := s1.toks + ([] : List (Str × Value)).length } :=
      lam_start2 I hL I1.env0 hr.hd I1.base hns fun b o e => hsb.extBut b o (Nat.ne_of_lt (Heap.lt_size e)) (Heap.get?_push_of_some _ e)
    refine PySem.W.kla_codeExpr (wpAny_mono ((hbody s1 HZ (hr.deeper _)).run [] _ _ HZ Q start ht) (fun v s' hq => ?_) fun e s' hq => hq)
    obtain ⟨w', H', J', rv, q⟩ := hq
    exact ⟨w', H', J'.os, J'.bare, J'.base, J'.hok, rv, q⟩
  refine wpAny_call (codeAny_mono run fun r s' hq => ?_)
  match r, hq with
  | .error e, hq => exact tk _ _ (XE.of_call I1 (fun cls d H' q => hW cls d σZ H' q) hq)
  | .ok (.ret u), hq => exact I1.after hq
  | .ok .next, hq => exact hq.elim
  | .ok .brk, hq => exact hq.elim
  | .ok .cont, hq => exact hq.elim
/-- what the text's def 'said' is -/
structure SaidF (P0 : Program) (K : PySem.W.Frag) (mg : Str → Option Value) (L : Lk) (P : Prg) (G : Gx) (Ng : List Str) (sg : Scope) (ask found en folk ref : Str) (body : List Stmt) (pm : List Nat) (CF : Addr) : Prop where
  nd : (G.said == ("__debug__" : Str)) = false
  ex : ∃ g fd params, mg G.said = some (.ref g) ∧ FunD K G.said G.said params body sg [] [] g fd ∧ L2.Binds K fd [ask] []
  S : FnScope Ng [ask] sg
  N : Ng = [ask, found, en]
  nb : ∀ x ∈ Ng, (x == ("__debug__" : Str)) = false ∧ (x == ("__classdict__" : Str)) = false
  vask : Vis sg ask
  lfound : sg.names.lookup found = some .local
  len : sg.names.lookup en = some .local
  gfolk : sg.names.lookup folk = some .globalImplicit
  ndf : (folk == ("__debug__" : Str)) = false
  mfolk : mg folk = some (.ref CF)
  exm : ∀ D, P.sub D P.folk = true → PySem.W.exmOne K (.ref (L.cA D)) (.ref CF) = some true
  shape : ∃ p1 k p2 p3 k2 p4 p5 p6 k3 p7 p8 p9 p10 p11 p12 p13 p14 p15 p16 p17 p18, body = [.Assign [.Name found p1] (.Constant .none k p2) p3, .Try [.Return (some (.Tuple [.Constant (.str "told") k2 p4, .Call (.Name ask p5) [] [] p6] k3 p7)) p8]
    [.ExceptHandler (some (.Name folk p9)) (some en) [.Assign [.Name found p10] (.Name en p11) p12] p13] [] [] p14, .Return (some (.Call (.Name ref p15) [.Name found p16] [] p17)) p18]
  comp : ∀ p15 p16 p17, ∃ n, comp G Ng n false sg (.Call (.Name ref p15) [.Name found p16] [] p17) = some (.call P.refusal (.cons (.var 1) .nil) [] pm)
  perm : ∀ x : IV, permute pm [x] = [x]
/-- how a lambda is made here -/
structure SDx (L : Lk) (lv : Nat) (X : Cx) : Prop where
  room : Room (lv + 4) X.A
  tab : ∃ c Pt, TabB X.base X.mg c Pt ∧ X.env.code = .ref c ∧ (Pt, X.env.qual ++ "<lambda>") ∈ L.T ∧ ∀ p ∈ L.T, p.1 = Pt → p.2 = X.env.qual ++ "<lambda>"
theorem saidFalse : SaidR L P C G lv fun _ => False := fun _ _ _ _ _ h => h.elim
theorem said_ok {P0 : Program} {K : PySem.W.Frag} {mg : Str → Option Value} {Ng : List Str} {sg : Scope} {ask found en folk ref : Str} {body : List Stmt} {pm : List Nat} {CF : Addr} (F : SaidF P0 K mg L P G Ng sg ask found en folk ref body pm CF) :
    SaidR L P C G lv fun X => X.K = K ∧ X.mg = mg ∧ SDx L lv X := by
  intro n ih X E gd ⟨eK, emg, sd⟩ a b ls lp p pos c hgl na ln hc
  obtain ⟨room, cc, Pt, TB, hcode, hmT, hu⟩ := sd
  have ea := noArgs_eq na
  subst ea
  have hLam := lamS_by ln
  obtain ⟨g, fd, params, mg1, FD, hbnd⟩ := F.ex
  obtain ⟨oc, od, dV, kV, doc, pmv, an, cdg, ct, osl, efd, lk, hcd, _, _⟩ := FD.ex
  subst efd
  rw [← eK] at lk hcd hbnd
  rw [← emg] at mg1
  have hk : PySem.W.keepIn X.K (.ref g) = true := by rw [eK]; exact FD.kp
  refine ⟨fun pins s σ H Q I ⟨ι, ρ, A, rf, rh, po⟩ => ?_⟩
  unfold evE at po
  refine wpAny_Call_Name_kw (ld_glob I (isGl_gl hgl) mg1 ?_ F.nd)
  refine PySem.W.callWith_K (h₀ := X.base) I.ok.mod.kin hk ?_ rfl rfl
  show wpAny _ _ (spliced ((false, eval (.Lambda ⟨[], [], none, [], [], none, []⟩ b ls lp) X.env) :: backTo pos (starEach [] X.env))) _ _ s
  refine Calls.spliced_cons (lam_make2 I TB hcode hmT hu rh.tab rfl (hLam.has I.ok) fun f c' pm' ctv H1 s1 I1 eN T1 hf hfn hfr hco => ?_)
  refine Calls.spliced_nil ⟨I1.kIn, ?_⟩
  -- the heap behind the lambda's making
  have ex1 : Ext ι H ι H1 := ⟨⟨[], by simp⟩, fun b o e st => eN b o e (fun ps z => by subst z; exact st)⟩
  have rh1 : RH L ι H1 A := ⟨rh.len, rh.nd, fun n' a o h1 h2 => (rh.at_ n' a o h1 h2).mono ex1 (by
    have r := rh.at_ n' a o h1 h2
    cases o with
    | lst xs => obtain ⟨ws, q, _⟩ := r; rw [q]; exact eN _ _ q (fun _ => nofun)
    | fro ns => obtain ⟨ob, q⟩ := r; rw [q]; exact eN _ _ q (fun _ => nofun)
    | dct kvs => obtain ⟨gs, q, _⟩ := r; rw [q]; exact eN _ _ q (fun _ => nofun)), T1⟩
  have rf1 := rf.mono ex1
  -- the frame of 'said'
  generalize hZA : X.A.deeper (envOfC G.said sg s1.heap.objs.size g cdg) = ZA
  have roomZ : Room (lv + 3) ZA := by rw [← hZA]; exact room.deeper _
  have grdZ : ZA.guards = some [] := by rw [← hZA]; exact gd.grd
  subst hZA
  have gZ : Good (Cxf X.prog X.w X.K X.mg X.base Ng G.said sg g cdg X.A X.stack s1 H1 E) L P C G lv E :=
    Good.move (Y := Cxf X.prog X.w X.K X.mg X.base Ng G.said sg g cdg X.A X.stack s1 H1 E) gd rfl rfl rfl rfl rfl rfl grdZ (roomZ.mono (by omega)) F.S.nd F.nb (Air.of rfl rfl (takes_of (E := E) rfl rfl rfl rfl))
  -- what the body lets out
  generalize hE' : (fun (cls : Value) (d : Option Addr) (H' : Hp) => ∃ (D : Nat) (fs : List IV) (A' : IH) (ι' : List Addr) (dd : Addr) (gs : List (Str × V)) (ws : List V), cls = .ref (L.cA D) ∧ d = some dd ∧ evE P C c ρ A = .ex D fs A' ∧ Ext ι H1 ι' H' ∧ RH L ι' H' A' ∧ H' dd = some (.xd gs) ∧
    (L.cf D).map (fun f => gs.lookup f) = ws.map some ∧ RVs L ι' H' fs ws) = E'
  have lam : ∀ (s2 : Shared) (H2 : Hp), Room lv ((X.A.deeper (envOfC G.said sg s1.heap.objs.size g cdg)).deeper (lamEnv X ls s2.heap.objs.size f c')) →
      SE (lamCx X (X.A.deeper (envOfC G.said sg s1.heap.objs.size g cdg)) (envOfC G.said sg s1.heap.objs.size g cdg :: X.stack) s2 H2 E' ls f c') L P C E' b c := fun s2 H2 hr =>
    ih _ E' (Good.move (Y := lamCx X (X.A.deeper (envOfC G.said sg s1.heap.objs.size g cdg)) (envOfC G.said sg s1.heap.objs.size g cdg :: X.stack) s2 H2 E' ls f c') gd rfl rfl rfl rfl rfl rfl gd.grd hr gd.nd gd.nb
      (Air.of rfl rfl (takes_of (X := lamCx X (X.A.deeper (envOfC G.said sg s1.heap.objs.size g cdg)) (envOfC G.said sg s1.heap.objs.size g cdg :: X.stack) s2 H2 E' ls f c') (E := E') rfl rfl rfl rfl))) b c hc
  have rc : codeAny (model X.prog X.w) X.A (.call (.ref g) ⟨[.ref f], []⟩) (L2.CR (L2.CX X.prog X.w) X.stack X.prog X.w H1 s1 Q E) s1 := by
    refine run_ofS (N := Ng) (ps := [ask]) (us := [.ref f]) (vs := [.ref f]) lk hcd F.S (k := lv + 3) room I1.env0 (by have := hbnd s1 [.ref f] I1.kIn rfl; simpa using this) (.cons rfl .nil) rfl fun hr' => ?_
    obtain ⟨q1, k, q2, q3, k2, q4, q5, q6, k3, q7, q8, q9, q10, q11, q12, q13, q14, q15, q16, q17, q18, ebody⟩ := F.shape
    obtain ⟨nc, hcomp⟩ := F.comp q15 q16 q17
    generalize hZ : Cxf X.prog X.w X.K X.mg X.base Ng G.said sg g cdg X.A X.stack s1 H1 E = Z at gZ
    have hN0 : Ng[0]? = some ask := by rw [F.N]; rfl
    have hN1 : Ng[1]? = some found := by rw [F.N]; rfl
    have hN2 : Ng[2]? = some en := by rw [F.N]; rfl
    have nbF := F.nb found (List.mem_of_getElem? hN1)
    have nbA := F.nb ask (List.mem_of_getElem? hN0)
    have nbE := F.nb en (List.mem_of_getElem? hN2)
    -- the statements
    let tbS : WX → TS := fun W D σZ HZ => (∀ cls d σ' H', E' cls d H' → W cls d σ' H') ∧ (tTup (tCons (tC (.str "told")) (tCons (fun σZ HZ Q => σZ[0]? = some (some (.ref f)) ∧ HZ c' = some (CodeO c' (X.env.qual ++ "<lambda>")) ∧ tE L E' (RV L) (evE P C c) σ HZ Q) tNil))) σZ HZ D.rt
    have st1 : PS Z (.Assign [.Name found q1] (.Constant .none k q2) q3) (tAsg (tC .non) (gName 1)) := by
      subst hZ
      exact ps_set F.S.nd hN1 (.inl F.lfound) pe_non rfl (.inl rfl)
    have st2 : PS Z (.Try [.Return (some (.Tuple [.Constant (.str "told") k2 q4, .Call (.Name ask q5) [] [] q6] k3 q7)) q8] [.ExceptHandler (some (.Name folk q9)) (some en) [.Assign [.Name found q10] (.Name en q11) q12] q13] [] [] q14)
        (fun D2 σ2 H2 => tbS (wHold X.K 3 (.ref CF) 2 (fun a => tAsg (tVar 2) (gName 1)) D2) D2 σ2 H2) := by
      have l3 : Ng.length = 3 := by rw [F.N]; rfl
      rw [← l3]
      subst hZ
      refine try_hold (X := Cxf X.prog X.w X.K X.mg X.base Ng G.said sg g cdg X.A X.stack s1 H1 E) (tb := tbS) rfl rfl F.S.nd hN2 F.len ⟨F.gfolk, F.ndf, .inl (by show X.mg folk = _; rw [emg]; exact F.mfolk)⟩ (fun W pn xe tk _ => ⟨fun pins' s' σ' H' D I' ⟨hW, h⟩ => ?_⟩) fun a pn => pss_one (ps_set F.S.nd hN1 (.inl F.lfound) (pe_var hN2 (.inl F.len) nbE.1 nbE.2) rfl (.inl rfl))
      have ask' := pe_ask (p1 := q5) (p2 := q6) (i := 0) I1 hLam hf hfn hfr rfl tk hW (k := lv + 2) hr' (fun s2 H2 hr2 => lam s2 H2 (hr2.mono (by omega))) hN0 F.vask nbA.1 nbA.2
      exact (pss_one (ps_ret (pe_tup (pa_cons pe_str (pa_cons ask' pa_nil rfl) rfl)))).run pins' s' σ' H' D I' h
    have st3 : SS Z L P C E (.Return (some (.Call (.Name ref q15) [.Name found q16] [] q17)) q18) (.ret (.call P.refusal (.cons (.var 1) .nil) [] pm)) := by
      subst hZ
      exact ss_ret (comp_sound (saidFalse) nc false _ E _ _ gZ (fun z => by cases z) hcomp).1
    subst hZ
    refine ⟨_, by rw [ebody]; exact pss_cons st1 (pss_cons st2 (pss_one st3)), ?_⟩
    have l3 : Ng.length = 3 := by rw [F.N]; rfl
    -- what the wish of exceptions comes to
    refine ⟨fun cls d σ' H' he => ?_, ?_⟩
    · rw [← hE'] at he
      obtain ⟨D, fs, A', ι', dd, gs, ws, rfl, rfl, er, e', rh', hdd, hcf, rvs⟩ := he
      rw [er] at po
      dsimp only at po
      split at po
      · rename_i hsub
        refine ⟨L.cA D, dd, rfl, rfl, by rw [eK]; exact F.exm D hsub, fun a hl ha => ⟨.ref a, ?_, ?_⟩⟩
        · rw [List.getElem?_set_self (by rw [hl]; decide)]
        · have ne : dd ≠ a := fun z => by
            rw [z, ha] at hdd
            cases hdd
          have ex2 : Ext ι' H' ι' (upd H' a (exT (L.cA D) dd a)) := Ext.lay ha
          refine ⟨ι', [none, some (.exc D fs), none], A', ⟨by simp [hl], fun i v hv => ?_⟩, rh'.lay ha, ?_⟩
          · match i, hv with
            | 0, hv => cases hv
            | 1, hv =>
              cases hv
              refine ⟨.ref a, ?_, a, dd, gs, ws, rfl, upd_same, by rw [upd_ne ne]; exact hdd, hcf, rvs.mono ex2⟩
              rw [List.getElem?_set_ne (by decide), List.getElem?_set_self (by rw [List.length_set, hl]; decide)]
            | 2, hv => cases hv
            | n' + 3, hv => simp at hv
          · have eargs : evEs P C (.cons (.var 1) .nil) [none, some (.exc D fs), none] A' = .ok [.exc D fs] A' := by
              unfold evEs evE evEs
              rfl
            unfold evS evE
            rw [eargs]
            show PoS L E ι' _ ((C P.refusal (permute pm ([.exc D fs] ++ [])) A').on _ fun v A => .rt v A) _
            rw [List.append_nil, F.perm]
            have pb := Po.base po ((ex1.trans e').trans ex2)
            cases hr2 : C P.refusal [.exc D fs] A' with
            | ok v A2 => rw [hr2] at pb; exact pb
            | ex D2 fs2 A2 => rw [hr2] at pb; exact pb
            | bad => rw [hr2] at pb; exact pb.elim
      · exact po.elim
    · refine ⟨?_, hco, ι, ρ, A, rf1, rh1, ?_⟩
      · rw [F.N]
        rfl
      · cases hr : evE P C c ρ A with
        | bad => rw [hr] at po; exact po.elim
        | ex D fs A' =>
          intro ι' H' dd gs ws e' rh' hd hcf rvs
          rw [← hE']
          exact ⟨D, fs, A', ι', dd, gs, ws, rfl, rfl, hr, e', rh', hd, hcf, rvs⟩
        | ok v A' =>
          rw [hr] at po
          intro ι' H' w e' rh' rv
          refine ⟨by show 2 ≤ sizeLine; decide, fun p hp => ?_⟩
          exact Po.at_ (show Po L (RV L) E ι H (.ok (.tup [.str "told", v]) A') Q from po) ((ex1.trans e').trans (Ext.lay hp)) (rh'.lay hp) (RV.tupNew hp (.cons (show RV L ι' H' (.str "told") (.str "told") from rfl) (.cons rv .nil)))
  refine wpAny_call (codeAny_mono rc fun r s2 hq => ?_)
  match r, hq with
  | .error e, hq => exact gd.air.passes (fun _ _ _ q => q) I1 hq
  | .ok (.ret u), hq => exact I1.after hq
  | .ok .next, hq => exact hq.elim
  | .ok .brk, hq => exact hq.elim
  | .ok .cont, hq => exact hq.elim
end
end LF
set_option Elab.async false
set_option linter.all false
set_option maxHeartbeats 8000000
set_option maxRecDepth 100000
/-! The law's call behind the head. -/
namespace LF
open PySem PySem.Spec PyProof.Rows L2 LamX
/-- what is tracked at the law's entry: the script, the law's table of code objects -/
def H0 (a Pt : Addr) (o : Obj) (ns : List Int) : Hp := fun b => if b = a then some (.frz o (.lst (ns.map V.int))) else if b = Pt then some (.tbl #[]) else none
theorem law_in {P0 : Program} {w : World} {K : PySem.W.Frag} {mg mb : Str → Option Value} {fa a c Pt : Addr} {s₁ : Shared} {vs : List Value} {ns : List Int} (KX : K.In s₁.heap) (hns : s₁.heap.Ns mainGlobals mg) (hb : s₁.heap.Ns builtinsNs mb)
    (hbb : ∀ x : Str, x ≠ "__name__" → mb x = bootBuiltins x) (hlim : s₁.heap.NoLimit) (hg : s₁.gens = #[]) (hT : s₁.heap.get? Pt = some { cls := .none, data := .fields #[] }) (nT : K.lookup Pt = none) (C : PySem.W.CodeHd s₁.heap c Pt)
    (hbm : ∃ (bm : Addr) (ob : Obj), mg "__builtins__" = some (.ref bm) ∧ bm ≠ builtinsNs ∧ s₁.heap.get? bm = some ob ∧ ob.cls = .type "module" ∧ ob.dict = some builtinsNs ∧ ob.data = .plain)
    (ha : s₁.heap.get? a = some { cls := .type "list", data := .seq vs.toArray }) (hi : IntsAre vs ns) (hl : ns.length ≤ sizeLine) (nA : K.lookup a = none)
    (F : ∀ base : Heap, K.In base → base.Ns mainGlobals mg → TabB base mg c Pt → L2.Env0 P0 w K mg base callerA [] s₁ (H0 a Pt { cls := .type "list", data := .seq vs.toArray } ns) →
      codeAny (model P0 w) callerA (.call (.ref fa) ⟨[.ref a], []⟩) (L2.CR (L2.CX P0 w) [] P0 w (H0 a Pt { cls := .type "list", data := .seq vs.toArray } ns) s₁ (fun v _ => v = .bl true) fun _ _ _ => False) s₁) :
    codeAny (model P0 w) callerA (.call (.ref fa) ⟨[.ref a], []⟩) (fun r s' => r = .ok (.ret (.bool true)) ∧ OldK s₁.heap s'.heap ∧ s'.os = s₁.os ∧ AllBare s'.gens) s₁ := by
  have lenV := hi.length
  have ne : Pt ≠ a := fun z => by
    rw [z, ha] at hT
    have := congrArg Obj.data (Option.some.inj hT)
    cases this
  generalize hH : H0 a Pt { cls := .type "list", data := .seq vs.toArray } ns = H at F
  have atA : H a = some (.frz { cls := .type "list", data := .seq vs.toArray } (.lst (ns.map V.int))) := by rw [← hH]; exact if_pos rfl
  have atP : H Pt = some (.tbl #[]) := by rw [← hH]; exact (if_neg ne).trans (if_pos rfl)
  have atO : ∀ b, b ≠ a → b ≠ Pt → H b = none := fun b h1 h2 => by rw [← hH]; exact (if_neg h1).trans (if_neg h2)
  have plain : ∀ {b : Addr} {o : Obj}, s₁.heap.get? b = some o → (∀ us n, o.data ≠ .seq us n) → o.data ≠ .fields #[] → H b = none := fun {b o} e h1 h2 => by
    refine atO b (fun z => ?_) (fun z => ?_)
    · rw [z, ha] at e
      cases e
      exact h1 _ _ rfl
    · rw [z, hT] at e
      cases e
      exact h2 rfl
  have ns' : ∀ {b : Addr} {m : Str → Option Value}, s₁.heap.Ns b m → (hidT s₁.heap H).Ns b m := fun {b m} ⟨o, es, ep, e, d, r⟩ =>
    ⟨o, es, ep, hidT_get e (plain e (fun us n z => by rw [d] at z; cases z) (fun z => by rw [d] at z; cases z)), d, r⟩
  have inK : K.In (hidT s₁.heap H) := fun b o e => hidT_get (KX b o e) (atO b (fun z => by rw [z, nA] at e; cases e) (fun z => by rw [z, nT] at e; cases e))
  have modK : L2.Mod K mg (hidT s₁.heap H) := ⟨inK, ns' hns, ⟨mb, ns' hb, hbb⟩, let ⟨mc, h1, h2⟩ := hlim; ⟨mc, ns' h1, h2⟩⟩
  have tabB : TabB (hidT s₁.heap H) mg c Pt := by
    refine ⟨?_, ?_, fun z => ?_⟩
    · obtain ⟨o, us, file, tf, flags, tg, inF, text, tt, e1, r1, r2, r3, rest⟩ := C
      exact ⟨o, us, file, tf, flags, tg, inF, text, tt, hidT_get e1 (plain e1 (fun us' n z => by rw [r2] at z; cases z) (fun z => by rw [r2] at z; cases z; simp at r3)), r1, r2, r3, rest⟩
    · obtain ⟨bm, ob, b1, b2, b3, b4, b5, b6⟩ := hbm
      refine ⟨bm, ob, b1, b2, fun q => ?_, fun q => ?_, hidT_get b3 (plain b3 (fun us' n z => by rw [b6] at z; cases z) (fun z => by rw [b6] at z; cases z)), b4, b5, b6⟩
      · obtain ⟨o, es, ep, e, hd, _⟩ := hns
        rw [q, e] at b3
        cases b3
        rw [hd] at b6
        cases b6
      · rw [q, hT] at b3
        cases b3
        cases b6
    · obtain ⟨o, es, ep, e, hd, _⟩ := hns
      rw [z, hT] at e
      cases e
      cases hd
  have hok : HOk P0 w H s₁.heap := fun b u e => by
    by_cases h1 : b = a
    · rw [h1, atA] at e
      cases e
      rw [h1]
      exact ⟨ha, by rw [List.length_map]; exact hl, vs, _, vals_ints hi, ha⟩
    · by_cases h2 : b = Pt
      · rw [h2, atP] at e
        cases e
        rw [h2]
        exact hT
      · rw [atO b h1 h2] at e
        cases e
  have env : L2.Env0 P0 w K mg (hidT s₁.heap H) callerA [] s₁ H := ⟨rfl, modK, fun b o e => of_hidT e, Nat.le_of_eq (hidT_size _ _), trivial, fun b hb => absurd (show b ∈ ([] : List Addr) from hb) (by simp), hok, .of_eq hg⟩
  refine codeAny_mono (F _ inK (ns' hns) tabB env) fun r s' h => ?_
  match r, h with
  | .error e, h =>
    obtain ⟨_, _, _, _, _, _, _, _, _, _, _, _, z⟩ := h
    exact z.elim
  | .ok .next, h => exact h.elim
  | .ok .brk, h => exact h.elim
  | .ok .cont, h => exact h.elim
  | .ok (.ret u), h =>
    obtain ⟨v, H', os, bare, un, hok', ru, q⟩ := h
    have q : v = .bl true := q
    subst q
    obtain rfl : u = Value.bool true := ru
    have kept : ∀ b o, b ≠ Pt → s₁.heap.get? b = some o → s'.heap.get? b = some o := fun b o nb e => by
      by_cases h1 : b = a
      · subst h1
        have z2 := un.frzs b _ _ atA
        obtain ⟨e2, _⟩ := hok' b _ z2
        rw [ha] at e
        cases e
        exact e2
      · exact un.keep b o e (atO b h1 nb) (fun z => absurd (show b ∈ ([] : List Addr) from z) (by simp)) (by simp)
    obtain ⟨more, z⟩ := un.tbls Pt #[] atP
    have grown : s'.heap.get? Pt = some { cls := .none, data := .fields (#[] ++ more) } := hok' Pt _ z
    refine ⟨rfl, ⟨fun b o e => ?_, fun b o e => ?_⟩, os, bare⟩
    · by_cases hb : b = Pt
      · rw [hb] at e ⊢
        rw [hT] at e
        cases e
        exact .inr (.inl ⟨(C.tab hT).isCodeTable, rfl, #[], more, rfl, grown⟩)
      · exact .inl (kept b o hb e)
    · by_cases hb : b = Pt
      · rw [hb]
        exact ⟨_, grown⟩
      · exact ⟨o, kept b o hb e⟩
/-- the layer's entry as the interpreter's -/
theorem entry_rh {L : Lk} {a Pt : Addr} {o : Obj} {ns : List Int} {q : Str} (ne : Pt ≠ a) (hT : L.T = [(Pt, q)]) : RH L [a] (H0 a Pt o ns) [.fro ns] := by
  have atA : H0 a Pt o ns a = some (.frz o (.lst (ns.map V.int))) := if_pos rfl
  have atP : H0 a Pt o ns Pt = some (.tbl #[]) := (if_neg ne).trans (if_pos rfl)
  refine ⟨rfl, by simp, fun n b u h1 h2 => ?_, fun p hp => ?_⟩
  · cases n with
    | succ n => simp at h1
    | zero =>
      simp at h1 h2
      subst h1 h2
      exact ⟨o, atA⟩
  · rw [hT] at hp
    simp at hp
    subst hp
    exact TabS.nil atP
end LF
set_option Elab.async false
set_option linter.all false
set_option maxHeartbeats 8000000
set_option maxRecDepth 100000
/-! isinstance of a caught error that has its dict. -/
namespace LF
open PySem PySem.Spec PySem.Calls PyProof.Rows PySem.W
section
variable {prog : Program} {w : World} {A : Around} {E : Value → Shared → Prop} {s : Shared} {K : Frag} {x D : Addr} {ox : Obj} {od : Option Obj}
/-- what the class says of the way to an instance's class -/
def icB (K : Frag) (D : Addr) : Bool :=
  decide (findIn K (.ref D) "__getattribute__" = some (some (.builtin "BaseException.__getattribute__"))) && (decide (findIn K (.ref D) "__getattr__" = some none) && (decide (subIn K (.ref D) (.type "BaseException") = some true) && (hasDictIn K D &&
    (decide (findIn K (.ref D) "__class__" = some (some (.builtin "object.__class__"))) && (decide (specialIn K (.builtin "object.__class__") "__get__" = some (some (.builtin "getset_descriptor.__get__"))) && (decide (takesIn K (.builtin "object.__class__") = some true) && decide (mroIn K D (.type "object") = some true)))))))
theorem icB_ok (h : icB K D = true) : L2.ExcC K D := by
  unfold icB at h
  simp only [Bool.and_eq_true, decide_eq_true_eq] at h
  obtain ⟨h1, h2, h3, h4, h5, h6, h7, h8⟩ := h
  exact ⟨h1, h2, h3, h4, h5, h6, h7, h8⟩
theorem find_cls (C : L2.ExcC K D) : findObj K D od "__class__" = some (.bind (.builtin "getset_descriptor.__get__") (.builtin "object.__class__")) := by
  obtain ⟨cd, hc, _⟩ := any_some C.hd
  unfold findObj
  rw [hc, Option.bind_some, C.ha, Option.bind_some]
  simp [C.hn, C.ht]
theorem class_of {Q : Option Value → Shared → Prop} (C : L2.ExcC K D) (X : K.In s.heap) (I : InstAt s.heap x ox D od) (q : Q (some (.ref D)) { s with toks := s.toks + 1 }) : wpAny (model prog w) A (getAttr? (.ref x) "__class__") Q E s := by
  obtain ⟨hp, g, d, t, os⟩ := s
  have T0 := I.type (M := model prog w)
  have T1 := looks_findIn (M := model prog w) X C.hg
  have T2 := looks_findIn (M := model prog w) X C.hk
  have T3 := looks_find (M := model prog w) X I (find_cls C)
  have isB : Looks (model prog w) hp (isInstance (.ref x) (.type "BaseException")) true := T0.andThen (looks_subIn X C.hs)
  have y0 : (false && onTheHeap (Value.builtin "BaseException.__getattribute__")) = false := rfl
  have yb : (Value.builtin "BaseException.__getattribute__" == Value.builtin "object.__getattribute__") = false := by decide +kernel
  have y1 : (onTheHeap (Value.ref D) && Value.builtin "BaseException.__getattribute__" == Value.builtin "object.__getattribute__") = false := by rw [yb]; exact Bool.and_false _
  unfold getAttr? getAttrBy? getAttrBy
  refine wpAny_bind (wpAny_mkText (wpAny_bind (wpAny_attempt (wpAny_holding (wpAny_bind (T0.at (wpAny_bind (T1.at ?_))))))))
  change wpAny _ _ (if (onTheHeap (Value.ref D) && Value.builtin "BaseException.__getattribute__" == Value.builtin "object.__getattribute__") = true then _ else _) _ _ _
  rw [y1, if_neg Bool.false_ne_true]
  unfold getAttrByItsOwn hookBefore
  refine wpAny_bind ?_
  rw [if_pos (show onTheHeap (Value.ref D) = true by rfl)]
  refine T2.at (wpAny_bind (wpAny_attempt (wpAny_holding ?_)))
  unfold callGetattribute
  rw [y0, if_neg Bool.false_ne_true]
  unfold boundAndCalled
  rw [PySem.F.excAttr_ValueError.ga.bind (.ref x)]
  refine wpAny_bind (wpAny_pure (show wpAny _ _ (call (.builtin "BaseException.__getattribute__") [.ref x, .str "__class__" t]) _ _ _ from wpAny_call (codeAny_call_builtin PySem.F.excAttr_ValueError.ga.plain PySem.F.entry_bexc_ga ?_)))
  refine @check_slot (model prog w) _ _ ⟨hp, g, d, t + 1, os⟩ "BaseException.__getattribute__" "BaseException" "__getattribute__" (.ref x) [.str "__class__" t] [] _ (by decide +kernel) (by decide +kernel) isB (PySem.F.args_bexc_ga (.ref x) (.str "__class__" t)) ?_
  unfold Builtin.«object.__getattribute__»
  refine wpAny_bind (wpAny_of_eq (a := ((Value.ref x : Value), [Value.str "__class__" t])) (by first | rfl | (simp only [slotArgs]; rfl)) (wpAny_bind (wpAny_pure (wpAny_bind (T0.at (wpAny_bind (T3.at ?_)))))))
  change wpAny _ _ (holding [Value.builtin "object.__class__"] (call (.builtin "getset_descriptor.__get__") [.builtin "object.__class__", .ref x, .ref D]) >>= ret) _ _ _
  refine wpAny_bind (wpAny_holding (wpAny_call (class_get (s := ⟨hp, g, d, t + 1, os⟩) (ox := ox) (od := od) X I C.hm (wpAny_pure ?_))))
  change wpAny _ _ (handedOut (.ref D)) _ _ _
  rw [handedOut_of (v := .ref D) rfl]
  first
    | exact wpAny_pure (wpAny_pure q)
    | exact wpAny_pure q
    | exact wpAny_pure (wpAny_bind (wpAny_pure (wpAny_pure q)))
theorem kit_exc (C : L2.ExcC K D) : KitX K (.ref x) (.ref D) (fun h => InstAt h x ox D od) where
  ty := fun _ _ _ I => I.type
  it := fun _ _ X _ => by
    obtain ⟨cd, hc, _⟩ := any_some C.hd
    unfold clsIn at hc
    split at hc
    · rename_i e1
      intro A' Q' E' s' k q
      unfold isType loadHead
      exact wpAny_bind (wpAny_loadPart (k _ _ (X _ _ e1)) (wpAny_pure q))
    · cases hc
  ne := fun h tp dd its n sl X htp => by
    obtain ⟨cd, hc, _⟩ := any_some C.hd
    refine Bool.eq_false_iff.mpr fun q => ?_
    obtain rfl : D = tp := Value.ref.inj (beq_iff_eq.mp q)
    unfold clsIn at hc
    split at hc
    · rename_i e1
      cases (X _ _ e1).symm.trans htp
    · cases hc
  ca := fun X I k => class_of C X I k
end
end LF
set_option Elab.async false
set_option linter.all false
set_option maxHeartbeats 8000000
set_option maxRecDepth 100000
/-! What the head tells, as Bools of what stands behind it. -/
namespace LF
open PySem PySem.Spec PyProof.Rows L2
/-! ### constants -/
def relI : IV → Value → Bool
  | .non, .none => true
  | .bl b, .bool c => b == c
  | .int i, .int j _ => decide (i = j)
  | .str x, .str y _ => decide (x = y)
  | _, _ => false
theorem relI_ok {L : Lk} {c : IV} {u : Value} (h : relI c u = true) : ∃ v, RelV v u ∧ ∀ ι H, RV L ι H c v := by
  unfold relI at h
  split at h
  · exact ⟨.non, rfl, fun _ _ => rfl⟩
  · rename_i b c
    obtain rfl : b = c := beq_iff_eq.mp h
    exact ⟨.bl b, rfl, fun _ _ => rfl⟩
  · rename_i i j t
    obtain rfl : i = j := of_decide_eq_true h
    exact ⟨.int i, ⟨t, rfl⟩, fun _ _ => rfl⟩
  · rename_i x y t
    obtain rfl : x = y := of_decide_eq_true h
    exact ⟨.str x, ⟨t, rfl⟩, fun _ _ => rfl⟩
  · cases h
def conB (K : PySem.W.Frag) (d : Addr) (x : Str) (c : IV) : Bool := match PySem.W.nsIn K d x with
  | some (some u) => relI c u
  | _ => false
theorem conB_ok {K : PySem.W.Frag} {L : Lk} {d : Addr} {x : Str} {c : IV} (h : conB K d x c = true) : ∃ u v, PySem.W.nsIn K d x = some (some u) ∧ RelV v u ∧ ∀ ι H, RV L ι H c v := by
  unfold conB at h
  split at h
  · rename_i u e
    obtain ⟨v, r, q⟩ := relI_ok (L := L) h
    exact ⟨u, v, e, r, q⟩
  · cases h
def keysB (K : PySem.W.Frag) (d : Addr) (ks : List Str) : Bool := match K.lookup d with
  | some ⟨_, _, .dict es _, _⟩ => es.toList.all fun e => match e.key with
    | .str x _ => ks.contains x
    | _ => false
  | _ => false
theorem keys_out {K : PySem.W.Frag} {d : Addr} {ks : List Str} {z : Str} (h : keysB K d ks = true) (hz : z ∉ ks) : PySem.W.nsIn K d z = some none := by
  unfold keysB at h
  unfold PySem.W.nsIn
  split at h
  · rename_i es n sl e
    rw [e]
    dsimp only
    have all := List.all_eq_true.mp h
    have h1 : es.toList.find? (fun e => e.key.isStr z) = none := by
      rw [List.find?_eq_none]
      intro en hen q
      have := all en hen
      obtain ⟨hs, k, vl⟩ := en
      dsimp only at this q
      cases k with
      | str x t =>
        have q2 : (x == z) = true := q
        rw [beq_iff_eq.mp q2] at this
        exact hz (List.contains_iff_mem.mp this)
      | _ => cases this
    have h2 : es.toList.any (fun e => e.refKey) = false := by
      rw [List.any_eq_false]
      intro en hen q
      have := all en hen
      obtain ⟨hs, k, vl⟩ := en
      dsimp only at this
      cases k with
      | str x t => cases q
      | _ => cases this
    rw [h1]
    dsimp only
    rw [if_neg (by rw [h2]; exact Bool.false_ne_true)]
  · cases h
theorem lookup_mem' {α : Type} {z : Str} {v : α} : ∀ {l : List (Str × α)}, l.lookup z = some v → (z, v) ∈ l
  | [], h => by cases h
  | (b, u) :: r, h => by
    rw [List.lookup_cons] at h
    split at h
    · rename_i q
      cases h
      rw [beq_iff_eq.mp q]
      exact List.mem_cons_self
    · exact List.mem_cons_of_mem _ (lookup_mem' h)
theorem lookup_nin {α : Type} {z : Str} : ∀ {l : List (Str × α)}, l.lookup z = none → z ∉ l.map (·.1)
  | [], _, m => by cases m
  | (b, u) :: r, h, m => by
    rw [List.lookup_cons] at h
    split at h
    · cases h
    · rename_i q
      rcases List.mem_cons.mp m with e | m
      · rw [e] at q
        simp at q
      · exact lookup_nin h m
def dtB (K : PySem.W.Frag) (x : Str) (kvs : List (Str × IV)) : Bool := (He.Fa.glo x).ok K && (keysB K (He.ga K x) (kvs.map (·.1)) && kvs.all fun q => conB K (He.ga K x) q.1 q.2)
/-! ### classes -/
def oexB (K : PySem.W.Frag) (C : Addr) : Bool := match K.lookup C with
  | some ⟨.type "type", _, .cls cd, sl⟩ => (match cd.mro, sl.toList with
    | .ref C' :: bm, [_, _, _, _, some (.builtin n), _] => decide (C' = C) && (decide (n = "ValueError.__new__") && (!cd.hasDel && (cd.hasDict && PySem.HandSPX.refsVE bm)))
    | _, _ => false)
  | _ => false
def oexC (K : PySem.W.Frag) (C : Addr) : Bool := oexB K C && (decide (PySem.W.findIn K (.ref C) "__setattr__" = some (some (.builtin "object.__setattr__"))) && (decide (PySem.W.subIn K (.ref C) (.type "BaseException") = some true) && (decide (PySem.W.typeIn K (.ref C) = some (.type "type")) && PySem.W.keepIn K (.ref C))))
theorem oexC_ok {K : PySem.W.Frag} {C : Addr} (h : oexC K C = true) : OexC K C := by
  unfold oexC at h
  simp only [Bool.and_eq_true, decide_eq_true_eq] at h
  obtain ⟨h0, h1, h2, h3, h4⟩ := h
  refine ⟨?_, h1, h2, h3, h4⟩
  unfold oexB at h0
  split at h0
  · rename_i dd cd sl ho
    split at h0
    · rename_i C' bm k0 k1 k2 k3 n k5 hm hs
      simp only [Bool.and_eq_true, decide_eq_true_eq, Bool.not_eq_true'] at h0
      obtain ⟨rfl, rfl, hdel, hdd, hv⟩ := h0
      obtain ⟨nm, bs, mro, ns, qn, hd, sn, sub, ab, col, dl⟩ := cd
      dsimp only at hm hdel hdd
      subst hm hdel hdd
      obtain ⟨l⟩ := sl
      simp only at hs
      subst hs
      exact ⟨nm, qn, ns, bs, bm, sn, sub, ab, col, dd, k0, k1, k2, k3, k5, ho, hv⟩
    · cases h0
  · cases h0
/-- a class above, asked for its way to make one ready -/
def upB (K : PySem.W.Frag) (C : Addr) : Bool := decide (PySem.W.specialIn K (.ref C) "__getattribute__" = some (some (.builtin "type.__getattribute__"))) && PySem.W.readsIn K C (.type "type") && (match PySem.W.findCls K (.ref C) (.type "type") "__init__" with
  | some (.val (.builtin "ValueError.__init__")) => true
  | _ => false)
theorem upB_ok {K : PySem.W.Frag} {C : Addr} (h : upB K C = true) : PySem.W.specialIn K (.ref C) "__getattribute__" = some (some (.builtin "type.__getattribute__")) ∧ PySem.W.readsIn K C (.type "type") = true ∧ PySem.W.findCls K (.ref C) (.type "type") "__init__" = some (.val (.builtin "ValueError.__init__")) := by
  unfold upB at h
  simp only [Bool.and_eq_true, decide_eq_true_eq] at h
  obtain ⟨⟨h1, h2⟩, h3⟩ := h
  refine ⟨h1, h2, ?_⟩
  split at h3
  · rename_i e
    exact e
  · cases h3
theorem pe_upinit {X : Cx} {x : Str} {C : Addr} {e : Expr} {es : List Expr} {p1 p2 pos : Pos} {ta : TA} {pl : Sem Bool} (hg : Gl X x) (hm : X.mg x = some (.ref C)) (nd : (x == ("__debug__" : Str)) = false) (u : upB X.K C = true) (ha : PA X (e :: es) ta)
    (hc : eval (.Call (.Attribute (.Name x p1) "__init__" p2) (e :: es) [] pos) X.env = (do
      let o ← eval (.Name x p1) X.env
      standAt p2.atName
      let (f, fst) ← holding [o] (getMethod o "__init__" pl)
      callWith pos f fst (backTo pos (starEach (e :: es) X.env)) (backToKw pos (keywordEach [] X.env))) := by rfl)
    (he : starEach (e :: es) X.env = (false, eval e X.env) :: starEach es X.env := by rfl) (hpl : (backTo pos (starEach es X.env)).any (·.1) = false := by rfl) :
    PE X (.Call (.Attribute (.Name x p1) "__init__" p2) (e :: es) [] pos) (tVeI X.K ta) := by
  obtain ⟨u1, u2, u3⟩ := upB_ok u
  refine ⟨fun pins s σ H Q I h => PySem.W.methodCall_KW (ld_glob I hg hm ?_ nd) hc⟩
  refine PySem.W.method_cls I.kIn u1 (PySem.W.cls_value I.kIn u2 u3 (by decide +kernel) ?_)
  show wpAny _ _ (callWith pos (Value.builtin "ValueError.__init__") [] (backTo pos (starEach (e :: es) X.env)) []) _ _ _
  refine PyProof.Rows.callWith_method1 (thn (ha.run pos pins _ σ H _ (I.tok _) h) fun us s1 ⟨vs, H1, J, r1, a, D, ws, ev, hl, T, ea, q⟩ => ?_) he hpl
  subst ev
  cases r1 with
  | @cons _ u0 _ ur ra rw' =>
    obtain rfl : u0 = Value.ref a := ra
    exact oinit_ok T J ea (by rw [← Paired.length rw', sizeLine_eq]; omega) fun s' J' => ⟨.non, H1, J', rfl, q⟩
end LF
set_option Elab.async false
set_option linter.all false
set_option maxHeartbeats 8000000
set_option maxRecDepth 100000
/-! isinstance, fields. -/
namespace LF
open PySem PySem.Spec PyProof.Rows L2
def lkOf (G : Gx) (K : PySem.W.Frag) (T : List (Addr × Str)) : Lk := ⟨K, fun k => He.ga K ((G.cls[k]?.map (·.1)).getD ""), fun k => (G.cls[k]?.map (·.2)).getD [], T⟩
/-- what is told of the classes: lv those that are ever made -/
def clsB (G : Gx) (P : Prg) (K : PySem.W.Frag) (lv : List Nat) : Bool :=
  G.cls.all (fun c => (He.Fa.glo c.1).ok K) && lv.all fun D => icB K ((lkOf G K []).cA D) && (xfB K ((lkOf G K []).cA D) && (decide (PySem.W.kitOne K (.ref ((lkOf G K []).cA D)) (.type "ValueError") = some true) &&
    ((List.range G.cls.length).all (fun k => decide (PySem.W.kitOne K (.ref ((lkOf G K []).cA D)) (.ref ((lkOf G K []).cA k)) = some (P.sub D k))) && ((lkOf G K []).cf D).all fun f => decide (PySem.W.findIn K (.ref ((lkOf G K []).cA D)) f = some none))))
section
variable {G : Gx} {P : Prg} {K : PySem.W.Frag} {lv : List Nat} {T : List (Addr × Str)} {mg : Str → Option Value}
theorem clsB_one (h : clsB G P K lv = true) {D : Nat} (hD : D ∈ lv) : ExcC K ((lkOf G K T).cA D) ∧ XfC K ((lkOf G K T).cA D) ∧ PySem.W.kitOne K (.ref ((lkOf G K T).cA D)) (.type "ValueError") = some true ∧
    (∀ k, k < G.cls.length → PySem.W.kitOne K (.ref ((lkOf G K T).cA D)) (.ref ((lkOf G K T).cA k)) = some (P.sub D k)) ∧ ∀ f ∈ (lkOf G K T).cf D, PySem.W.findIn K (.ref ((lkOf G K T).cA D)) f = some none := by
  have h2 := List.all_eq_true.mp (He.ba h).2 D hD
  obtain ⟨a, h2⟩ := He.ba h2
  obtain ⟨b, h2⟩ := He.ba h2
  obtain ⟨c, h2⟩ := He.ba h2
  obtain ⟨d, e⟩ := He.ba h2
  exact ⟨icB_ok a, xfB_ok b, of_decide_eq_true c, fun k hk => of_decide_eq_true (List.all_eq_true.mp d k (List.mem_range.mpr hk)), fun f hf => of_decide_eq_true (List.all_eq_true.mp e f hf)⟩
theorem lit_ty {n : String} {u : Value} : RelV (.ty n) u ↔ u = .type n := Iff.rfl
/-- where an exception stands -/
theorem exc_stand {X : Cx} {pins : List (Addr × Obj)} {σ : L2.St} {H : Hp} {s : Shared} {L : Lk} {ι : List Addr} {D : Nat} {fs : List IV} {y : V} {u : Value} (I : L2.Inv X pins σ H s) (ru : RelV y u) (rv : RV L ι H (.exc D fs) y) :
    ∃ (a d : Addr) (oe od : Obj) (gs : List (Str × V)) (ws : List V) (mA : Str → Option Value), u = .ref a ∧ PySem.W.InstAt s.heap a oe (L.cA D) (some od) ∧ (L.cf D).map (fun f => gs.lookup f) = ws.map some ∧ RVs L ι H fs ws ∧
      (∀ f, RelO (gs.lookup f) (mA f)) ∧ ∀ f, PySem.W.lookIn f od = some (mA f) := by
  unfold RV at rv
  obtain ⟨a, d, gs, ws, rfl, h1, h2, h3, h4⟩ := rv
  obtain rfl : u = Value.ref a := ru
  have x1 : ObjOk X.prog X.w H s.heap a (exT (L.cA D) d a) := I.hok a _ h1
  obtain ⟨⟨oe, us, e1, e2, e3, e4⟩, _, _⟩ := x1
  have x2 : ObjOk X.prog X.w H s.heap d (.xd gs) := I.hok d _ h2
  obtain ⟨mA, hns, hr⟩ := x2
  obtain ⟨od, ho, hl⟩ := lookIn_ns hns
  exact ⟨a, d, oe, od, gs, ws, mA, rfl, ⟨e1, e2, by unfold PySem.W.notCls; rw [e4] <;> rfl, by rw [e3]; exact ho⟩, h3, h4, hr, hl⟩
/-- isinstance of an exception -/
theorem isi_exc {X : Cx} {pins : List (Addr × Obj)} {σ : L2.St} {H : Hp} {s : Shared} {L : Lk} {ι : List Addr} {D : Nat} {fs : List IV} {y : V} {u cu : Value} {b : Bool} {Q : VK} (hK : X.K = K) (C : ExcC K (L.cA D)) (I : L2.Inv X pins σ H s) (ru : RelV y u) (rv : RV L ι H (.exc D fs) y)
    (hk : PySem.W.kitOne K (.ref (L.cA D)) cu = some b) (q : Q (.bl b) H) : wpAny (model X.prog X.w) X.A (call (.builtin "isinstance") [u, cu]) (EP X pins σ Q) X.xe s := by
  subst hK
  obtain ⟨a, d, oe, od, gs, ws, mA, rfl, J, _⟩ := exc_stand I ru rv
  exact PySem.W.kia_one (kit_exc C) I.kIn J hk (fun z => nomatch z) fun tk => ⟨.bl b, H, I.tok tk, rfl, q⟩
/-- a field of an exception -/
theorem att_exc {X : Cx} {pins : List (Addr × Obj)} {σ : L2.St} {H : Hp} {s : Shared} {L : Lk} {ι : List Addr} {D j : Nat} {fs : List IV} {z : IV} {y : V} {u : Value} {f : Str} {b : Bool} {Q : VK} (hK : X.K = K) (C : XfC K (L.cA D)) (hno : PySem.W.findIn K (.ref (L.cA D)) f = some none)
    (I : L2.Inv X pins σ H s) (ru : RelV y u) (rv : RV L ι H (.exc D fs) y) (hf : (L.cf D)[j]? = some f) (hz : fs[j]? = some z) (q : ∀ w, RV L ι H z w → Q w H) : wpAny (model X.prog X.w) X.A (getAttr u f b) (EP X pins σ Q) X.xe s := by
  subst hK
  obtain ⟨a, d, oe, od, gs, ws, mA, rfl, J, h3, h4, hr, hl⟩ := exc_stand I ru rv
  have e1 : ((L.cf D).map (fun f => gs.lookup f))[j]? = some (gs.lookup f) := by rw [List.getElem?_map, hf]; rfl
  rw [h3, List.getElem?_map] at e1
  cases hw : ws[j]? with
  | none => rw [hw] at e1; cases e1
  | some w =>
    rw [hw] at e1
    have e2 : gs.lookup f = some w := (Option.some.inj e1).symm
    obtain ⟨v, hv, rv'⟩ := RelO.some_of (v := w) (o := mA f) (by rw [← e2]; exact hr f)
    obtain ⟨w', hw', rw'⟩ := RVs.get h4 hz
    rw [hw] at hw'
    cases hw'
    exact HandSPX.exc_get I.kIn J C.ga C.gg C.exC (PySem.W.findObj_own C.hdC hno rfl (by rw [hl, hv])) (handed_of rv') ⟨w, H, I.tok _, rv', q w rw'⟩
theorem po_optI {L : Lk} {F : XK} {ι : List Addr} {H : Hp} {o : Option Bool} {A : IH} {Q : VK} (rh : RH L ι H A) (po : Po L (RV L) F ι H (optB o A) Q) : ∃ b, o = some b ∧ Q (.bl b) H := by
  cases o with
  | none => exact po.elim
  | some b => exact ⟨b, rfl, po ι H (.bl b) Ext.refl rh rfl⟩
/-- isinstance of a plain value, a built-in class -/
theorem isi_plain {X : Cx} {pins : List (Addr × Obj)} {σ : L2.St} {H : Hp} {s : Shared} {L : Lk} {ι : List Addr} {v : IV} {y : V} {u : Value} {n m : String} {b : Bool} {Q : VK} (hK : X.K = L.K) (I : L2.Inv X pins σ H s) (ru : RelV y u) (ty : TyX X.K H y (.type m))
    (hk : kitB m n = some b) (q : Q (.bl b) H) : wpAny (model X.prog X.w) X.A (call (.builtin "isinstance") [u, .type n]) (EP X pins σ Q) X.xe s :=
  call_isi pins s σ H [y, .ty n] [u, .type n] Q I (.cons ru (.cons rfl .nil)) ⟨y, .ty n, .type m, .type n, b, rfl, .ty n, ty, kit_ty hk, q⟩
/-- the type of a plain value -/
def tyI : IV → Option String
  | .non => some "NoneType"
  | .bl _ => some "bool"
  | .int _ => some "int"
  | .str _ => some "str"
  | .tup _ => some "tuple"
  | _ => none
theorem tyI_ok {L : Lk} {ι : List Addr} {H : Hp} {v : IV} {y : V} {m : String} (h : tyI v = some m) (rv : RV L ι H v y) : TyX L.K H y (.type m) := by
  cases v with
  | non => cases h; cases (show y = .non from rv); exact .base .non
  | bl b => cases h; cases (show y = .bl b from rv); exact .base (.bl b)
  | int i => cases h; cases (show y = .int i from rv); exact .base (.int i)
  | str x => cases h; cases (show y = .str x from rv); exact .base (.str x)
  | tup xs =>
    cases h
    unfold RV at rv
    obtain ⟨a, ws, rfl, st, _⟩ := rv
    rcases st with (st | ⟨o, st⟩) | ⟨o, its, n, e1, e2, _⟩
    · exact .base (.tup st)
    · exact .fTuple st
    · exact .kTuple e1 e2
  | _ => cases h
/-- isinstance, one built-in class -/
theorem isi_bi {L : Lk} {P : Prg} {n : String} {t : Ty} (hne : ∀ C fs, isI P (.exc C fs) t = none) (ho : ∀ v m b, tyI v = some m → isI P v t = some b → kitB m n = some b) (hr : ∀ v, (∀ C fs, v ≠ .exc C fs) → tyI v = none → isI P v t = none)
    {Y : Cx} {pins : List (Addr × Obj)} {s : Shared} {σ : L2.St} {H : Hp} {ι : List Addr} {A : IH} {v : IV} {y : V} {u : Value} {Q : VK} {F : XK} (eK : Y.K = L.K) (I : L2.Inv Y pins σ H s) (ru : RelV y u) (rh : RH L ι H A) (rv : RV L ι H v y) (po : Po L (RV L) F ι H (optB (isI P v t) A) Q) :
    wpAny (model Y.prog Y.w) Y.A (call (.builtin "isinstance") [u, .type n]) (EP Y pins σ Q) Y.xe s := by
  obtain ⟨b, hb, q⟩ := po_optI rh po
  cases hm : tyI v with
  | some m => exact isi_plain (L := L) (ι := ι) (v := v) eK I ru (by rw [eK]; exact tyI_ok hm rv) (ho v m b hm hb) q
  | none =>
    by_cases hx : ∃ C fs, v = .exc C fs
    · obtain ⟨C, fs, rfl⟩ := hx
      rw [hne] at hb
      cases hb
    · rw [hr v (fun C fs z => hx ⟨C, fs, z⟩) hm] at hb
      cases hb
end
end LF
set_option Elab.async false
set_option linter.all false
set_option maxHeartbeats 8000000
set_option maxRecDepth 100000
/-! An own exception with two fields of its own, made ready by its own def. -/
namespace LF
open PySem PySem.Spec PyProof.Rows L2
section
variable {P0 : Program} {w : World} {K : PySem.W.Frag} {mg : Str → Option Value} {base : Heap}
theorem call_line {o : Expr} {m : Str} {p2 pos : Pos} {es : List Expr} {env : Env} (hb : plainB o = true) (hl : (p2.endLine == pos.line) = true) (hn : es.all noStar = true) (hf : es.length + 1 < 30) :
    eval (.Call (.Attribute o m p2) es [] pos) env = (do
      let u ← eval o env
      standAt p2.atName
      let (f, fst) ← holding [u] (getMethod u m (plainOf o env))
      callWith pos f fst (backTo pos (starEach es env)) (backToKw pos (keywordEach [] env))) := by
  rw [arm_eval_Call, base_of hb]
  exact bind_congr fun u => bind_congr fun _ => mcall_line (few_of hn env hf) hl
/-- what such a def does -/
def sp2 (C : Addr) (f1 f2 : Str) : Sp := fun vs H Q _ => ∃ (a : Addr) (l m : V), vs = [.ref a, l, m] ∧ H a = some (exo a C none) ∧
  ∀ d, H d = none → d ≠ a → Q .non (upd (upd (upd H d (exd d [(f1, l)])) a (exo a C (some d))) d (exd d [(f2, m), (f1, l)]))
/-- how it is written -/
def Init2 (body : List Stmt) (slf f1 f2 par : Str) : Prop := ∃ p1 p2 p3 msg k1 p4 p5 p6 p7 p8 p9 p10 p11 p12 p13 p14, (p2.endLine == p5.line) = true ∧ body = [.Expr (.Call (.Attribute (.Name par p1) "__init__" p2) [.Name slf p3, .Constant (.str msg) k1 p4] [] p5) p6,
  .Assign [.Attribute (.Name slf p7) f1 p8] (.Name f1 p9) p10, .Assign [.Attribute (.Name slf p11) f2 p12] (.Name f2 p13) p14]
structure InitF (K : PySem.W.Frag) (mg : Str → Option Value) (C fI : Addr) (f1 f2 : Str) : Prop where
  ox : OexC K C
  ex : ∃ (slf par : Str) (Cp : Addr) (qual : Str) (params : Arguments) (body : List Stmt) (scope : Scope) (fd : FuncData), FunD K "__init__" qual params body scope [] [] fI fd ∧ L2.Binds K fd [slf, f1, f2] [] ∧ FnScope [slf, f1, f2] [slf, f1, f2] scope ∧ Init2 body slf f1 f2 par ∧
    mg par = some (.ref Cp) ∧ upB K Cp = true ∧ scope.names.lookup par = some .globalImplicit ∧ (par == ("__debug__" : Str)) = false ∧ (∀ x ∈ [slf, f1, f2], (x == ("__debug__" : Str)) = false ∧ (x == ("__classdict__" : Str)) = false ∧ Vis scope x)
  no1 : PySem.W.findIn K (.ref C) f1 = some none
  no2 : PySem.W.findIn K (.ref C) f2 = some none
  ne : f2 ≠ f1
  ini : PySem.W.findIn K (.ref C) "__init__" = some (some (.ref fI))
  tyI : PySem.W.typeIn K (.ref fI) = some (.type "function")
theorem init_ok {C fI : Addr} {f1 f2 : Str} (F : InitF K mg C fI f1 f2) : ∃ (slf : Str) (fd : FuncData), L2.Binds K fd [slf, f1, f2] [] ∧ FnOk P0 w K mg base CX0 2 fI fd [slf, f1, f2] (sp2 C f1 f2) := by
  obtain ⟨slf, par, Cp, qual, params, body, scope, fd, FD, B, S, ⟨p1, p2, p3, msg, k1, p4, p5, p6, p7, p8, p9, p10, p11, p12, p13, p14, ln, rfl⟩, hp, hu, hgl, ndp, hv⟩ := F.ex
  refine ⟨slf, fd, B, FD.ok S (fun vs H Q E h => by obtain ⟨a, l, m, rfl, _⟩ := h; rfl) fun cdv A outer s H vs Q E hr h => ?_⟩
  obtain ⟨a, l, m, rfl, ea, q⟩ := h
  have v0 := hv slf (by simp)
  have v1 := hv f1 (by simp)
  have v2 := hv f2 (by simp)
  refine ⟨_, PSs.nox (pss_cons (ps_expr (pe_upinit (C := Cp) hgl hp ndp hu (pa_cons (pv 0 rfl v0.2.2 v0.1 v0.2.1) (pa_cons pe_str pa_nil)) (call_line rfl ln rfl (by simp)))) (pss_cons (ps_ost (pv 0 rfl v0.2.2 v0.1 v0.2.1) (pv 1 rfl v1.2.2 v1.1 v1.2.1)) (pss_one (ps_ost (pv 0 rfl v0.2.2 v0.1 v0.2.1) (pv 2 rfl v2.2.2 v2.1 v2.2.1))))), ?_⟩
  refine ⟨_, rfl, a, C, [.str msg], rfl, by simp, F.ox, ea, ?_⟩
  refine ⟨l, rfl, _, rfl, a, C, rfl, F.ox, F.no1, .inl ⟨ea, fun d hd hda => ?_⟩⟩
  refine ⟨m, rfl, _, rfl, a, C, rfl, F.ox, F.no2, .inr ⟨d, [(f1, l)], upd_same, ?_, by simp, q d hd hda⟩⟩
  rw [upd_ne hda]
  exact upd_same
theorem heap_end {H : Hp} {a d C : Addr} {u : HO} {fs gs : List (Str × V)} (hn : H a = none) (hda : d ≠ a) : upd (del (upd (upd (upd (upd H a (exo a C none)) d (exd d gs)) a (exo a C (some d))) d (exd d fs)) a) d u = upd H d u := by
  funext b
  by_cases h1 : b = d
  · subst h1
    rw [upd_same, upd_same]
  · rw [upd_ne h1, upd_ne h1]
    by_cases h2 : b = a
    · subst h2
      rw [del_same, hn]
    · rw [del_ne h2, upd_ne h1, upd_ne h2, upd_ne h1, upd_ne h2]
theorem paMono {X : Cx} {es : List Expr} {t : TA} (h : PA X es t) : PA X es (fun σ H Q' => ∃ Q, t σ H Q ∧ ∀ vs H1, Q vs H1 → Q' vs H1) :=
  ⟨fun pos pins s σ H Q' I ⟨Q, q, k⟩ => thn (h.run pos pins s σ H Q I q) fun us s1 ⟨vs, H1, I1, r1, q1⟩ => ⟨vs, H1, I1, r1, k vs H1 q1⟩⟩
theorem exc_made {X : Cx} {C fI : Addr} {f1 f2 x : Str} {es : List Expr} {t : TA} {p pos : Pos} (F : InitF K mg C fI f1 f2) (h1 : X.K = K) (h2 : X.mg = mg) (hr : Room 3 X.A) (hm : mg x = some (.ref C)) (nd : (x == ("__debug__" : Str)) = false)
    (hg : isGl X.env.scope x = true) (ha : PA X es t) (hs : es.all noStar = true) (hl : es.length = 2) :
    PMk X (.Call (.Name x p) es [] pos) (fun σ H Q => t σ H fun vs H1 => vs.length = 2 ∧ ∀ (d : Addr) (gs : List (Str × V)), H1 d = none → [gs.lookup f1, gs.lookup f2] = vs.map some → Q (.ref C) (some d) (upd H1 d (.xd gs))) := by
  subst h1 h2
  obtain ⟨slf, fd, B, Fn⟩ := init_ok (P0 := X.prog) (w := X.w) (base := X.base) F
  match es, hl, ha, hs with
  | [e, e2], _, ha, hs =>
    obtain ⟨n1, n2⟩ : noStar e = true ∧ noStar e2 = true := by simpa using hs
    intro pins s σ H Q I h
    refine pmk_oex (CX := CX0) F.ox F.ini F.tyI Fn hr B .nil (fun _ _ _ _ _ _ _ z => z.elim) (isGl_gl hg) hm (paMono ha) nd ?_ ?_ pins s σ H Q I ?_
    · exact star_of n1 _ _
    · exact stars_none _ _ (by simp [n2])
    · refine ⟨_, h, fun vs H1 ⟨hz, k⟩ => ⟨by omega, fun a hn => ?_⟩⟩
      match vs, hz with
      | [l, m], _ =>
        refine ⟨a, l, m, rfl, upd_same, fun d hd hda => ⟨rfl, d, [(f2, m), (f1, l)], ?_, upd_same, ?_, ?_⟩⟩
        · rw [upd_ne (Ne.symm hda)]
          exact upd_same
        · rw [upd_ne hda] at hd
          exact hd
        · rw [heap_end hn hda]
          refine k d _ (by rw [upd_ne hda] at hd; exact hd) ?_
          have e : (f1 == f2) = false := by simpa using F.ne.symm
          simp [List.lookup, e]
end
end LF
set_option Elab.async false
set_option linter.all false
set_option maxHeartbeats 8000000
set_option maxRecDepth 100000
/-! All that stays as it is, from one Bool. -/
namespace LF
open PySem PySem.Spec PyProof.Rows L2
def ndB (x : Str) : Bool := !(x == ("__debug__" : Str)) && !(x == ("__name__" : Str))
theorem ndB_ok {x : Str} (h : ndB x = true) : (x == ("__debug__" : Str)) = false ∧ x ≠ "__name__" := by
  obtain ⟨h1, h2⟩ := He.ba h
  exact ⟨by simpa using h1, by simpa using h2⟩
def exB (G : Gx) (P : Prg) (lv : List Nat) (K : PySem.W.Frag) : Bool :=
  bltN.all (fun x => (He.Fa.free x).ok K) && ((G.cos.zip P.gc).all (fun q => conB K mainGlobals q.1 q.2) && ((G.dts.zip P.gd).all (fun q => dtB K q.1 q.2) && clsB G P K lv))
/-- what is told by the text alone -/
structure TxtF (G : Gx) (P : Prg) (lv : List Nat) : Prop where
  cos : G.cos.all ndB = true
  dts : G.dts.all ndB = true
  cls : G.cls.all (fun c => ndB c.1) = true
  ldt : G.dts.length = P.gd.length
  live : ∀ D, P.live D = true → D ∈ lv
  fld : ∀ D k j, P.fld D k = some j → D ∈ lv ∧ ∀ f, G.fls[k]? = some f → ((G.cls[D]?.map (·.2)).getD [])[j]? = some f
section
variable {P0 : Program} {w : World} {K : PySem.W.Frag} {mg : Str → Option Value} {base : Heap} {P : Prg} {G : Gx} {lv : List Nat} {T : List (Addr × Str)} {h : Heap}
theorem zip_get {α β : Type} {as : List α} {bs : List β} {k : Nat} {a : α} {b : β} (h1 : as[k]? = some a) (h2 : bs[k]? = some b) : (a, b) ∈ as.zip bs := by
  refine List.mem_of_getElem? (i := k) ?_
  rw [List.getElem?_zip_eq_some]
  exact ⟨h1, h2⟩
theorem cls_mg (X : K.In h) (N : h.Ns mainGlobals mg) (hx : clsB G P K lv = true) {k : Nat} {c : Str × List Str} (hk : G.cls[k]? = some c) : mg c.1 = some (.ref ((lkOf G K T).cA k)) := by
  have e := He.glo_ok X N (List.all_eq_true.mp (He.ba hx).1 c (List.mem_of_getElem? hk))
  have e2 : (lkOf G K T).cA k = He.ga K c.1 := by
    show He.ga K ((G.cls[k]?.map (·.1)).getD "") = _
    rw [hk]
    rfl
  rw [e, e2]
theorem ixOf_lt {x : Str} {l : List Str} {k : Nat} (h : ixOf x l = some k) : k < l.length := by
  have := ixOf_get h
  exact (List.getElem?_eq_some_iff.mp this).1
theorem stat_of (F : TxtF G P lv) (X : K.In h) (N : h.Ns mainGlobals mg) (ex : exB G P lv K = true) (hd : ∀ x ∈ G.dts, ∃ es n, KDict K w (He.ga K x) es n)
    (hi : ∀ k ∈ G.rz, ∃ x fI f1 f2, G.cls[k]? = some (x, [f1, f2]) ∧ InitF K mg ((lkOf G K T).cA k) fI f1 f2) : Stat P0 w K mg base (lkOf G K T) P G := by
  obtain ⟨e1, ex⟩ := He.ba ex
  obtain ⟨e2, ex⟩ := He.ba ex
  obtain ⟨e3, e4⟩ := He.ba ex
  have blt : ∀ x ∈ bltN, mg x = none := fun x hx => He.free_ok X N (List.all_eq_true.mp e1 x hx)
  refine ⟨rfl, blt, fun k x c hk hc => ?_, fun k x hk => ?_, fun x t ht => ?_, fun k f hk Y pins s σ H ι D j fs z y u Q b hK I ru rv hj hz q => ?_, fun Y h1 h2 h3 h4 h5 h6 h7 k x fl hk hc es t p pos hg ha hs hl => ?_⟩
  · refine ⟨(ndB_ok (List.all_eq_true.mp F.cos x (List.mem_of_getElem? hk))).1, ?_⟩
    obtain ⟨u, v, a, b, c'⟩ := conB_ok (L := lkOf G K T) (List.all_eq_true.mp e2 _ (zip_get hk hc))
    exact ⟨v, u, PySem.W.mg_of X N a, b, c'⟩
  · refine ⟨(ndB_ok (List.all_eq_true.mp F.dts x (List.mem_of_getElem? hk))).1, ?_⟩
    have hlt : k < P.gd.length := by rw [← F.ldt]; exact (List.getElem?_eq_some_iff.mp hk).1
    refine ⟨P.gd[k], List.getElem?_eq_getElem hlt, ?_⟩
    obtain ⟨b1, b2⟩ := He.ba (List.all_eq_true.mp e3 _ (zip_get hk (List.getElem?_eq_getElem hlt)))
    obtain ⟨b2, b3⟩ := He.ba b2
    obtain ⟨es, n, kd⟩ := hd x (List.mem_of_getElem? hk)
    refine ⟨_, es, n, He.glo_ok X N b1, kd, fun z => ?_⟩
    cases hz : P.gd[k].lookup z with
    | some iv =>
      obtain ⟨u, v, a, b, c⟩ := conB_ok (L := lkOf G K T) (List.all_eq_true.mp b3 _ (lookup_mem' hz))
      exact ⟨some u, a, u, v, rfl, b, c⟩
    | none => exact ⟨none, keys_out b2 (lookup_nin hz), rfl⟩
  · unfold tyOf at ht
    split at ht
    · rename_i ex
      subst ex
      cases ht
      refine ⟨by decide, by decide, .type "int", .ty "int", fun u => lit_ty, .inr ⟨blt _ (by decide), Boot.«int»⟩, fun Y pins s σ H ι A v y u Q F' hK _ I ru rh rv po => isi_bi (L := lkOf G K T) (fun _ _ => rfl) ?_ ?_ hK I ru rh rv po⟩
      · intro v m b h1 h2
        cases v <;> cases h1 <;> cases h2 <;> decide +kernel
      · intro v h1 h2
        cases v <;> first | rfl | cases h2 | exact absurd rfl (h1 _ _)
    split at ht
    · rename_i ex
      subst ex
      cases ht
      refine ⟨by decide, by decide, .type "str", .ty "str", fun u => lit_ty, .inr ⟨blt _ (by decide), Boot.«str»⟩, fun Y pins s σ H ι A v y u Q F' hK _ I ru rh rv po => isi_bi (L := lkOf G K T) (fun _ _ => rfl) ?_ ?_ hK I ru rh rv po⟩
      · intro v m b h1 h2
        cases v <;> cases h1 <;> cases h2 <;> decide +kernel
      · intro v h1 h2
        cases v <;> first | rfl | cases h2 | exact absurd rfl (h1 _ _)
    split at ht
    · rename_i ex
      subst ex
      cases ht
      refine ⟨by decide, by decide, .type "bool", .ty "bool", fun u => lit_ty, .inr ⟨blt _ (by decide), Boot.«bool»⟩, fun Y pins s σ H ι A v y u Q F' hK _ I ru rh rv po => isi_bi (L := lkOf G K T) (fun _ _ => rfl) ?_ ?_ hK I ru rh rv po⟩
      · intro v m b h1 h2
        cases v <;> cases h1 <;> cases h2 <;> decide +kernel
      · intro v h1 h2
        cases v <;> first | rfl | cases h2 | exact absurd rfl (h1 _ _)
    split at ht
    · rename_i ex
      subst ex
      cases ht
      refine ⟨by decide, by decide, .type "tuple", .ty "tuple", fun u => lit_ty, .inr ⟨blt _ (by decide), Boot.«tuple»⟩, fun Y pins s σ H ι A v y u Q F' hK _ I ru rh rv po => isi_bi (L := lkOf G K T) (fun _ _ => rfl) ?_ ?_ hK I ru rh rv po⟩
      · intro v m b h1 h2
        cases v <;> cases h1 <;> cases h2 <;> decide +kernel
      · intro v h1 h2
        cases v <;> first | rfl | cases h2 | exact absurd rfl (h1 _ _)
    split at ht
    · rename_i ex
      subst ex
      cases ht
      refine ⟨by decide, by decide, .type "ValueError", .ty "ValueError", fun u => lit_ty, .inr ⟨blt _ (by decide), Boot.«ValueError»⟩, fun Y pins s σ H ι A v y u Q F' hK _ I ru rh rv po => ?_⟩
      obtain ⟨b, hb, q⟩ := po_optI rh po
      cases v with
      | exc D fs =>
        have hb' : (if P.live D then some true else none) = some b := hb
        split at hb'
        · rename_i hlv
          cases hb'
          obtain ⟨c1, c2, c3, _⟩ := clsB_one (T := T) e4 (F.live D hlv)
          exact isi_exc hK c1 I ru rv c3 q
        · cases hb'
      | _ => cases hb
    · cases hc : ixOf x (G.cls.map (·.1)) with
      | none => rw [hc] at ht; cases ht
      | some k =>
        rw [hc] at ht
        cases ht
        have hlt := ixOf_lt hc
        rw [List.length_map] at hlt
        have hg := ixOf_get hc
        rw [List.getElem?_map, List.getElem?_eq_getElem hlt] at hg
        have hx : (G.cls[k]).1 = x := Option.some.inj hg
        have hm := cls_mg (T := T) X N e4 (List.getElem?_eq_getElem hlt)
        rw [hx] at hm
        obtain ⟨n1, n2⟩ := ndB_ok (List.all_eq_true.mp F.cls _ (List.getElem_mem hlt))
        rw [hx] at n1 n2
        refine ⟨n1, n2, .ref ((lkOf G K T).cA k), .ref ((lkOf G K T).cA k), fun u => Iff.rfl, .inl hm, fun Y pins s σ H ι A v y u Q F' hK _ I ru rh rv po => ?_⟩
        obtain ⟨b, hb, q⟩ := po_optI rh po
        cases v with
        | exc D fs =>
          have hb' : (if P.live D then some (P.sub D k) else none) = some b := hb
          split at hb'
          · rename_i hlv
            cases hb'
            obtain ⟨c1, c2, c3, c4, _⟩ := clsB_one (T := T) e4 (F.live D hlv)
            exact isi_exc hK c1 I ru rv (c4 k hlt) q
          · cases hb'
        | _ => cases hb
  · obtain ⟨hD, hf⟩ := F.fld D k j hj
    obtain ⟨c1, c2, c3, c4, c5⟩ := clsB_one (T := T) e4 hD
    have hf' : ((lkOf G K T).cf D)[j]? = some f := hf f hk
    exact att_exc hK c2 (c5 f (List.mem_of_getElem? hf')) I ru rv hf' hz q
  · obtain ⟨x', fI, f1, f2, hc', IF⟩ := hi k hk
    rw [hc] at hc'
    obtain ⟨rfl, rfl⟩ := Prod.mk.inj (Option.some.inj hc')
    have hm := cls_mg (T := T) X N e4 hc
    have hn := (ndB_ok (List.all_eq_true.mp F.cls _ (List.mem_of_getElem? hc))).1
    refine fun pins s σ H Q I hq => exc_made IF h3 h4 h7 hm hn hg ha hs hl pins s σ H Q I ?_
    have ecf : (lkOf G K T).cf k = [f1, f2] := by
      show (G.cls[k]?.map (·.2)).getD [] = _
      rw [hc]
      rfl
    rw [ecf] at hq
    exact hq
end
end LF
set_option Elab.async false
set_option linter.all false
set_option maxHeartbeats 8000000
set_option maxRecDepth 100000
/-! The Hook: hookX's facts, the statics' dict seen too. -/
namespace LF
open PySem PySem.Spec PyProof.Rows L2 He
def kY (g : Addr → Option Obj) (n : Nat) : PySem.W.Frag := frT g (cStatics :: asD g n)
def obsY (n : Nat) (fn : List DefD) (ts : List Tab) (tf : List Defn) (ex : PySem.W.Frag → Bool) (g : Addr → Option Obj) : AlX := (obsT [] fn ts (kY g n), ex (kY g n) && tabsB g tf (kY g n))
theorem says_of {n : Nat} {fn : List DefD} {ts : List Tab} {tf : List Defn} {ex : PySem.W.Frag → Bool} {w : World} {h : Heap} (e : obsY n fn ts tf ex h.get? = valX fn ts w) : SaysX [] fn ts tf ex w h (kY h.get? n) := by
  obtain ⟨e1, e2⟩ := Prod.mk.inj e
  obtain ⟨m1, m2⟩ := ba e2
  have one : ∀ p ∈ tf, PySem.W.codeHdIn (kY h.get? n) (cT (kY h.get? n) p).1 (cT (kY h.get? n) p).2 = true ∧ ∃ o, h.get? (cT (kY h.get? n) p).2 = some o ∧ emptyTab o = true := fun p hp => by
    obtain ⟨q1, q2⟩ := ba (List.all_eq_true.mp m2 p hp)
    refine ⟨q1, ?_⟩
    split at q2
    · rename_i o eo
      exact ⟨o, eo, q2⟩
    · cases q2
  refine ⟨e1, m1, fun p hp => (one p hp).1, fun p hp => ?_, fun p hp => ?_⟩
  · obtain ⟨_, o, a, b⟩ := one p hp
    exact frT_none a b
  · obtain ⟨_, o, a, b⟩ := one p hp
    rw [a, emptyTab_eq b]
def hookY (n : Nat) (fn : List DefD) (ts : List Tab) (tf : List Defn) (ex : PySem.W.Frag → Bool) : PySem.W.Hook where
  α := AlX
  obs := fun s => obsY n fn ts tf ex s.heap.get?
  val := fun w => valX fn ts w
  says := fun w h => ∃ K : PySem.W.Frag, K.In h ∧ SaysX [] fn ts tf ex w h K
  of := fun _ _ e => ⟨_, frT_in, says_of e⟩
  keeps := fun _ _ _ ⟨K, hK, c⟩ k => ⟨K, hK.keeps k, ⟨c.t, c.more, c.hd, c.out, fun p hp => k _ _ (c.empty p hp)⟩⟩
theorem obsY_eq {n : Nat} {fn : List DefD} {ts : List Tab} {tf : List Defn} {ex : PySem.W.Frag → Bool} {g : Addr → Option Obj} {s : Shared} (h : ∀ a, g a = s.heap.get? a) : obsY n fn ts tf ex g = (hookY n fn ts tf ex).obs s := by
  obtain rfl : g = s.heap.get? := funext h
  rfl
end LF
set_option Elab.async false
set_option linter.all false
/-! The program and the law, in the interpreter's form: printed by a program. -/
namespace LF
open PySem
def fnsG : List FnG := [
  ⟨"is_word", ["thing"], 1, [], [(1, [])]⟩,
  ⟨"is_from_nought", ["thing"], 1, [], [(1, [])]⟩,
  ⟨"first_word", ["thing"], 1, [], [(1, [])]⟩,
  ⟨"is_sized", ["size", "thing"], 2, [], [(2, [])]⟩,
  ⟨"are_figures", ["text"], 1, [], [(1, [])]⟩,
  ⟨"is_negative", ["text"], 1, [], [(1, [])]⟩,
  ⟨"address_read", ["text"], 1, [], [(1, [])]⟩,
  ⟨"word_read", ["text"], 1, [], [(1, [])]⟩,
  ⟨"things_read", ["words", "line", "most"], 1, [], [(1, ["line", "most"])]⟩,
  ⟨"read_thing", ["text", "line"], 1, [("line", .int (0))], [(0, ["text"]), (1, ["line"])]⟩,
  ⟨"is_step_read", ["thing"], 1, [], [(1, [])]⟩,
  ⟨"step_read", ["text", "line"], 2, [], [(2, [])]⟩,
  ⟨"read_steps", ["text"], 1, [], [(1, [])]⟩,
  ⟨"_law_well", ["_law_script"], 1, [], [(1, [])]⟩,
  ⟨"_law_cup", ["_law_well_here", "_law_many"], 2, [], [(2, [])]⟩,
  ⟨"_law_is_address", ["_law_stuff"], 1, [], [(1, [])]⟩,
  ⟨"_law_written", ["_law_stuff"], 1, [], [(1, [])]⟩,
  ⟨"_law_thing", ["_law_well_here", "_law_deep"], 2, [], [(2, [])]⟩,
  ⟨"_law_refusal", ["_law_e"], 1, [], [(1, [])]⟩,
  ⟨"_law_figures", ["_law_word"], 1, [], [(1, [])]⟩,
  ⟨"_law_atom", ["_law_word"], 1, [], [(1, [])]⟩,
  ⟨"_law_things_in", ["_law_words", "_law_most"], 2, [], [(2, [])]⟩,
  ⟨"_law_is_step", ["_law_stuff"], 1, [], [(1, [])]⟩,
  ⟨"_law_thing_due", ["_law_texted", "_law_spot_row"], 2, [], [(2, [])]⟩,
  ⟨"_law_steps_due", ["_law_texted"], 1, [], [(1, [])]⟩,
  ⟨"_law_spoilt", ["_law_well_here", "_law_texted"], 2, [], [(2, [])]⟩,
  ⟨"_law_step_row", ["_law_well_here"], 1, [], [(1, [])]⟩]
def clsG : List (Str × List Str) := [("FolkError", []), ("PaperError", []), ("RunError", []), ("TextError", []), ("NoPaper", ["word", "at"]), ("NoTrace", ["word", "at"]), ("NoCode", ["word", "at"]), ("NoFolk", ["address"]), ("NoStep", ["word"]), ("NoBack", ["times"]), ("NoText", ["line", "word"]), ("NoLine", ["line"])]
def gx : Gx := ⟨fnsG, ["LETTERS", "MOST_LETTERS", "FIGURES", "MOST_FIGURES"], ["STEP_SIZES", "SIGNS", "MORE_SIZES"], clsG, ["word", "at", "address", "times", "line"], "_law_said", [10]⟩
def nms : List (Nat × List Str) := [
  (16, ["thing", "sign"]),
  (19, ["thing"]),
  (20, ["thing"]),
  (21, ["size", "thing", "one"]),
  (27, ["text", "sign"]),
  (28, ["text"]),
  (29, ["text", "house", "point", "number"]),
  (30, ["text"]),
  (31, ["words", "line", "most", "piles", "at", "word", "inside", "is_free", "own"]),
  (32, ["text", "line"]),
  (33, ["thing", "word", "size"]),
  (34, ["text", "line", "words", "thing"]),
  (35, ["text", "line", "row"]),
  (37, ["_law_script"]),
  (38, ["_law_well_here", "_law_many", "_law_figure", "_law_at", "_law_cells", "_law_cell", "_law_n", "_law_mixed"]),
  (39, ["_law_stuff", "_law_one"]),
  (40, ["_law_stuff", "_law_found", "_law_one"]),
  (41, ["_law_well_here", "_law_deep", "_law_way", "_law_k", "_law_number", "_law_some"]),
  (42, ["_law_e", "_law_sorts", "_law_at", "_law_families"]),
  (44, ["_law_word", "_law_sign"]),
  (45, ["_law_word", "_law_sign", "_law_parts", "_law_one"]),
  (46, ["_law_words", "_law_most", "_law_levels", "_law_at", "_law_word", "_law_own"]),
  (47, ["_law_stuff", "_law_sizes", "_law_one"]),
  (48, ["_law_texted", "_law_spot_row", "_law_found"]),
  (49, ["_law_texted", "_law_found", "_law_spot_row", "_law_row", "_law_some"]),
  (50, ["_law_well_here", "_law_texted", "_law_words", "_law_way", "_law_at", "_law_some", "_law_spot", "_law_sign"]),
  (51, ["_law_well_here", "_law_h", "_law_n"]),
  (52, ["_law_script", "_law_well_here", "_law_by_hand", "_law_k", "_law_row", "_law_once", "_law_texted", "_law_spot_row", "_law_told", "_law_rows", "_law_j", "_law_at", "_law_spoilt_here"])]
def gcs : List IV := [.str "abcdefghijklmnopqrstuvwxyz", .int (8), .str "0123456789", .int (12)]
def gds : List (List (Str × IV)) := [[("act", .int (2)), ("tick", .int (1)), ("part", .int (2)), ("meet", .int (2)), ("fall", .int (1)), ("load", .int (2))], [("-", .non), ("+", .bl true), ("/", .bl false)], [("come", .int (1)), ("again", .int (1))]]
def supL : List (List Nat) := [[0], [1, 0], [2, 0], [3, 0], [4, 1, 0], [5, 1, 0], [6, 1, 0], [7, 2, 0], [8, 2, 0], [9, 2, 0], [10, 3, 0], [11, 3, 0]]
def fldL : List (List Nat) := [[], [], [], [], [0, 1], [0, 1], [0, 1], [2], [0], [3], [4, 0], [4]]
def folkC : Nat := 0
def refF : Nat := 18
def lawF : Nat := 27
/-- 0 -/
def b0 : CSs := (.cons (.ite (.or (.not (.isi (.var 0) (.str))) (.not (.chain .le .le (.int 1) (.bi .len (.cons (.var 0) .nil)) (.gco 1)))) (.cons (.ret (.bl false))
    .nil) .nil)
    (.cons (.ret (.bi .all (.cons (.lc (.cmp .isin (.var 1) (.gco 0)) (.nm 1) (.val (.var 0)) .no [1]) .nil)))
    .nil))
/-- 1 -/
def b1 : CSs := (.cons (.ret (.and (.isi (.var 0) (.int)) (.and (.not (.isi (.var 0) (.bool))) (.cmp .ge (.var 0) (.int 0)))))
    .nil)
/-- 2 -/
def b2 : CSs := (.cons (.ite (.or (.not (.isi (.var 0) (.tuple))) (.or (.cmp .eq (.bi .len (.cons (.var 0) .nil)) (.int 0)) (.not (.isi (.ix (.var 0) (.int 0)) (.str))))) (.cons (.ret (.str ""))
    .nil) .nil)
    (.cons (.ret (.ix (.var 0) (.int 0)))
    .nil))
/-- 3 -/
def b3 : CSs := (.cons (.ret (.and (.cmp .eq (.bi .len (.cons (.var 1) .nil)) (.bin .add (.var 0) (.int 1))) (.bi .all (.cons (.lc (.call 1 (.cons (.var 2) .nil) [] [0]) (.nm 2) (.val (.sl (.var 1) (.some (.int 1)) .no)) .no [2]) .nil))))
    .nil)
/-- 4 -/
def b4 : CSs := (.cons (.ite (.or (.not (.chain .le .le (.int 1) (.bi .len (.cons (.var 0) .nil)) (.gco 3))) (.not (.bi .all (.cons (.lc (.cmp .isin (.var 1) (.gco 2)) (.nm 1) (.val (.var 0)) .no [1]) .nil)))) (.cons (.ret (.bl false))
    .nil) .nil)
    (.cons (.ret (.or (.cmp .eq (.var 0) (.str "0")) (.cmp .ne (.ix (.var 0) (.int 0)) (.str "0"))))
    .nil))
/-- 5 -/
def b5 : CSs := (.cons (.ret (.and (.cmp .eq (.sl (.var 0) .no (.some (.int 1))) (.str "-")) (.and (.call 4 (.cons (.sl (.var 0) (.some (.int 1)) .no) .nil) [] [0]) (.cmp .ne (.var 0) (.str "-0")))))
    .nil)
/-- 6 -/
def b6 : CSs := (.cons (.asg (.tp [(.nm 1), (.nm 2), (.nm 3)]) (.me .partition (.sl (.var 0) (.some (.int 1)) .no) (.cons (.str ".") .nil)))
    (.cons (.ite (.or (.cmp .ne (.sl (.var 0) .no (.some (.int 1))) (.str "@")) (.or (.cmp .eq (.var 2) (.str "")) (.or (.not (.call 4 (.cons (.var 1) .nil) [] [0])) (.not (.call 4 (.cons (.var 3) .nil) [] [0]))))) (.cons (.ret (.lst .nil))
    .nil) .nil)
    (.cons (.ret (.lst (.cons (.tup (.cons (.str "at") (.cons (.bi .int (.cons (.var 1) .nil)) (.cons (.bi .int (.cons (.var 3) .nil)) .nil)))) .nil)))
    .nil)))
/-- 7 -/
def b7 : CSs := (.cons (.ite (.gin 1 (.var 0)) (.cons (.ret (.lst (.cons (.gix 1 (.var 0)) .nil)))
    .nil) .nil)
    (.cons (.ite (.or (.call 4 (.cons (.var 0) .nil) [] [0]) (.call 5 (.cons (.var 0) .nil) [] [0])) (.cons (.ret (.lst (.cons (.bi .int (.cons (.var 0) .nil)) .nil)))
    .nil) .nil)
    (.cons (.ret (.ite (.call 0 (.cons (.var 0) .nil) [] [0]) (.lst (.cons (.var 0) .nil)) (.call 6 (.cons (.var 0) .nil) [] [0])))
    .nil)))
/-- 8 -/
def b8 : CSs := (.cons (.asg (.nm 3) (.lst (.cons (.lst .nil) .nil)))
    (.cons (.for (.tp [(.nm 4), (.nm 5)]) (.enum (.var 0)) (.cons (.ite (.and (.cmp .eq (.var 5) (.str ")")) (.cmp .gt (.bi .len (.cons (.var 3) .nil)) (.int 1))) (.cons (.asg (.nm 6) (.bi .tuple (.cons (.me .pop (.var 3) .nil) .nil)))
    (.cons (.expr (.me .append (.ix (.var 3) (.neg (.int 1))) (.cons (.var 6) .nil)))
    (.cons .cont
    .nil))) .nil)
    (.cons (.asg (.nm 7) (.or (.cmp .gt (.bi .len (.cons (.var 3) .nil)) (.int 1)) (.cmp .lt (.bi .len (.cons (.ix (.var 3) (.int 0)) .nil)) (.var 2))))
    (.cons (.asg (.nm 8) (.ite (.cmp .ne (.var 5) (.str "(")) (.call 7 (.cons (.var 5) .nil) [] [0]) (.lst (.cons .non .nil))))
    (.cons (.ite (.or (.cmp .eq (.var 5) (.str ")")) (.or (.not (.var 7)) (.cmp .eq (.var 8) (.lst .nil)))) (.cons (.raise 10 (.cons (.var 1) (.cons (.var 4) .nil)))
    .nil) .nil)
    (.cons (.ite (.cmp .eq (.var 5) (.str "(")) (.cons (.expr (.me .append (.var 3) (.cons (.lst .nil) .nil)))
    .nil) (.cons (.expr (.me .append (.ix (.var 3) (.neg (.int 1))) (.cons (.ix (.var 8) (.int 0)) .nil)))
    .nil))
    .nil))))))
    (.cons (.ite (.cmp .gt (.bi .len (.cons (.var 3) .nil)) (.int 1)) (.cons (.raise 10 (.cons (.var 1) (.cons (.bi .len (.cons (.var 0) .nil)) .nil)))
    .nil) .nil)
    (.cons (.ret (.bi .tuple (.cons (.ix (.var 3) (.int 0)) .nil)))
    .nil))))
/-- 9 -/
def b9 : CSs := (.cons (.ret (.ix (.call 8 (.cons (.me .split (.var 0) (.cons (.str " ") .nil)) (.cons (.var 1) (.cons (.int 1) .nil))) [] [0, 1, 2]) (.int 0)))
    .nil)
/-- 10 -/
def b10 : CSs := (.cons (.asg (.nm 1) (.call 2 (.cons (.var 0) .nil) [] [0]))
    (.cons (.asg (.nm 2) (.gget 0 (.var 1) (.gget 2 (.var 1) (.neg (.int 1)))))
    (.cons (.ret (.and (.cmp .ge (.var 2) (.int 0)) (.call 3 (.cons (.var 2) (.cons (.var 0) .nil)) [] [0, 1])))
    .nil)))
/-- 11 -/
def b11 : CSs := (.cons (.asg (.nm 2) (.me .split (.var 0) (.cons (.str " ") .nil)))
    (.cons (.asg (.nm 3) (.call 8 (.cons (.var 2) (.cons (.var 1) (.cons (.bi .len (.cons (.var 2) .nil)) .nil))) [] [0, 1, 2]))
    (.cons (.ite (.not (.call 10 (.cons (.var 3) .nil) [] [0])) (.cons (.raise 10 (.cons (.var 1) (.cons (.int 0) .nil)))
    .nil) .nil)
    (.cons (.ret (.var 3))
    .nil))))
/-- 12 -/
def b12 : CSs := (.cons (.ite (.cmp .eq (.var 0) (.str "")) (.cons (.ret (.tup .nil))
    .nil) .nil)
    (.cons (.ret (.bi .tuple (.cons (.lc (.call 11 (.cons (.var 2) (.cons (.var 1) .nil)) [] [0, 1]) (.tp [(.nm 1), (.nm 2)]) (.enum (.me .split (.var 0) (.cons (.str "\n") .nil))) .no [1, 2]) .nil)))
    .nil))
/-- 13 -/
def b13 : CSs := (.cons (.ret (.dct ["cells", "next", "rest", "drawn"] (.cons (.bi .list (.cons (.sl (.var 0) .no (.some (.int 63))) .nil)) (.cons (.int 0) (.cons (.int 0) (.cons (.int 0) .nil))))))
    .nil)
/-- 14 -/
def b14 : CSs := (.cons (.setix (.var 0) (.str "drawn") (.bin .add (.ix (.var 0) (.str "drawn")) (.int 1)))
    (.cons (.ite (.cmp .gt (.ix (.var 0) (.str "rest")) (.int 0)) (.cons (.asg (.nm 2) (.bin .mod (.ix (.var 0) (.str "rest")) (.var 1)))
    (.cons (.setix (.var 0) (.str "rest") (.bin .fdiv (.ix (.var 0) (.str "rest")) (.var 1)))
    (.cons (.ret (.var 2))
    .nil))) .nil)
    (.cons (.par 3 4 (.ix (.var 0) (.str "next")) (.ix (.var 0) (.str "cells")))
    (.cons (.setix (.var 0) (.str "next") (.bin .add (.var 3) (.int 1)))
    (.cons (.asg (.nm 5) (.ite (.cmp .ne (.var 4) (.lst .nil)) (.ix (.var 4) (.bin .mod (.var 3) (.bi .len (.cons (.var 4) .nil)))) (.int 29)))
    (.cons (.ite (.and (.cmp .ge (.var 5) (.bin .pow (.int 10) (.int 18))) (.cmp .lt (.var 3) (.bi .len (.cons (.var 4) .nil)))) (.cons (.setix (.var 0) (.str "rest") (.bin .fdiv (.var 5) (.var 1)))
    (.cons (.ret (.bin .mod (.var 5) (.var 1)))
    .nil)) .nil)
    (.cons (.asg (.nm 6) (.ix (.var 0) (.str "drawn")))
    (.cons (.asg (.nm 7) (.bin .add (.bin .add (.bin .add (.bin .mod (.var 5) (.int 2147483563)) (.bin .mul (.bin .mul (.int 9973) (.var 6)) (.var 6))) (.bin .mul (.int 2503) (.var 6))) (.int 71)))
    (.cons (.asg (.nm 7) (.bin .mod (.bin .add (.bin .add (.bin .mul (.var 7) (.var 7)) (.bin .mul (.int 40009) (.var 6))) (.int 13)) (.int 2147483587)))
    (.cons (.ret (.bin .mod (.bin .fdiv (.bin .mod (.bin .add (.bin .mul (.var 7) (.var 7)) (.bin .mul (.int 41) (.var 7))) (.int 2147483549)) (.int 32)) (.var 1)))
    .nil))))))))))
/-- 15 -/
def b15 : CSs := (.cons (.ite (.or (.not (.isi (.var 0) (.tuple))) (.or (.cmp .ne (.bi .len (.cons (.var 0) .nil)) (.int 3)) (.cmp .ne (.bi .repr (.cons (.ix (.var 0) (.int 0)) .nil)) (.str "'at'")))) (.cons (.ret (.bl false))
    .nil) .nil)
    (.cons (.ret (.cmp .eq (.lc (.var 1) (.nm 1) (.val (.sl (.var 0) (.some (.int 1)) .no)) (.some (.or (.isi (.var 1) (.bool)) (.or (.not (.isi (.var 1) (.int))) (.cmp .lt (.var 1) (.int 0))))) [1]) (.lst .nil)))
    .nil))
/-- 16 -/
def b16 : CSs := (.cons (.ite (.or (.cmp .isn (.var 0) .non) (.isi (.var 0) (.bool))) (.cons (.ret (.lst (.cons (.ite (.cmp .isn (.var 0) .non) (.str "-") (.ite (.var 0) (.str "+") (.str "/"))) .nil)))
    .nil) .nil)
    (.cons (.ite (.not (.isi (.var 0) (.tuple))) (.cons (.ret (.lst (.cons (.bi .str (.cons (.var 0) .nil)) .nil)))
    .nil) .nil)
    (.cons (.ite (.call 15 (.cons (.var 0) .nil) [] [0]) (.cons (.ret (.lst (.cons (.bin .add (.bin .add (.bin .add (.str "@") (.bi .str (.cons (.ix (.var 0) (.int 1)) .nil))) (.str ".")) (.bi .str (.cons (.ix (.var 0) (.int 2)) .nil))) .nil)))
    .nil) .nil)
    (.cons (.asg (.nm 1) (.lst (.cons (.str "(") .nil)))
    (.cons (.for (.nm 2) (.val (.var 0)) (.cons (.expr (.me .extend (.var 1) (.cons (.call 16 (.cons (.var 2) .nil) [] [0]) .nil)))
    .nil))
    (.cons (.ret (.bin .add (.var 1) (.lst (.cons (.str ")") .nil))))
    .nil))))))
/-- 17 -/
def b17 : CSs := (.cons (.asg (.nm 2) (.call 14 (.cons (.var 0) (.cons (.int 10) .nil)) [] [0, 1]))
    (.cons (.ite (.and (.cmp .lt (.var 2) (.int 5)) (.cmp .gt (.var 1) (.int 0))) (.cons (.ret (.bi .tuple (.cons (.lc (.call 17 (.cons (.var 0) (.cons (.bin .sub (.var 1) (.int 1)) .nil)) [] [0, 1]) (.nm 3) (.rng (.call 14 (.cons (.var 0) (.cons (.int 5) .nil)) [] [0, 1])) .no [3]) .nil)))
    .nil) .nil)
    (.cons (.asg (.nm 4) (.ix (.lst (.cons (.int 0) (.cons (.int 1) (.cons (.int 7) (.cons (.int 10) (.cons (.neg (.int 1)) (.cons (.neg (.int 10)) (.cons (.int 123456789012) (.cons (.neg (.int 99)) (.cons (.int 100) (.cons (.bin .pow (.int 10) (.int 6)) .nil))))))))))) (.call 14 (.cons (.var 0) (.cons (.int 10) .nil)) [] [0, 1])))
    (.cons (.asg (.nm 5) (.lst (.cons (.var 4) (.cons (.var 4) (.cons (.ix (.lst (.cons (.str "a") (.cons (.str "at") (.cons (.str "zzzzzzzz") (.cons (.str "act") .nil))))) (.call 14 (.cons (.var 0) (.cons (.int 4) .nil)) [] [0, 1])) (.cons .non (.cons (.bl true) (.cons (.bl false) (.cons (.tup (.cons (.str "at") (.cons (.int 1) (.cons (.int 12) .nil)))) .nil)))))))))
    (.cons (.ret (.ix (.var 5) (.call 14 (.cons (.var 0) (.cons (.int 7) .nil)) [] [0, 1])))
    .nil)))))
/-- 18 -/
def b18 : CSs := (.cons (.asg (.nm 1) (.lst (.cons (.isi (.var 0) (.cls 4)) (.cons (.isi (.var 0) (.cls 5)) (.cons (.isi (.var 0) (.cls 6)) (.cons (.isi (.var 0) (.cls 7)) .nil))))))
    (.cons (.asg (.nm 1) (.bin .add (.var 1) (.lst (.cons (.isi (.var 0) (.cls 8)) (.cons (.isi (.var 0) (.cls 9)) (.cons (.isi (.var 0) (.cls 10)) (.cons (.isi (.var 0) (.cls 11)) .nil)))))))
    (.cons (.asg (.nm 2) (.ite (.cmp .eq (.me .count (.var 1) (.cons (.bl true) .nil)) (.int 1)) (.me .index (.var 1) (.cons (.bl true) .nil)) (.int 8)))
    (.cons (.asg (.nm 3) (.lst (.cons (.isi (.var 0) (.cls 1)) (.cons (.isi (.var 0) (.cls 2)) (.cons (.isi (.var 0) (.cls 3)) (.cons (.isi (.var 0) (.ve)) .nil))))))
    (.cons (.ite (.or (.cmp .eq (.var 2) (.int 8)) (.cmp .ne (.var 3) (.lst (.cons (.cmp .lt (.var 2) (.int 3)) (.cons (.chain .lt .lt (.int 2) (.var 2) (.int 6)) (.cons (.cmp .gt (.var 2) (.int 5)) (.cons (.bl true) .nil))))))) (.cons (.ret (.tup (.cons (.str "no") (.cons (.str "other") .nil))))
    .nil) .nil)
    (.cons (.ite (.cmp .lt (.var 2) (.int 3)) (.cons (.ret (.tup (.cons (.str "no") (.cons (.ix (.lst (.cons (.str "paper") (.cons (.str "trace") (.cons (.str "code") .nil)))) (.var 2)) (.cons (.att (.var 0) 0) (.cons (.att (.var 0) 1) .nil))))))
    .nil) .nil)
    (.cons (.ite (.cmp .eq (.var 2) (.int 3)) (.cons (.ret (.tup (.cons (.str "no") (.cons (.str "folk") (.cons (.att (.var 0) 2) .nil)))))
    .nil) .nil)
    (.cons (.ite (.cmp .eq (.var 2) (.int 4)) (.cons (.ret (.tup (.cons (.str "no") (.cons (.str "step") (.cons (.att (.var 0) 0) .nil)))))
    .nil) .nil)
    (.cons (.ite (.cmp .eq (.var 2) (.int 5)) (.cons (.ret (.tup (.cons (.str "no") (.cons (.str "back") (.cons (.att (.var 0) 3) .nil)))))
    .nil) .nil)
    (.cons (.ret (.ite (.cmp .eq (.var 2) (.int 6)) (.tup (.cons (.str "no") (.cons (.str "text") (.cons (.att (.var 0) 4) (.cons (.att (.var 0) 0) .nil))))) (.tup (.cons (.str "no") (.cons (.str "line") (.cons (.att (.var 0) 4) .nil))))))
    .nil))))))))))
/-- 19 -/
def b19 : CSs := (.cons (.ite (.or (.not (.chain .lt .lt (.int 0) (.bi .len (.cons (.var 0) .nil)) (.int 13))) (.cmp .ne (.lc (.var 1) (.nm 1) (.val (.var 0)) (.some (.cmp .notin (.var 1) (.str "0123456789"))) [1]) (.lst .nil))) (.cons (.ret (.lst .nil))
    .nil) .nil)
    (.cons (.ret (.ite (.or (.cmp .eq (.var 0) (.str "0")) (.cmp .ne (.ix (.var 0) (.int 0)) (.str "0"))) (.lst (.cons (.bi .int (.cons (.var 0) .nil)) .nil)) (.lst .nil)))
    .nil))
/-- 20 -/
def b20 : CSs := (.cons (.ite (.cmp .isin (.var 0) (.tup (.cons (.str "-") (.cons (.str "+") (.cons (.str "/") .nil))))) (.cons (.ret (.lst (.cons (.ix (.dct ["-", "+", "/"] (.cons .non (.cons (.bl true) (.cons (.bl false) .nil)))) (.var 0)) .nil)))
    .nil) .nil)
    (.cons (.ite (.and (.chain .lt .lt (.int 0) (.bi .len (.cons (.var 0) .nil)) (.int 9)) (.cmp .eq (.lc (.var 1) (.nm 1) (.val (.var 0)) (.some (.cmp .notin (.var 1) (.str "abcdefghijklmnopqrstuvwxyz"))) [1]) (.lst .nil))) (.cons (.ret (.lst (.cons (.var 0) .nil)))
    .nil) .nil)
    (.cons (.ite (.cmp .eq (.sl (.var 0) .no (.some (.int 1))) (.str "@")) (.cons (.asg (.nm 2) (.lc (.call 19 (.cons (.var 3) .nil) [] [0]) (.nm 3) (.val (.me .split (.sl (.var 0) (.some (.int 1)) .no) (.cons (.str ".") .nil))) .no [3]))
    (.cons (.ret (.ite (.and (.cmp .eq (.bi .len (.cons (.var 2) .nil)) (.int 2)) (.cmp .notin (.lst .nil) (.var 2))) (.lst (.cons (.tup (.cons (.str "at") (.cons (.ix (.ix (.var 2) (.int 0)) (.int 0)) (.cons (.ix (.ix (.var 2) (.int 1)) (.int 0)) .nil)))) .nil)) (.lst .nil)))
    .nil)) .nil)
    (.cons (.ite (.cmp .eq (.sl (.var 0) .no (.some (.int 1))) (.str "-")) (.cons (.ret (.lc (.bin .sub (.int 0) (.var 3)) (.nm 3) (.val (.call 19 (.cons (.sl (.var 0) (.some (.int 1)) .no) .nil) [] [0])) (.some (.cmp .gt (.var 3) (.int 0))) [3]))
    .nil) .nil)
    (.cons (.ret (.call 19 (.cons (.var 0) .nil) [] [0]))
    .nil)))))
/-- 21 -/
def b21 : CSs := (.cons (.asg (.nm 2) (.lst (.cons (.lst .nil) .nil)))
    (.cons (.for (.tp [(.nm 3), (.nm 4)]) (.enum (.var 0)) (.cons (.ite (.and (.cmp .eq (.bi .len (.cons (.var 2) .nil)) (.int 1)) (.cmp .eq (.bi .len (.cons (.ix (.var 2) (.int 0)) .nil)) (.var 1))) (.cons (.ret (.var 3))
    .nil) .nil)
    (.cons (.ite (.cmp .eq (.var 4) (.str "(")) (.cons (.expr (.me .append (.var 2) (.cons (.lst .nil) .nil)))
    .nil) (.cons (.ite (.and (.cmp .eq (.var 4) (.str ")")) (.cmp .gt (.bi .len (.cons (.var 2) .nil)) (.int 1))) (.cons (.asg (.nm 5) (.bi .tuple (.cons (.me .pop (.var 2) .nil) .nil)))
    (.cons (.expr (.me .append (.ix (.var 2) (.neg (.int 1))) (.cons (.var 5) .nil)))
    .nil)) (.cons (.ite (.cmp .eq (.call 20 (.cons (.var 4) .nil) [] [0]) (.lst .nil)) (.cons (.ret (.var 3))
    .nil) (.cons (.expr (.me .append (.ix (.var 2) (.neg (.int 1))) (.cons (.ix (.call 20 (.cons (.var 4) .nil) [] [0]) (.int 0)) .nil)))
    .nil))
    .nil))
    .nil))
    .nil)))
    (.cons (.ret (.ite (.cmp .eq (.bi .len (.cons (.var 2) .nil)) (.int 1)) (.bi .tuple (.cons (.ix (.var 2) (.int 0)) .nil)) (.bi .len (.cons (.var 0) .nil))))
    .nil)))
/-- 22 -/
def b22 : CSs := (.cons (.asg (.nm 1) (.dct ["act", "come", "again", "tick", "part", "meet", "fall", "load"] (.cons (.int 3) (.cons (.int 2) (.cons (.int 2) (.cons (.int 2) (.cons (.int 3) (.cons (.int 3) (.cons (.int 2) (.cons (.int 3) .nil))))))))))
    (.cons (.ite (.or (.cmp .eq (.var 0) (.tup .nil)) (.or (.not (.isi (.ix (.var 0) (.int 0)) (.str))) (.cmp .ne (.bi .len (.cons (.var 0) .nil)) (.me .get (.var 1) (.cons (.ix (.var 0) (.int 0)) (.cons (.int 0) .nil)))))) (.cons (.ret (.bl false))
    .nil) .nil)
    (.cons (.ret (.cmp .eq (.lc (.var 2) (.nm 2) (.val (.sl (.var 0) (.some (.int 1)) .no)) (.some (.or (.isi (.var 2) (.bool)) (.or (.not (.isi (.var 2) (.int))) (.cmp .lt (.var 2) (.int 0))))) [2]) (.lst .nil)))
    .nil)))
/-- 23 -/
def b23 : CSs := (.cons (.asg (.nm 2) (.call 21 (.cons (.me .split (.var 0) (.cons (.str " ") .nil)) (.cons (.int 1) .nil)) [] [0, 1]))
    (.cons (.ret (.ite (.isi (.var 2) (.int)) (.tup (.cons (.str "no") (.cons (.str "text") (.cons (.var 1) (.cons (.var 2) .nil))))) (.tup (.cons (.str "told") (.cons (.ix (.var 2) (.int 0)) .nil)))))
    .nil))
/-- 24 -/
def b24 : CSs := (.cons (.asg (.nm 1) (.lst .nil))
    (.cons (.for (.tp [(.nm 2), (.nm 3)]) (.enum (.ite (.cmp .ne (.var 0) (.str "")) (.me .split (.var 0) (.cons (.str "\n") .nil)) (.lst .nil))) (.cons (.asg (.nm 4) (.call 21 (.cons (.me .split (.var 3) (.cons (.str " ") .nil)) (.cons (.bin .pow (.int 10) (.int 6)) .nil)) [] [0, 1]))
    (.cons (.ite (.isi (.var 4) (.int)) (.cons (.ret (.tup (.cons (.str "no") (.cons (.str "text") (.cons (.var 2) (.cons (.var 4) .nil))))))
    .nil) .nil)
    (.cons (.ite (.not (.call 22 (.cons (.var 4) .nil) [] [0])) (.cons (.ret (.tup (.cons (.str "no") (.cons (.str "text") (.cons (.var 2) (.cons (.int 0) .nil))))))
    .nil) .nil)
    (.cons (.expr (.me .append (.var 1) (.cons (.var 4) .nil)))
    .nil)))))
    (.cons (.ret (.tup (.cons (.str "told") (.cons (.bi .tuple (.cons (.var 1) .nil)) .nil))))
    .nil)))
/-- 25 -/
def b25 : CSs := (.cons (.asg (.nm 2) (.me .split (.var 1) (.cons (.str " ") .nil)))
    (.cons (.par 3 4 (.call 14 (.cons (.var 0) (.cons (.int 6) .nil)) [] [0, 1]) (.call 14 (.cons (.var 0) (.cons (.bi .len (.cons (.var 2) .nil)) .nil)) [] [0, 1]))
    (.cons (.ite (.cmp .eq (.var 3) (.int 0)) (.cons (.ret (.me .join (.str " ") (.cons (.bin .add (.sl (.var 2) .no (.some (.var 4))) (.sl (.var 2) (.some (.bin .add (.var 4) (.int 1))) .no)) .nil)))
    .nil) .nil)
    (.cons (.ite (.cmp .eq (.var 3) (.int 1)) (.cons (.ret (.me .join (.str " ") (.cons (.bin .add (.sl (.var 2) .no (.some (.bin .add (.var 4) (.int 1)))) (.sl (.var 2) (.some (.var 4)) .no)) .nil)))
    .nil) .nil)
    (.cons (.ite (.cmp .eq (.var 3) (.int 2)) (.cons (.asg (.nm 5) (.lst (.cons (.str "(") (.cons (.str ")") (.cons (.str "-") (.cons (.str "") (.cons (.str "-0") (.cons (.str "-1") (.cons (.str "00") (.cons (.str "+1") (.cons (.str "@1") (.cons (.str "@0.1") (.cons (.str "@0.01") (.cons (.str "@-1.0") (.cons (.str "A") (.cons (.str "abcdefghi") .nil))))))))))))))))
    (.cons (.expr (.me .append (.var 5) (.cons (.str "1234567890123") .nil)))
    (.cons (.ret (.me .join (.str " ") (.cons (.bin .add (.bin .add (.sl (.var 2) .no (.some (.var 4))) (.lst (.cons (.ix (.var 5) (.call 14 (.cons (.var 0) (.cons (.int 15) .nil)) [] [0, 1])) .nil))) (.sl (.var 2) (.some (.bin .add (.var 4) (.int 1))) .no)) .nil)))
    .nil))) .nil)
    (.cons (.asg (.nm 6) (.call 14 (.cons (.var 0) (.cons (.bin .add (.bi .len (.cons (.var 1) .nil)) (.int 1)) .nil)) [] [0, 1]))
    (.cons (.asg (.nm 7) (.ix (.str " ()-+/@.019azA") (.call 14 (.cons (.var 0) (.cons (.int 14) .nil)) [] [0, 1])))
    (.cons (.ret (.bin .add (.sl (.var 1) .no (.some (.var 6))) (.ix (.lst (.cons (.bin .add (.var 7) (.sl (.var 1) (.some (.var 6)) .no)) (.cons (.bin .add (.var 7) (.sl (.var 1) (.some (.bin .add (.var 6) (.int 1))) .no)) (.cons (.sl (.var 1) (.some (.bin .add (.var 6) (.int 1))) .no) .nil)))) (.bin .sub (.var 3) (.int 3)))))
    .nil))))))))
/-- 26 -/
def b26 : CSs := (.cons (.par 1 2 (.bi .str (.cons (.call 14 (.cons (.var 0) (.cons (.int 4) .nil)) [] [0, 1]) .nil)) (.bi .str (.cons (.ix (.lst (.cons (.int 0) (.cons (.int 3) (.cons (.int 12) .nil)))) (.call 14 (.cons (.var 0) (.cons (.int 3) .nil)) [] [0, 1])) .nil)))
    (.cons (.ret (.ix (.lst (.cons (.lst (.cons (.str "act") (.cons (.var 1) (.cons (.var 2) .nil)))) (.cons (.lst (.cons (.str "come") (.cons (.var 2) .nil))) (.cons (.lst (.cons (.str "tick") (.cons (.var 1) .nil))) (.cons (.lst (.cons (.str "part") (.cons (.var 1) (.cons (.var 2) .nil)))) (.cons (.lst (.cons (.str "fall") (.cons (.var 1) .nil))) (.cons (.lst (.cons (.str "load") (.cons (.var 1) (.cons (.var 2) .nil)))) .nil))))))) (.call 14 (.cons (.var 0) (.cons (.int 6) .nil)) [] [0, 1])))
    .nil))
/-- 27 -/
def b27 : CSs := (.cons (.asg (.nm 1) (.call 13 (.cons (.var 0) .nil) [] [0]))
    (.cons (.asg (.nm 2) (.lst (.cons (.str "") (.cons (.str " ") (.cons (.str "(") (.cons (.str ")") (.cons (.str "( )") (.cons (.str "( 1") (.cons (.str "1 2") (.cons (.str "( 1 ) )") (.cons (.str "( at 1 2 )") (.cons (.str "( at 1 )") (.cons (.str "-") (.cons (.str "--") (.cons (.str "@") .nil)))))))))))))))
    (.cons (.asg (.nm 2) (.bin .add (.var 2) (.lst (.cons (.str "@1.2.3") (.cons (.str "@1.") .nil)))))
    (.cons (.for (.nm 3) (.rng (.int 10)) (.cons (.asg (.nm 4) (.me .join (.str " ") (.cons (.call 16 (.cons (.call 17 (.cons (.var 1) (.cons (.int 2) .nil)) [] [0, 1]) .nil) [] [0]) .nil)))
    (.cons (.asg (.nm 5) (.call 25 (.cons (.var 1) (.cons (.var 4) .nil)) [] [0, 1]))
    (.cons (.asg (.nm 2) (.bin .add (.var 2) (.lst (.cons (.var 4) (.cons (.var 5) (.cons (.call 25 (.cons (.var 1) (.cons (.var 5) .nil)) [] [0, 1]) .nil))))))
    .nil))))
    (.cons (.for (.nm 6) (.val (.var 2)) (.cons (.asg (.nm 7) (.ix (.lst (.cons (.int 0) (.cons (.int 5) (.cons (.bin .pow (.int 10) (.int 60)) .nil)))) (.call 14 (.cons (.var 1) (.cons (.int 3) .nil)) [] [0, 1])))
    (.cons (.asg (.nm 8) (.lst (.cons (.said (.call 9 (.cons (.var 6) (.cons (.var 7) .nil)) [] [0, 1])) .nil)))
    (.cons (.expr (.me .append (.var 8) (.cons (.said (.call 9 (.cons (.var 6) .nil) [(.int 0)] [0, 1])) .nil)))
    (.cons (.ite (.cmp .ne (.bi .repr (.cons (.var 8) .nil)) (.bi .repr (.cons (.lst (.cons (.call 23 (.cons (.var 6) (.cons (.var 7) .nil)) [] [0, 1]) (.cons (.call 23 (.cons (.var 6) (.cons (.int 0) .nil)) [] [0, 1]) .nil))) .nil))) (.cons (.ret (.bl false))
    .nil) .nil)
    .nil)))))
    (.cons (.for (.nm 3) (.rng (.int 10)) (.cons (.asg (.nm 9) (.lc (.me .join (.str " ") (.cons (.call 26 (.cons (.var 1) .nil) [] [0]) .nil)) (.nm 10) (.rng (.bin .add (.int 1) (.call 14 (.cons (.var 1) (.cons (.int 4) .nil)) [] [0, 1]))) .no [10]))
    (.cons (.asg (.nm 11) (.call 14 (.cons (.var 1) (.cons (.bi .len (.cons (.var 9) .nil)) .nil)) [] [0, 1]))
    (.cons (.asg (.nm 12) (.bin .add (.bin .add (.sl (.var 9) .no (.some (.var 11))) (.lst (.cons (.call 25 (.cons (.var 1) (.cons (.ix (.var 9) (.var 11)) .nil)) [] [0, 1]) .nil))) (.sl (.var 9) (.some (.bin .add (.var 11) (.int 1))) .no)))
    (.cons (.for (.nm 6) (.val (.tup (.cons (.me .join (.str "\n") (.cons (.var 9) .nil)) (.cons (.me .join (.str "\n") (.cons (.var 12) .nil)) (.cons (.bin .add (.me .join (.str "\n") (.cons (.var 9) .nil)) (.str "\n")) (.cons (.ix (.var 2) (.var 3)) (.cons (.str "act 0 x") (.cons (.str "act 0 (") .nil)))))))) (.cons (.ite (.cmp .ne (.bi .repr (.cons (.said (.call 12 (.cons (.var 6) .nil) [] [0])) .nil)) (.bi .repr (.cons (.call 24 (.cons (.var 6) .nil) [] [0]) .nil))) (.cons (.ret (.bl false))
    .nil) .nil)
    .nil))
    .nil)))))
    (.cons (.ret (.cmp .eq (.bi .repr (.cons (.call 12 (.cons (.str "") .nil) [] [0]) .nil)) (.str "()")))
    .nil)))))))

def mkD (q : (Nat × List Str) × Nat) (b : CSs) : Def := ⟨q.2, q.1.2.length, b⟩
def bodies : List CSs := [b0, b1, b2, b3, b4, b5, b6, b7, b8, b9, b10, b11, b12, b13, b14, b15, b16, b17, b18, b19, b20, b21, b22, b23, b24, b25, b26, b27]
def prg : Prg := { gc := gcs, gd := gds, sub := fun C D => C == 10 && ((supL[C]?).getD []).contains D, fld := fun C f => if C = 10 then ((fldL[C]?).getD []).findIdx? (· == f) else none, live := fun C => C == 10, folk := folkC, refusal := refF, defs := [⟨1, 2, b0⟩,
  ⟨1, 1, b1⟩,
  ⟨1, 1, b2⟩,
  ⟨2, 3, b3⟩,
  ⟨1, 2, b4⟩,
  ⟨1, 1, b5⟩,
  ⟨1, 4, b6⟩,
  ⟨1, 1, b7⟩,
  ⟨3, 9, b8⟩,
  ⟨2, 2, b9⟩,
  ⟨1, 3, b10⟩,
  ⟨2, 4, b11⟩,
  ⟨1, 3, b12⟩,
  ⟨1, 1, b13⟩,
  ⟨2, 8, b14⟩,
  ⟨1, 2, b15⟩,
  ⟨1, 3, b16⟩,
  ⟨2, 6, b17⟩,
  ⟨1, 4, b18⟩,
  ⟨1, 2, b19⟩,
  ⟨1, 4, b20⟩,
  ⟨2, 6, b21⟩,
  ⟨1, 3, b22⟩,
  ⟨2, 3, b23⟩,
  ⟨1, 5, b24⟩,
  ⟨2, 8, b25⟩,
  ⟨1, 3, b26⟩,
  ⟨1, 13, b27⟩] }
end LF
set_option Elab.async false
set_option linter.all false
set_option maxHeartbeats 8000000
set_option maxRecDepth 100000
/-! The text's defs: names, bodies. -/
namespace LF
open PySem PySem.Spec PyProof.Rows L2
def lawI : Program := PySem.Challenge.pw_letterfolk_k86_texts_refused
def topS (i : Nat) : Stmt := lawI.main.body.getD i (.Pass ⟨0, 0, 0, 0⟩)
/-- a def of the text, its names, its body as the interpreter has it -/
structure DefT (i : Nat) (N ps : List Str) (sd : Bool) (b : CSs) : Prop where
  S : FnScope N ps (L2.defScope (topS i))
  nb : ∀ x ∈ N, (x == ("__debug__" : Str)) = false ∧ (x == ("__classdict__" : Str)) = false
  c : compB gx N sd (L2.defScope (topS i)) (L2.defBody (topS i)) = some b
def topD (i : Nat) (x : Str) (kw : List (Str × He.Dv)) : He.DefD := ⟨(x, none), x, x, L2.defArgs (topS i), L2.defBody (topS i), L2.defScope (topS i), [], kw⟩
theorem t0 : DefT 16 ["thing", "sign"] ["thing"] false b0 := ⟨⟨rfl, rfl, rfl, by decide +kernel, rfl, by decide +kernel, by decide +kernel⟩, by decide +kernel, by kernel_rfl⟩
theorem t1 : DefT 19 ["thing"] ["thing"] false b1 := ⟨⟨rfl, rfl, rfl, by decide +kernel, rfl, by decide +kernel, by decide +kernel⟩, by decide +kernel, by kernel_rfl⟩
theorem t2 : DefT 20 ["thing"] ["thing"] false b2 := ⟨⟨rfl, rfl, rfl, by decide +kernel, rfl, by decide +kernel, by decide +kernel⟩, by decide +kernel, by kernel_rfl⟩
theorem t3 : DefT 21 ["size", "thing", "one"] ["size", "thing"] false b3 := ⟨⟨rfl, rfl, rfl, by decide +kernel, rfl, by decide +kernel, by decide +kernel⟩, by decide +kernel, by kernel_rfl⟩
theorem t4 : DefT 27 ["text", "sign"] ["text"] false b4 := ⟨⟨rfl, rfl, rfl, by decide +kernel, rfl, by decide +kernel, by decide +kernel⟩, by decide +kernel, by kernel_rfl⟩
theorem t5 : DefT 28 ["text"] ["text"] false b5 := ⟨⟨rfl, rfl, rfl, by decide +kernel, rfl, by decide +kernel, by decide +kernel⟩, by decide +kernel, by kernel_rfl⟩
theorem t6 : DefT 29 ["text", "house", "point", "number"] ["text"] false b6 := ⟨⟨rfl, rfl, rfl, by decide +kernel, rfl, by decide +kernel, by decide +kernel⟩, by decide +kernel, by kernel_rfl⟩
theorem t7 : DefT 30 ["text"] ["text"] false b7 := ⟨⟨rfl, rfl, rfl, by decide +kernel, rfl, by decide +kernel, by decide +kernel⟩, by decide +kernel, by kernel_rfl⟩
theorem t8 : DefT 31 ["words", "line", "most", "piles", "at", "word", "inside", "is_free", "own"] ["words", "line", "most"] false b8 := ⟨⟨rfl, rfl, rfl, by decide +kernel, rfl, by decide +kernel, by decide +kernel⟩, by decide +kernel, by kernel_rfl⟩
theorem t9 : DefT 32 ["text", "line"] ["text", "line"] false b9 := ⟨⟨rfl, rfl, rfl, by decide +kernel, rfl, by decide +kernel, by decide +kernel⟩, by decide +kernel, by kernel_rfl⟩
theorem t10 : DefT 33 ["thing", "word", "size"] ["thing"] false b10 := ⟨⟨rfl, rfl, rfl, by decide +kernel, rfl, by decide +kernel, by decide +kernel⟩, by decide +kernel, by kernel_rfl⟩
theorem t11 : DefT 34 ["text", "line", "words", "thing"] ["text", "line"] false b11 := ⟨⟨rfl, rfl, rfl, by decide +kernel, rfl, by decide +kernel, by decide +kernel⟩, by decide +kernel, by kernel_rfl⟩
theorem t12 : DefT 35 ["text", "line", "row"] ["text"] false b12 := ⟨⟨rfl, rfl, rfl, by decide +kernel, rfl, by decide +kernel, by decide +kernel⟩, by decide +kernel, by kernel_rfl⟩
theorem t13 : DefT 37 ["_law_script"] ["_law_script"] false b13 := ⟨⟨rfl, rfl, rfl, by decide +kernel, rfl, by decide +kernel, by decide +kernel⟩, by decide +kernel, by kernel_rfl⟩
theorem t14 : DefT 38 ["_law_well_here", "_law_many", "_law_figure", "_law_at", "_law_cells", "_law_cell", "_law_n", "_law_mixed"] ["_law_well_here", "_law_many"] false b14 := ⟨⟨rfl, rfl, rfl, by decide +kernel, rfl, by decide +kernel, by decide +kernel⟩, by decide +kernel, by kernel_rfl⟩
theorem t15 : DefT 39 ["_law_stuff", "_law_one"] ["_law_stuff"] false b15 := ⟨⟨rfl, rfl, rfl, by decide +kernel, rfl, by decide +kernel, by decide +kernel⟩, by decide +kernel, by kernel_rfl⟩
theorem t16 : DefT 40 ["_law_stuff", "_law_found", "_law_one"] ["_law_stuff"] false b16 := ⟨⟨rfl, rfl, rfl, by decide +kernel, rfl, by decide +kernel, by decide +kernel⟩, by decide +kernel, by kernel_rfl⟩
theorem t17 : DefT 41 ["_law_well_here", "_law_deep", "_law_way", "_law_k", "_law_number", "_law_some"] ["_law_well_here", "_law_deep"] false b17 := ⟨⟨rfl, rfl, rfl, by decide +kernel, rfl, by decide +kernel, by decide +kernel⟩, by decide +kernel, by kernel_rfl⟩
theorem t18 : DefT 42 ["_law_e", "_law_sorts", "_law_at", "_law_families"] ["_law_e"] false b18 := ⟨⟨rfl, rfl, rfl, by decide +kernel, rfl, by decide +kernel, by decide +kernel⟩, by decide +kernel, by kernel_rfl⟩
theorem t19 : DefT 44 ["_law_word", "_law_sign"] ["_law_word"] false b19 := ⟨⟨rfl, rfl, rfl, by decide +kernel, rfl, by decide +kernel, by decide +kernel⟩, by decide +kernel, by kernel_rfl⟩
theorem t20 : DefT 45 ["_law_word", "_law_sign", "_law_parts", "_law_one"] ["_law_word"] false b20 := ⟨⟨rfl, rfl, rfl, by decide +kernel, rfl, by decide +kernel, by decide +kernel⟩, by decide +kernel, by kernel_rfl⟩
theorem t21 : DefT 46 ["_law_words", "_law_most", "_law_levels", "_law_at", "_law_word", "_law_own"] ["_law_words", "_law_most"] false b21 := ⟨⟨rfl, rfl, rfl, by decide +kernel, rfl, by decide +kernel, by decide +kernel⟩, by decide +kernel, by kernel_rfl⟩
theorem t22 : DefT 47 ["_law_stuff", "_law_sizes", "_law_one"] ["_law_stuff"] false b22 := ⟨⟨rfl, rfl, rfl, by decide +kernel, rfl, by decide +kernel, by decide +kernel⟩, by decide +kernel, by kernel_rfl⟩
theorem t23 : DefT 48 ["_law_texted", "_law_spot_row", "_law_found"] ["_law_texted", "_law_spot_row"] false b23 := ⟨⟨rfl, rfl, rfl, by decide +kernel, rfl, by decide +kernel, by decide +kernel⟩, by decide +kernel, by kernel_rfl⟩
theorem t24 : DefT 49 ["_law_texted", "_law_found", "_law_spot_row", "_law_row", "_law_some"] ["_law_texted"] false b24 := ⟨⟨rfl, rfl, rfl, by decide +kernel, rfl, by decide +kernel, by decide +kernel⟩, by decide +kernel, by kernel_rfl⟩
theorem t25 : DefT 50 ["_law_well_here", "_law_texted", "_law_words", "_law_way", "_law_at", "_law_some", "_law_spot", "_law_sign"] ["_law_well_here", "_law_texted"] false b25 := ⟨⟨rfl, rfl, rfl, by decide +kernel, rfl, by decide +kernel, by decide +kernel⟩, by decide +kernel, by kernel_rfl⟩
theorem t26 : DefT 51 ["_law_well_here", "_law_h", "_law_n"] ["_law_well_here"] false b26 := ⟨⟨rfl, rfl, rfl, by decide +kernel, rfl, by decide +kernel, by decide +kernel⟩, by decide +kernel, by kernel_rfl⟩
theorem t27 : DefT 52 ["_law_script", "_law_well_here", "_law_by_hand", "_law_k", "_law_row", "_law_once", "_law_texted", "_law_spot_row", "_law_told", "_law_rows", "_law_j", "_law_at", "_law_spoilt_here"] ["_law_script"] true b27 := ⟨⟨rfl, rfl, rfl, by decide +kernel, rfl, by decide +kernel, by decide +kernel⟩, by decide +kernel, by kernel_rfl⟩
def dsL : List He.DefD := [topD 16 "is_word" [], topD 19 "is_from_nought" [], topD 20 "first_word" [], topD 21 "is_sized" [], topD 27 "are_figures" [], topD 28 "is_negative" [], topD 29 "address_read" [], topD 30 "word_read" [], topD 31 "things_read" [], topD 32 "read_thing" [("line", .int 0)], topD 33 "is_step_read" [], topD 34 "step_read" [], topD 35 "read_steps" [], topD 37 "_law_well" [], topD 38 "_law_cup" [], topD 39 "_law_is_address" [], topD 40 "_law_written" [], topD 41 "_law_thing" [], topD 42 "_law_refusal" [], topD 44 "_law_figures" [], topD 45 "_law_atom" [], topD 46 "_law_things_in" [], topD 47 "_law_is_step" [], topD 48 "_law_thing_due" [], topD 49 "_law_steps_due" [], topD 50 "_law_spoilt" [], topD 51 "_law_step_row" [], topD 52 "law" [], topD 43 "_law_said" []]
theorem bi0 (kV doc pm : Value) (an : Option Addr) (cdv ct : Value) (us : List Value) (h : us.length = 1) : bindArgs (PySem.W.fnOf "is_word" "is_word" (L2.defArgs (topS 16)) (L2.defBody (topS 16)) (L2.defScope (topS 16)) .none kV doc pm an cdv ct) ⟨us, []⟩ = pure ((["thing"] : List Str).zip us) := match us, h with
  | [_], _ => by kernel_rfl
theorem bi1 (kV doc pm : Value) (an : Option Addr) (cdv ct : Value) (us : List Value) (h : us.length = 1) : bindArgs (PySem.W.fnOf "is_from_nought" "is_from_nought" (L2.defArgs (topS 19)) (L2.defBody (topS 19)) (L2.defScope (topS 19)) .none kV doc pm an cdv ct) ⟨us, []⟩ = pure ((["thing"] : List Str).zip us) := match us, h with
  | [_], _ => by kernel_rfl
theorem bi2 (kV doc pm : Value) (an : Option Addr) (cdv ct : Value) (us : List Value) (h : us.length = 1) : bindArgs (PySem.W.fnOf "first_word" "first_word" (L2.defArgs (topS 20)) (L2.defBody (topS 20)) (L2.defScope (topS 20)) .none kV doc pm an cdv ct) ⟨us, []⟩ = pure ((["thing"] : List Str).zip us) := match us, h with
  | [_], _ => by kernel_rfl
theorem bi3 (kV doc pm : Value) (an : Option Addr) (cdv ct : Value) (us : List Value) (h : us.length = 2) : bindArgs (PySem.W.fnOf "is_sized" "is_sized" (L2.defArgs (topS 21)) (L2.defBody (topS 21)) (L2.defScope (topS 21)) .none kV doc pm an cdv ct) ⟨us, []⟩ = pure ((["size", "thing"] : List Str).zip us) := match us, h with
  | [_, _], _ => by kernel_rfl
theorem bi4 (kV doc pm : Value) (an : Option Addr) (cdv ct : Value) (us : List Value) (h : us.length = 1) : bindArgs (PySem.W.fnOf "are_figures" "are_figures" (L2.defArgs (topS 27)) (L2.defBody (topS 27)) (L2.defScope (topS 27)) .none kV doc pm an cdv ct) ⟨us, []⟩ = pure ((["text"] : List Str).zip us) := match us, h with
  | [_], _ => by kernel_rfl
theorem bi5 (kV doc pm : Value) (an : Option Addr) (cdv ct : Value) (us : List Value) (h : us.length = 1) : bindArgs (PySem.W.fnOf "is_negative" "is_negative" (L2.defArgs (topS 28)) (L2.defBody (topS 28)) (L2.defScope (topS 28)) .none kV doc pm an cdv ct) ⟨us, []⟩ = pure ((["text"] : List Str).zip us) := match us, h with
  | [_], _ => by kernel_rfl
theorem bi6 (kV doc pm : Value) (an : Option Addr) (cdv ct : Value) (us : List Value) (h : us.length = 1) : bindArgs (PySem.W.fnOf "address_read" "address_read" (L2.defArgs (topS 29)) (L2.defBody (topS 29)) (L2.defScope (topS 29)) .none kV doc pm an cdv ct) ⟨us, []⟩ = pure ((["text"] : List Str).zip us) := match us, h with
  | [_], _ => by kernel_rfl
theorem bi7 (kV doc pm : Value) (an : Option Addr) (cdv ct : Value) (us : List Value) (h : us.length = 1) : bindArgs (PySem.W.fnOf "word_read" "word_read" (L2.defArgs (topS 30)) (L2.defBody (topS 30)) (L2.defScope (topS 30)) .none kV doc pm an cdv ct) ⟨us, []⟩ = pure ((["text"] : List Str).zip us) := match us, h with
  | [_], _ => by kernel_rfl
theorem bi10 (kV doc pm : Value) (an : Option Addr) (cdv ct : Value) (us : List Value) (h : us.length = 1) : bindArgs (PySem.W.fnOf "is_step_read" "is_step_read" (L2.defArgs (topS 33)) (L2.defBody (topS 33)) (L2.defScope (topS 33)) .none kV doc pm an cdv ct) ⟨us, []⟩ = pure ((["thing"] : List Str).zip us) := match us, h with
  | [_], _ => by kernel_rfl
theorem bi11 (kV doc pm : Value) (an : Option Addr) (cdv ct : Value) (us : List Value) (h : us.length = 2) : bindArgs (PySem.W.fnOf "step_read" "step_read" (L2.defArgs (topS 34)) (L2.defBody (topS 34)) (L2.defScope (topS 34)) .none kV doc pm an cdv ct) ⟨us, []⟩ = pure ((["text", "line"] : List Str).zip us) := match us, h with
  | [_, _], _ => by kernel_rfl
theorem bi12 (kV doc pm : Value) (an : Option Addr) (cdv ct : Value) (us : List Value) (h : us.length = 1) : bindArgs (PySem.W.fnOf "read_steps" "read_steps" (L2.defArgs (topS 35)) (L2.defBody (topS 35)) (L2.defScope (topS 35)) .none kV doc pm an cdv ct) ⟨us, []⟩ = pure ((["text"] : List Str).zip us) := match us, h with
  | [_], _ => by kernel_rfl
theorem bi13 (kV doc pm : Value) (an : Option Addr) (cdv ct : Value) (us : List Value) (h : us.length = 1) : bindArgs (PySem.W.fnOf "_law_well" "_law_well" (L2.defArgs (topS 37)) (L2.defBody (topS 37)) (L2.defScope (topS 37)) .none kV doc pm an cdv ct) ⟨us, []⟩ = pure ((["_law_script"] : List Str).zip us) := match us, h with
  | [_], _ => by kernel_rfl
theorem bi14 (kV doc pm : Value) (an : Option Addr) (cdv ct : Value) (us : List Value) (h : us.length = 2) : bindArgs (PySem.W.fnOf "_law_cup" "_law_cup" (L2.defArgs (topS 38)) (L2.defBody (topS 38)) (L2.defScope (topS 38)) .none kV doc pm an cdv ct) ⟨us, []⟩ = pure ((["_law_well_here", "_law_many"] : List Str).zip us) := match us, h with
  | [_, _], _ => by kernel_rfl
theorem bi15 (kV doc pm : Value) (an : Option Addr) (cdv ct : Value) (us : List Value) (h : us.length = 1) : bindArgs (PySem.W.fnOf "_law_is_address" "_law_is_address" (L2.defArgs (topS 39)) (L2.defBody (topS 39)) (L2.defScope (topS 39)) .none kV doc pm an cdv ct) ⟨us, []⟩ = pure ((["_law_stuff"] : List Str).zip us) := match us, h with
  | [_], _ => by kernel_rfl
theorem bi16 (kV doc pm : Value) (an : Option Addr) (cdv ct : Value) (us : List Value) (h : us.length = 1) : bindArgs (PySem.W.fnOf "_law_written" "_law_written" (L2.defArgs (topS 40)) (L2.defBody (topS 40)) (L2.defScope (topS 40)) .none kV doc pm an cdv ct) ⟨us, []⟩ = pure ((["_law_stuff"] : List Str).zip us) := match us, h with
  | [_], _ => by kernel_rfl
theorem bi17 (kV doc pm : Value) (an : Option Addr) (cdv ct : Value) (us : List Value) (h : us.length = 2) : bindArgs (PySem.W.fnOf "_law_thing" "_law_thing" (L2.defArgs (topS 41)) (L2.defBody (topS 41)) (L2.defScope (topS 41)) .none kV doc pm an cdv ct) ⟨us, []⟩ = pure ((["_law_well_here", "_law_deep"] : List Str).zip us) := match us, h with
  | [_, _], _ => by kernel_rfl
theorem bi18 (kV doc pm : Value) (an : Option Addr) (cdv ct : Value) (us : List Value) (h : us.length = 1) : bindArgs (PySem.W.fnOf "_law_refusal" "_law_refusal" (L2.defArgs (topS 42)) (L2.defBody (topS 42)) (L2.defScope (topS 42)) .none kV doc pm an cdv ct) ⟨us, []⟩ = pure ((["_law_e"] : List Str).zip us) := match us, h with
  | [_], _ => by kernel_rfl
theorem bi19 (kV doc pm : Value) (an : Option Addr) (cdv ct : Value) (us : List Value) (h : us.length = 1) : bindArgs (PySem.W.fnOf "_law_figures" "_law_figures" (L2.defArgs (topS 44)) (L2.defBody (topS 44)) (L2.defScope (topS 44)) .none kV doc pm an cdv ct) ⟨us, []⟩ = pure ((["_law_word"] : List Str).zip us) := match us, h with
  | [_], _ => by kernel_rfl
theorem bi20 (kV doc pm : Value) (an : Option Addr) (cdv ct : Value) (us : List Value) (h : us.length = 1) : bindArgs (PySem.W.fnOf "_law_atom" "_law_atom" (L2.defArgs (topS 45)) (L2.defBody (topS 45)) (L2.defScope (topS 45)) .none kV doc pm an cdv ct) ⟨us, []⟩ = pure ((["_law_word"] : List Str).zip us) := match us, h with
  | [_], _ => by kernel_rfl
theorem bi21 (kV doc pm : Value) (an : Option Addr) (cdv ct : Value) (us : List Value) (h : us.length = 2) : bindArgs (PySem.W.fnOf "_law_things_in" "_law_things_in" (L2.defArgs (topS 46)) (L2.defBody (topS 46)) (L2.defScope (topS 46)) .none kV doc pm an cdv ct) ⟨us, []⟩ = pure ((["_law_words", "_law_most"] : List Str).zip us) := match us, h with
  | [_, _], _ => by kernel_rfl
theorem bi22 (kV doc pm : Value) (an : Option Addr) (cdv ct : Value) (us : List Value) (h : us.length = 1) : bindArgs (PySem.W.fnOf "_law_is_step" "_law_is_step" (L2.defArgs (topS 47)) (L2.defBody (topS 47)) (L2.defScope (topS 47)) .none kV doc pm an cdv ct) ⟨us, []⟩ = pure ((["_law_stuff"] : List Str).zip us) := match us, h with
  | [_], _ => by kernel_rfl
theorem bi23 (kV doc pm : Value) (an : Option Addr) (cdv ct : Value) (us : List Value) (h : us.length = 2) : bindArgs (PySem.W.fnOf "_law_thing_due" "_law_thing_due" (L2.defArgs (topS 48)) (L2.defBody (topS 48)) (L2.defScope (topS 48)) .none kV doc pm an cdv ct) ⟨us, []⟩ = pure ((["_law_texted", "_law_spot_row"] : List Str).zip us) := match us, h with
  | [_, _], _ => by kernel_rfl
theorem bi24 (kV doc pm : Value) (an : Option Addr) (cdv ct : Value) (us : List Value) (h : us.length = 1) : bindArgs (PySem.W.fnOf "_law_steps_due" "_law_steps_due" (L2.defArgs (topS 49)) (L2.defBody (topS 49)) (L2.defScope (topS 49)) .none kV doc pm an cdv ct) ⟨us, []⟩ = pure ((["_law_texted"] : List Str).zip us) := match us, h with
  | [_], _ => by kernel_rfl
theorem bi25 (kV doc pm : Value) (an : Option Addr) (cdv ct : Value) (us : List Value) (h : us.length = 2) : bindArgs (PySem.W.fnOf "_law_spoilt" "_law_spoilt" (L2.defArgs (topS 50)) (L2.defBody (topS 50)) (L2.defScope (topS 50)) .none kV doc pm an cdv ct) ⟨us, []⟩ = pure ((["_law_well_here", "_law_texted"] : List Str).zip us) := match us, h with
  | [_, _], _ => by kernel_rfl
theorem bi26 (kV doc pm : Value) (an : Option Addr) (cdv ct : Value) (us : List Value) (h : us.length = 1) : bindArgs (PySem.W.fnOf "_law_step_row" "_law_step_row" (L2.defArgs (topS 51)) (L2.defBody (topS 51)) (L2.defScope (topS 51)) .none kV doc pm an cdv ct) ⟨us, []⟩ = pure ((["_law_well_here"] : List Str).zip us) := match us, h with
  | [_], _ => by kernel_rfl
theorem bi27 (kV doc pm : Value) (an : Option Addr) (cdv ct : Value) (us : List Value) (h : us.length = 1) : bindArgs (PySem.W.fnOf "law" "law" (L2.defArgs (topS 52)) (L2.defBody (topS 52)) (L2.defScope (topS 52)) .none kV doc pm an cdv ct) ⟨us, []⟩ = pure ((["_law_script"] : List Str).zip us) := match us, h with
  | [_], _ => by kernel_rfl
end LF
set_option Elab.async false
set_option linter.all false
set_option maxHeartbeats 8000000
set_option maxRecDepth 100000
/-! How each def is called; every def stands. -/
namespace LF
open PySem PySem.Spec PyProof.Rows L2
theorem bi8 (kV doc pm : Value) (an : Option Addr) (cdv ct : Value) (us ws : List Value) (h : us.length = 1) (h2 : ws.length = 2) : bindArgs (PySem.W.fnOf "things_read" "things_read" (L2.defArgs (topS 31)) (L2.defBody (topS 31)) (L2.defScope (topS 31)) .none kV doc pm an cdv ct) ⟨us, (["line", "most"] : List Str).zip ws⟩ = pure ((["words", "line", "most"] : List Str).zip (us ++ ws)) := match us, ws, h, h2 with
  | [_], [_, _], _, _ => by kernel_rfl
theorem bi9b (kV doc pm : Value) (an : Option Addr) (cdv ct : Value) (us ws : List Value) (h : us.length = 1) (h2 : ws.length = 1) : bindArgs (PySem.W.fnOf "read_thing" "read_thing" (L2.defArgs (topS 32)) (L2.defBody (topS 32)) (L2.defScope (topS 32)) .none kV doc pm an cdv ct) ⟨us, (["line"] : List Str).zip ws⟩ = pure ((["text", "line"] : List Str).zip (us ++ ws)) := match us, ws, h, h2 with
  | [_], [_], _, _ => by kernel_rfl
theorem bi9a (D : Addr) (doc pm : Value) (an : Option Addr) (cdv ct : Value) (ws : List Value) (k : Value) (h2 : ws.length = 1) : KwChain D [("line", k)] (bindArgs (PySem.W.fnOf "read_thing" "read_thing" (L2.defArgs (topS 32)) (L2.defBody (topS 32)) (L2.defScope (topS 32)) .none (.ref D) doc pm an cdv ct) ⟨[], (["text"] : List Str).zip ws⟩) ((["text", "line"] : List Str).zip (ws ++ [k])) := match ws, h2 with
  | [_], _ => ⟨_, _, _, _, _, _, rfl, rfl, rfl⟩
/-- the ways a def is called -/
def ShB (K : PySem.W.Frag) (L : Lk) (fd : FuncData) (g : FnG) : Prop := ∀ (nas : Nat) (kn : List Str) (pm : List Nat) (ds : List IV), (nas, kn) ∈ g.shp → plan g nas kn g.ps 0 (nas + kn.length) = some (pm, ds) → ∃ (dV : List V) (dus : List Value), Vals dV dus ∧ (∀ ι H, RVs L ι H ds dV) ∧
      ∀ (s : Shared) (us ws : List Value), K.In s.heap → us.length = nas → ws.length = kn.length → BindsTo s fd ⟨us, kn.zip ws⟩ (g.ps.zip (permute pm (us ++ ws ++ dus)))
theorem permute_all {α : Type} {n : Nat} {us : List α} (h : us.length = n) : permute (List.range n) us = us := by
  unfold permute
  split
  · rfl
  · subst h
    induction us with
    | nil => rfl
    | cons a r ih =>
      rw [List.length_cons, List.range_succ_eq_map, List.filterMap_cons]
      show a :: _ = _
      rw [List.filterMap_map]
      congr 1
      by_cases hr : (List.range r.length).isEmpty = true
      · have : r = [] := by simpa using hr
        subst this
        rfl
      · exact ih hr
section
variable {K : PySem.W.Frag} {L : Lk} {x : Str} {params : Arguments} {body : List Stmt} {scope : Scope} {f : Addr} {fd : FuncData} {g : FnG}
theorem shp_pos (F : FunD K x x params body scope [] [] f fd) {n : Nat} (h1 : g.shp = [(n, [])]) (h2 : plan g n [] g.ps 0 (n + 0) = some (List.range n, [])) (h3 : g.ps.length = n)
    (b : ∀ (kV doc pm : Value) (an : Option Addr) (cdv ct : Value) (us : List Value), us.length = n → bindArgs (PySem.W.fnOf x x params body scope .none kV doc pm an cdv ct) ⟨us, []⟩ = pure (g.ps.zip us)) : ShB K L fd g := by
  intro nas kn pm ds hm hp
  rw [h1] at hm
  obtain ⟨rfl, rfl⟩ := Prod.mk.inj (List.mem_singleton.mp hm)
  rw [show nas + ([] : List Str).length = nas + 0 from rfl, h2] at hp
  cases hp
  refine ⟨[], [], .nil, fun _ _ => .nil, fun s us ws X hl hw => ?_⟩
  have : ws = [] := List.eq_nil_of_length_eq_zero hw
  subst this
  rw [List.append_nil, List.append_nil, permute_all hl]
  exact F.bindsA (ps := g.ps) (fun kV doc pm an cdv ct us h => b kV doc pm an cdv ct us (h.trans h3)) s us (hl.trans h3.symm)
end
theorem shp8 {K : PySem.W.Frag} {L : Lk} {f : Addr} {fd : FuncData} {g : FnG} (hg : fnsG[8]? = some g) (F : FunD K "things_read" "things_read" (L2.defArgs (topS 31)) (L2.defBody (topS 31)) (L2.defScope (topS 31)) [] [] f fd) : ShB K L fd g := by
  cases hg
  intro nas kn pm ds hm hp
  obtain ⟨rfl, rfl⟩ := Prod.mk.inj (List.mem_singleton.mp hm)
  cases hp
  refine ⟨[], [], .nil, fun _ _ => .nil, fun s us ws X hl hw => ?_⟩
  obtain ⟨oc, od, dV, kV, doc, pm, an, cdv, ct, osl, rfl, lk, hcd, hD, hK⟩ := F.ex
  rcases hD with ⟨_, rfl⟩ | ⟨e, _⟩
  · have e : permute [0, 1, 2] (us ++ ws ++ []) = us ++ ws := by
      rw [List.append_nil]
      exact permute_all (n := 3) (by rw [List.length_append, hl, hw]; rfl)
    show BindsTo _ _ _ (List.zip _ (permute [0, 1, 2] (us ++ ws ++ [])))
    rw [e]
    exact .of_eq (bi8 kV doc pm an cdv ct us ws hl hw)
  · exact absurd rfl e
theorem shp9 {K : PySem.W.Frag} {L : Lk} {f : Addr} {fd : FuncData} {g : FnG} (hg : fnsG[9]? = some g) (F : FunD K "read_thing" "read_thing" (L2.defArgs (topS 32)) (L2.defBody (topS 32)) (L2.defScope (topS 32)) [] [("line", .int 0)] f fd) : ShB K L fd g := by
  cases hg
  intro nas kn pm ds hm hp
  obtain ⟨oc, od, dV, kV, doc, pmv, an, cdv, ct, osl, rfl, lk, hcd, hD, hK⟩ := F.ex
  rcases hD with ⟨_, rfl⟩ | ⟨e, _⟩
  · rcases hK with e | ⟨D, rfl, hq⟩
    · cases e
    · rcases List.mem_cons.mp hm with e | hm
      · obtain ⟨rfl, rfl⟩ := Prod.mk.inj e
        cases hp
        obtain ⟨u, hu, ru⟩ := hq ("line", .int 0) (by simp)
        refine ⟨[.int 0], [u], .cons ru .nil, fun _ _ => .cons rfl .nil, fun s us ws X hl hw => ?_⟩
        obtain rfl : us = [] := List.eq_nil_of_length_eq_zero hl
        match ws, hw with
        | [v], hw => exact BindsTo.of_looks fun M => KwChain.looks X (fun q hq => by obtain rfl := List.mem_singleton.mp hq; exact hu) (bi9a D doc pmv an cdv ct [v] u rfl)
      · obtain ⟨rfl, rfl⟩ := Prod.mk.inj (List.mem_singleton.mp hm)
        cases hp
        refine ⟨[], [], .nil, fun _ _ => .nil, fun s us ws X hl hw => ?_⟩
        match us, ws, hl, hw with
        | [u], [v], _, _ => exact .of_eq (bi9b (.ref D) doc pmv an cdv ct [u] [v] rfl rfl)
  · exact absurd rfl e
/-- a def, as it stands and as the interpreter has it -/
structure DefF (K : PySem.W.Frag) (mg : Str → Option Value) (L : Lk) (P : Prg) (G : Gx) (k : Nat) (g : FnG) : Prop where
  nd : (g.name == ("__debug__" : Str)) = false
  ex : ∃ (f : Addr) (fd : FuncData) (qual : Str) (params : Arguments) (body : List Stmt) (scope : Scope) (dvs : List V) (kws : List (Str × V)) (N : List Str) (cs : CSs), mg g.name = some (.ref f) ∧ FunD K g.name qual params body scope dvs kws f fd ∧ FnScope N g.ps scope ∧
    (∀ x ∈ N, (x == ("__debug__" : Str)) = false ∧ (x == ("__classdict__" : Str)) = false) ∧ compB G N false scope body = some cs ∧ P.defs[k]? = some ⟨g.ps.length, N.length, cs⟩ ∧ ShB K L fd g
theorem stands_all {P0 : Program} {w : World} {K : PySem.W.Frag} {mg : Str → Option Value} {base : Heap} {L : Lk} {P : Prg} {G : Gx} (st : Stat P0 w K mg base L P G) (hD : ∀ k g, G.fns[k]? = some g → DefF K mg L P G k g) :
    ∀ n k g, G.fns[k]? = some g → Stands P0 w K mg base L (callI P n) (5 * n + 3) k g := by
  intro n
  induction n with
  | zero =>
    intro k g hk
    obtain ⟨nd, f, fd, qual, params, body, scope, dvs, kws, N, cs, h1, F, S, nb, hc, hd, sh⟩ := hD k g hk
    exact ⟨nd, f, fd, h1, F.kp, fnl_zero, sh⟩
  | succ n ih =>
    intro k g hk
    obtain ⟨nd, f, fd, qual, params, body, scope, dvs, kws, N, cs, h1, F, S, nb, hc, hd, sh⟩ := hD k g hk
    exact ⟨nd, f, fd, h1, F.kp, fnl_comp (sd := false) st ih F S nb saidFalse (fun z => nomatch z) hc hd, sh⟩
/-- what the head says of the defs -/
structure DefsIn (K : PySem.W.Frag) (mg : Str → Option Value) : Prop where
  fn : ∀ d ∈ dsL, ∃ fd, FunD K d.name d.qual d.params d.body d.scope (d.dvs K) (d.kws K) (He.fAd K d.at_) fd
  mg_ : ∀ d ∈ dsL, mg d.name = some (.ref (He.fAd K d.at_))
theorem DefsIn.at_ {K : PySem.W.Frag} {mg : Str → Option Value} (D : DefsIn K mg) (i : Nat) {d : He.DefD} (h : dsL[i]? = some d) : (∃ fd, FunD K d.name d.qual d.params d.body d.scope (d.dvs K) (d.kws K) (He.fAd K d.at_) fd) ∧ mg d.name = some (.ref (He.fAd K d.at_)) :=
  ⟨D.fn d (List.mem_of_getElem? h), D.mg_ d (List.mem_of_getElem? h)⟩
theorem defs_all {K : PySem.W.Frag} {mg : Str → Option Value} {L : Lk} (D : DefsIn K mg) : ∀ k g, gx.fns[k]? = some g → DefF K mg L prg gx k g
  | 0, _, h => by
    cases h
    obtain ⟨⟨fd, F⟩, m⟩ := D.at_ 0 (d := topD 16 "is_word" []) rfl
    exact ⟨by decide, _, fd, _, _, _, _, _, _, _, _, m, F, t0.S, t0.nb, t0.c, rfl, shp_pos F rfl rfl rfl bi0⟩
  | 1, _, h => by
    cases h
    obtain ⟨⟨fd, F⟩, m⟩ := D.at_ 1 (d := topD 19 "is_from_nought" []) rfl
    exact ⟨by decide, _, fd, _, _, _, _, _, _, _, _, m, F, t1.S, t1.nb, t1.c, rfl, shp_pos F rfl rfl rfl bi1⟩
  | 2, _, h => by
    cases h
    obtain ⟨⟨fd, F⟩, m⟩ := D.at_ 2 (d := topD 20 "first_word" []) rfl
    exact ⟨by decide, _, fd, _, _, _, _, _, _, _, _, m, F, t2.S, t2.nb, t2.c, rfl, shp_pos F rfl rfl rfl bi2⟩
  | 3, _, h => by
    cases h
    obtain ⟨⟨fd, F⟩, m⟩ := D.at_ 3 (d := topD 21 "is_sized" []) rfl
    exact ⟨by decide, _, fd, _, _, _, _, _, _, _, _, m, F, t3.S, t3.nb, t3.c, rfl, shp_pos F rfl rfl rfl bi3⟩
  | 4, _, h => by
    cases h
    obtain ⟨⟨fd, F⟩, m⟩ := D.at_ 4 (d := topD 27 "are_figures" []) rfl
    exact ⟨by decide, _, fd, _, _, _, _, _, _, _, _, m, F, t4.S, t4.nb, t4.c, rfl, shp_pos F rfl rfl rfl bi4⟩
  | 5, _, h => by
    cases h
    obtain ⟨⟨fd, F⟩, m⟩ := D.at_ 5 (d := topD 28 "is_negative" []) rfl
    exact ⟨by decide, _, fd, _, _, _, _, _, _, _, _, m, F, t5.S, t5.nb, t5.c, rfl, shp_pos F rfl rfl rfl bi5⟩
  | 6, _, h => by
    cases h
    obtain ⟨⟨fd, F⟩, m⟩ := D.at_ 6 (d := topD 29 "address_read" []) rfl
    exact ⟨by decide, _, fd, _, _, _, _, _, _, _, _, m, F, t6.S, t6.nb, t6.c, rfl, shp_pos F rfl rfl rfl bi6⟩
  | 7, _, h => by
    cases h
    obtain ⟨⟨fd, F⟩, m⟩ := D.at_ 7 (d := topD 30 "word_read" []) rfl
    exact ⟨by decide, _, fd, _, _, _, _, _, _, _, _, m, F, t7.S, t7.nb, t7.c, rfl, shp_pos F rfl rfl rfl bi7⟩
  | 8, _, h => by
    cases h
    obtain ⟨⟨fd, F⟩, m⟩ := D.at_ 8 (d := topD 31 "things_read" []) rfl
    exact ⟨by decide, _, fd, _, _, _, _, _, _, _, _, m, F, t8.S, t8.nb, t8.c, rfl, shp8 rfl F⟩
  | 9, _, h => by
    cases h
    obtain ⟨⟨fd, F⟩, m⟩ := D.at_ 9 (d := topD 32 "read_thing" [("line", .int 0)]) rfl
    exact ⟨by decide, _, fd, _, _, _, _, _, _, _, _, m, F, t9.S, t9.nb, t9.c, rfl, shp9 rfl F⟩
  | 10, _, h => by
    cases h
    obtain ⟨⟨fd, F⟩, m⟩ := D.at_ 10 (d := topD 33 "is_step_read" []) rfl
    exact ⟨by decide, _, fd, _, _, _, _, _, _, _, _, m, F, t10.S, t10.nb, t10.c, rfl, shp_pos F rfl rfl rfl bi10⟩
  | 11, _, h => by
    cases h
    obtain ⟨⟨fd, F⟩, m⟩ := D.at_ 11 (d := topD 34 "step_read" []) rfl
    exact ⟨by decide, _, fd, _, _, _, _, _, _, _, _, m, F, t11.S, t11.nb, t11.c, rfl, shp_pos F rfl rfl rfl bi11⟩
  | 12, _, h => by
    cases h
    obtain ⟨⟨fd, F⟩, m⟩ := D.at_ 12 (d := topD 35 "read_steps" []) rfl
    exact ⟨by decide, _, fd, _, _, _, _, _, _, _, _, m, F, t12.S, t12.nb, t12.c, rfl, shp_pos F rfl rfl rfl bi12⟩
  | 13, _, h => by
    cases h
    obtain ⟨⟨fd, F⟩, m⟩ := D.at_ 13 (d := topD 37 "_law_well" []) rfl
    exact ⟨by decide, _, fd, _, _, _, _, _, _, _, _, m, F, t13.S, t13.nb, t13.c, rfl, shp_pos F rfl rfl rfl bi13⟩
  | 14, _, h => by
    cases h
    obtain ⟨⟨fd, F⟩, m⟩ := D.at_ 14 (d := topD 38 "_law_cup" []) rfl
    exact ⟨by decide, _, fd, _, _, _, _, _, _, _, _, m, F, t14.S, t14.nb, t14.c, rfl, shp_pos F rfl rfl rfl bi14⟩
  | 15, _, h => by
    cases h
    obtain ⟨⟨fd, F⟩, m⟩ := D.at_ 15 (d := topD 39 "_law_is_address" []) rfl
    exact ⟨by decide, _, fd, _, _, _, _, _, _, _, _, m, F, t15.S, t15.nb, t15.c, rfl, shp_pos F rfl rfl rfl bi15⟩
  | 16, _, h => by
    cases h
    obtain ⟨⟨fd, F⟩, m⟩ := D.at_ 16 (d := topD 40 "_law_written" []) rfl
    exact ⟨by decide, _, fd, _, _, _, _, _, _, _, _, m, F, t16.S, t16.nb, t16.c, rfl, shp_pos F rfl rfl rfl bi16⟩
  | 17, _, h => by
    cases h
    obtain ⟨⟨fd, F⟩, m⟩ := D.at_ 17 (d := topD 41 "_law_thing" []) rfl
    exact ⟨by decide, _, fd, _, _, _, _, _, _, _, _, m, F, t17.S, t17.nb, t17.c, rfl, shp_pos F rfl rfl rfl bi17⟩
  | 18, _, h => by
    cases h
    obtain ⟨⟨fd, F⟩, m⟩ := D.at_ 18 (d := topD 42 "_law_refusal" []) rfl
    exact ⟨by decide, _, fd, _, _, _, _, _, _, _, _, m, F, t18.S, t18.nb, t18.c, rfl, shp_pos F rfl rfl rfl bi18⟩
  | 19, _, h => by
    cases h
    obtain ⟨⟨fd, F⟩, m⟩ := D.at_ 19 (d := topD 44 "_law_figures" []) rfl
    exact ⟨by decide, _, fd, _, _, _, _, _, _, _, _, m, F, t19.S, t19.nb, t19.c, rfl, shp_pos F rfl rfl rfl bi19⟩
  | 20, _, h => by
    cases h
    obtain ⟨⟨fd, F⟩, m⟩ := D.at_ 20 (d := topD 45 "_law_atom" []) rfl
    exact ⟨by decide, _, fd, _, _, _, _, _, _, _, _, m, F, t20.S, t20.nb, t20.c, rfl, shp_pos F rfl rfl rfl bi20⟩
  | 21, _, h => by
    cases h
    obtain ⟨⟨fd, F⟩, m⟩ := D.at_ 21 (d := topD 46 "_law_things_in" []) rfl
    exact ⟨by decide, _, fd, _, _, _, _, _, _, _, _, m, F, t21.S, t21.nb, t21.c, rfl, shp_pos F rfl rfl rfl bi21⟩
  | 22, _, h => by
    cases h
    obtain ⟨⟨fd, F⟩, m⟩ := D.at_ 22 (d := topD 47 "_law_is_step" []) rfl
    exact ⟨by decide, _, fd, _, _, _, _, _, _, _, _, m, F, t22.S, t22.nb, t22.c, rfl, shp_pos F rfl rfl rfl bi22⟩
  | 23, _, h => by
    cases h
    obtain ⟨⟨fd, F⟩, m⟩ := D.at_ 23 (d := topD 48 "_law_thing_due" []) rfl
    exact ⟨by decide, _, fd, _, _, _, _, _, _, _, _, m, F, t23.S, t23.nb, t23.c, rfl, shp_pos F rfl rfl rfl bi23⟩
  | 24, _, h => by
    cases h
    obtain ⟨⟨fd, F⟩, m⟩ := D.at_ 24 (d := topD 49 "_law_steps_due" []) rfl
    exact ⟨by decide, _, fd, _, _, _, _, _, _, _, _, m, F, t24.S, t24.nb, t24.c, rfl, shp_pos F rfl rfl rfl bi24⟩
  | 25, _, h => by
    cases h
    obtain ⟨⟨fd, F⟩, m⟩ := D.at_ 25 (d := topD 50 "_law_spoilt" []) rfl
    exact ⟨by decide, _, fd, _, _, _, _, _, _, _, _, m, F, t25.S, t25.nb, t25.c, rfl, shp_pos F rfl rfl rfl bi25⟩
  | 26, _, h => by
    cases h
    obtain ⟨⟨fd, F⟩, m⟩ := D.at_ 26 (d := topD 51 "_law_step_row" []) rfl
    exact ⟨by decide, _, fd, _, _, _, _, _, _, _, _, m, F, t26.S, t26.nb, t26.c, rfl, shp_pos F rfl rfl rfl bi26⟩
  | n + 27, _, h => nomatch h
end LF
set_option Elab.async false
set_option linter.all false
set_option maxHeartbeats 8000000
set_option maxRecDepth 100000
/-! What the head is asked. -/
namespace LF
open PySem PySem.Spec PyProof.Rows L2
def noLists (K : PySem.W.Frag) : Bool := K.all fun q => match q.2.cls, q.2.data with
  | .type "list", .seq _ _ => false
  | _, _ => true
abbrev initA (K : PySem.W.Frag) : Addr := He.ma K (He.ga K "NoText") "__init__"
def ex86 (K : PySem.W.Frag) : Bool := exB gx prg [10] K && (dsL.all (fun d => (He.Fa.glo d.name).ok K) && (oexC K (He.ga K "NoText") && (upB K (He.ga K "TextError") && ((He.Fa.glo "TextError").ok K &&
  (He.eqO (PySem.W.findIn K (.ref (He.ga K "NoText")) "__init__") (some (some (.ref (initA K)))) && (decide (PySem.W.typeIn K (.ref (initA K)) = some (.type "function")) && (decide (PySem.W.exmOne K (.ref (He.ga K "NoText")) (.ref (He.ga K "FolkError")) = some true) && noLists K)))))))
abbrev initS : Stmt := L2.inClass (topS 11) 0
def initD : He.DefD := ⟨("NoText", some "__init__"), "__init__", "NoText.__init__", L2.defArgs initS, L2.defBody initS, L2.defScope initS, [], []⟩
def fn86 : List He.DefD := dsL ++ [initD]
def ts86 : List He.Tab := [(fun K => He.ga K "STEP_SIZES", ["act", "tick", "part", "meet", "fall", "load"]), (fun K => He.ga K "SIGNS", ["-", "+", "/"]), (fun K => He.ga K "MORE_SIZES", ["come", "again"])]
def tf86 : List He.Defn := [("law", none)]
end LF
set_option Elab.async false
set_option linter.all false
set_option maxHeartbeats 8000000
set_option maxRecDepth 100000
/-! k86: what the head tells, as the interpreter wants it. -/
namespace LF
open PySem PySem.Spec PyProof.Rows L2
theorem txt86 : TxtF gx prg [10] where
  cos := by decide +kernel
  dts := by decide +kernel
  cls := by decide +kernel
  ldt := rfl
  live := fun D h => by
    have e : D = 10 := by simpa [prg] using h
    rw [e]
    exact List.mem_singleton.mpr rfl
  fld := fun D k j h => by
    have h2 : (if D = 10 then ((fldL[D]?).getD []).findIdx? (· == k) else none) = some j := h
    split at h2
    · rename_i e
      subst e
      refine ⟨List.mem_singleton.mpr rfl, fun f hf => ?_⟩
      have h3 : ([4, 0] : List Nat).findIdx? (· == k) = some j := h2
      have hf : ([("word" : Str), "at", "address", "times", "line"] : List Str)[k]? = some f := hf
      show ([("line" : Str), "word"] : List Str)[j]? = some f
      match k, hf with
      | 0, hf => simp [List.findIdx?_cons] at h3; subst h3; simpa using hf
      | 1, hf => simp [List.findIdx?_cons] at h3
      | 2, hf => simp [List.findIdx?_cons] at h3
      | 3, hf => simp [List.findIdx?_cons] at h3
      | 4, hf => simp [List.findIdx?_cons] at h3; subst h3; simpa using hf
    · cases h2
section
variable {w : World} {K : PySem.W.Frag} {mg : Str → Option Value} {h : Heap} {T : List (Addr × Str)}
structure Ex86 (K : PySem.W.Frag) : Prop where
  ex : exB gx prg [10] K = true
  glo : ∀ d ∈ dsL, (He.Fa.glo d.name).ok K = true
  ox : OexC K (He.ga K "NoText")
  up : upB K (He.ga K "TextError") = true
  gT : (He.Fa.glo "TextError").ok K = true
  ini : PySem.W.findIn K (.ref (He.ga K "NoText")) "__init__" = some (some (.ref (initA K)))
  ty : PySem.W.typeIn K (.ref (initA K)) = some (.type "function")
  exm : PySem.W.exmOne K (.ref (He.ga K "NoText")) (.ref (He.ga K "FolkError")) = some true
  nl : noLists K = true
theorem ex86_ok (e : ex86 K = true) : Ex86 K := by
  obtain ⟨e1, e⟩ := He.ba e
  obtain ⟨e2, e⟩ := He.ba e
  obtain ⟨e3, e⟩ := He.ba e
  obtain ⟨e4, e⟩ := He.ba e
  obtain ⟨e5, e⟩ := He.ba e
  obtain ⟨e6, e⟩ := He.ba e
  obtain ⟨e7, e⟩ := He.ba e
  obtain ⟨e8, e9⟩ := He.ba e
  exact ⟨e1, fun d hd => List.all_eq_true.mp e2 d hd, oexC_ok e3, e4, e5, He.eqO_ok e6, of_decide_eq_true e7, of_decide_eq_true e8, e9⟩
theorem no_list (e : noLists K = true) {a : Addr} {o : Obj} (h : K.lookup a = some o) (hc : o.cls = .type "list") (hd : ∃ us n, o.data = .seq us n) : False := by
  have := List.all_eq_true.mp e _ (He.lookup_mem h)
  obtain ⟨us, n, hd⟩ := hd
  dsimp only at this
  rw [hc, hd] at this
  exact nomatch this
theorem dname_fst : ∀ d ∈ dsL, d.at_ = (d.name, none) := by
  intro d hd
  simp only [dsL, List.mem_cons, List.not_mem_nil, or_false] at hd
  rcases hd with rfl | rfl | rfl | rfl | rfl | rfl | rfl | rfl | rfl | rfl | rfl | rfl | rfl | rfl | rfl | rfl | rfl | rfl | rfl | rfl | rfl | rfl | rfl | rfl | rfl | rfl | rfl | rfl | rfl <;> rfl
theorem defs86 {tf : List He.Defn} {ts : List He.Tab} {ex : PySem.W.Frag → Bool} (X : K.In h) (N : h.Ns mainGlobals mg) (E : Ex86 K) (c : He.SaysX [] fn86 ts tf ex w h K) : DefsIn K mg where
  fn := fun d hd => c.t.d.defs (List.mem_append_left _ hd)
  mg_ := fun d hd => by
    rw [dname_fst d hd]
    exact He.glo_ok X N (E.glo d hd)
theorem vis3 : ∀ x ∈ (["self", "line", "word"] : List Str), (x == ("__debug__" : Str)) = false ∧ (x == ("__classdict__" : Str)) = false ∧ Vis (L2.defScope initS) x := by
  have a : ∀ x ∈ (["self", "line", "word"] : List Str), (x == ("__debug__" : Str)) = false ∧ (x == ("__classdict__" : Str)) = false ∧ (L2.defScope initS).names.lookup x = some .local := by decide +kernel
  exact fun x hx => ⟨(a x hx).1, (a x hx).2.1, .inl (a x hx).2.2⟩
theorem init86 {tf : List He.Defn} {ts : List He.Tab} {ex : PySem.W.Frag → Bool} (X : K.In h) (N : h.Ns mainGlobals mg) (E : Ex86 K) (c : He.SaysX [] fn86 ts tf ex w h K) : InitF K mg (He.ga K "NoText") (initA K) "line" "word" := by
  obtain ⟨fd, F⟩ := c.t.d.defs (d := initD) (List.mem_append_right _ (List.mem_singleton.mpr rfl))
  have no : ∀ f ∈ (["line", "word"] : List Str), PySem.W.findIn K (.ref (He.ga K "NoText")) f = some none := by
    have e4 := (He.ba (He.ba (He.ba E.ex).2).2).2
    exact (clsB_one (T := []) e4 (List.mem_singleton.mpr rfl)).2.2.2.2
  refine {
    ox := E.ox
    ex := ⟨"self", "TextError", _, _, _, _, _, fd, F, F.bindsN (ps := ["self", "line", "word"]) (fun kV doc pm an cdv ct us h => match us, h with | [_, _, _], _ => by kernel_rfl), ⟨rfl, rfl, rfl, by decide +kernel, rfl, by decide +kernel, by decide +kernel⟩, ⟨_, _, _, _, _, _, _, _, _, _, _, _, _, _, _, _, ?_, rfl⟩, He.glo_ok X N E.gT, E.up, by decide +kernel, by decide, vis3⟩
    no1 := no "line" (by simp)
    no2 := no "word" (by simp)
    ne := by decide
    ini := E.ini
    tyI := E.ty }
  decide +kernel
theorem said86 (X : K.In h) (N : h.Ns mainGlobals mg) (E : Ex86 K) (D : DefsIn K mg) (P0 : Program) : SaidF P0 K mg (lkOf gx K T) prg gx ["_law_ask", "_law_found", "_law_e"] (L2.defScope (topS 43)) "_law_ask" "_law_found" "_law_e" "FolkError" "_law_refusal" (L2.defBody (topS 43)) [0] (He.ga K "FolkError") := by
  obtain ⟨⟨fd, F⟩, m⟩ := D.at_ 28 (d := topD 43 "_law_said" []) rfl
  have hF := cls_mg (T := T) (k := 0) X N (He.ba (He.ba (He.ba E.ex).2).2).2 (c := ("FolkError", [])) rfl
  exact {
    nd := by decide
    ex := ⟨_, fd, _, m, F, F.bindsN (ps := ["_law_ask"]) (fun kV doc pm an cdv ct us h => match us, h with | [_], _ => by kernel_rfl)⟩
    S := ⟨rfl, rfl, rfl, by decide +kernel, rfl, by decide +kernel, by decide +kernel⟩
    N := rfl
    nb := by decide +kernel
    vask := .inl (by decide +kernel)
    lfound := by decide +kernel
    len := by decide +kernel
    gfolk := by decide +kernel
    ndf := by decide
    mfolk := hF
    exm := fun D hD => by
      have e : D = 10 := by
        have h2 : (D == 10 && ((supL[D]?).getD []).contains folkC) = true := hD
        simpa using (He.ba h2).1
      subst e
      exact E.exm
    shape := ⟨_, _, _, _, _, _, _, _, _, _, _, _, _, _, _, _, _, _, _, _, _, rfl⟩
    comp := fun p15 p16 p17 => ⟨5, by kernel_rfl⟩
    perm := fun x => rfl }
end
end LF
set_option Elab.async false
set_option linter.all false
set_option maxHeartbeats 8000000
set_option maxRecDepth 100000
/-! k86: the law, if its own words hold. -/
namespace LF
open PySem PySem.Spec PyProof.Rows L2
/-- the law in the interpreter's words -/
def Law86 : Prop := ∀ ns : List Int, ns.length ≤ 63 → (∀ k ∈ ns, Builtin.Int.intBits k ≤ 1048576) → ∃ A, callI prg 16 27 [.ref 0] [.fro ns] = .ok (.bl true) A
theorem room86 : Room 83 callerA := ⟨rfl, by decide, by decide⟩
theorem guards86 : callerA.guards = some [] := rfl
section
variable {w : World} {K : PySem.W.Frag} {mg mb : Str → Option Value} {s₁ : Shared} {fa a : Addr} {vs : List Value} {ns : List Int}
theorem cdx {K : PySem.W.Frag} {h : Heap} (X : K.In h) {c P : Addr} (e : PySem.W.codeHdIn K c P = true) : PySem.W.CodeHd h c P := PySem.W.codeHd_of_K X e
theorem call86 (P0 : Program) (hlaw : Law86) (KX : K.In s₁.heap) (hns : s₁.heap.Ns mainGlobals mg) (hb : s₁.heap.Ns builtinsNs mb)
    (hbb : ∀ x : Str, x ≠ "__name__" → mb x = bootBuiltins x) (hlim : s₁.heap.NoLimit) (hg : s₁.gens = #[])
    (hbm : ∃ (bm : Addr) (ob : Obj), mg "__builtins__" = some (.ref bm) ∧ bm ≠ builtinsNs ∧ s₁.heap.get? bm = some ob ∧ ob.cls = .type "module" ∧ ob.dict = some builtinsNs ∧ ob.data = .plain)
    (ha : s₁.heap.get? a = some { cls := .type "list", data := .seq vs.toArray }) (hi : IntsAre vs ns) (hl : ns.length ≤ 63) (hbits : ∀ k ∈ ns, Builtin.Int.intBits k ≤ 1048576) (hfa : mg "law" = some (.ref fa))
    (c : He.SaysX [] fn86 ts86 tf86 ex86 w s₁.heap K) :
    codeAny (model P0 w) callerA (.call (.ref fa) ⟨[.ref a], []⟩) (fun r s' => r = .ok (.ret (.bool true)) ∧ OldK s₁.heap s'.heap ∧ s'.os = s₁.os ∧ AllBare s'.gens) s₁ := by
  have E := ex86_ok c.more
  have D := defs86 KX hns E c
  obtain ⟨⟨fd, F⟩, m⟩ := D.at_ 27 (d := topD 52 "law" []) rfl
  have m : mg "law" = some (.ref (He.fAd K ("law", none))) := m
  rw [hfa] at m
  obtain rfl : fa = He.fAd K ("law", none) := by
    have := Option.some.inj m
    injection this
  have hT := c.empty ("law", none) (List.mem_singleton.mpr rfl)
  have nT := c.out ("law", none) (List.mem_singleton.mpr rfl)
  have C := cdx KX (c.hd ("law", none) (List.mem_singleton.mpr rfl))
  generalize hc : (He.cT K ("law", none)).1 = cc at C
  generalize hP : (He.cT K ("law", none)).2 = Pt at hT nT C
  have nA : K.lookup a = none := by
    cases q : K.lookup a with
    | none => rfl
    | some o =>
      have := KX a o q
      rw [ha] at this
      cases this
      exact (no_list E.nl q rfl ⟨_, _, rfl⟩).elim
  have nePa : Pt ≠ a := fun z => by
    rw [z, ha] at hT
    have := congrArg Obj.data (Option.some.inj hT)
    cases this
  refine law_in (Pt := Pt) (c := cc) (P0 := P0) (w := w) KX hns hb hbb hlim hg hT nT C hbm ha hi (by rw [sizeLine_eq]; omega) nA fun base bK bN TB e0 => ?_
  have st : Stat P0 w K mg base (lkOf gx K [(Pt, "law" ++ ".<locals>." ++ "<lambda>")]) prg gx := stat_of txt86 KX hns E.ex (fun x hx => ?_) fun k hk => ?_
  · have all := stands_all st (defs_all D)
    have SF := said86 (T := [(Pt, "law" ++ ".<locals>." ++ "<lambda>")]) KX hns E D P0
    obtain ⟨A', hr⟩ := hlaw ns hl hbits
    have hcode : fd.code = .ref cc := by
      obtain ⟨oc, od, dV, kV, doc, pm, an, cdv, ct, osl, rfl, lk, hcd, _, _⟩ := F.ex
      obtain ⟨c', rfl⟩ := He.codeIn_ref hcd
      have := He.codeOf_eq (c := c') lk rfl
      rw [← hc]
      exact congrArg Value.ref this.symm
    have FL := fnl_comp (sd := true) st (n := 15) (k := 27) (fun k g hk => all 15 k g hk) F t27.S t27.nb (said_ok SF) (fun _ cdv A outer s H E' hcd' hr' hg' => ⟨rfl, rfl, hr', cc, Pt, TB, hcd'.symm.trans hcode, List.mem_singleton.mpr rfl, fun p hp _ => by rw [List.mem_singleton.mp hp]; rfl⟩) t27.c rfl
    refine FL.run callerA [] s₁ _ ⟨[.ref a], []⟩ [.ref a] [.ref a] [.ref 0] [a] [.fro ns] _ _ room86 guards86 e0 ?_ (.cons rfl .nil) (.cons ⟨a, rfl, rfl⟩ .nil) (entry_rh nePa rfl) ?_
    · exact F.bindsA (ps := ["_law_script"]) (fun kV doc pm an cdv ct us h => bi27 kV doc pm an cdv ct us h) s₁ [.ref a] rfl
    · rw [hr]
      intro ι' H' v _ _ rv
      exact rv
  · have hx : x = "STEP_SIZES" ∨ x = "SIGNS" ∨ x = "MORE_SIZES" := by simpa [gx] using hx
    rcases hx with rfl | rfl | rfl
    · exact c.t.tab 0
    · exact c.t.tab 1
    · exact c.t.tab 2
  · have hk : k = 10 := by simpa [gx] using hk
    subst hk
    exact ⟨"NoText", initA K, "line", "word", rfl, init86 KX hns E c⟩
end
end LF
set_option Elab.async false
set_option linter.all false
set_option maxRecDepth 1000000
set_option maxHeartbeats 0
namespace LF
open PySem PySem.W PySem.Calls PyProof.Rows
abbrev R86 : OpenRow := OpenLaw.row PySem.Challenge.rw_letterfolk_k86_texts_refused
abbrev q86 : Program := view R86.prog [52]
def names86 : List PySem.Str := ((["FolkError", "PaperError", "RunError", "TextError", "NoPaper", "NoTrace", "NoCode", "NoFolk", "NoStep", "NoBack", "NoText", "NoLine", "LETTERS", "MOST_LETTERS", "is_word", "STEP_SIZES", "is_from_nought", "first_word", "is_sized", "FIGURES", "MOST_FIGURES", "SIGNS", "MORE_SIZES", "are_figures", "is_negative", "address_read", "word_read", "things_read", "read_thing", "is_step_read"] : List String) ++ (["step_read", "read_steps", "_law_well", "_law_cup", "_law_is_address", "_law_written", "_law_thing", "_law_refusal", "_law_said", "_law_figures", "_law_atom", "_law_things_in", "_law_is_step", "_law_thing_due", "_law_steps_due", "_law_spoilt", "_law_step_row"] : List String)).map PySem.Str.ofString
abbrev hk86 : PySem.W.Hook := hookY 4 fn86 ts86 tf86 ex86
def ob86 (s : PySem.W.SharedT) : He.AlX := obsY 4 fn86 ts86 tf86 ex86 (HandSHeadRun.getT s)
theorem ob86_eq (s : PySem.W.SharedT) : ob86 s = hk86.obs s.abs := obsY_eq (HandSHeadRun.getT_eq s)
theorem run86_0 (w : World) : HandSHeadRun.RunEq R86 q86 hk86 ob86 40000 names86 (w.withFollow "special-get-raises" false) := by
  intro os
  kernel_rfl
theorem run86_1 (w : World) : HandSHeadRun.RunEq R86 q86 hk86 ob86 40000 names86 (w.withFollow "special-get-raises" true) := by
  intro os
  kernel_rfl
theorem run86 (w : World) : HandSHeadRun.RunEq R86 q86 hk86 ob86 40000 names86 w := PySem.W.byRow2 "special-get-raises" run86_0 run86_1 w
end LF
set_option Elab.async false
set_option linter.all false
set_option maxHeartbeats 4000000
set_option maxRecDepth 100000
/-! The interpreter's rules as rewritings. -/
namespace LF.Pl
open PySem
def onB {α : Type} (v : IV) (t e : Rs α) : Rs α := match v with
  | .bl true => t
  | .bl false => e
  | _ => .bad
@[simp] theorem onB_bl {α : Type} (c : Bool) (t e : Rs α) : onB (.bl c) t e = if c then t else e := by cases c <;> rfl
@[simp] theorem bind_ok {α β : Type} (a : α) (A : IH) (f : α → IH → Rs β) : (Rs.ok a A).bind f = f a A := rfl
@[simp] theorem bind_ex {α β : Type} (C : Nat) (fs : List IV) (A : IH) (f : α → IH → Rs β) : (Rs.ex C fs A).bind f = .ex C fs A := rfl
@[simp] theorem bind_bad {α β : Type} (f : α → IH → Rs β) : (Rs.bad).bind f = .bad := rfl
@[simp] theorem bind_ite {α β : Type} (c : Prop) [Decidable c] (x y : Rs α) (f : α → IH → Rs β) : (if c then x else y).bind f = if c then x.bind f else y.bind f := by split <;> rfl
def onS (v : IV) (t e : SR) : SR := match v with
  | .bl true => t
  | .bl false => e
  | _ => .bad
@[simp] theorem onS_bl (c : Bool) (t e : SR) : onS (.bl c) t e = if c then t else e := by cases c <;> rfl
@[simp] theorem on_ok {α : Type} (a : α) (A : IH) (ρ : Fr) (f : α → IH → SR) : (Rs.ok a A).on ρ f = f a A := rfl
@[simp] theorem on_ex {α : Type} (C : Nat) (fs : List IV) (A : IH) (ρ : Fr) (f : α → IH → SR) : (Rs.ex C fs A).on ρ f = .ex C fs ρ A := rfl
@[simp] theorem on_ite {α : Type} (c : Prop) [Decidable c] (x y : Rs α) (ρ : Fr) (f : α → IH → SR) : (if c then x else y).on ρ f = if c then x.on ρ f else y.on ρ f := by split <;> rfl
@[simp] theorem next_nx (ρ : Fr) (A : IH) (f : Fr → IH → SR) : (SR.nx ρ A).next f = f ρ A := rfl
@[simp] theorem next_rt (v : IV) (A : IH) (f : Fr → IH → SR) : (SR.rt v A).next f = .rt v A := rfl
@[simp] theorem next_ct (ρ : Fr) (A : IH) (f : Fr → IH → SR) : (SR.ct ρ A).next f = .ct ρ A := rfl
@[simp] theorem next_ex (C : Nat) (fs : List IV) (ρ : Fr) (A : IH) (f : Fr → IH → SR) : (SR.ex C fs ρ A).next f = .ex C fs ρ A := rfl
@[simp] theorem next_ite (c : Prop) [Decidable c] (x y : SR) (f : Fr → IH → SR) : (if c then x else y).next f = if c then x.next f else y.next f := by split <;> rfl
section
variable (P : Prg) (C : Cal) (ρ : Fr) (A : IH)
@[simp] theorem e_non : evE P C .non ρ A = .ok .non A := by rw [evE]
@[simp] theorem e_bl (b : Bool) : evE P C (.bl b) ρ A = .ok (.bl b) A := by rw [evE]
@[simp] theorem e_int (i : Int) : evE P C (.int i) ρ A = .ok (.int i) A := by rw [evE]
@[simp] theorem e_str (x : Str) : evE P C (.str x) ρ A = .ok (.str x) A := by rw [evE]
def gV (o : Option (Option IV)) (A : IH) : Rs IV := match o with
  | some (some v) => .ok v A
  | _ => .bad
@[simp] theorem gV_some (v : IV) : gV (some (some v)) A = .ok v A := rfl
@[simp] theorem e_var (i : Nat) : evE P C (.var i) ρ A = gV ρ[i]? A := by rw [evE]; unfold gV; rfl
@[simp] theorem optR_some (v : IV) : optR (some v) A = .ok v A := rfl
@[simp] theorem e_gco (k : Nat) : evE P C (.gco k) ρ A = optR P.gc[k]? A := by rw [evE]
@[simp] theorem e_tup (es : CEs) : evE P C (.tup es) ρ A = (evEs P C es ρ A).bind fun vs A => if vs.length ≤ LIM then .ok (.tup vs) A else .bad := by rw [evE]
@[simp] theorem e_lst (es : CEs) : evE P C (.lst es) ρ A = (evEs P C es ρ A).bind fun vs A => if vs.length ≤ LIM then newL vs A else .bad := by rw [evE]
@[simp] theorem e_bin (op : Bop) (a b : CE) : evE P C (.bin op a b) ρ A = (evE P C a ρ A).bind fun v A => (evE P C b ρ A).bind fun w A => binI op v w A := by rw [evE]
def negI (v : IV) (A : IH) : Rs IV := match v with
  | .int i => .ok (.int (-i)) A
  | _ => .bad
@[simp] theorem negI_int (i : Int) : negI (.int i) A = .ok (.int (-i)) A := rfl
@[simp] theorem e_neg (a : CE) : evE P C (.neg a) ρ A = (evE P C a ρ A).bind negI := by rw [evE] <;> rfl
@[simp] theorem e_cmp (op : Cop) (a b : CE) : evE P C (.cmp op a b) ρ A = (evE P C a ρ A).bind fun v A => (evE P C b ρ A).bind fun w A => cmpI op v w A := by rw [evE]
@[simp] theorem e_chain (op op' : Cop) (a b c : CE) : evE P C (.chain op op' a b c) ρ A = (evE P C a ρ A).bind fun v A => (evE P C b ρ A).bind fun w A => (cmpI op v w A).bind fun z A => onB z ((evE P C c ρ A).bind fun u A => cmpI op' w u A) (.ok (.bl false) A) := by
  rw [evE]; rfl
def notI (v : IV) (A : IH) : Rs IV := match v with
  | .bl b => .ok (.bl (!b)) A
  | _ => .bad
@[simp] theorem notI_bl (b : Bool) : notI (.bl b) A = .ok (.bl (!b)) A := rfl
@[simp] theorem e_not (a : CE) : evE P C (.not a) ρ A = (evE P C a ρ A).bind notI := by rw [evE] <;> rfl
@[simp] theorem e_and (a b : CE) : evE P C (.and a b) ρ A = (evE P C a ρ A).bind fun v A => onB v (evE P C b ρ A) (.ok (.bl false) A) := by rw [evE] <;> rfl
@[simp] theorem e_or (a b : CE) : evE P C (.or a b) ρ A = (evE P C a ρ A).bind fun v A => onB v (.ok (.bl true) A) (evE P C b ρ A) := by rw [evE] <;> rfl
@[simp] theorem e_ite (c a b : CE) : evE P C (.ite c a b) ρ A = (evE P C c ρ A).bind fun v A => onB v (evE P C a ρ A) (evE P C b ρ A) := by rw [evE] <;> rfl
@[simp] theorem e_ix (a i : CE) : evE P C (.ix a i) ρ A = (evE P C a ρ A).bind fun v A => (evE P C i ρ A).bind fun w A => ixI v w A := by rw [evE]
@[simp] theorem e_sl (a : CE) (lo hi : CO) : evE P C (.sl a lo hi) ρ A = (evE P C a ρ A).bind fun v A => (evO P C lo ρ A).bind fun l A => (evO P C hi ρ A).bind fun h A => slI v l h A := by rw [evE]
@[simp] theorem e_call (f : Nat) (es : CEs) (ds : List IV) (pm : List Nat) : evE P C (.call f es ds pm) ρ A = (evEs P C es ρ A).bind fun vs A => C f (permute pm (vs ++ ds)) A := by rw [evE]
@[simp] theorem e_bi (b : Bi) (es : CEs) : evE P C (.bi b es) ρ A = (evEs P C es ρ A).bind fun vs A => biI b vs A := by rw [evE]
@[simp] theorem e_me (m : Me) (o : CE) (es : CEs) : evE P C (.me m o es) ρ A = (evE P C o ρ A).bind fun v A => if recvI m v A = true then (evEs P C es ρ A).bind fun vs A => meI m v vs A else .bad := by rw [evE]
@[simp] theorem optB_some (b : Bool) : optB (some b) A = .ok (.bl b) A := rfl
@[simp] theorem e_isi (e : CE) (t : Ty) : evE P C (.isi e t) ρ A = (evE P C e ρ A).bind fun v A => optB (isI P v t) A := by rw [evE]
def attI (P : Prg) (f : Nat) (v : IV) (A : IH) : Rs IV := match v with
  | .exc D fs => optR ((P.fld D f).bind fun j => fs[j]?) A
  | _ => .bad
@[simp] theorem attI_exc (f D : Nat) (fs : List IV) : attI P f (.exc D fs) A = optR ((P.fld D f).bind fun j => fs[j]?) A := rfl
@[simp] theorem e_att (e : CE) (f : Nat) : evE P C (.att e f) ρ A = (evE P C e ρ A).bind (attI P f) := by rw [evE] <;> rfl
def oG {α : Type} (o : Option Fr) (f : Fr → Rs α) : Rs α := match o with
  | some ρ => f ρ
  | none => .bad
@[simp] theorem oG_some {α : Type} (f : Fr → Rs α) : oG (some ρ) f = f ρ := rfl
@[simp] theorem e_lc (elt : CE) (t : TG) (s : CSrc) (c : CO) (own : List Nat) : evE P C (.lc elt t s c own) ρ A = (evQ P C s ρ A).bind fun q A => lcGo (fun x A => oG (stG A t x (wipeF ρ own)) fun ρ' =>
    (evT P C c ρ' A).bind fun b A => if b = true then (evE P C elt ρ' A).bind fun y A => .ok (some y) A else .ok none A) q A.length (LIM + 1) 0 (A ++ [.lst []]) := by
  rw [evE]
  congr 1
  funext q A
  congr 1
  funext x A
  cases stG A t x (wipeF ρ own) <;> rfl
def gD (o : Option (List (Str × IV))) (v : IV) (f : List (Str × IV) → Str → Rs IV) : Rs IV := match o, v with
  | some kvs, .str x => f kvs x
  | _, _ => .bad
@[simp] theorem gD_some (kvs : List (Str × IV)) (x : Str) (f : List (Str × IV) → Str → Rs IV) : gD (some kvs) (.str x) f = f kvs x := rfl
@[simp] theorem e_gin (k : Nat) (e : CE) : evE P C (.gin k e) ρ A = (evE P C e ρ A).bind fun v A => gD P.gd[k]? v fun kvs x => .ok (.bl (kvs.lookup x).isSome) A := by rw [evE] <;> rfl
@[simp] theorem e_gix (k : Nat) (e : CE) : evE P C (.gix k e) ρ A = (evE P C e ρ A).bind fun v A => gD P.gd[k]? v fun kvs x => optR (kvs.lookup x) A := by rw [evE] <;> rfl
@[simp] theorem e_gget (k : Nat) (e d : CE) : evE P C (.gget k e d) ρ A = (evE P C e ρ A).bind fun v A => (evE P C d ρ A).bind fun w A => gD P.gd[k]? v fun kvs x => .ok ((kvs.lookup x).getD w) A := by rw [evE] <;> rfl
def saidI (P : Prg) (C : Cal) (r : Rs IV) : Rs IV := match r with
  | .ok v A => .ok (.tup [.str "told", v]) A
  | .ex D fs A => if P.sub D P.folk then C P.refusal [.exc D fs] A else .bad
  | .bad => .bad
theorem e_said (e : CE) : evE P C (.said e) ρ A = saidI P C (evE P C e ρ A) := by rw [evE] <;> rfl
@[simp] theorem o_no : evO P C .no ρ A = .ok none A := by rw [evO]
def oI (v : IV) (A : IH) : Rs (Option Int) := match v with
  | .int i => .ok (some i) A
  | _ => .bad
@[simp] theorem oI_int (i : Int) : oI (.int i) A = .ok (some i) A := rfl
@[simp] theorem o_some (e : CE) : evO P C (.some e) ρ A = (evE P C e ρ A).bind oI := by rw [evO] <;> rfl
@[simp] theorem t_no : evT P C .no ρ A = .ok true A := by rw [evT]
def tI (v : IV) (A : IH) : Rs Bool := match v with
  | .bl b => .ok b A
  | _ => .bad
@[simp] theorem tI_bl (b : Bool) : tI (.bl b) A = .ok b A := rfl
@[simp] theorem t_some (e : CE) : evT P C (.some e) ρ A = (evE P C e ρ A).bind tI := by rw [evT] <;> rfl
@[simp] theorem es_nil : evEs P C .nil ρ A = .ok [] A := by rw [evEs]
@[simp] theorem es_cons (e : CE) (es : CEs) : evEs P C (.cons e es) ρ A = (evE P C e ρ A).bind fun v A => (evEs P C es ρ A).bind fun vs A => .ok (v :: vs) A := by rw [evEs]
def qI (v : IV) (A : IH) : Rs Sq := match v with
  | .tup xs => .ok (.fix xs) A
  | .str z => .ok (.fix (signL z)) A
  | .ref n => if (listOf A n).isSome then .ok (.live n) A else .bad
  | _ => .bad
@[simp] theorem qI_tup (xs : List IV) : qI (.tup xs) A = .ok (.fix xs) A := rfl
@[simp] theorem qI_str (z : Str) : qI (.str z) A = .ok (.fix (signL z)) A := rfl
@[simp] theorem qI_ref (n : Nat) : qI (.ref n) A = if (listOf A n).isSome = true then .ok (.live n) A else .bad := rfl
@[simp] theorem q_val (e : CE) : evQ P C (.val e) ρ A = (evE P C e ρ A).bind qI := by rw [evQ] <;> rfl
def rI (v : IV) (A : IH) : Rs Sq := match v with
  | .int n => if n < 2 ^ 62 ∧ -(2 ^ 62) ≤ n then .ok (.fix ((List.range n.toNat).map fun (i : Nat) => IV.int (i : Int))) A else .bad
  | _ => .bad
@[simp] theorem rI_int (n : Int) : rI (.int n) A = if n < 2 ^ 62 ∧ -(2 ^ 62) ≤ n then .ok (.fix ((List.range n.toNat).map fun (i : Nat) => IV.int (i : Int))) A else .bad := rfl
@[simp] theorem q_rng (e : CE) : evQ P C (.rng e) ρ A = (evE P C e ρ A).bind rI := by rw [evQ] <;> rfl
def enI (v : IV) (A : IH) : Rs Sq := match v with
  | .ref n => if (listOf A n).isSome then .ok (.enL n) A else .bad
  | _ => .bad
@[simp] theorem enI_ref (n : Nat) : enI (.ref n) A = if (listOf A n).isSome = true then .ok (.enL n) A else .bad := rfl
@[simp] theorem q_enum (e : CE) : evQ P C (.enum e) ρ A = (evE P C e ρ A).bind enI := by rw [evQ] <;> rfl
def oS (o : Option Fr) (f : Fr → SR) : SR := match o with
  | some ρ => f ρ
  | none => .bad
@[simp] theorem oS_some (f : Fr → SR) : oS (some ρ) f = f ρ := rfl
@[simp] theorem s_asg' (t : TG) (e : CE) : evS P C (.asg t e) ρ A = (evE P C e ρ A).on ρ fun v A => oS (stG A t v ρ) fun ρ => .nx ρ A := by
  rw [evS]; rfl
@[simp] theorem s_par' (i j : Nat) (a b : CE) : evS P C (.par i j a b) ρ A = (evE P C a ρ A).on ρ fun v A => (evE P C b ρ A).on ρ fun w A => if i < ρ.length ∧ j < ρ.length then .nx ((ρ.set i (some v)).set j (some w)) A else .bad := by rw [evS]
def putI (v w k : IV) (ρ : Fr) (A : IH) : SR := match w, k with
    | .ref n, .str x => (match A[n]? with
      | some (.dct kvs) => if kvs.length < LIM then .nx ρ (A.set n (.dct (putD kvs x v))) else .bad
      | _ => .bad)
    | _, _ => .bad
@[simp] theorem s_setix' (o i e : CE) : evS P C (.setix o i e) ρ A = (evE P C e ρ A).on ρ fun v A => (evE P C o ρ A).on ρ fun w A => (evE P C i ρ A).on ρ fun k A => putI v w k ρ A := by rw [evS] <;> rfl
@[simp] theorem s_expr' (e : CE) : evS P C (.expr e) ρ A = (evE P C e ρ A).on ρ fun _ A => .nx ρ A := by rw [evS]
@[simp] theorem s_ret' (e : CE) : evS P C (.ret e) ρ A = (evE P C e ρ A).on ρ fun v A => .rt v A := by rw [evS]
@[simp] theorem s_ite' (c : CE) (a b : CSs) : evS P C (.ite c a b) ρ A = (evE P C c ρ A).on ρ fun v A => onS v (evSs P C a ρ A) (evSs P C b ρ A) := by rw [evS] <;> rfl
@[simp] theorem s_for' (t : TG) (s : CSrc) (b : CSs) : evS P C (.for t s b) ρ A = (evQ P C s ρ A).on ρ fun q A => forGo (fun x ρ A => oS (stG A t x ρ) fun ρ => evSs P C b ρ A) q (LIM + 1) 0 ρ A := by
  rw [evS]; rfl
@[simp] theorem s_cont' : evS P C .cont ρ A = .ct ρ A := by rw [evS]
@[simp] theorem s_raise' (D : Nat) (es : CEs) : evS P C (.raise D es) ρ A = (evEs P C es ρ A).on ρ fun vs A => .ex D vs ρ A := by rw [evS]
@[simp] theorem ss_nil' : evSs P C .nil ρ A = .nx ρ A := by rw [evSs]
@[simp] theorem ss_cons' (s : CS) (r : CSs) : evSs P C (.cons s r) ρ A = (evS P C s ρ A).next fun ρ A => evSs P C r ρ A := by rw [evSs]
end
@[simp] theorem stG_nm (A : IH) (i : Nat) (v : IV) (ρ : Fr) : stG A (.nm i) v ρ = if i < ρ.length then some (ρ.set i (some v)) else none := by rw [stG]
@[simp] theorem stG_tp (A : IH) (ts : List TG) (xs : List IV) (ρ : Fr) : stG A (.tp ts) (.tup xs) ρ = stGs A ts xs ρ := by rw [stG]
@[simp] theorem stGs_nil (A : IH) (ρ : Fr) : stGs A [] [] ρ = some ρ := by rw [stGs]
@[simp] theorem stGs_cons (A : IH) (t : TG) (ts : List TG) (x : IV) (xs : List IV) (ρ : Fr) : stGs A (t :: ts) (x :: xs) ρ = (stG A t x ρ).bind fun ρ' => stGs A ts xs ρ' := by
  rw [stGs]
  cases stG A t x ρ <;> rfl
def fin : SR → Rs IV
  | .nx _ A => .ok .non A
  | .rt v A => .ok v A
  | .ex D fs _ A => .ex D fs A
  | _ => .bad
@[simp] theorem fin_rt (v : IV) (A : IH) : fin (.rt v A) = .ok v A := rfl
@[simp] theorem fin_nx (ρ : Fr) (A : IH) : fin (.nx ρ A) = .ok .non A := rfl
@[simp] theorem fin_ex (D : Nat) (fs : List IV) (ρ : Fr) (A : IH) : fin (.ex D fs ρ A) = .ex D fs A := rfl
@[simp] theorem fin_ite (c : Prop) [Decidable c] (x y : SR) : fin (if c then x else y) = if c then fin x else fin y := by split <;> rfl
theorem call_eq {n k : Nat} {d : Def} {vs : List IV} {A : IH} (hd : prg.defs[k]? = some d) (hl : vs.length = d.np) : callI prg (n + 1) k vs A = fin (evSs prg (callI prg n) d.body (startF d.ns vs) A) := by
  rw [callI, hd]
  dsimp only
  rw [if_pos hl]
  cases evSs prg (callI prg n) d.body (startF d.ns vs) A <;> rfl
theorem startF_one (v : IV) (n : Nat) : startF (n + 1) [v] = some v :: List.replicate n none := by unfold startF; simp
theorem startF_two (v w : IV) (n : Nat) : startF (n + 2) [v, w] = some v :: some w :: List.replicate n none := by unfold startF; simp
theorem permute_one (v : IV) : permute [0] [v] = [v] := rfl
theorem permute_two (v w : IV) : permute [0, 1] [v, w] = [v, w] := rfl
theorem le_int (i j : Int) (A : IH) : cmpI .le (.int i) (.int j) A = .ok (.bl (decide (i ≤ j))) A := rfl
theorem lt_int (i j : Int) (A : IH) : cmpI .lt (.int i) (.int j) A = .ok (.bl (decide (i < j))) A := rfl
theorem gt_int (i j : Int) (A : IH) : cmpI .gt (.int i) (.int j) A = .ok (.bl (decide (j < i))) A := rfl
theorem ge_int (i j : Int) (A : IH) : cmpI .ge (.int i) (.int j) A = .ok (.bl (decide (j ≤ i))) A := rfl
theorem add_int (i j : Int) (A : IH) : binI .add (.int i) (.int j) A = .ok (.int (i + j)) A := rfl
theorem sub_int (i j : Int) (A : IH) : binI .sub (.int i) (.int j) A = .ok (.int (i - j)) A := rfl
/-- the heap has only grown -/
def Gr (A A' : IH) : Prop := ∃ B, A' = A ++ B
theorem Gr.refl (A : IH) : Gr A A := ⟨[], (List.append_nil A).symm⟩
theorem Gr.new (A B : IH) : Gr A (A ++ B) := ⟨B, rfl⟩
theorem Gr.trans {A B C : IH} (h : Gr A B) (k : Gr B C) : Gr A C := by
  obtain ⟨x, rfl⟩ := h
  obtain ⟨y, rfl⟩ := k
  exact ⟨x ++ y, List.append_assoc A x y⟩
theorem Gr.snoc {A B : IH} (h : Gr A B) (o : IO) : Gr A (B ++ [o]) := h.trans (Gr.new B [o])
theorem Gr.get {A B : IH} (h : Gr A B) {n : Nat} {o : IO} (e : A[n]? = some o) : B[n]? = some o := by
  obtain ⟨x, rfl⟩ := h
  rw [List.getElem?_append_left (List.getElem?_eq_some_iff.mp e).1]
  exact e
theorem Gr.le {A B : IH} (h : Gr A B) : A.length ≤ B.length := by
  obtain ⟨x, rfl⟩ := h
  simp
theorem at_new (A : IH) (o : IO) : (A ++ [o])[A.length]? = some o := by simp
/-! ### lists' turns -/
theorem lcGo_step {f : IV → IH → Rs (Option IV)} {q : Sq} {d k i : Nat} {A : IH} : lcGo f q d (k + 1) i A = match q.item i A with
    | none => .bad
    | some none => .ok (.ref d) A
    | some (some x) => (f x A).bind fun r A' => match r with
      | none => lcGo f q d k (i + 1) A'
      | some y => match A'[d]? with
        | some (.lst acc) => if acc.length < LIM then lcGo f q d k (i + 1) (A'.set d (.lst (acc ++ [y]))) else .bad
        | _ => .bad := by rw [lcGo] <;> rfl
@[simp] theorem item_fix (xs : List IV) (i : Nat) (A : IH) : (Sq.fix xs).item i A = some xs[i]? := rfl
@[simp] theorem item_live (n i : Nat) (A : IH) : (Sq.live n).item i A = (listOf A n).map fun xs => xs[i]? := rfl
@[simp] theorem item_enL (n i : Nat) (A : IH) : (Sq.enL n).item i A = (listOf A n).map fun xs => xs[i]?.map fun x => .tup [.int i, x] := rfl
theorem set_last (A : IH) (o u : IO) : (A ++ [o]).set A.length u = A ++ [u] := by
  rw [List.set_append_right _ _ (Nat.le_refl _)]
  simp
/-- a comprehension over fixed things, nothing laid -/
theorem lc_fix {f : IV → IH → Rs (Option IV)} {g : IV → Option IV} {xs : List IV} {A : IH} (hf : ∀ x ∈ xs, ∀ acc, f x (A ++ [.lst acc]) = .ok (g x) (A ++ [.lst acc])) (hl : xs.length ≤ LIM) : ∀ (m i k : Nat) (acc : List IV), xs.length - i = m → m < k → acc.length + m ≤ LIM → i ≤ xs.length →
    lcGo f (.fix xs) A.length k i (A ++ [.lst acc]) = .ok (.ref A.length) (A ++ [.lst (acc ++ (xs.drop i).filterMap g)]) := by
  intro m
  induction m with
  | zero =>
    intro i k acc hm hk _ hi
    obtain ⟨k, rfl⟩ : ∃ j, k = j + 1 := ⟨k - 1, by omega⟩
    have e : xs[i]? = none := List.getElem?_eq_none (by omega)
    rw [lcGo_step, item_fix]
    rw [e, List.drop_of_length_le (by omega)]
    simp
  | succ m ih =>
    intro i k acc hm hk ha hi
    obtain ⟨k, rfl⟩ : ∃ j, k = j + 1 := ⟨k - 1, by omega⟩
    have hlt : i < xs.length := by omega
    have e : xs[i]? = some xs[i] := List.getElem?_eq_getElem hlt
    rw [lcGo_step, item_fix]
    rw [e]
    dsimp only
    rw [hf _ (List.getElem_mem hlt) acc, bind_ok, List.drop_eq_getElem_cons hlt, List.filterMap_cons]
    cases g xs[i] with
    | none => exact ih (i + 1) k acc (by omega) (by omega) (by omega) hlt
    | some y =>
      dsimp only
      rw [List.getElem?_concat_length]
      dsimp only
      rw [if_pos (by omega), set_last, ih (i + 1) k (acc ++ [y]) (by omega) (by omega) (by rw [List.length_append]; simp; omega) hlt]
      simp
theorem lc_fix0 {f : IV → IH → Rs (Option IV)} {g : IV → Option IV} {xs : List IV} {A : IH} (hf : ∀ x ∈ xs, ∀ acc, f x (A ++ [.lst acc]) = .ok (g x) (A ++ [.lst acc])) (hl : xs.length ≤ LIM) :
    lcGo f (.fix xs) A.length (LIM + 1) 0 (A ++ [.lst []]) = .ok (.ref A.length) (A ++ [.lst (xs.filterMap g)]) := by
  rw [lc_fix hf hl xs.length 0 (LIM + 1) [] (by simp) (by omega) (by simpa using hl) (by omega)]
  simp
end LF.Pl
set_option Elab.async false
set_option linter.all false
set_option maxHeartbeats 4000000
set_option maxRecDepth 100000
/-! Texts: words, figures. -/
namespace LF.Pl
open PySem
def lets : Str := "abcdefghijklmnopqrstuvwxyz"
def digs : Str := "0123456789"
/-- every sign of the text is among these -/
def allIn (z : Str) (x : Str) : Bool := x.cps.toList.all fun c => decide (c ∈ z.cps.toList)
def isW (x : Str) : Bool := decide (1 ≤ x.length ∧ x.length ≤ 8) && allIn lets x
theorem str_one {c : Nat} : (⟨#[c]⟩ : Str).length = 1 := rfl
theorem in_lit {c : Nat} {z : Str} {A : IH} : inI (.str ⟨#[c]⟩) (.str z) A = some (decide (c ∈ z.cps.toList)) := rfl
theorem blsOf_map {α : Type} (f : α → Bool) (xs : List α) : blsOf (xs.map fun x => IV.bl (f x)) = some (xs.map f) := by
  induction xs with
  | nil => rfl
  | cons x r ih => rw [List.map_cons, blsOf, ih]; rfl
theorem signs_len (z : Str) : (signL z).length = z.length := by
  unfold signL
  rw [List.length_map]
  exact Array.length_toList
/-- is every sign of a text in another one? -/
theorem allIn_lc {P : Prg} {C : Cal} {x z : Str} {ρ : Fr} {A : IH} {k i j : Nat} (hz : P.gc[k]? = some (.str z)) (hj : ρ[j]? = some (some (.str x))) (hi : i < ρ.length) (hl : x.length ≤ LIM) :
    evE P C (.lc (.cmp .isin (.var i) (.gco k)) (.nm i) (.val (.var j)) .no [i]) ρ A = .ok (.ref A.length) (A ++ [.lst (x.cps.toList.map fun c => .bl (decide (c ∈ z.cps.toList)))]) := by
  simp only [e_lc, q_val, e_var, hj, gV_some, bind_ok, qI_str, wipeF]
  rw [lc_fix0 (g := fun v => match v with | .str y => some (.bl (decide (y.cps.getD 0 0 ∈ z.cps.toList))) | _ => none)]
  · congr 4
    unfold signL
    rw [List.filterMap_map]
    simp only [Function.comp_def]
    rw [← List.filterMap_eq_map]
    rfl
  · intro v hv acc
    obtain ⟨c, _, rfl⟩ := List.mem_map.mp hv
    have h1 : i < (ρ.set i none).length := by rw [List.length_set]; exact hi
    simp only [stG_nm, h1, if_true, oG_some, t_no, bind_ok, e_cmp, e_var, List.set_set, List.getElem?_set_self hi, gV_some, e_gco, hz, optR_some]
    rfl
  · rw [signs_len]
    exact hl
end LF.Pl
namespace LF.Pl
open PySem
theorem biLen_str {z : Str} {A : IH} (h : z.length ≤ LIM) : biI .len [.str z] A = .ok (.int z.length) A := by
  show (if z.length ≤ LIM then _ else _) = _
  rw [if_pos h]
theorem biAll {n : Nat} {A : IH} {bs : List Bool} (h : (listOf A n).bind blsOf = some bs) : biI .all [.ref n] A = .ok (.bl (bs.all id)) A := by
  show (match (listOf A n).bind blsOf with
    | some bs => Rs.ok (IV.bl (bs.all id)) A
    | none => .bad) = _
  rw [h]
theorem listOf_new (A : IH) (xs : List IV) : listOf (A ++ [.lst xs]) A.length = some xs := by
  unfold listOf
  rw [List.getElem?_concat_length]
theorem all_new (A : IH) {α : Type} (f : α → Bool) (xs : List α) : biI .all [.ref A.length] (A ++ [.lst (xs.map fun x => .bl (f x))]) = .ok (.bl (xs.all f)) (A ++ [.lst (xs.map fun x => .bl (f x))]) := by
  rw [biAll (bs := xs.map f)]
  · rw [List.all_map]; rfl
  · rw [listOf_new, Option.bind_some, blsOf_map]
theorem isI_str (P : Prg) (x : Str) : isI P (.str x) .str = some true := rfl
theorem all_lc {P : Prg} {C : Cal} {x z : Str} {ρ : Fr} {A : IH} {k i j : Nat} (hz : P.gc[k]? = some (.str z)) (hj : ρ[j]? = some (some (.str x))) (hi : i < ρ.length) (hl : x.length ≤ LIM) :
    ((evE P C (.lc (.cmp .isin (.var i) (.gco k)) (.nm i) (.val (.var j)) .no [i]) ρ A).bind fun v A => (Rs.ok [] A : Rs (List IV)).bind fun vs A => (Rs.ok (v :: vs) A : Rs (List IV))).bind (fun vs A => biI .all vs A) = .ok (.bl (allIn z x)) (A ++ [.lst (x.cps.toList.map fun c => .bl (decide (c ∈ z.cps.toList)))]) := by
  rw [allIn_lc hz hj hi hl, bind_ok, bind_ok, bind_ok, all_new]
  rfl
/-- is_word -/
theorem f0 (n : Nat) (A : IH) (x : Str) (hl : x.length ≤ LIM) : ∃ A', callI prg (n + 1) 0 [.str x] A = .ok (.bl (isW x)) A' ∧ Gr A A' := by
  rw [call_eq (d := ⟨1, 2, b0⟩) rfl rfl]
  have hlc := fun C => allIn_lc (P := prg) (C := C) (x := x) (z := lets) (ρ := [some (.str x), none]) (A := A) (k := 0) (i := 1) (j := 0) rfl rfl (by simp) hl
  unfold isW
  by_cases h : 1 ≤ x.length ∧ x.length ≤ 8
  · have h1 : decide ((1 : Int) ≤ (x.length : Int)) = true := decide_eq_true (by omega)
    have h2 : decide ((x.length : Int) ≤ 8) = true := decide_eq_true (by omega)
    simp only [onB_bl, bind_ok, bind_ex, bind_ite, onS_bl, on_ok, on_ex, on_ite, next_nx, next_rt, next_ct, next_ex, next_ite, e_non, e_bl, e_int, e_str, gV_some, e_var, optR_some, e_gco, e_tup, e_lst, e_bin, negI_int, e_neg, e_cmp, e_chain, notI_bl, e_not, e_and, e_or, e_ite, e_ix, e_sl, e_call, e_bi, e_me, optB_some, e_isi, attI_exc, e_att, oG_some, gD_some, e_gin, e_gix, e_gget, o_no, oI_int, o_some, t_no, tI_bl, t_some, es_nil, es_cons, qI_tup, qI_str, qI_ref, q_val, rI_int, q_rng, enI_ref, q_enum, oS_some, s_asg', s_par', s_setix', s_expr', s_ret', s_ite', s_for', s_cont', s_raise', ss_nil', ss_cons', stG_nm, stG_tp, stGs_nil, stGs_cons, fin_rt, fin_nx, fin_ex, fin_ite, List.getElem?_cons_zero, List.getElem?_cons_succ, List.set_cons_zero, List.set_cons_succ, List.length_cons, List.length_nil, List.length_set, List.replicate, if_true, if_false, Bool.not_true, Bool.not_false, Bool.false_eq_true, Bool.and_true, Bool.true_and, Bool.and_false, Bool.false_and, Bool.or_true, Bool.true_or, Bool.or_false, Bool.false_or, decide_true, decide_false, Option.bind_some, Option.isSome_some, List.nil_append, List.cons_append, List.append_nil, startF_one, startF_two, permute_one, permute_two, le_int, lt_int, gt_int, ge_int, add_int, sub_int, not_true_eq_false, not_false_eq_true, and_self, and_true, true_and, or_true, true_or, ite_self, b0, isI_str, biLen_str hl, show prg.gc[1]? = some (.int 8) from rfl, h1, h2, hlc, all_new, h, allIn]
    exact ⟨_, rfl, Gr.new _ _⟩
  · by_cases h1 : (1 : Int) ≤ (x.length : Int)
    · have h2 : decide ((x.length : Int) ≤ 8) = false := decide_eq_false (by omega)
      simp only [onB_bl, bind_ok, bind_ex, bind_ite, onS_bl, on_ok, on_ex, on_ite, next_nx, next_rt, next_ct, next_ex, next_ite, e_non, e_bl, e_int, e_str, gV_some, e_var, optR_some, e_gco, e_tup, e_lst, e_bin, negI_int, e_neg, e_cmp, e_chain, notI_bl, e_not, e_and, e_or, e_ite, e_ix, e_sl, e_call, e_bi, e_me, optB_some, e_isi, attI_exc, e_att, oG_some, gD_some, e_gin, e_gix, e_gget, o_no, oI_int, o_some, t_no, tI_bl, t_some, es_nil, es_cons, qI_tup, qI_str, qI_ref, q_val, rI_int, q_rng, enI_ref, q_enum, oS_some, s_asg', s_par', s_setix', s_expr', s_ret', s_ite', s_for', s_cont', s_raise', ss_nil', ss_cons', stG_nm, stG_tp, stGs_nil, stGs_cons, fin_rt, fin_nx, fin_ex, fin_ite, List.getElem?_cons_zero, List.getElem?_cons_succ, List.set_cons_zero, List.set_cons_succ, List.length_cons, List.length_nil, List.length_set, List.replicate, if_true, if_false, Bool.not_true, Bool.not_false, Bool.false_eq_true, Bool.and_true, Bool.true_and, Bool.and_false, Bool.false_and, Bool.or_true, Bool.true_or, Bool.or_false, Bool.false_or, decide_true, decide_false, Option.bind_some, Option.isSome_some, List.nil_append, List.cons_append, List.append_nil, startF_one, startF_two, permute_one, permute_two, le_int, lt_int, gt_int, ge_int, add_int, sub_int, not_true_eq_false, not_false_eq_true, and_self, and_true, true_and, or_true, true_or, ite_self, b0, isI_str, biLen_str hl, show prg.gc[1]? = some (.int 8) from rfl, h1, h2, h]
      exact ⟨A, rfl, Gr.refl A⟩
    · simp only [onB_bl, bind_ok, bind_ex, bind_ite, onS_bl, on_ok, on_ex, on_ite, next_nx, next_rt, next_ct, next_ex, next_ite, e_non, e_bl, e_int, e_str, gV_some, e_var, optR_some, e_gco, e_tup, e_lst, e_bin, negI_int, e_neg, e_cmp, e_chain, notI_bl, e_not, e_and, e_or, e_ite, e_ix, e_sl, e_call, e_bi, e_me, optB_some, e_isi, attI_exc, e_att, oG_some, gD_some, e_gin, e_gix, e_gget, o_no, oI_int, o_some, t_no, tI_bl, t_some, es_nil, es_cons, qI_tup, qI_str, qI_ref, q_val, rI_int, q_rng, enI_ref, q_enum, oS_some, s_asg', s_par', s_setix', s_expr', s_ret', s_ite', s_for', s_cont', s_raise', ss_nil', ss_cons', stG_nm, stG_tp, stGs_nil, stGs_cons, fin_rt, fin_nx, fin_ex, fin_ite, List.getElem?_cons_zero, List.getElem?_cons_succ, List.set_cons_zero, List.set_cons_succ, List.length_cons, List.length_nil, List.length_set, List.replicate, if_true, if_false, Bool.not_true, Bool.not_false, Bool.false_eq_true, Bool.and_true, Bool.true_and, Bool.and_false, Bool.false_and, Bool.or_true, Bool.true_or, Bool.or_false, Bool.false_or, decide_true, decide_false, Option.bind_some, Option.isSome_some, List.nil_append, List.cons_append, List.append_nil, startF_one, startF_two, permute_one, permute_two, le_int, lt_int, gt_int, ge_int, add_int, sub_int, not_true_eq_false, not_false_eq_true, and_self, and_true, true_and, or_true, true_or, ite_self, b0, isI_str, biLen_str hl, show prg.gc[1]? = some (.int 8) from rfl, h1, h]
      exact ⟨A, rfl, Gr.refl A⟩
/-! ### plain texts -/
/-- every sign is a plain one -/
def Asc (x : Str) : Prop := ∀ c ∈ TL.tl x, c < 128
theorem Asc.ok {x : Str} (h : Asc x) : PyData.strOk x = true := by
  unfold PyData.strOk
  rw [← Array.all_toList, List.all_eq_true]
  intro c hc
  have := h c hc
  exact decide_eq_true (by omega)
theorem eqI_str {x y : Str} (A : IH) (hx : Asc x) (hy : Asc y) : eqI (.str x) (.str y) A = some (decide (x = y)) := by
  have e1 : SeqAt.shaped (.str x) = true := by unfold SeqAt.shaped PyData.canLay0; rw [hx.ok]; rfl
  have e2 : SeqAt.shaped (.str y) = true := by unfold SeqAt.shaped PyData.canLay0; rw [hy.ok]; rfl
  show (if SeqAt.shaped (.str x) && SeqAt.shaped (.str y) then some (PyData.eqv (.str x) (.str y)) else none) = _
  rw [e1, e2, Bool.and_true, if_pos rfl]
  unfold PyData.eqv
  congr 1
theorem cmp_eq {x y : Str} (A : IH) (hx : Asc x) (hy : Asc y) : cmpI .eq (.str x) (.str y) A = .ok (.bl (decide (x = y))) A := by
  show optB (eqI _ _ A) A = _
  rw [eqI_str A hx hy]; rfl
theorem cmp_ne {x y : Str} (A : IH) (hx : Asc x) (hy : Asc y) : cmpI .ne (.str x) (.str y) A = .ok (.bl (!decide (x = y))) A := by
  show optB ((eqI _ _ A).map _) A = _
  rw [eqI_str A hx hy]; rfl
theorem asc_lit {x : Str} (h : (TL.tl x).all (fun c => decide (c < 128)) = true) : Asc x := fun c hc => of_decide_eq_true (List.all_eq_true.mp h c hc)
/-! ### figures -/
def isD (c : Nat) : Bool := decide (48 ≤ c ∧ c ≤ 57)
def isFL (l : List Nat) : Bool := decide (1 ≤ l.length ∧ l.length ≤ 12) && (l.all isD && (decide (l = [48]) || !decide (l.head? = some 48)))
def isF (x : Str) : Bool := isFL (TL.tl x)
theorem dig_iff (c : Nat) : decide (c ∈ digs.cps.toList) = isD c := by
  have e : digs.cps.toList = [48, 49, 50, 51, 52, 53, 54, 55, 56, 57] := by decide +kernel
  rw [e]
  unfold isD
  rw [decide_eq_decide]
  simp only [List.mem_cons, List.not_mem_nil, or_false]
  omega
theorem allIn_digs (x : Str) : (x.cps.toList.all fun c => decide (c ∈ digs.cps.toList)) = (TL.tl x).all isD := by
  congr 1
  funext c
  exact dig_iff c
theorem tl0 : TL.tl ("0" : Str) = [48] := by decide +kernel
theorem eq0_iff (x : Str) : decide (x = "0") = decide (TL.tl x = [48]) := by
  rw [decide_eq_decide]
  exact ⟨fun h => by rw [h]; exact tl0, fun h => TL.ext_tl (h.trans tl0.symm)⟩
theorem sign_eq (c : Nat) (z : Str) (d : Nat) (h : TL.tl z = [d]) : decide ((⟨#[c]⟩ : Str) = z) = decide (c = d) := by
  rw [decide_eq_decide]
  exact ⟨fun e => by rw [← e] at h; exact List.cons.inj h |>.1, fun e => TL.ext_tl (by rw [h, e])⟩
theorem ix0 {x : Str} {c : Nat} {r : List Nat} (A : IH) (h : TL.tl x = c :: r) (hl : x.length ≤ LIM) : ixI (.str x) (.int 0) A = .ok (.str ⟨#[c]⟩) A := by
  show (if x.length ≤ LIM then optR ((L2.atI x.cps.toList 0).map fun c => .str ⟨#[c]⟩) A else .bad) = _
  rw [if_pos hl, show x.cps.toList = c :: r from h]
  have : L2.atI (c :: r) 0 = some c := by
    unfold L2.atI L2.ixN
    simp
  rw [this]
  rfl
/-- are_figures -/
theorem f4 (n : Nat) (A : IH) (x : Str) (hl : x.length ≤ LIM) (hx : Asc x) : ∃ A', callI prg (n + 1) 4 [.str x] A = .ok (.bl (isF x)) A' ∧ Gr A A' := by
  rw [call_eq (d := ⟨1, 2, b4⟩) rfl rfl]
  have hlc := fun C => allIn_lc (P := prg) (C := C) (x := x) (z := digs) (ρ := [some (.str x), none]) (A := A) (k := 2) (i := 1) (j := 0) rfl rfl (by simp) hl
  have hlen := TL.len_tl x
  unfold isF isFL
  by_cases h : 1 ≤ x.length ∧ x.length ≤ 12
  · have h1 : decide ((1 : Int) ≤ (x.length : Int)) = true := decide_eq_true (by omega)
    have h2 : decide ((x.length : Int) ≤ 12) = true := decide_eq_true (by omega)
    rw [hlen] at h
    cases hc : TL.tl x with
    | nil => rw [hc] at h; simp at h
    | cons c r =>
      have hcA : Asc ⟨#[c]⟩ := fun d hd => by
        rw [show d = c from List.mem_singleton.mp hd]
        exact hx c (by rw [hc]; exact List.mem_cons_self)
      rw [hc] at h
      have h' : decide (1 ≤ r.length + 1 ∧ r.length + 1 ≤ 12) = true := decide_eq_true (by simpa using h)
      cases ha : (c :: r).all isD with
      | true =>
        by_cases h0 : c :: r = [48]
        · simp only [onB_bl, bind_ok, bind_ex, bind_ite, onS_bl, on_ok, on_ex, on_ite, next_nx, next_rt, next_ct, next_ex, next_ite, e_non, e_bl, e_int, e_str, gV_some, e_var, optR_some, e_gco, e_tup, e_lst, e_bin, negI_int, e_neg, e_cmp, e_chain, notI_bl, e_not, e_and, e_or, e_ite, e_ix, e_sl, e_call, e_bi, e_me, optB_some, e_isi, attI_exc, e_att, oG_some, gD_some, e_gin, e_gix, e_gget, o_no, oI_int, o_some, t_no, tI_bl, t_some, es_nil, es_cons, qI_tup, qI_str, qI_ref, q_val, rI_int, q_rng, enI_ref, q_enum, oS_some, s_asg', s_par', s_setix', s_expr', s_ret', s_ite', s_for', s_cont', s_raise', ss_nil', ss_cons', stG_nm, stG_tp, stGs_nil, stGs_cons, fin_rt, fin_nx, fin_ex, fin_ite, List.getElem?_cons_zero, List.getElem?_cons_succ, List.set_cons_zero, List.set_cons_succ, List.length_cons, List.length_nil, List.length_set, List.replicate, if_true, if_false, Bool.not_true, Bool.not_false, Bool.false_eq_true, Bool.and_true, Bool.true_and, Bool.and_false, Bool.false_and, Bool.or_true, Bool.true_or, Bool.or_false, Bool.false_or, decide_true, decide_false, Option.bind_some, Option.isSome_some, List.nil_append, List.cons_append, List.append_nil, startF_one, startF_two, permute_one, permute_two, le_int, lt_int, gt_int, ge_int, add_int, sub_int, not_true_eq_false, not_false_eq_true, and_self, and_true, true_and, or_true, true_or, ite_self, b4, biLen_str hl, show prg.gc[3]? = some (.int 12) from rfl, h1, h2, hlc, all_new, dig_iff, ha, h', cmp_eq _ hx (asc_lit (x := "0") (by decide +kernel)), eq0_iff, hc, decide_eq_true h0]
          exact ⟨_, rfl, Gr.new _ _⟩
        · simp only [onB_bl, bind_ok, bind_ex, bind_ite, onS_bl, on_ok, on_ex, on_ite, next_nx, next_rt, next_ct, next_ex, next_ite, e_non, e_bl, e_int, e_str, gV_some, e_var, optR_some, e_gco, e_tup, e_lst, e_bin, negI_int, e_neg, e_cmp, e_chain, notI_bl, e_not, e_and, e_or, e_ite, e_ix, e_sl, e_call, e_bi, e_me, optB_some, e_isi, attI_exc, e_att, oG_some, gD_some, e_gin, e_gix, e_gget, o_no, oI_int, o_some, t_no, tI_bl, t_some, es_nil, es_cons, qI_tup, qI_str, qI_ref, q_val, rI_int, q_rng, enI_ref, q_enum, oS_some, s_asg', s_par', s_setix', s_expr', s_ret', s_ite', s_for', s_cont', s_raise', ss_nil', ss_cons', stG_nm, stG_tp, stGs_nil, stGs_cons, fin_rt, fin_nx, fin_ex, fin_ite, List.getElem?_cons_zero, List.getElem?_cons_succ, List.set_cons_zero, List.set_cons_succ, List.length_cons, List.length_nil, List.length_set, List.replicate, if_true, if_false, Bool.not_true, Bool.not_false, Bool.false_eq_true, Bool.and_true, Bool.true_and, Bool.and_false, Bool.false_and, Bool.or_true, Bool.true_or, Bool.or_false, Bool.false_or, decide_true, decide_false, Option.bind_some, Option.isSome_some, List.nil_append, List.cons_append, List.append_nil, startF_one, startF_two, permute_one, permute_two, le_int, lt_int, gt_int, ge_int, add_int, sub_int, not_true_eq_false, not_false_eq_true, and_self, and_true, true_and, or_true, true_or, ite_self, b4, biLen_str hl, show prg.gc[3]? = some (.int 12) from rfl, h1, h2, hlc, all_new, dig_iff, ha, h', cmp_eq _ hx (asc_lit (x := "0") (by decide +kernel)), eq0_iff, hc, decide_eq_false h0, ix0 _ hc hl, cmp_ne _ hcA (asc_lit (x := "0") (by decide +kernel)), sign_eq c "0" 48 tl0]
          exact ⟨A ++ [.lst ((c :: r).map fun c => .bl (isD c))], by simp, Gr.new _ _⟩
      | false =>
        simp only [onB_bl, bind_ok, bind_ex, bind_ite, onS_bl, on_ok, on_ex, on_ite, next_nx, next_rt, next_ct, next_ex, next_ite, e_non, e_bl, e_int, e_str, gV_some, e_var, optR_some, e_gco, e_tup, e_lst, e_bin, negI_int, e_neg, e_cmp, e_chain, notI_bl, e_not, e_and, e_or, e_ite, e_ix, e_sl, e_call, e_bi, e_me, optB_some, e_isi, attI_exc, e_att, oG_some, gD_some, e_gin, e_gix, e_gget, o_no, oI_int, o_some, t_no, tI_bl, t_some, es_nil, es_cons, qI_tup, qI_str, qI_ref, q_val, rI_int, q_rng, enI_ref, q_enum, oS_some, s_asg', s_par', s_setix', s_expr', s_ret', s_ite', s_for', s_cont', s_raise', ss_nil', ss_cons', stG_nm, stG_tp, stGs_nil, stGs_cons, fin_rt, fin_nx, fin_ex, fin_ite, List.getElem?_cons_zero, List.getElem?_cons_succ, List.set_cons_zero, List.set_cons_succ, List.length_cons, List.length_nil, List.length_set, List.replicate, if_true, if_false, Bool.not_true, Bool.not_false, Bool.false_eq_true, Bool.and_true, Bool.true_and, Bool.and_false, Bool.false_and, Bool.or_true, Bool.true_or, Bool.or_false, Bool.false_or, decide_true, decide_false, Option.bind_some, Option.isSome_some, List.nil_append, List.cons_append, List.append_nil, startF_one, startF_two, permute_one, permute_two, le_int, lt_int, gt_int, ge_int, add_int, sub_int, not_true_eq_false, not_false_eq_true, and_self, and_true, true_and, or_true, true_or, ite_self, b4, biLen_str hl, show prg.gc[3]? = some (.int 12) from rfl, h1, h2, hlc, all_new, dig_iff, hc, ha]
        exact ⟨_, rfl, Gr.new _ _⟩
  · have e : decide (1 ≤ (TL.tl x).length ∧ (TL.tl x).length ≤ 12) = false := decide_eq_false (by rw [← hlen]; exact h)
    rw [e, Bool.false_and]
    by_cases h1 : (1 : Int) ≤ (x.length : Int)
    · have h2 : decide ((x.length : Int) ≤ 12) = false := decide_eq_false (by omega)
      simp only [onB_bl, bind_ok, bind_ex, bind_ite, onS_bl, on_ok, on_ex, on_ite, next_nx, next_rt, next_ct, next_ex, next_ite, e_non, e_bl, e_int, e_str, gV_some, e_var, optR_some, e_gco, e_tup, e_lst, e_bin, negI_int, e_neg, e_cmp, e_chain, notI_bl, e_not, e_and, e_or, e_ite, e_ix, e_sl, e_call, e_bi, e_me, optB_some, e_isi, attI_exc, e_att, oG_some, gD_some, e_gin, e_gix, e_gget, o_no, oI_int, o_some, t_no, tI_bl, t_some, es_nil, es_cons, qI_tup, qI_str, qI_ref, q_val, rI_int, q_rng, enI_ref, q_enum, oS_some, s_asg', s_par', s_setix', s_expr', s_ret', s_ite', s_for', s_cont', s_raise', ss_nil', ss_cons', stG_nm, stG_tp, stGs_nil, stGs_cons, fin_rt, fin_nx, fin_ex, fin_ite, List.getElem?_cons_zero, List.getElem?_cons_succ, List.set_cons_zero, List.set_cons_succ, List.length_cons, List.length_nil, List.length_set, List.replicate, if_true, if_false, Bool.not_true, Bool.not_false, Bool.false_eq_true, Bool.and_true, Bool.true_and, Bool.and_false, Bool.false_and, Bool.or_true, Bool.true_or, Bool.or_false, Bool.false_or, decide_true, decide_false, Option.bind_some, Option.isSome_some, List.nil_append, List.cons_append, List.append_nil, startF_one, startF_two, permute_one, permute_two, le_int, lt_int, gt_int, ge_int, add_int, sub_int, not_true_eq_false, not_false_eq_true, and_self, and_true, true_and, or_true, true_or, ite_self, b4, biLen_str hl, show prg.gc[3]? = some (.int 12) from rfl, h1, h2]
      exact ⟨A, rfl, Gr.refl A⟩
    · simp only [onB_bl, bind_ok, bind_ex, bind_ite, onS_bl, on_ok, on_ex, on_ite, next_nx, next_rt, next_ct, next_ex, next_ite, e_non, e_bl, e_int, e_str, gV_some, e_var, optR_some, e_gco, e_tup, e_lst, e_bin, negI_int, e_neg, e_cmp, e_chain, notI_bl, e_not, e_and, e_or, e_ite, e_ix, e_sl, e_call, e_bi, e_me, optB_some, e_isi, attI_exc, e_att, oG_some, gD_some, e_gin, e_gix, e_gget, o_no, oI_int, o_some, t_no, tI_bl, t_some, es_nil, es_cons, qI_tup, qI_str, qI_ref, q_val, rI_int, q_rng, enI_ref, q_enum, oS_some, s_asg', s_par', s_setix', s_expr', s_ret', s_ite', s_for', s_cont', s_raise', ss_nil', ss_cons', stG_nm, stG_tp, stGs_nil, stGs_cons, fin_rt, fin_nx, fin_ex, fin_ite, List.getElem?_cons_zero, List.getElem?_cons_succ, List.set_cons_zero, List.set_cons_succ, List.length_cons, List.length_nil, List.length_set, List.replicate, if_true, if_false, Bool.not_true, Bool.not_false, Bool.false_eq_true, Bool.and_true, Bool.true_and, Bool.and_false, Bool.false_and, Bool.or_true, Bool.true_or, Bool.or_false, Bool.false_or, decide_true, decide_false, Option.bind_some, Option.isSome_some, List.nil_append, List.cons_append, List.append_nil, startF_one, startF_two, permute_one, permute_two, le_int, lt_int, gt_int, ge_int, add_int, sub_int, not_true_eq_false, not_false_eq_true, and_self, and_true, true_and, or_true, true_or, ite_self, b4, biLen_str hl, show prg.gc[3]? = some (.int 12) from rfl, h1]
      exact ⟨A, rfl, Gr.refl A⟩
end LF.Pl
set_option Elab.async false
set_option linter.all false
set_option maxHeartbeats 4000000
set_option maxRecDepth 100000
/-! Texts: what a word stands for. -/
namespace LF.Pl
open PySem
def hd1 (x : Str) : Str := L2.cutS x none (some 1)
def tl1 (x : Str) : Str := L2.cutS x (some 1) none
theorem sIx_one (n d : Nat) : HT.sIx n d (some 1) = min 1 n := HT.sIx_nat n d 1
theorem tl_hd1 (x : Str) : TL.tl (hd1 x) = (TL.tl x).take 1 := by
  have := TL.len_tl x
  show ((TL.tl x).drop (HT.sIx x.length 0 none)).take (HT.sIx x.length x.length (some 1) - HT.sIx x.length 0 none) = _
  rw [sIx_one, HT.sIx_none, List.drop_zero, Nat.sub_zero]
  cases h : TL.tl x with
  | nil => simp
  | cons c r => rw [h] at this; rw [this]; simp
theorem tl_tl1 (x : Str) : TL.tl (tl1 x) = (TL.tl x).drop 1 := by
  have := TL.len_tl x
  show ((TL.tl x).drop (HT.sIx x.length 0 (some 1))).take (HT.sIx x.length x.length none - HT.sIx x.length 0 (some 1)) = _
  rw [sIx_one, HT.sIx_none]
  cases h : TL.tl x with
  | nil => simp
  | cons c r =>
    rw [h] at this
    rw [this]
    simp
theorem sl_hd {x : Str} (A : IH) (hl : x.length ≤ LIM) : slI (.str x) none (some 1) A = .ok (.str (hd1 x)) A := by
  show (if x.length ≤ LIM then _ else _) = _
  rw [if_pos hl]
  rfl
theorem sl_tl {x : Str} (A : IH) (hl : x.length ≤ LIM) : slI (.str x) (some 1) none A = .ok (.str (tl1 x)) A := by
  show (if x.length ≤ LIM then _ else _) = _
  rw [if_pos hl]
  rfl
theorem asc_hd {x : Str} (h : Asc x) : Asc (hd1 x) := fun c hc => h c (by rw [tl_hd1] at hc; exact List.mem_of_mem_take hc)
theorem asc_tl {x : Str} (h : Asc x) : Asc (tl1 x) := fun c hc => h c (by rw [tl_tl1] at hc; exact List.mem_of_mem_drop hc)
theorem len_tl1 (x : Str) : (tl1 x).length ≤ x.length := L2.cutS_length _ _ _
theorem len_hd1 (x : Str) : (hd1 x).length ≤ x.length := L2.cutS_length _ _ _
theorem hd_iff (x : Str) {z : Str} {d : Nat} (h : TL.tl z = [d]) : decide (hd1 x = z) = decide ((TL.tl x).head? = some d) := by
  rw [decide_eq_decide]
  constructor
  · intro e
    have := congrArg TL.tl e
    rw [tl_hd1, h] at this
    cases hx : TL.tl x with
    | nil => rw [hx] at this; cases this
    | cons c r => rw [hx] at this; simp at this; rw [this]; rfl
  · intro e
    refine TL.ext_tl ?_
    rw [tl_hd1, h]
    cases hx : TL.tl x with
    | nil => rw [hx] at e; cases e
    | cons c r => rw [hx] at e; simp at e; rw [e]; rfl
theorem eq_lit (x : Str) {z : Str} {l : List Nat} (h : TL.tl z = l) : decide (x = z) = decide (TL.tl x = l) := by
  rw [decide_eq_decide]
  exact ⟨fun e => by rw [e]; exact h, fun e => TL.ext_tl (e.trans h.symm)⟩
abbrev aL {x : Str} (h : (TL.tl x).all (fun c => decide (c < 128)) = true) : Asc x := asc_lit h
def isN (x : Str) : Bool := decide ((TL.tl x).head? = some 45) && (isFL ((TL.tl x).drop 1) && !decide (TL.tl x = [45, 48]))
theorem tMinus : TL.tl ("-" : Str) = [45] := by decide +kernel
theorem tMin0 : TL.tl ("-0" : Str) = [45, 48] := by decide +kernel
theorem tAt : TL.tl ("@" : Str) = [64] := by decide +kernel
theorem tDot : TL.tl ("." : Str) = [46] := by decide +kernel
theorem tEmp : TL.tl ("" : Str) = [] := by decide +kernel
theorem aMinus : Asc "-" := asc_lit (by decide +kernel)
theorem aMin0 : Asc "-0" := asc_lit (by decide +kernel)
theorem aAt : Asc "@" := asc_lit (by decide +kernel)
theorem aEmp : Asc "" := asc_lit (by decide +kernel)
theorem aZero : Asc "0" := asc_lit (by decide +kernel)
/-- is_negative -/
theorem f5 (n : Nat) (A : IH) (x : Str) (hl : x.length ≤ LIM) (hx : Asc x) : ∃ A', callI prg (n + 2) 5 [.str x] A = .ok (.bl (isN x)) A' ∧ Gr A A' := by
  rw [call_eq (d := ⟨1, 1, b5⟩) rfl rfl]
  obtain ⟨B, hB, gB⟩ := f4 n A (tl1 x) (Nat.le_trans (len_tl1 x) hl) (asc_tl hx)
  have eF : isF (tl1 x) = isFL ((TL.tl x).drop 1) := by unfold isF; rw [tl_tl1]
  simp only [onB_bl, bind_ok, bind_ex, bind_ite, onS_bl, on_ok, on_ex, on_ite, next_nx, next_rt, next_ct, next_ex, next_ite, e_non, e_bl, e_int, e_str, gV_some, e_var, optR_some, e_gco, e_tup, e_lst, e_bin, negI_int, e_neg, e_cmp, e_chain, notI_bl, e_not, e_and, e_or, e_ite, e_ix, e_sl, e_call, e_bi, e_me, optB_some, e_isi, attI_exc, e_att, oG_some, gD_some, e_gin, e_gix, e_gget, o_no, oI_int, o_some, t_no, tI_bl, t_some, es_nil, es_cons, qI_tup, qI_str, qI_ref, q_val, rI_int, q_rng, enI_ref, q_enum, oS_some, s_asg', s_par', s_setix', s_expr', s_ret', s_ite', s_for', s_cont', s_raise', ss_nil', ss_cons', stG_nm, stG_tp, stGs_nil, stGs_cons, fin_rt, fin_nx, fin_ex, fin_ite, List.getElem?_cons_zero, List.getElem?_cons_succ, List.set_cons_zero, List.set_cons_succ, List.length_cons, List.length_nil, List.length_set, List.replicate, if_true, if_false, Bool.not_true, Bool.not_false, Bool.false_eq_true, Bool.and_true, Bool.true_and, Bool.and_false, Bool.false_and, Bool.or_true, Bool.true_or, Bool.or_false, Bool.false_or, decide_true, decide_false, Option.bind_some, Option.isSome_some, List.nil_append, List.cons_append, List.append_nil, startF_one, startF_two, permute_one, permute_two, le_int, lt_int, gt_int, ge_int, add_int, sub_int, not_true_eq_false, not_false_eq_true, and_self, and_true, true_and, or_true, true_or, ite_self, b5, sl_hd _ hl, sl_tl _ hl, cmp_eq _ (asc_hd hx) aMinus, hd_iff x tMinus, hB, cmp_ne _ hx aMin0, eq_lit x tMin0, eF]
  unfold isN
  cases decide ((TL.tl x).head? = some 45) with
  | false => exact ⟨A, by simp, Gr.refl A⟩
  | true =>
    cases isFL ((TL.tl x).drop 1) with
    | false => exact ⟨B, by simp, gB⟩
    | true => exact ⟨B, by simp, gB⟩
end LF.Pl
set_option Elab.async false
set_option linter.all false
set_option maxHeartbeats 4000000
set_option maxRecDepth 100000
/-! Texts: addresses, numbers. -/
namespace LF.Pl
open PySem
abbrev dV (l : List Nat) : Int := ((NumText.digitsVal l : Nat) : Int)
theorem isFL_dig {l : List Nat} (h : isFL l = true) : NumText.AllDigits l ∧ l ≠ [] ∧ l.length ≤ 12 := by
  unfold isFL at h
  simp only [Bool.and_eq_true, decide_eq_true_eq] at h
  obtain ⟨⟨h1, h2⟩, h3, _⟩ := h
  refine ⟨fun c hc => ?_, fun e => by rw [e] at h1; simp at h1, h2⟩
  exact of_decide_eq_true (List.all_eq_true.mp h3 c hc)
theorem int_fig {x : Str} (A : IH) (h : isFL (TL.tl x) = true) : biI .int [.str x] A = .ok (.int (dV (TL.tl x))) A := by
  obtain ⟨h1, h2, h3⟩ := isFL_dig h
  have hl := TL.len_tl x
  show (match intText? x with
    | some n => if x.length ≤ 640 then Rs.ok (IV.int n) A else .bad
    | none => .bad) = _
  rw [intText_digits h1 h2 (by omega)]
  exact if_pos (by omega)
theorem int_neg {x : Str} (A : IH) {cs : List Nat} (e : TL.tl x = 45 :: cs) (h : isFL cs = true) : biI .int [.str x] A = .ok (.int (-dV cs)) A := by
  obtain ⟨h1, h2, h3⟩ := isFL_dig h
  have hl := TL.len_tl x
  rw [e, List.length_cons] at hl
  show (match intText? x with
    | some n => if x.length ≤ 640 then Rs.ok (IV.int n) A else .bad
    | none => .bad) = _
  rw [intText_neg e h1 h2 (by omega)]
  exact if_pos (by omega)
/-- a list, at its first such sign -/
theorem cut_at (s : Nat) : ∀ l : List Nat, s ∉ l ∨ ∃ p r, l = p ++ s :: r ∧ s ∉ p
  | [] => .inl (by simp)
  | c :: l => by
    by_cases hc : c = s
    · exact .inr ⟨[], l, by rw [hc]; rfl, by simp⟩
    · rcases cut_at s l with h | ⟨p, r, rfl, h⟩
      · exact .inl (by simp [h, Ne.symm hc])
      · exact .inr ⟨c :: p, r, rfl, by simp [h, Ne.symm hc]⟩
def addrOf (l : List Nat) : Option IV := match TL.par [46] [] l with
  | some (h, t) => if isFL h && isFL t then some (.tup [.str "at", .int (dV h), .int (dV t)]) else none
  | none => none
def oL : Option IV → List IV
  | none => []
  | some v => [v]
theorem me_part {x y : Str} (A : IH) (hy : y.length ≠ 0) (hl : x.length ≤ LIM) : meI .partition (.str x) [.str y] A = .ok (.tup [.str (Txt.partition x y).1, .str (Txt.partition x y).2.1, .str (Txt.partition x y).2.2]) A := by
  show (if y.length ≠ 0 ∧ x.length ≤ LIM then _ else _) = _
  rw [if_pos ⟨hy, hl⟩]
theorem recv_part (x : Str) (A : IH) : recvI .partition (.str x) A = true := rfl
theorem newL_eq (xs : List IV) (A : IH) : newL xs A = .ok (.ref A.length) (A ++ [.lst xs]) := rfl
theorem lim0 (n : Nat) (h : n ≤ 20) : n ≤ LIM := Nat.le_trans h (by decide)
theorem len_dot : (("." : Str)).length ≠ 0 := by decide +kernel
/-- what a new list's place holds, more behind it -/
theorem at_mid (A : IH) (o : IO) (B : IH) : (A ++ o :: B)[A.length]? = some o := by simp
theorem asc_mk {l : List Nat} (h : ∀ c ∈ l, c < 128) : Asc ⟨l.toArray⟩ := fun c hc => h c hc
theorem len_mk (l : List Nat) : (⟨l.toArray⟩ : Str).length = l.length := rfl
/-- address_read -/
theorem f6 (n : Nat) (A : IH) (x : Str) (hl : x.length ≤ LIM) (hx : Asc x) : ∃ A' m, callI prg (n + 2) 6 [.str x] A = .ok (.ref m) A' ∧ Gr A A' ∧ A'[m]? = some (.lst (oL (if (TL.tl x).head? = some 64 then addrOf ((TL.tl x).drop 1) else none))) := by
  rw [call_eq (d := ⟨1, 4, b6⟩) rfl rfl]
  have hl1 : (tl1 x).length ≤ LIM := Nat.le_trans (len_tl1 x) hl
  have hx1 := asc_tl hx
  have hp := TL.partition_par (tl1 x) "." (by rw [tDot]; simp)
  rw [tDot, tl_tl1] at hp
  by_cases h64 : (TL.tl x).head? = some 64
  · rw [if_pos h64]
    rcases cut_at 46 ((TL.tl x).drop 1) with hn | ⟨p, r, e, hn⟩
    · have hpar : TL.par [46] [] ((TL.tl x).drop 1) = none := TL.par_none1 hn
      rw [hpar] at hp
      simp only [onB_bl, bind_ok, bind_ex, bind_ite, onS_bl, on_ok, on_ex, on_ite, next_nx, next_rt, next_ct, next_ex, next_ite, e_non, e_bl, e_int, e_str, gV_some, e_var, optR_some, e_gco, e_tup, e_lst, e_bin, negI_int, e_neg, e_cmp, e_chain, notI_bl, e_not, e_and, e_or, e_ite, e_ix, e_sl, e_call, e_bi, e_me, optB_some, e_isi, attI_exc, e_att, oG_some, gD_some, e_gin, e_gix, e_gget, o_no, oI_int, o_some, t_no, tI_bl, t_some, es_nil, es_cons, qI_tup, qI_str, qI_ref, q_val, rI_int, q_rng, enI_ref, q_enum, oS_some, s_asg', s_par', s_setix', s_expr', s_ret', s_ite', s_for', s_cont', s_raise', ss_nil', ss_cons', stG_nm, stG_tp, stGs_nil, stGs_cons, fin_rt, fin_nx, fin_ex, fin_ite, List.getElem?_cons_zero, List.getElem?_cons_succ, List.set_cons_zero, List.set_cons_succ, List.length_cons, List.length_nil, List.length_set, List.replicate, if_true, if_false, Bool.not_true, Bool.not_false, Bool.false_eq_true, Bool.and_true, Bool.true_and, Bool.and_false, Bool.false_and, Bool.or_true, Bool.true_or, Bool.or_false, Bool.false_or, decide_true, decide_false, Option.bind_some, Option.isSome_some, List.nil_append, List.cons_append, List.append_nil, startF_one, startF_two, permute_one, permute_two, le_int, lt_int, gt_int, ge_int, add_int, sub_int, not_true_eq_false, not_false_eq_true, and_self, and_true, true_and, or_true, true_or, ite_self, b6, sl_tl _ hl, recv_part, me_part _ len_dot hl1, hp, Nat.reduceAdd, Nat.reduceLT, sl_hd _ hl, cmp_ne _ (asc_hd hx) aAt, hd_iff x tAt, decide_eq_true h64, cmp_eq _ (show Asc Str.empty from asc_lit (by decide +kernel)) aEmp, show decide (Str.empty = ("" : Str)) = true from by decide +kernel,
        Nat.zero_le, newL_eq]
      refine ⟨_, _, rfl, Gr.new _ _, ?_⟩
      unfold addrOf
      rw [hpar]
      exact at_new _ _
    · have hpar : TL.par [46] [] ((TL.tl x).drop 1) = some (p, r) := by
        rw [e]
        have := TL.par_part1 (S := []) (rest := r) (acc := []) hn
        simpa using this
      rw [hpar] at hp
      have hmem : ∀ c ∈ p ++ 46 :: r, c < 128 := fun c hc => hx c (List.mem_of_mem_drop (by rw [e]; exact hc))
      have ap : Asc ⟨p.toArray⟩ := asc_mk fun c hc => hmem c (by simp [hc])
      have ar : Asc ⟨r.toArray⟩ := asc_mk fun c hc => hmem c (by simp [hc])
      have hlen : p.length + (r.length + 1) ≤ LIM := by
        have h1 := congrArg List.length e
        rw [List.length_append, List.length_cons, ← tl_tl1] at h1
        have h2 := TL.len_tl (tl1 x)
        omega
      obtain ⟨B1, hB1, g1⟩ := f4 n A ⟨p.toArray⟩ (by rw [len_mk]; omega) ap
      obtain ⟨B2, hB2, g2⟩ := f4 n B1 ⟨r.toArray⟩ (by rw [len_mk]; omega) ar
      have e1 : isF ⟨p.toArray⟩ = isFL p := rfl
      have e2 : isF ⟨r.toArray⟩ = isFL r := rfl
      simp only [onB_bl, bind_ok, bind_ex, bind_ite, onS_bl, on_ok, on_ex, on_ite, next_nx, next_rt, next_ct, next_ex, next_ite, e_non, e_bl, e_int, e_str, gV_some, e_var, optR_some, e_gco, e_tup, e_lst, e_bin, negI_int, e_neg, e_cmp, e_chain, notI_bl, e_not, e_and, e_or, e_ite, e_ix, e_sl, e_call, e_bi, e_me, optB_some, e_isi, attI_exc, e_att, oG_some, gD_some, e_gin, e_gix, e_gget, o_no, oI_int, o_some, t_no, tI_bl, t_some, es_nil, es_cons, qI_tup, qI_str, qI_ref, q_val, rI_int, q_rng, enI_ref, q_enum, oS_some, s_asg', s_par', s_setix', s_expr', s_ret', s_ite', s_for', s_cont', s_raise', ss_nil', ss_cons', stG_nm, stG_tp, stGs_nil, stGs_cons, fin_rt, fin_nx, fin_ex, fin_ite, List.getElem?_cons_zero, List.getElem?_cons_succ, List.set_cons_zero, List.set_cons_succ, List.length_cons, List.length_nil, List.length_set, List.replicate, if_true, if_false, Bool.not_true, Bool.not_false, Bool.false_eq_true, Bool.and_true, Bool.true_and, Bool.and_false, Bool.false_and, Bool.or_true, Bool.true_or, Bool.or_false, Bool.false_or, decide_true, decide_false, Option.bind_some, Option.isSome_some, List.nil_append, List.cons_append, List.append_nil, startF_one, startF_two, permute_one, permute_two, le_int, lt_int, gt_int, ge_int, add_int, sub_int, not_true_eq_false, not_false_eq_true, and_self, and_true, true_and, or_true, true_or, ite_self, b6, sl_tl _ hl, recv_part, me_part _ len_dot hl1, hp, Nat.reduceAdd, Nat.reduceLT, sl_hd _ hl, cmp_ne _ (asc_hd hx) aAt, hd_iff x tAt, decide_eq_true h64, cmp_eq _ (show Asc "." from asc_lit (by decide +kernel)) aEmp, show decide (("." : Str) = ("" : Str)) = false from by decide +kernel,
        Nat.zero_le, newL_eq, hB1, hB2, e1, e2]
      unfold addrOf
      rw [hpar]
      cases h1 : isFL p with
      | false => exact ⟨B1 ++ [.lst []], B1.length, by simp, g1.snoc _, by simp [oL, h1]⟩
      | true =>
        cases h2 : isFL r with
        | false => exact ⟨B2 ++ [.lst []], B2.length, by simp, (g1.trans g2).snoc _, by simp [oL, h1, h2]⟩
        | true =>
          simp only [onB_bl, bind_ok, bind_ex, bind_ite, onS_bl, on_ok, on_ex, on_ite, next_nx, next_rt, next_ct, next_ex, next_ite, e_non, e_bl, e_int, e_str, gV_some, e_var, optR_some, e_gco, e_tup, e_lst, e_bin, negI_int, e_neg, e_cmp, e_chain, notI_bl, e_not, e_and, e_or, e_ite, e_ix, e_sl, e_call, e_bi, e_me, optB_some, e_isi, attI_exc, e_att, oG_some, gD_some, e_gin, e_gix, e_gget, o_no, oI_int, o_some, t_no, tI_bl, t_some, es_nil, es_cons, qI_tup, qI_str, qI_ref, q_val, rI_int, q_rng, enI_ref, q_enum, oS_some, s_asg', s_par', s_setix', s_expr', s_ret', s_ite', s_for', s_cont', s_raise', ss_nil', ss_cons', stG_nm, stG_tp, stGs_nil, stGs_cons, fin_rt, fin_nx, fin_ex, fin_ite, List.getElem?_cons_zero, List.getElem?_cons_succ, List.set_cons_zero, List.set_cons_succ, List.length_cons, List.length_nil, List.length_set, List.replicate, if_true, if_false, Bool.not_true, Bool.not_false, Bool.false_eq_true, Bool.and_true, Bool.true_and, Bool.and_false, Bool.false_and, Bool.or_true, Bool.true_or, Bool.or_false, Bool.false_or, decide_true, decide_false, Option.bind_some, Option.isSome_some, List.nil_append, List.cons_append, List.append_nil, startF_one, startF_two, permute_one, permute_two, le_int, lt_int, gt_int, ge_int, add_int, sub_int, not_true_eq_false, not_false_eq_true, and_self, and_true, true_and, or_true, true_or, ite_self, int_fig (x := ⟨p.toArray⟩) _ h1, int_fig (x := ⟨r.toArray⟩) _ h2, show (0 + 1 + 1 + 1 ≤ LIM) = True from eq_true (by decide), show (0 + 1 ≤ LIM) = True from eq_true (by decide), newL_eq]
          exact ⟨B2 ++ [.lst [.tup [.str "at", .int (dV p), .int (dV r)]]], B2.length, rfl, (g1.trans g2).snoc _, by simp [oL, h1, h2]⟩
  · rw [if_neg h64]
    simp only [onB_bl, bind_ok, bind_ex, bind_ite, onS_bl, on_ok, on_ex, on_ite, next_nx, next_rt, next_ct, next_ex, next_ite, e_non, e_bl, e_int, e_str, gV_some, e_var, optR_some, e_gco, e_tup, e_lst, e_bin, negI_int, e_neg, e_cmp, e_chain, notI_bl, e_not, e_and, e_or, e_ite, e_ix, e_sl, e_call, e_bi, e_me, optB_some, e_isi, attI_exc, e_att, oG_some, gD_some, e_gin, e_gix, e_gget, o_no, oI_int, o_some, t_no, tI_bl, t_some, es_nil, es_cons, qI_tup, qI_str, qI_ref, q_val, rI_int, q_rng, enI_ref, q_enum, oS_some, s_asg', s_par', s_setix', s_expr', s_ret', s_ite', s_for', s_cont', s_raise', ss_nil', ss_cons', stG_nm, stG_tp, stGs_nil, stGs_cons, fin_rt, fin_nx, fin_ex, fin_ite, List.getElem?_cons_zero, List.getElem?_cons_succ, List.set_cons_zero, List.set_cons_succ, List.length_cons, List.length_nil, List.length_set, List.replicate, if_true, if_false, Bool.not_true, Bool.not_false, Bool.false_eq_true, Bool.and_true, Bool.true_and, Bool.and_false, Bool.false_and, Bool.or_true, Bool.true_or, Bool.or_false, Bool.false_or, decide_true, decide_false, Option.bind_some, Option.isSome_some, List.nil_append, List.cons_append, List.append_nil, startF_one, startF_two, permute_one, permute_two, le_int, lt_int, gt_int, ge_int, add_int, sub_int, not_true_eq_false, not_false_eq_true, and_self, and_true, true_and, or_true, true_or, ite_self, b6, sl_tl _ hl, recv_part, me_part _ len_dot hl1, hp, Nat.reduceAdd, Nat.reduceLT, sl_hd _ hl, cmp_ne _ (asc_hd hx) aAt, hd_iff x tAt, decide_eq_false h64, Nat.zero_le, newL_eq]
    exact ⟨_, _, rfl, Gr.new _ _, at_new _ _⟩
end LF.Pl
set_option Elab.async false
set_option linter.all false
set_option maxHeartbeats 4000000
set_option maxRecDepth 100000
/-! Texts: a word as the program reads it, as the law reads it. -/
namespace LF.Pl
open PySem
theorem tPlus : TL.tl ("+" : Str) = [43] := by decide +kernel
theorem tSlash : TL.tl ("/" : Str) = [47] := by decide +kernel
def signOf (l : List Nat) : Option IV := if l = [45] then some .non else if l = [43] then some (.bl true) else if l = [47] then some (.bl false) else none
theorem beq_tl {x z : Str} {l : List Nat} (h : TL.tl z = l) : (x == z) = decide (TL.tl x = l) := by
  rw [← eq_lit x h]
  by_cases e : x = z
  · rw [decide_eq_true e, e]; simp
  · rw [decide_eq_false e]; simpa using e
theorem lk_signs (x : Str) : ([("-", .non), ("+", .bl true), ("/", .bl false)] : List (Str × IV)).lookup x = signOf (TL.tl x) := by
  unfold signOf
  simp only [List.lookup_cons, beq_tl tMinus, beq_tl tPlus, beq_tl tSlash, List.lookup_nil]
  by_cases h1 : TL.tl x = [45]
  · simp [h1]
  · by_cases h2 : TL.tl x = [43]
    · simp [h2]
    · by_cases h3 : TL.tl x = [47]
      · simp [h3]
      · simp [h1, h2, h3]
def atomOf (x : Str) : Option IV := match signOf (TL.tl x) with
  | some v => some v
  | none => if isF x then some (.int (dV (TL.tl x))) else if isN x then some (.int (-dV ((TL.tl x).drop 1))) else if isW x then some (.str x) else if (TL.tl x).head? = some 64 then addrOf ((TL.tl x).drop 1) else none
theorem isN_shape {x : Str} (h : isN x = true) : ∃ cs, TL.tl x = 45 :: cs ∧ isFL cs = true ∧ cs ≠ [48] := by
  unfold isN at h
  simp only [Bool.and_eq_true, decide_eq_true_eq, Bool.not_eq_true', decide_eq_false_iff_not] at h
  obtain ⟨h1, h2, h3⟩ := h
  cases hx : TL.tl x with
  | nil => rw [hx] at h1; cases h1
  | cons c r =>
    rw [hx] at h1 h2 h3
    simp at h1 h2 h3
    subst h1
    exact ⟨r, rfl, h2, fun e => h3 rfl e⟩
theorem lim1 : (0 + 1 ≤ LIM) = True := eq_true (by decide)
theorem lim00 : (0 ≤ LIM) = True := eq_true (by decide)
/-- word_read -/
theorem f7 (n : Nat) (A : IH) (x : Str) (hl : x.length ≤ LIM) (hx : Asc x) : ∃ A' m, callI prg (n + 3) 7 [.str x] A = .ok (.ref m) A' ∧ Gr A A' ∧ A'[m]? = some (.lst (oL (atomOf x))) := by
  rw [call_eq (d := ⟨1, 1, b7⟩) rfl rfl]
  have hgd : prg.gd[1]? = some ([("-", .non), ("+", .bl true), ("/", .bl false)] : List (Str × IV)) := rfl
  unfold atomOf
  cases hs : signOf (TL.tl x) with
  | some v =>
    simp only [onB_bl, bind_ok, bind_ex, bind_ite, onS_bl, on_ok, on_ex, on_ite, next_nx, next_rt, next_ct, next_ex, next_ite, e_non, e_bl, e_int, e_str, gV_some, e_var, optR_some, e_gco, e_tup, e_lst, e_bin, negI_int, e_neg, e_cmp, e_chain, notI_bl, e_not, e_and, e_or, e_ite, e_ix, e_sl, e_call, e_bi, e_me, optB_some, e_isi, attI_exc, e_att, oG_some, gD_some, e_gin, e_gix, e_gget, o_no, oI_int, o_some, t_no, tI_bl, t_some, es_nil, es_cons, qI_tup, qI_str, qI_ref, q_val, rI_int, q_rng, enI_ref, q_enum, oS_some, s_asg', s_par', s_setix', s_expr', s_ret', s_ite', s_for', s_cont', s_raise', ss_nil', ss_cons', stG_nm, stG_tp, stGs_nil, stGs_cons, fin_rt, fin_nx, fin_ex, fin_ite, List.getElem?_cons_zero, List.getElem?_cons_succ, List.set_cons_zero, List.set_cons_succ, List.length_cons, List.length_nil, List.length_set, List.replicate, if_true, if_false, Bool.not_true, Bool.not_false, Bool.false_eq_true, Bool.and_true, Bool.true_and, Bool.and_false, Bool.false_and, Bool.or_true, Bool.true_or, Bool.or_false, Bool.false_or, decide_true, decide_false, Option.bind_some, Option.isSome_some, List.nil_append, List.cons_append, List.append_nil, startF_one, startF_two, permute_one, permute_two, le_int, lt_int, gt_int, ge_int, add_int, sub_int, not_true_eq_false, not_false_eq_true, and_self, and_true, true_and, or_true, true_or, ite_self, b7, hgd, lk_signs, hs, lim1, newL_eq]
    exact ⟨_, _, rfl, Gr.new _ _, at_new _ _⟩
  | none =>
    dsimp only
    obtain ⟨A1, h1, g1⟩ := f4 (n + 1) A x hl hx
    obtain ⟨A2, h2, g2⟩ := f5 n A1 x hl hx
    obtain ⟨A3, h3, g3⟩ := f0 (n + 1) A2 x hl
    obtain ⟨A4, m, h4, g4, e4⟩ := f6 n A3 x hl hx
    cases hF : isF x with
    | true =>
      simp only [onB_bl, bind_ok, bind_ex, bind_ite, onS_bl, on_ok, on_ex, on_ite, next_nx, next_rt, next_ct, next_ex, next_ite, e_non, e_bl, e_int, e_str, gV_some, e_var, optR_some, e_gco, e_tup, e_lst, e_bin, negI_int, e_neg, e_cmp, e_chain, notI_bl, e_not, e_and, e_or, e_ite, e_ix, e_sl, e_call, e_bi, e_me, optB_some, e_isi, attI_exc, e_att, oG_some, gD_some, e_gin, e_gix, e_gget, o_no, oI_int, o_some, t_no, tI_bl, t_some, es_nil, es_cons, qI_tup, qI_str, qI_ref, q_val, rI_int, q_rng, enI_ref, q_enum, oS_some, s_asg', s_par', s_setix', s_expr', s_ret', s_ite', s_for', s_cont', s_raise', ss_nil', ss_cons', stG_nm, stG_tp, stGs_nil, stGs_cons, fin_rt, fin_nx, fin_ex, fin_ite, List.getElem?_cons_zero, List.getElem?_cons_succ, List.set_cons_zero, List.set_cons_succ, List.length_cons, List.length_nil, List.length_set, List.replicate, if_true, if_false, Bool.not_true, Bool.not_false, Bool.false_eq_true, Bool.and_true, Bool.true_and, Bool.and_false, Bool.false_and, Bool.or_true, Bool.true_or, Bool.or_false, Bool.false_or, decide_true, decide_false, Option.bind_some, Option.isSome_some, List.nil_append, List.cons_append, List.append_nil, startF_one, startF_two, permute_one, permute_two, le_int, lt_int, gt_int, ge_int, add_int, sub_int, not_true_eq_false, not_false_eq_true, and_self, and_true, true_and, or_true, true_or, ite_self, b7, hgd, lk_signs, hs, lim1, newL_eq, h1, hF, int_fig A1 (show isFL (TL.tl x) = true from hF), Option.isSome_none]
      exact ⟨_, _, rfl, g1.snoc _, at_new _ _⟩
    | false =>
      cases hN : isN x with
      | true =>
        obtain ⟨cs, e, hc, _⟩ := isN_shape hN
        have ed : (TL.tl x).drop 1 = cs := by rw [e]; rfl
        simp only [onB_bl, bind_ok, bind_ex, bind_ite, onS_bl, on_ok, on_ex, on_ite, next_nx, next_rt, next_ct, next_ex, next_ite, e_non, e_bl, e_int, e_str, gV_some, e_var, optR_some, e_gco, e_tup, e_lst, e_bin, negI_int, e_neg, e_cmp, e_chain, notI_bl, e_not, e_and, e_or, e_ite, e_ix, e_sl, e_call, e_bi, e_me, optB_some, e_isi, attI_exc, e_att, oG_some, gD_some, e_gin, e_gix, e_gget, o_no, oI_int, o_some, t_no, tI_bl, t_some, es_nil, es_cons, qI_tup, qI_str, qI_ref, q_val, rI_int, q_rng, enI_ref, q_enum, oS_some, s_asg', s_par', s_setix', s_expr', s_ret', s_ite', s_for', s_cont', s_raise', ss_nil', ss_cons', stG_nm, stG_tp, stGs_nil, stGs_cons, fin_rt, fin_nx, fin_ex, fin_ite, List.getElem?_cons_zero, List.getElem?_cons_succ, List.set_cons_zero, List.set_cons_succ, List.length_cons, List.length_nil, List.length_set, List.replicate, if_true, if_false, Bool.not_true, Bool.not_false, Bool.false_eq_true, Bool.and_true, Bool.true_and, Bool.and_false, Bool.false_and, Bool.or_true, Bool.true_or, Bool.or_false, Bool.false_or, decide_true, decide_false, Option.bind_some, Option.isSome_some, List.nil_append, List.cons_append, List.append_nil, startF_one, startF_two, permute_one, permute_two, le_int, lt_int, gt_int, ge_int, add_int, sub_int, not_true_eq_false, not_false_eq_true, and_self, and_true, true_and, or_true, true_or, ite_self, b7, hgd, lk_signs, hs, lim1, newL_eq, h1, h2, hF, hN, int_neg A2 e hc, Option.isSome_none, ed]
        exact ⟨_, _, rfl, (g1.trans g2).snoc _, at_new _ _⟩
      | false =>
        cases hW : isW x with
        | true =>
          simp only [onB_bl, bind_ok, bind_ex, bind_ite, onS_bl, on_ok, on_ex, on_ite, next_nx, next_rt, next_ct, next_ex, next_ite, e_non, e_bl, e_int, e_str, gV_some, e_var, optR_some, e_gco, e_tup, e_lst, e_bin, negI_int, e_neg, e_cmp, e_chain, notI_bl, e_not, e_and, e_or, e_ite, e_ix, e_sl, e_call, e_bi, e_me, optB_some, e_isi, attI_exc, e_att, oG_some, gD_some, e_gin, e_gix, e_gget, o_no, oI_int, o_some, t_no, tI_bl, t_some, es_nil, es_cons, qI_tup, qI_str, qI_ref, q_val, rI_int, q_rng, enI_ref, q_enum, oS_some, s_asg', s_par', s_setix', s_expr', s_ret', s_ite', s_for', s_cont', s_raise', ss_nil', ss_cons', stG_nm, stG_tp, stGs_nil, stGs_cons, fin_rt, fin_nx, fin_ex, fin_ite, List.getElem?_cons_zero, List.getElem?_cons_succ, List.set_cons_zero, List.set_cons_succ, List.length_cons, List.length_nil, List.length_set, List.replicate, if_true, if_false, Bool.not_true, Bool.not_false, Bool.false_eq_true, Bool.and_true, Bool.true_and, Bool.and_false, Bool.false_and, Bool.or_true, Bool.true_or, Bool.or_false, Bool.false_or, decide_true, decide_false, Option.bind_some, Option.isSome_some, List.nil_append, List.cons_append, List.append_nil, startF_one, startF_two, permute_one, permute_two, le_int, lt_int, gt_int, ge_int, add_int, sub_int, not_true_eq_false, not_false_eq_true, and_self, and_true, true_and, or_true, true_or, ite_self, b7, hgd, lk_signs, hs, lim1, newL_eq, h1, h2, h3, hF, hN, hW, Option.isSome_none]
          exact ⟨_, _, rfl, ((g1.trans g2).trans g3).snoc _, at_new _ _⟩
        | false =>
          simp only [onB_bl, bind_ok, bind_ex, bind_ite, onS_bl, on_ok, on_ex, on_ite, next_nx, next_rt, next_ct, next_ex, next_ite, e_non, e_bl, e_int, e_str, gV_some, e_var, optR_some, e_gco, e_tup, e_lst, e_bin, negI_int, e_neg, e_cmp, e_chain, notI_bl, e_not, e_and, e_or, e_ite, e_ix, e_sl, e_call, e_bi, e_me, optB_some, e_isi, attI_exc, e_att, oG_some, gD_some, e_gin, e_gix, e_gget, o_no, oI_int, o_some, t_no, tI_bl, t_some, es_nil, es_cons, qI_tup, qI_str, qI_ref, q_val, rI_int, q_rng, enI_ref, q_enum, oS_some, s_asg', s_par', s_setix', s_expr', s_ret', s_ite', s_for', s_cont', s_raise', ss_nil', ss_cons', stG_nm, stG_tp, stGs_nil, stGs_cons, fin_rt, fin_nx, fin_ex, fin_ite, List.getElem?_cons_zero, List.getElem?_cons_succ, List.set_cons_zero, List.set_cons_succ, List.length_cons, List.length_nil, List.length_set, List.replicate, if_true, if_false, Bool.not_true, Bool.not_false, Bool.false_eq_true, Bool.and_true, Bool.true_and, Bool.and_false, Bool.false_and, Bool.or_true, Bool.true_or, Bool.or_false, Bool.false_or, decide_true, decide_false, Option.bind_some, Option.isSome_some, List.nil_append, List.cons_append, List.append_nil, startF_one, startF_two, permute_one, permute_two, le_int, lt_int, gt_int, ge_int, add_int, sub_int, not_true_eq_false, not_false_eq_true, and_self, and_true, true_and, or_true, true_or, ite_self, b7, hgd, lk_signs, hs, lim1, newL_eq, h1, h2, h3, h4, hF, hN, hW, Option.isSome_none]
          exact ⟨_, _, rfl, ((g1.trans g2).trans g3).trans g4, e4⟩
/-! ### lists as data -/
theorem toWs_strs (g : Nat → Option PyData) : ∀ ys : List Str, toWs g (ys.map .str) = some (ys.map .str)
  | [] => by rw [List.map_nil, toWs]; rfl
  | y :: r => by
    rw [List.map_cons, toWs, toWs_strs g r, toW]
    rfl
theorem toD_strs {A : IH} {m : Nat} {ys : List Str} (h : A[m]? = some (.lst (ys.map .str))) : toD A (.ref m) = some (.list (ys.map .str)) := by
  show toW (refD 6 A) (.ref m) = _
  rw [toW]
  unfold refD
  rw [h]
  dsimp only
  rw [toWs_strs]
  rfl
theorem lay_strs : ∀ {ys : List Str}, (∀ y ∈ ys, Asc y) → PyData.canLayAll0 (ys.map .str) = true ∧ PyData.depthAll (ys.map .str) = 0
  | [], _ => ⟨rfl, rfl⟩
  | y :: r, h => by
    obtain ⟨a, b⟩ := lay_strs (ys := r) fun z hz => h z (List.mem_cons_of_mem _ hz)
    constructor
    · rw [List.map_cons, PyData.canLayAll0, PyData.canLay0, (h y List.mem_cons_self).ok, a]; rfl
    · rw [List.map_cons, PyData.depthAll, b]; rfl
theorem shaped_strs {ys : List Str} (h : ∀ y ∈ ys, Asc y) : SeqAt.shaped (.list (ys.map .str)) = true := by
  obtain ⟨a, b⟩ := lay_strs h
  unfold SeqAt.shaped
  rw [PyData.canLay0, PyData.depth, a, b]
  rfl
theorem eq_empty {A : IH} {m k : Nat} {ys : List Str} (h : A[m]? = some (.lst (ys.map .str))) (hk : A[k]? = some (.lst [])) (ha : ∀ y ∈ ys, Asc y) : eqI (.ref m) (.ref k) A = some ys.isEmpty := by
  unfold eqI
  rw [toD_strs h, toD_strs (ys := []) hk]
  dsimp only
  rw [shaped_strs ha, shaped_strs (ys := []) (by simp)]
  cases ys with
  | nil => rfl
  | cons y r => rfl
end LF.Pl
set_option Elab.async false
set_option linter.all false
set_option maxHeartbeats 4000000
set_option maxRecDepth 100000
/-! The law's reading of a word. -/
namespace LF.Pl
open PySem
def badS (z x : Str) : List Str := (x.cps.toList.filter fun c => !decide (c ∈ z.cps.toList)).map fun c => ⟨#[c]⟩
theorem badS_empty (z x : Str) : (badS z x).isEmpty = allIn z x := by
  unfold badS allIn
  generalize x.cps.toList = l
  induction l with
  | nil => rfl
  | cons c r ih =>
    rw [List.filter_cons, List.all_cons]
    cases decide (c ∈ z.cps.toList) with
    | true => simpa using ih
    | false => rfl
theorem badS_asc {z x : Str} (h : Asc x) : ∀ y ∈ badS z x, Asc y := by
  intro y hy
  obtain ⟨c, hc, rfl⟩ := List.mem_map.mp hy
  intro d hd
  rw [show d = c from List.mem_singleton.mp hd]
  exact h c (List.mem_filter.mp hc).1
theorem notIn_lc {P : Prg} {C : Cal} {x z : Str} {ρ : Fr} {A : IH} {i j : Nat} (hj : ρ[j]? = some (some (.str x))) (hi : i < ρ.length) (hl : x.length ≤ LIM) :
    evE P C (.lc (.var i) (.nm i) (.val (.var j)) (.some (.cmp .notin (.var i) (.str z))) [i]) ρ A = .ok (.ref A.length) (A ++ [.lst ((badS z x).map .str)]) := by
  simp only [e_lc, q_val, e_var, hj, gV_some, bind_ok, qI_str, wipeF]
  rw [lc_fix0 (g := fun v => match v with | .str y => if (!decide (y.cps.getD 0 0 ∈ z.cps.toList)) = true then some (.str y) else none | _ => none)]
  · congr 4
    unfold signL badS
    rw [List.filterMap_map, List.map_map]
    generalize x.cps.toList = l
    induction l with
    | nil => rfl
    | cons c r ih =>
      rw [List.filterMap_cons, List.filter_cons]
      simp only [Function.comp_def]
      simp only [Function.comp_def] at ih
      by_cases h : c ∈ z.cps.toList
      · have h2 : ((⟨#[c]⟩ : Str).cps.getD 0 0 ∈ z.cps.toList) = True := eq_true h
        simp only [h2, decide_true, Bool.not_true, Bool.false_eq_true, if_false, decide_eq_true h]
        exact ih
      · have h2 : ((⟨#[c]⟩ : Str).cps.getD 0 0 ∈ z.cps.toList) = False := eq_false h
        simp only [h2, decide_false, Bool.not_false, if_true, decide_eq_false h, List.map_cons]
        rw [ih]
  · intro v hv acc
    obtain ⟨c, _, rfl⟩ := List.mem_map.mp hv
    have h1 : i < (ρ.set i none).length := by rw [List.length_set]; exact hi
    have hno : cmpI .notin (.str ⟨#[c]⟩) (.str z) (A ++ [IO.lst acc]) = .ok (.bl (!decide (c ∈ z.cps.toList))) (A ++ [IO.lst acc]) := rfl
    simp only [stG_nm, h1, if_true, oG_some, t_some, bind_ok, e_cmp, e_var, List.set_set, List.getElem?_set_self hi, gV_some, e_str, hno, tI_bl]
    show _ = Rs.ok (if (!decide (c ∈ z.cps.toList)) = true then some (IV.str ⟨#[c]⟩) else none) _
    cases (!decide (c ∈ z.cps.toList)) <;> rfl
  · rw [signs_len]
    exact hl
theorem cmpE_eq (v w : IV) (A : IH) : cmpI .eq v w A = optB (eqI v w A) A := rfl
theorem cmpE_ne (v w : IV) (A : IH) : cmpI .ne v w A = optB ((eqI v w A).map (!·)) A := rfl
theorem ne_empty {A : IH} {m k : Nat} {ys : List Str} (h : A[m]? = some (.lst (ys.map .str))) (hk : A[k]? = some (.lst [])) (ha : ∀ y ∈ ys, Asc y) : cmpI .ne (.ref m) (.ref k) A = .ok (.bl (!ys.isEmpty)) A := by
  rw [cmpE_ne, eq_empty h hk ha]; rfl
theorem eq_emptyC {A : IH} {m k : Nat} {ys : List Str} (h : A[m]? = some (.lst (ys.map .str))) (hk : A[k]? = some (.lst [])) (ha : ∀ y ∈ ys, Asc y) : cmpI .eq (.ref m) (.ref k) A = .ok (.bl ys.isEmpty) A := by
  rw [cmpE_eq, eq_empty h hk ha]; rfl
theorem allIn_digs' (x : Str) : allIn digs x = (TL.tl x).all isD := by
  unfold allIn
  exact allIn_digs x
/-- _law_figures -/
theorem f19 (n : Nat) (A : IH) (x : Str) (hl : x.length ≤ LIM) (hx : Asc x) : ∃ A' m, callI prg (n + 1) 19 [.str x] A = .ok (.ref m) A' ∧ Gr A A' ∧ A'[m]? = some (.lst (oL (if isF x then some (.int (dV (TL.tl x))) else none))) ∧ A.length ≤ m := by
  rw [call_eq (d := ⟨1, 2, b19⟩) rfl rfl]
  have hlc := fun C => notIn_lc (P := prg) (C := C) (x := x) (z := "0123456789") (ρ := [some (.str x), none]) (A := A) (i := 1) (j := 0) rfl (by simp) hl
  have hlen := TL.len_tl x
  by_cases h : 1 ≤ x.length ∧ x.length ≤ 12
  · have h1 : decide ((0 : Int) < (x.length : Int)) = true := decide_eq_true (by omega)
    have h2 : decide ((x.length : Int) < 13) = true := decide_eq_true (by omega)
    have he := ne_empty (A := A ++ [.lst ((badS "0123456789" x).map .str)] ++ [.lst []]) (m := A.length) (k := (A ++ [IO.lst ((badS "0123456789" x).map .str)]).length) (ys := badS "0123456789" x) (by rw [List.append_assoc]; simp) (at_new _ _) (badS_asc hx)
    rw [badS_empty, show allIn "0123456789" x = (TL.tl x).all isD from allIn_digs' x] at he
    rw [hlen] at h
    cases hc : TL.tl x with
    | nil => rw [hc] at h; simp at h
    | cons c r =>
      have hcA : Asc ⟨#[c]⟩ := fun d hd => by
        rw [show d = c from List.mem_singleton.mp hd]
        exact hx c (by rw [hc]; exact List.mem_cons_self)
      rw [hc] at h he
      have h' : decide (1 ≤ (c :: r).length ∧ (c :: r).length ≤ 12) = true := decide_eq_true h
      have hF : isF x = ((c :: r).all isD && (decide (c :: r = [48]) || !decide (c = 48))) := by
        unfold isF isFL
        rw [hc, h', Bool.true_and]
        simp
      cases ha : (c :: r).all isD with
      | true =>
        rw [ha] at he hF
        by_cases h0 : c :: r = [48]
        · have hf : isF x = true := by rw [hF, decide_eq_true h0]; rfl
          simp only [onB_bl, bind_ok, bind_ex, bind_ite, onS_bl, on_ok, on_ex, on_ite, next_nx, next_rt, next_ct, next_ex, next_ite, e_non, e_bl, e_int, e_str, gV_some, e_var, optR_some, e_gco, e_tup, e_lst, e_bin, negI_int, e_neg, e_cmp, e_chain, notI_bl, e_not, e_and, e_or, e_ite, e_ix, e_sl, e_call, e_bi, e_me, optB_some, e_isi, attI_exc, e_att, oG_some, gD_some, e_gin, e_gix, e_gget, o_no, oI_int, o_some, t_no, tI_bl, t_some, es_nil, es_cons, qI_tup, qI_str, qI_ref, q_val, rI_int, q_rng, enI_ref, q_enum, oS_some, s_asg', s_par', s_setix', s_expr', s_ret', s_ite', s_for', s_cont', s_raise', ss_nil', ss_cons', stG_nm, stG_tp, stGs_nil, stGs_cons, fin_rt, fin_nx, fin_ex, fin_ite, List.getElem?_cons_zero, List.getElem?_cons_succ, List.set_cons_zero, List.set_cons_succ, List.length_cons, List.length_nil, List.length_set, List.replicate, if_true, if_false, Bool.not_true, Bool.not_false, Bool.false_eq_true, Bool.and_true, Bool.true_and, Bool.and_false, Bool.false_and, Bool.or_true, Bool.true_or, Bool.or_false, Bool.false_or, decide_true, decide_false, Option.bind_some, Option.isSome_some, List.nil_append, List.cons_append, List.append_nil, startF_one, startF_two, permute_one, permute_two, le_int, lt_int, gt_int, ge_int, add_int, sub_int, not_true_eq_false, not_false_eq_true, and_self, and_true, true_and, or_true, true_or, ite_self, b19, biLen_str hl, h1, h2, hlc, lim00, newL_eq, he, cmp_eq _ hx aZero, eq0_iff, hc, decide_eq_true h0, lim1, hf]
          rw [← hc, int_fig _ (show isFL (TL.tl x) = true from hf)]
          simp only [onB_bl, bind_ok, bind_ex, bind_ite, onS_bl, on_ok, on_ex, on_ite, next_nx, next_rt, next_ct, next_ex, next_ite, e_non, e_bl, e_int, e_str, gV_some, e_var, optR_some, e_gco, e_tup, e_lst, e_bin, negI_int, e_neg, e_cmp, e_chain, notI_bl, e_not, e_and, e_or, e_ite, e_ix, e_sl, e_call, e_bi, e_me, optB_some, e_isi, attI_exc, e_att, oG_some, gD_some, e_gin, e_gix, e_gget, o_no, oI_int, o_some, t_no, tI_bl, t_some, es_nil, es_cons, qI_tup, qI_str, qI_ref, q_val, rI_int, q_rng, enI_ref, q_enum, oS_some, s_asg', s_par', s_setix', s_expr', s_ret', s_ite', s_for', s_cont', s_raise', ss_nil', ss_cons', stG_nm, stG_tp, stGs_nil, stGs_cons, fin_rt, fin_nx, fin_ex, fin_ite, List.getElem?_cons_zero, List.getElem?_cons_succ, List.set_cons_zero, List.set_cons_succ, List.length_cons, List.length_nil, List.length_set, List.replicate, if_true, if_false, Bool.not_true, Bool.not_false, Bool.false_eq_true, Bool.and_true, Bool.true_and, Bool.and_false, Bool.false_and, Bool.or_true, Bool.true_or, Bool.or_false, Bool.false_or, decide_true, decide_false, Option.bind_some, Option.isSome_some, List.nil_append, List.cons_append, List.append_nil, startF_one, startF_two, permute_one, permute_two, le_int, lt_int, gt_int, ge_int, add_int, sub_int, not_true_eq_false, not_false_eq_true, and_self, and_true, true_and, or_true, true_or, ite_self, lim1, newL_eq]
          exact ⟨_, _, rfl, ((Gr.new _ _).snoc _).snoc _, at_new _ _, by first | exact Nat.le_refl _ | (simp only [List.length_append, List.length_cons, List.length_nil]; omega)⟩
        · by_cases h4 : c = 48
          · have hf : isF x = false := by rw [hF, decide_eq_false h0, h4]; rfl
            have h5 : (!decide (c = 48)) = false := by rw [h4]; rfl
            simp only [onB_bl, bind_ok, bind_ex, bind_ite, onS_bl, on_ok, on_ex, on_ite, next_nx, next_rt, next_ct, next_ex, next_ite, e_non, e_bl, e_int, e_str, gV_some, e_var, optR_some, e_gco, e_tup, e_lst, e_bin, negI_int, e_neg, e_cmp, e_chain, notI_bl, e_not, e_and, e_or, e_ite, e_ix, e_sl, e_call, e_bi, e_me, optB_some, e_isi, attI_exc, e_att, oG_some, gD_some, e_gin, e_gix, e_gget, o_no, oI_int, o_some, t_no, tI_bl, t_some, es_nil, es_cons, qI_tup, qI_str, qI_ref, q_val, rI_int, q_rng, enI_ref, q_enum, oS_some, s_asg', s_par', s_setix', s_expr', s_ret', s_ite', s_for', s_cont', s_raise', ss_nil', ss_cons', stG_nm, stG_tp, stGs_nil, stGs_cons, fin_rt, fin_nx, fin_ex, fin_ite, List.getElem?_cons_zero, List.getElem?_cons_succ, List.set_cons_zero, List.set_cons_succ, List.length_cons, List.length_nil, List.length_set, List.replicate, if_true, if_false, Bool.not_true, Bool.not_false, Bool.false_eq_true, Bool.and_true, Bool.true_and, Bool.and_false, Bool.false_and, Bool.or_true, Bool.true_or, Bool.or_false, Bool.false_or, decide_true, decide_false, Option.bind_some, Option.isSome_some, List.nil_append, List.cons_append, List.append_nil, startF_one, startF_two, permute_one, permute_two, le_int, lt_int, gt_int, ge_int, add_int, sub_int, not_true_eq_false, not_false_eq_true, and_self, and_true, true_and, or_true, true_or, ite_self, b19, biLen_str hl, h1, h2, hlc, lim00, newL_eq, he, cmp_eq _ hx aZero, eq0_iff, hc, decide_eq_false h0, lim1, hf, ix0 _ hc hl, cmp_ne _ hcA aZero, sign_eq c "0" 48 tl0, h5]
            exact ⟨_, _, rfl, ((Gr.new _ _).snoc _).snoc _, at_new _ _, by first | exact Nat.le_refl _ | (simp only [List.length_append, List.length_cons, List.length_nil]; omega)⟩
          · have hf : isF x = true := by rw [hF, decide_eq_false h0, decide_eq_false h4]; rfl
            simp only [onB_bl, bind_ok, bind_ex, bind_ite, onS_bl, on_ok, on_ex, on_ite, next_nx, next_rt, next_ct, next_ex, next_ite, e_non, e_bl, e_int, e_str, gV_some, e_var, optR_some, e_gco, e_tup, e_lst, e_bin, negI_int, e_neg, e_cmp, e_chain, notI_bl, e_not, e_and, e_or, e_ite, e_ix, e_sl, e_call, e_bi, e_me, optB_some, e_isi, attI_exc, e_att, oG_some, gD_some, e_gin, e_gix, e_gget, o_no, oI_int, o_some, t_no, tI_bl, t_some, es_nil, es_cons, qI_tup, qI_str, qI_ref, q_val, rI_int, q_rng, enI_ref, q_enum, oS_some, s_asg', s_par', s_setix', s_expr', s_ret', s_ite', s_for', s_cont', s_raise', ss_nil', ss_cons', stG_nm, stG_tp, stGs_nil, stGs_cons, fin_rt, fin_nx, fin_ex, fin_ite, List.getElem?_cons_zero, List.getElem?_cons_succ, List.set_cons_zero, List.set_cons_succ, List.length_cons, List.length_nil, List.length_set, List.replicate, if_true, if_false, Bool.not_true, Bool.not_false, Bool.false_eq_true, Bool.and_true, Bool.true_and, Bool.and_false, Bool.false_and, Bool.or_true, Bool.true_or, Bool.or_false, Bool.false_or, decide_true, decide_false, Option.bind_some, Option.isSome_some, List.nil_append, List.cons_append, List.append_nil, startF_one, startF_two, permute_one, permute_two, le_int, lt_int, gt_int, ge_int, add_int, sub_int, not_true_eq_false, not_false_eq_true, and_self, and_true, true_and, or_true, true_or, ite_self, b19, biLen_str hl, h1, h2, hlc, lim00, newL_eq, he, cmp_eq _ hx aZero, eq0_iff, hc, decide_eq_false h0, lim1, hf, ix0 _ hc hl, cmp_ne _ hcA aZero, sign_eq c "0" 48 tl0, decide_eq_false h4]
            rw [← hc, int_fig _ (show isFL (TL.tl x) = true from hf)]
            simp only [onB_bl, bind_ok, bind_ex, bind_ite, onS_bl, on_ok, on_ex, on_ite, next_nx, next_rt, next_ct, next_ex, next_ite, e_non, e_bl, e_int, e_str, gV_some, e_var, optR_some, e_gco, e_tup, e_lst, e_bin, negI_int, e_neg, e_cmp, e_chain, notI_bl, e_not, e_and, e_or, e_ite, e_ix, e_sl, e_call, e_bi, e_me, optB_some, e_isi, attI_exc, e_att, oG_some, gD_some, e_gin, e_gix, e_gget, o_no, oI_int, o_some, t_no, tI_bl, t_some, es_nil, es_cons, qI_tup, qI_str, qI_ref, q_val, rI_int, q_rng, enI_ref, q_enum, oS_some, s_asg', s_par', s_setix', s_expr', s_ret', s_ite', s_for', s_cont', s_raise', ss_nil', ss_cons', stG_nm, stG_tp, stGs_nil, stGs_cons, fin_rt, fin_nx, fin_ex, fin_ite, List.getElem?_cons_zero, List.getElem?_cons_succ, List.set_cons_zero, List.set_cons_succ, List.length_cons, List.length_nil, List.length_set, List.replicate, if_true, if_false, Bool.not_true, Bool.not_false, Bool.false_eq_true, Bool.and_true, Bool.true_and, Bool.and_false, Bool.false_and, Bool.or_true, Bool.true_or, Bool.or_false, Bool.false_or, decide_true, decide_false, Option.bind_some, Option.isSome_some, List.nil_append, List.cons_append, List.append_nil, startF_one, startF_two, permute_one, permute_two, le_int, lt_int, gt_int, ge_int, add_int, sub_int, not_true_eq_false, not_false_eq_true, and_self, and_true, true_and, or_true, true_or, ite_self, lim1, newL_eq]
            exact ⟨_, _, rfl, ((Gr.new _ _).snoc _).snoc _, at_new _ _, by first | exact Nat.le_refl _ | (simp only [List.length_append, List.length_cons, List.length_nil]; omega)⟩
      | false =>
        rw [ha] at he hF
        have hf : isF x = false := by rw [hF]; rfl
        simp only [onB_bl, bind_ok, bind_ex, bind_ite, onS_bl, on_ok, on_ex, on_ite, next_nx, next_rt, next_ct, next_ex, next_ite, e_non, e_bl, e_int, e_str, gV_some, e_var, optR_some, e_gco, e_tup, e_lst, e_bin, negI_int, e_neg, e_cmp, e_chain, notI_bl, e_not, e_and, e_or, e_ite, e_ix, e_sl, e_call, e_bi, e_me, optB_some, e_isi, attI_exc, e_att, oG_some, gD_some, e_gin, e_gix, e_gget, o_no, oI_int, o_some, t_no, tI_bl, t_some, es_nil, es_cons, qI_tup, qI_str, qI_ref, q_val, rI_int, q_rng, enI_ref, q_enum, oS_some, s_asg', s_par', s_setix', s_expr', s_ret', s_ite', s_for', s_cont', s_raise', ss_nil', ss_cons', stG_nm, stG_tp, stGs_nil, stGs_cons, fin_rt, fin_nx, fin_ex, fin_ite, List.getElem?_cons_zero, List.getElem?_cons_succ, List.set_cons_zero, List.set_cons_succ, List.length_cons, List.length_nil, List.length_set, List.replicate, if_true, if_false, Bool.not_true, Bool.not_false, Bool.false_eq_true, Bool.and_true, Bool.true_and, Bool.and_false, Bool.false_and, Bool.or_true, Bool.true_or, Bool.or_false, Bool.false_or, decide_true, decide_false, Option.bind_some, Option.isSome_some, List.nil_append, List.cons_append, List.append_nil, startF_one, startF_two, permute_one, permute_two, le_int, lt_int, gt_int, ge_int, add_int, sub_int, not_true_eq_false, not_false_eq_true, and_self, and_true, true_and, or_true, true_or, ite_self, b19, biLen_str hl, h1, h2, hlc, lim00, newL_eq, he, hf]
        exact ⟨_, _, rfl, ((Gr.new _ _).snoc _).snoc _, at_new _ _, by first | exact Nat.le_refl _ | (simp only [List.length_append, List.length_cons, List.length_nil]; omega)⟩
  · have hf : isF x = false := by
      unfold isF isFL
      rw [← hlen, decide_eq_false h, Bool.false_and]
    by_cases h1 : (0 : Int) < (x.length : Int)
    · have h2 : decide ((x.length : Int) < 13) = false := decide_eq_false (by omega)
      simp only [onB_bl, bind_ok, bind_ex, bind_ite, onS_bl, on_ok, on_ex, on_ite, next_nx, next_rt, next_ct, next_ex, next_ite, e_non, e_bl, e_int, e_str, gV_some, e_var, optR_some, e_gco, e_tup, e_lst, e_bin, negI_int, e_neg, e_cmp, e_chain, notI_bl, e_not, e_and, e_or, e_ite, e_ix, e_sl, e_call, e_bi, e_me, optB_some, e_isi, attI_exc, e_att, oG_some, gD_some, e_gin, e_gix, e_gget, o_no, oI_int, o_some, t_no, tI_bl, t_some, es_nil, es_cons, qI_tup, qI_str, qI_ref, q_val, rI_int, q_rng, enI_ref, q_enum, oS_some, s_asg', s_par', s_setix', s_expr', s_ret', s_ite', s_for', s_cont', s_raise', ss_nil', ss_cons', stG_nm, stG_tp, stGs_nil, stGs_cons, fin_rt, fin_nx, fin_ex, fin_ite, List.getElem?_cons_zero, List.getElem?_cons_succ, List.set_cons_zero, List.set_cons_succ, List.length_cons, List.length_nil, List.length_set, List.replicate, if_true, if_false, Bool.not_true, Bool.not_false, Bool.false_eq_true, Bool.and_true, Bool.true_and, Bool.and_false, Bool.false_and, Bool.or_true, Bool.true_or, Bool.or_false, Bool.false_or, decide_true, decide_false, Option.bind_some, Option.isSome_some, List.nil_append, List.cons_append, List.append_nil, startF_one, startF_two, permute_one, permute_two, le_int, lt_int, gt_int, ge_int, add_int, sub_int, not_true_eq_false, not_false_eq_true, and_self, and_true, true_and, or_true, true_or, ite_self, b19, biLen_str hl, decide_eq_true h1, h2, lim00, newL_eq, hf]
      exact ⟨_, _, rfl, Gr.new _ _, at_new _ _, by first | exact Nat.le_refl _ | (simp only [List.length_append, List.length_cons, List.length_nil]; omega)⟩
    · simp only [onB_bl, bind_ok, bind_ex, bind_ite, onS_bl, on_ok, on_ex, on_ite, next_nx, next_rt, next_ct, next_ex, next_ite, e_non, e_bl, e_int, e_str, gV_some, e_var, optR_some, e_gco, e_tup, e_lst, e_bin, negI_int, e_neg, e_cmp, e_chain, notI_bl, e_not, e_and, e_or, e_ite, e_ix, e_sl, e_call, e_bi, e_me, optB_some, e_isi, attI_exc, e_att, oG_some, gD_some, e_gin, e_gix, e_gget, o_no, oI_int, o_some, t_no, tI_bl, t_some, es_nil, es_cons, qI_tup, qI_str, qI_ref, q_val, rI_int, q_rng, enI_ref, q_enum, oS_some, s_asg', s_par', s_setix', s_expr', s_ret', s_ite', s_for', s_cont', s_raise', ss_nil', ss_cons', stG_nm, stG_tp, stGs_nil, stGs_cons, fin_rt, fin_nx, fin_ex, fin_ite, List.getElem?_cons_zero, List.getElem?_cons_succ, List.set_cons_zero, List.set_cons_succ, List.length_cons, List.length_nil, List.length_set, List.replicate, if_true, if_false, Bool.not_true, Bool.not_false, Bool.false_eq_true, Bool.and_true, Bool.true_and, Bool.and_false, Bool.false_and, Bool.or_true, Bool.true_or, Bool.or_false, Bool.false_or, decide_true, decide_false, Option.bind_some, Option.isSome_some, List.nil_append, List.cons_append, List.append_nil, startF_one, startF_two, permute_one, permute_two, le_int, lt_int, gt_int, ge_int, add_int, sub_int, not_true_eq_false, not_false_eq_true, and_self, and_true, true_and, or_true, true_or, ite_self, b19, biLen_str hl, decide_eq_false h1, lim00, newL_eq, hf]
      exact ⟨_, _, rfl, Gr.new _ _, at_new _ _, by first | exact Nat.le_refl _ | (simp only [List.length_append, List.length_cons, List.length_nil]; omega)⟩
end LF.Pl
set_option Elab.async false
set_option linter.all false
set_option maxHeartbeats 4000000
set_option maxRecDepth 100000
/-! Turns, by what stays. -/
namespace LF.Pl
open PySem
theorem Gr.set {A B : IH} (h : Gr A B) {d : Nat} (hd : A.length ≤ d) (o : IO) : Gr A (B.set d o) := by
  obtain ⟨x, rfl⟩ := h
  rw [List.set_append_right _ _ hd]
  exact ⟨_, rfl⟩
theorem get_set_ne {A : IH} {d n : Nat} {o u : IO} (h : A[n]? = some u) (ne : n ≠ d) : (A.set d o)[n]? = some u := by
  rw [List.getElem?_set_ne (Ne.symm ne)]
  exact h
theorem get_set_eq {A : IH} {d : Nat} {o u : IO} (h : A[d]? = some u) : (A.set d o)[d]? = some o := List.getElem?_set_self (List.getElem?_eq_some_iff.mp h).1
theorem set_same {A : IH} {d : Nat} {o : IO} (h : A[d]? = some o) : A.set d o = A := by
  obtain ⟨hlt, e⟩ := List.getElem?_eq_some_iff.mp h
  rw [← e]
  exact List.set_getElem_self hlt
theorem lc_inv {f : IV → IH → Rs (Option IV)} {q : Sq} {d N : Nat} (I : Nat → List IV → IH → Prop) (hN : N ≤ LIM)
    (step : ∀ i acc A, i < N → I i acc A → A[d]? = some (.lst acc) → ∃ x, q.item i A = some (some x) ∧ ∃ r A', f x A = .ok r A' ∧ A'[d]? = some (.lst acc) ∧ I (i + 1) (acc ++ r.toList) (A'.set d (.lst (acc ++ r.toList))))
    (stop : ∀ acc A, I N acc A → q.item N A = some none) : ∀ (m i k : Nat) (acc : List IV) (A : IH), N - i = m → i ≤ N → m < k → acc.length ≤ i → I i acc A → A[d]? = some (.lst acc) →
      ∃ acc' A', lcGo f q d k i A = .ok (.ref d) A' ∧ I N acc' A' ∧ A'[d]? = some (.lst acc') := by
  intro m
  induction m with
  | zero =>
    intro i k acc A hm hi hk ha h hd
    obtain rfl : i = N := by omega
    obtain ⟨k, rfl⟩ : ∃ j, k = j + 1 := ⟨k - 1, by omega⟩
    rw [lcGo_step, stop acc A h]
    exact ⟨acc, A, rfl, h, hd⟩
  | succ m ih =>
    intro i k acc A hm hi hk ha h hd
    obtain ⟨k, rfl⟩ : ∃ j, k = j + 1 := ⟨k - 1, by omega⟩
    obtain ⟨x, e1, r, A', e2, e3, h2⟩ := step i acc A (by omega) h hd
    rw [lcGo_step, e1]
    dsimp only
    rw [e2, bind_ok]
    cases r with
    | none =>
      simp only [Option.toList_none, List.append_nil] at h2
      rw [set_same e3] at h2
      exact ih (i + 1) k acc A' (by omega) (by omega) (by omega) (by omega) h2 e3
    | some y =>
      dsimp only
      rw [e3]
      dsimp only
      rw [if_pos (by omega)]
      exact ih (i + 1) k (acc ++ [y]) _ (by omega) (by omega) (by omega) (by simp; omega) h2 (get_set_eq e3)
theorem lc_inv0 {f : IV → IH → Rs (Option IV)} {q : Sq} {N : Nat} (I : Nat → List IV → IH → Prop) (hN : N ≤ LIM) {A : IH}
    (step : ∀ i acc B, i < N → I i acc B → B[A.length]? = some (.lst acc) → ∃ x, q.item i B = some (some x) ∧ ∃ r A', f x B = .ok r A' ∧ A'[A.length]? = some (.lst acc) ∧ I (i + 1) (acc ++ r.toList) (A'.set A.length (.lst (acc ++ r.toList))))
    (stop : ∀ acc A, I N acc A → q.item N A = some none) (h0 : I 0 [] (A ++ [.lst []])) :
    ∃ acc' A', lcGo f q A.length (LIM + 1) 0 (A ++ [.lst []]) = .ok (.ref A.length) A' ∧ I N acc' A' ∧ A'[A.length]? = some (.lst acc') :=
  lc_inv I hN step stop N 0 (LIM + 1) [] _ (by omega) (by omega) (by omega) (by simp) h0 (at_new _ _)
/-- a for's turns: on, or out by Z -/
theorem for_inv {f : IV → Fr → IH → SR} {q : Sq} {N : Nat} (I : Nat → Fr → IH → Prop) (Z : SR → Prop) (hN : N ≤ LIM)
    (step : ∀ i ρ A, i < N → I i ρ A → ∃ x, q.item i A = some (some x) ∧ ((∃ ρ' A', (f x ρ A = .nx ρ' A' ∨ f x ρ A = .ct ρ' A') ∧ I (i + 1) ρ' A') ∨ (Z (f x ρ A) ∧ ((∃ v B, f x ρ A = .rt v B) ∨ ∃ C fs ρ' B, f x ρ A = .ex C fs ρ' B))))
    (stop : ∀ ρ A, I N ρ A → q.item N A = some none) : ∀ (m i k : Nat) (ρ : Fr) (A : IH), N - i = m → i ≤ N → m < k → I i ρ A →
      (∃ ρ' A', forGo f q k i ρ A = .nx ρ' A' ∧ I N ρ' A') ∨ (Z (forGo f q k i ρ A) ∧ ((∃ v B, forGo f q k i ρ A = .rt v B) ∨ ∃ C fs ρ' B, forGo f q k i ρ A = .ex C fs ρ' B)) := by
  intro m
  induction m with
  | zero =>
    intro i k ρ A hm hi hk h
    obtain rfl : i = N := by omega
    obtain ⟨k, rfl⟩ : ∃ j, k = j + 1 := ⟨k - 1, by omega⟩
    rw [forGo, stop ρ A h]
    exact .inl ⟨ρ, A, rfl, h⟩
  | succ m ih =>
    intro i k ρ A hm hi hk h
    obtain ⟨k, rfl⟩ : ∃ j, k = j + 1 := ⟨k - 1, by omega⟩
    obtain ⟨x, e1, c⟩ := step i ρ A (by omega) h
    rw [forGo, e1]
    dsimp only
    rcases c with ⟨ρ', A', e2 | e2, h2⟩ | ⟨z, e2⟩
    · rw [e2]
      exact ih (i + 1) k ρ' A' (by omega) (by omega) (by omega) h2
    · rw [e2]
      exact ih (i + 1) k ρ' A' (by omega) (by omega) (by omega) h2
    · refine .inr ?_
      rcases e2 with ⟨v, B, e2⟩ | ⟨C, fs, ρ', B, e2⟩
      · rw [e2] at z ⊢
        exact ⟨z, .inl ⟨v, B, rfl⟩⟩
      · rw [e2] at z ⊢
        exact ⟨z, .inr ⟨C, fs, ρ', B, rfl⟩⟩
theorem for_inv0 {f : IV → Fr → IH → SR} {q : Sq} {N : Nat} (I : Nat → Fr → IH → Prop) (Z : SR → Prop) (hN : N ≤ LIM) {ρ : Fr} {A : IH}
    (step : ∀ i ρ A, i < N → I i ρ A → ∃ x, q.item i A = some (some x) ∧ ((∃ ρ' A', (f x ρ A = .nx ρ' A' ∨ f x ρ A = .ct ρ' A') ∧ I (i + 1) ρ' A') ∨ (Z (f x ρ A) ∧ ((∃ v B, f x ρ A = .rt v B) ∨ ∃ C fs ρ' B, f x ρ A = .ex C fs ρ' B))))
    (stop : ∀ ρ A, I N ρ A → q.item N A = some none) (h0 : I 0 ρ A) :
      (∃ ρ' A', forGo f q (LIM + 1) 0 ρ A = .nx ρ' A' ∧ I N ρ' A') ∨ (Z (forGo f q (LIM + 1) 0 ρ A) ∧ ((∃ v B, forGo f q (LIM + 1) 0 ρ A = .rt v B) ∨ ∃ C fs ρ' B, forGo f q (LIM + 1) 0 ρ A = .ex C fs ρ' B)) :=
  for_inv I Z hN step stop N 0 (LIM + 1) ρ A (by omega) (by omega) (by omega) h0
/-! ### dict displays -/
def dctI (o : Option IO) (ks : List Str) (vs : List IV) (m : Nat) (A : IH) : Rs IV := match o with
  | some (.dct []) => if ks.length = vs.length ∧ vs.length ≤ 15 then .ok (.ref m) (A.set m (.dct (mergeD [] (ks.zip vs)))) else .bad
  | _ => .bad
theorem e_dct (P : Prg) (C : Cal) (ρ : Fr) (A : IH) (ks : List Str) (es : CEs) : evE P C (.dct ks es) ρ A = (evEs P C es ρ (A ++ [.dct []])).bind fun vs A' => dctI A'[A.length]? ks vs A.length A' := by
  rw [evE]
  rfl
theorem dctI_ok {ks : List Str} {vs : List IV} {A : IH} (h : ks.length = vs.length ∧ vs.length ≤ 15) : dctI (A ++ [.dct []])[A.length]? ks vs A.length (A ++ [.dct []]) = .ok (.ref A.length) (A ++ [.dct (mergeD [] (ks.zip vs))]) := by
  rw [at_new]
  show (if ks.length = vs.length ∧ vs.length ≤ 15 then _ else _) = _
  rw [if_pos h, set_last]
end LF.Pl
set_option Elab.async false
set_option linter.all false
set_option maxHeartbeats 4000000
set_option maxRecDepth 100000
/-! The law's reading of a word. -/
namespace LF.Pl
open PySem
theorem listOf_lst {A : IH} {n : Nat} {xs : List IV} (h : A[n]? = some (.lst xs)) : listOf A n = some xs := by unfold listOf; rw [h]
def figO (y : Str) : Option IV := if isF y then some (.int (dV (TL.tl y))) else none
theorem recv_split (x : Str) (A : IH) : recvI .split (.str x) A = true := rfl
theorem me_split {x y : Str} (A : IH) (hy : y.length ≠ 0) (hl : x.length ≤ LIM) : meI .split (.str x) [.str y] A = .ok (.ref A.length) (A ++ [.lst ((Txt.split x y).map .str)]) := by
  show (if y.length ≠ 0 ∧ x.length ≤ LIM then _ else _) = _
  rw [if_pos ⟨hy, hl⟩]
  rfl
theorem split_tl (x : Str) {y : Str} {s : Nat} (hy : TL.tl y = [s]) (hs : s < 256) : (Txt.split x y).map TL.tl = TL.spl [s] 0 [] (TL.tl x) := by
  rw [TL.split_spl x y (by rw [hy]; simp) (TL.kind_ok ?_), hy]
  rw [← Array.all_toList, show y.cps.toList = [s] from hy]
  simpa using hs
theorem spl_mem (s : Nat) : ∀ (l acc : List Nat) (p : List Nat), p ∈ TL.spl [s] 0 acc l → ∀ c ∈ p, c ∈ acc ∨ c ∈ l
  | [], acc, p, h, c, hc => by
    rw [TL.spl_nil] at h
    rw [List.mem_singleton.mp h] at hc
    exact .inl hc
  | a :: l, acc, p, h, c, hc => by
    by_cases e : TL.pre [s] (a :: l) = true
    · rw [TL.spl_hit e] at h
      rcases List.mem_cons.mp h with h | h
      · rw [h] at hc
        exact .inl hc
      · rcases spl_mem s l [] p h c hc with h2 | h2
        · cases h2
        · exact .inr (List.mem_cons_of_mem _ h2)
    · rw [TL.spl_miss (by simpa using e)] at h
      rcases spl_mem s l (acc ++ [a]) p h c hc with h2 | h2
      · rcases List.mem_append.mp h2 with h3 | h3
        · exact .inl h3
        · exact .inr (by rw [List.mem_singleton.mp h3]; exact List.mem_cons_self)
      · exact .inr (List.mem_cons_of_mem _ h2)
theorem split_asc {x y : Str} {s : Nat} (hy : TL.tl y = [s]) (hs : s < 256) (hx : Asc x) : ∀ z ∈ Txt.split x y, Asc z := by
  intro z hz c hc
  have h1 : TL.tl z ∈ TL.spl [s] 0 [] (TL.tl x) := by rw [← split_tl x hy hs]; exact List.mem_map_of_mem hz
  rcases spl_mem s _ _ _ h1 c hc with h | h
  · cases h
  · exact hx c h
theorem spl_len (s : Nat) : ∀ (l acc : List Nat), (TL.spl [s] 0 acc l).length ≤ l.length + 1 ∧ 1 ≤ (TL.spl [s] 0 acc l).length ∧ ∀ p ∈ TL.spl [s] 0 acc l, p.length ≤ acc.length + l.length
  | [], acc => by
    rw [TL.spl_nil]
    exact ⟨by simp, by simp, fun p hp => by rw [List.mem_singleton.mp hp]; simp⟩
  | a :: l, acc => by
    by_cases e : TL.pre [s] (a :: l) = true
    · rw [TL.spl_hit e]
      obtain ⟨h1, h2, h3⟩ := spl_len s l []
      refine ⟨by simp at h1 ⊢; omega, by simp, fun p hp => ?_⟩
      rcases List.mem_cons.mp hp with h | h
      · rw [h]; omega
      · have := h3 p h
        simp at this ⊢
        omega
    · rw [TL.spl_miss (by simpa using e)]
      obtain ⟨h1, h2, h3⟩ := spl_len s l (acc ++ [a])
      refine ⟨by simp at h1 ⊢; omega, h2, fun p hp => ?_⟩
      have := h3 p hp
      simp at this ⊢
      omega
theorem split_len {x y : Str} {s : Nat} (hy : TL.tl y = [s]) (hs : s < 256) : (Txt.split x y).length ≤ x.length + 1 ∧ 1 ≤ (Txt.split x y).length ∧ ∀ z ∈ Txt.split x y, z.length ≤ x.length := by
  have e := split_tl x hy hs
  obtain ⟨h1, h2, h3⟩ := spl_len s (TL.tl x) []
  have hl := TL.len_tl x
  rw [← e, List.length_map] at h1 h2
  refine ⟨by omega, h2, fun z hz => ?_⟩
  have := h3 (TL.tl z) (by rw [← e]; exact List.mem_map_of_mem hz)
  rw [List.length_nil, Nat.zero_add] at this
  rw [TL.len_tl z, hl]
  exact this
/-- the parts' figures -/
theorem parts_lc (n : Nat) (A : IH) (x : Str) (ρ : Fr) (h0 : ρ[0]? = some (some (.str x))) (hρ : 3 < ρ.length) (hl : x.length + 1 ≤ LIM) (hx : Asc x) :
    ∃ (A' : IH) (ms : List Nat) (d : Nat), evE prg (callI prg (n + 1)) (.lc (.call 19 (.cons (.var 3) .nil) [] [0]) (.nm 3) (.val (.me .split (.sl (.var 0) (.some (.int 1)) .no) (.cons (.str ".") .nil))) .no [3]) ρ A = .ok (.ref d) A' ∧ Gr A A' ∧ A'[d]? = some (.lst (ms.map .ref)) ∧
      ms.length = (Txt.split (tl1 x) ".").length ∧ ∀ (i : Nat) (y : Str), (Txt.split (tl1 x) ".")[i]? = some y → ∃ k : Nat, ms[i]? = some k ∧ A'[k]? = some (.lst (oL (figO y))) := by
  have hl0 : x.length ≤ LIM := by omega
  have hl1 := len_tl1 x
  have hx1 := asc_tl hx
  obtain ⟨s1, s2, s3⟩ := split_len (x := tl1 x) tDot (by decide)
  have sA := split_asc (x := tl1 x) tDot (by decide) hx1
  generalize hys : Txt.split (tl1 x) "." = ys at *
  have hm : meI .split (.str (tl1 x)) [.str "."] A = .ok (.ref A.length) (A ++ [.lst (ys.map .str)]) := by rw [me_split _ len_dot (by omega), hys]
  have hlo : listOf (A ++ [IO.lst (ys.map IV.str)]) A.length = some (ys.map .str) := listOf_lst (at_new _ _)
  simp only [e_lc, q_val, e_me, e_sl, e_var, h0, gV_some, bind_ok, o_some, e_int, oI_int, o_no, sl_tl _ hl0, recv_split, if_true, es_cons, e_str, es_nil, hm, qI_ref, hlo, Option.isSome_some, wipeF]
  generalize hB : A ++ [IO.lst (ys.map IV.str)] = B0
  have gB : Gr A B0 := by rw [← hB]; exact Gr.new _ _
  have eB : B0[A.length]? = some (.lst (ys.map .str)) := by rw [← hB]; exact at_new _ _
  refine Exists.elim (lc_inv0 (q := .live A.length) (N := ys.length) (A := B0)
    (f := fun x A => oG (stG A (.nm 3) x (ρ.set 3 none)) fun ρ' => (evT prg (callI prg (n + 1)) .no ρ' A).bind fun b A => if b = true then (evE prg (callI prg (n + 1)) (.call 19 (.cons (.var 3) .nil) [] [0]) ρ' A).bind fun y A => .ok (some y) A else .ok none A)
    (fun i acc H => Gr B0 H ∧ ∃ ms : List Nat, acc = ms.map .ref ∧ ms.length = i ∧ ∀ (j : Nat) (y : Str), j < i → ys[j]? = some y → ∃ k : Nat, ms[j]? = some k ∧ k ≠ B0.length ∧ H[k]? = some (.lst (oL (figO y)))) (by omega)
    (fun i acc H hi ⟨g, ms, e1, e2, e3⟩ hd => ?_) (fun acc H ⟨g, _⟩ => ?_) ⟨Gr.new _ _, [], rfl, rfl, fun j y hj => absurd hj (by omega)⟩) ?_
  · have hy : ys[i]? = some ys[i] := List.getElem?_eq_getElem hi
    have hmem := List.getElem_mem hi
    obtain ⟨H', m, h1, h2, h3, h4⟩ := f19 n H ys[i] (by have := s3 _ hmem; omega) (sA _ hmem)
    refine ⟨.str ys[i], ?_, some (.ref m), H', ?_, h2.get hd, (g.trans h2).set (Nat.le_refl _) _, ms ++ [m], ?_, ?_, fun j y hj hyj => ?_⟩
    · rw [item_live, listOf_lst (g.get eB)]
      simp
    · have h5 : 3 < (ρ.set 3 none).length := by rw [List.length_set]; exact hρ
      simp only [stG_nm, h5, if_true, oG_some, t_no, bind_ok, e_call, es_cons, e_var, List.set_set, List.getElem?_set_self hρ, gV_some, es_nil, List.append_nil, permute_one, h1]
    · rw [e1]; simp
    · simp [e2]
    · have hdl : B0.length < H.length := (List.getElem?_eq_some_iff.mp hd).1
      by_cases hji : j = i
      · subst hji
        rw [hy] at hyj
        cases hyj
        refine ⟨m, by rw [← e2]; simp, by omega, get_set_ne h3 (by omega)⟩
      · obtain ⟨k, q1, q2, q3⟩ := e3 j y (by omega) hyj
        exact ⟨k, by rw [List.getElem?_append_left (by omega)]; exact q1, q2, get_set_ne (h2.get q3) q2⟩
  · rw [item_live, listOf_lst (g.get eB)]
    simp
  · intro acc ⟨A', r, ⟨g, ms, e1, e2, e3⟩, e4⟩
    refine ⟨A', ms, B0.length, r, gB.trans g, by rw [← e1]; exact e4, e2, fun i y hy => ?_⟩
    obtain ⟨k, h1, _, h2⟩ := e3 i y (List.getElem?_eq_some_iff.mp hy).1 hy
    exact ⟨k, h1, h2⟩
end LF.Pl
set_option Elab.async false
set_option linter.all false
set_option maxHeartbeats 4000000
set_option maxRecDepth 100000
/-! The law's atom is the program's word. -/
namespace LF.Pl
open PySem
theorem eqI_int (i j : Int) (A : IH) : cmpI .eq (.int i) (.int j) A = .ok (.bl (decide (i = j))) A := by
  rw [cmpE_eq]
  unfold eqI
  rw [show toD A (.int i) = some (.int i) from by unfold toD; rw [toW], show toD A (.int j) = some (.int j) from by unfold toD; rw [toW]]
  dsimp only
  rw [show SeqAt.shaped (.int i) = true from rfl, show SeqAt.shaped (.int j) = true from rfl]
  show Rs.ok (IV.bl (PyData.eqv (.int i) (.int j))) A = _
  unfold PyData.eqv
  congr 2
theorem eqF_str (x y : Str) : eqF (.str x) (.str y) = decide (x = y) := by
  show (x == y) = _
  by_cases e : x = y
  · rw [decide_eq_true e, e]; simp
  · rw [decide_eq_false e]; simpa using e
theorem in3 (x : Str) (A : IH) : cmpI .isin (.str x) (.tup [.str "-", .str "+", .str "/"]) A = .ok (.bl (signOf (TL.tl x)).isSome) A := by
  show optB (if flatI (.str x) && [IV.str "-", .str "+", .str "/"].all flatI then some ([IV.str "-", .str "+", .str "/"].any fun y => eqF y (.str x)) else none) A = _
  rw [if_pos (by rfl)]
  show Rs.ok _ A = _
  congr 2
  simp only [List.any_cons, List.any_nil, eqF_str, Bool.or_false]
  have c : ∀ {z : Str} {l : List Nat}, TL.tl z = l → decide (z = x) = decide (TL.tl x = l) := fun {z l} h => by
    rw [← eq_lit x h]
    rw [decide_eq_decide]
    exact ⟨Eq.symm, Eq.symm⟩
  rw [c tMinus, c tPlus, c tSlash]
  unfold signOf
  by_cases h1 : TL.tl x = [45]
  · simp [h1]
  · by_cases h2 : TL.tl x = [43]
    · simp [h2]
    · by_cases h3 : TL.tl x = [47]
      · simp [h3]
      · simp [h1, h2, h3]
theorem merge3 : mergeD [] ((["-", "+", "/"] : List Str).zip [IV.non, .bl true, .bl false]) = ([("-", .non), ("+", .bl true), ("/", .bl false)] : List (Str × IV)) := rfl
theorem ix_dct {A : IH} {n : Nat} {kvs : List (Str × IV)} (k : Str) (h : A[n]? = some (.dct kvs)) : ixI (.ref n) (.str k) A = optR (kvs.lookup k) A := by
  show (match A[n]? with
    | some (.dct kvs) => optR (kvs.lookup k) A
    | _ => .bad) = _
  rw [h]
theorem ix_lst {A : IH} {n : Nat} {xs : List IV} (i : Int) (h : A[n]? = some (.lst xs)) : ixI (.ref n) (.int i) A = optR (L2.atI xs i) A := by
  show (match listOf A n with
    | some xs => optR (L2.atI xs i) A
    | none => .bad) = _
  rw [listOf_lst h]
theorem len_lst {A : IH} {n : Nat} {xs : List IV} (h : A[n]? = some (.lst xs)) : biI .len [.ref n] A = .ok (.int xs.length) A := by
  show (match listOf A n with
    | some xs => Rs.ok (IV.int xs.length) A
    | none => .bad) = _
  rw [listOf_lst h]
theorem oL_fig (y : Str) : ∃ o : Option Int, figO y = o.map .int ∧ o.isSome = isF y := by
  unfold figO
  cases h : isF y with
  | true => exact ⟨some _, rfl, rfl⟩
  | false => exact ⟨none, rfl, rfl⟩
theorem toW_ref (g : Nat → Option PyData) (k : Nat) : toW g (.ref k) = g k := by rw [toW]
theorem refD_o {A : IH} {k j : Nat} (o : Option Int) (h : A[k]? = some (.lst (oL (o.map .int)))) : refD (j + 1) A k = some (.list (o.toList.map .int)) := by
  unfold refD
  rw [h]
  cases o with
  | none => simp only [Option.map_none, oL]; rw [toWs]; rfl
  | some i =>
    simp only [Option.map_some, oL]
    rw [toWs, toW, toWs]
    rfl
/-- [] not in parts, two parts -/
theorem notin2 {A : IH} {e d k1 k2 : Nat} {o1 o2 : Option Int} (he : A[e]? = some (.lst [])) (hd : A[d]? = some (.lst [.ref k1, .ref k2])) (h1 : A[k1]? = some (.lst (oL (o1.map .int)))) (h2 : A[k2]? = some (.lst (oL (o2.map .int)))) :
    cmpI .notin (.ref e) (.ref d) A = .ok (.bl (o1.isSome && o2.isSome)) A := by
  have a : toD A (.ref e) = some (.list []) := by
    unfold toD
    rw [toW_ref]
    exact refD_o (j := 5) none he
  have b : toD A (.ref d) = some (.list [.list (o1.toList.map .int), .list (o2.toList.map .int)]) := by
    unfold toD
    rw [toW_ref]
    unfold refD
    rw [hd]
    dsimp only
    rw [toWs, toWs, toWs, toW_ref, toW_ref, refD_o (j := 4) o1 h1, refD_o (j := 4) o2 h2]
    rfl
  show optB ((match toD A (.ref e), toD A (.ref d) with
    | some d, some (.list ds) => if SeqAt.shaped d && SeqAt.shaped (.list ds) then some (ds.any fun z => PyData.eqv z d) else none
    | _, _ => none).map (!·)) A = _
  rw [a, b]
  cases o1 <;> cases o2 <;> rfl
theorem dv_pos {cs : List Nat} (h : isFL cs = true) : decide ((0 : Int) < dV cs) = !decide (cs = [48]) := by
  by_cases e : cs = [48]
  · rw [e]; rfl
  · rw [decide_eq_false e]
    have h1 := isFL_dig h
    unfold isFL at h
    simp only [Bool.and_eq_true, Bool.or_eq_true, decide_eq_true_eq, Bool.not_eq_true', decide_eq_false_iff_not] at h
    obtain ⟨_, _, h2⟩ := h
    rcases h2 with h2 | h2
    · exact absurd h2 e
    · cases cs with
      | nil => exact absurd rfl h1.2.1
      | cons c r =>
        have hc := h1.1.head
        have hp : 0 < NumText.digitsVal (c :: r) := NumText.digitsVal_pos (by simp at h2; omega)
        exact decide_eq_true (Int.ofNat_lt.mpr hp)
theorem atI0 (v : IV) (r : List IV) : L2.atI (v :: r) 0 = some v := by
  unfold L2.atI L2.ixN
  simp
theorem atI1 (v w : IV) (r : List IV) : L2.atI (v :: w :: r) 1 = some w := by
  unfold L2.atI L2.ixN
  have : (1 : Int) < (r.length : Int) + 1 + 1 := by omega
  simp [this]
/-- the figures of one minus -/
theorem neg_lc (n : Nat) (A : IH) (x : Str) (ρ : Fr) (h0 : ρ[0]? = some (some (.str x))) (hρ : 3 < ρ.length) (hl : x.length ≤ LIM) (hx : Asc x) (h45 : (TL.tl x).head? = some 45) :
    ∃ (A' : IH) (m : Nat), evE prg (callI prg (n + 1)) (.lc (.bin .sub (.int 0) (.var 3)) (.nm 3) (.val (.call 19 (.cons (.sl (.var 0) (.some (.int 1)) .no) .nil) [] [0])) (.some (.cmp .gt (.var 3) (.int 0))) [3]) ρ A = .ok (.ref m) A' ∧ Gr A A' ∧
      A'[m]? = some (.lst (oL (if isN x then some (.int (-dV ((TL.tl x).drop 1))) else none))) := by
  obtain ⟨A1, m, h1, g1, e1, _⟩ := f19 n A (tl1 x) (Nat.le_trans (len_tl1 x) hl) (asc_tl hx)
  have eF : isF (tl1 x) = isFL ((TL.tl x).drop 1) := by unfold isF; rw [tl_tl1]
  have hq : evQ prg (callI prg (n + 1)) (.val (.call 19 (.cons (.sl (.var 0) (.some (.int 1)) .no) .nil) [] [0])) ρ A = .ok (.live m) A1 := by
    simp only [onB_bl, bind_ok, bind_ex, bind_ite, onS_bl, on_ok, on_ex, on_ite, next_nx, next_rt, next_ct, next_ex, next_ite, e_non, e_bl, e_int, e_str, gV_some, e_var, optR_some, e_gco, e_tup, e_lst, e_bin, negI_int, e_neg, e_cmp, e_chain, notI_bl, e_not, e_and, e_or, e_ite, e_ix, e_sl, e_call, e_bi, e_me, optB_some, e_isi, attI_exc, e_att, oG_some, gD_some, e_gin, e_gix, e_gget, o_no, oI_int, o_some, t_no, tI_bl, t_some, es_nil, es_cons, qI_tup, qI_str, qI_ref, q_val, rI_int, q_rng, enI_ref, q_enum, oS_some, s_asg', s_par', s_setix', s_expr', s_ret', s_ite', s_for', s_cont', s_raise', ss_nil', ss_cons', stG_nm, stG_tp, stGs_nil, stGs_cons, fin_rt, fin_nx, fin_ex, fin_ite, List.getElem?_cons_zero, List.getElem?_cons_succ, List.set_cons_zero, List.set_cons_succ, List.length_cons, List.length_nil, List.length_set, List.replicate, if_true, if_false, Bool.not_true, Bool.not_false, Bool.false_eq_true, Bool.and_true, Bool.true_and, Bool.and_false, Bool.false_and, Bool.or_true, Bool.true_or, Bool.or_false, Bool.false_or, decide_true, decide_false, Option.bind_some, Option.isSome_some, List.nil_append, List.cons_append, List.append_nil, startF_one, startF_two, permute_one, permute_two, le_int, lt_int, gt_int, ge_int, add_int, sub_int, not_true_eq_false, not_false_eq_true, and_self, and_true, true_and, or_true, true_or, ite_self, h0, sl_tl _ hl, h1, listOf_lst e1]
  rw [e_lc, hq, bind_ok]
  have eN : isN x = (isFL ((TL.tl x).drop 1) && !decide ((TL.tl x).drop 1 = [48])) := by
    unfold isN
    rw [decide_eq_true h45, Bool.true_and]
    congr 2
    rw [decide_eq_decide]
    cases hc : TL.tl x with
    | nil => rw [hc] at h45; cases h45
    | cons c r =>
      rw [hc] at h45
      simp at h45
      subst h45
      simp
  rw [eF, tl_tl1] at e1
  generalize hcs : (TL.tl x).drop 1 = cs at *
  have h3 : 3 < (wipeF ρ [3]).length := by
    show 3 < ((wipeF ρ []).set 3 none).length
    rw [List.length_set]
    exact hρ
  cases hF : isFL cs with
  | false =>
    rw [hF] at e1 eN
    have e1 : A1[m]? = some (.lst []) := e1
    refine ⟨A1 ++ [.lst []], A1.length, ?_, g1.snoc _, ?_⟩
    rotate_left
    · rw [eN]; exact at_new _ _
    · rw [lcGo_step, item_live, listOf_lst ((Gr.new A1 [IO.lst []]).get e1)]
      rfl
  | true =>
    rw [hF] at e1 eN
    have e1 : A1[m]? = some (.lst [.int (dV cs)]) := e1
    have hm : m ≠ A1.length := fun z => by
      rw [z] at e1
      have := (List.getElem?_eq_some_iff.mp e1).1
      omega
    have l0 := listOf_lst ((Gr.new A1 [IO.lst []]).get e1)
    have hg : decide ((0 : Int) < dV cs) = !decide (cs = [48]) := dv_pos hF
    have hset : ((wipeF ρ [3]).set 3 (some (.int (dV cs))))[3]? = some (some (.int (dV cs))) := List.getElem?_set_self h3
    by_cases e48 : cs = [48]
    · rw [decide_eq_true e48] at hg eN
      refine ⟨A1 ++ [.lst []], A1.length, ?_, g1.snoc _, ?_⟩
      rotate_left
      · rw [eN]; exact at_new _ _
      · rw [lcGo_step, item_live, l0]
        simp only [onB_bl, bind_ok, bind_ex, bind_ite, onS_bl, on_ok, on_ex, on_ite, next_nx, next_rt, next_ct, next_ex, next_ite, e_non, e_bl, e_int, e_str, gV_some, e_var, optR_some, e_gco, e_tup, e_lst, e_bin, negI_int, e_neg, e_cmp, e_chain, notI_bl, e_not, e_and, e_or, e_ite, e_ix, e_sl, e_call, e_bi, e_me, optB_some, e_isi, attI_exc, e_att, oG_some, gD_some, e_gin, e_gix, e_gget, o_no, oI_int, o_some, t_no, tI_bl, t_some, es_nil, es_cons, qI_tup, qI_str, qI_ref, q_val, rI_int, q_rng, enI_ref, q_enum, oS_some, s_asg', s_par', s_setix', s_expr', s_ret', s_ite', s_for', s_cont', s_raise', ss_nil', ss_cons', stG_nm, stG_tp, stGs_nil, stGs_cons, fin_rt, fin_nx, fin_ex, fin_ite, List.getElem?_cons_zero, List.getElem?_cons_succ, List.set_cons_zero, List.set_cons_succ, List.length_cons, List.length_nil, List.length_set, List.replicate, if_true, if_false, Bool.not_true, Bool.not_false, Bool.false_eq_true, Bool.and_true, Bool.true_and, Bool.and_false, Bool.false_and, Bool.or_true, Bool.true_or, Bool.or_false, Bool.false_or, decide_true, decide_false, Option.bind_some, Option.isSome_some, List.nil_append, List.cons_append, List.append_nil, startF_one, startF_two, permute_one, permute_two, le_int, lt_int, gt_int, ge_int, add_int, sub_int, not_true_eq_false, not_false_eq_true, and_self, and_true, true_and, or_true, true_or, ite_self, Option.map_some, h3, hset, hg]
        show lcGo _ _ _ (9999999 + 1) _ _ = _
        rw [lcGo_step, item_live, l0]
        rfl
    · rw [decide_eq_false e48] at hg eN
      refine ⟨A1 ++ [.lst [.int (-dV cs)]], A1.length, ?_, g1.snoc _, ?_⟩
      rotate_left
      · rw [eN]; exact at_new _ _
      · rw [lcGo_step, item_live, l0]
        simp only [onB_bl, bind_ok, bind_ex, bind_ite, onS_bl, on_ok, on_ex, on_ite, next_nx, next_rt, next_ct, next_ex, next_ite, e_non, e_bl, e_int, e_str, gV_some, e_var, optR_some, e_gco, e_tup, e_lst, e_bin, negI_int, e_neg, e_cmp, e_chain, notI_bl, e_not, e_and, e_or, e_ite, e_ix, e_sl, e_call, e_bi, e_me, optB_some, e_isi, attI_exc, e_att, oG_some, gD_some, e_gin, e_gix, e_gget, o_no, oI_int, o_some, t_no, tI_bl, t_some, es_nil, es_cons, qI_tup, qI_str, qI_ref, q_val, rI_int, q_rng, enI_ref, q_enum, oS_some, s_asg', s_par', s_setix', s_expr', s_ret', s_ite', s_for', s_cont', s_raise', ss_nil', ss_cons', stG_nm, stG_tp, stGs_nil, stGs_cons, fin_rt, fin_nx, fin_ex, fin_ite, List.getElem?_cons_zero, List.getElem?_cons_succ, List.set_cons_zero, List.set_cons_succ, List.length_cons, List.length_nil, List.length_set, List.replicate, if_true, if_false, Bool.not_true, Bool.not_false, Bool.false_eq_true, Bool.and_true, Bool.true_and, Bool.and_false, Bool.false_and, Bool.or_true, Bool.true_or, Bool.or_false, Bool.false_or, decide_true, decide_false, Option.bind_some, Option.isSome_some, List.nil_append, List.cons_append, List.append_nil, startF_one, startF_two, permute_one, permute_two, le_int, lt_int, gt_int, ge_int, add_int, sub_int, not_true_eq_false, not_false_eq_true, and_self, and_true, true_and, or_true, true_or, ite_self, Option.map_some, h3, hset, hg, List.getElem?_concat_length, set_last]
        rw [if_pos (by decide)]
        show lcGo _ _ _ (9999999 + 1) _ _ = _
        rw [lcGo_step, item_live, listOf_lst ((Gr.new A1 _).get e1)]
        simp
end LF.Pl
set_option Elab.async false
set_option linter.all false
set_option maxHeartbeats 4000000
set_option maxRecDepth 100000
/-! _law_atom. -/
namespace LF.Pl
open PySem
theorem let_iff : lets.cps.toList = (List.range 26).map (· + 97) := by decide +kernel
theorem isW_let {x : Str} (h : isW x = true) : ∃ c r, TL.tl x = c :: r ∧ 97 ≤ c := by
  unfold isW allIn at h
  simp only [Bool.and_eq_true, decide_eq_true_eq] at h
  obtain ⟨⟨h1, _⟩, h2⟩ := h
  rw [TL.len_tl] at h1
  cases hx : TL.tl x with
  | nil => rw [hx] at h1; simp at h1
  | cons c r =>
    rw [show x.cps.toList = c :: r from hx] at h2
    have := of_decide_eq_true (List.all_eq_true.mp h2 c List.mem_cons_self)
    rw [let_iff] at this
    obtain ⟨k, _, e⟩ := List.mem_map.mp this
    exact ⟨c, r, rfl, by omega⟩
theorem isF_dig {x : Str} (h : isF x = true) : ∃ c r, TL.tl x = c :: r ∧ 48 ≤ c ∧ c ≤ 57 := by
  obtain ⟨h1, h2, _⟩ := isFL_dig (show isFL (TL.tl x) = true from h)
  cases hx : TL.tl x with
  | nil => exact absurd hx h2
  | cons c r => rw [hx] at h1; exact ⟨c, r, rfl, h1.head⟩
theorem isW_not {x : Str} (h : isW x = true) : isF x = false ∧ isN x = false := by
  obtain ⟨c, r, e, hc⟩ := isW_let h
  constructor
  · cases hf : isF x with
    | false => rfl
    | true =>
      obtain ⟨d, q, e2, _, hd⟩ := isF_dig hf
      rw [e] at e2
      cases e2
      omega
  · unfold isN
    rw [e]
    have : ¬ c = 45 := by omega
    simp [this]
theorem head_not {x : Str} {s : Nat} (h : (TL.tl x).head? = some s) (hs : s < 48) : isF x = false := by
  cases hf : isF x with
  | false => rfl
  | true =>
    obtain ⟨d, q, e2, hd, _⟩ := isF_dig hf
    rw [e2] at h
    cases h
    omega
theorem head64 {x : Str} (h : (TL.tl x).head? = some 64) : isF x = false ∧ isN x = false := by
  constructor
  · cases hf : isF x with
    | false => rfl
    | true =>
      obtain ⟨d, q, e2, hd, _⟩ := isF_dig hf
      rw [e2] at h
      cases h
      omega
  · unfold isN
    rw [h]
    rfl
theorem head_no64 {x : Str} {v : IV} (h : signOf (TL.tl x) = some v) : True := trivial
/-- _law_atom -/
theorem f20 (n : Nat) (A : IH) (x : Str) (hl : x.length + 1 ≤ LIM) (hx : Asc x) : ∃ A' m, callI prg (n + 2) 20 [.str x] A = .ok (.ref m) A' ∧ Gr A A' ∧ A'[m]? = some (.lst (oL (atomOf x))) := by
  rw [call_eq (d := ⟨1, 4, b20⟩) rfl rfl]
  have hl0 : x.length ≤ LIM := by omega
  unfold atomOf
  cases hs : signOf (TL.tl x) with
  | some v =>
    have hd := dctI_ok (ks := ["-", "+", "/"]) (vs := [.non, .bl true, .bl false]) (A := A) (by decide)
    rw [merge3] at hd
    simp only [onB_bl, bind_ok, bind_ex, bind_ite, onS_bl, on_ok, on_ex, on_ite, next_nx, next_rt, next_ct, next_ex, next_ite, e_non, e_bl, e_int, e_str, gV_some, e_var, optR_some, e_gco, e_tup, e_lst, e_bin, negI_int, e_neg, e_cmp, e_chain, notI_bl, e_not, e_and, e_or, e_ite, e_ix, e_sl, e_call, e_bi, e_me, optB_some, e_isi, attI_exc, e_att, oG_some, gD_some, e_gin, e_gix, e_gget, o_no, oI_int, o_some, t_no, tI_bl, t_some, es_nil, es_cons, qI_tup, qI_str, qI_ref, q_val, rI_int, q_rng, enI_ref, q_enum, oS_some, s_asg', s_par', s_setix', s_expr', s_ret', s_ite', s_for', s_cont', s_raise', ss_nil', ss_cons', stG_nm, stG_tp, stGs_nil, stGs_cons, fin_rt, fin_nx, fin_ex, fin_ite, List.getElem?_cons_zero, List.getElem?_cons_succ, List.set_cons_zero, List.set_cons_succ, List.length_cons, List.length_nil, List.length_set, List.replicate, if_true, if_false, Bool.not_true, Bool.not_false, Bool.false_eq_true, Bool.and_true, Bool.true_and, Bool.and_false, Bool.false_and, Bool.or_true, Bool.true_or, Bool.or_false, Bool.false_or, decide_true, decide_false, Option.bind_some, Option.isSome_some, List.nil_append, List.cons_append, List.append_nil, startF_one, startF_two, permute_one, permute_two, le_int, lt_int, gt_int, ge_int, add_int, sub_int, not_true_eq_false, not_false_eq_true, and_self, and_true, true_and, or_true, true_or, ite_self, b20, show (0 + 1 + 1 + 1 ≤ LIM) = True from eq_true (by decide), in3, hs, e_dct, hd, ix_dct x (at_new _ _), lk_signs, lim1, newL_eq]
    exact ⟨_, _, rfl, (Gr.new _ _).snoc _, at_new _ _⟩
  | none =>
    dsimp only
    have hlc := fun C => notIn_lc (P := prg) (C := C) (x := x) (z := "abcdefghijklmnopqrstuvwxyz") (ρ := [some (.str x), none, none, none]) (A := A) (i := 1) (j := 0) rfl (by simp) hl0
    have he := eq_emptyC (A := A ++ [.lst ((badS "abcdefghijklmnopqrstuvwxyz" x).map .str)] ++ [.lst []]) (m := A.length) (k := (A ++ [IO.lst ((badS "abcdefghijklmnopqrstuvwxyz" x).map .str)]).length) (ys := badS "abcdefghijklmnopqrstuvwxyz" x) (by rw [List.append_assoc]; simp) (at_new _ _) (badS_asc hx)
    rw [badS_empty] at he
    have hW : isW x = (decide (1 ≤ x.length ∧ x.length ≤ 8) && allIn "abcdefghijklmnopqrstuvwxyz" x) := rfl
    -- the two tests, one way or the other: the heap grows
    obtain ⟨A1, g1, h1⟩ : ∃ A1, Gr A A1 ∧ ((evE prg (callI prg (n + 1)) (.and (.chain .lt .lt (.int 0) (.bi .len (.cons (.var 0) .nil)) (.int 9)) (.cmp .eq (.lc (.var 1) (.nm 1) (.val (.var 0)) (.some (.cmp .notin (.var 1) (.str "abcdefghijklmnopqrstuvwxyz"))) [1]) (.lst .nil))) [some (.str x), none, none, none] A) = .ok (.bl (isW x)) A1) := by
      rw [hW]
      by_cases h : 1 ≤ x.length ∧ x.length ≤ 8
      · have q1 : decide ((0 : Int) < (x.length : Int)) = true := decide_eq_true (by omega)
        have q2 : decide ((x.length : Int) < 9) = true := decide_eq_true (by omega)
        simp only [onB_bl, bind_ok, bind_ex, bind_ite, onS_bl, on_ok, on_ex, on_ite, next_nx, next_rt, next_ct, next_ex, next_ite, e_non, e_bl, e_int, e_str, gV_some, e_var, optR_some, e_gco, e_tup, e_lst, e_bin, negI_int, e_neg, e_cmp, e_chain, notI_bl, e_not, e_and, e_or, e_ite, e_ix, e_sl, e_call, e_bi, e_me, optB_some, e_isi, attI_exc, e_att, oG_some, gD_some, e_gin, e_gix, e_gget, o_no, oI_int, o_some, t_no, tI_bl, t_some, es_nil, es_cons, qI_tup, qI_str, qI_ref, q_val, rI_int, q_rng, enI_ref, q_enum, oS_some, s_asg', s_par', s_setix', s_expr', s_ret', s_ite', s_for', s_cont', s_raise', ss_nil', ss_cons', stG_nm, stG_tp, stGs_nil, stGs_cons, fin_rt, fin_nx, fin_ex, fin_ite, List.getElem?_cons_zero, List.getElem?_cons_succ, List.set_cons_zero, List.set_cons_succ, List.length_cons, List.length_nil, List.length_set, List.replicate, if_true, if_false, Bool.not_true, Bool.not_false, Bool.false_eq_true, Bool.and_true, Bool.true_and, Bool.and_false, Bool.false_and, Bool.or_true, Bool.true_or, Bool.or_false, Bool.false_or, decide_true, decide_false, Option.bind_some, Option.isSome_some, List.nil_append, List.cons_append, List.append_nil, startF_one, startF_two, permute_one, permute_two, le_int, lt_int, gt_int, ge_int, add_int, sub_int, not_true_eq_false, not_false_eq_true, and_self, and_true, true_and, or_true, true_or, ite_self, biLen_str hl0, q1, q2, hlc, lim00, newL_eq, he, decide_eq_true h]
        exact ⟨_, (Gr.new _ _).snoc _, rfl⟩
      · rw [decide_eq_false h]
        by_cases q1 : (0 : Int) < (x.length : Int)
        · have q2 : decide ((x.length : Int) < 9) = false := decide_eq_false (by omega)
          simp only [onB_bl, bind_ok, bind_ex, bind_ite, onS_bl, on_ok, on_ex, on_ite, next_nx, next_rt, next_ct, next_ex, next_ite, e_non, e_bl, e_int, e_str, gV_some, e_var, optR_some, e_gco, e_tup, e_lst, e_bin, negI_int, e_neg, e_cmp, e_chain, notI_bl, e_not, e_and, e_or, e_ite, e_ix, e_sl, e_call, e_bi, e_me, optB_some, e_isi, attI_exc, e_att, oG_some, gD_some, e_gin, e_gix, e_gget, o_no, oI_int, o_some, t_no, tI_bl, t_some, es_nil, es_cons, qI_tup, qI_str, qI_ref, q_val, rI_int, q_rng, enI_ref, q_enum, oS_some, s_asg', s_par', s_setix', s_expr', s_ret', s_ite', s_for', s_cont', s_raise', ss_nil', ss_cons', stG_nm, stG_tp, stGs_nil, stGs_cons, fin_rt, fin_nx, fin_ex, fin_ite, List.getElem?_cons_zero, List.getElem?_cons_succ, List.set_cons_zero, List.set_cons_succ, List.length_cons, List.length_nil, List.length_set, List.replicate, if_true, if_false, Bool.not_true, Bool.not_false, Bool.false_eq_true, Bool.and_true, Bool.true_and, Bool.and_false, Bool.false_and, Bool.or_true, Bool.true_or, Bool.or_false, Bool.false_or, decide_true, decide_false, Option.bind_some, Option.isSome_some, List.nil_append, List.cons_append, List.append_nil, startF_one, startF_two, permute_one, permute_two, le_int, lt_int, gt_int, ge_int, add_int, sub_int, not_true_eq_false, not_false_eq_true, and_self, and_true, true_and, or_true, true_or, ite_self, biLen_str hl0, decide_eq_true q1, q2]
          exact ⟨_, Gr.refl _, rfl⟩
        · simp only [onB_bl, bind_ok, bind_ex, bind_ite, onS_bl, on_ok, on_ex, on_ite, next_nx, next_rt, next_ct, next_ex, next_ite, e_non, e_bl, e_int, e_str, gV_some, e_var, optR_some, e_gco, e_tup, e_lst, e_bin, negI_int, e_neg, e_cmp, e_chain, notI_bl, e_not, e_and, e_or, e_ite, e_ix, e_sl, e_call, e_bi, e_me, optB_some, e_isi, attI_exc, e_att, oG_some, gD_some, e_gin, e_gix, e_gget, o_no, oI_int, o_some, t_no, tI_bl, t_some, es_nil, es_cons, qI_tup, qI_str, qI_ref, q_val, rI_int, q_rng, enI_ref, q_enum, oS_some, s_asg', s_par', s_setix', s_expr', s_ret', s_ite', s_for', s_cont', s_raise', ss_nil', ss_cons', stG_nm, stG_tp, stGs_nil, stGs_cons, fin_rt, fin_nx, fin_ex, fin_ite, List.getElem?_cons_zero, List.getElem?_cons_succ, List.set_cons_zero, List.set_cons_succ, List.length_cons, List.length_nil, List.length_set, List.replicate, if_true, if_false, Bool.not_true, Bool.not_false, Bool.false_eq_true, Bool.and_true, Bool.true_and, Bool.and_false, Bool.false_and, Bool.or_true, Bool.true_or, Bool.or_false, Bool.false_or, decide_true, decide_false, Option.bind_some, Option.isSome_some, List.nil_append, List.cons_append, List.append_nil, startF_one, startF_two, permute_one, permute_two, le_int, lt_int, gt_int, ge_int, add_int, sub_int, not_true_eq_false, not_false_eq_true, and_self, and_true, true_and, or_true, true_or, ite_self, biLen_str hl0, decide_eq_false q1]
          exact ⟨_, Gr.refl _, rfl⟩
    cases hWv : isW x with
    | true =>
      obtain ⟨hF, hN⟩ := isW_not hWv
      rw [hWv] at h1
      rw [hF, hN]
      simp only [b20, ss_cons', s_ite', e_cmp, e_var, e_tup, es_cons, es_nil, e_str, bind_ok, List.length_cons, List.length_nil, show (0 + 1 + 1 + 1 ≤ LIM) = True from eq_true (by decide), if_true, startF_one, List.replicate, List.getElem?_cons_zero, gV_some, in3, hs, on_ok, onS_bl, Option.isSome_none, Bool.false_eq_true, if_false, ss_nil', next_nx, h1, s_ret', e_lst, lim1, newL_eq, next_rt, fin_rt]
      exact ⟨_, _, rfl, g1.snoc _, at_new _ _⟩
    | false =>
      rw [hWv] at h1
      by_cases h64 : (TL.tl x).head? = some 64
      · obtain ⟨hF, hN⟩ := head64 h64
        rw [hF, hN, if_pos h64]
        obtain ⟨A2, ms, d, p1, p2, p3, p4, p5⟩ := parts_lc n A1 x [some (.str x), none, none, none] rfl (by simp) hl hx
        have e0 := split_tl (tl1 x) tDot (by decide)
        rw [tl_tl1] at e0
        have hlen := len_lst p3
        rw [List.length_map] at hlen
        generalize hys : Txt.split (tl1 x) "." = ys at *
        have hset : ([some (IV.str x), none, none, none] : Fr).set 2 (some (.ref d)) = [some (.str x), none, some (.ref d), none] := rfl
        unfold addrOf
        rcases cut_at 46 ((TL.tl x).drop 1) with hn | ⟨p, r, e, hn⟩
        · rw [TL.spl_last1 (S := []) hn] at e0
          have : ms.length = 1 := by rw [p4, ← List.length_map (f := TL.tl), e0]; rfl
          rw [this] at hlen
          simp only [b20, ss_cons', s_ite', e_cmp, e_var, e_tup, es_cons, es_nil, e_str, bind_ok, List.length_cons, List.length_nil, show (0 + 1 + 1 + 1 ≤ LIM) = True from eq_true (by decide), if_true, startF_one, List.replicate, List.getElem?_cons_zero, gV_some, in3, hs, on_ok, onS_bl, Option.isSome_none, Bool.false_eq_true, if_false, ss_nil', next_nx, h1, s_ret', e_lst, lim1, lim00, newL_eq, next_rt, fin_rt,
            e_sl, o_no, o_some, e_int, oI_int, sl_hd _ hl0, cmp_eq _ (asc_hd hx) aAt, hd_iff x tAt, decide_eq_true h64, s_asg', p1, stG_nm, oS_some, hset, List.getElem?_cons_succ, hlen, eqI_int, show decide (((1 : Nat) : Int) = 2) = false from rfl, onB_bl, show (2 < 0 + 1 + 1 + 1 + 1) = True from eq_true (by decide)]
          simp only [e_ite, e_and, e_bi, bind_ok, bind_ite, on_ok, on_ite, onS_bl, onB_bl, if_true, if_false, Bool.false_eq_true, next_nx, next_rt, next_ite, fin_rt, fin_ite, gV_some, List.getElem?_cons_zero, List.getElem?_cons_succ, List.length_cons, List.length_nil, es_cons, es_nil, e_var, e_int, e_str, e_tup, e_lst, e_cmp, lim1, lim00, newL_eq, ss_nil', e_ix, show (0 + 1 + 1 + 1 ≤ LIM) = True from eq_true (by decide), List.getElem?_cons_succ, hlen, eqI_int, show decide (((1 : Nat) : Int) = 2) = false from rfl, onB_bl, show (2 < 0 + 1 + 1 + 1 + 1) = True from eq_true (by decide)]
          rw [TL.par_none1 hn]
          exact ⟨_, _, rfl, (g1.trans p2).snoc _, at_new _ _⟩
        · have hp : TL.par [46] [] ((TL.tl x).drop 1) = some (p, r) := by
            rw [e]
            have := TL.par_part1 (S := []) (rest := r) (acc := []) hn
            simpa using this
          have e1 : TL.spl [46] 0 [] ((TL.tl x).drop 1) = p :: TL.spl [46] 0 [] r := by
            rw [e]
            have := TL.spl_part1 (S := []) (rest := r) (acc := []) hn
            simpa using this
          rw [e1] at e0
          rw [hp]
          rcases cut_at 46 r with hr | ⟨p', r', er, hr⟩
          · rw [TL.spl_last1 (S := []) hr] at e0
            have hy2 : ys.length = 2 := by rw [← List.length_map (f := TL.tl), e0]; rfl
            match ys, hy2 with
            | [y1, y2], _ =>
              obtain ⟨t1, t2⟩ : TL.tl y1 = p ∧ TL.tl y2 = r := by simpa using e0
              obtain ⟨k1, m1, l1⟩ := p5 0 y1 rfl
              obtain ⟨k2, m2, l2⟩ := p5 1 y2 rfl
              have hms : ms = [k1, k2] := by
                match ms, p4, m1, m2 with
                | [a, b], _, m1, m2 => simp at m1 m2; rw [m1, m2]
              subst hms
              obtain ⟨o1, q1, s1⟩ := oL_fig y1
              obtain ⟨o2, q2, s2⟩ := oL_fig y2
              rw [q1] at l1
              rw [q2] at l2
              have hni := notin2 (A := A2 ++ [.lst []]) (e := A2.length) (at_new _ _) ((Gr.new A2 [.lst []]).get p3) ((Gr.new A2 [.lst []]).get l1) ((Gr.new A2 [.lst []]).get l2)
              rw [s1, s2] at hni
              have f1 : isF y1 = isFL p := by unfold isF; rw [t1]
              have f2 : isF y2 = isFL r := by unfold isF; rw [t2]
              rw [f1, f2] at hni
              dsimp only
              cases hb : (isFL p && isFL r) with
              | false =>
                rw [hb] at hni
                simp only [b20, ss_cons', s_ite', e_cmp, e_var, e_tup, es_cons, es_nil, e_str, bind_ok, List.length_cons, List.length_nil, show (0 + 1 + 1 + 1 ≤ LIM) = True from eq_true (by decide), if_true, startF_one, List.replicate, List.getElem?_cons_zero, gV_some, in3, hs, on_ok, onS_bl, Option.isSome_none, Bool.false_eq_true, if_false, ss_nil', next_nx, h1, s_ret', e_lst, lim1, lim00, newL_eq, next_rt, fin_rt,
                  e_sl, o_no, o_some, e_int, oI_int, sl_hd _ hl0, cmp_eq _ (asc_hd hx) aAt, hd_iff x tAt, decide_eq_true h64, s_asg', p1, stG_nm, oS_some, hset, List.getElem?_cons_succ, hlen, eqI_int, show decide (((0 + 1 + 1 : Nat) : Int) = 2) = true from rfl, onB_bl, show (2 < 0 + 1 + 1 + 1 + 1) = True from eq_true (by decide), hni]
                simp only [e_ite, e_and, e_bi, bind_ok, bind_ite, on_ok, on_ite, onS_bl, onB_bl, if_true, if_false, Bool.false_eq_true, next_nx, next_rt, next_ite, fin_rt, fin_ite, gV_some, List.getElem?_cons_zero, List.getElem?_cons_succ, List.length_cons, List.length_nil, es_cons, es_nil, e_var, e_int, e_str, e_tup, e_lst, e_cmp, lim1, lim00, newL_eq, ss_nil', e_ix, show (0 + 1 + 1 + 1 ≤ LIM) = True from eq_true (by decide), List.getElem?_cons_succ, hlen, eqI_int, show decide (((0 + 1 + 1 : Nat) : Int) = 2) = true from rfl, onB_bl, show (2 < 0 + 1 + 1 + 1 + 1) = True from eq_true (by decide), hni]
                exact ⟨_, _, rfl, ((g1.trans p2).snoc _).snoc _, at_new _ _⟩
              | true =>
                rw [hb] at hni
                obtain ⟨b1, b2⟩ := Bool.and_eq_true_iff.mp hb
                have v1 : figO y1 = some (.int (dV p)) := by unfold figO; rw [f1, b1, t1]; rfl
                have v2 : figO y2 = some (.int (dV r)) := by unfold figO; rw [f2, b2, t2]; rfl
                rw [← q1, v1] at l1
                rw [← q2, v2] at l2
                have i1 := ix_lst (A := A2 ++ [.lst []]) 0 ((Gr.new A2 [.lst []]).get p3)
                have i2 := ix_lst (A := A2 ++ [.lst []]) 1 ((Gr.new A2 [.lst []]).get p3)
                have i3 := ix_lst (A := A2 ++ [.lst []]) 0 ((Gr.new A2 [.lst []]).get l1)
                have i4 := ix_lst (A := A2 ++ [.lst []]) 0 ((Gr.new A2 [.lst []]).get l2)
                simp only [oL, List.map_cons, List.map_nil, atI0, atI1, optR_some] at i1 i2 i3 i4
                simp only [b20, ss_cons', s_ite', e_cmp, e_var, e_tup, es_cons, es_nil, e_str, bind_ok, List.length_cons, List.length_nil, show (0 + 1 + 1 + 1 ≤ LIM) = True from eq_true (by decide), if_true, startF_one, List.replicate, List.getElem?_cons_zero, gV_some, in3, hs, on_ok, onS_bl, Option.isSome_none, Bool.false_eq_true, if_false, ss_nil', next_nx, h1, s_ret', e_lst, lim1, lim00, newL_eq, next_rt, fin_rt,
                  e_sl, o_no, o_some, e_int, oI_int, sl_hd _ hl0, cmp_eq _ (asc_hd hx) aAt, hd_iff x tAt, decide_eq_true h64, s_asg', p1, stG_nm, oS_some, hset, List.getElem?_cons_succ, hlen, eqI_int, show decide (((0 + 1 + 1 : Nat) : Int) = 2) = true from rfl, onB_bl, show (2 < 0 + 1 + 1 + 1 + 1) = True from eq_true (by decide), hni, e_ix, i1, i2, i3, i4]
                simp only [e_ite, e_and, e_bi, bind_ok, bind_ite, on_ok, on_ite, onS_bl, onB_bl, if_true, if_false, Bool.false_eq_true, next_nx, next_rt, next_ite, fin_rt, fin_ite, gV_some, List.getElem?_cons_zero, List.getElem?_cons_succ, List.length_cons, List.length_nil, es_cons, es_nil, e_var, e_int, e_str, e_tup, e_lst, e_cmp, lim1, lim00, newL_eq, ss_nil', e_ix, show (0 + 1 + 1 + 1 ≤ LIM) = True from eq_true (by decide), List.getElem?_cons_succ, hlen, eqI_int, show decide (((0 + 1 + 1 : Nat) : Int) = 2) = true from rfl, onB_bl, show (2 < 0 + 1 + 1 + 1 + 1) = True from eq_true (by decide), hni, e_ix, i1, i2, i3, i4]
                exact ⟨_, _, rfl, ((g1.trans p2).snoc _).snoc _, at_new _ _⟩
          · have hr2 : isFL r = false := by
              cases hf : isFL r with
              | false => rfl
              | true =>
                have := (isFL_dig hf).1 46 (by rw [er]; simp)
                omega
            have e2 : TL.spl [46] 0 [] r = p' :: TL.spl [46] 0 [] r' := by
              rw [er]
              have := TL.spl_part1 (S := []) (rest := r') (acc := []) hr
              simpa using this
            rw [e2] at e0
            have hge := (spl_len 46 r' []).2.1
            have h3 : ms.length ≠ 2 := by
              rw [p4, ← List.length_map (f := TL.tl), e0]
              simp only [List.length_cons]
              omega
            have hdec : decide (((ms.length : Nat) : Int) = 2) = false := decide_eq_false (by omega)
            dsimp only
            rw [hr2, Bool.and_false]
            simp only [b20, ss_cons', s_ite', e_cmp, e_var, e_tup, es_cons, es_nil, e_str, bind_ok, List.length_cons, List.length_nil, show (0 + 1 + 1 + 1 ≤ LIM) = True from eq_true (by decide), if_true, startF_one, List.replicate, List.getElem?_cons_zero, gV_some, in3, hs, on_ok, onS_bl, Option.isSome_none, Bool.false_eq_true, if_false, ss_nil', next_nx, h1, s_ret', e_lst, lim1, lim00, newL_eq, next_rt, fin_rt,
              e_sl, o_no, o_some, e_int, oI_int, sl_hd _ hl0, cmp_eq _ (asc_hd hx) aAt, hd_iff x tAt, decide_eq_true h64, s_asg', p1, stG_nm, oS_some, hset, List.getElem?_cons_succ, hlen, eqI_int, hdec, onB_bl, show (2 < 0 + 1 + 1 + 1 + 1) = True from eq_true (by decide)]
            simp only [e_ite, e_and, e_bi, bind_ok, bind_ite, on_ok, on_ite, onS_bl, onB_bl, if_true, if_false, Bool.false_eq_true, next_nx, next_rt, next_ite, fin_rt, fin_ite, gV_some, List.getElem?_cons_zero, List.getElem?_cons_succ, List.length_cons, List.length_nil, es_cons, es_nil, e_var, e_int, e_str, e_tup, e_lst, e_cmp, lim1, lim00, newL_eq, ss_nil', e_ix, show (0 + 1 + 1 + 1 ≤ LIM) = True from eq_true (by decide), List.getElem?_cons_succ, hlen, eqI_int, hdec, onB_bl, show (2 < 0 + 1 + 1 + 1 + 1) = True from eq_true (by decide)]
            exact ⟨_, _, rfl, (g1.trans p2).snoc _, at_new _ _⟩
      · rw [if_neg h64]
        by_cases h45 : (TL.tl x).head? = some 45
        · have hF : isF x = false := head_not h45 (by decide)
          obtain ⟨A2, m, p1, p2, p3⟩ := neg_lc n A1 x [some (.str x), none, none, none] rfl (by simp) hl0 hx h45
          rw [hF]
          simp only [b20, ss_cons', s_ite', e_cmp, e_var, e_tup, es_cons, es_nil, e_str, bind_ok, List.length_cons, List.length_nil, show (0 + 1 + 1 + 1 ≤ LIM) = True from eq_true (by decide), if_true, startF_one, List.replicate, List.getElem?_cons_zero, gV_some, in3, hs, on_ok, onS_bl, Option.isSome_none, Bool.false_eq_true, if_false, ss_nil', next_nx, h1, s_ret', next_rt, fin_rt,
            e_sl, o_no, o_some, e_int, oI_int, sl_hd _ hl0, cmp_eq _ (asc_hd hx) aAt, cmp_eq _ (asc_hd hx) aMinus, hd_iff x tAt, hd_iff x tMinus, decide_eq_false h64, decide_eq_true h45, p1]
          exact ⟨_, _, rfl, g1.trans p2, p3⟩
        · have hN : isN x = false := by unfold isN; rw [decide_eq_false h45]; rfl
          obtain ⟨A2, m, p1, p2, p3, _⟩ := f19 n A1 x hl0 hx
          rw [hN]
          simp only [b20, ss_cons', s_ite', e_cmp, e_var, e_tup, es_cons, es_nil, e_str, bind_ok, List.length_cons, List.length_nil, show (0 + 1 + 1 + 1 ≤ LIM) = True from eq_true (by decide), if_true, startF_one, List.replicate, List.getElem?_cons_zero, gV_some, in3, hs, on_ok, onS_bl, Option.isSome_none, Bool.false_eq_true, if_false, ss_nil', next_nx, h1, s_ret', next_rt, fin_rt,
            e_sl, o_no, o_some, e_int, oI_int, sl_hd _ hl0, cmp_eq _ (asc_hd hx) aAt, cmp_eq _ (asc_hd hx) aMinus, hd_iff x tAt, hd_iff x tMinus, decide_eq_false h64, decide_eq_false h45, e_call, List.append_nil, permute_one, p1]
          exact ⟨_, _, rfl, g1.trans p2, p3⟩
end LF.Pl
set_option Elab.async false
set_option linter.all false
set_option maxHeartbeats 4000000
set_option maxRecDepth 100000
/-! Piles of lists in the heap. -/
namespace LF.Pl
open PySem
def appT (lv : List (List IV)) (v : IV) : List (List IV) := lv.dropLast ++ [lv.getLastD [] ++ [v]]
def popT (lv : List (List IV)) : List (List IV) := appT lv.dropLast (.tup (lv.getLastD []))
theorem appT_cat (xs : List (List IV)) (b : List IV) (v : IV) : appT (xs ++ [b]) v = xs ++ [b ++ [v]] := by unfold appT; simp [List.getLastD_eq_getLast?]
theorem popT_cat (xs : List (List IV)) (a b : List IV) : popT (xs ++ [a] ++ [b]) = xs ++ [a ++ [.tup b]] := by
  unfold popT
  rw [List.dropLast_concat, appT_cat]
  simp [List.getLastD_eq_getLast?]
/-- what one word does -/
def rdStep (most : Nat) (lv : List (List IV)) (w : Str) : Option (List (List IV)) :=
  if w = ")" ∧ 1 < lv.length then some (popT lv)
  else if (lv.length ≤ 1 ∧ most ≤ (lv.headD []).length) ∨ w = ")" then none
  else if w = "(" then some (lv ++ [[]])
  else (atomOf w).map (appT lv)
def rd (most : Nat) : Nat → List (List IV) → List Str → Except Nat (List (List IV))
  | _, lv, [] => .ok lv
  | k, lv, w :: ws => match rdStep most lv w with
    | none => .error k
    | some lv' => rd most (k + 1) lv' ws
def rdAll (most : Nat) (ws : List Str) : Except Nat (List IV) := match rd most 0 [[]] ws with
  | .error k => .error k
  | .ok lv => if 1 < lv.length then .error ws.length else .ok (lv.headD [])
abbrev Stk := List (Nat × List IV)
structure StackAt (A : IH) (p base : Nat) (s : Stk) : Prop where
  top : A[p]? = some (.lst (s.map fun q => .ref q.1))
  at_ : ∀ q ∈ s, A[q.1]? = some (.lst q.2)
  nd : (p :: s.map (·.1)).Nodup
  lo : ∀ r ∈ p :: s.map (·.1), base ≤ r
theorem StackAt.gr {A B : IH} {p base : Nat} {s : Stk} (h : StackAt A p base s) (g : Gr A B) : StackAt B p base s := ⟨g.get h.top, fun q hq => g.get (h.at_ q hq), h.nd, h.lo⟩
theorem StackAt.len {A : IH} {p base : Nat} {s : Stk} (h : StackAt A p base s) : biI .len [.ref p] A = .ok (.int s.length) A := by
  rw [len_lst h.top, List.length_map]
theorem StackAt.ne {A : IH} {p base : Nat} {s : Stk} (h : StackAt A p base s) {q : Nat × List IV} (hq : q ∈ s) : q.1 ≠ p := fun e => by
  have := (List.nodup_cons.mp h.nd).1
  exact this (by rw [← e]; exact List.mem_map_of_mem hq)
theorem StackAt.first {A : IH} {p base : Nat} {s : Stk} {q : Nat × List IV} (h : StackAt A p base (q :: s)) : ixI (.ref p) (.int 0) A = .ok (.ref q.1) A := by
  rw [ix_lst 0 h.top, List.map_cons, atI0]
  rfl
theorem atI_last (xs : List IV) (v : IV) : L2.atI (xs ++ [v]) (-1) = some v := by
  unfold L2.atI L2.ixN
  have h1 : (1 : Int) ≤ (xs.length : Int) + 1 := by omega
  have h2 : ((-1 : Int) + ((xs.length : Int) + 1)).toNat = xs.length := by omega
  simp [h1, h2]
theorem StackAt.last {A : IH} {p base : Nat} {s : Stk} {q : Nat × List IV} (h : StackAt A p base (s ++ [q])) : ixI (.ref p) (.int (-1)) A = .ok (.ref q.1) A := by
  rw [ix_lst (-1) h.top, List.map_append, List.map_cons, List.map_nil, atI_last]
  rfl
theorem recv_list {A : IH} {n : Nat} {xs : List IV} (h : A[n]? = some (.lst xs)) : recvI .append (.ref n) A = true ∧ recvI .pop (.ref n) A = true := by
  constructor
  · show (listOf A n).isSome = true
    rw [listOf_lst h]; rfl
  · show (listOf A n).isSome = true
    rw [listOf_lst h]; rfl
theorem app_lst {A : IH} {n : Nat} {xs : List IV} (v : IV) (h : A[n]? = some (.lst xs)) (hl : xs.length < LIM) : meI .append (.ref n) [v] A = .ok .non (A.set n (.lst (xs ++ [v]))) := by
  show (match A[n]? with
    | some (.lst xs) => if xs.length < LIM then Rs.ok IV.non (A.set n (.lst (xs ++ [v]))) else .bad
    | _ => .bad) = _
  rw [h]
  exact if_pos hl
theorem pop_lst {A : IH} {n : Nat} {xs : List IV} (v : IV) (h : A[n]? = some (.lst (xs ++ [v]))) : meI .pop (.ref n) [] A = .ok v (A.set n (.lst xs)) := by
  show (match A[n]? with
    | some (.lst xs) => match xs[xs.length - 1]? with
      | some v => Rs.ok v (A.set n (.lst xs.dropLast))
      | none => .bad
    | _ => .bad) = _
  rw [h]
  dsimp only
  rw [List.length_append, List.length_singleton, Nat.add_sub_cancel, List.getElem?_concat_length, List.dropLast_concat]
theorem tup_lst {A : IH} {n : Nat} {xs : List IV} (h : A[n]? = some (.lst xs)) : biI .tuple [.ref n] A = .ok (.tup xs) A := by
  show (match listOf A n with
    | some xs => Rs.ok (IV.tup xs) A
    | none => .bad) = _
  rw [listOf_lst h]
/-- a thing is put at the top's end -/
theorem StackAt.app {A : IH} {p base r : Nat} {s : Stk} {b : List IV} (h : StackAt A p base (s ++ [(r, b)])) (v : IV) : StackAt (A.set r (.lst (b ++ [v]))) p base (s ++ [(r, b ++ [v])]) := by
  have hr := h.at_ (r, b) (by simp)
  have hne := h.ne (q := (r, b)) (by simp)
  have hnd := h.nd
  refine ⟨?_, fun q hq => ?_, ?_, ?_⟩
  · have := get_set_ne (o := .lst (b ++ [v])) h.top (Ne.symm hne)
    simpa using this
  · rcases List.mem_append.mp hq with hq | hq
    · have : q.1 ≠ r := fun e => by
        rw [List.map_append, ← List.cons_append] at hnd
        have := (List.nodup_append.mp hnd).2.2 q.1 (List.mem_cons_of_mem _ (List.mem_map_of_mem hq)) r (by simp)
        exact this e
      exact get_set_ne (h.at_ q (List.mem_append_left _ hq)) this
    · rw [List.mem_singleton.mp hq]
      exact get_set_eq hr
  · simpa using hnd
  · have := h.lo
    simpa using this
/-- the top is taken off -/
theorem StackAt.pop {A : IH} {p base r : Nat} {s : Stk} {b : List IV} (h : StackAt A p base (s ++ [(r, b)])) : StackAt (A.set p (IO.lst (s.map fun q => IV.ref q.1))) p base s ∧ (A.set p (IO.lst (s.map fun q => IV.ref q.1)) : IH)[r]? = some (IO.lst b) := by
  have hnd := h.nd
  refine ⟨⟨get_set_eq h.top, fun q hq => get_set_ne (h.at_ q (List.mem_append_left _ hq)) (h.ne (List.mem_append_left _ hq)), ?_, fun r hr => ?_⟩, get_set_ne (h.at_ (r, b) (by simp)) (h.ne (q := (r, b)) (by simp))⟩
  · rw [List.map_append, ← List.cons_append] at hnd
    exact (List.nodup_append.mp hnd).1
  · refine h.lo r ?_
    rcases List.mem_cons.mp hr with e | e
    · rw [e]; exact List.mem_cons_self
    · rw [List.map_append]
      exact List.mem_cons_of_mem _ (List.mem_append_left _ e)
/-- a new empty list on top -/
theorem StackAt.push {A : IH} {p base : Nat} {s : Stk} (h : StackAt A p base s) (hb : base ≤ A.length) : StackAt (List.set (A ++ [IO.lst []]) p (IO.lst ((s.map fun q => IV.ref q.1) ++ [IV.ref A.length]))) p base (s ++ [(A.length, [])]) := by
  have g : Gr A (A ++ [IO.lst []]) := Gr.new _ _
  have h' := h.gr g
  have lt : ∀ r ∈ p :: s.map (·.1), r < A.length := fun r hr => by
    rcases List.mem_cons.mp hr with e | e
    · rw [e]; exact (List.getElem?_eq_some_iff.mp h.top).1
    · obtain ⟨q, hq, rfl⟩ := List.mem_map.mp e
      exact (List.getElem?_eq_some_iff.mp (h.at_ q hq)).1
  refine ⟨?_, fun q hq => ?_, ?_, fun r hr => ?_⟩
  · rw [get_set_eq h'.top]; simp
  · rcases List.mem_append.mp hq with hq | hq
    · exact get_set_ne (h'.at_ q hq) (h.ne hq)
    · rw [List.mem_singleton.mp hq]
      exact get_set_ne (at_new _ _) (fun e => by have := lt p List.mem_cons_self; omega)
  · rw [List.map_append, ← List.cons_append, List.nodup_append]
    refine ⟨h.nd, by simp, fun a ha b hb' => ?_⟩
    have := lt a ha
    simp at hb'
    omega
  · rw [List.map_append, ← List.cons_append] at hr
    rcases List.mem_append.mp hr with e | e
    · exact h.lo r e
    · simp at e
      omega
end LF.Pl
set_option Elab.async false
set_option linter.all false
set_option maxHeartbeats 4000000
set_option maxRecDepth 100000
/-! things_read. -/
namespace LF.Pl
open PySem
/-- a value that is data of small depth -/
def Flat1 (v : IV) : Prop := ∃ d : PyData, (∀ g, toW g v = some d) ∧ d.canLay0 = true ∧ d.depth ≤ 1
theorem flat_atom {x : Str} {v : IV} (hx : Asc x) (h : atomOf x = some v) : Flat1 v := by
  unfold atomOf at h
  have hsign : ∀ l v, signOf l = some v → Flat1 v := fun l v h => by
    unfold signOf at h
    split at h
    · cases h; exact ⟨.none, fun g => by rw [toW], rfl, by decide⟩
    · split at h
      · cases h; exact ⟨.bool true, fun g => by rw [toW], rfl, by decide⟩
      · split at h
        · cases h; exact ⟨.bool false, fun g => by rw [toW], rfl, by decide⟩
        · cases h
  have hint : ∀ i : Int, Flat1 (.int i) := fun i => ⟨.int i, fun g => by rw [toW], rfl, by show PyData.depth (.int i) ≤ 1; rw [PyData.depth]; omega⟩
  split at h
  · rename_i u e
    cases h
    exact hsign _ _ e
  · split at h
    · cases h; exact hint _
    · split at h
      · cases h; exact hint _
      · split at h
        · cases h
          exact ⟨.str x, fun g => by rw [toW], by rw [PyData.canLay0]; exact hx.ok, by rw [PyData.depth]; omega⟩
        · split at h
          · unfold addrOf at h
            split at h
            · split at h
              · cases h
                rename_i a b _ _
                refine ⟨.tuple [.str "at", .int (dV a), .int (dV b)], fun g => ?_, ?_, ?_⟩
                · rw [toW, toWs, toWs, toWs, toWs, toW, toW, toW]; rfl
                · rw [PyData.canLay0, PyData.canLayAll0, PyData.canLayAll0, PyData.canLayAll0, PyData.canLayAll0, PyData.canLay0, PyData.canLay0, PyData.canLay0]
                  decide +kernel
                · rw [PyData.depth, PyData.depthAll, PyData.depthAll, PyData.depthAll, PyData.depthAll, PyData.depth, PyData.depth, PyData.depth]; decide
              · cases h
            · cases h
          · cases h
theorem flat_non : Flat1 .non := ⟨.none, fun g => by rw [toW], rfl, by decide⟩
theorem eq_nil {A : IH} {m k : Nat} {o : Option IV} (h : A[m]? = some (.lst (oL o))) (hk : A[k]? = some (.lst [])) (hf : ∀ v, o = some v → Flat1 v) : cmpI .eq (.ref m) (.ref k) A = .ok (.bl o.isNone) A := by
  have b : toD A (.ref k) = some (.list []) := toD_strs (ys := []) hk
  cases o with
  | none =>
    have a : toD A (.ref m) = some (.list []) := toD_strs (ys := []) h
    rw [cmpE_eq]
    unfold eqI
    rw [a, b]
    rfl
  | some v =>
    obtain ⟨d, h1, h2, h3⟩ := hf v rfl
    have a : toD A (.ref m) = some (.list [d]) := by
      unfold toD
      rw [toW_ref]
      unfold refD
      rw [h]
      simp only [oL]
      rw [toWs, h1, toWs]
      rfl
    rw [cmpE_eq]
    unfold eqI
    rw [a, b]
    dsimp only
    have s1 : SeqAt.shaped (.list [d]) = true := by
      unfold SeqAt.shaped
      rw [PyData.canLay0, PyData.canLayAll0, PyData.canLayAll0, h2, PyData.depth, PyData.depthAll, PyData.depthAll]
      simp
      omega
    rw [s1, show SeqAt.shaped (.list []) = true from rfl]
    rfl
theorem tOpen : TL.tl ("(" : Str) = [40] := by decide +kernel
theorem tClose : TL.tl (")" : Str) = [41] := by decide +kernel
theorem aOpen : Asc "(" := asc_lit (by decide +kernel)
theorem aClose : Asc ")" := asc_lit (by decide +kernel)
theorem atom_close : atomOf ")" = none := by decide +kernel
theorem rd_step {most k : Nat} {lv : List (List IV)} {ws : List Str} {i : Nat} {w : Str} (hw : ws[i]? = some w) : rd most k lv (ws.drop i) = match rdStep most lv w with
    | none => .error k
    | some lv' => rd most (k + 1) lv' (ws.drop (i + 1)) := by
  obtain ⟨hlt, e⟩ := List.getElem?_eq_some_iff.mp hw
  rw [List.drop_eq_getElem_cons hlt, e, rd] <;> rfl
/-- where a loop over the words stands -/
structure RdI (A0 : IH) (ws : List Str) (most p : Nat) (i : Nat) (A : IH) (s : Stk) : Prop where
  st : StackAt A p A0.length s
  gr : Gr A0 A
  ne : s ≠ []
  l1 : s.length ≤ i + 1
  l2 : ∀ q ∈ s, q.2.length ≤ i
  rd : rd most 0 [[]] ws = rd most i (s.map (·.2)) (ws.drop i)
theorem RdI.app {A0 : IH} {ws : List Str} {most p i : Nat} {A : IH} {s : Stk} {r : Nat} {b : List IV} {w : Str} {v : IV} (h : RdI A0 ws most p i A (s ++ [(r, b)])) (hw : ws[i]? = some w) (hs : rdStep most ((s ++ [(r, b)]).map (·.2)) w = some (appT ((s ++ [(r, b)]).map (·.2)) v)) :
    RdI A0 ws most p (i + 1) (A.set r (.lst (b ++ [v]))) (s ++ [(r, b ++ [v])]) where
  st := h.st.app v
  gr := h.gr.set (h.st.lo r (by simp)) _
  ne := by simp
  l1 := by have := h.l1; simp at this ⊢; omega
  l2 := fun q hq => by
    rcases List.mem_append.mp hq with hq | hq
    · have := h.l2 q (List.mem_append_left _ hq); omega
    · rw [List.mem_singleton.mp hq]
      have := h.l2 (r, b) (by simp)
      simp at this ⊢
      omega
  rd := by
    rw [h.rd, rd_step hw, hs]
    dsimp only
    rw [List.map_append, List.map_cons, List.map_nil, appT_cat]
    simp
theorem RdI.pop {A0 : IH} {ws : List Str} {most p i : Nat} {A : IH} {s : Stk} {r1 r2 : Nat} {a b : List IV} (h : RdI A0 ws most p i A (s ++ [(r1, a)] ++ [(r2, b)])) (hw : ws[i]? = some ")") :
    RdI A0 ws most p (i + 1) ((A.set p (IO.lst ((s ++ [(r1, a)]).map fun q => IV.ref q.1))).set r1 (IO.lst (a ++ [.tup b]))) (s ++ [(r1, a ++ [.tup b])]) where
  st := (h.st.pop.1).app (.tup b)
  gr := (h.gr.set (h.st.lo p List.mem_cons_self) _).set (h.st.lo r1 (by simp)) _
  ne := by simp
  l1 := by have := h.l1; simp at this ⊢; omega
  l2 := fun q hq => by
    rcases List.mem_append.mp hq with hq | hq
    · have := h.l2 q (by simp [hq]); omega
    · rw [List.mem_singleton.mp hq]
      have := h.l2 (r1, a) (by simp)
      simp at this ⊢
      omega
  rd := by
    rw [h.rd, rd_step hw]
    have : rdStep most ((s ++ [(r1, a)] ++ [(r2, b)]).map (·.2)) ")" = some (popT ((s ++ [(r1, a)] ++ [(r2, b)]).map (·.2))) := if_pos ⟨rfl, by simp⟩
    rw [this]
    dsimp only
    have e : (s ++ [(r1, a)] ++ [(r2, b)]).map (·.2) = s.map (·.2) ++ [a] ++ [b] := by simp
    rw [e, popT_cat]
    simp
theorem RdI.push {A0 : IH} {ws : List Str} {most p i : Nat} {A : IH} {s : Stk} (h : RdI A0 ws most p i A s) (hw : ws[i]? = some "(") (hs : rdStep most (s.map (·.2)) "(" = some (s.map (·.2) ++ [[]])) :
    RdI A0 ws most p (i + 1) (List.set (A ++ [IO.lst []]) p (IO.lst ((s.map fun q => IV.ref q.1) ++ [IV.ref A.length]))) (s ++ [(A.length, [])]) where
  st := h.st.push h.gr.le
  gr := (h.gr.snoc _).set (h.st.lo p List.mem_cons_self) _
  ne := by simp
  l1 := by have := h.l1; simp; omega
  l2 := fun q hq => by
    rcases List.mem_append.mp hq with hq | hq
    · have := h.l2 q hq; omega
    · rw [List.mem_singleton.mp hq]; simp
  rd := by
    rw [h.rd, rd_step hw, hs]
    simp
theorem RdI.more {A0 : IH} {ws : List Str} {most p i : Nat} {A B : IH} {s : Stk} (h : RdI A0 ws most p i A s) (g : Gr A B) : RdI A0 ws most p i B s := ⟨h.st.gr g, h.gr.trans g, h.ne, h.l1, h.l2, h.rd⟩
theorem stk_last {s : Stk} (h : s ≠ []) : ∃ t q, s = t ++ [q] := ⟨s.dropLast, s.getLast h, (List.dropLast_concat_getLast h).symm⟩
theorem permute_three (u v w : IV) : permute [0, 1, 2] [u, v, w] = [u, v, w] := rfl
theorem startF_three (u v w : IV) (n : Nat) : startF (n + 3) [u, v, w] = some u :: some v :: some w :: List.replicate n none := by unfold startF; simp
end LF.Pl
set_option Elab.async false
set_option linter.all false
set_option maxHeartbeats 8000000
set_option maxRecDepth 100000
/-! things_read: its turns. -/
namespace LF.Pl
open PySem
def body8 : CSs := (.cons (.ite (.and (.cmp .eq (.var 5) (.str ")")) (.cmp .gt (.bi .len (.cons (.var 3) .nil)) (.int 1))) (.cons (.asg (.nm 6) (.bi .tuple (.cons (.me .pop (.var 3) .nil) .nil)))
    (.cons (.expr (.me .append (.ix (.var 3) (.neg (.int 1))) (.cons (.var 6) .nil)))
    (.cons .cont
    .nil))) .nil)
    (.cons (.asg (.nm 7) (.or (.cmp .gt (.bi .len (.cons (.var 3) .nil)) (.int 1)) (.cmp .lt (.bi .len (.cons (.ix (.var 3) (.int 0)) .nil)) (.var 2))))
    (.cons (.asg (.nm 8) (.ite (.cmp .ne (.var 5) (.str "(")) (.call 7 (.cons (.var 5) .nil) [] [0]) (.lst (.cons .non .nil))))
    (.cons (.ite (.or (.cmp .eq (.var 5) (.str ")")) (.or (.not (.var 7)) (.cmp .eq (.var 8) (.lst .nil)))) (.cons (.raise 10 (.cons (.var 1) (.cons (.var 4) .nil)))
    .nil) .nil)
    (.cons (.ite (.cmp .eq (.var 5) (.str "(")) (.cons (.expr (.me .append (.var 3) (.cons (.lst .nil) .nil)))
    .nil) (.cons (.expr (.me .append (.ix (.var 3) (.neg (.int 1))) (.cons (.ix (.var 8) (.int 0)) .nil)))
    .nil))
    .nil)))))
def fr8 (wr : Nat) (ln : IV) (most p : Nat) (x4 x5 x6 x7 x8 : Option IV) : Fr := [some (.ref wr), some ln, some (.int most), some (.ref p), x4, x5, x6, x7, x8]
theorem lim_gt {n i : Nat} (h : n ≤ i + 1) (hi : i + 1 ≤ LIM) : n ≤ LIM := Nat.le_trans h hi
theorem head_map (s : Stk) (q : Nat × List IV) : (((q :: s).map (·.2)).headD []) = q.2 := rfl
theorem dec_gt (n : Nat) : decide ((1 : Int) < (n : Int)) = decide (1 < n) := by
  rw [decide_eq_decide]
  omega
theorem dec_lt (m n : Nat) : decide ((m : Int) < (n : Int)) = decide (m < n) := by
  rw [decide_eq_decide]
  omega
/-- one turn -/
theorem turn8 (n : Nat) {A0 A : IH} {ws : List Str} {most p i wr : Nat} {ln : IV} {s : Stk} {x4 x5 x6 x7 x8 : Option IV} {w : Str} (h : RdI A0 ws most p i A s) (hw : ws[i]? = some w) (hl : w.length + 1 ≤ LIM) (hx : Asc w) (hi : i + 1 < LIM) :
    (∃ A' s' y6 y7 y8, (evSs prg (callI prg (n + 3)) body8 (fr8 wr ln most p (some (.int i)) (some (.str w)) x6 x7 x8) A = .nx (fr8 wr ln most p (some (.int i)) (some (.str w)) y6 y7 y8) A' ∨ evSs prg (callI prg (n + 3)) body8 (fr8 wr ln most p (some (.int i)) (some (.str w)) x6 x7 x8) A = .ct (fr8 wr ln most p (some (.int i)) (some (.str w)) y6 y7 y8) A') ∧ RdI A0 ws most p (i + 1) A' s') ∨
    (∃ ρ' A', evSs prg (callI prg (n + 3)) body8 (fr8 wr ln most p (some (.int i)) (some (.str w)) x6 x7 x8) A = .ex 10 [ln, .int i] ρ' A' ∧ Gr A0 A' ∧ rd most 0 [[]] ws = .error i) := by
  obtain ⟨t, ⟨r, b⟩, rfl⟩ := stk_last h.ne
  have hlen := h.st.len
  have e41 := eq_lit w tClose
  have e40 := eq_lit w tOpen
  by_cases hc : w = ")"
  · subst hc
    have d1 : decide ((")" : Str) = ")") = true := decide_eq_true rfl
    by_cases h1 : 1 < (t ++ [(r, b)]).length
    · -- a list is closed
      obtain ⟨t2, ⟨r1, a⟩, rfl⟩ := stk_last (s := t) (by intro e; subst e; simp at h1)
      have hp := h.st.pop
      have hr1 := hp.1.at_ (r1, a) (by simp)
      have hl2 : a.length < LIM := by
        have := h.l2 (r1, a) (by simp)
        simp at this
        omega
      have hpop := pop_lst (A := A) (n := p) (xs := (t2 ++ [(r1, a)]).map fun q => IV.ref q.1) (.ref r) (by have := h.st.top; simpa using this)
      have hlast := hp.1.last
      refine .inl ⟨_, _, some (.tup b), x7, x8, .inr ?_, h.pop hw⟩
      simp only [body8, fr8, onB_bl, bind_ok, bind_ex, bind_ite, onS_bl, on_ok, on_ex, on_ite, next_nx, next_rt, next_ct, next_ex, next_ite, e_non, e_bl, e_int, e_str, gV_some, e_var, optR_some, e_gco, e_tup, e_lst, e_bin, negI_int, e_neg, e_cmp, e_chain, notI_bl, e_not, e_and, e_or, e_ite, e_ix, e_sl, e_call, e_bi, e_me, optB_some, e_isi, attI_exc, e_att, oG_some, gD_some, e_gin, e_gix, e_gget, o_no, oI_int, o_some, t_no, tI_bl, t_some, es_nil, es_cons, qI_tup, qI_str, qI_ref, q_val, rI_int, q_rng, enI_ref, q_enum, oS_some, s_asg', s_par', s_setix', s_expr', s_ret', s_ite', s_for', s_cont', s_raise', ss_nil', ss_cons', stG_nm, stG_tp, stGs_nil, stGs_cons, fin_rt, fin_nx, fin_ex, fin_ite, List.getElem?_cons_zero, List.getElem?_cons_succ, List.set_cons_zero, List.set_cons_succ, List.length_cons, List.length_nil, List.length_set, List.replicate, if_true, if_false, Bool.not_true, Bool.not_false, Bool.false_eq_true, Bool.and_true, Bool.true_and, Bool.and_false, Bool.false_and, Bool.or_true, Bool.true_or, Bool.or_false, Bool.false_or, decide_true, decide_false, Option.bind_some, Option.isSome_some, List.nil_append, List.cons_append, List.append_nil, startF_one, startF_two, permute_one, permute_two, le_int, lt_int, gt_int, ge_int, add_int, sub_int, not_true_eq_false, not_false_eq_true, and_self, and_true, true_and, or_true, true_or, ite_self, cmp_eq _ aClose aClose, d1, hlen, dec_gt, decide_eq_true h1, (recv_list h.st.top).2, hpop, tup_lst hp.2, Nat.reduceAdd, Nat.reduceLT, hlast, (recv_list hr1).1, app_lst _ hr1 hl2]
    · -- a closing sign, nothing open
      have ht : t = [] := by cases t with
        | nil => rfl
        | cons q t => simp at h1
      subst ht
      obtain ⟨A1, m, q1, q2, q3⟩ := f7 n A ")" (by decide +kernel) aClose
      have hfirst := h.st.first (s := []) (q := (r, b))
      have hlb := len_lst (h.st.at_ (r, b) (by simp))
      have dn : (!decide ((")" : Str) = "(")) = true := by decide +kernel
      refine .inr ⟨fr8 wr ln most p (some (.int i)) (some (.str ")")) x6 (some (.bl (decide ((b.length : Int) < (most : Int))))) (some (.ref m)), A1, ?_, h.gr.trans q2, ?_⟩
      rotate_left
      · rw [h.rd, rd_step hw]
        have : rdStep most (([] ++ [(r, b)] : Stk).map (·.2)) ")" = none := by
          unfold rdStep
          rw [if_neg (by simp), if_pos (.inr rfl)]
        rw [this]
      · simp only [body8, fr8, onB_bl, bind_ok, bind_ex, bind_ite, onS_bl, on_ok, on_ex, on_ite, next_nx, next_rt, next_ct, next_ex, next_ite, e_non, e_bl, e_int, e_str, gV_some, e_var, optR_some, e_gco, e_tup, e_lst, e_bin, negI_int, e_neg, e_cmp, e_chain, notI_bl, e_not, e_and, e_or, e_ite, e_ix, e_sl, e_call, e_bi, e_me, optB_some, e_isi, attI_exc, e_att, oG_some, gD_some, e_gin, e_gix, e_gget, o_no, oI_int, o_some, t_no, tI_bl, t_some, es_nil, es_cons, qI_tup, qI_str, qI_ref, q_val, rI_int, q_rng, enI_ref, q_enum, oS_some, s_asg', s_par', s_setix', s_expr', s_ret', s_ite', s_for', s_cont', s_raise', ss_nil', ss_cons', stG_nm, stG_tp, stGs_nil, stGs_cons, fin_rt, fin_nx, fin_ex, fin_ite, List.getElem?_cons_zero, List.getElem?_cons_succ, List.set_cons_zero, List.set_cons_succ, List.length_cons, List.length_nil, List.length_set, List.replicate, if_true, if_false, Bool.not_true, Bool.not_false, Bool.false_eq_true, Bool.and_true, Bool.true_and, Bool.and_false, Bool.false_and, Bool.or_true, Bool.true_or, Bool.or_false, Bool.false_or, decide_true, decide_false, Option.bind_some, Option.isSome_some, List.nil_append, List.cons_append, List.append_nil, startF_one, startF_two, permute_one, permute_two, le_int, lt_int, gt_int, ge_int, add_int, sub_int, not_true_eq_false, not_false_eq_true, and_self, and_true, true_and, or_true, true_or, ite_self, cmp_eq _ aClose aClose, d1, hlen, dec_gt, decide_eq_false h1, Nat.reduceAdd, Nat.reduceLT, hfirst, hlb, cmp_ne _ aClose aOpen, dn, q1]
        all_goals rfl
  · have d0 : decide (w = ")") = false := decide_eq_false hc
    have hns : ∀ fr, (1 < (t ++ [(r, b)]).length ∨ fr) → True := fun _ _ => trivial
    obtain ⟨⟨r0, b0⟩, t0, e0⟩ : ∃ q t', t ++ [(r, b)] = q :: t' := by
      cases t with
      | nil => exact ⟨_, _, rfl⟩
      | cons q t => exact ⟨_, _, rfl⟩
    have st0 := h.st
    rw [e0] at st0
    have hfirst := st0.first
    have hlb := len_lst (st0.at_ (r0, b0) List.mem_cons_self)
    -- is there room
    have hfree : ∀ (B : IH), Gr A B → True := fun _ _ => trivial
    generalize hfr : (decide (1 < (t ++ [(r, b)]).length) || decide (b0.length < most)) = fr
    have efr : evE prg (callI prg (n + 3)) (.or (.cmp .gt (.bi .len (.cons (.var 3) .nil)) (.int 1)) (.cmp .lt (.bi .len (.cons (.ix (.var 3) (.int 0)) .nil)) (.var 2))) (fr8 wr ln most p (some (.int i)) (some (.str w)) x6 x7 x8) A = .ok (.bl fr) A := by
      rw [← hfr]
      cases hd : decide (1 < (t ++ [(r, b)]).length) with
      | true => simp only [fr8, onB_bl, bind_ok, bind_ex, bind_ite, onS_bl, on_ok, on_ex, on_ite, next_nx, next_rt, next_ct, next_ex, next_ite, e_non, e_bl, e_int, e_str, gV_some, e_var, optR_some, e_gco, e_tup, e_lst, e_bin, negI_int, e_neg, e_cmp, e_chain, notI_bl, e_not, e_and, e_or, e_ite, e_ix, e_sl, e_call, e_bi, e_me, optB_some, e_isi, attI_exc, e_att, oG_some, gD_some, e_gin, e_gix, e_gget, o_no, oI_int, o_some, t_no, tI_bl, t_some, es_nil, es_cons, qI_tup, qI_str, qI_ref, q_val, rI_int, q_rng, enI_ref, q_enum, oS_some, s_asg', s_par', s_setix', s_expr', s_ret', s_ite', s_for', s_cont', s_raise', ss_nil', ss_cons', stG_nm, stG_tp, stGs_nil, stGs_cons, fin_rt, fin_nx, fin_ex, fin_ite, List.getElem?_cons_zero, List.getElem?_cons_succ, List.set_cons_zero, List.set_cons_succ, List.length_cons, List.length_nil, List.length_set, List.replicate, if_true, if_false, Bool.not_true, Bool.not_false, Bool.false_eq_true, Bool.and_true, Bool.true_and, Bool.and_false, Bool.false_and, Bool.or_true, Bool.true_or, Bool.or_false, Bool.false_or, decide_true, decide_false, Option.bind_some, Option.isSome_some, List.nil_append, List.cons_append, List.append_nil, startF_one, startF_two, permute_one, permute_two, le_int, lt_int, gt_int, ge_int, add_int, sub_int, not_true_eq_false, not_false_eq_true, and_self, and_true, true_and, or_true, true_or, ite_self, hlen, dec_gt, hd]
      | false => simp only [fr8, onB_bl, bind_ok, bind_ex, bind_ite, onS_bl, on_ok, on_ex, on_ite, next_nx, next_rt, next_ct, next_ex, next_ite, e_non, e_bl, e_int, e_str, gV_some, e_var, optR_some, e_gco, e_tup, e_lst, e_bin, negI_int, e_neg, e_cmp, e_chain, notI_bl, e_not, e_and, e_or, e_ite, e_ix, e_sl, e_call, e_bi, e_me, optB_some, e_isi, attI_exc, e_att, oG_some, gD_some, e_gin, e_gix, e_gget, o_no, oI_int, o_some, t_no, tI_bl, t_some, es_nil, es_cons, qI_tup, qI_str, qI_ref, q_val, rI_int, q_rng, enI_ref, q_enum, oS_some, s_asg', s_par', s_setix', s_expr', s_ret', s_ite', s_for', s_cont', s_raise', ss_nil', ss_cons', stG_nm, stG_tp, stGs_nil, stGs_cons, fin_rt, fin_nx, fin_ex, fin_ite, List.getElem?_cons_zero, List.getElem?_cons_succ, List.set_cons_zero, List.set_cons_succ, List.length_cons, List.length_nil, List.length_set, List.replicate, if_true, if_false, Bool.not_true, Bool.not_false, Bool.false_eq_true, Bool.and_true, Bool.true_and, Bool.and_false, Bool.false_and, Bool.or_true, Bool.true_or, Bool.or_false, Bool.false_or, decide_true, decide_false, Option.bind_some, Option.isSome_some, List.nil_append, List.cons_append, List.append_nil, startF_one, startF_two, permute_one, permute_two, le_int, lt_int, gt_int, ge_int, add_int, sub_int, not_true_eq_false, not_false_eq_true, and_self, and_true, true_and, or_true, true_or, ite_self, hlen, dec_gt, hd, hfirst, hlb, dec_lt]
    have room : rdStep most ((t ++ [(r, b)]).map (·.2)) w = if fr = true then (if w = "(" then some ((t ++ [(r, b)]).map (·.2) ++ [[]]) else (atomOf w).map (appT ((t ++ [(r, b)]).map (·.2)))) else none := by
      unfold rdStep
      rw [if_neg (fun z => hc z.1), List.length_map, e0, head_map, ← e0, ← hfr]
      by_cases a1 : 1 < (t ++ [(r, b)]).length
      · rw [decide_eq_true a1, Bool.true_or, if_pos rfl, if_neg]
        rintro (z | z)
        · omega
        · exact hc z
      · rw [decide_eq_false a1, Bool.false_or]
        by_cases a2 : b0.length < most
        · rw [decide_eq_true a2, if_pos rfl, if_neg]
          rintro (z | z)
          · have z2 : most ≤ b0.length := z.2
            omega
          · exact hc z
        · rw [decide_eq_false a2, if_neg Bool.false_ne_true, if_pos]
          exact .inl ⟨by omega, show most ≤ b0.length by omega⟩
    by_cases ho : w = "("
    · subst ho
      have dn : (!decide (("(" : Str) = "(")) = false := by decide +kernel
      have dt : decide (("(" : Str) = "(") = true := by decide +kernel
      have nn : (A ++ [IO.lst [IV.non]])[A.length]? = some (.lst (oL (some .non))) := at_new _ _
      cases fr with
      | false =>
        refine .inr ⟨fr8 wr ln most p (some (.int i)) (some (.str "(")) x6 (some (.bl false)) (some (.ref A.length)), A ++ [IO.lst [IV.non]], ?_, h.gr.snoc _, ?_⟩
        rotate_left
        · rw [h.rd, rd_step hw, room, if_neg Bool.false_ne_true]
        · unfold body8
          rw [ss_cons', s_ite']
          simp only [fr8] at efr ⊢
          simp only [e_and, e_cmp, e_var, e_str, List.getElem?_cons_zero, List.getElem?_cons_succ, gV_some, bind_ok, cmp_eq _ hx aClose, d0, onB_bl, Bool.false_eq_true, if_false, on_ok, onS_bl, ss_nil', next_nx, ss_cons', s_asg', decide_true, decide_false, Bool.not_true, Bool.not_false, next_ite, next_rt, efr, stG_nm, List.length_cons, List.length_nil, Nat.reduceAdd, Nat.reduceLT, if_true, oS_some, List.set_cons_succ, List.set_cons_zero, e_ite, cmp_ne _ aOpen aOpen, dn, e_lst, es_cons, es_nil, e_non, lim1, newL_eq, s_ite', notI_bl, Bool.not_false, s_raise', on_ok, next_ex, e_int]
          simp only [bind_ok, bind_ite, on_ok, on_ite, onS_bl, onB_bl, decide_true, decide_false, Bool.not_true, Bool.not_false, next_ite, next_rt, e_and, e_cmp, e_var, e_str, List.getElem?_cons_zero, List.getElem?_cons_succ, gV_some, bind_ok, cmp_eq _ hx aClose, d0, onB_bl, Bool.false_eq_true, if_false, on_ok, onS_bl, ss_nil', next_nx, ss_cons', s_asg', stG_nm, List.length_cons, List.length_nil, Nat.reduceAdd, Nat.reduceLT, if_true, oS_some, List.set_cons_succ, List.set_cons_zero, e_ite, cmp_ne _ aOpen aOpen, dn, e_lst, es_cons, es_nil, e_non, lim1, newL_eq, s_ite', e_or, e_not, notI_bl, Bool.not_false, s_raise', on_ok, next_ex, e_int]
          all_goals rfl
      | true =>
        have hE := eq_nil (A := A ++ [IO.lst [IV.non]] ++ [IO.lst []]) (m := A.length) (k := (A ++ [IO.lst [IV.non]]).length) (o := some .non) ((Gr.new (A ++ [IO.lst [IV.non]]) _).get nn) (at_new _ _) (fun v e => by cases e; exact flat_non)
        have h2 := (h.more ((Gr.new A [IO.lst [IV.non]]).snoc (IO.lst [])))
        have hmt := h2.st.top
        have hlm : ((t ++ [(r, b)]).map fun q => IV.ref q.1).length < LIM := by
          have := h.l1
          rw [List.length_map]
          omega
        have ap := app_lst (A := A ++ [IO.lst [IV.non]] ++ [IO.lst []] ++ [IO.lst []]) (.ref (A ++ [IO.lst [IV.non]] ++ [IO.lst []]).length) ((Gr.new _ [IO.lst []]).get hmt) hlm
        refine .inl ⟨_, _, x6, some (.bl true), some (.ref A.length), .inl ?_, h2.push hw (by rw [room, if_pos rfl, if_pos rfl])⟩
        unfold body8
        rw [ss_cons', s_ite']
        simp only [fr8] at efr ⊢
        simp only [e_and, e_cmp, e_var, e_str, List.getElem?_cons_zero, List.getElem?_cons_succ, gV_some, bind_ok, cmp_eq _ hx aClose, d0, onB_bl, Bool.false_eq_true, if_false, on_ok, onS_bl, ss_nil', next_nx, ss_cons', s_asg', decide_true, decide_false, Bool.not_true, Bool.not_false, next_ite, next_rt, efr, stG_nm, List.length_cons, List.length_nil, Nat.reduceAdd, Nat.reduceLT, if_true, oS_some, List.set_cons_succ, List.set_cons_zero, e_ite, cmp_ne _ aOpen aOpen, dn, e_lst, es_cons, es_nil, e_non, lim1, lim00, newL_eq, s_ite', notI_bl, Bool.not_true, hE, Option.isNone_some, cmp_eq _ aOpen aOpen, dt, s_expr', e_me, (recv_list hmt).1, ap]
        simp only [bind_ok, bind_ite, on_ok, on_ite, onS_bl, onB_bl, decide_true, decide_false, Bool.not_true, Bool.not_false, next_ite, next_rt, e_and, e_cmp, e_var, e_str, List.getElem?_cons_zero, List.getElem?_cons_succ, gV_some, bind_ok, cmp_eq _ hx aClose, d0, onB_bl, Bool.false_eq_true, if_false, on_ok, onS_bl, ss_nil', next_nx, ss_cons', s_asg', stG_nm, List.length_cons, List.length_nil, Nat.reduceAdd, Nat.reduceLT, if_true, oS_some, List.set_cons_succ, List.set_cons_zero, e_ite, cmp_ne _ aOpen aOpen, dn, e_lst, es_cons, es_nil, e_non, lim1, lim00, newL_eq, s_ite', e_or, e_not, notI_bl, Bool.not_true, hE, Option.isNone_some, cmp_eq _ aOpen aOpen, dt, s_expr', e_me, (recv_list hmt).1, ap]
    · have dn : (!decide (w = "(")) = true := by rw [decide_eq_false ho]; rfl
      have dt : decide (w = "(") = false := decide_eq_false ho
      obtain ⟨A1, m, q1, q2, q3⟩ := f7 n A w (by omega) hx
      cases fr with
      | false =>
        refine .inr ⟨fr8 wr ln most p (some (.int i)) (some (.str w)) x6 (some (.bl false)) (some (.ref m)), A1, ?_, h.gr.trans q2, ?_⟩
        rotate_left
        · rw [h.rd, rd_step hw, room, if_neg Bool.false_ne_true]
        · unfold body8
          rw [ss_cons', s_ite']
          simp only [fr8] at efr ⊢
          simp only [e_and, e_cmp, e_var, e_str, List.getElem?_cons_zero, List.getElem?_cons_succ, gV_some, bind_ok, cmp_eq _ hx aClose, d0, onB_bl, Bool.false_eq_true, if_false, on_ok, onS_bl, ss_nil', next_nx, ss_cons', s_asg', decide_true, decide_false, Bool.not_true, Bool.not_false, next_ite, next_rt, efr, stG_nm, List.length_cons, List.length_nil, Nat.reduceAdd, Nat.reduceLT, if_true, oS_some, List.set_cons_succ, List.set_cons_zero, e_ite, cmp_ne _ hx aOpen, dn, e_call, es_cons, es_nil, List.append_nil, permute_one, q1, s_ite', notI_bl, Bool.not_false, s_raise', on_ok, next_ex, e_int]
          simp only [bind_ok, bind_ite, on_ok, on_ite, onS_bl, onB_bl, decide_true, decide_false, Bool.not_true, Bool.not_false, next_ite, next_rt, e_and, e_cmp, e_var, e_str, List.getElem?_cons_zero, List.getElem?_cons_succ, gV_some, bind_ok, cmp_eq _ hx aClose, d0, onB_bl, Bool.false_eq_true, if_false, on_ok, onS_bl, ss_nil', next_nx, ss_cons', s_asg', stG_nm, List.length_cons, List.length_nil, Nat.reduceAdd, Nat.reduceLT, if_true, oS_some, List.set_cons_succ, List.set_cons_zero, e_ite, cmp_ne _ hx aOpen, dn, e_call, es_cons, es_nil, List.append_nil, permute_one, q1, s_ite', e_or, e_not, notI_bl, Bool.not_false, s_raise', on_ok, next_ex, e_int]
          all_goals rfl
      | true =>
        have hE := eq_nil (A := A1 ++ [IO.lst []]) (m := m) (k := A1.length) (o := atomOf w) ((Gr.new A1 _).get q3) (at_new _ _) (fun v e => flat_atom hx e)
        have h2 := h.more (q2.snoc (IO.lst []))
        cases ha : atomOf w with
        | none =>
          rw [ha] at hE
          refine .inr ⟨fr8 wr ln most p (some (.int i)) (some (.str w)) x6 (some (.bl true)) (some (.ref m)), A1 ++ [IO.lst []], ?_, h.gr.trans (q2.snoc _), ?_⟩
          rotate_left
          · rw [h.rd, rd_step hw, room, if_pos rfl, if_neg ho, ha]
            rfl
          · unfold body8
            rw [ss_cons', s_ite']
            simp only [fr8] at efr ⊢
            simp only [e_and, e_cmp, e_var, e_str, List.getElem?_cons_zero, List.getElem?_cons_succ, gV_some, bind_ok, cmp_eq _ hx aClose, d0, onB_bl, Bool.false_eq_true, if_false, on_ok, onS_bl, ss_nil', next_nx, ss_cons', s_asg', decide_true, decide_false, Bool.not_true, Bool.not_false, next_ite, next_rt, efr, stG_nm, List.length_cons, List.length_nil, Nat.reduceAdd, Nat.reduceLT, if_true, oS_some, List.set_cons_succ, List.set_cons_zero, e_ite, cmp_ne _ hx aOpen, dn, e_call, es_cons, es_nil, List.append_nil, permute_one, q1, s_ite', notI_bl, Bool.not_true, e_lst, lim00, newL_eq, hE, Option.isNone_none, s_raise', on_ok, next_ex, e_int]
            simp only [bind_ok, bind_ite, on_ok, on_ite, onS_bl, onB_bl, decide_true, decide_false, Bool.not_true, Bool.not_false, next_ite, next_rt, e_and, e_cmp, e_var, e_str, List.getElem?_cons_zero, List.getElem?_cons_succ, gV_some, bind_ok, cmp_eq _ hx aClose, d0, onB_bl, Bool.false_eq_true, if_false, on_ok, onS_bl, ss_nil', next_nx, ss_cons', s_asg', stG_nm, List.length_cons, List.length_nil, Nat.reduceAdd, Nat.reduceLT, if_true, oS_some, List.set_cons_succ, List.set_cons_zero, e_ite, cmp_ne _ hx aOpen, dn, e_call, es_cons, es_nil, List.append_nil, permute_one, q1, s_ite', e_or, e_not, notI_bl, Bool.not_true, e_lst, lim00, newL_eq, hE, Option.isNone_none, s_raise', on_ok, next_ex, e_int]
            all_goals rfl
        | some v =>
          rw [ha] at hE q3
          have hr := h2.st.at_ (r, b) (by simp)
          have hlast := h2.st.last
          have hl2 : b.length < LIM := by
            have := h.l2 (r, b) (by simp)
            simp at this
            omega
          have hix := ix_lst (A := A1 ++ [IO.lst []]) 0 ((Gr.new A1 [IO.lst []]).get q3)
          simp only [oL, atI0, optR_some] at hix
          refine .inl ⟨_, _, x6, some (.bl true), some (.ref m), .inl ?_, h2.app hw (v := v) (by rw [room, if_pos rfl, if_neg ho, ha]; rfl)⟩
          unfold body8
          rw [ss_cons', s_ite']
          simp only [fr8] at efr ⊢
          simp only [e_and, e_cmp, e_var, e_str, List.getElem?_cons_zero, List.getElem?_cons_succ, gV_some, bind_ok, cmp_eq _ hx aClose, d0, onB_bl, Bool.false_eq_true, if_false, on_ok, onS_bl, ss_nil', next_nx, ss_cons', s_asg', decide_true, decide_false, Bool.not_true, Bool.not_false, next_ite, next_rt, efr, stG_nm, List.length_cons, List.length_nil, Nat.reduceAdd, Nat.reduceLT, if_true, oS_some, List.set_cons_succ, List.set_cons_zero, e_ite, cmp_ne _ hx aOpen, dn, e_call, es_cons, es_nil, List.append_nil, permute_one, q1, s_ite', notI_bl, Bool.not_true, e_lst, lim00, newL_eq, hE, Option.isNone_some, cmp_eq _ hx aOpen, dt, s_expr', e_me, e_ix, e_neg, e_int, negI_int, hlast, (recv_list hr).1, hix, app_lst _ hr hl2]
          simp only [bind_ok, bind_ite, on_ok, on_ite, onS_bl, onB_bl, decide_true, decide_false, Bool.not_true, Bool.not_false, next_ite, next_rt, e_and, e_cmp, e_var, e_str, List.getElem?_cons_zero, List.getElem?_cons_succ, gV_some, bind_ok, cmp_eq _ hx aClose, d0, onB_bl, Bool.false_eq_true, if_false, on_ok, onS_bl, ss_nil', next_nx, ss_cons', s_asg', stG_nm, List.length_cons, List.length_nil, Nat.reduceAdd, Nat.reduceLT, if_true, oS_some, List.set_cons_succ, List.set_cons_zero, e_ite, cmp_ne _ hx aOpen, dn, e_call, es_cons, es_nil, List.append_nil, permute_one, q1, s_ite', e_or, e_not, notI_bl, Bool.not_true, e_lst, lim00, newL_eq, hE, Option.isNone_some, cmp_eq _ hx aOpen, dt, s_expr', e_me, e_ix, e_neg, e_int, negI_int, hlast, (recv_list hr).1, hix, app_lst _ hr hl2]
end LF.Pl
set_option Elab.async false
set_option linter.all false
set_option maxHeartbeats 8000000
set_option maxRecDepth 100000
/-! things_read, whole. -/
namespace LF.Pl
open PySem
def words (ws : List Str) : Prop := (∀ w ∈ ws, Asc w ∧ w.length + 1 ≤ LIM) ∧ ws.length + 1 < LIM
def outOf (ln : IV) (r : Except Nat (List IV)) (A : IH) : Rs IV := match r with
  | .ok xs => .ok (.tup xs) A
  | .error k => .ex 10 [ln, .int k] A
def last8 : CSs := (.cons (.ite (.cmp .gt (.bi .len (.cons (.var 3) .nil)) (.int 1)) (.cons (.raise 10 (.cons (.var 1) (.cons (.bi .len (.cons (.var 0) .nil)) .nil)))
    .nil) .nil)
    (.cons (.ret (.bi .tuple (.cons (.ix (.var 3) (.int 0)) .nil)))
    .nil))
theorem b8_eq : b8 = .cons (.asg (.nm 3) (.lst (.cons (.lst .nil) .nil))) (.cons (.for (.tp [(.nm 4), (.nm 5)]) (.enum (.var 0)) body8) last8) := rfl
theorem start_rd {A0 : IH} {ws : List Str} {most : Nat} : RdI A0 ws most (A0.length + 1) 0 (A0 ++ [IO.lst []] ++ [IO.lst [IV.ref A0.length]]) [(A0.length, [])] where
  st := ⟨by simp, fun q hq => by rw [List.mem_singleton.mp hq]; simp, by simp, fun r hr => by simp at hr; omega⟩
  gr := (Gr.new _ _).snoc _
  ne := by simp
  l1 := by simp
  l2 := fun q hq => by rw [List.mem_singleton.mp hq]; simp
  rd := rfl
theorem f8 (n : Nat) (A0 : IH) (wr : Nat) (ln : IV) (most : Nat) (ws : List Str) (hw : A0[wr]? = some (.lst (ws.map .str))) (hs : words ws) : ∃ A', Gr A0 A' ∧ callI prg (n + 4) 8 [.ref wr, ln, .int most] A0 = outOf ln (rdAll most ws) A' := by
  rw [call_eq (d := ⟨3, 9, b8⟩) rfl rfl, b8_eq]
  obtain ⟨hs1, hs2⟩ := hs
  have hw1 : (A0 ++ [IO.lst []] ++ [IO.lst [IV.ref A0.length]])[wr]? = some (.lst (ws.map .str)) := ((Gr.new A0 [IO.lst []]).snoc _).get hw

  have e1 : evSs prg (callI prg (n + 3)) (.cons (.asg (.nm 3) (.lst (.cons (.lst .nil) .nil))) (.cons (.for (.tp [(.nm 4), (.nm 5)]) (.enum (.var 0)) body8) last8)) (startF 9 [.ref wr, ln, .int most]) A0 =
      (forGo (fun x ρ A => oS (stG A (.tp [(.nm 4), (.nm 5)]) x ρ) fun ρ => evSs prg (callI prg (n + 3)) body8 ρ A) (.enL wr) (LIM + 1) 0 (fr8 wr ln most (A0.length + 1) none none none none none) (A0 ++ [IO.lst []] ++ [IO.lst [IV.ref A0.length]])).next fun ρ A => evSs prg (callI prg (n + 3)) last8 ρ A := by
    rw [ss_cons', s_asg', show startF 9 [.ref wr, ln, .int most] = [some (.ref wr), some ln, some (.int most), none, none, none, none, none, none] from rfl]
    simp only [e_lst, es_cons, es_nil, bind_ok, List.length_nil, List.length_cons, lim00, lim1, if_true, newL_eq, on_ok, stG_nm, Nat.reduceAdd, Nat.reduceLT, oS_some, List.set_cons_succ, List.set_cons_zero, next_nx, ss_cons', s_for', q_enum, e_var, List.getElem?_cons_zero, gV_some, enI_ref, listOf_lst hw1, Option.isSome_some, List.length_append, Nat.zero_add]
    rfl
  rw [e1]
  have hlo : ∀ {A : IH}, Gr A0 A → listOf A wr = some (ws.map .str) := fun g => listOf_lst (g.get hw)
  rcases for_inv0 (N := ws.length) (q := .enL wr) (f := fun x ρ A => oS (stG A (.tp [(.nm 4), (.nm 5)]) x ρ) fun ρ => evSs prg (callI prg (n + 3)) body8 ρ A)
    (fun i ρ A => ∃ x4 x5 x6 x7 x8 s, ρ = fr8 wr ln most (A0.length + 1) x4 x5 x6 x7 x8 ∧ RdI A0 ws most (A0.length + 1) i A s)
    (fun r => ∃ ρ' A' k, r = .ex 10 [ln, .int (k : Nat)] ρ' A' ∧ Gr A0 A' ∧ rd most 0 [[]] ws = .error k) (by omega)
    (fun i ρ A hi ⟨x4, x5, x6, x7, x8, s, e, R⟩ => by
      subst e
      have hwi : ws[i]? = some ws[i] := List.getElem?_eq_getElem hi
      obtain ⟨a1, a2⟩ := hs1 _ (List.getElem_mem hi)
      refine ⟨.tup [.int i, .str ws[i]], ?_, ?_⟩
      · rw [item_enL, hlo R.gr]
        simp
      · have hst : stG A (.tp [(.nm 4), (.nm 5)]) (.tup [.int i, .str ws[i]]) (fr8 wr ln most (A0.length + 1) x4 x5 x6 x7 x8) = some (fr8 wr ln most (A0.length + 1) (some (.int i)) (some (.str ws[i])) x6 x7 x8) := by
          simp only [stG_tp, stGs_cons, stGs_nil, stG_nm, fr8, List.length_cons, List.length_nil, Nat.reduceAdd, Nat.reduceLT, if_true, Option.bind_some, List.set_cons_succ, List.set_cons_zero]
        rw [hst, oS_some]
        rcases turn8 n (x4 := none) (x5 := none) (x6 := x6) (x7 := x7) (x8 := x8) (wr := wr) (ln := ln) R hwi a2 a1 (by omega) with ⟨A', s', y6, y7, y8, c, R'⟩ | ⟨ρ', A', c, g, z⟩
        · exact .inl ⟨_, A', c, _, _, _, _, _, s', rfl, R'⟩
        · exact .inr ⟨⟨ρ', A', i, c, g, z⟩, .inr ⟨10, _, ρ', A', c⟩⟩)
    (fun ρ A ⟨x4, x5, x6, x7, x8, s, e, R⟩ => by rw [item_enL, hlo R.gr]; simp) ⟨none, none, none, none, none, _, rfl, start_rd⟩ with ⟨ρ', A', r, x4, x5, x6, x7, x8, s, e, R⟩ | ⟨⟨ρ', A', k, e, g, z⟩, _⟩
  · rw [r, next_nx]
    subst e
    have hrd : rd most 0 [[]] ws = .ok (s.map (·.2)) := by
      rw [R.rd, List.drop_length, rd]
    have hl := R.st.len
    have hwl := len_lst (R.gr.get hw)
    rw [List.length_map] at hwl
    unfold rdAll
    rw [hrd]
    refine ⟨A', R.gr, ?_⟩
    by_cases h1 : 1 < s.length
    · dsimp only
      rw [List.length_map, if_pos h1]
      simp only [last8, fr8, onB_bl, bind_ok, bind_ex, bind_ite, onS_bl, on_ok, on_ex, on_ite, next_nx, next_rt, next_ct, next_ex, next_ite, e_non, e_bl, e_int, e_str, gV_some, e_var, optR_some, e_gco, e_tup, e_lst, e_bin, negI_int, e_neg, e_cmp, e_chain, notI_bl, e_not, e_and, e_or, e_ite, e_ix, e_sl, e_call, e_bi, e_me, optB_some, e_isi, attI_exc, e_att, oG_some, gD_some, e_gin, e_gix, e_gget, o_no, oI_int, o_some, t_no, tI_bl, t_some, es_nil, es_cons, qI_tup, qI_str, qI_ref, q_val, rI_int, q_rng, enI_ref, q_enum, oS_some, s_asg', s_par', s_setix', s_expr', s_ret', s_ite', s_for', s_cont', s_raise', ss_nil', ss_cons', stG_nm, stG_tp, stGs_nil, stGs_cons, fin_rt, fin_nx, fin_ex, fin_ite, List.getElem?_cons_zero, List.getElem?_cons_succ, List.set_cons_zero, List.set_cons_succ, List.length_cons, List.length_nil, List.length_set, List.replicate, if_true, if_false, Bool.not_true, Bool.not_false, Bool.false_eq_true, Bool.and_true, Bool.true_and, Bool.and_false, Bool.false_and, Bool.or_true, Bool.true_or, Bool.or_false, Bool.false_or, decide_true, decide_false, Option.bind_some, Option.isSome_some, List.nil_append, List.cons_append, List.append_nil, startF_one, startF_two, permute_one, permute_two, le_int, lt_int, gt_int, ge_int, add_int, sub_int, not_true_eq_false, not_false_eq_true, and_self, and_true, true_and, or_true, true_or, ite_self, hl, dec_gt, decide_eq_true h1, hwl]
      rfl
    · dsimp only
      rw [List.length_map, if_neg h1]
      cases s with
      | nil => exact absurd rfl R.ne
      | cons q t =>
        have hf := R.st.first
        have h1' : decide (1 < t.length + 1) = false := decide_eq_false (by rw [List.length_cons] at h1; exact h1)
        simp only [last8, fr8, onB_bl, bind_ok, bind_ex, bind_ite, onS_bl, on_ok, on_ex, on_ite, next_nx, next_rt, next_ct, next_ex, next_ite, e_non, e_bl, e_int, e_str, gV_some, e_var, optR_some, e_gco, e_tup, e_lst, e_bin, negI_int, e_neg, e_cmp, e_chain, notI_bl, e_not, e_and, e_or, e_ite, e_ix, e_sl, e_call, e_bi, e_me, optB_some, e_isi, attI_exc, e_att, oG_some, gD_some, e_gin, e_gix, e_gget, o_no, oI_int, o_some, t_no, tI_bl, t_some, es_nil, es_cons, qI_tup, qI_str, qI_ref, q_val, rI_int, q_rng, enI_ref, q_enum, oS_some, s_asg', s_par', s_setix', s_expr', s_ret', s_ite', s_for', s_cont', s_raise', ss_nil', ss_cons', stG_nm, stG_tp, stGs_nil, stGs_cons, fin_rt, fin_nx, fin_ex, fin_ite, List.getElem?_cons_zero, List.getElem?_cons_succ, List.set_cons_zero, List.set_cons_succ, List.length_cons, List.length_nil, List.length_set, List.replicate, if_true, if_false, Bool.not_true, Bool.not_false, Bool.false_eq_true, Bool.and_true, Bool.true_and, Bool.and_false, Bool.false_and, Bool.or_true, Bool.true_or, Bool.or_false, Bool.false_or, decide_true, decide_false, Option.bind_some, Option.isSome_some, List.nil_append, List.cons_append, List.append_nil, startF_one, startF_two, permute_one, permute_two, le_int, lt_int, gt_int, ge_int, add_int, sub_int, not_true_eq_false, not_false_eq_true, and_self, and_true, true_and, or_true, true_or, ite_self, hl, dec_gt, h1', hf, tup_lst (R.st.at_ q List.mem_cons_self)]
        rfl
  · rw [e, next_ex, fin_ex]
    unfold rdAll
    rw [z]
    exact ⟨A', g, rfl⟩
end LF.Pl
set_option Elab.async false
set_option linter.all false
set_option maxHeartbeats 8000000
set_option maxRecDepth 100000
/-! _law_things_in: its turns. -/
namespace LF.Pl
open PySem
def body21 : CSs := (.cons (.ite (.and (.cmp .eq (.bi .len (.cons (.var 2) .nil)) (.int 1)) (.cmp .eq (.bi .len (.cons (.ix (.var 2) (.int 0)) .nil)) (.var 1))) (.cons (.ret (.var 3))
    .nil) .nil)
    (.cons (.ite (.cmp .eq (.var 4) (.str "(")) (.cons (.expr (.me .append (.var 2) (.cons (.lst .nil) .nil)))
    .nil) (.cons (.ite (.and (.cmp .eq (.var 4) (.str ")")) (.cmp .gt (.bi .len (.cons (.var 2) .nil)) (.int 1))) (.cons (.asg (.nm 5) (.bi .tuple (.cons (.me .pop (.var 2) .nil) .nil)))
    (.cons (.expr (.me .append (.ix (.var 2) (.neg (.int 1))) (.cons (.var 5) .nil)))
    .nil)) (.cons (.ite (.cmp .eq (.call 20 (.cons (.var 4) .nil) [] [0]) (.lst .nil)) (.cons (.ret (.var 3))
    .nil) (.cons (.expr (.me .append (.ix (.var 2) (.neg (.int 1))) (.cons (.ix (.call 20 (.cons (.var 4) .nil) [] [0]) (.int 0)) .nil)))
    .nil))
    .nil))
    .nil))
    .nil))
def fr21 (wr most p : Nat) (x3 x4 x5 : Option IV) : Fr := [some (.ref wr), some (.int most), some (.ref p), x3, x4, x5]
/-- how full the lowest list is -/
def Fits (most : Nat) (s : Stk) : Prop := ((s.map (·.2)).headD []).length + (if 1 < s.length then 1 else 0) ≤ most
theorem fits_app {most r : Nat} {t : Stk} {b : List IV} {v : IV} (h : Fits most (t ++ [(r, b)])) (hf : 1 < (t ++ [(r, b)]).length ∨ (((t ++ [(r, b)]).map (·.2)).headD []).length < most) : Fits most (t ++ [(r, b ++ [v])]) := by
  cases t with
  | nil =>
    have hf : b.length < most := by
      rcases hf with hf | hf
      · simp at hf
      · exact hf
    show (b ++ [v]).length + (if 1 < 1 then 1 else 0) ≤ most
    rw [List.length_append, if_neg (by omega)]
    simp
    omega
  | cons q t =>
    have : 1 < ((q :: t) ++ [(r, b ++ [v])]).length := by simp
    have h2 : 1 < ((q :: t) ++ [(r, b)]).length := by simp
    unfold Fits at h ⊢
    rw [if_pos h2] at h
    rw [if_pos this]
    exact h
theorem fits_push {most k : Nat} {t : Stk} (ht : t ≠ []) (h : Fits most t) (hf : 1 < t.length ∨ ((t.map (·.2)).headD []).length < most) : Fits most (t ++ [(k, [])]) := by
  cases t with
  | nil => exact absurd rfl ht
  | cons q t =>
    have : 1 < ((q :: t) ++ [(k, ([] : List IV))]).length := by simp
    unfold Fits at h ⊢
    rw [if_pos this]
    show q.2.length + 1 ≤ most
    rcases hf with hf | hf
    · rw [if_pos hf] at h
      exact h
    · exact hf
theorem fits_pop {most r1 r2 : Nat} {t : Stk} {a b : List IV} {v : IV} (h : Fits most (t ++ [(r1, a)] ++ [(r2, b)])) : Fits most (t ++ [(r1, a ++ [v])]) := by
  have h2 : 1 < (t ++ [(r1, a)] ++ [(r2, b)]).length := by simp
  unfold Fits at h ⊢
  rw [if_pos h2] at h
  cases t with
  | nil =>
    have h : a.length + 1 ≤ most := h
    show (a ++ [v]).length + (if 1 < 1 then 1 else 0) ≤ most
    rw [if_neg (by omega), List.length_append]
    simp
    omega
  | cons q t =>
    have h : q.2.length + 1 ≤ most := h
    have h3 : 1 < ((q :: t) ++ [(r1, a ++ [v])]).length := by simp
    rw [if_pos h3]
    exact h
theorem dec_eq1 (n m : Nat) : decide ((n : Int) = (m : Int)) = decide (n = m) := by
  rw [decide_eq_decide]
  omega
/-- one turn -/
theorem turn21 (n : Nat) {A0 A : IH} {ws : List Str} {most p i wr : Nat} {s : Stk} {x5 : Option IV} {w : Str} (h : RdI A0 ws most p i A s) (hF : Fits most s) (hw : ws[i]? = some w) (hl : w.length + 1 ≤ LIM) (hx : Asc w) (hi : i + 1 < LIM) :
    (∃ A' s' y5, evSs prg (callI prg (n + 2)) body21 (fr21 wr most p (some (.int i)) (some (.str w)) x5) A = .nx (fr21 wr most p (some (.int i)) (some (.str w)) y5) A' ∧ RdI A0 ws most p (i + 1) A' s' ∧ Fits most s') ∨
    (∃ A', evSs prg (callI prg (n + 2)) body21 (fr21 wr most p (some (.int i)) (some (.str w)) x5) A = .rt (.int i) A' ∧ Gr A0 A' ∧ rd most 0 [[]] ws = .error i) := by
  obtain ⟨t, ⟨r, b⟩, rfl⟩ := stk_last h.ne
  have hlen := h.st.len
  obtain ⟨⟨r0, b0⟩, t0, e0⟩ : ∃ q t', t ++ [(r, b)] = q :: t' := by
    cases t with
    | nil => exact ⟨_, _, rfl⟩
    | cons q t => exact ⟨_, _, rfl⟩
  have st0 := h.st
  rw [e0] at st0
  have hfirst := st0.first
  have hlb := len_lst (st0.at_ (r0, b0) List.mem_cons_self)
  have hpos : 1 ≤ (t ++ [(r, b)]).length := by simp
  have hle : b0.length + (if 1 < (t ++ [(r, b)]).length then 1 else 0) ≤ most := by
    unfold Fits at hF
    rw [e0] at hF ⊢
    exact hF
  generalize hfull : (decide ((t ++ [(r, b)]).length = 1) && decide (b0.length = most)) = full
  have efull : evE prg (callI prg (n + 2)) (.and (.cmp .eq (.bi .len (.cons (.var 2) .nil)) (.int 1)) (.cmp .eq (.bi .len (.cons (.ix (.var 2) (.int 0)) .nil)) (.var 1))) (fr21 wr most p (some (.int i)) (some (.str w)) x5) A = .ok (.bl full) A := by
    rw [← hfull]
    have d1 : decide (((t ++ [(r, b)]).length : Int) = 1) = decide ((t ++ [(r, b)]).length = 1) := dec_eq1 _ 1
    cases hd : decide ((t ++ [(r, b)]).length = 1) with
    | true => rw [hd] at d1; simp only [fr21, onB_bl, bind_ok, bind_ex, bind_ite, onS_bl, on_ok, on_ex, on_ite, next_nx, next_rt, next_ct, next_ex, next_ite, e_non, e_bl, e_int, e_str, gV_some, e_var, optR_some, e_gco, e_tup, e_lst, e_bin, negI_int, e_neg, e_cmp, e_chain, notI_bl, e_not, e_and, e_or, e_ite, e_ix, e_sl, e_call, e_bi, e_me, optB_some, e_isi, attI_exc, e_att, oG_some, gD_some, e_gin, e_gix, e_gget, o_no, oI_int, o_some, t_no, tI_bl, t_some, es_nil, es_cons, qI_tup, qI_str, qI_ref, q_val, rI_int, q_rng, enI_ref, q_enum, oS_some, s_asg', s_par', s_setix', s_expr', s_ret', s_ite', s_for', s_cont', s_raise', ss_nil', ss_cons', stG_nm, stG_tp, stGs_nil, stGs_cons, fin_rt, fin_nx, fin_ex, fin_ite, List.getElem?_cons_zero, List.getElem?_cons_succ, List.set_cons_zero, List.set_cons_succ, List.length_cons, List.length_nil, List.length_set, List.replicate, if_true, if_false, Bool.not_true, Bool.not_false, Bool.false_eq_true, Bool.and_true, Bool.true_and, Bool.and_false, Bool.false_and, Bool.or_true, Bool.true_or, Bool.or_false, Bool.false_or, decide_true, decide_false, Option.bind_some, Option.isSome_some, List.nil_append, List.cons_append, List.append_nil, startF_one, startF_two, permute_one, permute_two, le_int, lt_int, gt_int, ge_int, add_int, sub_int, not_true_eq_false, not_false_eq_true, and_self, and_true, true_and, or_true, true_or, ite_self, hlen, eqI_int, d1, hfirst, hlb, dec_eq1]
    | false => rw [hd] at d1; simp only [fr21, onB_bl, bind_ok, bind_ex, bind_ite, onS_bl, on_ok, on_ex, on_ite, next_nx, next_rt, next_ct, next_ex, next_ite, e_non, e_bl, e_int, e_str, gV_some, e_var, optR_some, e_gco, e_tup, e_lst, e_bin, negI_int, e_neg, e_cmp, e_chain, notI_bl, e_not, e_and, e_or, e_ite, e_ix, e_sl, e_call, e_bi, e_me, optB_some, e_isi, attI_exc, e_att, oG_some, gD_some, e_gin, e_gix, e_gget, o_no, oI_int, o_some, t_no, tI_bl, t_some, es_nil, es_cons, qI_tup, qI_str, qI_ref, q_val, rI_int, q_rng, enI_ref, q_enum, oS_some, s_asg', s_par', s_setix', s_expr', s_ret', s_ite', s_for', s_cont', s_raise', ss_nil', ss_cons', stG_nm, stG_tp, stGs_nil, stGs_cons, fin_rt, fin_nx, fin_ex, fin_ite, List.getElem?_cons_zero, List.getElem?_cons_succ, List.set_cons_zero, List.set_cons_succ, List.length_cons, List.length_nil, List.length_set, List.replicate, if_true, if_false, Bool.not_true, Bool.not_false, Bool.false_eq_true, Bool.and_true, Bool.true_and, Bool.and_false, Bool.false_and, Bool.or_true, Bool.true_or, Bool.or_false, Bool.false_or, decide_true, decide_false, Option.bind_some, Option.isSome_some, List.nil_append, List.cons_append, List.append_nil, startF_one, startF_two, permute_one, permute_two, le_int, lt_int, gt_int, ge_int, add_int, sub_int, not_true_eq_false, not_false_eq_true, and_self, and_true, true_and, or_true, true_or, ite_self, hlen, eqI_int, d1]
  have room : rdStep most ((t ++ [(r, b)]).map (·.2)) w = if w = ")" ∧ 1 < (t ++ [(r, b)]).length then some (popT ((t ++ [(r, b)]).map (·.2))) else if full = true then none else if w = ")" then none else if w = "(" then some ((t ++ [(r, b)]).map (·.2) ++ [[]]) else (atomOf w).map (appT ((t ++ [(r, b)]).map (·.2))) := by
    unfold rdStep
    rw [List.length_map, e0, head_map, ← e0]
    by_cases hc : w = ")" ∧ 1 < (t ++ [(r, b)]).length
    · rw [if_pos hc, if_pos hc]
    · rw [if_neg hc, if_neg hc, ← hfull]
      by_cases a1 : (t ++ [(r, b)]).length = 1
      · rw [if_neg (by omega)] at hle
        by_cases a2 : b0.length = most
        · rw [if_pos (.inl ⟨by omega, show most ≤ b0.length by omega⟩), decide_eq_true a1, decide_eq_true a2, Bool.true_and, if_pos rfl]
        · rw [decide_eq_true a1, decide_eq_false a2, Bool.and_false, if_neg Bool.false_ne_true]
          by_cases a3 : w = ")"
          · rw [if_pos (.inr a3), if_pos a3]
          · rw [if_neg, if_neg a3]
            rintro (z | z)
            · have z2 : most ≤ b0.length := z.2
              omega
            · exact a3 z
      · rw [decide_eq_false a1, Bool.false_and, if_neg Bool.false_ne_true]
        by_cases a3 : w = ")"
        · rw [if_pos (.inr a3), if_pos a3]
        · rw [if_neg, if_neg a3]
          rintro (z | z)
          · omega
          · exact a3 z
  have notfull : full = false → 1 < (t ++ [(r, b)]).length ∨ (((t ++ [(r, b)]).map (·.2)).headD []).length < most := fun hf => by
    rw [e0, head_map, ← e0]
    rw [← hfull] at hf
    by_cases a1 : (t ++ [(r, b)]).length = 1
    · right
      rw [decide_eq_true a1, Bool.true_and, decide_eq_false_iff_not] at hf
      rw [if_neg (by omega)] at hle
      show b0.length < most
      omega
    · left
      omega
  cases full with
  | true =>
    refine .inr ⟨A, ?_, h.gr, ?_⟩
    · unfold body21
      rw [ss_cons', s_ite', efull]
      simp only [fr21, onB_bl, bind_ok, bind_ex, bind_ite, onS_bl, on_ok, on_ex, on_ite, next_nx, next_rt, next_ct, next_ex, next_ite, e_non, e_bl, e_int, e_str, gV_some, e_var, optR_some, e_gco, e_tup, e_lst, e_bin, negI_int, e_neg, e_cmp, e_chain, notI_bl, e_not, e_and, e_or, e_ite, e_ix, e_sl, e_call, e_bi, e_me, optB_some, e_isi, attI_exc, e_att, oG_some, gD_some, e_gin, e_gix, e_gget, o_no, oI_int, o_some, t_no, tI_bl, t_some, es_nil, es_cons, qI_tup, qI_str, qI_ref, q_val, rI_int, q_rng, enI_ref, q_enum, oS_some, s_asg', s_par', s_setix', s_expr', s_ret', s_ite', s_for', s_cont', s_raise', ss_nil', ss_cons', stG_nm, stG_tp, stGs_nil, stGs_cons, fin_rt, fin_nx, fin_ex, fin_ite, List.getElem?_cons_zero, List.getElem?_cons_succ, List.set_cons_zero, List.set_cons_succ, List.length_cons, List.length_nil, List.length_set, List.replicate, if_true, if_false, Bool.not_true, Bool.not_false, Bool.false_eq_true, Bool.and_true, Bool.true_and, Bool.and_false, Bool.false_and, Bool.or_true, Bool.true_or, Bool.or_false, Bool.false_or, decide_true, decide_false, Option.bind_some, Option.isSome_some, List.nil_append, List.cons_append, List.append_nil, startF_one, startF_two, permute_one, permute_two, le_int, lt_int, gt_int, ge_int, add_int, sub_int, not_true_eq_false, not_false_eq_true, and_self, and_true, true_and, or_true, true_or, ite_self]
    · rw [h.rd, rd_step hw, room]
      have a1 : ¬ 1 < (t ++ [(r, b)]).length := by
        have := (Bool.and_eq_true_iff.mp hfull).1
        have := of_decide_eq_true this
        omega
      rw [if_neg (fun z => a1 z.2), if_pos rfl]
  | false =>
    rw [if_neg Bool.false_ne_true] at room
    have nf := notfull rfl
    by_cases ho : w = "("
    · subst ho
      have hmt := h.st.top
      have hlm : ((t ++ [(r, b)]).map fun q => IV.ref q.1).length < LIM := by
        have := h.l1
        rw [List.length_map]
        omega
      have ap := app_lst (A := A ++ [IO.lst []]) (.ref A.length) ((Gr.new A [IO.lst []]).get hmt) hlm
      refine .inl ⟨_, _, x5, ?_, h.push hw (by rw [room, if_neg (fun z => absurd z.1 (by decide +kernel)), if_neg (by decide +kernel), if_pos rfl]), fits_push (by simp) hF nf⟩
      unfold body21
      rw [ss_cons', s_ite', efull]
      simp only [fr21, onB_bl, bind_ok, bind_ex, bind_ite, onS_bl, on_ok, on_ex, on_ite, next_nx, next_rt, next_ct, next_ex, next_ite, e_non, e_bl, e_int, e_str, gV_some, e_var, optR_some, e_gco, e_tup, e_lst, e_bin, negI_int, e_neg, e_cmp, e_chain, notI_bl, e_not, e_and, e_or, e_ite, e_ix, e_sl, e_call, e_bi, e_me, optB_some, e_isi, attI_exc, e_att, oG_some, gD_some, e_gin, e_gix, e_gget, o_no, oI_int, o_some, t_no, tI_bl, t_some, es_nil, es_cons, qI_tup, qI_str, qI_ref, q_val, rI_int, q_rng, enI_ref, q_enum, oS_some, s_asg', s_par', s_setix', s_expr', s_ret', s_ite', s_for', s_cont', s_raise', ss_nil', ss_cons', stG_nm, stG_tp, stGs_nil, stGs_cons, fin_rt, fin_nx, fin_ex, fin_ite, List.getElem?_cons_zero, List.getElem?_cons_succ, List.set_cons_zero, List.set_cons_succ, List.length_cons, List.length_nil, List.length_set, List.replicate, if_true, if_false, Bool.not_true, Bool.not_false, Bool.false_eq_true, Bool.and_true, Bool.true_and, Bool.and_false, Bool.false_and, Bool.or_true, Bool.true_or, Bool.or_false, Bool.false_or, decide_true, decide_false, Option.bind_some, Option.isSome_some, List.nil_append, List.cons_append, List.append_nil, startF_one, startF_two, permute_one, permute_two, le_int, lt_int, gt_int, ge_int, add_int, sub_int, not_true_eq_false, not_false_eq_true, and_self, and_true, true_and, or_true, true_or, ite_self, cmp_eq _ aOpen aOpen, (recv_list hmt).1, lim00, newL_eq, ap]
    · have dO : decide (w = "(") = false := decide_eq_false ho
      by_cases hc : w = ")"
      · subst hc
        by_cases h1 : 1 < (t ++ [(r, b)]).length
        · obtain ⟨t2, ⟨r1, a⟩, rfl⟩ := stk_last (s := t) (by intro e; subst e; simp at h1)
          have hp := h.st.pop
          have hr1 := hp.1.at_ (r1, a) (by simp)
          have hl2 : a.length < LIM := by
            have := h.l2 (r1, a) (by simp)
            simp at this
            omega
          have hpop := pop_lst (A := A) (n := p) (xs := (t2 ++ [(r1, a)]).map fun q => IV.ref q.1) (.ref r) (by have := h.st.top; simpa using this)
          have hlast := hp.1.last
          refine .inl ⟨_, _, some (.tup b), ?_, h.pop hw, fits_pop hF⟩
          unfold body21
          rw [ss_cons', s_ite', efull]
          simp only [fr21, onB_bl, bind_ok, bind_ex, bind_ite, onS_bl, on_ok, on_ex, on_ite, next_nx, next_rt, next_ct, next_ex, next_ite, e_non, e_bl, e_int, e_str, gV_some, e_var, optR_some, e_gco, e_tup, e_lst, e_bin, negI_int, e_neg, e_cmp, e_chain, notI_bl, e_not, e_and, e_or, e_ite, e_ix, e_sl, e_call, e_bi, e_me, optB_some, e_isi, attI_exc, e_att, oG_some, gD_some, e_gin, e_gix, e_gget, o_no, oI_int, o_some, t_no, tI_bl, t_some, es_nil, es_cons, qI_tup, qI_str, qI_ref, q_val, rI_int, q_rng, enI_ref, q_enum, oS_some, s_asg', s_par', s_setix', s_expr', s_ret', s_ite', s_for', s_cont', s_raise', ss_nil', ss_cons', stG_nm, stG_tp, stGs_nil, stGs_cons, fin_rt, fin_nx, fin_ex, fin_ite, List.getElem?_cons_zero, List.getElem?_cons_succ, List.set_cons_zero, List.set_cons_succ, List.length_cons, List.length_nil, List.length_set, List.replicate, if_true, if_false, Bool.not_true, Bool.not_false, Bool.false_eq_true, Bool.and_true, Bool.true_and, Bool.and_false, Bool.false_and, Bool.or_true, Bool.true_or, Bool.or_false, Bool.false_or, decide_true, decide_false, Option.bind_some, Option.isSome_some, List.nil_append, List.cons_append, List.append_nil, startF_one, startF_two, permute_one, permute_two, le_int, lt_int, gt_int, ge_int, add_int, sub_int, not_true_eq_false, not_false_eq_true, and_self, and_true, true_and, or_true, true_or, ite_self, cmp_eq _ aClose aOpen, dO, cmp_eq _ aClose aClose, hlen, dec_gt, decide_eq_true h1, (recv_list h.st.top).2, hpop, tup_lst hp.2, Nat.reduceAdd, Nat.reduceLT, hlast, (recv_list hr1).1, app_lst _ hr1 hl2]
        · obtain ⟨A1, m, q1, q2, q3⟩ := f20 n A ")" (by decide +kernel) aClose
          rw [atom_close] at q3
          have hE := eq_nil (A := A1 ++ [IO.lst []]) (m := m) (k := A1.length) (o := none) ((Gr.new A1 _).get q3) (at_new _ _) (fun v e => nomatch e)
          refine .inr ⟨A1 ++ [IO.lst []], ?_, h.gr.trans (q2.snoc _), ?_⟩
          · unfold body21
            rw [ss_cons', s_ite', efull]
            simp only [fr21, onB_bl, bind_ok, bind_ex, bind_ite, onS_bl, on_ok, on_ex, on_ite, next_nx, next_rt, next_ct, next_ex, next_ite, e_non, e_bl, e_int, e_str, gV_some, e_var, optR_some, e_gco, e_tup, e_lst, e_bin, negI_int, e_neg, e_cmp, e_chain, notI_bl, e_not, e_and, e_or, e_ite, e_ix, e_sl, e_call, e_bi, e_me, optB_some, e_isi, attI_exc, e_att, oG_some, gD_some, e_gin, e_gix, e_gget, o_no, oI_int, o_some, t_no, tI_bl, t_some, es_nil, es_cons, qI_tup, qI_str, qI_ref, q_val, rI_int, q_rng, enI_ref, q_enum, oS_some, s_asg', s_par', s_setix', s_expr', s_ret', s_ite', s_for', s_cont', s_raise', ss_nil', ss_cons', stG_nm, stG_tp, stGs_nil, stGs_cons, fin_rt, fin_nx, fin_ex, fin_ite, List.getElem?_cons_zero, List.getElem?_cons_succ, List.set_cons_zero, List.set_cons_succ, List.length_cons, List.length_nil, List.length_set, List.replicate, if_true, if_false, Bool.not_true, Bool.not_false, Bool.false_eq_true, Bool.and_true, Bool.true_and, Bool.and_false, Bool.false_and, Bool.or_true, Bool.true_or, Bool.or_false, Bool.false_or, decide_true, decide_false, Option.bind_some, Option.isSome_some, List.nil_append, List.cons_append, List.append_nil, startF_one, startF_two, permute_one, permute_two, le_int, lt_int, gt_int, ge_int, add_int, sub_int, not_true_eq_false, not_false_eq_true, and_self, and_true, true_and, or_true, true_or, ite_self, cmp_eq _ aClose aOpen, dO, cmp_eq _ aClose aClose, hlen, dec_gt, decide_eq_false h1, q1, lim00, newL_eq, hE, Option.isNone_none]
          · rw [h.rd, rd_step hw, room, if_neg (fun z => h1 z.2), if_pos rfl]
      · have dC : decide (w = ")") = false := decide_eq_false hc
        obtain ⟨A1, m, q1, q2, q3⟩ := f20 n A w hl hx
        have hE := eq_nil (A := A1 ++ [IO.lst []]) (m := m) (k := A1.length) (o := atomOf w) ((Gr.new A1 _).get q3) (at_new _ _) (fun v e => flat_atom hx e)
        have hroom : rdStep most ((t ++ [(r, b)]).map (·.2)) w = (atomOf w).map (appT ((t ++ [(r, b)]).map (·.2))) := by
          rw [room, if_neg (fun z => hc z.1), if_neg hc, if_neg ho]
        cases ha : atomOf w with
        | none =>
          rw [ha] at hE hroom
          refine .inr ⟨A1 ++ [IO.lst []], ?_, h.gr.trans (q2.snoc _), ?_⟩
          · unfold body21
            rw [ss_cons', s_ite', efull]
            simp only [fr21, onB_bl, bind_ok, bind_ex, bind_ite, onS_bl, on_ok, on_ex, on_ite, next_nx, next_rt, next_ct, next_ex, next_ite, e_non, e_bl, e_int, e_str, gV_some, e_var, optR_some, e_gco, e_tup, e_lst, e_bin, negI_int, e_neg, e_cmp, e_chain, notI_bl, e_not, e_and, e_or, e_ite, e_ix, e_sl, e_call, e_bi, e_me, optB_some, e_isi, attI_exc, e_att, oG_some, gD_some, e_gin, e_gix, e_gget, o_no, oI_int, o_some, t_no, tI_bl, t_some, es_nil, es_cons, qI_tup, qI_str, qI_ref, q_val, rI_int, q_rng, enI_ref, q_enum, oS_some, s_asg', s_par', s_setix', s_expr', s_ret', s_ite', s_for', s_cont', s_raise', ss_nil', ss_cons', stG_nm, stG_tp, stGs_nil, stGs_cons, fin_rt, fin_nx, fin_ex, fin_ite, List.getElem?_cons_zero, List.getElem?_cons_succ, List.set_cons_zero, List.set_cons_succ, List.length_cons, List.length_nil, List.length_set, List.replicate, if_true, if_false, Bool.not_true, Bool.not_false, Bool.false_eq_true, Bool.and_true, Bool.true_and, Bool.and_false, Bool.false_and, Bool.or_true, Bool.true_or, Bool.or_false, Bool.false_or, decide_true, decide_false, Option.bind_some, Option.isSome_some, List.nil_append, List.cons_append, List.append_nil, startF_one, startF_two, permute_one, permute_two, le_int, lt_int, gt_int, ge_int, add_int, sub_int, not_true_eq_false, not_false_eq_true, and_self, and_true, true_and, or_true, true_or, ite_self, cmp_eq _ hx aOpen, dO, cmp_eq _ hx aClose, dC, q1, lim00, newL_eq, hE, Option.isNone_none]
          · rw [h.rd, rd_step hw, hroom]
            rfl
        | some v =>
          rw [ha] at hE hroom
          have h2 := h.more (q2.snoc (IO.lst []))
          obtain ⟨A3, m3, p1, p2, p3⟩ := f20 n (A1 ++ [IO.lst []]) w hl hx
          rw [ha] at p3
          have h3 := h2.more p2
          have hlast := h2.st.last
          have hr := h3.st.at_ (r, b) (by simp)
          have hr2 := h2.st.at_ (r, b) (by simp)
          have hl2 : b.length < LIM := by
            have := h.l2 (r, b) (by simp)
            simp at this
            omega
          have hix := ix_lst (A := A3) 0 p3
          simp only [oL, atI0, optR_some] at hix
          refine .inl ⟨_, _, x5, ?_, h3.app hw hroom, fits_app hF nf⟩
          unfold body21
          rw [ss_cons', s_ite', efull]
          simp only [fr21, onB_bl, bind_ok, bind_ex, bind_ite, onS_bl, on_ok, on_ex, on_ite, next_nx, next_rt, next_ct, next_ex, next_ite, e_non, e_bl, e_int, e_str, gV_some, e_var, optR_some, e_gco, e_tup, e_lst, e_bin, negI_int, e_neg, e_cmp, e_chain, notI_bl, e_not, e_and, e_or, e_ite, e_ix, e_sl, e_call, e_bi, e_me, optB_some, e_isi, attI_exc, e_att, oG_some, gD_some, e_gin, e_gix, e_gget, o_no, oI_int, o_some, t_no, tI_bl, t_some, es_nil, es_cons, qI_tup, qI_str, qI_ref, q_val, rI_int, q_rng, enI_ref, q_enum, oS_some, s_asg', s_par', s_setix', s_expr', s_ret', s_ite', s_for', s_cont', s_raise', ss_nil', ss_cons', stG_nm, stG_tp, stGs_nil, stGs_cons, fin_rt, fin_nx, fin_ex, fin_ite, List.getElem?_cons_zero, List.getElem?_cons_succ, List.set_cons_zero, List.set_cons_succ, List.length_cons, List.length_nil, List.length_set, List.replicate, if_true, if_false, Bool.not_true, Bool.not_false, Bool.false_eq_true, Bool.and_true, Bool.true_and, Bool.and_false, Bool.false_and, Bool.or_true, Bool.true_or, Bool.or_false, Bool.false_or, decide_true, decide_false, Option.bind_some, Option.isSome_some, List.nil_append, List.cons_append, List.append_nil, startF_one, startF_two, permute_one, permute_two, le_int, lt_int, gt_int, ge_int, add_int, sub_int, not_true_eq_false, not_false_eq_true, and_self, and_true, true_and, or_true, true_or, ite_self, cmp_eq _ hx aOpen, dO, cmp_eq _ hx aClose, dC, q1, lim00, newL_eq, hE, Option.isNone_some, hlast, (recv_list hr2).1, p1, hix, app_lst _ hr hl2]
end LF.Pl
set_option Elab.async false
set_option linter.all false
set_option maxHeartbeats 8000000
set_option maxRecDepth 100000
/-! _law_things_in, whole. -/
namespace LF.Pl
open PySem
def outL (r : Except Nat (List IV)) : IV := match r with
  | .ok xs => .tup xs
  | .error k => .int k
def last21 : CSs := (.cons (.ret (.ite (.cmp .eq (.bi .len (.cons (.var 2) .nil)) (.int 1)) (.bi .tuple (.cons (.ix (.var 2) (.int 0)) .nil)) (.bi .len (.cons (.var 0) .nil))))
    .nil)
theorem b21_eq : b21 = .cons (.asg (.nm 2) (.lst (.cons (.lst .nil) .nil))) (.cons (.for (.tp [(.nm 3), (.nm 4)]) (.enum (.var 0)) body21) last21) := rfl
theorem f21 (n : Nat) (A0 : IH) (wr : Nat) (most : Nat) (ws : List Str) (hw : A0[wr]? = some (.lst (ws.map .str))) (hs : words ws) : ∃ A', Gr A0 A' ∧ callI prg (n + 3) 21 [.ref wr, .int most] A0 = .ok (outL (rdAll most ws)) A' := by
  rw [call_eq (d := ⟨2, 6, b21⟩) rfl rfl, b21_eq]
  obtain ⟨hs1, hs2⟩ := hs
  have hw1 : (A0 ++ [IO.lst []] ++ [IO.lst [IV.ref A0.length]])[wr]? = some (.lst (ws.map .str)) := ((Gr.new A0 [IO.lst []]).snoc _).get hw
  have e1 : evSs prg (callI prg (n + 2)) (.cons (.asg (.nm 2) (.lst (.cons (.lst .nil) .nil))) (.cons (.for (.tp [(.nm 3), (.nm 4)]) (.enum (.var 0)) body21) last21)) (startF 6 [.ref wr, .int most]) A0 =
      (forGo (fun x ρ A => oS (stG A (.tp [(.nm 3), (.nm 4)]) x ρ) fun ρ => evSs prg (callI prg (n + 2)) body21 ρ A) (.enL wr) (LIM + 1) 0 (fr21 wr most (A0.length + 1) none none none) (A0 ++ [IO.lst []] ++ [IO.lst [IV.ref A0.length]])).next fun ρ A => evSs prg (callI prg (n + 2)) last21 ρ A := by
    rw [ss_cons', s_asg', show startF 6 [.ref wr, .int most] = [some (.ref wr), some (.int most), none, none, none, none] from rfl]
    simp only [e_lst, es_cons, es_nil, bind_ok, List.length_nil, List.length_cons, lim00, lim1, if_true, newL_eq, on_ok, stG_nm, Nat.reduceAdd, Nat.reduceLT, oS_some, List.set_cons_succ, List.set_cons_zero, next_nx, ss_cons', s_for', q_enum, e_var, List.getElem?_cons_zero, gV_some, enI_ref, listOf_lst hw1, Option.isSome_some, List.length_append, Nat.zero_add]
    rfl
  rw [e1]
  have hlo : ∀ {A : IH}, Gr A0 A → listOf A wr = some (ws.map .str) := fun g => listOf_lst (g.get hw)
  have f0' : Fits most [(A0.length, [])] := by show 0 + (if 1 < 1 then 1 else 0) ≤ most; simp
  rcases for_inv0 (N := ws.length) (q := .enL wr) (f := fun x ρ A => oS (stG A (.tp [(.nm 3), (.nm 4)]) x ρ) fun ρ => evSs prg (callI prg (n + 2)) body21 ρ A)
    (fun i ρ A => ∃ x3 x4 x5 s, ρ = fr21 wr most (A0.length + 1) x3 x4 x5 ∧ RdI A0 ws most (A0.length + 1) i A s ∧ Fits most s)
    (fun r => ∃ A' k, r = .rt (.int (k : Nat)) A' ∧ Gr A0 A' ∧ rd most 0 [[]] ws = .error k) (by omega)
    (fun i ρ A hi ⟨x3, x4, x5, s, e, R, F⟩ => by
      subst e
      have hwi : ws[i]? = some ws[i] := List.getElem?_eq_getElem hi
      obtain ⟨a1, a2⟩ := hs1 _ (List.getElem_mem hi)
      refine ⟨.tup [.int i, .str ws[i]], ?_, ?_⟩
      · rw [item_enL, hlo R.gr]
        simp
      · have hst : stG A (.tp [(.nm 3), (.nm 4)]) (.tup [.int i, .str ws[i]]) (fr21 wr most (A0.length + 1) x3 x4 x5) = some (fr21 wr most (A0.length + 1) (some (.int i)) (some (.str ws[i])) x5) := by
          simp only [stG_tp, stGs_cons, stGs_nil, stG_nm, fr21, List.length_cons, List.length_nil, Nat.reduceAdd, Nat.reduceLT, if_true, Option.bind_some, List.set_cons_succ, List.set_cons_zero]
        rw [hst, oS_some]
        rcases turn21 n (x5 := x5) (wr := wr) R F hwi a2 a1 (by omega) with ⟨A', s', y5, c, R', F'⟩ | ⟨A', c, g, z⟩
        · exact .inl ⟨_, A', .inl c, _, _, _, s', rfl, R', F'⟩
        · exact .inr ⟨⟨A', i, c, g, z⟩, .inl ⟨_, A', c⟩⟩)
    (fun ρ A ⟨x3, x4, x5, s, e, R, F⟩ => by rw [item_enL, hlo R.gr]; simp) ⟨none, none, none, _, rfl, start_rd, f0'⟩ with ⟨ρ', A', r, x3, x4, x5, s, e, R, F⟩ | ⟨⟨A', k, e, g, z⟩, _⟩
  · rw [r, next_nx]
    subst e
    have hrd : rd most 0 [[]] ws = .ok (s.map (·.2)) := by
      rw [R.rd, List.drop_length, rd]
    have hl := R.st.len
    have hwl := len_lst (R.gr.get hw)
    rw [List.length_map] at hwl
    unfold rdAll
    rw [hrd]
    refine ⟨A', R.gr, ?_⟩
    by_cases h1 : 1 < s.length
    · dsimp only
      rw [List.length_map, if_pos h1]
      have hd : decide ((s.length : Int) = 1) = false := decide_eq_false (by omega)
      simp only [last21, fr21, onB_bl, bind_ok, bind_ex, bind_ite, onS_bl, on_ok, on_ex, on_ite, next_nx, next_rt, next_ct, next_ex, next_ite, e_non, e_bl, e_int, e_str, gV_some, e_var, optR_some, e_gco, e_tup, e_lst, e_bin, negI_int, e_neg, e_cmp, e_chain, notI_bl, e_not, e_and, e_or, e_ite, e_ix, e_sl, e_call, e_bi, e_me, optB_some, e_isi, attI_exc, e_att, oG_some, gD_some, e_gin, e_gix, e_gget, o_no, oI_int, o_some, t_no, tI_bl, t_some, es_nil, es_cons, qI_tup, qI_str, qI_ref, q_val, rI_int, q_rng, enI_ref, q_enum, oS_some, s_asg', s_par', s_setix', s_expr', s_ret', s_ite', s_for', s_cont', s_raise', ss_nil', ss_cons', stG_nm, stG_tp, stGs_nil, stGs_cons, fin_rt, fin_nx, fin_ex, fin_ite, List.getElem?_cons_zero, List.getElem?_cons_succ, List.set_cons_zero, List.set_cons_succ, List.length_cons, List.length_nil, List.length_set, List.replicate, if_true, if_false, Bool.not_true, Bool.not_false, Bool.false_eq_true, Bool.and_true, Bool.true_and, Bool.and_false, Bool.false_and, Bool.or_true, Bool.true_or, Bool.or_false, Bool.false_or, decide_true, decide_false, Option.bind_some, Option.isSome_some, List.nil_append, List.cons_append, List.append_nil, startF_one, startF_two, permute_one, permute_two, le_int, lt_int, gt_int, ge_int, add_int, sub_int, not_true_eq_false, not_false_eq_true, and_self, and_true, true_and, or_true, true_or, ite_self, hl, eqI_int, hd, hwl]
      rfl
    · dsimp only
      rw [List.length_map, if_neg h1]
      cases s with
      | nil => exact absurd rfl R.ne
      | cons q t =>
        have hf := R.st.first
        have hd : decide ((((q :: t).length : Nat) : Int) = 1) = true := decide_eq_true (by rw [List.length_cons] at h1 ⊢; omega)
        rw [List.length_cons] at hd hl
        simp only [last21, fr21, onB_bl, bind_ok, bind_ex, bind_ite, onS_bl, on_ok, on_ex, on_ite, next_nx, next_rt, next_ct, next_ex, next_ite, e_non, e_bl, e_int, e_str, gV_some, e_var, optR_some, e_gco, e_tup, e_lst, e_bin, negI_int, e_neg, e_cmp, e_chain, notI_bl, e_not, e_and, e_or, e_ite, e_ix, e_sl, e_call, e_bi, e_me, optB_some, e_isi, attI_exc, e_att, oG_some, gD_some, e_gin, e_gix, e_gget, o_no, oI_int, o_some, t_no, tI_bl, t_some, es_nil, es_cons, qI_tup, qI_str, qI_ref, q_val, rI_int, q_rng, enI_ref, q_enum, oS_some, s_asg', s_par', s_setix', s_expr', s_ret', s_ite', s_for', s_cont', s_raise', ss_nil', ss_cons', stG_nm, stG_tp, stGs_nil, stGs_cons, fin_rt, fin_nx, fin_ex, fin_ite, List.getElem?_cons_zero, List.getElem?_cons_succ, List.set_cons_zero, List.set_cons_succ, List.length_cons, List.length_nil, List.length_set, List.replicate, if_true, if_false, Bool.not_true, Bool.not_false, Bool.false_eq_true, Bool.and_true, Bool.true_and, Bool.and_false, Bool.false_and, Bool.or_true, Bool.true_or, Bool.or_false, Bool.false_or, decide_true, decide_false, Option.bind_some, Option.isSome_some, List.nil_append, List.cons_append, List.append_nil, startF_one, startF_two, permute_one, permute_two, le_int, lt_int, gt_int, ge_int, add_int, sub_int, not_true_eq_false, not_false_eq_true, and_self, and_true, true_and, or_true, true_or, ite_self, hl, eqI_int, hd, hf, tup_lst (R.st.at_ q List.mem_cons_self)]
        rfl
  · rw [e, next_rt, fin_rt]
    unfold rdAll
    rw [z]
    exact ⟨A', g, rfl⟩
/-! ### one thing -/
theorem rd_ne {most : Nat} : ∀ (ws : List Str) (k : Nat) (lv lv' : List (List IV)), (lv.length ≤ 1 → lv.headD [] ≠ []) → lv ≠ [] → rd most k lv ws = .ok lv' → (lv'.length ≤ 1 → lv'.headD [] ≠ [])
  | [], k, lv, lv', h, _, e => by
    rw [rd] at e
    cases e
    exact h
  | w :: ws, k, lv, lv', h, hne, e => by
    rw [rd] at e
    cases hs : rdStep most lv w with
    | none => rw [hs] at e; cases e
    | some lv2 =>
      rw [hs] at e
      obtain ⟨xs, b, rfl⟩ : ∃ xs b, lv = xs ++ [b] := ⟨_, _, (List.dropLast_concat_getLast hne).symm⟩
      have key : (lv2.length ≤ 1 → lv2.headD [] ≠ []) ∧ lv2 ≠ [] := by
        unfold rdStep at hs
        split at hs
        · rename_i hc
          cases hs
          obtain ⟨ys, a, rfl⟩ : ∃ ys a, xs = ys ++ [a] := by
            refine ⟨_, _, (List.dropLast_concat_getLast (l := xs) ?_).symm⟩
            intro z
            rw [z] at hc
            simp at hc
          rw [popT_cat]
          constructor
          · intro z
            cases ys with
            | nil => simp
            | cons y ys => simp at z
          · simp
        · split at hs
          · cases hs
          · split at hs
            · cases hs
              constructor
              · intro z; simp at z
              · simp
            · cases ha : atomOf w with
              | none => rw [ha] at hs; cases hs
              | some v =>
                rw [ha] at hs
                cases hs
                rw [appT_cat]
                constructor
                · intro z
                  cases xs with
                  | nil => simp
                  | cons y ys => simp at z
                · simp
      exact rd_ne ws (k + 1) lv2 lv' key.1 key.2 e
/-- what is read of a row of words is not empty -/
theorem rdAll_ne {most : Nat} {w : Str} {ws : List Str} {xs : List IV} (h : rdAll most (w :: ws) = .ok xs) : xs ≠ [] := by
  unfold rdAll at h
  cases hr : rd most 0 [[]] (w :: ws) with
  | error k => rw [hr] at h; cases h
  | ok lv =>
    rw [hr] at h
    dsimp only at h
    split at h
    · cases h
    · rename_i hl
      cases h
      rw [rd] at hr
      cases hs : rdStep most [[]] w with
      | none => rw [hs] at hr; cases hr
      | some lv2 =>
        rw [hs] at hr
        have key : (lv2.length ≤ 1 → lv2.headD [] ≠ []) ∧ lv2 ≠ [] := by
          unfold rdStep at hs
          rw [if_neg (by simp)] at hs
          split at hs
          · cases hs
          · split at hs
            · cases hs
              constructor
              · intro z; simp at z
              · simp
            · cases ha : atomOf w with
              | none => rw [ha] at hs; cases hs
              | some v =>
                rw [ha] at hs
                cases hs
                constructor
                · intro _; simp [appT]
                · simp [appT]
        exact rd_ne ws 1 lv2 lv key.1 key.2 hr (by omega)
end LF.Pl
set_option Elab.async false
set_option linter.all false
set_option maxHeartbeats 8000000
set_option maxRecDepth 100000
/-! One thing: read, and due. -/
namespace LF.Pl
open PySem
theorem tSp : TL.tl (" " : Str) = [32] := by decide +kernel
theorem len_sp : ((" " : Str)).length ≠ 0 := by decide +kernel
theorem tNl : TL.tl ("\n" : Str) = [10] := by decide +kernel
theorem len_nl : (("\n" : Str)).length ≠ 0 := by decide +kernel
/-- a text that is read -/
def Tx (x : Str) : Prop := Asc x ∧ x.length + 3 ≤ LIM
theorem words_split {x y : Str} {s : Nat} (hy : TL.tl y = [s]) (hs : s < 256) (h : Tx x) : words (Txt.split x y) := by
  obtain ⟨h1, h2, h3⟩ := split_len (x := x) hy hs
  have h4 := h.2
  exact ⟨fun w hw => ⟨split_asc hy hs h.1 w hw, by have := h3 w hw; omega⟩, by omega⟩
theorem split_cons {x y : Str} {s : Nat} (hy : TL.tl y = [s]) (hs : s < 256) : ∃ w ws, Txt.split x y = w :: ws := by
  have h := (split_len (x := x) hy hs).2.1
  cases e : Txt.split x y with
  | nil => rw [e] at h; simp at h
  | cons w ws => exact ⟨w, ws, rfl⟩
def oneOf (x : Str) : Except Nat IV := match rdAll 1 (Txt.split x " ") with
  | .error k => .error k
  | .ok xs => .ok (xs.headD .non)
theorem ix_tup0 (v : IV) (r : List IV) (A : IH) : ixI (.tup (v :: r)) (.int 0) A = .ok v A := by
  show optR (L2.atI (v :: r) 0) A = _
  rw [atI0]
  rfl
/-- read_thing -/
theorem f9 (n : Nat) (A : IH) (x : Str) (ln : IV) (h : Tx x) : ∃ A', Gr A A' ∧ callI prg (n + 5) 9 [.str x, ln] A = (match oneOf x with
    | .ok v => .ok v A'
    | .error k => .ex 10 [ln, .int k] A') := by
  rw [call_eq (d := ⟨2, 2, b9⟩) rfl rfl]
  have h4 := h.2
  have hm := me_split (x := x) (y := " ") A len_sp (by omega)
  obtain ⟨A', g, e⟩ := f8 n (A ++ [IO.lst ((Txt.split x " ").map .str)]) A.length ln 1 (Txt.split x " ") (at_new _ _) (words_split tSp (by decide) h)
  have e : callI prg (n + 4) 8 [.ref A.length, ln, .int 1] (A ++ [IO.lst ((Txt.split x " ").map .str)]) = outOf ln (rdAll 1 (Txt.split x " ")) A' := e
  refine ⟨A', (Gr.new _ _).trans g, ?_⟩
  unfold oneOf
  cases hr : rdAll 1 (Txt.split x " ") with
  | error k =>
    rw [hr] at e
    have e : callI prg (n + 4) 8 [.ref A.length, ln, .int 1] (A ++ [IO.lst ((Txt.split x " ").map .str)]) = .ex 10 [ln, .int k] A' := e
    simp only [onB_bl, bind_ok, bind_ex, bind_ite, onS_bl, on_ok, on_ex, on_ite, next_nx, next_rt, next_ct, next_ex, next_ite, e_non, e_bl, e_int, e_str, gV_some, e_var, optR_some, e_gco, e_tup, e_lst, e_bin, negI_int, e_neg, e_cmp, e_chain, notI_bl, e_not, e_and, e_or, e_ite, e_ix, e_sl, e_call, e_bi, e_me, optB_some, e_isi, attI_exc, e_att, oG_some, gD_some, e_gin, e_gix, e_gget, o_no, oI_int, o_some, t_no, tI_bl, t_some, es_nil, es_cons, qI_tup, qI_str, qI_ref, q_val, rI_int, q_rng, enI_ref, q_enum, oS_some, s_asg', s_par', s_setix', s_expr', s_ret', s_ite', s_for', s_cont', s_raise', ss_nil', ss_cons', stG_nm, stG_tp, stGs_nil, stGs_cons, fin_rt, fin_nx, fin_ex, fin_ite, List.getElem?_cons_zero, List.getElem?_cons_succ, List.set_cons_zero, List.set_cons_succ, List.length_cons, List.length_nil, List.length_set, List.replicate, if_true, if_false, Bool.not_true, Bool.not_false, Bool.false_eq_true, Bool.and_true, Bool.true_and, Bool.and_false, Bool.false_and, Bool.or_true, Bool.true_or, Bool.or_false, Bool.false_or, decide_true, decide_false, Option.bind_some, Option.isSome_some, List.nil_append, List.cons_append, List.append_nil, startF_one, startF_two, permute_one, permute_two, le_int, lt_int, gt_int, ge_int, add_int, sub_int, not_true_eq_false, not_false_eq_true, and_self, and_true, true_and, or_true, true_or, ite_self, b9, recv_split, hm, permute_three, e]
  | ok xs =>
    rw [hr] at e
    have e : callI prg (n + 4) 8 [.ref A.length, ln, .int 1] (A ++ [IO.lst ((Txt.split x " ").map .str)]) = .ok (.tup xs) A' := e
    obtain ⟨w, ws, hws⟩ := split_cons (x := x) tSp (by decide)
    rw [hws] at hr
    have hne := rdAll_ne hr
    cases xs with
    | nil => exact absurd rfl hne
    | cons v r => simp only [onB_bl, bind_ok, bind_ex, bind_ite, onS_bl, on_ok, on_ex, on_ite, next_nx, next_rt, next_ct, next_ex, next_ite, e_non, e_bl, e_int, e_str, gV_some, e_var, optR_some, e_gco, e_tup, e_lst, e_bin, negI_int, e_neg, e_cmp, e_chain, notI_bl, e_not, e_and, e_or, e_ite, e_ix, e_sl, e_call, e_bi, e_me, optB_some, e_isi, attI_exc, e_att, oG_some, gD_some, e_gin, e_gix, e_gget, o_no, oI_int, o_some, t_no, tI_bl, t_some, es_nil, es_cons, qI_tup, qI_str, qI_ref, q_val, rI_int, q_rng, enI_ref, q_enum, oS_some, s_asg', s_par', s_setix', s_expr', s_ret', s_ite', s_for', s_cont', s_raise', ss_nil', ss_cons', stG_nm, stG_tp, stGs_nil, stGs_cons, fin_rt, fin_nx, fin_ex, fin_ite, List.getElem?_cons_zero, List.getElem?_cons_succ, List.set_cons_zero, List.set_cons_succ, List.length_cons, List.length_nil, List.length_set, List.replicate, if_true, if_false, Bool.not_true, Bool.not_false, Bool.false_eq_true, Bool.and_true, Bool.true_and, Bool.and_false, Bool.false_and, Bool.or_true, Bool.true_or, Bool.or_false, Bool.false_or, decide_true, decide_false, Option.bind_some, Option.isSome_some, List.nil_append, List.cons_append, List.append_nil, startF_one, startF_two, permute_one, permute_two, le_int, lt_int, gt_int, ge_int, add_int, sub_int, not_true_eq_false, not_false_eq_true, and_self, and_true, true_and, or_true, true_or, ite_self, b9, recv_split, hm, permute_three, e, ix_tup0, List.headD_cons]
/-- _law_thing_due -/
theorem f23 (n : Nat) (A : IH) (x : Str) (ln : IV) (h : Tx x) : ∃ A', Gr A A' ∧ callI prg (n + 4) 23 [.str x, ln] A = .ok (match oneOf x with
    | .ok v => .tup [.str "told", v]
    | .error k => .tup [.str "no", .str "text", ln, .int k]) A' := by
  rw [call_eq (d := ⟨2, 3, b23⟩) rfl rfl]
  have h4 := h.2
  have hm := me_split (x := x) (y := " ") A len_sp (by omega)
  obtain ⟨A', g, e⟩ := f21 n (A ++ [IO.lst ((Txt.split x " ").map .str)]) A.length 1 (Txt.split x " ") (at_new _ _) (words_split tSp (by decide) h)
  have e : callI prg (n + 3) 21 [.ref A.length, .int 1] (A ++ [IO.lst ((Txt.split x " ").map .str)]) = .ok (outL (rdAll 1 (Txt.split x " "))) A' := e
  refine ⟨A', (Gr.new _ _).trans g, ?_⟩
  unfold oneOf
  cases hr : rdAll 1 (Txt.split x " ") with
  | error k =>
    rw [hr] at e
    simp only [onB_bl, bind_ok, bind_ex, bind_ite, onS_bl, on_ok, on_ex, on_ite, next_nx, next_rt, next_ct, next_ex, next_ite, e_non, e_bl, e_int, e_str, gV_some, e_var, optR_some, e_gco, e_tup, e_lst, e_bin, negI_int, e_neg, e_cmp, e_chain, notI_bl, e_not, e_and, e_or, e_ite, e_ix, e_sl, e_call, e_bi, e_me, optB_some, e_isi, attI_exc, e_att, oG_some, gD_some, e_gin, e_gix, e_gget, o_no, oI_int, o_some, t_no, tI_bl, t_some, es_nil, es_cons, qI_tup, qI_str, qI_ref, q_val, rI_int, q_rng, enI_ref, q_enum, oS_some, s_asg', s_par', s_setix', s_expr', s_ret', s_ite', s_for', s_cont', s_raise', ss_nil', ss_cons', stG_nm, stG_tp, stGs_nil, stGs_cons, fin_rt, fin_nx, fin_ex, fin_ite, List.getElem?_cons_zero, List.getElem?_cons_succ, List.set_cons_zero, List.set_cons_succ, List.length_cons, List.length_nil, List.length_set, List.replicate, if_true, if_false, Bool.not_true, Bool.not_false, Bool.false_eq_true, Bool.and_true, Bool.true_and, Bool.and_false, Bool.false_and, Bool.or_true, Bool.true_or, Bool.or_false, Bool.false_or, decide_true, decide_false, Option.bind_some, Option.isSome_some, List.nil_append, List.cons_append, List.append_nil, startF_one, startF_two, permute_one, permute_two, le_int, lt_int, gt_int, ge_int, add_int, sub_int, not_true_eq_false, not_false_eq_true, and_self, and_true, true_and, or_true, true_or, ite_self, b23, recv_split, hm, e, outL, Nat.reduceAdd, Nat.reduceLT, show isI prg (.int k) .int = some true from rfl, show (0 + 1 + 1 + 1 + 1 ≤ LIM) = True from eq_true (by decide)]
  | ok xs =>
    rw [hr] at e
    obtain ⟨w, ws, hws⟩ := split_cons (x := x) tSp (by decide)
    rw [hws] at hr
    have hne := rdAll_ne hr
    cases xs with
    | nil => exact absurd rfl hne
    | cons v r => simp only [onB_bl, bind_ok, bind_ex, bind_ite, onS_bl, on_ok, on_ex, on_ite, next_nx, next_rt, next_ct, next_ex, next_ite, e_non, e_bl, e_int, e_str, gV_some, e_var, optR_some, e_gco, e_tup, e_lst, e_bin, negI_int, e_neg, e_cmp, e_chain, notI_bl, e_not, e_and, e_or, e_ite, e_ix, e_sl, e_call, e_bi, e_me, optB_some, e_isi, attI_exc, e_att, oG_some, gD_some, e_gin, e_gix, e_gget, o_no, oI_int, o_some, t_no, tI_bl, t_some, es_nil, es_cons, qI_tup, qI_str, qI_ref, q_val, rI_int, q_rng, enI_ref, q_enum, oS_some, s_asg', s_par', s_setix', s_expr', s_ret', s_ite', s_for', s_cont', s_raise', ss_nil', ss_cons', stG_nm, stG_tp, stGs_nil, stGs_cons, fin_rt, fin_nx, fin_ex, fin_ite, List.getElem?_cons_zero, List.getElem?_cons_succ, List.set_cons_zero, List.set_cons_succ, List.length_cons, List.length_nil, List.length_set, List.replicate, if_true, if_false, Bool.not_true, Bool.not_false, Bool.false_eq_true, Bool.and_true, Bool.true_and, Bool.and_false, Bool.false_and, Bool.or_true, Bool.true_or, Bool.or_false, Bool.false_or, decide_true, decide_false, Option.bind_some, Option.isSome_some, List.nil_append, List.cons_append, List.append_nil, startF_one, startF_two, permute_one, permute_two, le_int, lt_int, gt_int, ge_int, add_int, sub_int, not_true_eq_false, not_false_eq_true, and_self, and_true, true_and, or_true, true_or, ite_self, b23, recv_split, hm, e, outL, Nat.reduceAdd, Nat.reduceLT, show isI prg (.tup (v :: r)) .int = some false from rfl, ix_tup0, List.headD_cons, show (0 + 1 + 1 ≤ LIM) = True from eq_true (by decide)]
end LF.Pl
set_option Elab.async false
set_option linter.all false
set_option maxHeartbeats 8000000
set_option maxRecDepth 100000
/-! _law_refusal of what the program raises. -/
namespace LF.Pl
open PySem
theorem isi10 (fs : List IV) (k : Nat) : isI prg (.exc 10 fs) (.cls k) = some (prg.sub 10 k) := rfl
theorem isi10v (fs : List IV) : isI prg (.exc 10 fs) .ve = some true := rfl
theorem toD_bls {A : IH} {m : Nat} {b1 b2 b3 b4 : Bool} (h : A[m]? = some (.lst [.bl b1, .bl b2, .bl b3, .bl b4])) : toD A (.ref m) = some (.list [.bool b1, .bool b2, .bool b3, .bool b4]) := by
  unfold toD
  rw [toW_ref]
  unfold refD
  rw [h]
  dsimp only
  rw [toWs, toWs, toWs, toWs, toWs, toW, toW, toW, toW]
  rfl
/-- _law_refusal -/
theorem f18 (n : Nat) (A : IH) (ln k : IV) : ∃ A', Gr A A' ∧ callI prg (n + 1) 18 [.exc 10 [ln, k]] A = .ok (.tup [.str "no", .str "text", ln, k]) A' := by
  rw [call_eq (d := ⟨1, 4, b18⟩) rfl rfl]
  obtain ⟨B1, hB1⟩ : ∃ B, B = A ++ [IO.lst [.bl false, .bl false, .bl false, .bl false]] := ⟨_, rfl⟩
  obtain ⟨B2, hB2⟩ : ∃ B, B = B1 ++ [IO.lst [.bl false, .bl false, .bl true, .bl false]] := ⟨_, rfl⟩
  obtain ⟨B3, hB3⟩ : ∃ B, B = B2 ++ [IO.lst [.bl false, .bl false, .bl false, .bl false, .bl false, .bl false, .bl true, .bl false]] := ⟨_, rfl⟩
  obtain ⟨B4, hB4⟩ : ∃ B, B = B3 ++ [IO.lst [.bl false, .bl false, .bl true, .bl true]] := ⟨_, rfl⟩
  obtain ⟨B5, hB5⟩ : ∃ B, B = B4 ++ [IO.lst [.bl false, .bl false, .bl true, .bl true]] := ⟨_, rfl⟩
  have g1 : Gr A B1 := by rw [hB1]; exact Gr.new _ _
  have g2 : Gr B1 B2 := by rw [hB2]; exact Gr.new _ _
  have g3 : Gr B2 B3 := by rw [hB3]; exact Gr.new _ _
  have g4 : Gr B3 B4 := by rw [hB4]; exact Gr.new _ _
  have g5 : Gr B4 B5 := by rw [hB5]; exact Gr.new _ _
  have e1 : B1[A.length]? = some (.lst [.bl false, .bl false, .bl false, .bl false]) := by rw [hB1]; exact at_new _ _
  have e2 : B2[B1.length]? = some (.lst [.bl false, .bl false, .bl true, .bl false]) := by rw [hB2]; exact at_new _ _
  have e3 : B3[B2.length]? = some (.lst [.bl false, .bl false, .bl false, .bl false, .bl false, .bl false, .bl true, .bl false]) := by rw [hB3]; exact at_new _ _
  have e4 : B4[B3.length]? = some (.lst [.bl false, .bl false, .bl true, .bl true]) := by rw [hB4]; exact at_new _ _
  have e5 : B5[B4.length]? = some (.lst [.bl false, .bl false, .bl true, .bl true]) := by rw [hB5]; exact at_new _ _
  have add : binI .add (.ref A.length) (.ref B1.length) B2 = .ok (.ref B2.length) B3 := by
    show (match B2[A.length]?, B2[B1.length]? with
      | some (.lst xs), some (.lst ys) => if xs.length + ys.length ≤ LIM then Rs.ok (IV.ref B2.length) (B2 ++ [IO.lst (xs ++ ys)]) else .bad
      | _, _ => .bad) = _
    rw [g2.get e1, e2, hB3]
    rfl
  have rc : recvI .count (.ref B2.length) B3 = true := by
    show (listOf B3 B2.length).isSome = true
    rw [listOf_lst e3]; rfl
  have ri : recvI .index (.ref B2.length) B3 = true := rc
  have cnt : meI .count (.ref B2.length) [.bl true] B3 = .ok (.int 1) B3 := by
    show (match listOf B3 B2.length with
      | some xs => if flatI (.bl true) && xs.all flatI then Rs.ok (IV.int (xs.countP fun y => eqF y (.bl true) : Nat)) B3 else .bad
      | none => .bad) = _
    rw [listOf_lst e3]
    rfl
  have idx : meI .index (.ref B2.length) [.bl true] B3 = .ok (.int 6) B3 := by
    show (match listOf B3 B2.length with
      | some xs => if flatI (.bl true) && xs.all flatI then (match idxF (.bl true) xs 0 with
        | some k => Rs.ok (IV.int k) B3
        | none => .bad) else .bad
      | none => .bad) = _
    rw [listOf_lst e3]
    rfl
  have ne : cmpI .ne (.ref B3.length) (.ref B4.length) B5 = .ok (.bl false) B5 := by
    rw [cmpE_ne]
    unfold eqI
    rw [toD_bls (g5.get e4), toD_bls e5]
    rfl
  have L4 : (0 + 1 + 1 + 1 + 1 ≤ LIM) = True := eq_true (by decide)
  have s4 : prg.sub 10 4 = false := by decide
  have s5 : prg.sub 10 5 = false := by decide
  have s6 : prg.sub 10 6 = false := by decide
  have s7 : prg.sub 10 7 = false := by decide
  have s8 : prg.sub 10 8 = false := by decide
  have s9 : prg.sub 10 9 = false := by decide
  have s10 : prg.sub 10 10 = true := by decide
  have s11 : prg.sub 10 11 = false := by decide
  have s1 : prg.sub 10 1 = false := by decide
  have s2 : prg.sub 10 2 = false := by decide
  have s3 : prg.sub 10 3 = true := by decide
  have fl4 : prg.fld 10 4 = some 0 := by decide
  have fl0 : prg.fld 10 0 = some 1 := by decide
  refine ⟨B5, (((g1.trans g2).trans g3).trans g4).trans g5, ?_⟩
  simp only [onB_bl, bind_ok, bind_ex, bind_ite, onS_bl, on_ok, on_ex, on_ite, next_nx, next_rt, next_ct, next_ex, next_ite, e_non, e_bl, e_int, e_str, gV_some, e_var, optR_some, e_gco, e_tup, e_lst, e_bin, negI_int, e_neg, e_cmp, e_chain, notI_bl, e_not, e_and, e_or, e_ite, e_ix, e_sl, e_call, e_bi, e_me, optB_some, e_isi, attI_exc, e_att, oG_some, gD_some, e_gin, e_gix, e_gget, o_no, oI_int, o_some, t_no, tI_bl, t_some, es_nil, es_cons, qI_tup, qI_str, qI_ref, q_val, rI_int, q_rng, enI_ref, q_enum, oS_some, s_asg', s_par', s_setix', s_expr', s_ret', s_ite', s_for', s_cont', s_raise', ss_nil', ss_cons', stG_nm, stG_tp, stGs_nil, stGs_cons, fin_rt, fin_nx, fin_ex, fin_ite, List.getElem?_cons_zero, List.getElem?_cons_succ, List.set_cons_zero, List.set_cons_succ, List.length_cons, List.length_nil, List.length_set, List.replicate, if_true, if_false, Bool.not_true, Bool.not_false, Bool.false_eq_true, Bool.and_true, Bool.true_and, Bool.and_false, Bool.false_and, Bool.or_true, Bool.true_or, Bool.or_false, Bool.false_or, decide_true, decide_false, Option.bind_some, Option.isSome_some, List.nil_append, List.cons_append, List.append_nil, startF_one, startF_two, permute_one, permute_two, le_int, lt_int, gt_int, ge_int, add_int, sub_int, not_true_eq_false, not_false_eq_true, and_self, and_true, true_and, or_true, true_or, ite_self, b18, isi10, isi10v, s1, s2, s3, s4, s5, s6, s7, s8, s9, s10, s11, L4, newL_eq, Nat.reduceAdd, Nat.reduceLT, ← hB1, ← hB2, add, rc, ri, cnt, idx, eqI_int, show decide ((1 : Int) = 1) = true from rfl, ← hB4,
    show decide ((6 : Int) = 8) = false from rfl, show decide ((6 : Int) < 3) = false from rfl, show decide ((2 : Int) < 6) = true from rfl, show decide ((6 : Int) < 6) = false from rfl, show decide ((5 : Int) < 6) = true from rfl, ← hB5, ne,
    show decide ((6 : Int) = 3) = false from rfl, show decide ((6 : Int) = 4) = false from rfl, show decide ((6 : Int) = 5) = false from rfl, show decide ((6 : Int) = 6) = true from rfl, fl4, fl0]
end LF.Pl
set_option Elab.async false
set_option linter.all false
set_option maxHeartbeats 8000000
set_option maxRecDepth 100000
/-! Steps. -/
namespace LF.Pl
open PySem
/-- what a reading gives: no lists, no errors -/
def Pl : IV → Bool
  | .ref _ => false
  | .exc _ _ => false
  | .glo _ => false
  | _ => true
def isFN : IV → Bool
  | .int i => decide (0 ≤ i)
  | _ => false
/-- is_from_nought -/
theorem f1 (n : Nat) (A : IH) (v : IV) (h : Pl v = true) : callI prg (n + 1) 1 [v] A = .ok (.bl (isFN v)) A := by
  rw [call_eq (d := ⟨1, 1, b1⟩) rfl rfl]
  cases v with
  | non => simp only [onB_bl, bind_ok, bind_ex, bind_ite, onS_bl, on_ok, on_ex, on_ite, next_nx, next_rt, next_ct, next_ex, next_ite, e_non, e_bl, e_int, e_str, gV_some, e_var, optR_some, e_gco, e_tup, e_lst, e_bin, negI_int, e_neg, e_cmp, e_chain, notI_bl, e_not, e_and, e_or, e_ite, e_ix, e_sl, e_call, e_bi, e_me, optB_some, e_isi, attI_exc, e_att, oG_some, gD_some, e_gin, e_gix, e_gget, o_no, oI_int, o_some, t_no, tI_bl, t_some, es_nil, es_cons, qI_tup, qI_str, qI_ref, q_val, rI_int, q_rng, enI_ref, q_enum, oS_some, s_asg', s_par', s_setix', s_expr', s_ret', s_ite', s_for', s_cont', s_raise', ss_nil', ss_cons', stG_nm, stG_tp, stGs_nil, stGs_cons, fin_rt, fin_nx, fin_ex, fin_ite, List.getElem?_cons_zero, List.getElem?_cons_succ, List.set_cons_zero, List.set_cons_succ, List.length_cons, List.length_nil, List.length_set, List.replicate, if_true, if_false, Bool.not_true, Bool.not_false, Bool.false_eq_true, Bool.and_true, Bool.true_and, Bool.and_false, Bool.false_and, Bool.or_true, Bool.true_or, Bool.or_false, Bool.false_or, decide_true, decide_false, Option.bind_some, Option.isSome_some, List.nil_append, List.cons_append, List.append_nil, startF_one, startF_two, permute_one, permute_two, le_int, lt_int, gt_int, ge_int, add_int, sub_int, not_true_eq_false, not_false_eq_true, and_self, and_true, true_and, or_true, true_or, ite_self, b1, show isI prg .non .int = some false from rfl]; rfl
  | bl b => simp only [onB_bl, bind_ok, bind_ex, bind_ite, onS_bl, on_ok, on_ex, on_ite, next_nx, next_rt, next_ct, next_ex, next_ite, e_non, e_bl, e_int, e_str, gV_some, e_var, optR_some, e_gco, e_tup, e_lst, e_bin, negI_int, e_neg, e_cmp, e_chain, notI_bl, e_not, e_and, e_or, e_ite, e_ix, e_sl, e_call, e_bi, e_me, optB_some, e_isi, attI_exc, e_att, oG_some, gD_some, e_gin, e_gix, e_gget, o_no, oI_int, o_some, t_no, tI_bl, t_some, es_nil, es_cons, qI_tup, qI_str, qI_ref, q_val, rI_int, q_rng, enI_ref, q_enum, oS_some, s_asg', s_par', s_setix', s_expr', s_ret', s_ite', s_for', s_cont', s_raise', ss_nil', ss_cons', stG_nm, stG_tp, stGs_nil, stGs_cons, fin_rt, fin_nx, fin_ex, fin_ite, List.getElem?_cons_zero, List.getElem?_cons_succ, List.set_cons_zero, List.set_cons_succ, List.length_cons, List.length_nil, List.length_set, List.replicate, if_true, if_false, Bool.not_true, Bool.not_false, Bool.false_eq_true, Bool.and_true, Bool.true_and, Bool.and_false, Bool.false_and, Bool.or_true, Bool.true_or, Bool.or_false, Bool.false_or, decide_true, decide_false, Option.bind_some, Option.isSome_some, List.nil_append, List.cons_append, List.append_nil, startF_one, startF_two, permute_one, permute_two, le_int, lt_int, gt_int, ge_int, add_int, sub_int, not_true_eq_false, not_false_eq_true, and_self, and_true, true_and, or_true, true_or, ite_self, b1, show isI prg (.bl b) .int = some true from rfl, show isI prg (.bl b) .bool = some true from rfl]; rfl
  | int i => simp only [onB_bl, bind_ok, bind_ex, bind_ite, onS_bl, on_ok, on_ex, on_ite, next_nx, next_rt, next_ct, next_ex, next_ite, e_non, e_bl, e_int, e_str, gV_some, e_var, optR_some, e_gco, e_tup, e_lst, e_bin, negI_int, e_neg, e_cmp, e_chain, notI_bl, e_not, e_and, e_or, e_ite, e_ix, e_sl, e_call, e_bi, e_me, optB_some, e_isi, attI_exc, e_att, oG_some, gD_some, e_gin, e_gix, e_gget, o_no, oI_int, o_some, t_no, tI_bl, t_some, es_nil, es_cons, qI_tup, qI_str, qI_ref, q_val, rI_int, q_rng, enI_ref, q_enum, oS_some, s_asg', s_par', s_setix', s_expr', s_ret', s_ite', s_for', s_cont', s_raise', ss_nil', ss_cons', stG_nm, stG_tp, stGs_nil, stGs_cons, fin_rt, fin_nx, fin_ex, fin_ite, List.getElem?_cons_zero, List.getElem?_cons_succ, List.set_cons_zero, List.set_cons_succ, List.length_cons, List.length_nil, List.length_set, List.replicate, if_true, if_false, Bool.not_true, Bool.not_false, Bool.false_eq_true, Bool.and_true, Bool.true_and, Bool.and_false, Bool.false_and, Bool.or_true, Bool.true_or, Bool.or_false, Bool.false_or, decide_true, decide_false, Option.bind_some, Option.isSome_some, List.nil_append, List.cons_append, List.append_nil, startF_one, startF_two, permute_one, permute_two, le_int, lt_int, gt_int, ge_int, add_int, sub_int, not_true_eq_false, not_false_eq_true, and_self, and_true, true_and, or_true, true_or, ite_self, b1, show isI prg (.int i) .int = some true from rfl, show isI prg (.int i) .bool = some false from rfl]; rfl
  | str x => simp only [onB_bl, bind_ok, bind_ex, bind_ite, onS_bl, on_ok, on_ex, on_ite, next_nx, next_rt, next_ct, next_ex, next_ite, e_non, e_bl, e_int, e_str, gV_some, e_var, optR_some, e_gco, e_tup, e_lst, e_bin, negI_int, e_neg, e_cmp, e_chain, notI_bl, e_not, e_and, e_or, e_ite, e_ix, e_sl, e_call, e_bi, e_me, optB_some, e_isi, attI_exc, e_att, oG_some, gD_some, e_gin, e_gix, e_gget, o_no, oI_int, o_some, t_no, tI_bl, t_some, es_nil, es_cons, qI_tup, qI_str, qI_ref, q_val, rI_int, q_rng, enI_ref, q_enum, oS_some, s_asg', s_par', s_setix', s_expr', s_ret', s_ite', s_for', s_cont', s_raise', ss_nil', ss_cons', stG_nm, stG_tp, stGs_nil, stGs_cons, fin_rt, fin_nx, fin_ex, fin_ite, List.getElem?_cons_zero, List.getElem?_cons_succ, List.set_cons_zero, List.set_cons_succ, List.length_cons, List.length_nil, List.length_set, List.replicate, if_true, if_false, Bool.not_true, Bool.not_false, Bool.false_eq_true, Bool.and_true, Bool.true_and, Bool.and_false, Bool.false_and, Bool.or_true, Bool.true_or, Bool.or_false, Bool.false_or, decide_true, decide_false, Option.bind_some, Option.isSome_some, List.nil_append, List.cons_append, List.append_nil, startF_one, startF_two, permute_one, permute_two, le_int, lt_int, gt_int, ge_int, add_int, sub_int, not_true_eq_false, not_false_eq_true, and_self, and_true, true_and, or_true, true_or, ite_self, b1, show isI prg (.str x) .int = some false from rfl]; rfl
  | tup xs => simp only [onB_bl, bind_ok, bind_ex, bind_ite, onS_bl, on_ok, on_ex, on_ite, next_nx, next_rt, next_ct, next_ex, next_ite, e_non, e_bl, e_int, e_str, gV_some, e_var, optR_some, e_gco, e_tup, e_lst, e_bin, negI_int, e_neg, e_cmp, e_chain, notI_bl, e_not, e_and, e_or, e_ite, e_ix, e_sl, e_call, e_bi, e_me, optB_some, e_isi, attI_exc, e_att, oG_some, gD_some, e_gin, e_gix, e_gget, o_no, oI_int, o_some, t_no, tI_bl, t_some, es_nil, es_cons, qI_tup, qI_str, qI_ref, q_val, rI_int, q_rng, enI_ref, q_enum, oS_some, s_asg', s_par', s_setix', s_expr', s_ret', s_ite', s_for', s_cont', s_raise', ss_nil', ss_cons', stG_nm, stG_tp, stGs_nil, stGs_cons, fin_rt, fin_nx, fin_ex, fin_ite, List.getElem?_cons_zero, List.getElem?_cons_succ, List.set_cons_zero, List.set_cons_succ, List.length_cons, List.length_nil, List.length_set, List.replicate, if_true, if_false, Bool.not_true, Bool.not_false, Bool.false_eq_true, Bool.and_true, Bool.true_and, Bool.and_false, Bool.false_and, Bool.or_true, Bool.true_or, Bool.or_false, Bool.false_or, decide_true, decide_false, Option.bind_some, Option.isSome_some, List.nil_append, List.cons_append, List.append_nil, startF_one, startF_two, permute_one, permute_two, le_int, lt_int, gt_int, ge_int, add_int, sub_int, not_true_eq_false, not_false_eq_true, and_self, and_true, true_and, or_true, true_or, ite_self, b1, show isI prg (.tup xs) .int = some false from rfl]; rfl
  | _ => cases h
def fstW : List IV → Str
  | .str s :: _ => s
  | _ => ""
theorem len_tup (xs : List IV) (A : IH) : biI .len [.tup xs] A = .ok (.int xs.length) A := rfl
/-- first_word -/
theorem f2 (n : Nat) (A : IH) (xs : List IV) (h : xs.all Pl = true) : callI prg (n + 1) 2 [.tup xs] A = .ok (.str (fstW xs)) A := by
  rw [call_eq (d := ⟨1, 1, b2⟩) rfl rfl]
  have t1 : isI prg (.tup xs) .tuple = some true := rfl
  cases xs with
  | nil =>
    simp only [onB_bl, bind_ok, bind_ex, bind_ite, onS_bl, on_ok, on_ex, on_ite, next_nx, next_rt, next_ct, next_ex, next_ite, e_non, e_bl, e_int, e_str, gV_some, e_var, optR_some, e_gco, e_tup, e_lst, e_bin, negI_int, e_neg, e_cmp, e_chain, notI_bl, e_not, e_and, e_or, e_ite, e_ix, e_sl, e_call, e_bi, e_me, optB_some, e_isi, attI_exc, e_att, oG_some, gD_some, e_gin, e_gix, e_gget, o_no, oI_int, o_some, t_no, tI_bl, t_some, es_nil, es_cons, qI_tup, qI_str, qI_ref, q_val, rI_int, q_rng, enI_ref, q_enum, oS_some, s_asg', s_par', s_setix', s_expr', s_ret', s_ite', s_for', s_cont', s_raise', ss_nil', ss_cons', stG_nm, stG_tp, stGs_nil, stGs_cons, fin_rt, fin_nx, fin_ex, fin_ite, List.getElem?_cons_zero, List.getElem?_cons_succ, List.set_cons_zero, List.set_cons_succ, List.length_cons, List.length_nil, List.length_set, List.replicate, if_true, if_false, Bool.not_true, Bool.not_false, Bool.false_eq_true, Bool.and_true, Bool.true_and, Bool.and_false, Bool.false_and, Bool.or_true, Bool.true_or, Bool.or_false, Bool.false_or, decide_true, decide_false, Option.bind_some, Option.isSome_some, List.nil_append, List.cons_append, List.append_nil, startF_one, startF_two, permute_one, permute_two, le_int, lt_int, gt_int, ge_int, add_int, sub_int, not_true_eq_false, not_false_eq_true, and_self, and_true, true_and, or_true, true_or, ite_self, b2, t1, len_tup, eqI_int, show decide (((0 : Nat) : Int) = 0) = true from rfl]
    rfl
  | cons v r =>
    have hv : Pl v = true := (Bool.and_eq_true_iff.mp h).1
    have d : decide (((r.length + 1 : Nat) : Int) = 0) = false := decide_eq_false (by omega)
    cases v with
    | non => simp only [onB_bl, bind_ok, bind_ex, bind_ite, onS_bl, on_ok, on_ex, on_ite, next_nx, next_rt, next_ct, next_ex, next_ite, e_non, e_bl, e_int, e_str, gV_some, e_var, optR_some, e_gco, e_tup, e_lst, e_bin, negI_int, e_neg, e_cmp, e_chain, notI_bl, e_not, e_and, e_or, e_ite, e_ix, e_sl, e_call, e_bi, e_me, optB_some, e_isi, attI_exc, e_att, oG_some, gD_some, e_gin, e_gix, e_gget, o_no, oI_int, o_some, t_no, tI_bl, t_some, es_nil, es_cons, qI_tup, qI_str, qI_ref, q_val, rI_int, q_rng, enI_ref, q_enum, oS_some, s_asg', s_par', s_setix', s_expr', s_ret', s_ite', s_for', s_cont', s_raise', ss_nil', ss_cons', stG_nm, stG_tp, stGs_nil, stGs_cons, fin_rt, fin_nx, fin_ex, fin_ite, List.getElem?_cons_zero, List.getElem?_cons_succ, List.set_cons_zero, List.set_cons_succ, List.length_cons, List.length_nil, List.length_set, List.replicate, if_true, if_false, Bool.not_true, Bool.not_false, Bool.false_eq_true, Bool.and_true, Bool.true_and, Bool.and_false, Bool.false_and, Bool.or_true, Bool.true_or, Bool.or_false, Bool.false_or, decide_true, decide_false, Option.bind_some, Option.isSome_some, List.nil_append, List.cons_append, List.append_nil, startF_one, startF_two, permute_one, permute_two, le_int, lt_int, gt_int, ge_int, add_int, sub_int, not_true_eq_false, not_false_eq_true, and_self, and_true, true_and, or_true, true_or, ite_self, b2, t1, len_tup, eqI_int, d, ix_tup0, show isI prg .non .str = some false from rfl]; rfl
    | bl b => simp only [onB_bl, bind_ok, bind_ex, bind_ite, onS_bl, on_ok, on_ex, on_ite, next_nx, next_rt, next_ct, next_ex, next_ite, e_non, e_bl, e_int, e_str, gV_some, e_var, optR_some, e_gco, e_tup, e_lst, e_bin, negI_int, e_neg, e_cmp, e_chain, notI_bl, e_not, e_and, e_or, e_ite, e_ix, e_sl, e_call, e_bi, e_me, optB_some, e_isi, attI_exc, e_att, oG_some, gD_some, e_gin, e_gix, e_gget, o_no, oI_int, o_some, t_no, tI_bl, t_some, es_nil, es_cons, qI_tup, qI_str, qI_ref, q_val, rI_int, q_rng, enI_ref, q_enum, oS_some, s_asg', s_par', s_setix', s_expr', s_ret', s_ite', s_for', s_cont', s_raise', ss_nil', ss_cons', stG_nm, stG_tp, stGs_nil, stGs_cons, fin_rt, fin_nx, fin_ex, fin_ite, List.getElem?_cons_zero, List.getElem?_cons_succ, List.set_cons_zero, List.set_cons_succ, List.length_cons, List.length_nil, List.length_set, List.replicate, if_true, if_false, Bool.not_true, Bool.not_false, Bool.false_eq_true, Bool.and_true, Bool.true_and, Bool.and_false, Bool.false_and, Bool.or_true, Bool.true_or, Bool.or_false, Bool.false_or, decide_true, decide_false, Option.bind_some, Option.isSome_some, List.nil_append, List.cons_append, List.append_nil, startF_one, startF_two, permute_one, permute_two, le_int, lt_int, gt_int, ge_int, add_int, sub_int, not_true_eq_false, not_false_eq_true, and_self, and_true, true_and, or_true, true_or, ite_self, b2, t1, len_tup, eqI_int, d, ix_tup0, show isI prg (.bl b) .str = some false from rfl]; rfl
    | int i => simp only [onB_bl, bind_ok, bind_ex, bind_ite, onS_bl, on_ok, on_ex, on_ite, next_nx, next_rt, next_ct, next_ex, next_ite, e_non, e_bl, e_int, e_str, gV_some, e_var, optR_some, e_gco, e_tup, e_lst, e_bin, negI_int, e_neg, e_cmp, e_chain, notI_bl, e_not, e_and, e_or, e_ite, e_ix, e_sl, e_call, e_bi, e_me, optB_some, e_isi, attI_exc, e_att, oG_some, gD_some, e_gin, e_gix, e_gget, o_no, oI_int, o_some, t_no, tI_bl, t_some, es_nil, es_cons, qI_tup, qI_str, qI_ref, q_val, rI_int, q_rng, enI_ref, q_enum, oS_some, s_asg', s_par', s_setix', s_expr', s_ret', s_ite', s_for', s_cont', s_raise', ss_nil', ss_cons', stG_nm, stG_tp, stGs_nil, stGs_cons, fin_rt, fin_nx, fin_ex, fin_ite, List.getElem?_cons_zero, List.getElem?_cons_succ, List.set_cons_zero, List.set_cons_succ, List.length_cons, List.length_nil, List.length_set, List.replicate, if_true, if_false, Bool.not_true, Bool.not_false, Bool.false_eq_true, Bool.and_true, Bool.true_and, Bool.and_false, Bool.false_and, Bool.or_true, Bool.true_or, Bool.or_false, Bool.false_or, decide_true, decide_false, Option.bind_some, Option.isSome_some, List.nil_append, List.cons_append, List.append_nil, startF_one, startF_two, permute_one, permute_two, le_int, lt_int, gt_int, ge_int, add_int, sub_int, not_true_eq_false, not_false_eq_true, and_self, and_true, true_and, or_true, true_or, ite_self, b2, t1, len_tup, eqI_int, d, ix_tup0, show isI prg (.int i) .str = some false from rfl]; rfl
    | str x => simp only [onB_bl, bind_ok, bind_ex, bind_ite, onS_bl, on_ok, on_ex, on_ite, next_nx, next_rt, next_ct, next_ex, next_ite, e_non, e_bl, e_int, e_str, gV_some, e_var, optR_some, e_gco, e_tup, e_lst, e_bin, negI_int, e_neg, e_cmp, e_chain, notI_bl, e_not, e_and, e_or, e_ite, e_ix, e_sl, e_call, e_bi, e_me, optB_some, e_isi, attI_exc, e_att, oG_some, gD_some, e_gin, e_gix, e_gget, o_no, oI_int, o_some, t_no, tI_bl, t_some, es_nil, es_cons, qI_tup, qI_str, qI_ref, q_val, rI_int, q_rng, enI_ref, q_enum, oS_some, s_asg', s_par', s_setix', s_expr', s_ret', s_ite', s_for', s_cont', s_raise', ss_nil', ss_cons', stG_nm, stG_tp, stGs_nil, stGs_cons, fin_rt, fin_nx, fin_ex, fin_ite, List.getElem?_cons_zero, List.getElem?_cons_succ, List.set_cons_zero, List.set_cons_succ, List.length_cons, List.length_nil, List.length_set, List.replicate, if_true, if_false, Bool.not_true, Bool.not_false, Bool.false_eq_true, Bool.and_true, Bool.true_and, Bool.and_false, Bool.false_and, Bool.or_true, Bool.true_or, Bool.or_false, Bool.false_or, decide_true, decide_false, Option.bind_some, Option.isSome_some, List.nil_append, List.cons_append, List.append_nil, startF_one, startF_two, permute_one, permute_two, le_int, lt_int, gt_int, ge_int, add_int, sub_int, not_true_eq_false, not_false_eq_true, and_self, and_true, true_and, or_true, true_or, ite_self, b2, t1, len_tup, eqI_int, d, ix_tup0, show isI prg (.str x) .str = some true from rfl]; rfl
    | tup ys => simp only [onB_bl, bind_ok, bind_ex, bind_ite, onS_bl, on_ok, on_ex, on_ite, next_nx, next_rt, next_ct, next_ex, next_ite, e_non, e_bl, e_int, e_str, gV_some, e_var, optR_some, e_gco, e_tup, e_lst, e_bin, negI_int, e_neg, e_cmp, e_chain, notI_bl, e_not, e_and, e_or, e_ite, e_ix, e_sl, e_call, e_bi, e_me, optB_some, e_isi, attI_exc, e_att, oG_some, gD_some, e_gin, e_gix, e_gget, o_no, oI_int, o_some, t_no, tI_bl, t_some, es_nil, es_cons, qI_tup, qI_str, qI_ref, q_val, rI_int, q_rng, enI_ref, q_enum, oS_some, s_asg', s_par', s_setix', s_expr', s_ret', s_ite', s_for', s_cont', s_raise', ss_nil', ss_cons', stG_nm, stG_tp, stGs_nil, stGs_cons, fin_rt, fin_nx, fin_ex, fin_ite, List.getElem?_cons_zero, List.getElem?_cons_succ, List.set_cons_zero, List.set_cons_succ, List.length_cons, List.length_nil, List.length_set, List.replicate, if_true, if_false, Bool.not_true, Bool.not_false, Bool.false_eq_true, Bool.and_true, Bool.true_and, Bool.and_false, Bool.false_and, Bool.or_true, Bool.true_or, Bool.or_false, Bool.false_or, decide_true, decide_false, Option.bind_some, Option.isSome_some, List.nil_append, List.cons_append, List.append_nil, startF_one, startF_two, permute_one, permute_two, le_int, lt_int, gt_int, ge_int, add_int, sub_int, not_true_eq_false, not_false_eq_true, and_self, and_true, true_and, or_true, true_or, ite_self, b2, t1, len_tup, eqI_int, d, ix_tup0, show isI prg (.tup ys) .str = some false from rfl]; rfl
    | _ => cases hv
theorem cut_tail (xs : List IV) : cutL xs (some 1) none = xs.drop 1 := by
  unfold cutL
  rw [sIx_one, HT.sIx_none]
  cases xs with
  | nil => rfl
  | cons v r => simp
theorem sl_tup (xs : List IV) (A : IH) : slI (.tup xs) (some 1) none A = .ok (.tup (xs.drop 1)) A := by
  show Rs.ok (IV.tup (cutL xs (some 1) none)) A = _
  rw [cut_tail]
/-- is_sized -/
theorem f3 (n : Nat) (A : IH) (k : Int) (xs : List IV) (h : xs.all Pl = true) (hl : xs.length ≤ LIM) : ∃ A', Gr A A' ∧ callI prg (n + 2) 3 [.int k, .tup xs] A = .ok (.bl (decide ((xs.length : Int) = k + 1) && (xs.drop 1).all isFN)) A' := by
  rw [call_eq (d := ⟨2, 3, b3⟩) rfl rfl]
  have hlc : evE prg (callI prg (n + 1)) (.lc (.call 1 (.cons (.var 2) .nil) [] [0]) (.nm 2) (.val (.sl (.var 1) (.some (.int 1)) .no)) .no [2]) [some (.int k), some (.tup xs), none] A = .ok (.ref A.length) (A ++ [.lst ((xs.drop 1).map fun v => .bl (isFN v))]) := by
    simp only [e_lc, q_val, e_sl, e_var, List.getElem?_cons_zero, List.getElem?_cons_succ, gV_some, bind_ok, o_some, e_int, oI_int, o_no, sl_tup, qI_tup, wipeF]
    rw [lc_fix0 (g := fun v => some (.bl (isFN v)))]
    · congr 4
      rw [show (fun v => some (IV.bl (isFN v))) = some ∘ (fun v => IV.bl (isFN v)) from rfl, List.filterMap_eq_map]
    · intro v hv acc
      have hp : Pl v = true := List.all_eq_true.mp h v (List.mem_of_mem_drop hv)
      simp only [onB_bl, bind_ok, bind_ex, bind_ite, onS_bl, on_ok, on_ex, on_ite, next_nx, next_rt, next_ct, next_ex, next_ite, e_non, e_bl, e_int, e_str, gV_some, e_var, optR_some, e_gco, e_tup, e_lst, e_bin, negI_int, e_neg, e_cmp, e_chain, notI_bl, e_not, e_and, e_or, e_ite, e_ix, e_sl, e_call, e_bi, e_me, optB_some, e_isi, attI_exc, e_att, oG_some, gD_some, e_gin, e_gix, e_gget, o_no, oI_int, o_some, t_no, tI_bl, t_some, es_nil, es_cons, qI_tup, qI_str, qI_ref, q_val, rI_int, q_rng, enI_ref, q_enum, oS_some, s_asg', s_par', s_setix', s_expr', s_ret', s_ite', s_for', s_cont', s_raise', ss_nil', ss_cons', stG_nm, stG_tp, stGs_nil, stGs_cons, fin_rt, fin_nx, fin_ex, fin_ite, List.getElem?_cons_zero, List.getElem?_cons_succ, List.set_cons_zero, List.set_cons_succ, List.length_cons, List.length_nil, List.length_set, List.replicate, if_true, if_false, Bool.not_true, Bool.not_false, Bool.false_eq_true, Bool.and_true, Bool.true_and, Bool.and_false, Bool.false_and, Bool.or_true, Bool.true_or, Bool.or_false, Bool.false_or, decide_true, decide_false, Option.bind_some, Option.isSome_some, List.nil_append, List.cons_append, List.append_nil, startF_one, startF_two, permute_one, permute_two, le_int, lt_int, gt_int, ge_int, add_int, sub_int, not_true_eq_false, not_false_eq_true, and_self, and_true, true_and, or_true, true_or, ite_self, Nat.reduceAdd, Nat.reduceLT, f1 n _ v hp]
    · rw [List.length_drop]
      omega
  cases hd : decide ((xs.length : Int) = k + 1) with
  | true =>
    simp only [onB_bl, bind_ok, bind_ex, bind_ite, onS_bl, on_ok, on_ex, on_ite, next_nx, next_rt, next_ct, next_ex, next_ite, e_non, e_bl, e_int, e_str, gV_some, e_var, optR_some, e_gco, e_tup, e_lst, e_bin, negI_int, e_neg, e_cmp, e_chain, notI_bl, e_not, e_and, e_or, e_ite, e_ix, e_sl, e_call, e_bi, e_me, optB_some, e_isi, attI_exc, e_att, oG_some, gD_some, e_gin, e_gix, e_gget, o_no, oI_int, o_some, t_no, tI_bl, t_some, es_nil, es_cons, qI_tup, qI_str, qI_ref, q_val, rI_int, q_rng, enI_ref, q_enum, oS_some, s_asg', s_par', s_setix', s_expr', s_ret', s_ite', s_for', s_cont', s_raise', ss_nil', ss_cons', stG_nm, stG_tp, stGs_nil, stGs_cons, fin_rt, fin_nx, fin_ex, fin_ite, List.getElem?_cons_zero, List.getElem?_cons_succ, List.set_cons_zero, List.set_cons_succ, List.length_cons, List.length_nil, List.length_set, List.replicate, if_true, if_false, Bool.not_true, Bool.not_false, Bool.false_eq_true, Bool.and_true, Bool.true_and, Bool.and_false, Bool.false_and, Bool.or_true, Bool.true_or, Bool.or_false, Bool.false_or, decide_true, decide_false, Option.bind_some, Option.isSome_some, List.nil_append, List.cons_append, List.append_nil, startF_one, startF_two, permute_one, permute_two, le_int, lt_int, gt_int, ge_int, add_int, sub_int, not_true_eq_false, not_false_eq_true, and_self, and_true, true_and, or_true, true_or, ite_self, b3, len_tup, eqI_int, hd, hlc, all_new]
    exact ⟨_, Gr.new _ _, rfl⟩
  | false =>
    simp only [onB_bl, bind_ok, bind_ex, bind_ite, onS_bl, on_ok, on_ex, on_ite, next_nx, next_rt, next_ct, next_ex, next_ite, e_non, e_bl, e_int, e_str, gV_some, e_var, optR_some, e_gco, e_tup, e_lst, e_bin, negI_int, e_neg, e_cmp, e_chain, notI_bl, e_not, e_and, e_or, e_ite, e_ix, e_sl, e_call, e_bi, e_me, optB_some, e_isi, attI_exc, e_att, oG_some, gD_some, e_gin, e_gix, e_gget, o_no, oI_int, o_some, t_no, tI_bl, t_some, es_nil, es_cons, qI_tup, qI_str, qI_ref, q_val, rI_int, q_rng, enI_ref, q_enum, oS_some, s_asg', s_par', s_setix', s_expr', s_ret', s_ite', s_for', s_cont', s_raise', ss_nil', ss_cons', stG_nm, stG_tp, stGs_nil, stGs_cons, fin_rt, fin_nx, fin_ex, fin_ite, List.getElem?_cons_zero, List.getElem?_cons_succ, List.set_cons_zero, List.set_cons_succ, List.length_cons, List.length_nil, List.length_set, List.replicate, if_true, if_false, Bool.not_true, Bool.not_false, Bool.false_eq_true, Bool.and_true, Bool.true_and, Bool.and_false, Bool.false_and, Bool.or_true, Bool.true_or, Bool.or_false, Bool.false_or, decide_true, decide_false, Option.bind_some, Option.isSome_some, List.nil_append, List.cons_append, List.append_nil, startF_one, startF_two, permute_one, permute_two, le_int, lt_int, gt_int, ge_int, add_int, sub_int, not_true_eq_false, not_false_eq_true, and_self, and_true, true_and, or_true, true_or, ite_self, b3, len_tup, eqI_int, hd]
    exact ⟨_, Gr.refl _, rfl⟩
/-- how many numbers a step has -/
def szOf (s : Str) : Int := ((([("act", .int (2)), ("tick", .int (1)), ("part", .int (2)), ("meet", .int (2)), ("fall", .int (1)), ("load", .int (2)), ("come", .int 1), ("again", .int 1)] : List (Str × IV)).lookup s).bind fun v => match v with
  | .int i => some i
  | _ => none).getD (-1)
def stepOk (xs : List IV) : Bool := decide (0 ≤ szOf (fstW xs)) && (decide ((xs.length : Int) = szOf (fstW xs) + 1) && (xs.drop 1).all isFN)
theorem sz_two (s : Str) : ((([("act", .int (2)), ("tick", .int (1)), ("part", .int (2)), ("meet", .int (2)), ("fall", .int (1)), ("load", .int (2))] : List (Str × IV)).lookup s).getD ((([("come", .int (1)), ("again", .int (1))] : List (Str × IV)).lookup s).getD (.int (-1)))) = .int (szOf s) := by
  unfold szOf
  simp only [List.lookup_cons, List.lookup_nil]
  cases (s == "act") <;> cases (s == "tick") <;> cases (s == "part") <;> cases (s == "meet") <;> cases (s == "fall") <;> cases (s == "load") <;> cases (s == "come") <;> cases (s == "again") <;> rfl
/-- is_step_read -/
theorem f10 (n : Nat) (A : IH) (xs : List IV) (h : xs.all Pl = true) (hl : xs.length ≤ LIM) : ∃ A', Gr A A' ∧ callI prg (n + 3) 10 [.tup xs] A = .ok (.bl (stepOk xs)) A' := by
  rw [call_eq (d := ⟨1, 3, b10⟩) rfl rfl]
  have h0 : prg.gd[0]? = some ([("act", .int (2)), ("tick", .int (1)), ("part", .int (2)), ("meet", .int (2)), ("fall", .int (1)), ("load", .int (2))] : List (Str × IV)) := rfl
  have h2 : prg.gd[2]? = some ([("come", .int (1)), ("again", .int (1))] : List (Str × IV)) := rfl
  obtain ⟨A', g, e⟩ := f3 n A (szOf (fstW xs)) xs h hl
  unfold stepOk
  cases hd : decide (0 ≤ szOf (fstW xs)) with
  | true =>
    simp only [onB_bl, bind_ok, bind_ex, bind_ite, onS_bl, on_ok, on_ex, on_ite, next_nx, next_rt, next_ct, next_ex, next_ite, e_non, e_bl, e_int, e_str, gV_some, e_var, optR_some, e_gco, e_tup, e_lst, e_bin, negI_int, e_neg, e_cmp, e_chain, notI_bl, e_not, e_and, e_or, e_ite, e_ix, e_sl, e_call, e_bi, e_me, optB_some, e_isi, attI_exc, e_att, oG_some, gD_some, e_gin, e_gix, e_gget, o_no, oI_int, o_some, t_no, tI_bl, t_some, es_nil, es_cons, qI_tup, qI_str, qI_ref, q_val, rI_int, q_rng, enI_ref, q_enum, oS_some, s_asg', s_par', s_setix', s_expr', s_ret', s_ite', s_for', s_cont', s_raise', ss_nil', ss_cons', stG_nm, stG_tp, stGs_nil, stGs_cons, fin_rt, fin_nx, fin_ex, fin_ite, List.getElem?_cons_zero, List.getElem?_cons_succ, List.set_cons_zero, List.set_cons_succ, List.length_cons, List.length_nil, List.length_set, List.replicate, if_true, if_false, Bool.not_true, Bool.not_false, Bool.false_eq_true, Bool.and_true, Bool.true_and, Bool.and_false, Bool.false_and, Bool.or_true, Bool.true_or, Bool.or_false, Bool.false_or, decide_true, decide_false, Option.bind_some, Option.isSome_some, List.nil_append, List.cons_append, List.append_nil, startF_one, startF_two, permute_one, permute_two, le_int, lt_int, gt_int, ge_int, add_int, sub_int, not_true_eq_false, not_false_eq_true, and_self, and_true, true_and, or_true, true_or, ite_self, b10, f2 (n + 1) A xs h, Nat.reduceAdd, Nat.reduceLT, h0, h2, sz_two, hd, e]
    exact ⟨A', g, rfl⟩
  | false =>
    simp only [onB_bl, bind_ok, bind_ex, bind_ite, onS_bl, on_ok, on_ex, on_ite, next_nx, next_rt, next_ct, next_ex, next_ite, e_non, e_bl, e_int, e_str, gV_some, e_var, optR_some, e_gco, e_tup, e_lst, e_bin, negI_int, e_neg, e_cmp, e_chain, notI_bl, e_not, e_and, e_or, e_ite, e_ix, e_sl, e_call, e_bi, e_me, optB_some, e_isi, attI_exc, e_att, oG_some, gD_some, e_gin, e_gix, e_gget, o_no, oI_int, o_some, t_no, tI_bl, t_some, es_nil, es_cons, qI_tup, qI_str, qI_ref, q_val, rI_int, q_rng, enI_ref, q_enum, oS_some, s_asg', s_par', s_setix', s_expr', s_ret', s_ite', s_for', s_cont', s_raise', ss_nil', ss_cons', stG_nm, stG_tp, stGs_nil, stGs_cons, fin_rt, fin_nx, fin_ex, fin_ite, List.getElem?_cons_zero, List.getElem?_cons_succ, List.set_cons_zero, List.set_cons_succ, List.length_cons, List.length_nil, List.length_set, List.replicate, if_true, if_false, Bool.not_true, Bool.not_false, Bool.false_eq_true, Bool.and_true, Bool.true_and, Bool.and_false, Bool.false_and, Bool.or_true, Bool.true_or, Bool.or_false, Bool.false_or, decide_true, decide_false, Option.bind_some, Option.isSome_some, List.nil_append, List.cons_append, List.append_nil, startF_one, startF_two, permute_one, permute_two, le_int, lt_int, gt_int, ge_int, add_int, sub_int, not_true_eq_false, not_false_eq_true, and_self, and_true, true_and, or_true, true_or, ite_self, b10, f2 (n + 1) A xs h, Nat.reduceAdd, Nat.reduceLT, h0, h2, sz_two, hd]
    exact ⟨A, Gr.refl A, rfl⟩
end LF.Pl
set_option Elab.async false
set_option linter.all false
set_option maxHeartbeats 8000000
set_option maxRecDepth 100000
/-! What is read, as data. -/
namespace LF.Pl
open PySem
mutual
/-- plain all through -/
def okV : IV → Bool
  | .non => true
  | .bl _ => true
  | .int i => decide (i.natAbs < 10 ^ 100)
  | .str x => (TL.tl x).all (fun c => decide (c < 128))
  | .tup xs => okVs xs
  | .ref _ => false
  | .exc _ _ => false
  | .glo _ => false
def okVs : List IV → Bool
  | [] => true
  | x :: xs => okV x && okVs xs
end
mutual
def datV : IV → PyData
  | .non => .none
  | .bl b => .bool b
  | .int i => .int i
  | .str x => .str x
  | .tup xs => .tuple (datVs xs)
  | .ref _ => .none
  | .exc _ _ => .none
  | .glo _ => .none
def datVs : List IV → List PyData
  | [] => []
  | x :: xs => datV x :: datVs xs
end
mutual
def dpV : IV → Nat
  | .tup xs => dpVs xs + 1
  | .non => 0
  | .bl _ => 0
  | .int _ => 0
  | .str _ => 0
  | .ref _ => 0
  | .exc _ _ => 0
  | .glo _ => 0
def dpVs : List IV → Nat
  | [] => 0
  | x :: xs => max (dpV x) (dpVs xs)
end
mutual
theorem dat_ok (g : Nat → Option PyData) : ∀ v : IV, okV v = true → toW g v = some (datV v) ∧ (datV v).canLay0 = true ∧ (datV v).depth = dpV v ∧ (datV v).showable = true ∧ (datV v).hasDict = false
  | .non, _ => by rw [toW, datV, dpV]; exact ⟨rfl, rfl, rfl, rfl, rfl⟩
  | .bl b, _ => by rw [toW, datV, dpV]; exact ⟨rfl, rfl, rfl, rfl, rfl⟩
  | .int i, h => by
    rw [toW, datV, dpV]
    refine ⟨rfl, rfl, by rw [PyData.depth], ?_, by rw [PyData.hasDict]⟩
    rw [PyData.showable]
    rw [okV] at h
    have h2 := of_decide_eq_true h
    refine decide_eq_true ?_
    by_cases z : i.natAbs = 0
    · rw [z]; decide
    · exact (Nat.log2_lt z).mpr (Nat.lt_trans h2 (by decide +kernel))
  | .str x, h => by
    rw [toW, datV, dpV]
    rw [okV] at h
    exact ⟨rfl, by rw [PyData.canLay0]; exact (asc_lit h).ok, by rw [PyData.depth], by rw [PyData.showable], by rw [PyData.hasDict]⟩
  | .tup xs, h => by
    rw [okV] at h
    obtain ⟨a, b, c, d, e⟩ := dats_ok g xs h
    rw [toW, datV, dpV, a]
    exact ⟨rfl, by rw [PyData.canLay0]; exact b, by rw [PyData.depth, c], by rw [PyData.showable]; exact d, by rw [PyData.hasDict]; exact e⟩
  | .ref _, h => by rw [okV] at h; cases h
  | .exc _ _, h => by rw [okV] at h; cases h
  | .glo _, h => by rw [okV] at h; cases h
theorem dats_ok (g : Nat → Option PyData) : ∀ xs : List IV, okVs xs = true → toWs g xs = some (datVs xs) ∧ PyData.canLayAll0 (datVs xs) = true ∧ PyData.depthAll (datVs xs) = dpVs xs ∧ PyData.showableAll (datVs xs) = true ∧ PyData.hasDictAll (datVs xs) = false
  | [], _ => by rw [toWs, datVs, dpVs]; exact ⟨rfl, rfl, rfl, rfl, rfl⟩
  | x :: xs, h => by
    rw [okVs] at h
    obtain ⟨h1, h2⟩ := Bool.and_eq_true_iff.mp h
    obtain ⟨a, b, c, d, e⟩ := dat_ok g x h1
    obtain ⟨a', b', c', d', e'⟩ := dats_ok g xs h2
    rw [toWs, datVs, dpVs, a, a']
    exact ⟨rfl, by rw [PyData.canLayAll0, b, b']; rfl, by rw [PyData.depthAll, c, c'], by rw [PyData.showableAll, d, d']; rfl, by rw [PyData.hasDictAll, e, e']; rfl⟩
end
theorem okV_pl {v : IV} (h : okV v = true) : Pl v = true := by cases v <;> first | rfl | (rw [okV] at h; cases h)
theorem okVs_pl : ∀ {xs : List IV}, okVs xs = true → xs.all Pl = true
  | [], _ => rfl
  | x :: xs, h => by
    rw [okVs] at h
    obtain ⟨h1, h2⟩ := Bool.and_eq_true_iff.mp h
    rw [List.all_cons, okV_pl h1, okVs_pl h2]
    rfl
end LF.Pl
set_option Elab.async false
set_option linter.all false
set_option maxHeartbeats 8000000
set_option maxRecDepth 100000
/-! What is read is plain, and not deep. -/
namespace LF.Pl
open PySem
theorem dig_fold : ∀ (l : List Nat) (a : Nat), NumText.AllDigits l → l.foldl (fun acc c => acc * 10 + (c - 48)) a < (a + 1) * 10 ^ l.length
  | [], a, _ => by simp
  | c :: r, a, h => by
    have hc := h.head
    have := dig_fold r (a * 10 + (c - 48)) h.tail
    rw [List.foldl_cons, List.length_cons, Nat.pow_succ]
    refine Nat.lt_of_lt_of_le this ?_
    rw [show (a + 1) * (10 ^ r.length * 10) = (a * 10 + 10) * 10 ^ r.length by rw [Nat.mul_comm (10 ^ r.length) 10, ← Nat.mul_assoc, Nat.add_mul]]
    exact Nat.mul_le_mul_right _ (by omega)
theorem dv_small {l : List Nat} (h : isFL l = true) : NumText.digitsVal l < 10 ^ 12 := by
  obtain ⟨h1, h2, h3⟩ := isFL_dig h
  have := dig_fold l 0 h1
  unfold NumText.digitsVal
  refine Nat.lt_of_lt_of_le this ?_
  rw [Nat.zero_add, Nat.one_mul]
  exact Nat.pow_le_pow_right (by decide) h3
theorem ok_int {l : List Nat} (h : isFL l = true) : okV (.int (dV l)) = true ∧ okV (.int (-dV l)) = true := by
  have := dv_small h
  have e : (dV l).natAbs = NumText.digitsVal l := Int.natAbs_natCast _
  have lt : NumText.digitsVal l < 10 ^ 100 := Nat.lt_trans this (by decide +kernel)
  constructor
  · rw [okV, e]; exact decide_eq_true lt
  · rw [okV, Int.natAbs_neg, e]; exact decide_eq_true lt
theorem atom_ok {x : Str} {v : IV} (hx : Asc x) (h : atomOf x = some v) : okV v = true ∧ dpV v ≤ 1 := by
  unfold atomOf at h
  split at h
  · rename_i u e
    cases h
    unfold signOf at e
    split at e
    · cases e; exact ⟨by rw [okV], by rw [dpV]; omega⟩
    · split at e
      · cases e; exact ⟨by rw [okV], by rw [dpV]; omega⟩
      · split at e
        · cases e; exact ⟨by rw [okV], by rw [dpV]; omega⟩
        · cases e
  · split at h
    · rename_i hF
      cases h
      exact ⟨(ok_int hF).1, by rw [dpV]; omega⟩
    · split at h
      · rename_i hN
        cases h
        obtain ⟨cs, e, hc, _⟩ := isN_shape hN
        rw [e]
        exact ⟨(ok_int hc).2, by rw [dpV]; omega⟩
      · split at h
        · cases h
          exact ⟨by rw [okV]; exact List.all_eq_true.mpr fun c hc => decide_eq_true (hx c hc), by rw [dpV]; omega⟩
        · split at h
          · unfold addrOf at h
            split at h
            · split at h
              · rename_i a b _ hab
                cases h
                obtain ⟨ha, hb⟩ := Bool.and_eq_true_iff.mp hab
                constructor
                · rw [okV, okVs, okVs, okVs, okVs, (ok_int ha).1, (ok_int hb).1, okV]
                  decide +kernel
                · rw [dpV, dpVs, dpVs, dpVs, dpVs, dpV, dpV, dpV]
                  decide
              · cases h
            · cases h
          · cases h
theorem okVs_cat : ∀ (xs ys : List IV), okVs (xs ++ ys) = (okVs xs && okVs ys)
  | [], ys => by rw [okVs]; rfl
  | x :: xs, ys => by rw [List.cons_append, okVs, okVs_cat xs ys, okVs, Bool.and_assoc]
theorem dpVs_cat : ∀ (xs ys : List IV), dpVs (xs ++ ys) = max (dpVs xs) (dpVs ys)
  | [], ys => by rw [dpVs]; simp
  | x :: xs, ys => by rw [List.cons_append, dpVs, dpVs_cat xs ys, dpVs, Nat.max_assoc]
/-- all that stands in piles is plain; k words deep at most -/
def PlainL (k : Nat) (lv : List (List IV)) : Prop := ∀ l ∈ lv, okVs l = true ∧ dpVs l ≤ k
theorem plain_app {k : Nat} {xs : List (List IV)} {b : List IV} {v : IV} (h : PlainL k (xs ++ [b])) (h1 : okV v = true) (h2 : dpV v ≤ k + 1) : PlainL (k + 1) (xs ++ [b ++ [v]]) := by
  intro l hl
  rcases List.mem_append.mp hl with hl | hl
  · obtain ⟨a, b⟩ := h l (List.mem_append_left _ hl)
    exact ⟨a, by omega⟩
  · rw [List.mem_singleton.mp hl]
    obtain ⟨a, c⟩ := h b (by simp)
    rw [okVs_cat, dpVs_cat, a, okVs, okVs, h1, dpVs, dpVs]
    refine ⟨rfl, ?_⟩
    simp
    omega
theorem rd_plain {most : Nat} : ∀ (ws : List Str) (k : Nat) (lv lv' : List (List IV)), (∀ w ∈ ws, Asc w) → lv ≠ [] → PlainL k lv → rd most k lv ws = .ok lv' → PlainL (k + ws.length) lv'
  | [], k, lv, lv', _, _, h, e => by
    rw [rd] at e
    cases e
    exact h
  | w :: ws, k, lv, lv', ha, hne, h, e => by
    rw [rd] at e
    cases hs : rdStep most lv w with
    | none => rw [hs] at e; cases e
    | some lv2 =>
      rw [hs] at e
      obtain ⟨xs, b, rfl⟩ : ∃ xs b, lv = xs ++ [b] := ⟨_, _, (List.dropLast_concat_getLast hne).symm⟩
      have key : PlainL (k + 1) lv2 ∧ lv2 ≠ [] := by
        unfold rdStep at hs
        split at hs
        · rename_i hc
          cases hs
          obtain ⟨ys, a, rfl⟩ : ∃ ys a, xs = ys ++ [a] := by
            refine ⟨_, _, (List.dropLast_concat_getLast (l := xs) ?_).symm⟩
            intro z
            rw [z] at hc
            simp at hc
          rw [popT_cat]
          obtain ⟨p, q⟩ := h b (by simp)
          refine ⟨plain_app (fun l hl => h l (List.mem_append_left _ hl)) (by rw [okV]; exact p) (by rw [dpV]; omega), by simp⟩
        · split at hs
          · cases hs
          · split at hs
            · cases hs
              refine ⟨fun l hl => ?_, by simp⟩
              rcases List.mem_append.mp hl with hl | hl
              · obtain ⟨p, q⟩ := h l hl
                exact ⟨p, by omega⟩
              · rw [List.mem_singleton.mp hl, okVs, dpVs]
                exact ⟨rfl, by omega⟩
            · cases hv : atomOf w with
              | none => rw [hv] at hs; cases hs
              | some v =>
                rw [hv] at hs
                cases hs
                rw [appT_cat]
                obtain ⟨p, q⟩ := atom_ok (ha w List.mem_cons_self) hv
                exact ⟨plain_app h p (by omega), by simp⟩
      have := rd_plain ws (k + 1) lv2 lv' (fun z hz => ha z (List.mem_cons_of_mem _ hz)) key.2 key.1 e
      rw [List.length_cons, show k + (ws.length + 1) = k + 1 + ws.length by omega]
      exact this
theorem rdAll_plain {most : Nat} {ws : List Str} {xs : List IV} (ha : ∀ w ∈ ws, Asc w) (h : rdAll most ws = .ok xs) : okVs xs = true ∧ dpVs xs ≤ ws.length := by
  unfold rdAll at h
  cases hr : rd most 0 [[]] ws with
  | error k => rw [hr] at h; cases h
  | ok lv =>
    rw [hr] at h
    dsimp only at h
    split at h
    · cases h
    · cases h
      have := rd_plain ws 0 [[]] lv ha (by simp) (fun l hl => by rw [List.mem_singleton.mp hl, okVs, dpVs]; exact ⟨rfl, Nat.le_refl _⟩) hr
      rw [Nat.zero_add] at this
      cases lv with
      | nil =>
        show okVs [] = true ∧ dpVs [] ≤ _
        rw [okVs, dpVs]
        exact ⟨rfl, Nat.zero_le _⟩
      | cons l r => exact this l List.mem_cons_self
end LF.Pl
set_option Elab.async false
set_option linter.all false
set_option maxHeartbeats 8000000
set_option maxRecDepth 100000
/-! _law_is_step. -/
namespace LF.Pl
open PySem
theorem shaped_tup {xs : List IV} (h : okVs xs = true) (hd : dpVs xs ≤ 60) : SeqAt.shaped (.tuple (datVs xs)) = true := by
  obtain ⟨a, b, c, d, e⟩ := dats_ok (fun _ => none) xs h
  unfold SeqAt.shaped
  rw [PyData.canLay0, PyData.depth, b, c]
  simp
  omega
theorem toD_tup {A : IH} {xs : List IV} (h : okVs xs = true) : toD A (.tup xs) = some (.tuple (datVs xs)) := by
  unfold toD
  rw [toW, (dats_ok _ xs h).1]
  rfl
theorem eq_unit {A : IH} {xs : List IV} (h : okVs xs = true) (hd : dpVs xs ≤ 60) : cmpI .eq (.tup xs) (.tup []) A = .ok (.bl xs.isEmpty) A := by
  rw [cmpE_eq]
  unfold eqI
  rw [toD_tup h, toD_tup (xs := []) (by rw [okVs])]
  dsimp only
  rw [shaped_tup h hd, shaped_tup (xs := []) (by rw [okVs]) (by rw [dpVs]; omega)]
  cases xs with
  | nil => rfl
  | cons x r =>
    rw [datVs, datVs]
    rfl
def badN (v : IV) : Bool := !isFN v
theorem bad_test (n : Nat) (v : IV) (A : IH) (ρ : Fr) (hv : Pl v = true) (hρ : ρ[2]? = some (some v)) : evT prg (callI prg n) (.some (.or (.isi (.var 2) (.bool)) (.or (.not (.isi (.var 2) (.int))) (.cmp .lt (.var 2) (.int 0))))) ρ A = .ok (badN v) A := by
  cases v with
  | non => simp only [onB_bl, bind_ok, bind_ex, bind_ite, onS_bl, on_ok, on_ex, on_ite, next_nx, next_rt, next_ct, next_ex, next_ite, e_non, e_bl, e_int, e_str, gV_some, e_var, optR_some, e_gco, e_tup, e_lst, e_bin, negI_int, e_neg, e_cmp, e_chain, notI_bl, e_not, e_and, e_or, e_ite, e_ix, e_sl, e_call, e_bi, e_me, optB_some, e_isi, attI_exc, e_att, oG_some, gD_some, e_gin, e_gix, e_gget, o_no, oI_int, o_some, t_no, tI_bl, t_some, es_nil, es_cons, qI_tup, qI_str, qI_ref, q_val, rI_int, q_rng, enI_ref, q_enum, oS_some, s_asg', s_par', s_setix', s_expr', s_ret', s_ite', s_for', s_cont', s_raise', ss_nil', ss_cons', stG_nm, stG_tp, stGs_nil, stGs_cons, fin_rt, fin_nx, fin_ex, fin_ite, List.getElem?_cons_zero, List.getElem?_cons_succ, List.set_cons_zero, List.set_cons_succ, List.length_cons, List.length_nil, List.length_set, List.replicate, if_true, if_false, Bool.not_true, Bool.not_false, Bool.false_eq_true, Bool.and_true, Bool.true_and, Bool.and_false, Bool.false_and, Bool.or_true, Bool.true_or, Bool.or_false, Bool.false_or, decide_true, decide_false, Option.bind_some, Option.isSome_some, List.nil_append, List.cons_append, List.append_nil, startF_one, startF_two, permute_one, permute_two, le_int, lt_int, gt_int, ge_int, add_int, sub_int, not_true_eq_false, not_false_eq_true, and_self, and_true, true_and, or_true, true_or, ite_self, hρ, show isI prg .non .bool = some false from rfl, show isI prg .non .int = some false from rfl]; rfl
  | bl b => simp only [onB_bl, bind_ok, bind_ex, bind_ite, onS_bl, on_ok, on_ex, on_ite, next_nx, next_rt, next_ct, next_ex, next_ite, e_non, e_bl, e_int, e_str, gV_some, e_var, optR_some, e_gco, e_tup, e_lst, e_bin, negI_int, e_neg, e_cmp, e_chain, notI_bl, e_not, e_and, e_or, e_ite, e_ix, e_sl, e_call, e_bi, e_me, optB_some, e_isi, attI_exc, e_att, oG_some, gD_some, e_gin, e_gix, e_gget, o_no, oI_int, o_some, t_no, tI_bl, t_some, es_nil, es_cons, qI_tup, qI_str, qI_ref, q_val, rI_int, q_rng, enI_ref, q_enum, oS_some, s_asg', s_par', s_setix', s_expr', s_ret', s_ite', s_for', s_cont', s_raise', ss_nil', ss_cons', stG_nm, stG_tp, stGs_nil, stGs_cons, fin_rt, fin_nx, fin_ex, fin_ite, List.getElem?_cons_zero, List.getElem?_cons_succ, List.set_cons_zero, List.set_cons_succ, List.length_cons, List.length_nil, List.length_set, List.replicate, if_true, if_false, Bool.not_true, Bool.not_false, Bool.false_eq_true, Bool.and_true, Bool.true_and, Bool.and_false, Bool.false_and, Bool.or_true, Bool.true_or, Bool.or_false, Bool.false_or, decide_true, decide_false, Option.bind_some, Option.isSome_some, List.nil_append, List.cons_append, List.append_nil, startF_one, startF_two, permute_one, permute_two, le_int, lt_int, gt_int, ge_int, add_int, sub_int, not_true_eq_false, not_false_eq_true, and_self, and_true, true_and, or_true, true_or, ite_self, hρ, show isI prg (.bl b) .bool = some true from rfl]; rfl
  | int i =>
    simp only [onB_bl, bind_ok, bind_ex, bind_ite, onS_bl, on_ok, on_ex, on_ite, next_nx, next_rt, next_ct, next_ex, next_ite, e_non, e_bl, e_int, e_str, gV_some, e_var, optR_some, e_gco, e_tup, e_lst, e_bin, negI_int, e_neg, e_cmp, e_chain, notI_bl, e_not, e_and, e_or, e_ite, e_ix, e_sl, e_call, e_bi, e_me, optB_some, e_isi, attI_exc, e_att, oG_some, gD_some, e_gin, e_gix, e_gget, o_no, oI_int, o_some, t_no, tI_bl, t_some, es_nil, es_cons, qI_tup, qI_str, qI_ref, q_val, rI_int, q_rng, enI_ref, q_enum, oS_some, s_asg', s_par', s_setix', s_expr', s_ret', s_ite', s_for', s_cont', s_raise', ss_nil', ss_cons', stG_nm, stG_tp, stGs_nil, stGs_cons, fin_rt, fin_nx, fin_ex, fin_ite, List.getElem?_cons_zero, List.getElem?_cons_succ, List.set_cons_zero, List.set_cons_succ, List.length_cons, List.length_nil, List.length_set, List.replicate, if_true, if_false, Bool.not_true, Bool.not_false, Bool.false_eq_true, Bool.and_true, Bool.true_and, Bool.and_false, Bool.false_and, Bool.or_true, Bool.true_or, Bool.or_false, Bool.false_or, decide_true, decide_false, Option.bind_some, Option.isSome_some, List.nil_append, List.cons_append, List.append_nil, startF_one, startF_two, permute_one, permute_two, le_int, lt_int, gt_int, ge_int, add_int, sub_int, not_true_eq_false, not_false_eq_true, and_self, and_true, true_and, or_true, true_or, ite_self, hρ, show isI prg (.int i) .bool = some false from rfl, show isI prg (.int i) .int = some true from rfl]
    show _ = Rs.ok (!decide (0 ≤ i)) A
    congr 1
    by_cases h : 0 ≤ i
    · rw [decide_eq_true h, decide_eq_false (by omega)]; rfl
    · rw [decide_eq_false h, decide_eq_true (by omega)]; rfl
  | str x => simp only [onB_bl, bind_ok, bind_ex, bind_ite, onS_bl, on_ok, on_ex, on_ite, next_nx, next_rt, next_ct, next_ex, next_ite, e_non, e_bl, e_int, e_str, gV_some, e_var, optR_some, e_gco, e_tup, e_lst, e_bin, negI_int, e_neg, e_cmp, e_chain, notI_bl, e_not, e_and, e_or, e_ite, e_ix, e_sl, e_call, e_bi, e_me, optB_some, e_isi, attI_exc, e_att, oG_some, gD_some, e_gin, e_gix, e_gget, o_no, oI_int, o_some, t_no, tI_bl, t_some, es_nil, es_cons, qI_tup, qI_str, qI_ref, q_val, rI_int, q_rng, enI_ref, q_enum, oS_some, s_asg', s_par', s_setix', s_expr', s_ret', s_ite', s_for', s_cont', s_raise', ss_nil', ss_cons', stG_nm, stG_tp, stGs_nil, stGs_cons, fin_rt, fin_nx, fin_ex, fin_ite, List.getElem?_cons_zero, List.getElem?_cons_succ, List.set_cons_zero, List.set_cons_succ, List.length_cons, List.length_nil, List.length_set, List.replicate, if_true, if_false, Bool.not_true, Bool.not_false, Bool.false_eq_true, Bool.and_true, Bool.true_and, Bool.and_false, Bool.false_and, Bool.or_true, Bool.true_or, Bool.or_false, Bool.false_or, decide_true, decide_false, Option.bind_some, Option.isSome_some, List.nil_append, List.cons_append, List.append_nil, startF_one, startF_two, permute_one, permute_two, le_int, lt_int, gt_int, ge_int, add_int, sub_int, not_true_eq_false, not_false_eq_true, and_self, and_true, true_and, or_true, true_or, ite_self, hρ, show isI prg (.str x) .bool = some false from rfl, show isI prg (.str x) .int = some false from rfl]; rfl
  | tup xs => simp only [onB_bl, bind_ok, bind_ex, bind_ite, onS_bl, on_ok, on_ex, on_ite, next_nx, next_rt, next_ct, next_ex, next_ite, e_non, e_bl, e_int, e_str, gV_some, e_var, optR_some, e_gco, e_tup, e_lst, e_bin, negI_int, e_neg, e_cmp, e_chain, notI_bl, e_not, e_and, e_or, e_ite, e_ix, e_sl, e_call, e_bi, e_me, optB_some, e_isi, attI_exc, e_att, oG_some, gD_some, e_gin, e_gix, e_gget, o_no, oI_int, o_some, t_no, tI_bl, t_some, es_nil, es_cons, qI_tup, qI_str, qI_ref, q_val, rI_int, q_rng, enI_ref, q_enum, oS_some, s_asg', s_par', s_setix', s_expr', s_ret', s_ite', s_for', s_cont', s_raise', ss_nil', ss_cons', stG_nm, stG_tp, stGs_nil, stGs_cons, fin_rt, fin_nx, fin_ex, fin_ite, List.getElem?_cons_zero, List.getElem?_cons_succ, List.set_cons_zero, List.set_cons_succ, List.length_cons, List.length_nil, List.length_set, List.replicate, if_true, if_false, Bool.not_true, Bool.not_false, Bool.false_eq_true, Bool.and_true, Bool.true_and, Bool.and_false, Bool.false_and, Bool.or_true, Bool.true_or, Bool.or_false, Bool.false_or, decide_true, decide_false, Option.bind_some, Option.isSome_some, List.nil_append, List.cons_append, List.append_nil, startF_one, startF_two, permute_one, permute_two, le_int, lt_int, gt_int, ge_int, add_int, sub_int, not_true_eq_false, not_false_eq_true, and_self, and_true, true_and, or_true, true_or, ite_self, hρ, show isI prg (.tup xs) .bool = some false from rfl, show isI prg (.tup xs) .int = some false from rfl]; rfl
  | _ => cases hv
theorem eq_nils {A : IH} {m k : Nat} {vs : List IV} (h : A[m]? = some (.lst vs)) (hk : A[k]? = some (.lst [])) (ho : okVs vs = true) (hd : dpVs vs ≤ 60) : cmpI .eq (.ref m) (.ref k) A = .ok (.bl vs.isEmpty) A := by
  have b : toD A (.ref k) = some (.list []) := toD_strs (ys := []) hk
  have a : toD A (.ref m) = some (.list (datVs vs)) := by
    unfold toD
    rw [toW_ref]
    unfold refD
    rw [h]
    dsimp only
    rw [(dats_ok _ vs ho).1]
    rfl
  rw [cmpE_eq]
  unfold eqI
  rw [a, b]
  dsimp only
  have s1 : SeqAt.shaped (.list (datVs vs)) = true := by
    obtain ⟨_, b, c, _, _⟩ := dats_ok (fun _ => none) vs ho
    unfold SeqAt.shaped
    rw [PyData.canLay0, PyData.depth, b, c]
    simp
    omega
  rw [s1, show SeqAt.shaped (.list []) = true from rfl]
  cases vs with
  | nil => rfl
  | cons x r => rw [datVs]; rfl
theorem okVs_mem : ∀ {xs : List IV}, okVs xs = true → ∀ v ∈ xs, okV v = true
  | x :: xs, h, v, hv => by
    rw [okVs] at h
    obtain ⟨h1, h2⟩ := Bool.and_eq_true_iff.mp h
    rcases List.mem_cons.mp hv with e | e
    · rw [e]; exact h1
    · exact okVs_mem h2 v e
theorem okVs_of : ∀ {xs : List IV}, (∀ v ∈ xs, okV v = true) → okVs xs = true
  | [], _ => by rw [okVs]
  | x :: xs, h => by rw [okVs, h x List.mem_cons_self, okVs_of fun v hv => h v (List.mem_cons_of_mem _ hv)]; rfl
theorem dpVs_le : ∀ {xs : List IV} {k : Nat}, dpVs xs ≤ k → ∀ v ∈ xs, dpV v ≤ k
  | x :: xs, k, h, v, hv => by
    rw [dpVs] at h
    rcases List.mem_cons.mp hv with e | e
    · rw [e]; omega
    · exact dpVs_le (by omega) v e
theorem dpVs_of : ∀ {xs : List IV} {k : Nat}, (∀ v ∈ xs, dpV v ≤ k) → dpVs xs ≤ k
  | [], k, _ => by rw [dpVs]; omega
  | x :: xs, k, h => by
    rw [dpVs]
    have := h x List.mem_cons_self
    have := dpVs_of (xs := xs) fun v hv => h v (List.mem_cons_of_mem _ hv)
    omega
theorem filt_empty (xs : List IV) : (xs.filter badN).isEmpty = xs.all isFN := by
  induction xs with
  | nil => rfl
  | cons x r ih =>
    rw [List.filter_cons, List.all_cons]
    unfold badN at ih ⊢
    cases isFN x with
    | true => simpa using ih
    | false => rfl
theorem get_dct {A : IH} {n : Nat} {kvs : List (Str × IV)} (k : Str) (w : IV) (h : A[n]? = some (.dct kvs)) : meI .get (.ref n) [.str k, w] A = .ok ((kvs.lookup k).getD w) A ∧ recvI .get (.ref n) A = true := by
  constructor
  · show (match A[n]? with
      | some (.dct kvs) => Rs.ok ((kvs.lookup k).getD w) A
      | _ => .bad) = _
    rw [h]
  · show (match A[n]? with
      | some (.dct _) => true
      | _ => false) = true
    rw [h]
abbrev kv8 : List (Str × IV) := [("act", .int 3), ("come", .int 2), ("again", .int 2), ("tick", .int 2), ("part", .int 3), ("meet", .int 3), ("fall", .int 2), ("load", .int 3)]
theorem merge8 : mergeD [] ((["act", "come", "again", "tick", "part", "meet", "fall", "load"] : List Str).zip [.int 3, .int 2, .int 2, .int 2, .int 3, .int 3, .int 2, .int 3]) = kv8 := by rfl
theorem sz8 (s : Str) : ∃ i : Int, (kv8.lookup s).getD (.int 0) = .int i ∧ i = szOf s + 1 := by
  refine ⟨szOf s + 1, ?_, rfl⟩
  by_cases h1 : s = "act"
  · subst h1; rfl
  by_cases h2 : s = "come"
  · subst h2; rfl
  by_cases h3 : s = "again"
  · subst h3; rfl
  by_cases h4 : s = "tick"
  · subst h4; rfl
  by_cases h5 : s = "part"
  · subst h5; rfl
  by_cases h6 : s = "meet"
  · subst h6; rfl
  by_cases h7 : s = "fall"
  · subst h7; rfl
  by_cases h8 : s = "load"
  · subst h8; rfl
  have f : ∀ {z : Str}, ¬ s = z → (s == z) = false := fun {z} h => by simpa using h
  unfold szOf
  simp only [List.lookup_cons, f h1, f h2, f h3, f h4, f h5, f h6, f h7, f h8, List.lookup_nil]
  rfl
end LF.Pl
set_option Elab.async false
set_option linter.all false
set_option maxHeartbeats 8000000
set_option maxRecDepth 100000
/-! _law_is_step, whole. -/
namespace LF.Pl
open PySem
theorem ne_int (i j : Int) (A : IH) : cmpI .ne (.int i) (.int j) A = .ok (.bl (!decide (i = j))) A := by
  rw [cmpE_ne]
  unfold eqI
  rw [show toD A (.int i) = some (.int i) from by unfold toD; rw [toW], show toD A (.int j) = some (.int j) from by unfold toD; rw [toW]]
  dsimp only
  rw [show SeqAt.shaped (.int i) = true from rfl, show SeqAt.shaped (.int j) = true from rfl]
  show Rs.ok (IV.bl (!PyData.eqv (.int i) (.int j))) A = _
  unfold PyData.eqv
  congr 2
theorem filt_map : ∀ r : List IV, List.filterMap (fun v => if badN v = true then some v else none) r = r.filter badN
  | [] => rfl
  | x :: q => by
    rw [List.filterMap_cons, List.filter_cons, filt_map q]
    cases badN x <;> rfl
theorem f22 (n : Nat) (A : IH) (xs : List IV) (h : okVs xs = true) (hd : dpVs xs ≤ 60) (hl : xs.length ≤ LIM) : ∃ A', Gr A A' ∧ callI prg (n + 1) 22 [.tup xs] A = .ok (.bl (stepOk xs)) A' := by
  rw [call_eq (d := ⟨1, 3, b22⟩) rfl rfl]
  have hdc := dctI_ok (ks := ["act", "come", "again", "tick", "part", "meet", "fall", "load"]) (vs := [.int 3, .int 2, .int 2, .int 2, .int 3, .int 3, .int 2, .int 3]) (A := A) (by decide)
  rw [merge8] at hdc
  obtain ⟨B, hB⟩ : ∃ B, B = A ++ [IO.dct kv8] := ⟨_, rfl⟩
  rw [← hB] at hdc
  have hg : Gr A B := by rw [hB]; exact Gr.new _ _
  have hat : B[A.length]? = some (.dct kv8) := by rw [hB]; exact at_new _ _
  cases xs with
  | nil =>
    refine ⟨B, hg, ?_⟩
    simp only [onB_bl, bind_ok, bind_ex, bind_ite, onS_bl, on_ok, on_ex, on_ite, next_nx, next_rt, next_ct, next_ex, next_ite, e_non, e_bl, e_int, e_str, gV_some, e_var, optR_some, e_gco, e_tup, e_lst, e_bin, negI_int, e_neg, e_cmp, e_chain, notI_bl, e_not, e_and, e_or, e_ite, e_ix, e_sl, e_call, e_bi, e_me, optB_some, e_isi, attI_exc, e_att, oG_some, gD_some, e_gin, e_gix, e_gget, o_no, oI_int, o_some, t_no, tI_bl, t_some, es_nil, es_cons, qI_tup, qI_str, qI_ref, q_val, rI_int, q_rng, enI_ref, q_enum, oS_some, s_asg', s_par', s_setix', s_expr', s_ret', s_ite', s_for', s_cont', s_raise', ss_nil', ss_cons', stG_nm, stG_tp, stGs_nil, stGs_cons, fin_rt, fin_nx, fin_ex, fin_ite, List.getElem?_cons_zero, List.getElem?_cons_succ, List.set_cons_zero, List.set_cons_succ, List.length_cons, List.length_nil, List.length_set, List.replicate, if_true, if_false, Bool.not_true, Bool.not_false, Bool.false_eq_true, Bool.and_true, Bool.true_and, Bool.and_false, Bool.false_and, Bool.or_true, Bool.true_or, Bool.or_false, Bool.false_or, decide_true, decide_false, Option.bind_some, Option.isSome_some, List.nil_append, List.cons_append, List.append_nil, startF_one, startF_two, permute_one, permute_two, le_int, lt_int, gt_int, ge_int, add_int, sub_int, not_true_eq_false, not_false_eq_true, and_self, and_true, true_and, or_true, true_or, ite_self, b22, e_dct, hdc, Nat.reduceAdd, Nat.reduceLT, lim00, eq_unit h hd, List.isEmpty_nil]
    rfl
  | cons v r =>
    have hv := okVs_mem h v List.mem_cons_self
    have no : ∀ (hs : isI prg v .str = some false) (hk : stepOk (v :: r) = false), ∃ A', Gr A A' ∧ fin (evSs prg (callI prg n) b22 (startF 3 [.tup (v :: r)]) A) = .ok (.bl (stepOk (v :: r))) A' := fun hs hk => by
      refine ⟨B, hg, ?_⟩
      rw [hk]
      simp only [onB_bl, bind_ok, bind_ex, bind_ite, onS_bl, on_ok, on_ex, on_ite, next_nx, next_rt, next_ct, next_ex, next_ite, e_non, e_bl, e_int, e_str, gV_some, e_var, optR_some, e_gco, e_tup, e_lst, e_bin, negI_int, e_neg, e_cmp, e_chain, notI_bl, e_not, e_and, e_or, e_ite, e_ix, e_sl, e_call, e_bi, e_me, optB_some, e_isi, attI_exc, e_att, oG_some, gD_some, e_gin, e_gix, e_gget, o_no, oI_int, o_some, t_no, tI_bl, t_some, es_nil, es_cons, qI_tup, qI_str, qI_ref, q_val, rI_int, q_rng, enI_ref, q_enum, oS_some, s_asg', s_par', s_setix', s_expr', s_ret', s_ite', s_for', s_cont', s_raise', ss_nil', ss_cons', stG_nm, stG_tp, stGs_nil, stGs_cons, fin_rt, fin_nx, fin_ex, fin_ite, List.getElem?_cons_zero, List.getElem?_cons_succ, List.set_cons_zero, List.set_cons_succ, List.length_cons, List.length_nil, List.length_set, List.replicate, if_true, if_false, Bool.not_true, Bool.not_false, Bool.false_eq_true, Bool.and_true, Bool.true_and, Bool.and_false, Bool.false_and, Bool.or_true, Bool.true_or, Bool.or_false, Bool.false_or, decide_true, decide_false, Option.bind_some, Option.isSome_some, List.nil_append, List.cons_append, List.append_nil, startF_one, startF_two, permute_one, permute_two, le_int, lt_int, gt_int, ge_int, add_int, sub_int, not_true_eq_false, not_false_eq_true, and_self, and_true, true_and, or_true, true_or, ite_self, b22, e_dct, hdc, Nat.reduceAdd, Nat.reduceLT, lim00, eq_unit h hd, List.isEmpty_cons, ix_tup0, hs]
    cases v with
    | non => exact no rfl rfl
    | bl b => exact no rfl rfl
    | int i => exact no rfl rfl
    | tup ys => exact no rfl rfl
    | ref k => rw [okV] at hv; cases hv
    | exc C fs => rw [okV] at hv; cases hv
    | glo k => rw [okV] at hv; cases hv
    | str s =>
      obtain ⟨i, e1, e2⟩ := sz8 s
      obtain ⟨g1, g2⟩ := get_dct s (.int 0) hat
      rw [e1] at g1
      have hso : stepOk (.str s :: r) = (decide (((r.length + 1 : Nat) : Int) = i) && r.all isFN) := by
        unfold stepOk fstW
        rw [e2]
        show (decide (0 ≤ szOf s) && (decide (((r.length + 1 : Nat) : Int) = szOf s + 1) && r.all isFN)) = _
        by_cases q : ((r.length + 1 : Nat) : Int) = szOf s + 1
        · rw [decide_eq_true (show 0 ≤ szOf s by omega), Bool.true_and]
        · rw [decide_eq_false q, Bool.false_and, Bool.and_false]
      rw [hso]
      have hlc : evE prg (callI prg n) (.lc (.var 2) (.nm 2) (.val (.sl (.var 0) (.some (.int 1)) .no)) (.some (.or (.isi (.var 2) (.bool)) (.or (.not (.isi (.var 2) (.int))) (.cmp .lt (.var 2) (.int 0))))) [2]) [some (.tup (.str s :: r)), some (.ref A.length), none] B = .ok (.ref B.length) (B ++ [.lst (r.filter badN)]) := by
        simp only [e_lc, q_val, e_sl, e_var, List.getElem?_cons_zero, gV_some, bind_ok, o_some, e_int, oI_int, o_no, sl_tup, qI_tup, wipeF]
        rw [lc_fix0 (g := fun v => if badN v = true then some v else none)]
        · congr 4
          show List.filterMap _ r = _
          exact filt_map r
        · intro u hu acc
          have hu : u ∈ r := hu
          have hp : Pl u = true := okV_pl (okVs_mem h u (List.mem_cons_of_mem _ hu))
          simp only [stG_nm, List.length_set, List.length_cons, List.length_nil, Nat.reduceAdd, Nat.reduceLT, if_true, oG_some, List.set_cons_succ, List.set_cons_zero]
          rw [bad_test n u _ _ hp rfl, bind_ok]
          cases badN u with
          | true => simp only [if_true, e_var, List.getElem?_cons_succ, List.getElem?_cons_zero, gV_some, bind_ok]
          | false => rfl
        · rw [List.length_drop]
          omega
      cases hq : decide (((r.length + 1 : Nat) : Int) = i) with
      | false =>
        refine ⟨B, hg, ?_⟩
        simp only [onB_bl, bind_ok, bind_ex, bind_ite, onS_bl, on_ok, on_ex, on_ite, next_nx, next_rt, next_ct, next_ex, next_ite, e_non, e_bl, e_int, e_str, gV_some, e_var, optR_some, e_gco, e_tup, e_lst, e_bin, negI_int, e_neg, e_cmp, e_chain, notI_bl, e_not, e_and, e_or, e_ite, e_ix, e_sl, e_call, e_bi, e_me, optB_some, e_isi, attI_exc, e_att, oG_some, gD_some, e_gin, e_gix, e_gget, o_no, oI_int, o_some, t_no, tI_bl, t_some, es_nil, es_cons, qI_tup, qI_str, qI_ref, q_val, rI_int, q_rng, enI_ref, q_enum, oS_some, s_asg', s_par', s_setix', s_expr', s_ret', s_ite', s_for', s_cont', s_raise', ss_nil', ss_cons', stG_nm, stG_tp, stGs_nil, stGs_cons, fin_rt, fin_nx, fin_ex, fin_ite, List.getElem?_cons_zero, List.getElem?_cons_succ, List.set_cons_zero, List.set_cons_succ, List.length_cons, List.length_nil, List.length_set, List.replicate, if_true, if_false, Bool.not_true, Bool.not_false, Bool.false_eq_true, Bool.and_true, Bool.true_and, Bool.and_false, Bool.false_and, Bool.or_true, Bool.true_or, Bool.or_false, Bool.false_or, decide_true, decide_false, Option.bind_some, Option.isSome_some, List.nil_append, List.cons_append, List.append_nil, startF_one, startF_two, permute_one, permute_two, le_int, lt_int, gt_int, ge_int, add_int, sub_int, not_true_eq_false, not_false_eq_true, and_self, and_true, true_and, or_true, true_or, ite_self, b22, e_dct, hdc, Nat.reduceAdd, Nat.reduceLT, lim00, eq_unit h hd, List.isEmpty_cons, ix_tup0, isI_str, len_tup, g1, g2, ne_int, hq]
      | true =>
        have ho : okVs (r.filter badN) = true := okVs_of fun u hu => okVs_mem h u (List.mem_cons_of_mem _ (List.mem_filter.mp hu).1)
        have hdp : dpVs (r.filter badN) ≤ 60 := dpVs_of fun u hu => dpVs_le hd u (List.mem_cons_of_mem _ (List.mem_filter.mp hu).1)
        have he := eq_nils (A := B ++ [IO.lst (r.filter badN)] ++ [IO.lst []]) (m := B.length) (k := (B ++ [IO.lst (r.filter badN)]).length) ((Gr.new (B ++ [IO.lst (r.filter badN)]) _).get (at_new _ _)) (at_new _ _) ho hdp
        rw [filt_empty] at he
        refine ⟨B ++ [IO.lst (r.filter badN)] ++ [IO.lst []], (hg.snoc _).snoc _, ?_⟩
        simp only [onB_bl, bind_ok, bind_ex, bind_ite, onS_bl, on_ok, on_ex, on_ite, next_nx, next_rt, next_ct, next_ex, next_ite, e_non, e_bl, e_int, e_str, gV_some, e_var, optR_some, e_gco, e_tup, e_lst, e_bin, negI_int, e_neg, e_cmp, e_chain, notI_bl, e_not, e_and, e_or, e_ite, e_ix, e_sl, e_call, e_bi, e_me, optB_some, e_isi, attI_exc, e_att, oG_some, gD_some, e_gin, e_gix, e_gget, o_no, oI_int, o_some, t_no, tI_bl, t_some, es_nil, es_cons, qI_tup, qI_str, qI_ref, q_val, rI_int, q_rng, enI_ref, q_enum, oS_some, s_asg', s_par', s_setix', s_expr', s_ret', s_ite', s_for', s_cont', s_raise', ss_nil', ss_cons', stG_nm, stG_tp, stGs_nil, stGs_cons, fin_rt, fin_nx, fin_ex, fin_ite, List.getElem?_cons_zero, List.getElem?_cons_succ, List.set_cons_zero, List.set_cons_succ, List.length_cons, List.length_nil, List.length_set, List.replicate, if_true, if_false, Bool.not_true, Bool.not_false, Bool.false_eq_true, Bool.and_true, Bool.true_and, Bool.and_false, Bool.false_and, Bool.or_true, Bool.true_or, Bool.or_false, Bool.false_or, decide_true, decide_false, Option.bind_some, Option.isSome_some, List.nil_append, List.cons_append, List.append_nil, startF_one, startF_two, permute_one, permute_two, le_int, lt_int, gt_int, ge_int, add_int, sub_int, not_true_eq_false, not_false_eq_true, and_self, and_true, true_and, or_true, true_or, ite_self, b22, e_dct, hdc, Nat.reduceAdd, Nat.reduceLT, lim00, eq_unit h hd, List.isEmpty_cons, ix_tup0, isI_str, len_tup, g1, g2, ne_int, hq, hlc, newL_eq, he]
end LF.Pl
set_option Elab.async false
set_option linter.all false
set_option maxHeartbeats 8000000
set_option maxRecDepth 100000
/-! Where there is room enough, how much does not matter. -/
namespace LF.Pl
open PySem
theorem head_app (xs : List (List IV)) (b : List IV) (v : IV) : ((xs ++ [b ++ [v]]).headD []).length ≤ ((xs ++ [b]).headD []).length + 1 := by
  cases xs with
  | nil => simp
  | cons x r => simp
theorem step_room {m m' k : Nat} {lv : List (List IV)} {w : Str} (h : (lv.headD []).length ≤ k) (h1 : k < m) (h2 : k < m') : rdStep m lv w = rdStep m' lv w := by
  unfold rdStep
  have e1 : ¬ m ≤ (lv.headD []).length := by omega
  have e2 : ¬ m' ≤ (lv.headD []).length := by omega
  simp only [e1, e2, and_false]
theorem step_head {m k : Nat} {lv lv' : List (List IV)} {w : Str} (h : (lv.headD []).length ≤ k) (hne : lv ≠ []) (hs : rdStep m lv w = some lv') : (lv'.headD []).length ≤ k + 1 ∧ lv' ≠ [] := by
  obtain ⟨xs, b, rfl⟩ : ∃ xs b, lv = xs ++ [b] := ⟨_, _, (List.dropLast_concat_getLast hne).symm⟩
  unfold rdStep at hs
  split at hs
  · rename_i hc
    cases hs
    obtain ⟨ys, a, rfl⟩ : ∃ ys a, xs = ys ++ [a] := by
      refine ⟨_, _, (List.dropLast_concat_getLast (l := xs) ?_).symm⟩
      intro z
      rw [z] at hc
      simp at hc
    rw [popT_cat]
    refine ⟨?_, by simp⟩
    have e : ((ys ++ [a] ++ [b]).headD []).length = ((ys ++ [a]).headD []).length := by cases ys <;> simp
    rw [e] at h
    have := head_app ys a (.tup b)
    omega
  · split at hs
    · cases hs
    · split at hs
      · cases hs
        refine ⟨?_, by simp⟩
        have e : ((xs ++ [b] ++ [[]]).headD []).length = ((xs ++ [b]).headD []).length := by cases xs <;> simp
        rw [e]
        omega
      · cases ha : atomOf w with
        | none => rw [ha] at hs; cases hs
        | some v =>
          rw [ha] at hs
          cases hs
          rw [appT_cat]
          have := head_app xs b v
          exact ⟨by omega, by simp⟩
theorem rd_room {m m' : Nat} : ∀ (ws : List Str) (k : Nat) (lv : List (List IV)), (lv.headD []).length ≤ k → lv ≠ [] → k + ws.length ≤ m → k + ws.length ≤ m' → rd m k lv ws = rd m' k lv ws
  | [], k, lv, _, _, _, _ => by rw [rd, rd]
  | w :: ws, k, lv, h, hne, h1, h2 => by
    rw [List.length_cons] at h1 h2
    rw [rd, rd, ← step_room (m := m) (m' := m') h (by omega) (by omega)]
    cases hs : rdStep m lv w with
    | none => rfl
    | some lv' =>
      obtain ⟨a, b⟩ := step_head h hne hs
      exact rd_room ws (k + 1) lv' a b (by omega) (by omega)
theorem rdAll_room {m m' : Nat} {ws : List Str} (h1 : ws.length ≤ m) (h2 : ws.length ≤ m') : rdAll m ws = rdAll m' ws := by
  unfold rdAll
  rw [rd_room (m := m) (m' := m') ws 0 [[]] (by simp) (by simp) (by omega) (by omega)]
end LF.Pl
set_option Elab.async false
set_option linter.all false
set_option maxHeartbeats 8000000
set_option maxRecDepth 100000
/-! Steps: read, and due. -/
namespace LF.Pl
open PySem
theorem rd_hlen {m : Nat} : ∀ (ws : List Str) (k : Nat) (lv lv' : List (List IV)), (lv.headD []).length ≤ k → lv ≠ [] → rd m k lv ws = .ok lv' → (lv'.headD []).length ≤ k + ws.length
  | [], k, lv, lv', h, _, e => by
    rw [rd] at e
    cases e
    exact h
  | w :: ws, k, lv, lv', h, hne, e => by
    rw [rd] at e
    cases hs : rdStep m lv w with
    | none => rw [hs] at e; cases e
    | some lv2 =>
      rw [hs] at e
      obtain ⟨a, b⟩ := step_head h hne hs
      have := rd_hlen ws (k + 1) lv2 lv' a b e
      rw [List.length_cons]
      omega
theorem rdAll_len {m : Nat} {ws : List Str} {xs : List IV} (h : rdAll m ws = .ok xs) : xs.length ≤ ws.length := by
  unfold rdAll at h
  cases hr : rd m 0 [[]] ws with
  | error k => rw [hr] at h; cases h
  | ok lv =>
    rw [hr] at h
    dsimp only at h
    split at h
    · cases h
    · cases h
      have := rd_hlen ws 0 [[]] lv (by simp) (by simp) hr
      omega
def stepOf (x : Str) : Except Nat (List IV) := match rdAll (Txt.split x " ").length (Txt.split x " ") with
  | .error k => .error k
  | .ok xs => if stepOk xs = true then .ok xs else .error 0
/-- step_read -/
theorem f11 (n : Nat) (A : IH) (x : Str) (ln : IV) (h : Tx x) : ∃ A', Gr A A' ∧ callI prg (n + 5) 11 [.str x, ln] A = outOf ln (stepOf x) A' := by
  rw [call_eq (d := ⟨2, 4, b11⟩) rfl rfl]
  have h4 := h.2
  have hw := words_split (x := x) tSp (by decide) h
  have hm := me_split (x := x) (y := " ") A len_sp (by omega)
  unfold stepOf
  generalize hws : Txt.split x " " = ws at *
  obtain ⟨A', g, e⟩ := f8 n (A ++ [IO.lst (ws.map .str)]) A.length ln ws.length ws (at_new _ _) hw
  have hlen := len_lst (at_new A (.lst (ws.map .str)))
  rw [List.length_map] at hlen
  have gA : Gr A A' := (Gr.new _ _).trans g
  cases hr : rdAll ws.length ws with
  | error k =>
    rw [hr] at e
    have e : callI prg (n + 4) 8 [.ref A.length, ln, .int (ws.length : Nat)] (A ++ [IO.lst (ws.map .str)]) = .ex 10 [ln, .int k] A' := e
    refine ⟨A', gA, ?_⟩
    simp only [onB_bl, bind_ok, bind_ex, bind_ite, onS_bl, on_ok, on_ex, on_ite, next_nx, next_rt, next_ct, next_ex, next_ite, e_non, e_bl, e_int, e_str, gV_some, e_var, optR_some, e_gco, e_tup, e_lst, e_bin, negI_int, e_neg, e_cmp, e_chain, notI_bl, e_not, e_and, e_or, e_ite, e_ix, e_sl, e_call, e_bi, e_me, optB_some, e_isi, attI_exc, e_att, oG_some, gD_some, e_gin, e_gix, e_gget, o_no, oI_int, o_some, t_no, tI_bl, t_some, es_nil, es_cons, qI_tup, qI_str, qI_ref, q_val, rI_int, q_rng, enI_ref, q_enum, oS_some, s_asg', s_par', s_setix', s_expr', s_ret', s_ite', s_for', s_cont', s_raise', ss_nil', ss_cons', stG_nm, stG_tp, stGs_nil, stGs_cons, fin_rt, fin_nx, fin_ex, fin_ite, List.getElem?_cons_zero, List.getElem?_cons_succ, List.set_cons_zero, List.set_cons_succ, List.length_cons, List.length_nil, List.length_set, List.replicate, if_true, if_false, Bool.not_true, Bool.not_false, Bool.false_eq_true, Bool.and_true, Bool.true_and, Bool.and_false, Bool.false_and, Bool.or_true, Bool.true_or, Bool.or_false, Bool.false_or, decide_true, decide_false, Option.bind_some, Option.isSome_some, List.nil_append, List.cons_append, List.append_nil, startF_one, startF_two, permute_one, permute_two, le_int, lt_int, gt_int, ge_int, add_int, sub_int, not_true_eq_false, not_false_eq_true, and_self, and_true, true_and, or_true, true_or, ite_self, b11, recv_split, hm, hlen, permute_three, e, Nat.reduceAdd, Nat.reduceLT]
    rfl
  | ok xs =>
    rw [hr] at e
    have e : callI prg (n + 4) 8 [.ref A.length, ln, .int (ws.length : Nat)] (A ++ [IO.lst (ws.map .str)]) = .ok (.tup xs) A' := e
    obtain ⟨p1, p2⟩ := rdAll_plain (fun w hw' => (hw.1 w hw').1) hr
    have p3 := rdAll_len hr
    have hw2 := hw.2
    obtain ⟨A2, g2, e2⟩ := f10 (n + 1) A' xs (okVs_pl p1) (by omega)
    refine ⟨A2, gA.trans g2, ?_⟩
    cases hs : stepOk xs with
    | true =>
      rw [hs] at e2
      simp only [onB_bl, bind_ok, bind_ex, bind_ite, onS_bl, on_ok, on_ex, on_ite, next_nx, next_rt, next_ct, next_ex, next_ite, e_non, e_bl, e_int, e_str, gV_some, e_var, optR_some, e_gco, e_tup, e_lst, e_bin, negI_int, e_neg, e_cmp, e_chain, notI_bl, e_not, e_and, e_or, e_ite, e_ix, e_sl, e_call, e_bi, e_me, optB_some, e_isi, attI_exc, e_att, oG_some, gD_some, e_gin, e_gix, e_gget, o_no, oI_int, o_some, t_no, tI_bl, t_some, es_nil, es_cons, qI_tup, qI_str, qI_ref, q_val, rI_int, q_rng, enI_ref, q_enum, oS_some, s_asg', s_par', s_setix', s_expr', s_ret', s_ite', s_for', s_cont', s_raise', ss_nil', ss_cons', stG_nm, stG_tp, stGs_nil, stGs_cons, fin_rt, fin_nx, fin_ex, fin_ite, List.getElem?_cons_zero, List.getElem?_cons_succ, List.set_cons_zero, List.set_cons_succ, List.length_cons, List.length_nil, List.length_set, List.replicate, if_true, if_false, Bool.not_true, Bool.not_false, Bool.false_eq_true, Bool.and_true, Bool.true_and, Bool.and_false, Bool.false_and, Bool.or_true, Bool.true_or, Bool.or_false, Bool.false_or, decide_true, decide_false, Option.bind_some, Option.isSome_some, List.nil_append, List.cons_append, List.append_nil, startF_one, startF_two, permute_one, permute_two, le_int, lt_int, gt_int, ge_int, add_int, sub_int, not_true_eq_false, not_false_eq_true, and_self, and_true, true_and, or_true, true_or, ite_self, b11, recv_split, hm, hlen, permute_three, e, Nat.reduceAdd, Nat.reduceLT, e2]
      rw [hs]
      rfl
    | false =>
      rw [hs] at e2
      simp only [onB_bl, bind_ok, bind_ex, bind_ite, onS_bl, on_ok, on_ex, on_ite, next_nx, next_rt, next_ct, next_ex, next_ite, e_non, e_bl, e_int, e_str, gV_some, e_var, optR_some, e_gco, e_tup, e_lst, e_bin, negI_int, e_neg, e_cmp, e_chain, notI_bl, e_not, e_and, e_or, e_ite, e_ix, e_sl, e_call, e_bi, e_me, optB_some, e_isi, attI_exc, e_att, oG_some, gD_some, e_gin, e_gix, e_gget, o_no, oI_int, o_some, t_no, tI_bl, t_some, es_nil, es_cons, qI_tup, qI_str, qI_ref, q_val, rI_int, q_rng, enI_ref, q_enum, oS_some, s_asg', s_par', s_setix', s_expr', s_ret', s_ite', s_for', s_cont', s_raise', ss_nil', ss_cons', stG_nm, stG_tp, stGs_nil, stGs_cons, fin_rt, fin_nx, fin_ex, fin_ite, List.getElem?_cons_zero, List.getElem?_cons_succ, List.set_cons_zero, List.set_cons_succ, List.length_cons, List.length_nil, List.length_set, List.replicate, if_true, if_false, Bool.not_true, Bool.not_false, Bool.false_eq_true, Bool.and_true, Bool.true_and, Bool.and_false, Bool.false_and, Bool.or_true, Bool.true_or, Bool.or_false, Bool.false_or, decide_true, decide_false, Option.bind_some, Option.isSome_some, List.nil_append, List.cons_append, List.append_nil, startF_one, startF_two, permute_one, permute_two, le_int, lt_int, gt_int, ge_int, add_int, sub_int, not_true_eq_false, not_false_eq_true, and_self, and_true, true_and, or_true, true_or, ite_self, b11, recv_split, hm, hlen, permute_three, e, Nat.reduceAdd, Nat.reduceLT, e2]
      rw [hs]
      rfl
end LF.Pl
set_option Elab.async false
set_option linter.all false
set_option maxHeartbeats 8000000
set_option maxRecDepth 100000
/-! Rows of steps. -/
namespace LF.Pl
open PySem
def stepsOf : Nat → List Str → Except (Nat × Nat) (List IV)
  | _, [] => .ok []
  | k, r :: rs => match stepOf r with
    | .error e => .error (k, e)
    | .ok xs => match stepsOf (k + 1) rs with
      | .error e => .error e
      | .ok ys => .ok (.tup xs :: ys)
theorem steps_len : ∀ (rs : List Str) (k : Nat) (ys : List IV), stepsOf k rs = .ok ys → ys.length = rs.length
  | [], k, ys, h => by rw [stepsOf] at h; cases h; rfl
  | r :: rs, k, ys, h => by
    rw [stepsOf] at h
    cases h1 : stepOf r with
    | error e => rw [h1] at h; cases h
    | ok xs =>
      rw [h1] at h
      cases h2 : stepsOf (k + 1) rs with
      | error e => rw [h2] at h; cases h
      | ok zs =>
        rw [h2] at h
        cases h
        rw [List.length_cons, List.length_cons, steps_len rs (k + 1) zs h2]
/-- the rows' comprehension, row by row -/
theorem rows_lc {f : IV → IH → Rs (Option IV)} {A0 : IH} {rr : Nat} {rs : List Str} (hr : A0[rr]? = some (.lst (rs.map .str))) (hl : rs.length ≤ LIM)
    (hf : ∀ (i : Nat) (r : Str) (B : IH), rs[i]? = some r → Gr A0 B → ∃ B', Gr B B' ∧ f (.tup [.int i, .str r]) B = (match stepOf r with
      | .ok xs => .ok (some (.tup xs)) B'
      | .error e => .ex 10 [.int i, .int e] B')) :
    ∀ (m i k : Nat) (acc : List IV) (B : IH), rs.length - i = m → i ≤ rs.length → m < k → acc.length = i → Gr A0 B → B[A0.length]? = some (.lst acc) → ∃ B', Gr A0 B' ∧
      (match stepsOf i (rs.drop i) with
        | .ok ys => lcGo f (.enL rr) A0.length k i B = .ok (.ref A0.length) B' ∧ B'[A0.length]? = some (.lst (acc ++ ys))
        | .error (l, e) => lcGo f (.enL rr) A0.length k i B = .ex 10 [.int l, .int e] B') := by
  intro m
  induction m with
  | zero =>
    intro i k acc B hm hi hk ha g hd
    obtain rfl : i = rs.length := by omega
    obtain ⟨k, rfl⟩ : ∃ j, k = j + 1 := ⟨k - 1, by omega⟩
    rw [List.drop_length, stepsOf]
    refine ⟨B, g, ?_, by rw [List.append_nil]; exact hd⟩
    rw [lcGo_step, item_enL, listOf_lst (g.get hr)]
    simp
  | succ m ih =>
    intro i k acc B hm hi hk ha g hd
    obtain ⟨k, rfl⟩ : ∃ j, k = j + 1 := ⟨k - 1, by omega⟩
    have hlt : i < rs.length := by omega
    have hri : rs[i]? = some rs[i] := List.getElem?_eq_getElem hlt
    obtain ⟨B', g', e⟩ := hf i rs[i] B hri g
    have hit : (Sq.enL rr).item i B = some (some (.tup [.int i, .str rs[i]])) := by
      rw [item_enL, listOf_lst (g.get hr)]
      simp [hlt]
    rw [List.drop_eq_getElem_cons hlt, stepsOf, lcGo_step, hit]
    dsimp only
    rw [e]
    cases hs : stepOf rs[i] with
    | error z => exact ⟨B', g.trans g', rfl⟩
    | ok xs =>
      have hd' := g'.get hd
      obtain ⟨B2, g2, q⟩ := ih (i + 1) k (acc ++ [.tup xs]) (B'.set A0.length (.lst (acc ++ [.tup xs]))) (by omega) hlt (by omega) (by simp [ha]) ((g.trans g').set (Nat.le_refl _) _) (get_set_eq hd')
      refine ⟨B2, g2, ?_⟩
      dsimp only
      rw [bind_ok]
      dsimp only
      rw [hd']
      dsimp only
      rw [if_pos (by omega)]
      cases hs2 : stepsOf (i + 1) (rs.drop (i + 1)) with
      | error z => rw [hs2] at q; exact q
      | ok ys =>
        rw [hs2] at q
        exact ⟨q.1, by rw [q.2]; simp⟩
end LF.Pl
set_option Elab.async false
set_option linter.all false
set_option maxHeartbeats 8000000
set_option maxRecDepth 100000
/-! read_steps. -/
namespace LF.Pl
open PySem
def rowsOf (x : Str) : Except (Nat × Nat) (List IV) := if x = "" then .ok [] else stepsOf 0 (Txt.split x "\n")
theorem rows_tx {x : Str} (h : Tx x) : (∀ r ∈ Txt.split x "\n", Tx r) ∧ (Txt.split x "\n").length + 2 ≤ LIM := by
  obtain ⟨h1, h2, h3⟩ := split_len (x := x) tNl (by decide)
  have h4 := h.2
  exact ⟨fun r hr => ⟨split_asc tNl (by decide) h.1 r hr, by have := h3 r hr; omega⟩, by omega⟩
theorem f12 (n : Nat) (A : IH) (x : Str) (h : Tx x) : ∃ A', Gr A A' ∧ callI prg (n + 6) 12 [.str x] A = (match rowsOf x with
    | .ok ys => .ok (.tup ys) A'
    | .error (l, e) => .ex 10 [.int l, .int e] A') := by
  rw [call_eq (d := ⟨1, 3, b12⟩) rfl rfl]
  have h4 := h.2
  unfold rowsOf
  by_cases hx : x = ""
  · rw [if_pos hx]
    refine ⟨A, Gr.refl A, ?_⟩
    simp only [onB_bl, bind_ok, bind_ex, bind_ite, onS_bl, on_ok, on_ex, on_ite, next_nx, next_rt, next_ct, next_ex, next_ite, e_non, e_bl, e_int, e_str, gV_some, e_var, optR_some, e_gco, e_tup, e_lst, e_bin, negI_int, e_neg, e_cmp, e_chain, notI_bl, e_not, e_and, e_or, e_ite, e_ix, e_sl, e_call, e_bi, e_me, optB_some, e_isi, attI_exc, e_att, oG_some, gD_some, e_gin, e_gix, e_gget, o_no, oI_int, o_some, t_no, tI_bl, t_some, es_nil, es_cons, qI_tup, qI_str, qI_ref, q_val, rI_int, q_rng, enI_ref, q_enum, oS_some, s_asg', s_par', s_setix', s_expr', s_ret', s_ite', s_for', s_cont', s_raise', ss_nil', ss_cons', stG_nm, stG_tp, stGs_nil, stGs_cons, fin_rt, fin_nx, fin_ex, fin_ite, List.getElem?_cons_zero, List.getElem?_cons_succ, List.set_cons_zero, List.set_cons_succ, List.length_cons, List.length_nil, List.length_set, List.replicate, if_true, if_false, Bool.not_true, Bool.not_false, Bool.false_eq_true, Bool.and_true, Bool.true_and, Bool.and_false, Bool.false_and, Bool.or_true, Bool.true_or, Bool.or_false, Bool.false_or, decide_true, decide_false, Option.bind_some, Option.isSome_some, List.nil_append, List.cons_append, List.append_nil, startF_one, startF_two, permute_one, permute_two, le_int, lt_int, gt_int, ge_int, add_int, sub_int, not_true_eq_false, not_false_eq_true, and_self, and_true, true_and, or_true, true_or, ite_self, b12, cmp_eq _ h.1 aEmp, decide_eq_true hx, lim00]
  · rw [if_neg hx]
    obtain ⟨r1, r2⟩ := rows_tx h
    have hm := me_split (x := x) (y := "\n") A len_nl (by omega)
    generalize hrs : Txt.split x "\n" = rs at *
    obtain ⟨A1, hA1⟩ : ∃ B, B = A ++ [IO.lst (rs.map IV.str)] := ⟨_, rfl⟩
    have g1 : Gr A A1 := by rw [hA1]; exact Gr.new _ _
    have e1 : A1[A.length]? = some (.lst (rs.map .str)) := by rw [hA1]; exact at_new _ _
    rw [← hA1] at hm
    obtain ⟨B, gB, q⟩ := rows_lc (f := fun x' A' => oG (stG A' (.tp [(.nm 1), (.nm 2)]) x' (wipeF [some (.str x), none, none] [1, 2])) fun ρ' => (evT prg (callI prg (n + 5)) .no ρ' A').bind fun b A' => if b = true then (evE prg (callI prg (n + 5)) (.call 11 (.cons (.var 2) (.cons (.var 1) .nil)) [] [0, 1]) ρ' A').bind fun y A' => .ok (some y) A' else .ok none A')
      (A0 := A1) (rr := A.length) (rs := rs) e1 (by omega) (fun i r B hr g => by
        have hmem : r ∈ rs := List.mem_of_getElem? hr
        obtain ⟨B', g', e⟩ := f11 n B r (.int i) (r1 r hmem)
        refine ⟨B', g', ?_⟩
        have hst : stG B (.tp [(.nm 1), (.nm 2)]) (.tup [.int i, .str r]) (wipeF [some (.str x), none, none] [1, 2]) = some [some (.str x), some (.int i), some (.str r)] := rfl
        rw [hst]
        simp only [onB_bl, bind_ok, bind_ex, bind_ite, onS_bl, on_ok, on_ex, on_ite, next_nx, next_rt, next_ct, next_ex, next_ite, e_non, e_bl, e_int, e_str, gV_some, e_var, optR_some, e_gco, e_tup, e_lst, e_bin, negI_int, e_neg, e_cmp, e_chain, notI_bl, e_not, e_and, e_or, e_ite, e_ix, e_sl, e_call, e_bi, e_me, optB_some, e_isi, attI_exc, e_att, oG_some, gD_some, e_gin, e_gix, e_gget, o_no, oI_int, o_some, t_no, tI_bl, t_some, es_nil, es_cons, qI_tup, qI_str, qI_ref, q_val, rI_int, q_rng, enI_ref, q_enum, oS_some, s_asg', s_par', s_setix', s_expr', s_ret', s_ite', s_for', s_cont', s_raise', ss_nil', ss_cons', stG_nm, stG_tp, stGs_nil, stGs_cons, fin_rt, fin_nx, fin_ex, fin_ite, List.getElem?_cons_zero, List.getElem?_cons_succ, List.set_cons_zero, List.set_cons_succ, List.length_cons, List.length_nil, List.length_set, List.replicate, if_true, if_false, Bool.not_true, Bool.not_false, Bool.false_eq_true, Bool.and_true, Bool.true_and, Bool.and_false, Bool.false_and, Bool.or_true, Bool.true_or, Bool.or_false, Bool.false_or, decide_true, decide_false, Option.bind_some, Option.isSome_some, List.nil_append, List.cons_append, List.append_nil, startF_one, startF_two, permute_one, permute_two, le_int, lt_int, gt_int, ge_int, add_int, sub_int, not_true_eq_false, not_false_eq_true, and_self, and_true, true_and, or_true, true_or, ite_self, e]
        cases stepOf r with
        | ok xs => rfl
        | error z => rfl) rs.length 0 (LIM + 1) [] (A1 ++ [IO.lst []]) (by omega) (by omega) (by omega) rfl (Gr.new _ _) (at_new _ _)
    rw [List.drop_zero] at q
    have hlc : ∀ Z, Z = lcGo (fun x' A' => oG (stG A' (.tp [(.nm 1), (.nm 2)]) x' (wipeF [some (.str x), none, none] [1, 2])) fun ρ' => (evT prg (callI prg (n + 5)) .no ρ' A').bind fun b A' => if b = true then (evE prg (callI prg (n + 5)) (.call 11 (.cons (.var 2) (.cons (.var 1) .nil)) [] [0, 1]) ρ' A').bind fun y A' => .ok (some y) A' else .ok none A') (.enL A.length) A1.length (LIM + 1) 0 (A1 ++ [IO.lst []]) →
        evE prg (callI prg (n + 5)) (.lc (.call 11 (.cons (.var 2) (.cons (.var 1) .nil)) [] [0, 1]) (.tp [(.nm 1), (.nm 2)]) (.enum (.me .split (.var 0) (.cons (.str "\n") .nil))) .no [1, 2]) [some (.str x), none, none] A = Z := fun Z hZ => by
      rw [hZ, e_lc]
      have hq : evQ prg (callI prg (n + 5)) (.enum (.me .split (.var 0) (.cons (.str "\n") .nil))) [some (.str x), none, none] A = .ok (.enL A.length) A1 := by
        simp only [onB_bl, bind_ok, bind_ex, bind_ite, onS_bl, on_ok, on_ex, on_ite, next_nx, next_rt, next_ct, next_ex, next_ite, e_non, e_bl, e_int, e_str, gV_some, e_var, optR_some, e_gco, e_tup, e_lst, e_bin, negI_int, e_neg, e_cmp, e_chain, notI_bl, e_not, e_and, e_or, e_ite, e_ix, e_sl, e_call, e_bi, e_me, optB_some, e_isi, attI_exc, e_att, oG_some, gD_some, e_gin, e_gix, e_gget, o_no, oI_int, o_some, t_no, tI_bl, t_some, es_nil, es_cons, qI_tup, qI_str, qI_ref, q_val, rI_int, q_rng, enI_ref, q_enum, oS_some, s_asg', s_par', s_setix', s_expr', s_ret', s_ite', s_for', s_cont', s_raise', ss_nil', ss_cons', stG_nm, stG_tp, stGs_nil, stGs_cons, fin_rt, fin_nx, fin_ex, fin_ite, List.getElem?_cons_zero, List.getElem?_cons_succ, List.set_cons_zero, List.set_cons_succ, List.length_cons, List.length_nil, List.length_set, List.replicate, if_true, if_false, Bool.not_true, Bool.not_false, Bool.false_eq_true, Bool.and_true, Bool.true_and, Bool.and_false, Bool.false_and, Bool.or_true, Bool.true_or, Bool.or_false, Bool.false_or, decide_true, decide_false, Option.bind_some, Option.isSome_some, List.nil_append, List.cons_append, List.append_nil, startF_one, startF_two, permute_one, permute_two, le_int, lt_int, gt_int, ge_int, add_int, sub_int, not_true_eq_false, not_false_eq_true, and_self, and_true, true_and, or_true, true_or, ite_self, recv_split, hm, listOf_lst e1]
      rw [hq, bind_ok]
    have hlc := hlc _ rfl
    refine ⟨B, g1.trans gB, ?_⟩
    cases hs : stepsOf 0 rs with
    | error z =>
      obtain ⟨l, e⟩ := z
      rw [hs] at q
      have q : _ = _ := q
      rw [q] at hlc
      simp only [onB_bl, bind_ok, bind_ex, bind_ite, onS_bl, on_ok, on_ex, on_ite, next_nx, next_rt, next_ct, next_ex, next_ite, e_non, e_bl, e_int, e_str, gV_some, e_var, optR_some, e_gco, e_tup, e_lst, e_bin, negI_int, e_neg, e_cmp, e_chain, notI_bl, e_not, e_and, e_or, e_ite, e_ix, e_sl, e_call, e_bi, e_me, optB_some, e_isi, attI_exc, e_att, oG_some, gD_some, e_gin, e_gix, e_gget, o_no, oI_int, o_some, t_no, tI_bl, t_some, es_nil, es_cons, qI_tup, qI_str, qI_ref, q_val, rI_int, q_rng, enI_ref, q_enum, oS_some, s_asg', s_par', s_setix', s_expr', s_ret', s_ite', s_for', s_cont', s_raise', ss_nil', ss_cons', stG_nm, stG_tp, stGs_nil, stGs_cons, fin_rt, fin_nx, fin_ex, fin_ite, List.getElem?_cons_zero, List.getElem?_cons_succ, List.set_cons_zero, List.set_cons_succ, List.length_cons, List.length_nil, List.length_set, List.replicate, if_true, if_false, Bool.not_true, Bool.not_false, Bool.false_eq_true, Bool.and_true, Bool.true_and, Bool.and_false, Bool.false_and, Bool.or_true, Bool.true_or, Bool.or_false, Bool.false_or, decide_true, decide_false, Option.bind_some, Option.isSome_some, List.nil_append, List.cons_append, List.append_nil, startF_one, startF_two, permute_one, permute_two, le_int, lt_int, gt_int, ge_int, add_int, sub_int, not_true_eq_false, not_false_eq_true, and_self, and_true, true_and, or_true, true_or, ite_self, b12, cmp_eq _ h.1 aEmp, decide_eq_false hx, hlc]
    | ok ys =>
      rw [hs] at q
      obtain ⟨q1, q2⟩ := q
      rw [q1] at hlc
      rw [List.nil_append] at q2
      simp only [onB_bl, bind_ok, bind_ex, bind_ite, onS_bl, on_ok, on_ex, on_ite, next_nx, next_rt, next_ct, next_ex, next_ite, e_non, e_bl, e_int, e_str, gV_some, e_var, optR_some, e_gco, e_tup, e_lst, e_bin, negI_int, e_neg, e_cmp, e_chain, notI_bl, e_not, e_and, e_or, e_ite, e_ix, e_sl, e_call, e_bi, e_me, optB_some, e_isi, attI_exc, e_att, oG_some, gD_some, e_gin, e_gix, e_gget, o_no, oI_int, o_some, t_no, tI_bl, t_some, es_nil, es_cons, qI_tup, qI_str, qI_ref, q_val, rI_int, q_rng, enI_ref, q_enum, oS_some, s_asg', s_par', s_setix', s_expr', s_ret', s_ite', s_for', s_cont', s_raise', ss_nil', ss_cons', stG_nm, stG_tp, stGs_nil, stGs_cons, fin_rt, fin_nx, fin_ex, fin_ite, List.getElem?_cons_zero, List.getElem?_cons_succ, List.set_cons_zero, List.set_cons_succ, List.length_cons, List.length_nil, List.length_set, List.replicate, if_true, if_false, Bool.not_true, Bool.not_false, Bool.false_eq_true, Bool.and_true, Bool.true_and, Bool.and_false, Bool.false_and, Bool.or_true, Bool.true_or, Bool.or_false, Bool.false_or, decide_true, decide_false, Option.bind_some, Option.isSome_some, List.nil_append, List.cons_append, List.append_nil, startF_one, startF_two, permute_one, permute_two, le_int, lt_int, gt_int, ge_int, add_int, sub_int, not_true_eq_false, not_false_eq_true, and_self, and_true, true_and, or_true, true_or, ite_self, b12, cmp_eq _ h.1 aEmp, decide_eq_false hx, hlc, tup_lst q2]
end LF.Pl
set_option Elab.async false
set_option linter.all false
set_option maxHeartbeats 8000000
set_option maxRecDepth 100000
/-! _law_steps_due. -/
namespace LF.Pl
open PySem
def outS (r : Except (Nat × Nat) (List IV)) : IV := match r with
  | .ok ys => .tup [.str "told", .tup ys]
  | .error (l, e) => .tup [.str "no", .str "text", .int l, .int e]
def pre (acc : List IV) (r : Except (Nat × Nat) (List IV)) : Except (Nat × Nat) (List IV) := match r with
  | .ok ys => .ok (acc ++ ys)
  | .error e => .error e
theorem steps_step {rs : List Str} {i : Nat} {acc : List IV} {r : Str} (hr : rs[i]? = some r) : pre acc (stepsOf i (rs.drop i)) = (match stepOf r with
    | .error e => .error (i, e)
    | .ok xs => pre (acc ++ [.tup xs]) (stepsOf (i + 1) (rs.drop (i + 1)))) := by
  obtain ⟨hlt, e⟩ := List.getElem?_eq_some_iff.mp hr
  rw [List.drop_eq_getElem_cons hlt, e, stepsOf]
  cases stepOf r with
  | error z => rfl
  | ok xs =>
    dsimp only
    cases stepsOf (i + 1) (rs.drop (i + 1)) with
    | error z => rfl
    | ok ys => simp [pre]
def body24 : CSs := (.cons (.asg (.nm 4) (.call 21 (.cons (.me .split (.var 3) (.cons (.str " ") .nil)) (.cons (.bin .pow (.int 10) (.int 6)) .nil)) [] [0, 1]))
    (.cons (.ite (.isi (.var 4) (.int)) (.cons (.ret (.tup (.cons (.str "no") (.cons (.str "text") (.cons (.var 2) (.cons (.var 4) .nil))))))
    .nil) .nil)
    (.cons (.ite (.not (.call 22 (.cons (.var 4) .nil) [] [0])) (.cons (.ret (.tup (.cons (.str "no") (.cons (.str "text") (.cons (.var 2) (.cons (.int 0) .nil))))))
    .nil) .nil)
    (.cons (.expr (.me .append (.var 1) (.cons (.var 4) .nil)))
    .nil))))
theorem b24_eq : b24 = .cons (.asg (.nm 1) (.lst .nil)) (.cons (.for (.tp [(.nm 2), (.nm 3)]) (.enum (.ite (.cmp .ne (.var 0) (.str "")) (.me .split (.var 0) (.cons (.str "\n") .nil)) (.lst .nil))) body24) (.cons (.ret (.tup (.cons (.str "told") (.cons (.bi .tuple (.cons (.var 1) .nil)) .nil)))) .nil)) := rfl
theorem pow6 (A : IH) : binI .pow (.int 10) (.int 6) A = .ok (.int ((1000000 : Nat) : Int)) A := by
  show (if 0 ≤ (6 : Int) ∧ (6 : Int) ≤ 1000000 ∧ (10 : Int).natAbs < 2 ^ 64 then Rs.ok (IV.int ((10 : Int) ^ (6 : Int).toNat)) A else .bad) = _
  rw [if_pos (by decide)]
  rfl
/-- a row that the law reads -/
def RowW (r : Str) : Prop := Tx r ∧ r.length + 1 ≤ 1000000 ∧ (Txt.split r " ").length ≤ 58
theorem L4 : (0 + 1 + 1 + 1 + 1 ≤ LIM) = True := eq_true (by decide)
theorem turn24 (n : Nat) {A : IH} {a i : Nat} {acc : List IV} {x2 x3 x4 : Option IV} {x0 : IV} {r : Str} (hd : A[a]? = some (.lst acc)) (hl : acc.length < LIM) (h : RowW r) :
    ∃ A', (match stepOf r with
      | .ok xs => evSs prg (callI prg (n + 3)) body24 [some x0, some (.ref a), some (.int i), some (.str r), x4] A = .nx [some x0, some (.ref a), some (.int i), some (.str r), some (.tup xs)] (A'.set a (.lst (acc ++ [.tup xs])))
      | .error e => evSs prg (callI prg (n + 3)) body24 [some x0, some (.ref a), some (.int i), some (.str r), x4] A = .rt (.tup [.str "no", .str "text", .int i, .int e]) A') ∧ Gr A A' := by
  obtain ⟨ht, h6, h7⟩ := h
  have h4 := ht.2
  have hw := words_split (x := r) tSp (by decide) ht
  have hm := me_split (x := r) (y := " ") A len_sp (by omega)
  obtain ⟨s1, s2, s3⟩ := split_len (x := r) tSp (by decide)
  unfold stepOf
  generalize hws : Txt.split r " " = ws at *
  obtain ⟨A', g, e⟩ := f21 n (A ++ [IO.lst (ws.map .str)]) A.length 1000000 ws (at_new _ _) hw
  rw [rdAll_room (m := 1000000) (m' := ws.length) (by omega) (Nat.le_refl _)] at e
  have gA : Gr A A' := (Gr.new _ _).trans g
  cases hr : rdAll ws.length ws with
  | error k =>
    rw [hr] at e
    refine ⟨A', ?_, gA⟩
    simp only [body24, onB_bl, bind_ok, bind_ex, bind_ite, onS_bl, on_ok, on_ex, on_ite, next_nx, next_rt, next_ct, next_ex, next_ite, e_non, e_bl, e_int, e_str, gV_some, e_var, optR_some, e_gco, e_tup, e_lst, e_bin, negI_int, e_neg, e_cmp, e_chain, notI_bl, e_not, e_and, e_or, e_ite, e_ix, e_sl, e_call, e_bi, e_me, optB_some, e_isi, attI_exc, e_att, oG_some, gD_some, e_gin, e_gix, e_gget, o_no, oI_int, o_some, t_no, tI_bl, t_some, es_nil, es_cons, qI_tup, qI_str, qI_ref, q_val, rI_int, q_rng, enI_ref, q_enum, oS_some, s_asg', s_par', s_setix', s_expr', s_ret', s_ite', s_for', s_cont', s_raise', ss_nil', ss_cons', stG_nm, stG_tp, stGs_nil, stGs_cons, fin_rt, fin_nx, fin_ex, fin_ite, List.getElem?_cons_zero, List.getElem?_cons_succ, List.set_cons_zero, List.set_cons_succ, List.length_cons, List.length_nil, List.length_set, List.replicate, if_true, if_false, Bool.not_true, Bool.not_false, Bool.false_eq_true, Bool.and_true, Bool.true_and, Bool.and_false, Bool.false_and, Bool.or_true, Bool.true_or, Bool.or_false, Bool.false_or, decide_true, decide_false, Option.bind_some, Option.isSome_some, List.nil_append, List.cons_append, List.append_nil, startF_one, startF_two, permute_one, permute_two, le_int, lt_int, gt_int, ge_int, add_int, sub_int, not_true_eq_false, not_false_eq_true, and_self, and_true, true_and, or_true, true_or, ite_self, recv_split, hm, pow6, e, outL, Nat.reduceAdd, Nat.reduceLT, show isI prg (.int k) .int = some true from rfl, L4]
  | ok xs =>
    rw [hr] at e
    obtain ⟨p1, p2⟩ := rdAll_plain (fun w hw' => (hw.1 w hw').1) hr
    have p3 := rdAll_len hr
    have hw2 := hw.2
    obtain ⟨A2, g2, e2⟩ := f22 (n + 2) A' xs p1 (by omega) (by omega)
    refine ⟨A2, ?_, gA.trans g2⟩
    have hd2 := (gA.trans g2).get hd
    cases hs : stepOk xs with
    | true =>
      rw [hs] at e2
      dsimp only
      rw [hs, if_pos rfl]
      simp only [body24, onB_bl, bind_ok, bind_ex, bind_ite, onS_bl, on_ok, on_ex, on_ite, next_nx, next_rt, next_ct, next_ex, next_ite, e_non, e_bl, e_int, e_str, gV_some, e_var, optR_some, e_gco, e_tup, e_lst, e_bin, negI_int, e_neg, e_cmp, e_chain, notI_bl, e_not, e_and, e_or, e_ite, e_ix, e_sl, e_call, e_bi, e_me, optB_some, e_isi, attI_exc, e_att, oG_some, gD_some, e_gin, e_gix, e_gget, o_no, oI_int, o_some, t_no, tI_bl, t_some, es_nil, es_cons, qI_tup, qI_str, qI_ref, q_val, rI_int, q_rng, enI_ref, q_enum, oS_some, s_asg', s_par', s_setix', s_expr', s_ret', s_ite', s_for', s_cont', s_raise', ss_nil', ss_cons', stG_nm, stG_tp, stGs_nil, stGs_cons, fin_rt, fin_nx, fin_ex, fin_ite, List.getElem?_cons_zero, List.getElem?_cons_succ, List.set_cons_zero, List.set_cons_succ, List.length_cons, List.length_nil, List.length_set, List.replicate, if_true, if_false, Bool.not_true, Bool.not_false, Bool.false_eq_true, Bool.and_true, Bool.true_and, Bool.and_false, Bool.false_and, Bool.or_true, Bool.true_or, Bool.or_false, Bool.false_or, decide_true, decide_false, Option.bind_some, Option.isSome_some, List.nil_append, List.cons_append, List.append_nil, startF_one, startF_two, permute_one, permute_two, le_int, lt_int, gt_int, ge_int, add_int, sub_int, not_true_eq_false, not_false_eq_true, and_self, and_true, true_and, or_true, true_or, ite_self, recv_split, hm, pow6, e, outL, Nat.reduceAdd, Nat.reduceLT, show isI prg (.tup xs) .int = some false from rfl, e2, (recv_list hd2).1, app_lst _ hd2 hl]
    | false =>
      rw [hs] at e2
      dsimp only
      rw [hs, if_neg Bool.false_ne_true]
      simp only [body24, onB_bl, bind_ok, bind_ex, bind_ite, onS_bl, on_ok, on_ex, on_ite, next_nx, next_rt, next_ct, next_ex, next_ite, e_non, e_bl, e_int, e_str, gV_some, e_var, optR_some, e_gco, e_tup, e_lst, e_bin, negI_int, e_neg, e_cmp, e_chain, notI_bl, e_not, e_and, e_or, e_ite, e_ix, e_sl, e_call, e_bi, e_me, optB_some, e_isi, attI_exc, e_att, oG_some, gD_some, e_gin, e_gix, e_gget, o_no, oI_int, o_some, t_no, tI_bl, t_some, es_nil, es_cons, qI_tup, qI_str, qI_ref, q_val, rI_int, q_rng, enI_ref, q_enum, oS_some, s_asg', s_par', s_setix', s_expr', s_ret', s_ite', s_for', s_cont', s_raise', ss_nil', ss_cons', stG_nm, stG_tp, stGs_nil, stGs_cons, fin_rt, fin_nx, fin_ex, fin_ite, List.getElem?_cons_zero, List.getElem?_cons_succ, List.set_cons_zero, List.set_cons_succ, List.length_cons, List.length_nil, List.length_set, List.replicate, if_true, if_false, Bool.not_true, Bool.not_false, Bool.false_eq_true, Bool.and_true, Bool.true_and, Bool.and_false, Bool.false_and, Bool.or_true, Bool.true_or, Bool.or_false, Bool.false_or, decide_true, decide_false, Option.bind_some, Option.isSome_some, List.nil_append, List.cons_append, List.append_nil, startF_one, startF_two, permute_one, permute_two, le_int, lt_int, gt_int, ge_int, add_int, sub_int, not_true_eq_false, not_false_eq_true, and_self, and_true, true_and, or_true, true_or, ite_self, recv_split, hm, pow6, e, outL, Nat.reduceAdd, Nat.reduceLT, show isI prg (.tup xs) .int = some false from rfl, e2, L4]
      all_goals rfl
end LF.Pl
set_option Elab.async false
set_option linter.all false
set_option maxHeartbeats 8000000
set_option maxRecDepth 100000
/-! _law_steps_due, whole. -/
namespace LF.Pl
open PySem
theorem f24 (n : Nat) (A : IH) (x : Str) (h : Tx x) (hR : ∀ r ∈ Txt.split x "\n", RowW r) : ∃ A', Gr A A' ∧ callI prg (n + 4) 24 [.str x] A = .ok (outS (rowsOf x)) A' := by
  rw [call_eq (d := ⟨1, 5, b24⟩) rfl rfl, b24_eq]
  have h4 := h.2
  obtain ⟨r1, r2⟩ := rows_tx h
  -- the rows that are walked
  obtain ⟨rs, A1, rr, g1, e1, hq, hrows, hlen, hrs⟩ : ∃ (rs : List Str) (A1 : IH) (rr : Nat), Gr (A ++ [IO.lst []]) A1 ∧ A1[rr]? = some (.lst (rs.map .str)) ∧
      evQ prg (callI prg (n + 3)) (.enum (.ite (.cmp .ne (.var 0) (.str "")) (.me .split (.var 0) (.cons (.str "\n") .nil)) (.lst .nil))) [some (.str x), some (.ref A.length), none, none, none] (A ++ [IO.lst []]) = .ok (.enL rr) A1 ∧ rowsOf x = stepsOf 0 rs ∧ rs.length + 2 ≤ LIM ∧ (∀ r ∈ rs, RowW r) := by
    unfold rowsOf
    by_cases hx : x = ""
    · refine ⟨[], _, _, Gr.new _ [IO.lst []], at_new _ _, ?_, ?_, by decide, fun r hr => nomatch hr⟩
      · have e : listOf (A ++ [IO.lst []] ++ [IO.lst []]) (A ++ [IO.lst []]).length = some [] := listOf_lst (at_new _ _)
        simp only [onB_bl, bind_ok, bind_ex, bind_ite, onS_bl, on_ok, on_ex, on_ite, next_nx, next_rt, next_ct, next_ex, next_ite, e_non, e_bl, e_int, e_str, gV_some, e_var, optR_some, e_gco, e_tup, e_lst, e_bin, negI_int, e_neg, e_cmp, e_chain, notI_bl, e_not, e_and, e_or, e_ite, e_ix, e_sl, e_call, e_bi, e_me, optB_some, e_isi, attI_exc, e_att, oG_some, gD_some, e_gin, e_gix, e_gget, o_no, oI_int, o_some, t_no, tI_bl, t_some, es_nil, es_cons, qI_tup, qI_str, qI_ref, q_val, rI_int, q_rng, enI_ref, q_enum, oS_some, s_asg', s_par', s_setix', s_expr', s_ret', s_ite', s_for', s_cont', s_raise', ss_nil', ss_cons', stG_nm, stG_tp, stGs_nil, stGs_cons, fin_rt, fin_nx, fin_ex, fin_ite, List.getElem?_cons_zero, List.getElem?_cons_succ, List.set_cons_zero, List.set_cons_succ, List.length_cons, List.length_nil, List.length_set, List.replicate, if_true, if_false, Bool.not_true, Bool.not_false, Bool.false_eq_true, Bool.and_true, Bool.true_and, Bool.and_false, Bool.false_and, Bool.or_true, Bool.true_or, Bool.or_false, Bool.false_or, decide_true, decide_false, Option.bind_some, Option.isSome_some, List.nil_append, List.cons_append, List.append_nil, startF_one, startF_two, permute_one, permute_two, le_int, lt_int, gt_int, ge_int, add_int, sub_int, not_true_eq_false, not_false_eq_true, and_self, and_true, true_and, or_true, true_or, ite_self, cmp_ne _ h.1 aEmp, decide_eq_true hx, lim00, newL_eq, e]
      · rw [if_pos hx, stepsOf]
    · have hm := me_split (x := x) (y := "\n") (A ++ [IO.lst []]) len_nl (by omega)
      refine ⟨Txt.split x "\n", _, _, Gr.new _ _, at_new _ _, ?_, ?_, r2, hR⟩
      · have e : listOf (A ++ [IO.lst []] ++ [IO.lst ((Txt.split x "\n").map IV.str)]) (A ++ [IO.lst []]).length = some ((Txt.split x "\n").map .str) := listOf_lst (at_new _ _)
        simp only [onB_bl, bind_ok, bind_ex, bind_ite, onS_bl, on_ok, on_ex, on_ite, next_nx, next_rt, next_ct, next_ex, next_ite, e_non, e_bl, e_int, e_str, gV_some, e_var, optR_some, e_gco, e_tup, e_lst, e_bin, negI_int, e_neg, e_cmp, e_chain, notI_bl, e_not, e_and, e_or, e_ite, e_ix, e_sl, e_call, e_bi, e_me, optB_some, e_isi, attI_exc, e_att, oG_some, gD_some, e_gin, e_gix, e_gget, o_no, oI_int, o_some, t_no, tI_bl, t_some, es_nil, es_cons, qI_tup, qI_str, qI_ref, q_val, rI_int, q_rng, enI_ref, q_enum, oS_some, s_asg', s_par', s_setix', s_expr', s_ret', s_ite', s_for', s_cont', s_raise', ss_nil', ss_cons', stG_nm, stG_tp, stGs_nil, stGs_cons, fin_rt, fin_nx, fin_ex, fin_ite, List.getElem?_cons_zero, List.getElem?_cons_succ, List.set_cons_zero, List.set_cons_succ, List.length_cons, List.length_nil, List.length_set, List.replicate, if_true, if_false, Bool.not_true, Bool.not_false, Bool.false_eq_true, Bool.and_true, Bool.true_and, Bool.and_false, Bool.false_and, Bool.or_true, Bool.true_or, Bool.or_false, Bool.false_or, decide_true, decide_false, Option.bind_some, Option.isSome_some, List.nil_append, List.cons_append, List.append_nil, startF_one, startF_two, permute_one, permute_two, le_int, lt_int, gt_int, ge_int, add_int, sub_int, not_true_eq_false, not_false_eq_true, and_self, and_true, true_and, or_true, true_or, ite_self, cmp_ne _ h.1 aEmp, decide_eq_false hx, recv_split, hm, e]
      · rw [if_neg hx]
  rw [hrows]
  have e0 : A1[A.length]? = some (.lst []) := g1.get (at_new A (.lst []))
  have gA : Gr A A1 := (Gr.new _ _).trans g1
  have hst : evSs prg (callI prg (n + 3)) (.cons (.asg (.nm 1) (.lst .nil)) (.cons (.for (.tp [(.nm 2), (.nm 3)]) (.enum (.ite (.cmp .ne (.var 0) (.str "")) (.me .split (.var 0) (.cons (.str "\n") .nil)) (.lst .nil))) body24) (.cons (.ret (.tup (.cons (.str "told") (.cons (.bi .tuple (.cons (.var 1) .nil)) .nil)))) .nil))) (startF 5 [.str x]) A =
      (forGo (fun x ρ A => oS (stG A (.tp [(.nm 2), (.nm 3)]) x ρ) fun ρ => evSs prg (callI prg (n + 3)) body24 ρ A) (.enL rr) (LIM + 1) 0 [some (.str x), some (.ref A.length), none, none, none] A1).next fun ρ A => evSs prg (callI prg (n + 3)) (.cons (.ret (.tup (.cons (.str "told") (.cons (.bi .tuple (.cons (.var 1) .nil)) .nil)))) .nil) ρ A := by
    rw [ss_cons', s_asg', show startF 5 [.str x] = [some (.str x), none, none, none, none] from rfl]
    simp only [e_lst, es_nil, bind_ok, List.length_nil, List.length_cons, lim00, if_true, newL_eq, on_ok, stG_nm, Nat.reduceAdd, Nat.reduceLT, oS_some, List.set_cons_succ, List.set_cons_zero, next_nx]
    rw [ss_cons', s_for', hq, on_ok]
  rw [hst]
  have hlo : ∀ {B : IH}, Gr A1 B → listOf B rr = some (rs.map .str) := fun g => listOf_lst (g.get e1)
  by_cases hne : rr = A.length
  · -- it can't be the same list unless there are no rows
    rw [hne, e0] at e1
    have hnil : rs = [] := by
      cases rs with
      | nil => rfl
      | cons r q => cases e1
    subst hnil
    have hlo' := listOf_lst e0
    rw [hne]
    have : forGo (fun x ρ A => oS (stG A (.tp [(.nm 2), (.nm 3)]) x ρ) fun ρ => evSs prg (callI prg (n + 3)) body24 ρ A) (.enL A.length) (LIM + 1) 0 [some (.str x), some (.ref A.length), none, none, none] A1 = .nx [some (.str x), some (.ref A.length), none, none, none] A1 := by
      rw [forGo, item_enL, hlo']
      rfl
    rw [this, stepsOf]
    refine ⟨A1, gA, ?_⟩
    simp only [onB_bl, bind_ok, bind_ex, bind_ite, onS_bl, on_ok, on_ex, on_ite, next_nx, next_rt, next_ct, next_ex, next_ite, e_non, e_bl, e_int, e_str, gV_some, e_var, optR_some, e_gco, e_tup, e_lst, e_bin, negI_int, e_neg, e_cmp, e_chain, notI_bl, e_not, e_and, e_or, e_ite, e_ix, e_sl, e_call, e_bi, e_me, optB_some, e_isi, attI_exc, e_att, oG_some, gD_some, e_gin, e_gix, e_gget, o_no, oI_int, o_some, t_no, tI_bl, t_some, es_nil, es_cons, qI_tup, qI_str, qI_ref, q_val, rI_int, q_rng, enI_ref, q_enum, oS_some, s_asg', s_par', s_setix', s_expr', s_ret', s_ite', s_for', s_cont', s_raise', ss_nil', ss_cons', stG_nm, stG_tp, stGs_nil, stGs_cons, fin_rt, fin_nx, fin_ex, fin_ite, List.getElem?_cons_zero, List.getElem?_cons_succ, List.set_cons_zero, List.set_cons_succ, List.length_cons, List.length_nil, List.length_set, List.replicate, if_true, if_false, Bool.not_true, Bool.not_false, Bool.false_eq_true, Bool.and_true, Bool.true_and, Bool.and_false, Bool.false_and, Bool.or_true, Bool.true_or, Bool.or_false, Bool.false_or, decide_true, decide_false, Option.bind_some, Option.isSome_some, List.nil_append, List.cons_append, List.append_nil, startF_one, startF_two, permute_one, permute_two, le_int, lt_int, gt_int, ge_int, add_int, sub_int, not_true_eq_false, not_false_eq_true, and_self, and_true, true_and, or_true, true_or, ite_self, tup_lst e0, show (0 + 1 + 1 ≤ LIM) = True from eq_true (by decide)]
    rfl
  · rcases for_inv0 (N := rs.length) (q := .enL rr) (f := fun x ρ A => oS (stG A (.tp [(.nm 2), (.nm 3)]) x ρ) fun ρ => evSs prg (callI prg (n + 3)) body24 ρ A)
      (fun i ρ B => ∃ x2 x3 x4 acc, ρ = [some (.str x), some (.ref A.length), x2, x3, x4] ∧ Gr A B ∧ B[rr]? = some (.lst (rs.map .str)) ∧ B[A.length]? = some (.lst acc) ∧ acc.length = i ∧ stepsOf 0 rs = pre acc (stepsOf i (rs.drop i)))
      (fun r => ∃ B l e, r = .rt (.tup [.str "no", .str "text", .int (l : Nat), .int (e : Nat)]) B ∧ Gr A B ∧ stepsOf 0 rs = .error (l, e)) (by omega)
      (fun i ρ B hi ⟨x2, x3, x4, acc, e, g, er, ed, ea, es⟩ => by
        subst e
        have hri : rs[i]? = some rs[i] := List.getElem?_eq_getElem hi
        refine ⟨.tup [.int i, .str rs[i]], ?_, ?_⟩
        · rw [item_enL, listOf_lst er]
          simp
        · have hstg : stG B (.tp [(.nm 2), (.nm 3)]) (.tup [.int i, .str rs[i]]) [some (.str x), some (.ref A.length), x2, x3, x4] = some [some (.str x), some (.ref A.length), some (.int i), some (.str rs[i]), x4] := by
            simp only [stG_tp, stGs_cons, stGs_nil, stG_nm, List.length_cons, List.length_nil, Nat.reduceAdd, Nat.reduceLT, if_true, Option.bind_some, List.set_cons_succ, List.set_cons_zero]
          rw [hstg, oS_some]
          rw [steps_step hri] at es
          obtain ⟨B', c, g'⟩ := turn24 n (x2 := none) (x3 := none) (x4 := x4) (x0 := .str x) (i := i) ed (by omega) (hrs _ (List.getElem_mem hi))
          cases hs : stepOf rs[i] with
          | error z =>
            rw [hs] at c es
            exact .inr ⟨⟨B', i, z, c, g.trans g', es⟩, .inl ⟨_, B', c⟩⟩
          | ok xs =>
            rw [hs] at c es
            refine .inl ⟨_, _, .inl c, _, _, _, acc ++ [.tup xs], rfl, (g.trans g').set (Nat.le_refl _) _, get_set_ne (g'.get er) hne, get_set_eq (g'.get ed), by simp [ea], es⟩)
      (fun ρ B ⟨x2, x3, x4, acc, e, g, er, ed, ea, es⟩ => by rw [item_enL, listOf_lst er]; simp) ⟨none, none, none, [], rfl, gA, e1, e0, rfl, by rw [List.drop_zero]; cases stepsOf 0 rs <;> rfl⟩ with ⟨ρ', B, r, x2, x3, x4, acc, e, g, er, ed, ea, es⟩ | ⟨⟨B, l, z, e, g, es⟩, _⟩
    · rw [r, next_nx]
      subst e
      rw [List.drop_length, stepsOf] at es
      rw [es]
      refine ⟨B, g, ?_⟩
      simp only [onB_bl, bind_ok, bind_ex, bind_ite, onS_bl, on_ok, on_ex, on_ite, next_nx, next_rt, next_ct, next_ex, next_ite, e_non, e_bl, e_int, e_str, gV_some, e_var, optR_some, e_gco, e_tup, e_lst, e_bin, negI_int, e_neg, e_cmp, e_chain, notI_bl, e_not, e_and, e_or, e_ite, e_ix, e_sl, e_call, e_bi, e_me, optB_some, e_isi, attI_exc, e_att, oG_some, gD_some, e_gin, e_gix, e_gget, o_no, oI_int, o_some, t_no, tI_bl, t_some, es_nil, es_cons, qI_tup, qI_str, qI_ref, q_val, rI_int, q_rng, enI_ref, q_enum, oS_some, s_asg', s_par', s_setix', s_expr', s_ret', s_ite', s_for', s_cont', s_raise', ss_nil', ss_cons', stG_nm, stG_tp, stGs_nil, stGs_cons, fin_rt, fin_nx, fin_ex, fin_ite, List.getElem?_cons_zero, List.getElem?_cons_succ, List.set_cons_zero, List.set_cons_succ, List.length_cons, List.length_nil, List.length_set, List.replicate, if_true, if_false, Bool.not_true, Bool.not_false, Bool.false_eq_true, Bool.and_true, Bool.true_and, Bool.and_false, Bool.false_and, Bool.or_true, Bool.true_or, Bool.or_false, Bool.false_or, decide_true, decide_false, Option.bind_some, Option.isSome_some, List.nil_append, List.cons_append, List.append_nil, startF_one, startF_two, permute_one, permute_two, le_int, lt_int, gt_int, ge_int, add_int, sub_int, not_true_eq_false, not_false_eq_true, and_self, and_true, true_and, or_true, true_or, ite_self, tup_lst ed, show (0 + 1 + 1 ≤ LIM) = True from eq_true (by decide)]
      simp [pre, outS]
    · rw [e, next_rt, fin_rt, es]
      exact ⟨B, g, rfl⟩
end LF.Pl
set_option Elab.async false
set_option linter.all false
set_option maxHeartbeats 8000000
set_option maxRecDepth 100000
/-! How things are shown. -/
namespace LF.Pl
open PySem
def isLet (c : Nat) : Bool := decide (97 ≤ c ∧ c ≤ 122)
mutual
/-- plain all through, its words of letters -/
def gdV : IV → Bool
  | .non => true
  | .bl _ => true
  | .int i => decide (i.natAbs < 10 ^ 100)
  | .str x => (TL.tl x).all isLet && decide (x.length ≤ 8)
  | .tup xs => gdVs xs
  | .ref _ => false
  | .exc _ _ => false
  | .glo _ => false
def gdVs : List IV → Bool
  | [] => true
  | x :: xs => gdV x && gdVs xs
end
mutual
/-- how many things there are in it -/
def mzV : IV → Nat
  | .tup xs => mzVs xs + 1
  | .non => 1
  | .bl _ => 1
  | .int _ => 1
  | .str _ => 1
  | .ref _ => 1
  | .exc _ _ => 1
  | .glo _ => 1
def mzVs : List IV → Nat
  | [] => 0
  | x :: xs => mzV x + mzVs xs
end
mutual
theorem gd_ok : ∀ v : IV, gdV v = true → okV v = true
  | .non, _ => by rw [okV]
  | .bl _, _ => by rw [okV]
  | .int i, h => by rw [gdV] at h; rw [okV]; exact h
  | .str x, h => by
    rw [gdV] at h
    rw [okV]
    obtain ⟨h1, _⟩ := Bool.and_eq_true_iff.mp h
    refine List.all_eq_true.mpr fun c hc => ?_
    have := of_decide_eq_true (List.all_eq_true.mp h1 c hc)
    exact decide_eq_true (by omega)
  | .tup xs, h => by rw [gdV] at h; rw [okV]; exact gds_ok xs h
  | .ref _, h => by rw [gdV] at h; cases h
  | .exc _ _, h => by rw [gdV] at h; cases h
  | .glo _, h => by rw [gdV] at h; cases h
theorem gds_ok : ∀ xs : List IV, gdVs xs = true → okVs xs = true
  | [], _ => by rw [okVs]
  | x :: xs, h => by
    rw [gdVs] at h
    obtain ⟨h1, h2⟩ := Bool.and_eq_true_iff.mp h
    rw [okVs, gd_ok x h1, gds_ok xs h2]
    rfl
end
/-! ### words -/
theorem asc_app {x y : Str} (hx : Asc x) (hy : Asc y) : Asc (x ++ y) := fun c hc => by
  rw [TL.tl_append] at hc
  rcases List.mem_append.mp hc with h | h
  · exact hx c h
  · exact hy c h
theorem len_app (x y : Str) : (x ++ y).length = x.length + y.length := by
  rw [TL.len_tl, TL.tl_append, List.length_append, ← TL.len_tl, ← TL.len_tl]
theorem pr_let : ∀ c ∈ (List.range 26).map (· + 97), Unicode.isPrintable c = true := by decide +kernel
theorem rp_let {c : Nat} (h : isLet c = true) : Builtin.Str.reprChar 39 c = [c] := by
  have h1 := of_decide_eq_true h
  have h2 : Unicode.isPrintable c = true := pr_let c (List.mem_map.mpr ⟨c - 97, List.mem_range.mpr (by omega), by omega⟩)
  unfold Builtin.Str.reprChar
  have e1 : (c == 39 || c == 92) = false := by
    rw [Bool.or_eq_false_iff]
    exact ⟨by simpa using (by omega : c ≠ 39), by simpa using (by omega : c ≠ 92)⟩
  have e2 : (c == 10) = false := by simpa using (by omega : c ≠ 10)
  have e3 : (c == 13) = false := by simpa using (by omega : c ≠ 13)
  have e4 : (c == 9) = false := by simpa using (by omega : c ≠ 9)
  dsimp only
  rw [e1, e2, e3, e4, h2]
  rfl
theorem fold_rp : ∀ (l : List Nat) (acc : Array Nat), l.all isLet = true → (l.foldl (fun out c => out ++ (Builtin.Str.reprChar 39 c).toArray) acc).toList = acc.toList ++ l
  | [], acc, _ => by simp
  | c :: r, acc, h => by
    obtain ⟨h1, h2⟩ := Bool.and_eq_true_iff.mp (by simpa using h : (isLet c && r.all isLet) = true)
    rw [List.foldl_cons, fold_rp r _ h2, rp_let h1]
    simp
theorem rp_quote {x : Str} (h : (TL.tl x).all isLet = true) : reprQuote x = 39 := by
  unfold reprQuote
  have e : x.cps.contains 39 = false := by
    rw [← Array.contains_toList]
    cases q : x.cps.toList.contains 39 with
    | false => rfl
    | true =>
      have m : 39 ∈ x.cps.toList := by simpa using q
      have := of_decide_eq_true (List.all_eq_true.mp h 39 m)
      omega
  rw [e]
  rfl
theorem tl_rp {x : Str} (h : (TL.tl x).all isLet = true) : TL.tl (reprText x) = 39 :: TL.tl x ++ [39] := by
  unfold reprText
  rw [rp_quote h]
  show (((x.cps.foldl (fun out c => out ++ (Builtin.Str.reprChar 39 c).toArray) #[39]).push 39).toList) = _
  rw [Array.toList_push, ← Array.foldl_toList, fold_rp _ _ h]
  rfl
/-! ### numbers -/
theorem tl_negS (m : Nat) : TL.tl (Str.ofString (toString (Int.negSucc m))) = 45 :: TL.numL (m + 1) := by
  show (Str.ofString (toString (Int.negSucc m))).cps.toList = _
  rw [Str.ofString_eq_toList, List.toList_toArray]
  show (String.toList ("-" ++ Nat.repr (m + 1))).map Char.toNat = _
  rw [String.toList_append, List.map_append, Nat.toList_repr]
  rfl
theorem tl_int (i : Int) : TL.tl (Str.ofString (toString i)) = (if i < 0 then [45] else []) ++ TL.numL i.natAbs := by
  cases i with
  | ofNat n =>
    rw [if_neg (by exact Int.not_lt.mpr (Int.natCast_nonneg n))]
    exact TL.tl_num n
  | negSucc m =>
    rw [if_pos (Int.negSucc_lt_zero m), tl_negS]
    rfl
theorem int_sh {i : Int} {k : Nat} (hk : 0 < k) (h : i.natAbs < 10 ^ k) : Asc (Str.ofString (toString i)) ∧ (Str.ofString (toString i)).length ≤ k + 1 ∧ (TL.tl (Str.ofString (toString i))).count 40 = 0 := by
  have h1 := TL.numL_len hk h
  have h2 := TL.numL_digits i.natAbs
  have h3 : (TL.numL i.natAbs).count 40 = 0 := List.count_eq_zero.mpr (TL.numL_free (by omega))
  refine ⟨fun c hc => ?_, ?_, ?_⟩
  · rw [tl_int] at hc
    rcases List.mem_append.mp hc with hc | hc
    · split at hc
      · rw [List.mem_singleton.mp hc]; decide
      · cases hc
    · have := h2 c hc
      omega
  · rw [TL.len_tl, tl_int, List.length_append]
    have : (if i < 0 then [45] else ([] : List Nat)).length ≤ 1 := by split <;> simp
    omega
  · rw [tl_int, List.count_append, h3]
    split <;> rfl
end LF.Pl
set_option Elab.async false
set_option linter.all false
set_option maxHeartbeats 8000000
set_option maxRecDepth 100000
/-! repr of what is plain. -/
namespace LF.Pl
open PySem
theorem joinL_mem (S : List Nat) : ∀ (ps : List (List Nat)) (c : Nat), c ∈ TL.joinL S ps → c ∈ S ∨ ∃ p ∈ ps, c ∈ p
  | [], c, h => by cases h
  | [p], c, h => .inr ⟨p, by simp, h⟩
  | p :: q :: r, c, h => by
    have h : c ∈ p ++ (S ++ TL.joinL S (q :: r)) := h
    rcases List.mem_append.mp h with h | h
    · exact .inr ⟨p, by simp, h⟩
    rcases List.mem_append.mp h with h | h
    · exact .inl h
    rcases joinL_mem S (q :: r) c h with h | ⟨p', hp, h⟩
    · exact .inl h
    · exact .inr ⟨p', List.mem_cons_of_mem _ hp, h⟩
theorem asc_join {y : Str} {ps : List Str} (hy : Asc y) (h : ∀ p ∈ ps, Asc p) : Asc (Str.join y ps) := fun c hc => by
  rw [TL.tl_join] at hc
  rcases joinL_mem _ _ c hc with hc | ⟨p, hp, hc⟩
  · exact hy c hc
  · obtain ⟨z, hz, rfl⟩ := List.mem_map.mp hp
    exact h z hz c hc
theorem asc_tupText {ts : List Str} (h : ∀ t ∈ ts, Asc t) : Asc (tupleText ts) := by
  unfold tupleText
  refine asc_app (asc_app (asc_lit (by decide +kernel)) (asc_join (asc_lit (by decide +kernel)) h)) ?_
  split
  · exact asc_lit (by decide +kernel)
  · exact asc_lit (by decide +kernel)
theorem len_tupText (ts : List Str) : (tupleText ts).length ≤ piled ts + 3 := by
  unfold tupleText
  rw [len_app, len_app]
  have e1 : ((("(" : String) : Str)).length = 1 := rfl
  have e2 : (((if ts.length == 1 then ",)" else ")" : String) : Str)).length ≤ 2 := by split <;> decide
  by_cases h : ts = []
  · subst h
    have e3 : (Str.join ", " []).length = 0 := rfl
    omega
  · have := join_length_add ts h
    omega
mutual
theorem sh_ok : ∀ v : IV, gdV v = true → Asc (datV v).shown ∧ (datV v).shown.length + 2 ≤ 104 * mzV v
  | .non, _ => by
    rw [datV, PyData.shown, mzV]
    exact ⟨asc_lit (by decide +kernel), by decide +kernel⟩
  | .bl b, _ => by
    rw [datV, PyData.shown, mzV]
    cases b
    · exact ⟨asc_lit (by decide +kernel), by decide +kernel⟩
    · exact ⟨asc_lit (by decide +kernel), by decide +kernel⟩
  | .int i, h => by
    rw [gdV] at h
    rw [datV, PyData.shown, mzV]
    obtain ⟨a, b, _⟩ := int_sh (i := i) (k := 100) (by decide) (of_decide_eq_true h)
    exact ⟨a, by omega⟩
  | .str x, h => by
    rw [gdV] at h
    rw [datV, PyData.shown, mzV]
    obtain ⟨h1, h2⟩ := Bool.and_eq_true_iff.mp h
    have e := tl_rp h1
    refine ⟨fun c hc => ?_, ?_⟩
    · rw [e] at hc
      rcases List.mem_append.mp hc with hc | hc
      · rcases List.mem_cons.mp hc with hc | hc
        · rw [hc]; decide
        · have := of_decide_eq_true (List.all_eq_true.mp h1 c hc)
          omega
      · rw [List.mem_singleton.mp hc]; decide
    · have h2 := of_decide_eq_true h2
      rw [TL.len_tl] at h2
      rw [TL.len_tl, e]
      simp only [List.cons_append, List.length_append, List.length_cons, List.length_nil]
      omega
  | .tup xs, h => by
    rw [gdV] at h
    obtain ⟨a, b⟩ := shs_ok xs h
    rw [datV, PyData.shown, mzV]
    have := len_tupText (PyData.shownAll (datVs xs))
    exact ⟨asc_tupText a, by omega⟩
  | .ref _, h => by rw [gdV] at h; cases h
  | .exc _ _, h => by rw [gdV] at h; cases h
  | .glo _, h => by rw [gdV] at h; cases h
theorem shs_ok : ∀ xs : List IV, gdVs xs = true → (∀ t ∈ PyData.shownAll (datVs xs), Asc t) ∧ piled (PyData.shownAll (datVs xs)) ≤ 104 * mzVs xs
  | [], _ => by
    rw [datVs, PyData.shownAll, mzVs]
    exact ⟨fun t ht => (nomatch ht), by decide⟩
  | x :: xs, h => by
    rw [gdVs] at h
    obtain ⟨h1, h2⟩ := Bool.and_eq_true_iff.mp h
    obtain ⟨a, b⟩ := sh_ok x h1
    obtain ⟨c, d⟩ := shs_ok xs h2
    rw [datVs, PyData.shownAll, mzVs, piled_cons]
    refine ⟨fun t ht => ?_, by omega⟩
    rcases List.mem_cons.mp ht with e | e
    · rw [e]; exact a
    · exact c t e
end
/-- small and plain: it can be shown -/
def Sh (v : IV) : Prop := gdV v = true ∧ dpV v ≤ 61 ∧ mzV v ≤ 30000
theorem Sh.asc {v : IV} (h : Sh v) : Asc (datV v).shown := (sh_ok v h.1).1
theorem repr_val {v : IV} {A : IH} (h : Sh v) : biI .repr [v] A = .ok (.str (datV v).shown) A := by
  obtain ⟨h1, h2, h3⟩ := h
  obtain ⟨a, b, c, d, e⟩ := dat_ok (refD 6 A) v (gd_ok v h1)
  have l := (sh_ok v h1).2
  show (match toD A v with
    | some d => if d.showable && (!d.hasDict) && decide (d.shown.length ≤ LIM) && decide (d.depth ≤ 64) then Rs.ok (IV.str d.shown) A else .bad
    | none => .bad) = _
  rw [show toD A v = some (datV v) from a]
  dsimp only
  rw [d, e, c, decide_eq_true (show (datV v).shown.length ≤ LIM by show _ ≤ 10000000; omega), decide_eq_true (show dpV v ≤ 64 by omega)]
  rfl
def two (v w : IV) : Str := (PyData.list [datV v, datV w]).shown
theorem two_eq (v w : IV) : two v w = ("[" : Str) ++ ("" : Str) ++ (datV v).shown ++ (", " : Str) ++ (datV w).shown ++ ("]" : Str) := by
  unfold two
  rw [PyData.shown, PyData.shownAll, PyData.shownAll, PyData.shownAll]
  rfl
theorem asc_two {v w : IV} (hv : Sh v) (hw : Sh w) : Asc (two v w) := by
  rw [two_eq]
  exact asc_app (asc_app (asc_app (asc_app (asc_app (asc_lit (by decide +kernel)) (asc_lit (by decide +kernel))) hv.asc) (asc_lit (by decide +kernel))) hw.asc) (asc_lit (by decide +kernel))
theorem repr_two {v w : IV} {A : IH} {m : Nat} (e : A[m]? = some (.lst [v, w])) (hv : Sh v) (hw : Sh w) : biI .repr [.ref m] A = .ok (.str (two v w)) A := by
  obtain ⟨h1, h2, h3⟩ := hv
  obtain ⟨k1, k2, k3⟩ := hw
  obtain ⟨a1, b1, c1, d1, e1⟩ := dat_ok (refD 5 A) v (gd_ok v h1)
  obtain ⟨a2, b2, c2, d2, e2⟩ := dat_ok (refD 5 A) w (gd_ok w k1)
  have l1 := (sh_ok v h1).2
  have l2 := (sh_ok w k1).2
  have ed : toD A (.ref m) = some (.list [datV v, datV w]) := by
    show toW (refD 6 A) (.ref m) = _
    rw [toW]
    show refD (5 + 1) A m = _
    unfold refD
    rw [e]
    dsimp only
    rw [toWs, toWs, toWs, a1, a2]
    rfl
  show (match toD A (.ref m) with
    | some d => if d.showable && (!d.hasDict) && decide (d.shown.length ≤ LIM) && decide (d.depth ≤ 64) then Rs.ok (IV.str d.shown) A else .bad
    | none => .bad) = _
  rw [ed]
  dsimp only
  have q1 : (PyData.list [datV v, datV w]).showable = true := by rw [PyData.showable, PyData.showableAll, PyData.showableAll, PyData.showableAll, d1, d2]; rfl
  have q2 : (PyData.list [datV v, datV w]).hasDict = false := by rw [PyData.hasDict, PyData.hasDictAll, PyData.hasDictAll, PyData.hasDictAll, e1, e2]; rfl
  have q3 : (PyData.list [datV v, datV w]).depth ≤ 64 := by
    rw [PyData.depth, PyData.depthAll, PyData.depthAll, PyData.depthAll, c1, c2]
    omega
  have q4 : (two v w).length ≤ LIM := by
    rw [two_eq]
    rw [len_app, len_app, len_app, len_app, len_app]
    have z1 : (("[" : Str)).length = 1 := rfl
    have z2 : (("" : Str)).length = 0 := rfl
    have z3 : ((", " : Str)).length = 2 := rfl
    have z4 : (("]" : Str)).length = 1 := rfl
    show _ ≤ 10000000
    omega
  rw [q1, q2, decide_eq_true (show (PyData.list [datV v, datV w]).shown.length ≤ LIM from q4), decide_eq_true q3]
  rfl
end LF.Pl
set_option Elab.async false
set_option linter.all false
set_option maxHeartbeats 8000000
set_option maxRecDepth 100000
/-! What is read is good: plain, not deep, not large. -/
namespace LF.Pl
open PySem
theorem gdVs_cat : ∀ (xs ys : List IV), gdVs (xs ++ ys) = (gdVs xs && gdVs ys)
  | [], ys => by rw [gdVs]; rfl
  | x :: xs, ys => by rw [List.cons_append, gdVs, gdVs_cat xs ys, gdVs, Bool.and_assoc]
theorem mzVs_cat : ∀ (xs ys : List IV), mzVs (xs ++ ys) = mzVs xs + mzVs ys
  | [], ys => by rw [mzVs]; simp
  | x :: xs, ys => by rw [List.cons_append, mzVs, mzVs_cat xs ys, mzVs, Nat.add_assoc]
theorem gdVs_mem : ∀ {xs : List IV}, gdVs xs = true → ∀ v ∈ xs, gdV v = true
  | x :: xs, h, v, hv => by
    rw [gdVs] at h
    obtain ⟨h1, h2⟩ := Bool.and_eq_true_iff.mp h
    rcases List.mem_cons.mp hv with e | e
    · rw [e]; exact h1
    · exact gdVs_mem h2 v e
theorem mzVs_mem : ∀ {xs : List IV}, ∀ v ∈ xs, mzV v ≤ mzVs xs
  | x :: xs, v, hv => by
    rw [mzVs]
    rcases List.mem_cons.mp hv with e | e
    · rw [e]; omega
    · have := mzVs_mem v e
      omega
theorem gd_int {l : List Nat} (h : isFL l = true) : gdV (.int (dV l)) = true ∧ gdV (.int (-dV l)) = true := by
  obtain ⟨a, b⟩ := ok_int h
  rw [okV] at a b
  rw [gdV, gdV]
  exact ⟨a, b⟩
theorem gd_at : gdV (.str "at") = true := by rw [gdV]; decide +kernel
theorem isW_gd {x : Str} (h : isW x = true) : gdV (.str x) = true := by
  unfold isW at h
  obtain ⟨h1, h2⟩ := Bool.and_eq_true_iff.mp h
  rw [gdV, decide_eq_true (of_decide_eq_true h1).2, Bool.and_true]
  unfold allIn at h2
  refine List.all_eq_true.mpr fun c hc => ?_
  have := of_decide_eq_true (List.all_eq_true.mp h2 c hc)
  rw [let_iff] at this
  obtain ⟨k, hk, e⟩ := List.mem_map.mp this
  have := List.mem_range.mp hk
  exact decide_eq_true (by omega)
theorem atom_gd {x : Str} {v : IV} (h : atomOf x = some v) : gdV v = true ∧ mzV v ≤ 4 := by
  unfold atomOf at h
  split at h
  · rename_i u e
    cases h
    unfold signOf at e
    split at e
    · cases e; rw [gdV, mzV]; exact ⟨rfl, by decide⟩
    · split at e
      · cases e; rw [gdV, mzV]; exact ⟨rfl, by decide⟩
      · split at e
        · cases e; rw [gdV, mzV]; exact ⟨rfl, by decide⟩
        · cases e
  · split at h
    · rename_i hF
      cases h
      exact ⟨(gd_int hF).1, by rw [mzV]; decide⟩
    · split at h
      · rename_i hN
        cases h
        obtain ⟨cs, e, hc, _⟩ := isN_shape hN
        rw [e]
        exact ⟨(gd_int hc).2, by rw [mzV]; decide⟩
      · split at h
        · rename_i hW
          cases h
          exact ⟨isW_gd hW, by rw [mzV]; decide⟩
        · split at h
          · unfold addrOf at h
            split at h
            · split at h
              · rename_i a b _ hab
                cases h
                obtain ⟨ha, hb⟩ := Bool.and_eq_true_iff.mp hab
                constructor
                · rw [gdV, gdVs, gdVs, gdVs, gdVs, (gd_int ha).1, (gd_int hb).1, gd_at]
                  rfl
                · rw [mzV, mzVs, mzVs, mzVs, mzVs, mzV, mzV, mzV]
                  decide
              · cases h
            · cases h
          · cases h
/-- piles of good things: k words in, c of them opened one -/
structure Gd (k c : Nat) (lv : List (List IV)) : Prop where
  gd : ∀ l ∈ lv, gdVs l = true
  sz : (lv.map mzVs).sum + lv.length ≤ 1 + 4 * k
  dp : ∀ l ∈ lv, dpVs l + lv.length ≤ c + 2
  ln : lv.length ≤ c + 1
theorem gd_app {k c : Nat} {xs : List (List IV)} {b : List IV} {v : IV} {m : Nat} (hg : ∀ l ∈ xs ++ [b], gdVs l = true) (hs : ((xs ++ [b]).map mzVs).sum + mzV v + (xs ++ [b]).length ≤ 1 + 4 * k) (hd : ∀ l ∈ xs ++ [b], dpVs l + (xs ++ [b]).length ≤ c + 2) (hl : (xs ++ [b]).length ≤ c + 1)
    (h1 : gdV v = true) (h2 : dpV v + (xs ++ [b]).length ≤ c + 2) : Gd k c (xs ++ [b ++ [v]]) := by
  refine ⟨fun l hl' => ?_, ?_, fun l hl' => ?_, by simpa using hl⟩
  · rcases List.mem_append.mp hl' with h | h
    · exact hg l (List.mem_append_left _ h)
    · rw [List.mem_singleton.mp h, gdVs_cat, hg b (by simp), gdVs, gdVs, h1]; rfl
  · simp only [List.map_append, List.map_cons, List.map_nil, List.sum_append, List.sum_cons, List.sum_nil, List.length_append, List.length_cons, List.length_nil, mzVs_cat, mzVs] at hs ⊢
    omega
  · have e : (xs ++ [b ++ [v]]).length = (xs ++ [b]).length := by simp
    rw [e]
    rcases List.mem_append.mp hl' with h | h
    · exact hd l (List.mem_append_left _ h)
    · have := hd b (by simp)
      rw [List.mem_singleton.mp h, dpVs_cat, dpVs, dpVs]
      omega
theorem step_gd {most k c : Nat} {lv lv' : List (List IV)} {w : Str} (hw : Asc w) (hne : lv ≠ []) (h : Gd k c lv) (hs : rdStep most lv w = some lv') : Gd (k + 1) (c + if w = "(" then 1 else 0) lv' ∧ lv' ≠ [] := by
  obtain ⟨xs, b, rfl⟩ : ∃ xs b, lv = xs ++ [b] := ⟨_, _, (List.dropLast_concat_getLast hne).symm⟩
  obtain ⟨hg, hz, hd, hl⟩ := h
  generalize hi : (if w = "(" then 1 else 0) = i
  unfold rdStep at hs
  split at hs
  · rename_i hc
    cases hs
    obtain ⟨ys, a, rfl⟩ : ∃ ys a, xs = ys ++ [a] := by
      refine ⟨_, _, (List.dropLast_concat_getLast (l := xs) ?_).symm⟩
      intro z
      rw [z] at hc
      simp at hc
    rw [popT_cat]
    refine ⟨gd_app (m := 0) (fun l hl' => hg l (List.mem_append_left _ hl')) ?_ (fun l hl' => ?_) ?_ (by rw [gdV]; exact hg b (by simp)) ?_, by simp⟩
    · rw [mzV]
      simp at hz ⊢
      omega
    · have := hd l (List.mem_append_left _ hl')
      simp at this ⊢
      omega
    · simp at hl ⊢
      omega
    · have := hd b (by simp)
      rw [dpV]
      simp at this ⊢
      omega
  · split at hs
    · cases hs
    · split at hs
      · rename_i ho
        rw [if_pos ho] at hi
        subst hi
        cases hs
        refine ⟨⟨fun l hl' => ?_, ?_, fun l hl' => ?_, ?_⟩, by simp⟩
        · rcases List.mem_append.mp hl' with h | h
          · exact hg l h
          · rw [List.mem_singleton.mp h, gdVs]
        · simp [mzVs] at hz ⊢
          omega
        · rcases List.mem_append.mp hl' with h | h
          · have := hd l h
            simp at this ⊢
            omega
          · rw [List.mem_singleton.mp h, dpVs]
            simp at hl ⊢
            omega
        · simp at hl ⊢
          omega
      · cases hv : atomOf w with
        | none => rw [hv] at hs; cases hs
        | some v =>
          rw [hv] at hs
          cases hs
          rw [appT_cat]
          obtain ⟨p, q⟩ := atom_gd hv
          have r := (atom_ok hw hv).2
          refine ⟨gd_app (m := 0) hg (by simp at hz ⊢; omega) (fun l hl' => by have := hd l hl'; omega) (by omega) p (by omega), by simp⟩
theorem rd_gd {most : Nat} : ∀ (ws : List Str) (j k c : Nat) (lv lv' : List (List IV)), (∀ w ∈ ws, Asc w) → lv ≠ [] → Gd k c lv → rd most j lv ws = .ok lv' → Gd (k + ws.length) (c + ws.countP (fun w : Str => decide (w = "("))) lv' ∧ lv' ≠ []
  | [], j, k, c, lv, lv', _, hne, h, e => by
    rw [rd] at e
    cases e
    exact ⟨h, hne⟩
  | w :: ws, j, k, c, lv, lv', ha, hne, h, e => by
    rw [rd] at e
    cases hs : rdStep most lv w with
    | none => rw [hs] at e; cases e
    | some lv2 =>
      rw [hs] at e
      obtain ⟨p, q⟩ := step_gd (ha w List.mem_cons_self) hne h hs
      have := rd_gd ws (j + 1) (k + 1) _ lv2 lv' (fun z hz => ha z (List.mem_cons_of_mem _ hz)) q p e
      rw [List.length_cons, show k + (ws.length + 1) = k + 1 + ws.length by omega, List.countP_cons]
      by_cases ho : w = "("
      · rw [if_pos ho] at this
        simp only [ho, decide_true, if_true]
        rw [show c + (ws.countP (fun w : Str => decide (w = "(")) + 1) = c + 1 + ws.countP (fun w : Str => decide (w = "(")) by omega]
        exact this
      · rw [if_neg ho] at this
        simp only [ho, decide_false, Bool.false_eq_true, if_false]
        exact this
theorem rdAll_gd {most : Nat} {ws : List Str} {xs : List IV} (ha : ∀ w ∈ ws, Asc w) (h : rdAll most ws = .ok xs) : gdVs xs = true ∧ mzVs xs ≤ 4 * ws.length + 1 ∧ dpVs xs ≤ ws.countP (fun w : Str => decide (w = "(")) + 1 := by
  unfold rdAll at h
  cases hr : rd most 0 [[]] ws with
  | error k => rw [hr] at h; cases h
  | ok lv =>
    rw [hr] at h
    dsimp only at h
    split at h
    · cases h
    · cases h
      obtain ⟨g, ne⟩ := rd_gd ws 0 0 0 [[]] lv ha (by simp) ⟨fun l hl => by rw [List.mem_singleton.mp hl, gdVs], by simp [mzVs], fun l hl => by rw [List.mem_singleton.mp hl, dpVs]; simp, by simp⟩ hr
      cases lv with
      | nil => exact absurd rfl ne
      | cons l r =>
        have h1 := g.gd l List.mem_cons_self
        have h2 := g.sz
        have h3 := g.dp l List.mem_cons_self
        simp at h2 h3
        exact ⟨h1, by show mzVs l ≤ _; omega, by show dpVs l ≤ _; omega⟩
theorem rd_err {most : Nat} : ∀ (ws : List Str) (k e : Nat) (lv : List (List IV)), rd most k lv ws = .error e → e ≤ k + ws.length
  | [], k, e, lv, h => by rw [rd] at h; cases h
  | w :: ws, k, e, lv, h => by
    rw [rd] at h
    cases hs : rdStep most lv w with
    | none =>
      rw [hs] at h
      cases h
      omega
    | some lv2 =>
      rw [hs] at h
      have := rd_err ws (k + 1) e lv2 h
      rw [List.length_cons]
      omega
theorem rdAll_err {most e : Nat} {ws : List Str} (h : rdAll most ws = .error e) : e ≤ ws.length := by
  unfold rdAll at h
  cases hr : rd most 0 [[]] ws with
  | error k =>
    rw [hr] at h
    cases h
    have := rd_err ws 0 _ _ hr
    omega
  | ok lv =>
    rw [hr] at h
    dsimp only at h
    split at h
    · cases h; omega
    · cases h
/-! ### what stands in a text's parts -/
theorem pre_one {s a : Nat} {l : List Nat} (h : TL.pre [s] (a :: l) = true) : a = s := by
  unfold TL.pre at h
  simp at h
  exact h
theorem spl_sum (s : Nat) (f : List Nat → Nat) (d : Nat → Nat) (hf : ∀ a l, f (l ++ [a]) = f l + d a) : ∀ (l acc : List Nat), ((TL.spl [s] 0 acc l).map f).sum + d s * ((TL.spl [s] 0 acc l).length - 1) = f acc + (l.map d).sum + f [] * ((TL.spl [s] 0 acc l).length - 1)
  | [], acc => by
    rw [TL.spl_nil]
    simp
  | a :: l, acc => by
    have hl := (spl_len s l []).2.1
    have hl2 := (spl_len s l (acc ++ [a])).2.1
    by_cases e : TL.pre [s] (a :: l) = true
    · have ea := pre_one e
      subst ea
      have ih := spl_sum a f d hf l []
      rw [show TL.spl [a] 0 acc (a :: l) = acc :: TL.spl [a] 0 [] l from TL.spl_hit e]
      obtain ⟨M, hM⟩ : ∃ M, (TL.spl [a] 0 [] l).length = M + 1 := ⟨(TL.spl [a] 0 [] l).length - 1, by omega⟩
      rw [hM] at ih
      rw [List.map_cons, List.sum_cons, List.map_cons, List.sum_cons, List.length_cons, hM]
      simp only [Nat.add_sub_cancel, Nat.mul_add, Nat.mul_one] at ih ⊢
      omega
    · rw [TL.spl_miss (by simpa using e)]
      have ih := spl_sum s f d hf l (acc ++ [a])
      rw [hf] at ih
      simp only [List.map_cons, List.sum_cons]
      omega
/-- how large a row of words is, with a blank behind each -/
def szW (ws : List Str) : Nat := (ws.map fun w => w.length + 1).sum
/-- how many signs that open -/
def opW (ws : List Str) : Nat := (ws.map fun w => (TL.tl w).count 40).sum
theorem split_size {x y : Str} {s : Nat} (hy : TL.tl y = [s]) (hs : s < 256) : szW (Txt.split x y) = x.length + 1 := by
  have e := split_tl x hy hs
  have h := spl_sum s (fun l => l.length + 1) (fun _ => 1) (fun a l => by simp) (TL.tl x) []
  have h2 := (spl_len s (TL.tl x) []).2.1
  rw [← e] at h h2
  have hl := TL.len_tl x
  have e2 : szW (Txt.split x y) = (((Txt.split x y).map TL.tl).map fun l => l.length + 1).sum := by
    unfold szW
    rw [List.map_map]
    congr 1
  rw [e2]
  have e3 : ((TL.tl x).map fun _ => 1).sum = (TL.tl x).length := by
    generalize TL.tl x = l
    induction l with
    | nil => rfl
    | cons a r ih => rw [List.map_cons, List.sum_cons, ih, List.length_cons, Nat.add_comm]
  rw [e3] at h
  simp only [List.length_nil, Nat.zero_add, Nat.one_mul] at h
  omega
theorem split_opens {x y : Str} {s : Nat} (hy : TL.tl y = [s]) (hs : s < 256) (h40 : s ≠ 40) : opW (Txt.split x y) = (TL.tl x).count 40 := by
  have e := split_tl x hy hs
  have h := spl_sum s (fun l => l.count 40) (fun a => if a = 40 then 1 else 0) (fun a l => by
    rw [List.count_append]
    by_cases q : a = 40
    · subst q; simp
    · rw [if_neg q, List.count_cons, List.count_nil, if_neg (by simpa using q)]) (TL.tl x) []
  rw [← e] at h
  have e2 : opW (Txt.split x y) = (((Txt.split x y).map TL.tl).map fun l => l.count 40).sum := by
    unfold opW
    rw [List.map_map]
    rfl
  have e3 : ((TL.tl x).map fun a => if a = 40 then 1 else 0).sum = (TL.tl x).count 40 := by
    generalize TL.tl x = l
    induction l with
    | nil => rfl
    | cons a r ih =>
      rw [List.map_cons, List.sum_cons, ih, List.count_cons]
      by_cases q : a = 40
      · subst q; simp; omega
      · simp [q]
  rw [e2]
  rw [e3, if_neg h40] at h
  simpa using h
theorem count_opens : ∀ ws : List Str, ws.countP (fun w : Str => decide (w = "(")) ≤ opW ws
  | [] => by simp
  | w :: ws => by
    have ih := count_opens ws
    unfold opW at ih ⊢
    rw [List.countP_cons, List.map_cons, List.sum_cons]
    by_cases e : w = "("
    · have : (TL.tl w).count 40 = 1 := by rw [e]; decide +kernel
      simp only [e, decide_true, if_true] at *
      omega
    · simp only [e, decide_false, Bool.false_eq_true, if_false]
      omega
end LF.Pl
set_option Elab.async false
set_option linter.all false
set_option maxHeartbeats 8000000
set_option maxRecDepth 100000
/-! The well: what is drawn from it. -/
namespace LF.Pl
open PySem
/-- all objects but one stand as they stood -/
structure Gw (w : Nat) (A A' : IH) : Prop where
  le : A.length ≤ A'.length
  get : ∀ n o, n ≠ w → A[n]? = some o → A'[n]? = some o
theorem Gw.refl (w : Nat) (A : IH) : Gw w A A := ⟨Nat.le_refl _, fun _ _ _ e => e⟩
theorem Gw.trans {w : Nat} {A B C : IH} (h : Gw w A B) (k : Gw w B C) : Gw w A C := ⟨Nat.le_trans h.le k.le, fun n o ne e => k.get n o ne (h.get n o ne e)⟩
theorem Gr.gw {A B : IH} (h : Gr A B) (w : Nat) : Gw w A B := ⟨h.le, fun _ _ _ e => h.get e⟩
theorem get_lt {A : IH} {n : Nat} {o : IO} (e : A[n]? = some o) : n < A.length := (List.getElem?_eq_some_iff.mp e).1
theorem Gw.set {w : Nat} {A B : IH} (h : Gw w A B) {d : Nat} (hd : A.length ≤ d) (o : IO) : Gw w A (B.set d o) :=
  ⟨by rw [List.length_set]; exact h.le, fun n u ne e => get_set_ne (h.get n u ne e) (by have := get_lt e; omega)⟩
theorem Gw.setw {w : Nat} {A B : IH} (h : Gw w A B) (o : IO) : Gw w A (B.set w o) :=
  ⟨by rw [List.length_set]; exact h.le, fun n u ne e => get_set_ne (h.get n u ne e) ne⟩
abbrev wellD (k : Nat) (nx rs dr : Int) : List (Str × IV) := [("cells", .ref k), ("next", .int nx), ("rest", .int rs), ("drawn", .int dr)]
/-- the well at w, its cells at k, so many drawn at most -/
def Well (A : IH) (w k c : Nat) : Prop := k ≠ w ∧ (∃ ns : List Int, A[k]? = some (.lst (ns.map .int))) ∧ ∃ (nx rs : Int) (dr : Nat), A[w]? = some (.dct (wellD k nx rs dr)) ∧ dr ≤ c
theorem Well.mono {A : IH} {w k c c' : Nat} (h : Well A w k c) (hc : c ≤ c') : Well A w k c' := by
  obtain ⟨a, b, nx, rs, dr, e, f⟩ := h
  exact ⟨a, b, nx, rs, dr, e, Nat.le_trans f hc⟩
theorem Well.gr {A B : IH} {w k c : Nat} (h : Well A w k c) (g : Gr A B) : Well B w k c := by
  obtain ⟨a, ⟨ns, b⟩, nx, rs, dr, e, f⟩ := h
  exact ⟨a, ⟨ns, g.get b⟩, nx, rs, dr, g.get e, f⟩
theorem Well.set {A : IH} {w k c d : Nat} (h : Well A w k c) (hw : d ≠ w) (hk : d ≠ k) (o : IO) : Well (A.set d o) w k c := by
  obtain ⟨a, ⟨ns, b⟩, nx, rs, dr, e, f⟩ := h
  exact ⟨a, ⟨ns, get_set_ne b (Ne.symm hk)⟩, nx, rs, dr, get_set_ne e (Ne.symm hw), f⟩
theorem Well.lt {A : IH} {w k c : Nat} (h : Well A w k c) : w < A.length ∧ k < A.length := by
  obtain ⟨a, ⟨ns, b⟩, nx, rs, dr, e, f⟩ := h
  exact ⟨get_lt e, get_lt b⟩
theorem put_at {A : IH} {w : Nat} {kvs : List (Str × IV)} (x : Str) (v : IV) (ρ : Fr) (h : A[w]? = some (.dct kvs)) (hl : kvs.length < LIM) : putI v (.ref w) (.str x) ρ A = .nx ρ (A.set w (.dct (putD kvs x v))) := by
  unfold putI
  dsimp only
  rw [h]
  exact if_pos hl
theorem mod_int {i j : Int} (A : IH) (h : 0 < j) : binI .mod (.int i) (.int j) A = .ok (.int (i % j)) A := if_pos h
theorem fdiv_int {i j : Int} (A : IH) (h : 0 < j ∧ j.natAbs.log2 < 9000) : binI .fdiv (.int i) (.int j) A = .ok (.int (i / j)) A := if_pos h
theorem log_small {i : Int} (h : i.natAbs < 10 ^ 30) : i.natAbs.log2 < 100 := by
  by_cases z : i.natAbs = 0
  · rw [z]; decide
  · exact (Nat.log2_lt z).mpr (Nat.lt_trans h (by decide))
theorem mul_int {i j : Int} (A : IH) (hi : i.natAbs < 10 ^ 30) (hj : j.natAbs < 10 ^ 30) : binI .mul (.int i) (.int j) A = .ok (.int (i * j)) A := by
  have a := log_small hi
  have b := log_small hj
  exact if_pos (by omega)
theorem pow18 (A : IH) : binI .pow (.int 10) (.int 18) A = .ok (.int 1000000000000000000) A := rfl
theorem toWs_ints (g : Nat → Option PyData) : ∀ ns : List Int, toWs g (ns.map .int) = some (ns.map .int)
  | [] => by rw [List.map_nil, toWs]; rfl
  | y :: r => by
    rw [List.map_cons, toWs, toWs_ints g r, toW]
    rfl
theorem lay_ints : ∀ ns : List Int, PyData.canLayAll0 (ns.map .int) = true ∧ PyData.depthAll (ns.map .int) = 0
  | [] => ⟨rfl, rfl⟩
  | y :: r => by
    obtain ⟨a, b⟩ := lay_ints r
    constructor
    · rw [List.map_cons, PyData.canLayAll0, PyData.canLay0, a]; rfl
    · rw [List.map_cons, PyData.depthAll, b]; rfl
theorem ne_ints {A : IH} {m k : Nat} {ns : List Int} (h : A[m]? = some (.lst (ns.map .int))) (hk : A[k]? = some (.lst [])) : cmpI .ne (.ref m) (.ref k) A = .ok (.bl (!ns.isEmpty)) A := by
  have e : toD A (.ref m) = some (.list (ns.map .int)) := by
    show toW (refD 6 A) (.ref m) = _
    rw [toW]
    unfold refD
    rw [h]
    dsimp only
    rw [toWs_ints]
    rfl
  have s : SeqAt.shaped (.list (ns.map .int)) = true := by
    obtain ⟨a, b⟩ := lay_ints ns
    unfold SeqAt.shaped
    rw [PyData.canLay0, PyData.depth, a, b]
    rfl
  rw [cmpE_ne]
  unfold eqI
  rw [e, toD_strs (ys := []) hk]
  dsimp only
  rw [s, shaped_strs (ys := []) (by simp)]
  cases ns with
  | nil => rfl
  | cons y r => rfl
theorem atI_in {xs : List IV} {i : Int} (h0 : 0 ≤ i) (h1 : i < xs.length) : L2.atI xs i = xs[i.toNat]? := by
  unfold L2.atI L2.ixN
  simp only [h0, h1]
  simp
/-- an item of a row of numbers -/
theorem ix_ints {A : IH} {m : Nat} {ns : List Int} {i : Int} (h : A[m]? = some (.lst (ns.map .int))) (h0 : 0 ≤ i) (h1 : i < ns.length) : ∃ c : Int, ixI (.ref m) (.int i) A = .ok (.int c) A := by
  rw [ix_lst i h, atI_in h0 (by rw [List.length_map]; exact h1), List.getElem?_map]
  have : i.toNat < ns.length := by omega
  rw [List.getElem?_eq_getElem this]
  exact ⟨_, rfl⟩
def tail14 : CSs := (.cons (.ite (.and (.cmp .ge (.var 5) (.bin .pow (.int 10) (.int 18))) (.cmp .lt (.var 3) (.bi .len (.cons (.var 4) .nil)))) (.cons (.setix (.var 0) (.str "rest") (.bin .fdiv (.var 5) (.var 1)))
    (.cons (.ret (.bin .mod (.var 5) (.var 1)))
    .nil)) .nil)
    (.cons (.asg (.nm 6) (.ix (.var 0) (.str "drawn")))
    (.cons (.asg (.nm 7) (.bin .add (.bin .add (.bin .add (.bin .mod (.var 5) (.int 2147483563)) (.bin .mul (.bin .mul (.int 9973) (.var 6)) (.var 6))) (.bin .mul (.int 2503) (.var 6))) (.int 71)))
    (.cons (.asg (.nm 7) (.bin .mod (.bin .add (.bin .add (.bin .mul (.var 7) (.var 7)) (.bin .mul (.int 40009) (.var 6))) (.int 13)) (.int 2147483587)))
    (.cons (.ret (.bin .mod (.bin .fdiv (.bin .mod (.bin .add (.bin .mul (.var 7) (.var 7)) (.bin .mul (.int 41) (.var 7))) (.int 2147483549)) (.int 32)) (.var 1)))
    .nil)))))
/-- so many: what can be drawn from -/
def Mny (m : Int) : Prop := 0 < m ∧ m.natAbs.log2 < 9000
theorem mny {m : Nat} (h : 0 < m) (h2 : m ≤ LIM) : Mny m := by
  refine ⟨by omega, ?_⟩
  have : ((m : Int)).natAbs < 10 ^ 30 := by
    rw [Int.natAbs_natCast]
    exact Nat.lt_of_le_of_lt h2 (by decide)
  have := log_small this
  omega
theorem tail_ok (n : Nat) {A : IH} {w k c : Nat} {m nx rs cell at_ : Int} {dr : Nat} {ns : List Int} (hk : k ≠ w) (ha : A[k]? = some (.lst (ns.map .int))) (hw : A[w]? = some (.dct (wellD k nx rs dr))) (hc : dr ≤ c) (hb : c ≤ 1000000) (hm : Mny m) {x2 x6 x7 : Option IV} :
    ∃ A' r, fin (evSs prg (callI prg n) tail14 [some (.ref w), some (.int m), x2, some (.int at_), some (.ref k), some (.int cell), x6, x7] A) = .ok (.int r) A' ∧ 0 ≤ r ∧ r < m ∧ Well A' w k c ∧ Gw w A A' := by
  have hlen := len_lst ha
  have hres : putI (.int (cell / m)) (.ref w) (.str "rest") [some (.ref w), some (.int m), x2, some (.int at_), some (.ref k), some (.int cell), x6, x7] A = .nx _ (A.set w (.dct (wellD k nx (cell / m) dr))) := put_at "rest" _ _ hw (by show 4 < LIM; decide)
  have hdr : ixI (.ref w) (.str "drawn") A = .ok (.int dr) A := by rw [ix_dct "drawn" hw]; rfl
  have W : Well A w k c := ⟨hk, ⟨ns, ha⟩, nx, rs, dr, hw, hc⟩
  have r1 : ∀ z : Int, 0 ≤ z % m ∧ z % m < m := fun z => ⟨Int.emod_nonneg _ (by have := hm.1; omega), Int.emod_lt_of_pos _ hm.1⟩
  have b1 : ((9973 : Int)).natAbs < 10 ^ 30 := by decide
  have b2 : ((dr : Int)).natAbs < 10 ^ 30 := by rw [Int.natAbs_natCast]; exact Nat.lt_of_le_of_lt (Nat.le_trans hc hb) (by decide)
  have e3 : (9973 : Int) * dr = ((9973 * dr : Nat) : Int) := by omega
  have b3 : ((9973 : Int) * dr).natAbs < 10 ^ 30 := by
    rw [e3, Int.natAbs_natCast]
    exact Nat.lt_of_le_of_lt (show _ ≤ 10000000000 by omega) (by decide)
  have b4 : ((2503 : Int)).natAbs < 10 ^ 30 := by decide
  have b5 : ((40009 : Int)).natAbs < 10 ^ 30 := by decide
  have b6 : ((41 : Int)).natAbs < 10 ^ 30 := by decide
  have hmix : ((cell % 2147483563 + 9973 * (dr : Int) * dr + 2503 * (dr : Int) + 71)).natAbs < 10 ^ 30 := by
    have q1 : 0 ≤ cell % 2147483563 := Int.emod_nonneg _ (by decide)
    have q2 : cell % 2147483563 < 2147483563 := Int.emod_lt_of_pos _ (by decide)
    have q3 : 9973 * dr * dr ≤ 9973 * 1000000 * 1000000 := Nat.mul_le_mul (by omega) (by omega)
    have q4 : (9973 : Int) * (dr : Int) * dr = ((9973 * dr * dr : Nat) : Int) := by rw [Int.natCast_mul, Int.natCast_mul]; rfl
    rw [q4]
    generalize 9973 * dr * dr = Z at *
    have : (cell % 2147483563 + (Z : Int) + 2503 * (dr : Int) + 71).natAbs ≤ 100000000000000000000 := by omega
    exact Nat.lt_of_le_of_lt this (by decide)
  generalize hM : cell % 2147483563 + 9973 * (dr : Int) * dr + 2503 * (dr : Int) + 71 = M at *
  have hN : ((M * M + 40009 * (dr : Int) + 13) % 2147483587).natAbs < 10 ^ 30 := by
    have q1 : 0 ≤ (M * M + 40009 * (dr : Int) + 13) % 2147483587 := Int.emod_nonneg _ (by decide)
    have q2 : (M * M + 40009 * (dr : Int) + 13) % 2147483587 < 2147483587 := Int.emod_lt_of_pos _ (by decide)
    exact Nat.lt_of_le_of_lt (show _ ≤ 2147483587 by omega) (by decide)
  generalize hNv : (M * M + 40009 * (dr : Int) + 13) % 2147483587 = N at *
  have p1 : (0 : Int) < 2147483563 := by decide
  have p2 : (0 : Int) < 2147483587 := by decide
  have p3 : (0 : Int) < 2147483549 := by decide
  have p4 : (0 : Int) < 32 ∧ ((32 : Int)).natAbs.log2 < 9000 := by decide
  by_cases h1 : (1000000000000000000 : Int) ≤ cell
  · by_cases h2 : at_ < (ns.length : Int)
    · refine ⟨_, cell % m, ?_, (r1 cell).1, (r1 cell).2, ⟨hk, ⟨ns, get_set_ne ha hk⟩, nx, cell / m, dr, get_set_eq hw, hc⟩, (Gw.refl w A).setw _⟩
      simp only [onB_bl, bind_ok, bind_ex, bind_ite, onS_bl, on_ok, on_ex, on_ite, next_nx, next_rt, next_ct, next_ex, next_ite, e_non, e_bl, e_int, e_str, gV_some, e_var, optR_some, e_gco, e_tup, e_lst, e_bin, negI_int, e_neg, e_cmp, e_chain, notI_bl, e_not, e_and, e_or, e_ite, e_ix, e_sl, e_call, e_bi, e_me, optB_some, e_isi, attI_exc, e_att, oG_some, gD_some, e_gin, e_gix, e_gget, o_no, oI_int, o_some, t_no, tI_bl, t_some, es_nil, es_cons, qI_tup, qI_str, qI_ref, q_val, rI_int, q_rng, enI_ref, q_enum, oS_some, s_asg', s_par', s_setix', s_expr', s_ret', s_ite', s_for', s_cont', s_raise', ss_nil', ss_cons', stG_nm, stG_tp, stGs_nil, stGs_cons, fin_rt, fin_nx, fin_ex, fin_ite, List.getElem?_cons_zero, List.getElem?_cons_succ, List.set_cons_zero, List.set_cons_succ, List.length_cons, List.length_nil, List.length_set, List.replicate, if_true, if_false, Bool.not_true, Bool.not_false, Bool.false_eq_true, Bool.and_true, Bool.true_and, Bool.and_false, Bool.false_and, Bool.or_true, Bool.true_or, Bool.or_false, Bool.false_or, decide_true, decide_false, Option.bind_some, Option.isSome_some, List.nil_append, List.cons_append, List.append_nil, startF_one, startF_two, permute_one, permute_two, le_int, lt_int, gt_int, ge_int, add_int, sub_int, not_true_eq_false, not_false_eq_true, and_self, and_true, true_and, or_true, true_or, ite_self, tail14, pow18, decide_eq_true h1, hlen, List.length_map, decide_eq_true h2, fdiv_int _ hm, mod_int _ hm.1, hres, Nat.reduceAdd, Nat.reduceLT]
    · refine ⟨A, ((N * N + 41 * N) % 2147483549) / 32 % m, ?_, (r1 _).1, (r1 _).2, W, Gw.refl w A⟩
      · simp only [onB_bl, bind_ok, bind_ex, bind_ite, onS_bl, on_ok, on_ex, on_ite, next_nx, next_rt, next_ct, next_ex, next_ite, e_non, e_bl, e_int, e_str, gV_some, e_var, optR_some, e_gco, e_tup, e_lst, e_bin, negI_int, e_neg, e_cmp, e_chain, notI_bl, e_not, e_and, e_or, e_ite, e_ix, e_sl, e_call, e_bi, e_me, optB_some, e_isi, attI_exc, e_att, oG_some, gD_some, e_gin, e_gix, e_gget, o_no, oI_int, o_some, t_no, tI_bl, t_some, es_nil, es_cons, qI_tup, qI_str, qI_ref, q_val, rI_int, q_rng, enI_ref, q_enum, oS_some, s_asg', s_par', s_setix', s_expr', s_ret', s_ite', s_for', s_cont', s_raise', ss_nil', ss_cons', stG_nm, stG_tp, stGs_nil, stGs_cons, fin_rt, fin_nx, fin_ex, fin_ite, List.getElem?_cons_zero, List.getElem?_cons_succ, List.set_cons_zero, List.set_cons_succ, List.length_cons, List.length_nil, List.length_set, List.replicate, if_true, if_false, Bool.not_true, Bool.not_false, Bool.false_eq_true, Bool.and_true, Bool.true_and, Bool.and_false, Bool.false_and, Bool.or_true, Bool.true_or, Bool.or_false, Bool.false_or, decide_true, decide_false, Option.bind_some, Option.isSome_some, List.nil_append, List.cons_append, List.append_nil, startF_one, startF_two, permute_one, permute_two, le_int, lt_int, gt_int, ge_int, add_int, sub_int, not_true_eq_false, not_false_eq_true, and_self, and_true, true_and, or_true, true_or, ite_self, tail14, pow18, decide_eq_true h1, hlen, List.length_map, decide_eq_false h2, hdr, mod_int _ p1, mul_int _ b1 b2, mul_int _ b3 b2, mul_int _ b4 b2, hM, mul_int _ hmix hmix, mul_int _ b5 b2, mod_int _ p2, hNv, mul_int _ hN hN, mul_int _ b6 hN, mod_int _ p3, fdiv_int _ p4, mod_int _ hm.1, Nat.reduceAdd, Nat.reduceLT]
  · refine ⟨A, ((N * N + 41 * N) % 2147483549) / 32 % m, ?_, (r1 _).1, (r1 _).2, W, Gw.refl w A⟩
    · simp only [onB_bl, bind_ok, bind_ex, bind_ite, onS_bl, on_ok, on_ex, on_ite, next_nx, next_rt, next_ct, next_ex, next_ite, e_non, e_bl, e_int, e_str, gV_some, e_var, optR_some, e_gco, e_tup, e_lst, e_bin, negI_int, e_neg, e_cmp, e_chain, notI_bl, e_not, e_and, e_or, e_ite, e_ix, e_sl, e_call, e_bi, e_me, optB_some, e_isi, attI_exc, e_att, oG_some, gD_some, e_gin, e_gix, e_gget, o_no, oI_int, o_some, t_no, tI_bl, t_some, es_nil, es_cons, qI_tup, qI_str, qI_ref, q_val, rI_int, q_rng, enI_ref, q_enum, oS_some, s_asg', s_par', s_setix', s_expr', s_ret', s_ite', s_for', s_cont', s_raise', ss_nil', ss_cons', stG_nm, stG_tp, stGs_nil, stGs_cons, fin_rt, fin_nx, fin_ex, fin_ite, List.getElem?_cons_zero, List.getElem?_cons_succ, List.set_cons_zero, List.set_cons_succ, List.length_cons, List.length_nil, List.length_set, List.replicate, if_true, if_false, Bool.not_true, Bool.not_false, Bool.false_eq_true, Bool.and_true, Bool.true_and, Bool.and_false, Bool.false_and, Bool.or_true, Bool.true_or, Bool.or_false, Bool.false_or, decide_true, decide_false, Option.bind_some, Option.isSome_some, List.nil_append, List.cons_append, List.append_nil, startF_one, startF_two, permute_one, permute_two, le_int, lt_int, gt_int, ge_int, add_int, sub_int, not_true_eq_false, not_false_eq_true, and_self, and_true, true_and, or_true, true_or, ite_self, tail14, pow18, decide_eq_false h1, hdr, mod_int _ p1, mul_int _ b1 b2, mul_int _ b3 b2, mul_int _ b4 b2, hM, mul_int _ hmix hmix, mul_int _ b5 b2, mod_int _ p2, hNv, mul_int _ hN hN, mul_int _ b6 hN, mod_int _ p3, fdiv_int _ p4, mod_int _ hm.1, Nat.reduceAdd, Nat.reduceLT]
end LF.Pl
set_option Elab.async false
set_option linter.all false
set_option maxHeartbeats 8000000
set_option maxRecDepth 100000
/-! The well made, the cup drawn. -/
namespace LF.Pl
open PySem
def cell14 : CE := (.ite (.cmp .ne (.var 4) (.lst .nil)) (.ix (.var 4) (.bin .mod (.var 3) (.bi .len (.cons (.var 4) .nil)))) (.int 29))
theorem b14_eq : b14 = .cons (.setix (.var 0) (.str "drawn") (.bin .add (.ix (.var 0) (.str "drawn")) (.int 1)))
    (.cons (.ite (.cmp .gt (.ix (.var 0) (.str "rest")) (.int 0)) (.cons (.asg (.nm 2) (.bin .mod (.ix (.var 0) (.str "rest")) (.var 1)))
    (.cons (.setix (.var 0) (.str "rest") (.bin .fdiv (.ix (.var 0) (.str "rest")) (.var 1)))
    (.cons (.ret (.var 2))
    .nil))) .nil)
    (.cons (.par 3 4 (.ix (.var 0) (.str "next")) (.ix (.var 0) (.str "cells")))
    (.cons (.setix (.var 0) (.str "next") (.bin .add (.var 3) (.int 1)))
    (.cons (.asg (.nm 5) cell14) tail14)))) := rfl
/-- _law_cup -/
theorem f14 (n : Nat) {A : IH} {w k c : Nat} (h : Well A w k c) (hb : c + 1 ≤ 1000000) {m : Int} (hm : Mny m) : ∃ A' r, callI prg (n + 1) 14 [.ref w, .int m] A = .ok (.int r) A' ∧ 0 ≤ r ∧ r < m ∧ Well A' w k (c + 1) ∧ Gw w A A' := by
  obtain ⟨hk, ⟨ns, ha⟩, nx, rs, dr, hw, hc⟩ := h
  rw [call_eq (d := ⟨2, 8, b14⟩) rfl rfl, b14_eq]
  have r1 : ∀ z : Int, 0 ≤ z % m ∧ z % m < m := fun z => ⟨Int.emod_nonneg _ (by have := hm.1; omega), Int.emod_lt_of_pos _ hm.1⟩
  have hdr : ixI (.ref w) (.str "drawn") A = .ok (.int dr) A := by rw [ix_dct "drawn" hw]; rfl
  have e1 : ((dr : Int) + 1) = ((dr + 1 : Nat) : Int) := by omega
  obtain ⟨A1, hA1⟩ : ∃ B, B = A.set w (.dct (wellD k nx rs ((dr + 1 : Nat) : Int))) := ⟨_, rfl⟩
  have w1 : A1[w]? = some (.dct (wellD k nx rs ((dr + 1 : Nat) : Int))) := by rw [hA1]; exact get_set_eq hw
  have a1 : A1[k]? = some (.lst (ns.map .int)) := by rw [hA1]; exact get_set_ne ha hk
  have g1 : Gw w A A1 := by rw [hA1]; exact (Gw.refl w A).setw _
  have p1 : ∀ ρ, putI (.int ((dr + 1 : Nat) : Int)) (.ref w) (.str "drawn") ρ A = .nx ρ A1 := fun ρ => by
    rw [hA1]
    exact put_at "drawn" _ ρ hw (by show 4 < LIM; decide)
  have hrs : ixI (.ref w) (.str "rest") A1 = .ok (.int rs) A1 := by rw [ix_dct "rest" w1]; rfl
  by_cases hr : 0 < rs
  · obtain ⟨A2, hA2⟩ : ∃ B, B = A1.set w (.dct (wellD k nx (rs / m) ((dr + 1 : Nat) : Int))) := ⟨_, rfl⟩
    have p2 : ∀ ρ, putI (.int (rs / m)) (.ref w) (.str "rest") ρ A1 = .nx ρ A2 := fun ρ => by
      rw [hA2]
      exact put_at "rest" _ ρ w1 (by show 4 < LIM; decide)
    refine ⟨A2, rs % m, ?_, (r1 rs).1, (r1 rs).2, ⟨hk, ⟨ns, by rw [hA2]; exact get_set_ne a1 hk⟩, nx, rs / m, dr + 1, by rw [hA2]; exact get_set_eq w1, by omega⟩, by rw [hA2]; exact g1.setw _⟩
    simp only [onB_bl, bind_ok, bind_ex, bind_ite, onS_bl, on_ok, on_ex, on_ite, next_nx, next_rt, next_ct, next_ex, next_ite, e_non, e_bl, e_int, e_str, gV_some, e_var, optR_some, e_gco, e_tup, e_lst, e_bin, negI_int, e_neg, e_cmp, e_chain, notI_bl, e_not, e_and, e_or, e_ite, e_ix, e_sl, e_call, e_bi, e_me, optB_some, e_isi, attI_exc, e_att, oG_some, gD_some, e_gin, e_gix, e_gget, o_no, oI_int, o_some, t_no, tI_bl, t_some, es_nil, es_cons, qI_tup, qI_str, qI_ref, q_val, rI_int, q_rng, enI_ref, q_enum, oS_some, s_asg', s_par', s_setix', s_expr', s_ret', s_ite', s_for', s_cont', s_raise', ss_nil', ss_cons', stG_nm, stG_tp, stGs_nil, stGs_cons, fin_rt, fin_nx, fin_ex, fin_ite, List.getElem?_cons_zero, List.getElem?_cons_succ, List.set_cons_zero, List.set_cons_succ, List.length_cons, List.length_nil, List.length_set, List.replicate, if_true, if_false, Bool.not_true, Bool.not_false, Bool.false_eq_true, Bool.and_true, Bool.true_and, Bool.and_false, Bool.false_and, Bool.or_true, Bool.true_or, Bool.or_false, Bool.false_or, decide_true, decide_false, Option.bind_some, Option.isSome_some, List.nil_append, List.cons_append, List.append_nil, startF_one, startF_two, permute_one, permute_two, le_int, lt_int, gt_int, ge_int, add_int, sub_int, not_true_eq_false, not_false_eq_true, and_self, and_true, true_and, or_true, true_or, ite_self, Nat.reduceAdd, Nat.reduceLT, hdr, e1, p1, hrs, decide_eq_true hr, mod_int _ hm.1, fdiv_int _ hm, p2]
  · obtain ⟨A2, hA2⟩ : ∃ B, B = A1.set w (.dct (wellD k (nx + 1) rs ((dr + 1 : Nat) : Int))) := ⟨_, rfl⟩
    have w2 : A2[w]? = some (.dct (wellD k (nx + 1) rs ((dr + 1 : Nat) : Int))) := by rw [hA2]; exact get_set_eq w1
    have a2 : A2[k]? = some (.lst (ns.map .int)) := by rw [hA2]; exact get_set_ne a1 hk
    have g2 : Gw w A A2 := by rw [hA2]; exact g1.setw _
    have p2 : ∀ ρ, putI (.int (nx + 1)) (.ref w) (.str "next") ρ A1 = .nx ρ A2 := fun ρ => by
      rw [hA2]
      exact put_at "next" _ ρ w1 (by show 4 < LIM; decide)
    have hnx : ixI (.ref w) (.str "next") A1 = .ok (.int nx) A1 := by rw [ix_dct "next" w1]; rfl
    have hce : ixI (.ref w) (.str "cells") A1 = .ok (.ref k) A1 := by rw [ix_dct "cells" w1]; rfl
    obtain ⟨A3, hA3⟩ : ∃ B, B = A2 ++ [IO.lst []] := ⟨_, rfl⟩
    have gr : Gr A2 A3 := by rw [hA3]; exact Gr.new _ _
    have e3 : A3[A2.length]? = some (.lst []) := by rw [hA3]; exact at_new _ _
    have hne := ne_ints (gr.get a2) e3
    have hlen := len_lst (gr.get a2)
    rw [List.length_map] at hlen
    obtain ⟨cell, hcell⟩ : ∃ cell : Int, evE prg (callI prg n) cell14 [some (.ref w), some (.int m), none, some (.int nx), some (.ref k), none, none, none] A2 = .ok (.int cell) A3 := by
      cases hn : ns with
      | nil =>
        rw [hn] at hne
        refine ⟨29, ?_⟩
        simp only [cell14, onB_bl, bind_ok, bind_ex, bind_ite, onS_bl, on_ok, on_ex, on_ite, next_nx, next_rt, next_ct, next_ex, next_ite, e_non, e_bl, e_int, e_str, gV_some, e_var, optR_some, e_gco, e_tup, e_lst, e_bin, negI_int, e_neg, e_cmp, e_chain, notI_bl, e_not, e_and, e_or, e_ite, e_ix, e_sl, e_call, e_bi, e_me, optB_some, e_isi, attI_exc, e_att, oG_some, gD_some, e_gin, e_gix, e_gget, o_no, oI_int, o_some, t_no, tI_bl, t_some, es_nil, es_cons, qI_tup, qI_str, qI_ref, q_val, rI_int, q_rng, enI_ref, q_enum, oS_some, s_asg', s_par', s_setix', s_expr', s_ret', s_ite', s_for', s_cont', s_raise', ss_nil', ss_cons', stG_nm, stG_tp, stGs_nil, stGs_cons, fin_rt, fin_nx, fin_ex, fin_ite, List.getElem?_cons_zero, List.getElem?_cons_succ, List.set_cons_zero, List.set_cons_succ, List.length_cons, List.length_nil, List.length_set, List.replicate, if_true, if_false, Bool.not_true, Bool.not_false, Bool.false_eq_true, Bool.and_true, Bool.true_and, Bool.and_false, Bool.false_and, Bool.or_true, Bool.true_or, Bool.or_false, Bool.false_or, decide_true, decide_false, Option.bind_some, Option.isSome_some, List.nil_append, List.cons_append, List.append_nil, startF_one, startF_two, permute_one, permute_two, le_int, lt_int, gt_int, ge_int, add_int, sub_int, not_true_eq_false, not_false_eq_true, and_self, and_true, true_and, or_true, true_or, ite_self, lim00, newL_eq, ← hA3, hne, List.isEmpty_nil]
      | cons y r =>
        have hpos : (0 : Int) < (ns.length : Int) := by rw [hn, List.length_cons]; omega
        obtain ⟨cc, hcc⟩ := ix_ints (gr.get a2) (i := nx % (ns.length : Int)) (Int.emod_nonneg _ (by omega)) (Int.emod_lt_of_pos _ hpos)
        have hne2 : cmpI .ne (.ref k) (.ref A2.length) A3 = .ok (.bl true) A3 := by rw [hne, hn]; rfl
        refine ⟨cc, ?_⟩
        simp only [cell14, onB_bl, bind_ok, bind_ex, bind_ite, onS_bl, on_ok, on_ex, on_ite, next_nx, next_rt, next_ct, next_ex, next_ite, e_non, e_bl, e_int, e_str, gV_some, e_var, optR_some, e_gco, e_tup, e_lst, e_bin, negI_int, e_neg, e_cmp, e_chain, notI_bl, e_not, e_and, e_or, e_ite, e_ix, e_sl, e_call, e_bi, e_me, optB_some, e_isi, attI_exc, e_att, oG_some, gD_some, e_gin, e_gix, e_gget, o_no, oI_int, o_some, t_no, tI_bl, t_some, es_nil, es_cons, qI_tup, qI_str, qI_ref, q_val, rI_int, q_rng, enI_ref, q_enum, oS_some, s_asg', s_par', s_setix', s_expr', s_ret', s_ite', s_for', s_cont', s_raise', ss_nil', ss_cons', stG_nm, stG_tp, stGs_nil, stGs_cons, fin_rt, fin_nx, fin_ex, fin_ite, List.getElem?_cons_zero, List.getElem?_cons_succ, List.set_cons_zero, List.set_cons_succ, List.length_cons, List.length_nil, List.length_set, List.replicate, if_true, if_false, Bool.not_true, Bool.not_false, Bool.false_eq_true, Bool.and_true, Bool.true_and, Bool.and_false, Bool.false_and, Bool.or_true, Bool.true_or, Bool.or_false, Bool.false_or, decide_true, decide_false, Option.bind_some, Option.isSome_some, List.nil_append, List.cons_append, List.append_nil, startF_one, startF_two, permute_one, permute_two, le_int, lt_int, gt_int, ge_int, add_int, sub_int, not_true_eq_false, not_false_eq_true, and_self, and_true, true_and, or_true, true_or, ite_self, lim00, newL_eq, ← hA3, hne2, hlen, mod_int _ hpos, hcc]
    obtain ⟨A', r, t1, t2, t3, t4, t5⟩ := tail_ok n (A := A3) (w := w) (k := k) (c := c + 1) (m := m) (nx := nx + 1) (rs := rs) (cell := cell) (at_ := nx) (dr := dr + 1) (ns := ns) hk (gr.get a2) (gr.get w2) (by omega) hb hm (x2 := none) (x6 := none) (x7 := none)
    refine ⟨A', r, ?_, t2, t3, t4, (g2.trans (gr.gw w)).trans t5⟩
    rw [← t1]
    simp only [onB_bl, bind_ok, bind_ex, bind_ite, onS_bl, on_ok, on_ex, on_ite, next_nx, next_rt, next_ct, next_ex, next_ite, e_non, e_bl, e_int, e_str, gV_some, e_var, optR_some, e_gco, e_tup, e_lst, e_bin, negI_int, e_neg, e_cmp, e_chain, notI_bl, e_not, e_and, e_or, e_ite, e_ix, e_sl, e_call, e_bi, e_me, optB_some, e_isi, attI_exc, e_att, oG_some, gD_some, e_gin, e_gix, e_gget, o_no, oI_int, o_some, t_no, tI_bl, t_some, es_nil, es_cons, qI_tup, qI_str, qI_ref, q_val, rI_int, q_rng, enI_ref, q_enum, oS_some, s_asg', s_par', s_setix', s_expr', s_ret', s_ite', s_for', s_cont', s_raise', ss_nil', ss_cons', stG_nm, stG_tp, stGs_nil, stGs_cons, fin_rt, fin_nx, fin_ex, fin_ite, List.getElem?_cons_zero, List.getElem?_cons_succ, List.set_cons_zero, List.set_cons_succ, List.length_cons, List.length_nil, List.length_set, List.replicate, if_true, if_false, Bool.not_true, Bool.not_false, Bool.false_eq_true, Bool.and_true, Bool.true_and, Bool.and_false, Bool.false_and, Bool.or_true, Bool.true_or, Bool.or_false, Bool.false_or, decide_true, decide_false, Option.bind_some, Option.isSome_some, List.nil_append, List.cons_append, List.append_nil, startF_one, startF_two, permute_one, permute_two, le_int, lt_int, gt_int, ge_int, add_int, sub_int, not_true_eq_false, not_false_eq_true, and_self, and_true, true_and, or_true, true_or, ite_self, Nat.reduceAdd, Nat.reduceLT, hdr, e1, p1, hrs, decide_eq_false hr, p2, hnx, hce, hcell]
/-- _law_well -/
theorem f13 (n : Nat) (ns : List Int) : ∃ A', callI prg (n + 1) 13 [.ref 0] [.fro ns] = .ok (.ref 1) A' ∧ Well A' 1 3 0 := by
  rw [call_eq (d := ⟨1, 1, b13⟩) rfl rfl]
  obtain ⟨ms, hms⟩ : ∃ ms : List Int, cutL (ns.map IV.int) none (some 63) = ms.map .int := by
    refine ⟨cutL ns none (some 63), ?_⟩
    unfold cutL
    rw [List.length_map, List.map_take, List.map_drop]
  have e1 : slI (.ref 0) none (some 63) ([.fro ns] ++ [.dct []]) = .ok (.ref 2) [.fro ns, .dct [], .lst (ms.map .int)] := by rw [← hms]; rfl
  have e2 : biI .list [.ref 2] [.fro ns, .dct [], .lst (ms.map .int)] = .ok (.ref 3) [.fro ns, .dct [], .lst (ms.map .int), .lst (ms.map .int)] := rfl
  have e3 : dctI ([.fro ns, .dct [], .lst (ms.map .int), .lst (ms.map .int)] : IH)[([.fro ns] : IH).length]? ["cells", "next", "rest", "drawn"] [.ref 3, .int 0, .int 0, .int 0] ([.fro ns] : IH).length [.fro ns, .dct [], .lst (ms.map .int), .lst (ms.map .int)] = .ok (.ref 1) [.fro ns, .dct (wellD 3 0 0 0), .lst (ms.map .int), .lst (ms.map .int)] := rfl
  refine ⟨[.fro ns, .dct (wellD 3 0 0 0), .lst (ms.map .int), .lst (ms.map .int)], ?_, by decide, ⟨ms, rfl⟩, 0, 0, 0, rfl, Nat.le_refl _⟩
  simp only [b13, e_dct, s_ret', ss_cons', startF_one, es_cons, es_nil, e_bi, e_sl, e_var, List.getElem?_cons_zero, gV_some, bind_ok, o_no, o_some, e_int, oI_int, e1, e2, e3, on_ok, next_rt, fin_rt]
end LF.Pl
set_option Elab.async false
set_option linter.all false
set_option maxHeartbeats 8000000
set_option maxRecDepth 100000
/-! _law_is_address. -/
namespace LF.Pl
open PySem
theorem bad_test1 (n : Nat) (v : IV) (A : IH) (ρ : Fr) (hv : Pl v = true) (hρ : ρ[1]? = some (some v)) : evT prg (callI prg n) (.some (.or (.isi (.var 1) (.bool)) (.or (.not (.isi (.var 1) (.int))) (.cmp .lt (.var 1) (.int 0))))) ρ A = .ok (badN v) A := by
  cases v with
  | non => simp only [onB_bl, bind_ok, bind_ex, bind_ite, onS_bl, on_ok, on_ex, on_ite, next_nx, next_rt, next_ct, next_ex, next_ite, e_non, e_bl, e_int, e_str, gV_some, e_var, optR_some, e_gco, e_tup, e_lst, e_bin, negI_int, e_neg, e_cmp, e_chain, notI_bl, e_not, e_and, e_or, e_ite, e_ix, e_sl, e_call, e_bi, e_me, optB_some, e_isi, attI_exc, e_att, oG_some, gD_some, e_gin, e_gix, e_gget, o_no, oI_int, o_some, t_no, tI_bl, t_some, es_nil, es_cons, qI_tup, qI_str, qI_ref, q_val, rI_int, q_rng, enI_ref, q_enum, oS_some, s_asg', s_par', s_setix', s_expr', s_ret', s_ite', s_for', s_cont', s_raise', ss_nil', ss_cons', stG_nm, stG_tp, stGs_nil, stGs_cons, fin_rt, fin_nx, fin_ex, fin_ite, List.getElem?_cons_zero, List.getElem?_cons_succ, List.set_cons_zero, List.set_cons_succ, List.length_cons, List.length_nil, List.length_set, List.replicate, if_true, if_false, Bool.not_true, Bool.not_false, Bool.false_eq_true, Bool.and_true, Bool.true_and, Bool.and_false, Bool.false_and, Bool.or_true, Bool.true_or, Bool.or_false, Bool.false_or, decide_true, decide_false, Option.bind_some, Option.isSome_some, List.nil_append, List.cons_append, List.append_nil, startF_one, startF_two, permute_one, permute_two, le_int, lt_int, gt_int, ge_int, add_int, sub_int, not_true_eq_false, not_false_eq_true, and_self, and_true, true_and, or_true, true_or, ite_self, hρ, show isI prg .non .bool = some false from rfl, show isI prg .non .int = some false from rfl]; rfl
  | bl b => simp only [onB_bl, bind_ok, bind_ex, bind_ite, onS_bl, on_ok, on_ex, on_ite, next_nx, next_rt, next_ct, next_ex, next_ite, e_non, e_bl, e_int, e_str, gV_some, e_var, optR_some, e_gco, e_tup, e_lst, e_bin, negI_int, e_neg, e_cmp, e_chain, notI_bl, e_not, e_and, e_or, e_ite, e_ix, e_sl, e_call, e_bi, e_me, optB_some, e_isi, attI_exc, e_att, oG_some, gD_some, e_gin, e_gix, e_gget, o_no, oI_int, o_some, t_no, tI_bl, t_some, es_nil, es_cons, qI_tup, qI_str, qI_ref, q_val, rI_int, q_rng, enI_ref, q_enum, oS_some, s_asg', s_par', s_setix', s_expr', s_ret', s_ite', s_for', s_cont', s_raise', ss_nil', ss_cons', stG_nm, stG_tp, stGs_nil, stGs_cons, fin_rt, fin_nx, fin_ex, fin_ite, List.getElem?_cons_zero, List.getElem?_cons_succ, List.set_cons_zero, List.set_cons_succ, List.length_cons, List.length_nil, List.length_set, List.replicate, if_true, if_false, Bool.not_true, Bool.not_false, Bool.false_eq_true, Bool.and_true, Bool.true_and, Bool.and_false, Bool.false_and, Bool.or_true, Bool.true_or, Bool.or_false, Bool.false_or, decide_true, decide_false, Option.bind_some, Option.isSome_some, List.nil_append, List.cons_append, List.append_nil, startF_one, startF_two, permute_one, permute_two, le_int, lt_int, gt_int, ge_int, add_int, sub_int, not_true_eq_false, not_false_eq_true, and_self, and_true, true_and, or_true, true_or, ite_self, hρ, show isI prg (.bl b) .bool = some true from rfl]; rfl
  | int i =>
    simp only [onB_bl, bind_ok, bind_ex, bind_ite, onS_bl, on_ok, on_ex, on_ite, next_nx, next_rt, next_ct, next_ex, next_ite, e_non, e_bl, e_int, e_str, gV_some, e_var, optR_some, e_gco, e_tup, e_lst, e_bin, negI_int, e_neg, e_cmp, e_chain, notI_bl, e_not, e_and, e_or, e_ite, e_ix, e_sl, e_call, e_bi, e_me, optB_some, e_isi, attI_exc, e_att, oG_some, gD_some, e_gin, e_gix, e_gget, o_no, oI_int, o_some, t_no, tI_bl, t_some, es_nil, es_cons, qI_tup, qI_str, qI_ref, q_val, rI_int, q_rng, enI_ref, q_enum, oS_some, s_asg', s_par', s_setix', s_expr', s_ret', s_ite', s_for', s_cont', s_raise', ss_nil', ss_cons', stG_nm, stG_tp, stGs_nil, stGs_cons, fin_rt, fin_nx, fin_ex, fin_ite, List.getElem?_cons_zero, List.getElem?_cons_succ, List.set_cons_zero, List.set_cons_succ, List.length_cons, List.length_nil, List.length_set, List.replicate, if_true, if_false, Bool.not_true, Bool.not_false, Bool.false_eq_true, Bool.and_true, Bool.true_and, Bool.and_false, Bool.false_and, Bool.or_true, Bool.true_or, Bool.or_false, Bool.false_or, decide_true, decide_false, Option.bind_some, Option.isSome_some, List.nil_append, List.cons_append, List.append_nil, startF_one, startF_two, permute_one, permute_two, le_int, lt_int, gt_int, ge_int, add_int, sub_int, not_true_eq_false, not_false_eq_true, and_self, and_true, true_and, or_true, true_or, ite_self, hρ, show isI prg (.int i) .bool = some false from rfl, show isI prg (.int i) .int = some true from rfl]
    show _ = Rs.ok (!decide (0 ≤ i)) A
    congr 1
    by_cases h : 0 ≤ i
    · rw [decide_eq_true h, decide_eq_false (by omega)]; rfl
    · rw [decide_eq_false h, decide_eq_true (by omega)]; rfl
  | str x => simp only [onB_bl, bind_ok, bind_ex, bind_ite, onS_bl, on_ok, on_ex, on_ite, next_nx, next_rt, next_ct, next_ex, next_ite, e_non, e_bl, e_int, e_str, gV_some, e_var, optR_some, e_gco, e_tup, e_lst, e_bin, negI_int, e_neg, e_cmp, e_chain, notI_bl, e_not, e_and, e_or, e_ite, e_ix, e_sl, e_call, e_bi, e_me, optB_some, e_isi, attI_exc, e_att, oG_some, gD_some, e_gin, e_gix, e_gget, o_no, oI_int, o_some, t_no, tI_bl, t_some, es_nil, es_cons, qI_tup, qI_str, qI_ref, q_val, rI_int, q_rng, enI_ref, q_enum, oS_some, s_asg', s_par', s_setix', s_expr', s_ret', s_ite', s_for', s_cont', s_raise', ss_nil', ss_cons', stG_nm, stG_tp, stGs_nil, stGs_cons, fin_rt, fin_nx, fin_ex, fin_ite, List.getElem?_cons_zero, List.getElem?_cons_succ, List.set_cons_zero, List.set_cons_succ, List.length_cons, List.length_nil, List.length_set, List.replicate, if_true, if_false, Bool.not_true, Bool.not_false, Bool.false_eq_true, Bool.and_true, Bool.true_and, Bool.and_false, Bool.false_and, Bool.or_true, Bool.true_or, Bool.or_false, Bool.false_or, decide_true, decide_false, Option.bind_some, Option.isSome_some, List.nil_append, List.cons_append, List.append_nil, startF_one, startF_two, permute_one, permute_two, le_int, lt_int, gt_int, ge_int, add_int, sub_int, not_true_eq_false, not_false_eq_true, and_self, and_true, true_and, or_true, true_or, ite_self, hρ, show isI prg (.str x) .bool = some false from rfl, show isI prg (.str x) .int = some false from rfl]; rfl
  | tup xs => simp only [onB_bl, bind_ok, bind_ex, bind_ite, onS_bl, on_ok, on_ex, on_ite, next_nx, next_rt, next_ct, next_ex, next_ite, e_non, e_bl, e_int, e_str, gV_some, e_var, optR_some, e_gco, e_tup, e_lst, e_bin, negI_int, e_neg, e_cmp, e_chain, notI_bl, e_not, e_and, e_or, e_ite, e_ix, e_sl, e_call, e_bi, e_me, optB_some, e_isi, attI_exc, e_att, oG_some, gD_some, e_gin, e_gix, e_gget, o_no, oI_int, o_some, t_no, tI_bl, t_some, es_nil, es_cons, qI_tup, qI_str, qI_ref, q_val, rI_int, q_rng, enI_ref, q_enum, oS_some, s_asg', s_par', s_setix', s_expr', s_ret', s_ite', s_for', s_cont', s_raise', ss_nil', ss_cons', stG_nm, stG_tp, stGs_nil, stGs_cons, fin_rt, fin_nx, fin_ex, fin_ite, List.getElem?_cons_zero, List.getElem?_cons_succ, List.set_cons_zero, List.set_cons_succ, List.length_cons, List.length_nil, List.length_set, List.replicate, if_true, if_false, Bool.not_true, Bool.not_false, Bool.false_eq_true, Bool.and_true, Bool.true_and, Bool.and_false, Bool.false_and, Bool.or_true, Bool.true_or, Bool.or_false, Bool.false_or, decide_true, decide_false, Option.bind_some, Option.isSome_some, List.nil_append, List.cons_append, List.append_nil, startF_one, startF_two, permute_one, permute_two, le_int, lt_int, gt_int, ge_int, add_int, sub_int, not_true_eq_false, not_false_eq_true, and_self, and_true, true_and, or_true, true_or, ite_self, hρ, show isI prg (.tup xs) .bool = some false from rfl, show isI prg (.tup xs) .int = some false from rfl]; rfl
  | _ => cases hv
def qAt : Str := "'at'"
theorem aQAt : Asc qAt := asc_lit (by decide +kernel)
/-- is it an address? -/
def isAd (xs : List IV) : Bool := decide (xs.length = 3) && (decide ((datV (xs.headD .non)).shown = qAt) && (xs.drop 1).all isFN)
theorem isAd_shape {xs : List IV} (h : isAd xs = true) : ∃ (a : IV) (i j : Nat), xs = [a, .int i, .int j] := by
  unfold isAd at h
  simp only [Bool.and_eq_true, decide_eq_true_eq] at h
  obtain ⟨h1, _, h3⟩ := h
  match xs, h1, h3 with
  | [a, b, c], _, h3 =>
    simp only [List.drop_succ_cons, List.drop_zero, List.all_cons, List.all_nil, Bool.and_true, Bool.and_eq_true] at h3
    have nn : ∀ v : IV, isFN v = true → ∃ i : Nat, v = .int i := fun v hv => by
      cases v with
      | int i =>
        have : 0 ≤ i := of_decide_eq_true hv
        exact ⟨i.toNat, by rw [Int.toNat_of_nonneg this]⟩
      | _ => cases hv
    obtain ⟨i, rfl⟩ := nn b h3.1
    obtain ⟨j, rfl⟩ := nn c h3.2
    exact ⟨a, i, j, rfl⟩
theorem f15 (n : Nat) (A : IH) (xs : List IV) (h : ∀ v ∈ xs, Sh v) (hd : dpVs xs ≤ 60) (hl : xs.length ≤ LIM) : ∃ A', Gr A A' ∧ callI prg (n + 1) 15 [.tup xs] A = .ok (.bl (isAd xs)) A' := by
  rw [call_eq (d := ⟨1, 2, b15⟩) rfl rfl]
  have t1 : isI prg (.tup xs) .tuple = some true := rfl
  unfold isAd
  by_cases h3 : xs.length = 3
  · have d3 : decide ((xs.length : Int) = 3) = true := decide_eq_true (by omega)
    rw [decide_eq_true h3, Bool.true_and]
    cases xs with
    | nil => cases h3
    | cons v r =>
      have hv := h v List.mem_cons_self
      have d4 : decide (((r.length + 1 : Nat) : Int) = 3) = true := d3
      cases hq : decide ((datV v).shown = qAt) with
      | false =>
        refine ⟨A, Gr.refl A, ?_⟩
        have ec : cmpI .ne (.str (datV v).shown) (.str "'at'") A = .ok (.bl true) A := by
          rw [show ("'at'" : Str) = qAt from rfl, cmp_ne A hv.asc aQAt, hq]; rfl
        simp only [onB_bl, bind_ok, bind_ex, bind_ite, onS_bl, on_ok, on_ex, on_ite, next_nx, next_rt, next_ct, next_ex, next_ite, e_non, e_bl, e_int, e_str, gV_some, e_var, optR_some, e_gco, e_tup, e_lst, e_bin, negI_int, e_neg, e_cmp, e_chain, notI_bl, e_not, e_and, e_or, e_ite, e_ix, e_sl, e_call, e_bi, e_me, optB_some, e_isi, attI_exc, e_att, oG_some, gD_some, e_gin, e_gix, e_gget, o_no, oI_int, o_some, t_no, tI_bl, t_some, es_nil, es_cons, qI_tup, qI_str, qI_ref, q_val, rI_int, q_rng, enI_ref, q_enum, oS_some, s_asg', s_par', s_setix', s_expr', s_ret', s_ite', s_for', s_cont', s_raise', ss_nil', ss_cons', stG_nm, stG_tp, stGs_nil, stGs_cons, fin_rt, fin_nx, fin_ex, fin_ite, List.getElem?_cons_zero, List.getElem?_cons_succ, List.set_cons_zero, List.set_cons_succ, List.length_cons, List.length_nil, List.length_set, List.replicate, if_true, if_false, Bool.not_true, Bool.not_false, Bool.false_eq_true, Bool.and_true, Bool.true_and, Bool.and_false, Bool.false_and, Bool.or_true, Bool.true_or, Bool.or_false, Bool.false_or, decide_true, decide_false, Option.bind_some, Option.isSome_some, List.nil_append, List.cons_append, List.append_nil, startF_one, startF_two, permute_one, permute_two, le_int, lt_int, gt_int, ge_int, add_int, sub_int, not_true_eq_false, not_false_eq_true, and_self, and_true, true_and, or_true, true_or, ite_self, b15, t1, len_tup, ne_int, d4, ix_tup0, repr_val hv, ec]
        rw [show (datV ((v :: r).headD .non)).shown = (datV v).shown from rfl, hq]
        rfl
      | true =>
        have ec : cmpI .ne (.str (datV v).shown) (.str "'at'") A = .ok (.bl false) A := by
          rw [show ("'at'" : Str) = qAt from rfl, cmp_ne A hv.asc aQAt, hq]; rfl
        have hlc : evE prg (callI prg n) (.lc (.var 1) (.nm 1) (.val (.sl (.var 0) (.some (.int 1)) .no)) (.some (.or (.isi (.var 1) (.bool)) (.or (.not (.isi (.var 1) (.int))) (.cmp .lt (.var 1) (.int 0))))) [1]) [some (.tup (v :: r)), none] A = .ok (.ref A.length) (A ++ [.lst (r.filter badN)]) := by
          simp only [e_lc, q_val, e_sl, e_var, List.getElem?_cons_zero, gV_some, bind_ok, o_some, e_int, oI_int, o_no, sl_tup, qI_tup, wipeF]
          rw [lc_fix0 (g := fun v => if badN v = true then some v else none)]
          · congr 4
            show List.filterMap _ r = _
            exact filt_map r
          · intro u hu acc
            have hu : u ∈ r := hu
            have hp : Pl u = true := okV_pl (gd_ok u (h u (List.mem_cons_of_mem _ hu)).1)
            simp only [stG_nm, List.length_set, List.length_cons, List.length_nil, Nat.reduceAdd, Nat.reduceLT, if_true, oG_some, List.set_cons_succ, List.set_cons_zero]
            rw [bad_test1 n u _ _ hp rfl, bind_ok]
            cases badN u with
            | true => simp only [if_true, e_var, List.getElem?_cons_succ, List.getElem?_cons_zero, gV_some, bind_ok]
            | false => rfl
          · rw [List.length_drop]
            omega
        have ho : okVs (r.filter badN) = true := okVs_of fun u hu => gd_ok u (h u (List.mem_cons_of_mem _ (List.mem_filter.mp hu).1)).1
        have hdp : dpVs (r.filter badN) ≤ 60 := dpVs_of fun u hu => dpVs_le hd u (List.mem_cons_of_mem _ (List.mem_filter.mp hu).1)
        have he := eq_nils (A := A ++ [IO.lst (r.filter badN)] ++ [IO.lst []]) (m := A.length) (k := (A ++ [IO.lst (r.filter badN)]).length) ((Gr.new (A ++ [IO.lst (r.filter badN)]) _).get (at_new _ _)) (at_new _ _) ho hdp
        rw [filt_empty] at he
        refine ⟨A ++ [IO.lst (r.filter badN)] ++ [IO.lst []], (Gr.new _ _).snoc _, ?_⟩
        simp only [onB_bl, bind_ok, bind_ex, bind_ite, onS_bl, on_ok, on_ex, on_ite, next_nx, next_rt, next_ct, next_ex, next_ite, e_non, e_bl, e_int, e_str, gV_some, e_var, optR_some, e_gco, e_tup, e_lst, e_bin, negI_int, e_neg, e_cmp, e_chain, notI_bl, e_not, e_and, e_or, e_ite, e_ix, e_sl, e_call, e_bi, e_me, optB_some, e_isi, attI_exc, e_att, oG_some, gD_some, e_gin, e_gix, e_gget, o_no, oI_int, o_some, t_no, tI_bl, t_some, es_nil, es_cons, qI_tup, qI_str, qI_ref, q_val, rI_int, q_rng, enI_ref, q_enum, oS_some, s_asg', s_par', s_setix', s_expr', s_ret', s_ite', s_for', s_cont', s_raise', ss_nil', ss_cons', stG_nm, stG_tp, stGs_nil, stGs_cons, fin_rt, fin_nx, fin_ex, fin_ite, List.getElem?_cons_zero, List.getElem?_cons_succ, List.set_cons_zero, List.set_cons_succ, List.length_cons, List.length_nil, List.length_set, List.replicate, if_true, if_false, Bool.not_true, Bool.not_false, Bool.false_eq_true, Bool.and_true, Bool.true_and, Bool.and_false, Bool.false_and, Bool.or_true, Bool.true_or, Bool.or_false, Bool.false_or, decide_true, decide_false, Option.bind_some, Option.isSome_some, List.nil_append, List.cons_append, List.append_nil, startF_one, startF_two, permute_one, permute_two, le_int, lt_int, gt_int, ge_int, add_int, sub_int, not_true_eq_false, not_false_eq_true, and_self, and_true, true_and, or_true, true_or, ite_self, b15, t1, len_tup, ne_int, d4, ix_tup0, repr_val hv, ec, hlc, lim00, newL_eq, he]
        rw [show (datV ((v :: r).headD .non)).shown = (datV v).shown from rfl, hq]
        rfl
  · have d3 : decide ((xs.length : Int) = 3) = false := decide_eq_false (by omega)
    rw [decide_eq_false h3, Bool.false_and]
    refine ⟨A, Gr.refl A, ?_⟩
    simp only [onB_bl, bind_ok, bind_ex, bind_ite, onS_bl, on_ok, on_ex, on_ite, next_nx, next_rt, next_ct, next_ex, next_ite, e_non, e_bl, e_int, e_str, gV_some, e_var, optR_some, e_gco, e_tup, e_lst, e_bin, negI_int, e_neg, e_cmp, e_chain, notI_bl, e_not, e_and, e_or, e_ite, e_ix, e_sl, e_call, e_bi, e_me, optB_some, e_isi, attI_exc, e_att, oG_some, gD_some, e_gin, e_gix, e_gget, o_no, oI_int, o_some, t_no, tI_bl, t_some, es_nil, es_cons, qI_tup, qI_str, qI_ref, q_val, rI_int, q_rng, enI_ref, q_enum, oS_some, s_asg', s_par', s_setix', s_expr', s_ret', s_ite', s_for', s_cont', s_raise', ss_nil', ss_cons', stG_nm, stG_tp, stGs_nil, stGs_cons, fin_rt, fin_nx, fin_ex, fin_ite, List.getElem?_cons_zero, List.getElem?_cons_succ, List.set_cons_zero, List.set_cons_succ, List.length_cons, List.length_nil, List.length_set, List.replicate, if_true, if_false, Bool.not_true, Bool.not_false, Bool.false_eq_true, Bool.and_true, Bool.true_and, Bool.and_false, Bool.false_and, Bool.or_true, Bool.true_or, Bool.or_false, Bool.false_or, decide_true, decide_false, Option.bind_some, Option.isSome_some, List.nil_append, List.cons_append, List.append_nil, startF_one, startF_two, permute_one, permute_two, le_int, lt_int, gt_int, ge_int, add_int, sub_int, not_true_eq_false, not_false_eq_true, and_self, and_true, true_and, or_true, true_or, ite_self, b15, t1, len_tup, ne_int, d3]
end LF.Pl
set_option Elab.async false
set_option linter.all false
set_option maxHeartbeats 8000000
set_option maxRecDepth 100000
/-! Things, drawn; as words. -/
namespace LF.Pl
open PySem
def fourW : List Str := ["a", "at", "zzzzzzzz", "act"]
/-- what is drawn where it goes no deeper -/
def AtomT (v : IV) : Prop := v = .non ∨ (∃ b, v = .bl b) ∨ (∃ i : Int, v = .int i ∧ i.natAbs < 10 ^ 13) ∨ (∃ s ∈ fourW, v = .str s) ∨ v = .tup [.str "at", .int 1, .int 12]
/-- what is drawn, so deep at most -/
def Thg : Nat → IV → Prop
  | 0, v => AtomT v
  | k + 1, v => AtomT v ∨ ∃ xs, v = .tup xs ∧ xs.length ≤ 4 ∧ ∀ x ∈ xs, Thg k x
theorem Thg.atom {k : Nat} {v : IV} (h : AtomT v) : Thg k v := by
  cases k with
  | zero => exact h
  | succ k => exact .inl h
theorem four_ok : ∀ s ∈ fourW, ((TL.tl s).all isLet && decide (s.length ≤ 8)) = true := by decide +kernel
theorem atomT_sh {v : IV} (h : AtomT v) : gdV v = true ∧ dpV v ≤ 1 ∧ mzV v ≤ 4 := by
  rcases h with rfl | ⟨b, rfl⟩ | ⟨i, rfl, hi⟩ | ⟨s, hs, rfl⟩ | rfl
  · rw [gdV, dpV, mzV]; exact ⟨rfl, by omega, by omega⟩
  · rw [gdV, dpV, mzV]; exact ⟨rfl, by omega, by omega⟩
  · rw [gdV, dpV, mzV]; exact ⟨decide_eq_true (Nat.lt_trans hi (by decide +kernel)), by omega, by omega⟩
  · rw [gdV, dpV, mzV]; exact ⟨four_ok s hs, by omega, by omega⟩
  · rw [gdV, gdVs, gdVs, gdVs, gdVs, gd_at, dpV, dpVs, dpVs, dpVs, dpVs, dpV, dpV, dpV, mzV, mzVs, mzVs, mzVs, mzVs, mzV, mzV, mzV, gdV, gdV]
    exact ⟨by decide +kernel, by decide, by decide⟩
/-- how many things at most -/
def MZ : Nat → Nat
  | 0 => 4
  | k + 1 => 4 * MZ k + 4
theorem gdVs_of : ∀ {xs : List IV}, (∀ v ∈ xs, gdV v = true) → gdVs xs = true
  | [], _ => by rw [gdVs]
  | x :: xs, h => by rw [gdVs, h x List.mem_cons_self, gdVs_of fun v hv => h v (List.mem_cons_of_mem _ hv)]; rfl
theorem mzVs_of {m : Nat} : ∀ {xs : List IV}, (∀ v ∈ xs, mzV v ≤ m) → mzVs xs ≤ xs.length * m
  | [], _ => by rw [mzVs]; omega
  | x :: xs, h => by
    have a := h x List.mem_cons_self
    have b := mzVs_of (xs := xs) fun v hv => h v (List.mem_cons_of_mem _ hv)
    rw [mzVs, List.length_cons, Nat.add_mul]
    omega
theorem thg_sh : ∀ (k : Nat) (v : IV), Thg k v → gdV v = true ∧ dpV v ≤ k + 1 ∧ mzV v ≤ MZ k
  | 0, v, h => by
    obtain ⟨a, b, c⟩ := atomT_sh h
    exact ⟨a, by omega, c⟩
  | k + 1, v, h => by
    rcases h with h | ⟨xs, rfl, hl, hx⟩
    · obtain ⟨a, b, c⟩ := atomT_sh h
      exact ⟨a, by omega, by rw [MZ]; omega⟩
    · have ih := fun x hx' => thg_sh k x (hx x hx')
      rw [gdV, dpV, mzV, MZ]
      refine ⟨gdVs_of fun v hv => (ih v hv).1, ?_, ?_⟩
      · have := dpVs_of (xs := xs) (k := k + 1) fun v hv => (ih v hv).2.1
        omega
      · have := mzVs_of (xs := xs) fun v hv => (ih v hv).2.2
        have : xs.length * MZ k ≤ 4 * MZ k := Nat.mul_le_mul_right _ hl
        omega
/-- a row of words: plain, so large at most, so many opened at most -/
structure Wd (S c : Nat) (ws : List Str) : Prop where
  asc : ∀ w ∈ ws, Asc w
  sz : szW ws ≤ S
  op : opW ws ≤ c
theorem szW_app (a b : List Str) : szW (a ++ b) = szW a + szW b := by unfold szW; rw [List.map_append, List.sum_append]
theorem opW_app (a b : List Str) : opW (a ++ b) = opW a + opW b := by unfold opW; rw [List.map_append, List.sum_append]
theorem szW_len : ∀ ws : List Str, ws.length ≤ szW ws
  | [] => Nat.zero_le _
  | w :: ws => by
    have := szW_len ws
    unfold szW at this ⊢
    rw [List.map_cons, List.sum_cons, List.length_cons]
    omega
theorem Wd.app {S T c d : Nat} {a b : List Str} (h : Wd S c a) (k : Wd T d b) : Wd (S + T) (c + d) (a ++ b) :=
  ⟨fun w hw => by
    rcases List.mem_append.mp hw with e | e
    · exact h.asc w e
    · exact k.asc w e, by rw [szW_app]; exact Nat.add_le_add h.sz k.sz, by rw [opW_app]; exact Nat.add_le_add h.op k.op⟩
theorem Wd.mono {S T c d : Nat} {a : List Str} (h : Wd S c a) (hS : S ≤ T) (hc : c ≤ d) : Wd T d a := ⟨h.asc, Nat.le_trans h.sz hS, Nat.le_trans h.op hc⟩
theorem Wd.one {w : Str} {c : Nat} (ha : Asc w) (hc : (TL.tl w).count 40 ≤ c) : Wd (w.length + 1) c [w] :=
  ⟨fun z hz => by rw [List.mem_singleton.mp hz]; exact ha, by unfold szW; simp, by unfold opW; simpa using hc⟩
theorem Wd.nil : Wd 0 0 [] := ⟨fun z hz => (nomatch hz), Nat.le_refl _, Nat.le_refl _⟩
theorem str_int {i : Int} (A : IH) (h : i.natAbs < 10 ^ 13) : biI .str [.int i] A = .ok (.str (Str.ofString (toString i))) A := by
  show (if i.natAbs.log2 < 1920 then _ else _) = _
  rw [if_pos]
  have := log_small (i := i) (Nat.lt_trans h (by decide))
  omega
theorem str_str (x : Str) (A : IH) : biI .str [.str x] A = .ok (.str x) A := rfl
theorem cat_ok {x y : Str} (A : IH) (h : x.length + y.length ≤ LIM) : binI .add (.str x) (.str y) A = .ok (.str (x ++ y)) A := if_pos h
theorem add_lst {A : IH} {m n : Nat} {xs ys : List IV} (h : A[m]? = some (.lst xs)) (k : A[n]? = some (.lst ys)) (hl : xs.length + ys.length ≤ LIM) : binI .add (.ref m) (.ref n) A = .ok (.ref A.length) (A ++ [.lst (xs ++ ys)]) := by
  show (match A[m]?, A[n]? with
    | some (.lst xs), some (.lst ys) => if xs.length + ys.length ≤ LIM then Rs.ok (IV.ref A.length) (A ++ [IO.lst (xs ++ ys)]) else .bad
    | _, _ => .bad) = _
  rw [h, k]
  exact if_pos hl
theorem ext_lst {A : IH} {m n : Nat} {xs ys : List IV} (h : A[m]? = some (.lst xs)) (k : A[n]? = some (.lst ys)) (hl : xs.length + ys.length ≤ LIM) : meI .extend (.ref m) [.ref n] A = .ok .non (A.set m (.lst (xs ++ ys))) := by
  show (match A[m]?, A[n]? with
    | some (.lst xs), some (.lst ys) => if xs.length + ys.length ≤ LIM then Rs.ok IV.non (A.set m (IO.lst (xs ++ ys))) else .bad
    | _, _ => .bad) = _
  rw [h, k]
  exact if_pos hl
theorem recv_ext {A : IH} {n : Nat} {xs : List IV} (h : A[n]? = some (.lst xs)) : recvI .extend (.ref n) A = true := by
  show (listOf A n).isSome = true
  rw [listOf_lst h]; rfl
def SZ : Nat → Nat
  | 0 => 40
  | k + 1 => 40 + 4 * SZ k
def OP : Nat → Nat
  | 0 => 0
  | k + 1 => 1 + 4 * OP k
/-- what a def that writes words gives -/
def Wrote (k : Nat) (A : IH) (r : Rs IV) : Prop := ∃ A' m ws, r = .ok (.ref m) A' ∧ Gr A A' ∧ A'[m]? = some (.lst (ws.map .str)) ∧ Wd (SZ k) (OP k) ws ∧ ws ≠ []
theorem SZ_ge (k : Nat) : 40 ≤ SZ k := by cases k <;> simp [SZ]
theorem wrote_one {k : Nat} {A B : IH} {w : Str} (ha : Asc w) (hc : (TL.tl w).count 40 = 0) (hl : w.length ≤ 39) (g : Gr A B) : Wrote k A (.ok (.ref B.length) (B ++ [.lst [.str w]])) := by
  have := SZ_ge k
  exact ⟨_, _, [w], rfl, g.snoc _, at_new _ _, (Wd.one ha (Nat.le_of_eq hc)).mono (by omega) (Nat.zero_le _), by simp⟩
def lit1 (w : Str) : Bool := (TL.tl w).all (fun c => decide (c < 128)) && (decide ((TL.tl w).count 40 = 0) && decide (w.length ≤ 39))
theorem wrote_lit {k : Nat} {A B : IH} {w : Str} (h : lit1 w = true) (g : Gr A B) : Wrote k A (.ok (.ref B.length) (B ++ [.lst [.str w]])) := by
  unfold lit1 at h
  simp only [Bool.and_eq_true, decide_eq_true_eq] at h
  exact wrote_one (asc_lit h.1) h.2.1 h.2.2 g
theorem four_lit : ∀ s ∈ fourW, lit1 s = true := by decide +kernel
end LF.Pl
set_option Elab.async false
set_option linter.all false
set_option maxHeartbeats 8000000
set_option maxRecDepth 100000
/-! _law_written. -/
namespace LF.Pl
open PySem
theorem f16_atom0 {k : Nat} (n : Nat) (A : IH) {v : IV} (h : v = .non ∨ (∃ b, v = .bl b) ∨ (∃ i : Int, v = .int i ∧ i.natAbs < 10 ^ 13) ∨ (∃ s ∈ fourW, v = .str s)) : Wrote k A (callI prg (n + 1) 16 [v] A) := by
  rw [call_eq (d := ⟨1, 3, b16⟩) rfl rfl]
  rcases h with rfl | ⟨b, rfl⟩ | ⟨i, rfl, hi⟩ | ⟨s, hs, rfl⟩
  · simp only [onB_bl, bind_ok, bind_ex, bind_ite, onS_bl, on_ok, on_ex, on_ite, next_nx, next_rt, next_ct, next_ex, next_ite, e_non, e_bl, e_int, e_str, gV_some, e_var, optR_some, e_gco, e_tup, e_lst, e_bin, negI_int, e_neg, e_cmp, e_chain, notI_bl, e_not, e_and, e_or, e_ite, e_ix, e_sl, e_call, e_bi, e_me, optB_some, e_isi, attI_exc, e_att, oG_some, gD_some, e_gin, e_gix, e_gget, o_no, oI_int, o_some, t_no, tI_bl, t_some, es_nil, es_cons, qI_tup, qI_str, qI_ref, q_val, rI_int, q_rng, enI_ref, q_enum, oS_some, s_asg', s_par', s_setix', s_expr', s_ret', s_ite', s_for', s_cont', s_raise', ss_nil', ss_cons', stG_nm, stG_tp, stGs_nil, stGs_cons, fin_rt, fin_nx, fin_ex, fin_ite, List.getElem?_cons_zero, List.getElem?_cons_succ, List.set_cons_zero, List.set_cons_succ, List.length_cons, List.length_nil, List.length_set, List.replicate, if_true, if_false, Bool.not_true, Bool.not_false, Bool.false_eq_true, Bool.and_true, Bool.true_and, Bool.and_false, Bool.false_and, Bool.or_true, Bool.true_or, Bool.or_false, Bool.false_or, decide_true, decide_false, Option.bind_some, Option.isSome_some, List.nil_append, List.cons_append, List.append_nil, startF_one, startF_two, permute_one, permute_two, le_int, lt_int, gt_int, ge_int, add_int, sub_int, not_true_eq_false, not_false_eq_true, and_self, and_true, true_and, or_true, true_or, ite_self, b16, show ∀ A, cmpI .isn .non .non A = .ok (.bl true) A from fun _ => rfl, lim1, newL_eq]
    exact wrote_lit (by decide +kernel) (Gr.refl A)
  · cases b with
    | true =>
      simp only [onB_bl, bind_ok, bind_ex, bind_ite, onS_bl, on_ok, on_ex, on_ite, next_nx, next_rt, next_ct, next_ex, next_ite, e_non, e_bl, e_int, e_str, gV_some, e_var, optR_some, e_gco, e_tup, e_lst, e_bin, negI_int, e_neg, e_cmp, e_chain, notI_bl, e_not, e_and, e_or, e_ite, e_ix, e_sl, e_call, e_bi, e_me, optB_some, e_isi, attI_exc, e_att, oG_some, gD_some, e_gin, e_gix, e_gget, o_no, oI_int, o_some, t_no, tI_bl, t_some, es_nil, es_cons, qI_tup, qI_str, qI_ref, q_val, rI_int, q_rng, enI_ref, q_enum, oS_some, s_asg', s_par', s_setix', s_expr', s_ret', s_ite', s_for', s_cont', s_raise', ss_nil', ss_cons', stG_nm, stG_tp, stGs_nil, stGs_cons, fin_rt, fin_nx, fin_ex, fin_ite, List.getElem?_cons_zero, List.getElem?_cons_succ, List.set_cons_zero, List.set_cons_succ, List.length_cons, List.length_nil, List.length_set, List.replicate, if_true, if_false, Bool.not_true, Bool.not_false, Bool.false_eq_true, Bool.and_true, Bool.true_and, Bool.and_false, Bool.false_and, Bool.or_true, Bool.true_or, Bool.or_false, Bool.false_or, decide_true, decide_false, Option.bind_some, Option.isSome_some, List.nil_append, List.cons_append, List.append_nil, startF_one, startF_two, permute_one, permute_two, le_int, lt_int, gt_int, ge_int, add_int, sub_int, not_true_eq_false, not_false_eq_true, and_self, and_true, true_and, or_true, true_or, ite_self, b16, show ∀ A, cmpI .isn (.bl true) .non A = .ok (.bl false) A from fun _ => rfl, show isI prg (.bl true) .bool = some true from rfl, lim1, newL_eq]
      exact wrote_lit (by decide +kernel) (Gr.refl A)
    | false =>
      simp only [onB_bl, bind_ok, bind_ex, bind_ite, onS_bl, on_ok, on_ex, on_ite, next_nx, next_rt, next_ct, next_ex, next_ite, e_non, e_bl, e_int, e_str, gV_some, e_var, optR_some, e_gco, e_tup, e_lst, e_bin, negI_int, e_neg, e_cmp, e_chain, notI_bl, e_not, e_and, e_or, e_ite, e_ix, e_sl, e_call, e_bi, e_me, optB_some, e_isi, attI_exc, e_att, oG_some, gD_some, e_gin, e_gix, e_gget, o_no, oI_int, o_some, t_no, tI_bl, t_some, es_nil, es_cons, qI_tup, qI_str, qI_ref, q_val, rI_int, q_rng, enI_ref, q_enum, oS_some, s_asg', s_par', s_setix', s_expr', s_ret', s_ite', s_for', s_cont', s_raise', ss_nil', ss_cons', stG_nm, stG_tp, stGs_nil, stGs_cons, fin_rt, fin_nx, fin_ex, fin_ite, List.getElem?_cons_zero, List.getElem?_cons_succ, List.set_cons_zero, List.set_cons_succ, List.length_cons, List.length_nil, List.length_set, List.replicate, if_true, if_false, Bool.not_true, Bool.not_false, Bool.false_eq_true, Bool.and_true, Bool.true_and, Bool.and_false, Bool.false_and, Bool.or_true, Bool.true_or, Bool.or_false, Bool.false_or, decide_true, decide_false, Option.bind_some, Option.isSome_some, List.nil_append, List.cons_append, List.append_nil, startF_one, startF_two, permute_one, permute_two, le_int, lt_int, gt_int, ge_int, add_int, sub_int, not_true_eq_false, not_false_eq_true, and_self, and_true, true_and, or_true, true_or, ite_self, b16, show ∀ A, cmpI .isn (.bl false) .non A = .ok (.bl false) A from fun _ => rfl, show isI prg (.bl false) .bool = some true from rfl, lim1, newL_eq]
      exact wrote_lit (by decide +kernel) (Gr.refl A)
  · simp only [onB_bl, bind_ok, bind_ex, bind_ite, onS_bl, on_ok, on_ex, on_ite, next_nx, next_rt, next_ct, next_ex, next_ite, e_non, e_bl, e_int, e_str, gV_some, e_var, optR_some, e_gco, e_tup, e_lst, e_bin, negI_int, e_neg, e_cmp, e_chain, notI_bl, e_not, e_and, e_or, e_ite, e_ix, e_sl, e_call, e_bi, e_me, optB_some, e_isi, attI_exc, e_att, oG_some, gD_some, e_gin, e_gix, e_gget, o_no, oI_int, o_some, t_no, tI_bl, t_some, es_nil, es_cons, qI_tup, qI_str, qI_ref, q_val, rI_int, q_rng, enI_ref, q_enum, oS_some, s_asg', s_par', s_setix', s_expr', s_ret', s_ite', s_for', s_cont', s_raise', ss_nil', ss_cons', stG_nm, stG_tp, stGs_nil, stGs_cons, fin_rt, fin_nx, fin_ex, fin_ite, List.getElem?_cons_zero, List.getElem?_cons_succ, List.set_cons_zero, List.set_cons_succ, List.length_cons, List.length_nil, List.length_set, List.replicate, if_true, if_false, Bool.not_true, Bool.not_false, Bool.false_eq_true, Bool.and_true, Bool.true_and, Bool.and_false, Bool.false_and, Bool.or_true, Bool.true_or, Bool.or_false, Bool.false_or, decide_true, decide_false, Option.bind_some, Option.isSome_some, List.nil_append, List.cons_append, List.append_nil, startF_one, startF_two, permute_one, permute_two, le_int, lt_int, gt_int, ge_int, add_int, sub_int, not_true_eq_false, not_false_eq_true, and_self, and_true, true_and, or_true, true_or, ite_self, b16, show ∀ A, cmpI .isn (.int i) .non A = .ok (.bl false) A from fun _ => rfl, show isI prg (.int i) .bool = some false from rfl, show isI prg (.int i) .tuple = some false from rfl, lim1, newL_eq, str_int _ hi]
    obtain ⟨p, q, r⟩ := int_sh (i := i) (k := 13) (by decide) hi
    exact wrote_one p r (by omega) (Gr.refl A)
  · simp only [onB_bl, bind_ok, bind_ex, bind_ite, onS_bl, on_ok, on_ex, on_ite, next_nx, next_rt, next_ct, next_ex, next_ite, e_non, e_bl, e_int, e_str, gV_some, e_var, optR_some, e_gco, e_tup, e_lst, e_bin, negI_int, e_neg, e_cmp, e_chain, notI_bl, e_not, e_and, e_or, e_ite, e_ix, e_sl, e_call, e_bi, e_me, optB_some, e_isi, attI_exc, e_att, oG_some, gD_some, e_gin, e_gix, e_gget, o_no, oI_int, o_some, t_no, tI_bl, t_some, es_nil, es_cons, qI_tup, qI_str, qI_ref, q_val, rI_int, q_rng, enI_ref, q_enum, oS_some, s_asg', s_par', s_setix', s_expr', s_ret', s_ite', s_for', s_cont', s_raise', ss_nil', ss_cons', stG_nm, stG_tp, stGs_nil, stGs_cons, fin_rt, fin_nx, fin_ex, fin_ite, List.getElem?_cons_zero, List.getElem?_cons_succ, List.set_cons_zero, List.set_cons_succ, List.length_cons, List.length_nil, List.length_set, List.replicate, if_true, if_false, Bool.not_true, Bool.not_false, Bool.false_eq_true, Bool.and_true, Bool.true_and, Bool.and_false, Bool.false_and, Bool.or_true, Bool.true_or, Bool.or_false, Bool.false_or, decide_true, decide_false, Option.bind_some, Option.isSome_some, List.nil_append, List.cons_append, List.append_nil, startF_one, startF_two, permute_one, permute_two, le_int, lt_int, gt_int, ge_int, add_int, sub_int, not_true_eq_false, not_false_eq_true, and_self, and_true, true_and, or_true, true_or, ite_self, b16, show ∀ A, cmpI .isn (.str s) .non A = .ok (.bl false) A from fun _ => rfl, show isI prg (.str s) .bool = some false from rfl, show isI prg (.str s) .tuple = some false from rfl, lim1, newL_eq, str_str]
    exact wrote_lit (four_lit s hs) (Gr.refl A)
theorem atI3 (a b c : IV) : L2.atI [a, b, c] 2 = some c := by
  rw [atI_in (by decide) (by show (2 : Int) < 3; decide)]
  rfl
theorem ix_tup (xs : List IV) (i : Int) (A : IH) : ixI (.tup xs) (.int i) A = optR (L2.atI xs i) A := rfl
theorem len_lit1 : (("@" : Str)).length = 1 ∧ (("." : Str)).length = 1 := by decide +kernel
theorem f16_ad {k : Nat} (n : Nat) (A : IH) {a : IV} {i j : Nat} (hi : i < 10 ^ 13) (hj : j < 10 ^ 13) (hs : ∀ v ∈ [a, .int (i : Int), .int (j : Int)], Sh v) (hdp : dpVs [a, .int (i : Int), .int (j : Int)] ≤ 60) (had : isAd [a, .int (i : Int), .int (j : Int)] = true) : Wrote k A (callI prg (n + 2) 16 [.tup [a, .int (i : Int), .int (j : Int)]] A) := by
  rw [call_eq (d := ⟨1, 3, b16⟩) rfl rfl]
  have hi' : ((i : Int)).natAbs < 10 ^ 13 := by rw [Int.natAbs_natCast]; exact hi
  have hj' : ((j : Int)).natAbs < 10 ^ 13 := by rw [Int.natAbs_natCast]; exact hj
  obtain ⟨p1, q1, r1⟩ := int_sh (i := (i : Int)) (k := 13) (by decide) hi'
  obtain ⟨p2, q2, r2⟩ := int_sh (i := (j : Int)) (k := 13) (by decide) hj'
  generalize hs1 : Str.ofString (toString (i : Int)) = s1 at *
  generalize hs2 : Str.ofString (toString (j : Int)) = s2 at *
  obtain ⟨l1, l2⟩ := len_lit1
  have e1 := str_int (i := (i : Int)) (h := hi')
  have e2 := str_int (i := (j : Int)) (h := hj')
  rw [hs1] at e1
  rw [hs2] at e2
  obtain ⟨B, gB, eB⟩ := f15 n A [a, .int (i : Int), .int (j : Int)] hs hdp (by show 3 ≤ LIM; decide)
  rw [had] at eB
  have c1 : ∀ A, binI .add (.str "@") (.str s1) A = .ok (.str (("@" : Str) ++ s1)) A := fun A => cat_ok A (by rw [l1]; show _ ≤ 10000000; omega)
  have c2 : ∀ A, binI .add (.str (("@" : Str) ++ s1)) (.str ".") A = .ok (.str (("@" : Str) ++ s1 ++ (("." : Str)))) A := fun A => cat_ok A (by rw [len_app, l1, l2]; show _ ≤ 10000000; omega)
  have c3 : ∀ A, binI .add (.str (("@" : Str) ++ s1 ++ (("." : Str)))) (.str s2) A = .ok (.str (("@" : Str) ++ s1 ++ (("." : Str)) ++ s2)) A := fun A => cat_ok A (by rw [len_app, len_app, l1, l2]; show _ ≤ 10000000; omega)
  have x1 : ∀ A, ixI (.tup [a, .int (i : Int), .int (j : Int)]) (.int 1) A = .ok (.int (i : Int)) A := fun A => by
    rw [ix_tup, atI1]; rfl
  have x2 : ∀ A, ixI (.tup [a, .int (i : Int), .int (j : Int)]) (.int 2) A = .ok (.int (j : Int)) A := fun A => by
    rw [ix_tup, atI3]; rfl
  simp only [onB_bl, bind_ok, bind_ex, bind_ite, onS_bl, on_ok, on_ex, on_ite, next_nx, next_rt, next_ct, next_ex, next_ite, e_non, e_bl, e_int, e_str, gV_some, e_var, optR_some, e_gco, e_tup, e_lst, e_bin, negI_int, e_neg, e_cmp, e_chain, notI_bl, e_not, e_and, e_or, e_ite, e_ix, e_sl, e_call, e_bi, e_me, optB_some, e_isi, attI_exc, e_att, oG_some, gD_some, e_gin, e_gix, e_gget, o_no, oI_int, o_some, t_no, tI_bl, t_some, es_nil, es_cons, qI_tup, qI_str, qI_ref, q_val, rI_int, q_rng, enI_ref, q_enum, oS_some, s_asg', s_par', s_setix', s_expr', s_ret', s_ite', s_for', s_cont', s_raise', ss_nil', ss_cons', stG_nm, stG_tp, stGs_nil, stGs_cons, fin_rt, fin_nx, fin_ex, fin_ite, List.getElem?_cons_zero, List.getElem?_cons_succ, List.set_cons_zero, List.set_cons_succ, List.length_cons, List.length_nil, List.length_set, List.replicate, if_true, if_false, Bool.not_true, Bool.not_false, Bool.false_eq_true, Bool.and_true, Bool.true_and, Bool.and_false, Bool.false_and, Bool.or_true, Bool.true_or, Bool.or_false, Bool.false_or, decide_true, decide_false, Option.bind_some, Option.isSome_some, List.nil_append, List.cons_append, List.append_nil, startF_one, startF_two, permute_one, permute_two, le_int, lt_int, gt_int, ge_int, add_int, sub_int, not_true_eq_false, not_false_eq_true, and_self, and_true, true_and, or_true, true_or, ite_self, b16, show ∀ A xs, cmpI .isn (.tup xs) .non A = .ok (.bl false) A from fun _ _ => rfl, show ∀ xs, isI prg (.tup xs) .bool = some false from fun _ => rfl, show ∀ xs, isI prg (.tup xs) .tuple = some true from fun _ => rfl, eB, x1, x2, e1, e2, c1, c2, c3, lim1, newL_eq]
  refine wrote_one ?_ ?_ ?_ gB
  · exact asc_app (asc_app (asc_app (asc_lit (by decide +kernel)) p1) (asc_lit (by decide +kernel))) p2
  · rw [TL.tl_append, TL.tl_append, TL.tl_append, List.count_append, List.count_append, List.count_append, r1, r2]
    decide +kernel
  · rw [len_app, len_app, len_app, l1, l2]
    omega
end LF.Pl
set_option Elab.async false
set_option linter.all false
set_option maxHeartbeats 8000000
set_option maxRecDepth 100000
/-! _law_written, whole. -/
namespace LF.Pl
open PySem
theorem thg_int : ∀ {k : Nat} {i : Int}, Thg k (.int i) → i.natAbs < 10 ^ 13
  | 0, i, h => by
    rcases h with h | ⟨b, h⟩ | ⟨j, h, hj⟩ | ⟨s, _, h⟩ | h
    · cases h
    · cases h
    · cases h; exact hj
    · cases h
    · cases h
  | k + 1, i, h => by
    rcases h with h | ⟨xs, h, _⟩
    · exact thg_int (k := 0) h
    · cases h
theorem MZ_small {k : Nat} (h : k ≤ 4) : MZ k ≤ 30000 := by
  have : k = 0 ∨ k = 1 ∨ k = 2 ∨ k = 3 ∨ k = 4 := by omega
  rcases this with rfl | rfl | rfl | rfl | rfl <;> decide
theorem thg_Sh {k : Nat} {v : IV} (hk : k ≤ 4) (h : Thg k v) : Sh v := by
  obtain ⟨a, b, c⟩ := thg_sh k v h
  have := MZ_small hk
  exact ⟨a, by omega, by omega⟩
theorem f16_atom {k : Nat} (n : Nat) (A : IH) {v : IV} (h : AtomT v) : Wrote k A (callI prg (n + 2) 16 [v] A) := by
  rcases h with h | h | h | h | rfl
  · exact f16_atom0 (n + 1) A (.inl h)
  · exact f16_atom0 (n + 1) A (.inr (.inl h))
  · exact f16_atom0 (n + 1) A (.inr (.inr (.inl h)))
  · exact f16_atom0 (n + 1) A (.inr (.inr (.inr h)))
  · refine f16_ad n A (i := 1) (j := 12) (by decide) (by decide) (fun v hv => ?_) (by rw [dpVs, dpVs, dpVs, dpVs, dpV, dpV, dpV]; decide) (by decide +kernel)
    refine thg_Sh (k := 0) (by decide) ?_
    rcases List.mem_cons.mp hv with rfl | hv
    · exact .inr (.inr (.inr (.inl ⟨"at", by decide, rfl⟩)))
    · rcases List.mem_cons.mp hv with rfl | hv
      · exact .inr (.inr (.inl ⟨1, rfl, by decide⟩))
      · rw [List.mem_singleton.mp hv]
        exact .inr (.inr (.inl ⟨12, rfl, by decide⟩))
def body16 : CSs := .cons (.expr (.me .extend (.var 1) (.cons (.call 16 (.cons (.var 2) .nil) [] [0]) .nil))) .nil
def head16 : CSs → CSs := fun r => (.cons (.ite (.or (.cmp .isn (.var 0) .non) (.isi (.var 0) (.bool))) (.cons (.ret (.lst (.cons (.ite (.cmp .isn (.var 0) .non) (.str "-") (.ite (.var 0) (.str "+") (.str "/"))) .nil)))
    .nil) .nil)
    (.cons (.ite (.not (.isi (.var 0) (.tuple))) (.cons (.ret (.lst (.cons (.bi .str (.cons (.var 0) .nil)) .nil)))
    .nil) .nil)
    (.cons (.ite (.call 15 (.cons (.var 0) .nil) [] [0]) (.cons (.ret (.lst (.cons (.bin .add (.bin .add (.bin .add (.str "@") (.bi .str (.cons (.ix (.var 0) (.int 1)) .nil))) (.str ".")) (.bi .str (.cons (.ix (.var 0) (.int 2)) .nil))) .nil)))
    .nil) .nil)
    (.cons (.asg (.nm 1) (.lst (.cons (.str "(") .nil))) r))))
def rest16 : CSs := .cons (.for (.nm 2) (.val (.var 0)) body16) (.cons (.ret (.bin .add (.var 1) (.lst (.cons (.str ")") .nil)))) .nil)
theorem b16_eq : b16 = head16 rest16 := rfl
theorem one_open : Wd 2 1 ["("] := ⟨fun w hw => by rw [List.mem_singleton.mp hw]; exact asc_lit (by decide +kernel), by decide +kernel, by decide +kernel⟩
theorem one_close : Wd 2 0 [")"] := ⟨fun w hw => by rw [List.mem_singleton.mp hw]; exact asc_lit (by decide +kernel), by decide +kernel, by decide +kernel⟩
/-- _law_written -/
theorem f16 : ∀ (k : Nat), k ≤ 3 → ∀ (n : Nat) (A : IH) (v : IV), Thg k v → Wrote k A (callI prg (n + k + 2) 16 [v] A)
  | 0, _, n, A, v, h => f16_atom n A h
  | k + 1, hk, n, A, v, h => by
    rcases h with h | ⟨xs, rfl, hl, hx⟩
    · rw [show n + (k + 1) + 2 = (n + k + 1) + 2 by omega]
      exact f16_atom (n + k + 1) A h
    · have hsh : ∀ v ∈ xs, Sh v := fun v hv => thg_Sh (by omega) (hx v hv)
      have hdp : dpVs xs ≤ 60 := dpVs_of fun v hv => by have := (thg_sh k v (hx v hv)).2.1; omega
      have hle : SZ k ≤ 100000 := by
        have : k = 0 ∨ k = 1 ∨ k = 2 ∨ k = 3 := by omega
        rcases this with rfl | rfl | rfl | rfl <;> decide
      rw [show n + (k + 1) + 2 = (n + k + 2) + 1 by omega]
      cases had : isAd xs with
      | true =>
        obtain ⟨a, i, j, rfl⟩ := isAd_shape had
        have hi := thg_int (hx (.int i) (by simp))
        have hj := thg_int (hx (.int j) (by simp))
        rw [Int.natAbs_natCast] at hi hj
        exact f16_ad (n + k + 1) A hi hj hsh hdp had
      | false =>
        obtain ⟨B, gB, eB⟩ := f15 (n + k + 1) A xs hsh hdp (Nat.le_trans hl (by decide))
        rw [had] at eB
        have eB : callI prg (n + k + 2) 15 [.tup xs] A = .ok (.bl false) B := eB
        rw [call_eq (d := ⟨1, 3, b16⟩) rfl rfl, b16_eq]
        obtain ⟨A1, hA1⟩ : ∃ C, C = B ++ [IO.lst [.str "("]] := ⟨_, rfl⟩
        have g1 : Gr A A1 := by rw [hA1]; exact gB.snoc _
        have a1 : A1[B.length]? = some (.lst ((["("] : List Str).map .str)) := by rw [hA1]; exact at_new _ _
        have hst : evSs prg (callI prg (n + k + 2)) (head16 rest16) (startF 3 [.tup xs]) A = evSs prg (callI prg (n + k + 2)) rest16 [some (.tup xs), some (.ref B.length), none] A1 := by
          simp only [head16, onB_bl, bind_ok, bind_ex, bind_ite, onS_bl, on_ok, on_ex, on_ite, next_nx, next_rt, next_ct, next_ex, next_ite, e_non, e_bl, e_int, e_str, gV_some, e_var, optR_some, e_gco, e_tup, e_lst, e_bin, negI_int, e_neg, e_cmp, e_chain, notI_bl, e_not, e_and, e_or, e_ite, e_ix, e_sl, e_call, e_bi, e_me, optB_some, e_isi, attI_exc, e_att, oG_some, gD_some, e_gin, e_gix, e_gget, o_no, oI_int, o_some, t_no, tI_bl, t_some, es_nil, es_cons, qI_tup, qI_str, qI_ref, q_val, rI_int, q_rng, enI_ref, q_enum, oS_some, s_asg', s_par', s_setix', s_expr', s_ret', s_ite', s_for', s_cont', s_raise', ss_nil', ss_cons', stG_nm, stG_tp, stGs_nil, stGs_cons, fin_rt, fin_nx, fin_ex, fin_ite, List.getElem?_cons_zero, List.getElem?_cons_succ, List.set_cons_zero, List.set_cons_succ, List.length_cons, List.length_nil, List.length_set, List.replicate, if_true, if_false, Bool.not_true, Bool.not_false, Bool.false_eq_true, Bool.and_true, Bool.true_and, Bool.and_false, Bool.false_and, Bool.or_true, Bool.true_or, Bool.or_false, Bool.false_or, decide_true, decide_false, Option.bind_some, Option.isSome_some, List.nil_append, List.cons_append, List.append_nil, startF_one, startF_two, permute_one, permute_two, le_int, lt_int, gt_int, ge_int, add_int, sub_int, not_true_eq_false, not_false_eq_true, and_self, and_true, true_and, or_true, true_or, ite_self, show ∀ A xs, cmpI .isn (.tup xs) .non A = .ok (.bl false) A from fun _ _ => rfl, show ∀ xs, isI prg (.tup xs) .bool = some false from fun _ => rfl, show ∀ xs, isI prg (.tup xs) .tuple = some true from fun _ => rfl, eB, lim1, newL_eq, ← hA1, Nat.reduceAdd, Nat.reduceLT]
        rw [hst]
        unfold rest16
        rw [ss_cons', s_for', q_val, e_var]
        simp only [List.getElem?_cons_zero, gV_some, bind_ok, qI_tup, on_ok]
        rcases for_inv0 (N := xs.length) (q := .fix xs) (f := fun x ρ A => oS (stG A (.nm 2) x ρ) fun ρ => evSs prg (callI prg (n + k + 2)) body16 ρ A)
          (fun i ρ C => ∃ x2 ws, ρ = [some (.tup xs), some (.ref B.length), x2] ∧ Gr A C ∧ C[B.length]? = some (.lst (ws.map .str)) ∧ Wd (2 + i * SZ k) (1 + i * OP k) ws ∧ ws ≠ [])
          (fun _ => False) (Nat.le_trans hl (by decide))
          (fun i ρ C hi ⟨x2, ws, e, g, ec, wd, ne⟩ => by
            subst e
            have hxi : xs[i]? = some xs[i] := List.getElem?_eq_getElem hi
            refine ⟨xs[i], by rw [item_fix, hxi], .inl ?_⟩
            obtain ⟨C', m, ws', e', g', em, wd', ne'⟩ := f16 k (by omega) n C xs[i] (hx _ (List.getElem_mem hi))
            have l1 := szW_len ws
            have l2 := szW_len ws'
            have s1 := wd.sz
            have s2 := wd'.sz
            have hmul : i * SZ k ≤ 4 * 100000 := Nat.mul_le_mul (by omega) hle
            have hext := ext_lst (g'.get ec) em (by rw [List.length_map, List.length_map]; show _ ≤ 10000000; omega)
            refine ⟨[some (.tup xs), some (.ref B.length), some xs[i]], C'.set B.length (.lst ((ws ++ ws').map .str)), .inl ?_, some xs[i], ws ++ ws', rfl, (g.trans g').set gB.le _, get_set_eq (g'.get ec), ?_, by simp [ne]⟩
            · simp only [body16, onB_bl, bind_ok, bind_ex, bind_ite, onS_bl, on_ok, on_ex, on_ite, next_nx, next_rt, next_ct, next_ex, next_ite, e_non, e_bl, e_int, e_str, gV_some, e_var, optR_some, e_gco, e_tup, e_lst, e_bin, negI_int, e_neg, e_cmp, e_chain, notI_bl, e_not, e_and, e_or, e_ite, e_ix, e_sl, e_call, e_bi, e_me, optB_some, e_isi, attI_exc, e_att, oG_some, gD_some, e_gin, e_gix, e_gget, o_no, oI_int, o_some, t_no, tI_bl, t_some, es_nil, es_cons, qI_tup, qI_str, qI_ref, q_val, rI_int, q_rng, enI_ref, q_enum, oS_some, s_asg', s_par', s_setix', s_expr', s_ret', s_ite', s_for', s_cont', s_raise', ss_nil', ss_cons', stG_nm, stG_tp, stGs_nil, stGs_cons, fin_rt, fin_nx, fin_ex, fin_ite, List.getElem?_cons_zero, List.getElem?_cons_succ, List.set_cons_zero, List.set_cons_succ, List.length_cons, List.length_nil, List.length_set, List.replicate, if_true, if_false, Bool.not_true, Bool.not_false, Bool.false_eq_true, Bool.and_true, Bool.true_and, Bool.and_false, Bool.false_and, Bool.or_true, Bool.true_or, Bool.or_false, Bool.false_or, decide_true, decide_false, Option.bind_some, Option.isSome_some, List.nil_append, List.cons_append, List.append_nil, startF_one, startF_two, permute_one, permute_two, le_int, lt_int, gt_int, ge_int, add_int, sub_int, not_true_eq_false, not_false_eq_true, and_self, and_true, true_and, or_true, true_or, ite_self, Nat.reduceAdd, Nat.reduceLT, recv_ext ec, e', hext, List.map_append]
            · have := wd.app wd'
              rw [show 2 + (i + 1) * SZ k = 2 + i * SZ k + SZ k by rw [Nat.add_mul]; omega, show 1 + (i + 1) * OP k = 1 + i * OP k + OP k by rw [Nat.add_mul]; omega]
              exact this)
          (fun ρ C ⟨x2, ws, e, g, ec, wd, ne⟩ => by rw [item_fix]; simp) ⟨none, ["("], rfl, g1, a1, one_open.mono (by omega) (by omega), by simp⟩ with ⟨ρ', C, r, x2, ws, e, g, ec, wd, ne⟩ | ⟨z, _⟩
        · rw [r, next_nx]
          subst e
          have l1 := szW_len ws
          have s1 := wd.sz
          have hmul : xs.length * SZ k ≤ 4 * 100000 := Nat.mul_le_mul hl hle
          have hmul2 : xs.length * SZ k ≤ 4 * SZ k := Nat.mul_le_mul_right _ hl
          have hmul3 : xs.length * OP k ≤ 4 * OP k := Nat.mul_le_mul_right _ hl
          have hadd := add_lst (A := C ++ [IO.lst [.str ")"]]) (n := C.length) (ys := [.str ")"]) ((Gr.new C _).get ec) (at_new _ _) (by rw [List.length_map]; show _ + 1 ≤ 10000000; omega)
          have hw : Wd (SZ (k + 1)) (OP (k + 1)) (ws ++ ([")"] : List Str)) := (wd.app one_close).mono (show _ ≤ 40 + 4 * SZ k by omega) (show _ ≤ 1 + 4 * OP k by omega)
          refine ⟨C ++ [IO.lst [.str ")"]] ++ [IO.lst (ws.map IV.str ++ [.str ")"])], (C ++ [IO.lst [.str ")"]]).length, ws ++ ([")"] : List Str), ?_, (g.snoc (.lst [.str ")"])).snoc _, ?_, hw, by simp⟩
          · simp only [onB_bl, bind_ok, bind_ex, bind_ite, onS_bl, on_ok, on_ex, on_ite, next_nx, next_rt, next_ct, next_ex, next_ite, e_non, e_bl, e_int, e_str, gV_some, e_var, optR_some, e_gco, e_tup, e_lst, e_bin, negI_int, e_neg, e_cmp, e_chain, notI_bl, e_not, e_and, e_or, e_ite, e_ix, e_sl, e_call, e_bi, e_me, optB_some, e_isi, attI_exc, e_att, oG_some, gD_some, e_gin, e_gix, e_gget, o_no, oI_int, o_some, t_no, tI_bl, t_some, es_nil, es_cons, qI_tup, qI_str, qI_ref, q_val, rI_int, q_rng, enI_ref, q_enum, oS_some, s_asg', s_par', s_setix', s_expr', s_ret', s_ite', s_for', s_cont', s_raise', ss_nil', ss_cons', stG_nm, stG_tp, stGs_nil, stGs_cons, fin_rt, fin_nx, fin_ex, fin_ite, List.getElem?_cons_zero, List.getElem?_cons_succ, List.set_cons_zero, List.set_cons_succ, List.length_cons, List.length_nil, List.length_set, List.replicate, if_true, if_false, Bool.not_true, Bool.not_false, Bool.false_eq_true, Bool.and_true, Bool.true_and, Bool.and_false, Bool.false_and, Bool.or_true, Bool.true_or, Bool.or_false, Bool.false_or, decide_true, decide_false, Option.bind_some, Option.isSome_some, List.nil_append, List.cons_append, List.append_nil, startF_one, startF_two, permute_one, permute_two, le_int, lt_int, gt_int, ge_int, add_int, sub_int, not_true_eq_false, not_false_eq_true, and_self, and_true, true_and, or_true, true_or, ite_self, lim1, newL_eq, hadd]
          · rw [at_new, List.map_append]
            rfl
        · exact z.elim
end LF.Pl
set_option Elab.async false
set_option linter.all false
set_option maxHeartbeats 8000000
set_option maxRecDepth 100000
/-! _law_thing. -/
namespace LF.Pl
open PySem
/-- an item of a list, by a drawn number -/
theorem ix_mem {A : IH} {n : Nat} {xs : List IV} {i : Int} (h : A[n]? = some (.lst xs)) (h0 : 0 ≤ i) (h1 : i < xs.length) : ∃ v ∈ xs, ixI (.ref n) (.int i) A = .ok v A := by
  have hlt : i.toNat < xs.length := by omega
  refine ⟨xs[i.toNat], List.getElem_mem hlt, ?_⟩
  rw [ix_lst i h, atI_in h0 h1, List.getElem?_eq_getElem hlt]
  rfl
/-- how many are drawn at most -/
def TT : Nat → Nat
  | 0 => 5
  | k + 1 => 5 + 5 * TT k
theorem TT_ge (k : Nat) : 5 ≤ TT k := by cases k <;> simp [TT]
theorem neg_lit (i : Int) (A : IH) : negI (.int i) A = .ok (.int (-i)) A := rfl
def tenE : CEs := (.cons (.int 0) (.cons (.int 1) (.cons (.int 7) (.cons (.int 10) (.cons (.neg (.int 1)) (.cons (.neg (.int 10)) (.cons (.int 123456789012) (.cons (.neg (.int 99)) (.cons (.int 100) (.cons (.bin .pow (.int 10) (.int 6)) .nil))))))))))
def tenV : List IV := [.int 0, .int 1, .int 7, .int 10, .int (-1), .int (-10), .int 123456789012, .int (-99), .int 100, .int 1000000]
theorem tenE_eq (P : Prg) (C : Cal) (ρ : Fr) (A : IH) : evE P C (.lst tenE) ρ A = .ok (.ref A.length) (A ++ [.lst tenV]) := by
  have p : binI .pow (.int 10) (.int 6) A = .ok (.int 1000000) A := pow6 A
  have l : (0 + 1 + 1 + 1 + 1 + 1 + 1 + 1 + 1 + 1 + 1 ≤ LIM) = True := eq_true (by decide)
  simp only [tenE, e_lst, es_cons, es_nil, e_int, e_neg, e_bin, bind_ok, neg_lit, p, List.length_cons, List.length_nil, l, if_true, newL_eq]
  rfl
theorem tenV_ok : ∀ v ∈ tenV, ∃ i : Int, v = .int i ∧ i.natAbs < 10 ^ 13 := by
  intro v hv
  simp only [tenV, List.mem_cons, List.not_mem_nil, or_false] at hv
  rcases hv with rfl | rfl | rfl | rfl | rfl | rfl | rfl | rfl | rfl | rfl <;> exact ⟨_, rfl, by decide⟩
def fourE : CEs := (.cons (.str "a") (.cons (.str "at") (.cons (.str "zzzzzzzz") (.cons (.str "act") .nil))))
theorem fourE_eq (P : Prg) (C : Cal) (ρ : Fr) (A : IH) : evE P C (.lst fourE) ρ A = .ok (.ref A.length) (A ++ [.lst (fourW.map .str)]) := by
  simp only [fourE, e_lst, es_cons, es_nil, e_str, bind_ok, List.length_cons, List.length_nil, L4, if_true, newL_eq]
  rfl
def atoms17 : CSs := (.cons (.asg (.nm 4) (.ix (.lst tenE) (.call 14 (.cons (.var 0) (.cons (.int 10) .nil)) [] [0, 1])))
    (.cons (.asg (.nm 5) (.lst (.cons (.var 4) (.cons (.var 4) (.cons (.ix (.lst fourE) (.call 14 (.cons (.var 0) (.cons (.int 4) .nil)) [] [0, 1])) (.cons .non (.cons (.bl true) (.cons (.bl false) (.cons (.tup (.cons (.str "at") (.cons (.int 1) (.cons (.int 12) .nil)))) .nil)))))))))
    (.cons (.ret (.ix (.var 5) (.call 14 (.cons (.var 0) (.cons (.int 7) .nil)) [] [0, 1])))
    .nil)))
def lc17 : CE := .lc (.call 17 (.cons (.var 0) (.cons (.bin .sub (.var 1) (.int 1)) .nil)) [] [0, 1]) (.nm 3) (.rng (.call 14 (.cons (.var 0) (.cons (.int 5) .nil)) [] [0, 1])) .no [3]
theorem b17_eq : b17 = (.cons (.asg (.nm 2) (.call 14 (.cons (.var 0) (.cons (.int 10) .nil)) [] [0, 1]))
    (.cons (.ite (.and (.cmp .lt (.var 2) (.int 5)) (.cmp .gt (.var 1) (.int 0))) (.cons (.ret (.bi .tuple (.cons lc17 .nil)))
    .nil) .nil) atoms17)) := rfl
theorem m_lit {m : Nat} (h : 0 < m) (h2 : m ≤ 1000) : Mny (m : Int) := mny h (Nat.le_trans h2 (by decide))
/-- what a def that draws a thing gives -/
def Drew (k : Nat) (w kk c : Nat) (A : IH) (r : Rs IV) : Prop := ∃ A' v, r = .ok v A' ∧ Thg k v ∧ Well A' w kk (c + TT k) ∧ Gw w A A'
theorem atoms_ok (n : Nat) {A : IH} {w kk c : Nat} {i2 : Int} {k : Int} {x3 x4 x5 : Option IV} (h : Well A w kk c) (hb : c + 3 ≤ 1000000) : ∃ A' v, fin (evSs prg (callI prg (n + 1)) atoms17 [some (.ref w), some (.int k), some (.int i2), x3, x4, x5] A) = .ok v A' ∧ AtomT v ∧ Well A' w kk (c + 3) ∧ Gw w A A' := by
  -- the number
  obtain ⟨A1, hA1⟩ : ∃ B, B = A ++ [IO.lst tenV] := ⟨_, rfl⟩
  have g1 : Gr A A1 := by rw [hA1]; exact Gr.new _ _
  have t1 := fun ρ => tenE_eq prg (callI prg (n + 1)) ρ A
  rw [← hA1] at t1
  obtain ⟨A2, r1, c1, p1, q1, w1, s1⟩ := f14 n (h.gr g1) (by omega) (m_lit (m := 10) (by decide) (by decide))
  have hw := h.lt
  have e1 : A2[A.length]? = some (.lst tenV) := s1.get _ _ (by omega) (by rw [hA1]; exact at_new _ _)
  obtain ⟨v4, hv4, x1⟩ := ix_mem e1 p1 (by exact q1)
  obtain ⟨j, rfl, hj⟩ := tenV_ok v4 hv4
  have c1 : callI prg (n + 1) 14 [.ref w, .int 10] A1 = .ok (.int r1) A2 := c1
  -- the word
  obtain ⟨A3, hA3⟩ : ∃ B, B = A2 ++ [IO.lst (fourW.map IV.str)] := ⟨_, rfl⟩
  have g3 : Gr A2 A3 := by rw [hA3]; exact Gr.new _ _
  have t3 := fun ρ => fourE_eq prg (callI prg (n + 1)) ρ A2
  rw [← hA3] at t3
  obtain ⟨A4, r3, c3, p3, q3, w3, s3⟩ := f14 n (w1.gr g3) (by omega) (m_lit (m := 4) (by decide) (by decide))
  have hw2 := w1.lt
  have e3 : A4[A2.length]? = some (.lst (fourW.map .str)) := s3.get _ _ (by omega) (by rw [hA3]; exact at_new _ _)
  obtain ⟨v5, hv5, x3'⟩ := ix_mem e3 p3 (by exact q3)
  obtain ⟨sx, hsx, rfl⟩ := List.mem_map.mp hv5
  have c3 : callI prg (n + 1) 14 [.ref w, .int 4] A3 = .ok (.int r3) A4 := c3
  -- the choice
  obtain ⟨A5, hA5⟩ : ∃ B, B = A4 ++ [IO.lst [.int j, .int j, .str sx, .non, .bl true, .bl false, .tup [.str "at", .int 1, .int 12]]] := ⟨_, rfl⟩
  have g5 : Gr A4 A5 := by rw [hA5]; exact Gr.new _ _
  obtain ⟨A6, r5, c5, p5, q5, w5, s5⟩ := f14 n (w3.gr g5) (by omega) (m_lit (m := 7) (by decide) (by decide))
  have hw4 := w3.lt
  have e5 : A6[A4.length]? = some (.lst [.int j, .int j, .str sx, .non, .bl true, .bl false, .tup [.str "at", .int 1, .int 12]]) := s5.get _ _ (by omega) (by rw [hA5]; exact at_new _ _)
  obtain ⟨v6, hv6, x5'⟩ := ix_mem e5 p5 (by exact q5)
  have c5 : callI prg (n + 1) 14 [.ref w, .int 7] A5 = .ok (.int r5) A6 := c5
  refine ⟨A6, v6, ?_, ?_, w5, ((((((g1.gw w).trans s1).trans (g3.gw w)).trans s3).trans (g5.gw w)).trans s5)⟩
  · have L7 : (0 + 1 + 1 + 1 + 1 + 1 + 1 + 1 ≤ LIM) = True := eq_true (by decide)
    have L3 : (0 + 1 + 1 + 1 ≤ LIM) = True := eq_true (by decide)
    have hts := fun ρ => t3 ρ
    simp only [atoms17, s_asg', ss_cons', s_ret', e_ix, t1, bind_ok, on_ok, e_call, es_cons, es_nil, e_var, e_int, List.getElem?_cons_zero, List.getElem?_cons_succ, gV_some, List.append_nil, permute_two, c1, x1, stG_nm, List.length_cons, List.length_nil, Nat.reduceAdd, Nat.reduceLT, if_true, oS_some, List.set_cons_zero, List.set_cons_succ, next_nx]
    rw [e_lst]
    simp only [es_cons, es_nil, e_ix, e_var, List.getElem?_cons_zero, List.getElem?_cons_succ, gV_some, bind_ok, t3, e_call, e_int, List.append_nil, permute_two, c3, x3', e_non, e_bl, e_tup, e_str, List.length_cons, List.length_nil, Nat.reduceAdd, L3, L7, if_true, newL_eq, on_ok, stG_nm, Nat.reduceLT, oS_some, List.set_cons_zero, List.set_cons_succ, next_nx, ← hA5, c5, x5', next_rt, fin_rt, show ((3 : Nat) ≤ LIM) = True from L3, show ((7 : Nat) ≤ LIM) = True from L7]
  · simp only [List.mem_cons, List.not_mem_nil, or_false] at hv6
    rcases hv6 with rfl | rfl | rfl | rfl | rfl | rfl | rfl
    · exact .inr (.inr (.inl ⟨j, rfl, hj⟩))
    · exact .inr (.inr (.inl ⟨j, rfl, hj⟩))
    · exact .inr (.inr (.inr (.inl ⟨sx, hsx, rfl⟩)))
    · exact .inl rfl
    · exact .inr (.inl ⟨true, rfl⟩)
    · exact .inr (.inl ⟨false, rfl⟩)
    · exact .inr (.inr (.inr (.inr rfl)))
end LF.Pl
set_option Elab.async false
set_option linter.all false
set_option maxHeartbeats 8000000
set_option maxRecDepth 100000
/-! _law_thing, whole. -/
namespace LF.Pl
open PySem
theorem Well.ne_new {A : IH} {w k c : Nat} (h : Well A w k c) : A.length ≠ w ∧ A.length ≠ k := by
  have := h.lt
  omega
theorem rI_nat (R : Nat) (A1 : IH) (hR : R ≤ 1000) : rI (.int (R : Int)) A1 = .ok (.fix ((List.range R).map fun (i : Nat) => IV.int (i : Int))) A1 := by
  rw [rI_int, if_pos]
  · rfl
  · constructor
    · omega
    · omega
/-- a range of a drawn number -/
theorem rng_ok {C : Cal} {e : CE} {ρ : Fr} {R : Nat} {A A1 : IH} (h : evE prg C e ρ A = .ok (.int (R : Int)) A1) (hR : R ≤ 1000) : evQ prg C (.rng e) ρ A = .ok (.fix ((List.range R).map fun (i : Nat) => IV.int (i : Int))) A1 := by
  rw [q_rng, h, bind_ok]
  exact rI_nat R A1 hR
theorem lc17_ok {k : Nat} (m : Nat) {A : IH} {w kk c : Nat} {x2 x3 x4 x5 : Option IV} (h : Well A w kk c) (hb : c + 1 + 5 * TT k ≤ 1000000)
    (ih : ∀ (A : IH) (c : Nat), Well A w kk c → c + TT k ≤ 1000000 → Drew k w kk c A (callI prg (m + 1) 17 [.ref w, .int (k : Int)] A)) :
    ∃ B d acc, evE prg (callI prg (m + 1)) lc17 [some (.ref w), some (.int ((k + 1 : Nat) : Int)), x2, x3, x4, x5] A = .ok (.ref d) B ∧ B[d]? = some (.lst acc) ∧ acc.length ≤ 4 ∧ (∀ v ∈ acc, Thg k v) ∧ Well B w kk (c + 1 + 5 * TT k) ∧ Gw w A B := by
  obtain ⟨A1, r, c1, p1, q1, w1, s1⟩ := f14 m h (by omega) (m_lit (m := 5) (by decide) (by decide))
  have c1 : callI prg (m + 1) 14 [.ref w, .int 5] A = .ok (.int r) A1 := c1
  have q1 : r < 5 := q1
  obtain ⟨R, rfl⟩ : ∃ R : Nat, r = R := ⟨r.toNat, (Int.toNat_of_nonneg p1).symm⟩
  have hR : R ≤ 4 := by omega
  have hsub : ((k + 1 : Nat) : Int) - 1 = (k : Int) := by omega
  obtain ⟨n1, n2⟩ := w1.ne_new
  obtain ⟨acc, B, e, ⟨i1, i2, i3, i4⟩, e2⟩ := lc_inv0 (q := .fix ((List.range R).map fun (i : Nat) => IV.int (i : Int))) (N := R) (A := A1)
    (f := fun x A => oG (stG A (.nm 3) x (wipeF [some (.ref w), some (.int ((k + 1 : Nat) : Int)), x2, x3, x4, x5] [3])) fun ρ' => (evT prg (callI prg (m + 1)) .no ρ' A).bind fun b A => if b = true then (evE prg (callI prg (m + 1)) (.call 17 (.cons (.var 0) (.cons (.bin .sub (.var 1) (.int 1)) .nil)) [] [0, 1]) ρ' A).bind fun y A => .ok (some y) A else .ok none A)
    (fun i acc B => acc.length = i ∧ (∀ v ∈ acc, Thg k v) ∧ Well B w kk (c + 1 + i * TT k) ∧ Gw w A1 B) (Nat.le_trans hR (by decide))
    (fun i acc B hi ⟨j1, j2, j3, j4⟩ hd => by
      have hit : (Sq.fix ((List.range R).map fun (i : Nat) => IV.int (i : Int))).item i B = some (some (.int i)) := by
        rw [item_fix, List.getElem?_map, List.getElem?_range (by omega)]
        rfl
      have hm1 : i * TT k + TT k ≤ 5 * TT k := by
        have := Nat.mul_le_mul_right (TT k) (show i + 1 ≤ 5 by omega)
        rw [Nat.add_mul, Nat.one_mul] at this
        exact this
      obtain ⟨B', v, ec, tv, wv, sv⟩ := ih B _ j3 (by omega)
      refine ⟨_, hit, some v, B', ?_, sv.get _ _ n1 hd, by simp [j1], fun u hu => ?_, ?_, ?_⟩
      · simp only [stG_nm, wipeF, List.length_cons, List.length_nil, List.length_set, Nat.reduceAdd, Nat.reduceLT, if_true, oG_some, List.set_cons_succ, List.set_cons_zero, t_no, bind_ok, e_call, es_cons, es_nil, e_var, e_bin, e_int, List.getElem?_cons_zero, List.getElem?_cons_succ, gV_some, sub_int, hsub, List.append_nil, permute_two, ec]
      · rcases List.mem_append.mp hu with e | e
        · exact j2 u e
        · rw [show u = v from List.mem_singleton.mp e]; exact tv
      · have := wv.set n1 n2 (.lst (acc ++ (some v).toList))
        rw [show c + 1 + (i + 1) * TT k = c + 1 + i * TT k + TT k by rw [Nat.add_mul]; omega]
        exact this
      · exact (j4.trans sv).set (Nat.le_refl _) _)
    (fun acc B _ => by
      rw [item_fix, List.getElem?_eq_none]
      simp)
    ⟨rfl, fun v hv => (nomatch hv), (w1.gr (Gr.new _ _)).mono (by omega), (Gr.new A1 _).gw w⟩
  refine ⟨B, A1.length, acc, ?_, e2, by omega, i2, i3.mono ?_, s1.trans i4⟩
  · refine Eq.trans ?_ e
    have hq : evQ prg (callI prg (m + 1)) (.rng (.call 14 (.cons (.var 0) (.cons (.int 5) .nil)) [] [0, 1])) [some (.ref w), some (.int ((k + 1 : Nat) : Int)), x2, x3, x4, x5] A = .ok (.fix ((List.range R).map fun (i : Nat) => IV.int (i : Int))) A1 := by
      refine rng_ok ?_ (by omega)
      simp only [e_call, es_cons, es_nil, e_var, e_int, List.getElem?_cons_zero, gV_some, bind_ok, List.append_nil, permute_two, c1]
    rw [lc17, e_lc, hq, bind_ok]
  · have := Nat.mul_le_mul_right (TT k) (show R ≤ 5 by omega)
    omega
/-- _law_thing -/
theorem f17 : ∀ (k : Nat) (n : Nat) (A : IH) (w kk c : Nat), Well A w kk c → c + TT k ≤ 1000000 → Drew k w kk c A (callI prg (n + k + 2) 17 [.ref w, .int (k : Int)] A)
  | 0, n, A, w, kk, c, h, hb => by
    rw [show n + 0 + 2 = (n + 1) + 1 by omega, call_eq (d := ⟨2, 6, b17⟩) rfl rfl, b17_eq]
    have hb : c + 5 ≤ 1000000 := hb
    obtain ⟨A1, r, c1, p1, q1, w1, s1⟩ := f14 n h (by omega) (m_lit (m := 10) (by decide) (by decide))
    have c1 : callI prg (n + 1) 14 [.ref w, .int 10] A = .ok (.int r) A1 := c1
    obtain ⟨A2, v, e, a, w2, s2⟩ := atoms_ok n (i2 := r) (k := ((0 : Nat) : Int)) (x3 := none) (x4 := none) (x5 := none) w1 (by omega)
    refine ⟨A2, v, ?_, a, w2.mono (show _ ≤ c + 5 by omega), s1.trans s2⟩
    rw [← e]
    cases hr : decide (r < 5) with
    | true => simp only [onB_bl, bind_ok, bind_ex, bind_ite, onS_bl, on_ok, on_ex, on_ite, next_nx, next_rt, next_ct, next_ex, next_ite, e_non, e_bl, e_int, e_str, gV_some, e_var, optR_some, e_gco, e_tup, e_lst, e_bin, negI_int, e_neg, e_cmp, e_chain, notI_bl, e_not, e_and, e_or, e_ite, e_ix, e_sl, e_call, e_bi, e_me, optB_some, e_isi, attI_exc, e_att, oG_some, gD_some, e_gin, e_gix, e_gget, o_no, oI_int, o_some, t_no, tI_bl, t_some, es_nil, es_cons, qI_tup, qI_str, qI_ref, q_val, rI_int, q_rng, enI_ref, q_enum, oS_some, s_asg', s_par', s_setix', s_expr', s_ret', s_ite', s_for', s_cont', s_raise', ss_nil', ss_cons', stG_nm, stG_tp, stGs_nil, stGs_cons, fin_rt, fin_nx, fin_ex, fin_ite, List.getElem?_cons_zero, List.getElem?_cons_succ, List.set_cons_zero, List.set_cons_succ, List.length_cons, List.length_nil, List.length_set, List.replicate, if_true, if_false, Bool.not_true, Bool.not_false, Bool.false_eq_true, Bool.and_true, Bool.true_and, Bool.and_false, Bool.false_and, Bool.or_true, Bool.true_or, Bool.or_false, Bool.false_or, decide_true, decide_false, Option.bind_some, Option.isSome_some, List.nil_append, List.cons_append, List.append_nil, startF_one, startF_two, permute_one, permute_two, le_int, lt_int, gt_int, ge_int, add_int, sub_int, not_true_eq_false, not_false_eq_true, and_self, and_true, true_and, or_true, true_or, ite_self, c1, Nat.reduceAdd, Nat.reduceLT, hr, show decide ((0 : Int) < ((0 : Nat) : Int)) = false from rfl]
    | false => simp only [onB_bl, bind_ok, bind_ex, bind_ite, onS_bl, on_ok, on_ex, on_ite, next_nx, next_rt, next_ct, next_ex, next_ite, e_non, e_bl, e_int, e_str, gV_some, e_var, optR_some, e_gco, e_tup, e_lst, e_bin, negI_int, e_neg, e_cmp, e_chain, notI_bl, e_not, e_and, e_or, e_ite, e_ix, e_sl, e_call, e_bi, e_me, optB_some, e_isi, attI_exc, e_att, oG_some, gD_some, e_gin, e_gix, e_gget, o_no, oI_int, o_some, t_no, tI_bl, t_some, es_nil, es_cons, qI_tup, qI_str, qI_ref, q_val, rI_int, q_rng, enI_ref, q_enum, oS_some, s_asg', s_par', s_setix', s_expr', s_ret', s_ite', s_for', s_cont', s_raise', ss_nil', ss_cons', stG_nm, stG_tp, stGs_nil, stGs_cons, fin_rt, fin_nx, fin_ex, fin_ite, List.getElem?_cons_zero, List.getElem?_cons_succ, List.set_cons_zero, List.set_cons_succ, List.length_cons, List.length_nil, List.length_set, List.replicate, if_true, if_false, Bool.not_true, Bool.not_false, Bool.false_eq_true, Bool.and_true, Bool.true_and, Bool.and_false, Bool.false_and, Bool.or_true, Bool.true_or, Bool.or_false, Bool.false_or, decide_true, decide_false, Option.bind_some, Option.isSome_some, List.nil_append, List.cons_append, List.append_nil, startF_one, startF_two, permute_one, permute_two, le_int, lt_int, gt_int, ge_int, add_int, sub_int, not_true_eq_false, not_false_eq_true, and_self, and_true, true_and, or_true, true_or, ite_self, c1, Nat.reduceAdd, Nat.reduceLT, hr]
  | k + 1, n, A, w, kk, c, h, hb => by
    have hb : c + (5 + 5 * TT k) ≤ 1000000 := hb
    rw [show n + (k + 1) + 2 = (n + k + 1 + 1) + 1 by omega, call_eq (d := ⟨2, 6, b17⟩) rfl rfl, b17_eq]
    obtain ⟨A1, r, c1, p1, q1, w1, s1⟩ := f14 (n + k + 1) h (by omega) (m_lit (m := 10) (by decide) (by decide))
    have c1 : callI prg (n + k + 1 + 1) 14 [.ref w, .int 10] A = .ok (.int r) A1 := c1
    have hk : decide ((0 : Int) < ((k + 1 : Nat) : Int)) = true := decide_eq_true (by omega)
    cases hr : decide (r < 5) with
    | true =>
      obtain ⟨B, d, acc, e, eb, l, t, w2, s2⟩ := lc17_ok (k := k) (n + k + 1) (x2 := some (.int r)) (x3 := none) (x4 := none) (x5 := none) w1 (by omega) (fun A c h1 h2 => f17 k n A w kk c h1 h2)
      refine ⟨B, .tup acc, ?_, .inr ⟨acc, rfl, l, t⟩, w2.mono (show _ ≤ c + (5 + 5 * TT k) by omega), s1.trans s2⟩
      simp only [onB_bl, bind_ok, bind_ex, bind_ite, onS_bl, on_ok, on_ex, on_ite, next_nx, next_rt, next_ct, next_ex, next_ite, e_non, e_bl, e_int, e_str, gV_some, e_var, optR_some, e_gco, e_tup, e_lst, e_bin, negI_int, e_neg, e_cmp, e_chain, notI_bl, e_not, e_and, e_or, e_ite, e_ix, e_sl, e_call, e_bi, e_me, optB_some, e_isi, attI_exc, e_att, oG_some, gD_some, e_gin, e_gix, e_gget, o_no, oI_int, o_some, t_no, tI_bl, t_some, es_nil, es_cons, qI_tup, qI_str, qI_ref, q_val, rI_int, q_rng, enI_ref, q_enum, oS_some, s_asg', s_par', s_setix', s_expr', s_ret', s_ite', s_for', s_cont', s_raise', ss_nil', ss_cons', stG_nm, stG_tp, stGs_nil, stGs_cons, fin_rt, fin_nx, fin_ex, fin_ite, List.getElem?_cons_zero, List.getElem?_cons_succ, List.set_cons_zero, List.set_cons_succ, List.length_cons, List.length_nil, List.length_set, List.replicate, if_true, if_false, Bool.not_true, Bool.not_false, Bool.false_eq_true, Bool.and_true, Bool.true_and, Bool.and_false, Bool.false_and, Bool.or_true, Bool.true_or, Bool.or_false, Bool.false_or, decide_true, decide_false, Option.bind_some, Option.isSome_some, List.nil_append, List.cons_append, List.append_nil, startF_one, startF_two, permute_one, permute_two, le_int, lt_int, gt_int, ge_int, add_int, sub_int, not_true_eq_false, not_false_eq_true, and_self, and_true, true_and, or_true, true_or, ite_self, c1, Nat.reduceAdd, Nat.reduceLT, hr, hk, e, tup_lst eb]
    | false =>
      obtain ⟨A2, v, e, a, w2, s2⟩ := atoms_ok (n + k + 1) (i2 := r) (k := ((k + 1 : Nat) : Int)) (x3 := none) (x4 := none) (x5 := none) w1 (by omega)
      refine ⟨A2, v, ?_, Thg.atom a, w2.mono (show _ ≤ c + (5 + 5 * TT k) by omega), s1.trans s2⟩
      rw [← e]
      simp only [onB_bl, bind_ok, bind_ex, bind_ite, onS_bl, on_ok, on_ex, on_ite, next_nx, next_rt, next_ct, next_ex, next_ite, e_non, e_bl, e_int, e_str, gV_some, e_var, optR_some, e_gco, e_tup, e_lst, e_bin, negI_int, e_neg, e_cmp, e_chain, notI_bl, e_not, e_and, e_or, e_ite, e_ix, e_sl, e_call, e_bi, e_me, optB_some, e_isi, attI_exc, e_att, oG_some, gD_some, e_gin, e_gix, e_gget, o_no, oI_int, o_some, t_no, tI_bl, t_some, es_nil, es_cons, qI_tup, qI_str, qI_ref, q_val, rI_int, q_rng, enI_ref, q_enum, oS_some, s_asg', s_par', s_setix', s_expr', s_ret', s_ite', s_for', s_cont', s_raise', ss_nil', ss_cons', stG_nm, stG_tp, stGs_nil, stGs_cons, fin_rt, fin_nx, fin_ex, fin_ite, List.getElem?_cons_zero, List.getElem?_cons_succ, List.set_cons_zero, List.set_cons_succ, List.length_cons, List.length_nil, List.length_set, List.replicate, if_true, if_false, Bool.not_true, Bool.not_false, Bool.false_eq_true, Bool.and_true, Bool.true_and, Bool.and_false, Bool.false_and, Bool.or_true, Bool.true_or, Bool.or_false, Bool.false_or, decide_true, decide_false, Option.bind_some, Option.isSome_some, List.nil_append, List.cons_append, List.append_nil, startF_one, startF_two, permute_one, permute_two, le_int, lt_int, gt_int, ge_int, add_int, sub_int, not_true_eq_false, not_false_eq_true, and_self, and_true, true_and, or_true, true_or, ite_self, c1, Nat.reduceAdd, Nat.reduceLT, hr]
end LF.Pl
set_option Elab.async false
set_option linter.all false
set_option maxHeartbeats 8000000
set_option maxRecDepth 100000
/-! Rows of words: cut, joined. -/
namespace LF.Pl
open PySem
/-- a text: plain, so long at most, so many opened at most -/
structure TxB (L c : Nat) (x : Str) : Prop where
  asc : Asc x
  len : x.length ≤ L
  op : (TL.tl x).count 40 ≤ c
theorem TxB.mono {L c M d : Nat} {x : Str} (h : TxB L c x) (hL : L ≤ M) (hc : c ≤ d) : TxB M d x := ⟨h.asc, Nat.le_trans h.len hL, Nat.le_trans h.op hc⟩
theorem TxB.app {L c M d : Nat} {x y : Str} (h : TxB L c x) (k : TxB M d y) : TxB (L + M) (c + d) (x ++ y) :=
  ⟨asc_app h.asc k.asc, by rw [len_app]; exact Nat.add_le_add h.len k.len, by rw [TL.tl_append, List.count_append]; exact Nat.add_le_add h.op k.op⟩
theorem joinL_bd {s : Nat} (hs : s ≠ 40) : ∀ ps : List (List Nat), (TL.joinL [s] ps).length ≤ (ps.map fun p => p.length + 1).sum - 1 ∧ (TL.joinL [s] ps).count 40 ≤ (ps.map fun p => p.count 40).sum
  | [] => by
    show ([] : List Nat).length ≤ _ ∧ ([] : List Nat).count 40 ≤ _
    simp
  | [p] => by
    show p.length ≤ _ ∧ p.count 40 ≤ _
    simp
  | p :: q :: r => by
    obtain ⟨a, b⟩ := joinL_bd hs (q :: r)
    show (p ++ ([s] ++ TL.joinL [s] (q :: r))).length ≤ _ ∧ (p ++ ([s] ++ TL.joinL [s] (q :: r))).count 40 ≤ _
    have e : ([s] : List Nat).count 40 = 0 := by rw [List.count_cons, List.count_nil, if_neg (by simpa using hs)]
    have e1 : ((p :: q :: r).map fun p => p.length + 1).sum = (p.length + 1) + ((q :: r).map fun p => p.length + 1).sum := by rw [List.map_cons, List.sum_cons]
    have e2 : ((p :: q :: r).map fun p => p.count 40).sum = p.count 40 + ((q :: r).map fun p => p.count 40).sum := by rw [List.map_cons, List.sum_cons]
    rw [e1, e2, List.length_append, List.length_append, List.count_append, List.count_append, e]
    have : 1 ≤ (List.map (fun p => p.length + 1) (q :: r)).sum := by rw [List.map_cons, List.sum_cons]; omega
    simp only [List.length_cons, List.length_nil]
    exact ⟨by omega, by omega⟩
theorem join_bd {y : Str} {ws : List Str} {s S c : Nat} (hy : TL.tl y = [s]) (hs : s ≠ 40) (hs2 : s < 128) (h : Wd S c ws) : TxB (S - 1) c (Txt.join y ws) := by
  have e : TL.tl (Txt.join y ws) = TL.joinL [s] (ws.map TL.tl) := by rw [TL.join_eq, TL.tl_join, hy]
  obtain ⟨a, b⟩ := joinL_bd hs (ws.map TL.tl)
  refine ⟨?_, ?_, ?_⟩
  · rw [TL.join_eq]
    exact asc_join (fun d hd => by rw [hy] at hd; rw [List.mem_singleton.mp hd]; exact hs2) h.asc
  · rw [TL.len_tl, e]
    refine Nat.le_trans a ?_
    rw [List.map_map]
    have := h.sz
    unfold szW at this
    exact Nat.sub_le_sub_right this 1
  · rw [e]
    refine Nat.le_trans b ?_
    rw [List.map_map]
    exact h.op
theorem strsOf_map : ∀ ws : List Str, strsOf (ws.map .str) = some ws
  | [] => rfl
  | w :: ws => by rw [List.map_cons, strsOf, strsOf_map ws]; rfl
theorem recv_join (x : Str) (A : IH) : recvI .join (.str x) A = true := rfl
theorem szW_eq (ws : List Str) : szW ws = (ws.map fun w : Str => w.length).sum + ws.length := by
  induction ws with
  | nil => rfl
  | cons w r ih =>
    unfold szW at ih ⊢
    rw [List.map_cons, List.sum_cons, List.map_cons, List.sum_cons, List.length_cons, ih]
    omega
theorem me_join {A : IH} {m : Nat} {ws : List Str} {y : Str} (h : A[m]? = some (.lst (ws.map .str))) (hy : y.length = 1) (hl : szW ws ≤ LIM) : meI .join (.str y) [.ref m] A = .ok (.str (Txt.join y ws)) A := by
  show (match (listOf A m).bind strsOf with
    | some ys => if (ys.map fun w : Str => w.length).sum + ys.length * y.length ≤ LIM then Rs.ok (IV.str (Txt.join y ys)) A else .bad
    | none => .bad) = _
  rw [listOf_lst h, Option.bind_some, strsOf_map]
  dsimp only
  rw [if_pos]
  rw [hy, Nat.mul_one, ← szW_eq]
  exact hl
theorem sl_ref {A : IH} {m : Nat} {xs : List IV} (lo hi : Option Int) (h : A[m]? = some (.lst xs)) : slI (.ref m) lo hi A = .ok (.ref A.length) (A ++ [.lst (cutL xs lo hi)]) := by
  show (match listOf A m with
    | some xs => Rs.ok (IV.ref A.length) (A ++ [IO.lst (cutL xs lo hi)])
    | none => .bad) = _
  rw [listOf_lst h]
theorem cut_map {α β : Type} (f : α → β) (xs : List α) (lo hi : Option Int) : cutL (xs.map f) lo hi = (cutL xs lo hi).map f := by
  unfold cutL
  rw [List.length_map, List.map_take, List.map_drop]
theorem cut_take {α : Type} (xs : List α) (k : Nat) : cutL xs none (some (k : Int)) = xs.take k := by
  unfold cutL
  rw [HT.sIx_none, HT.sIx_nat, List.drop_zero, Nat.sub_zero, ← List.take_eq_take_min]
theorem cut_drop {α : Type} (xs : List α) (k : Nat) : cutL xs (some (k : Int)) none = xs.drop k := by
  unfold cutL
  rw [HT.sIx_none, HT.sIx_nat]
  rw [List.take_of_length_le (by rw [List.length_drop]; exact Nat.le_refl _)]
  by_cases h : k ≤ xs.length
  · rw [Nat.min_eq_left h]
  · rw [Nat.min_eq_right (by omega), List.drop_length, List.drop_of_length_le (by omega)]
theorem szW_td (ws : List Str) (k : Nat) : szW (ws.take k) + szW (ws.drop k) = szW ws := by rw [← szW_app, List.take_append_drop]
theorem opW_td (ws : List Str) (k : Nat) : opW (ws.take k) + opW (ws.drop k) = opW ws := by rw [← opW_app, List.take_append_drop]
theorem drop_one (ws : List Str) (k : Nat) : szW (ws.drop (k + 1)) ≤ szW (ws.drop k) ∧ opW (ws.drop (k + 1)) ≤ opW (ws.drop k) := by
  have a := szW_td (ws.drop k) 1
  have b := opW_td (ws.drop k) 1
  rw [List.drop_drop] at a b
  exact ⟨by omega, by omega⟩
theorem wd_sub {S c : Nat} {ws : List Str} (h : Wd S c ws) (i j : Nat) : Wd (2 * S) (2 * c) (ws.take i ++ ws.drop j) := by
  have a := szW_td ws i
  have b := szW_td ws j
  have p := opW_td ws i
  have q := opW_td ws j
  have h1 := h.sz
  have h2 := h.op
  refine ⟨fun w hw => ?_, by rw [szW_app]; omega, by rw [opW_app]; omega⟩
  rcases List.mem_append.mp hw with e | e
  · exact h.asc w (List.mem_of_mem_take e)
  · exact h.asc w (List.mem_of_mem_drop e)
theorem wd_put {S c T d : Nat} {ws us : List Str} (h : Wd S c ws) (k : Wd T d us) (i : Nat) : Wd (S + T) (c + d) (ws.take i ++ us ++ ws.drop (i + 1)) := by
  have a := szW_td ws i
  have b := opW_td ws i
  obtain ⟨p, q⟩ := drop_one ws i
  have h1 := h.sz
  have h2 := h.op
  have k1 := k.sz
  have k2 := k.op
  refine ⟨fun w hw => ?_, by rw [szW_app, szW_app]; omega, by rw [opW_app, opW_app]; omega⟩
  rcases List.mem_append.mp hw with e | e
  · rcases List.mem_append.mp e with e | e
    · exact h.asc w (List.mem_of_mem_take e)
    · exact k.asc w e
  · exact h.asc w (List.mem_of_mem_drop e)
/-- the words of a text -/
theorem split_wd {L c : Nat} {x : Str} (h : TxB L c x) : Wd (L + 1) c (Txt.split x " ") := by
  refine ⟨split_asc tSp (by decide) h.asc, ?_, ?_⟩
  · rw [split_size tSp (by decide)]
    have := h.len
    omega
  · rw [split_opens tSp (by decide) (by decide)]
    exact h.op
/-- the parts of a text -/
theorem cutS_bd {L c : Nat} {x : Str} (h : TxB L c x) (lo hi : Option Int) : TxB L c (L2.cutS x lo hi) := by
  have e : TL.tl (L2.cutS x lo hi) = ((TL.tl x).drop (HT.sIx x.length 0 lo)).take (HT.sIx x.length x.length hi - HT.sIx x.length 0 lo) := rfl
  have sb : (TL.tl (L2.cutS x lo hi)).Sublist (TL.tl x) := by
    rw [e]
    exact (List.take_sublist _ _).trans (List.drop_sublist _ _)
  exact ⟨fun d hd => h.asc d (sb.subset hd), Nat.le_trans (L2.cutS_length x lo hi) h.len, Nat.le_trans (sb.count_le 40) h.op⟩
theorem sl_str {x : Str} (lo hi : Option Int) (A : IH) (hl : x.length ≤ LIM) : slI (.str x) lo hi A = .ok (.str (L2.cutS x lo hi)) A := if_pos hl
theorem sp_one : ((" " : Str)).length = 1 ∧ (("\n" : Str)).length = 1 := by decide +kernel
/-- words taken, words left, joined -/
theorem cut_join (C : Cal) {ρ : Fr} {A : IH} {m i j : Nat} {ws : List Str} {e1 e2 : CE} (hρ : ρ[2]? = some (some (.ref m))) (h : A[m]? = some (.lst (ws.map .str))) (h1 : ∀ B, evE prg C e1 ρ B = .ok (.int (i : Int)) B) (h2 : ∀ B, evE prg C e2 ρ B = .ok (.int (j : Int)) B) (hl : szW ws ≤ 400000) :
    ∃ A', Gr A A' ∧ evE prg C (.me .join (.str " ") (.cons (.bin .add (.sl (.var 2) .no (.some e1)) (.sl (.var 2) (.some e2) .no)) .nil)) ρ A = .ok (.str (Txt.join " " (ws.take i ++ ws.drop j))) A' := by
  have a := szW_td ws i
  have b := szW_td ws j
  have l1 := szW_len (ws.take i)
  have l2 := szW_len (ws.drop j)
  obtain ⟨A1, hA1⟩ : ∃ B, B = A ++ [IO.lst ((ws.take i).map IV.str)] := ⟨_, rfl⟩
  obtain ⟨A2, hA2⟩ : ∃ B, B = A1 ++ [IO.lst ((ws.drop j).map IV.str)] := ⟨_, rfl⟩
  obtain ⟨A3, hA3⟩ : ∃ B, B = A2 ++ [IO.lst ((ws.take i).map IV.str ++ (ws.drop j).map IV.str)] := ⟨_, rfl⟩
  have g1 : Gr A A1 := by rw [hA1]; exact Gr.new _ _
  have g2 : Gr A1 A2 := by rw [hA2]; exact Gr.new _ _
  have g3 : Gr A2 A3 := by rw [hA3]; exact Gr.new _ _
  have s1 : slI (.ref m) none (some (i : Int)) A = .ok (.ref A.length) A1 := by rw [sl_ref _ _ h, cut_map, cut_take, hA1]
  have s2 : slI (.ref m) (some (j : Int)) none A1 = .ok (.ref A1.length) A2 := by rw [sl_ref _ _ (g1.get h), cut_map, cut_drop, hA2]
  have t1 : A1[A.length]? = some (.lst ((ws.take i).map .str)) := by rw [hA1]; exact at_new _ _
  have t2 : A2[A1.length]? = some (.lst ((ws.drop j).map .str)) := by rw [hA2]; exact at_new _ _
  have ad : binI .add (.ref A.length) (.ref A1.length) A2 = .ok (.ref A2.length) A3 := by
    rw [add_lst (g2.get t1) t2 (by rw [List.length_map, List.length_map]; show _ ≤ 10000000; omega), hA3]
  have t3 : A3[A2.length]? = some (.lst ((ws.take i ++ ws.drop j).map .str)) := by rw [hA3, List.map_append]; exact at_new _ _
  have mj := me_join (y := " ") t3 sp_one.1 (by rw [szW_app]; show _ ≤ 10000000; omega)
  refine ⟨A3, (g1.trans g2).trans g3, ?_⟩
  simp only [e_me, e_str, bind_ok, recv_join, if_true, es_cons, es_nil, e_bin, e_sl, e_var, hρ, gV_some, o_no, o_some, h1, h2, oI_int, s1, s2, ad, mj]
end LF.Pl
set_option Elab.async false
set_option linter.all false
set_option maxHeartbeats 8000000
set_option maxRecDepth 100000
/-! _law_spoilt. -/
namespace LF.Pl
open PySem
def sp0 : CE := .me .join (.str " ") (.cons (.bin .add (.sl (.var 2) .no (.some (.var 4))) (.sl (.var 2) (.some (.bin .add (.var 4) (.int 1))) .no)) .nil)
def sp1 : CE := .me .join (.str " ") (.cons (.bin .add (.sl (.var 2) .no (.some (.bin .add (.var 4) (.int 1)))) (.sl (.var 2) (.some (.var 4)) .no)) .nil)
def sp2 : CE := .me .join (.str " ") (.cons (.bin .add (.bin .add (.sl (.var 2) .no (.some (.var 4))) (.lst (.cons (.ix (.var 5) (.call 14 (.cons (.var 0) (.cons (.int 15) .nil)) [] [0, 1])) .nil))) (.sl (.var 2) (.some (.bin .add (.var 4) (.int 1))) .no)) .nil)
def oddE : CEs := (.cons (.str "(") (.cons (.str ")") (.cons (.str "-") (.cons (.str "") (.cons (.str "-0") (.cons (.str "-1") (.cons (.str "00") (.cons (.str "+1") (.cons (.str "@1") (.cons (.str "@0.1") (.cons (.str "@0.01") (.cons (.str "@-1.0") (.cons (.str "A") (.cons (.str "abcdefghi") .nil))))))))))))))
def oddW : List Str := ["(", ")", "-", "", "-0", "-1", "00", "+1", "@1", "@0.1", "@0.01", "@-1.0", "A", "abcdefghi"]
def oddA : List Str := oddW ++ (["1234567890123"] : List Str)
def tail2 : CSs := (.cons (.asg (.nm 5) (.lst oddE)) (.cons (.expr (.me .append (.var 5) (.cons (.str "1234567890123") .nil))) (.cons (.ret sp2) .nil)))
def signE : CE := .ix (.str " ()-+/@.019azA") (.call 14 (.cons (.var 0) (.cons (.int 14) .nil)) [] [0, 1])
def lastE : CE := .bin .add (.sl (.var 1) .no (.some (.var 6))) (.ix (.lst (.cons (.bin .add (.var 7) (.sl (.var 1) (.some (.var 6)) .no)) (.cons (.bin .add (.var 7) (.sl (.var 1) (.some (.bin .add (.var 6) (.int 1))) .no)) (.cons (.sl (.var 1) (.some (.bin .add (.var 6) (.int 1))) .no) .nil)))) (.bin .sub (.var 3) (.int 3)))
def tail3 : CSs := (.cons (.asg (.nm 6) (.call 14 (.cons (.var 0) (.cons (.bin .add (.bi .len (.cons (.var 1) .nil)) (.int 1)) .nil)) [] [0, 1]))
    (.cons (.asg (.nm 7) signE)
    (.cons (.ret lastE) .nil)))
theorem b25_eq : b25 = (.cons (.asg (.nm 2) (.me .split (.var 1) (.cons (.str " ") .nil)))
    (.cons (.par 3 4 (.call 14 (.cons (.var 0) (.cons (.int 6) .nil)) [] [0, 1]) (.call 14 (.cons (.var 0) (.cons (.bi .len (.cons (.var 2) .nil)) .nil)) [] [0, 1]))
    (.cons (.ite (.cmp .eq (.var 3) (.int 0)) (.cons (.ret sp0) .nil) .nil)
    (.cons (.ite (.cmp .eq (.var 3) (.int 1)) (.cons (.ret sp1) .nil) .nil)
    (.cons (.ite (.cmp .eq (.var 3) (.int 2)) tail2 .nil) tail3))))) := rfl
/-- what spoiling gives -/
def Spoilt (L cc w kk c : Nat) (A : IH) (r : Rs IV) : Prop := ∃ A' y, r = .ok (.str y) A' ∧ TxB (max (2 * L + 1) (L + 14)) (2 * cc + 1) y ∧ Well A' w kk c ∧ Gw w A A'
theorem oddE_eq (P : Prg) (C : Cal) (ρ : Fr) (A : IH) : evE P C (.lst oddE) ρ A = .ok (.ref A.length) (A ++ [.lst (oddW.map .str)]) := by
  have l : (0 + 1 + 1 + 1 + 1 + 1 + 1 + 1 + 1 + 1 + 1 + 1 + 1 + 1 + 1 ≤ LIM) = True := eq_true (by decide)
  simp only [oddE, e_lst, es_cons, es_nil, e_str, bind_ok, List.length_cons, List.length_nil, l, if_true, newL_eq]
  rfl
theorem oddA_ok : ∀ w ∈ oddA, (TL.tl w).all (fun c => decide (c < 128)) = true ∧ w.length ≤ 13 ∧ (TL.tl w).count 40 ≤ 1 := by decide +kernel
theorem odd_wd {w : Str} (h : w ∈ oddA) : Wd 14 1 [w] := by
  obtain ⟨a, b, c⟩ := oddA_ok w h
  exact (Wd.one (asc_lit a) c).mono (by omega) (Nat.le_refl _)
/-- a word put in another one's place -/
theorem two_ok (n : Nat) {A : IH} {w kk c L cc m i : Nat} {ws : List Str} {x1 : IV} {x3 x5 x6 x7 : Option IV} (h : Well A w kk c) (hb : c + 1 ≤ 1000000) (hm : A[m]? = some (.lst (ws.map .str))) (hmw : m ≠ w) (wd : Wd (L + 1) cc ws) (hL : L ≤ 100000) :
    Spoilt L cc w kk (c + 1) A (fin (evSs prg (callI prg (n + 1)) tail2 [some (.ref w), some x1, some (.ref m), x3, some (.int (i : Int)), x5, x6, x7] A)) := by
  obtain ⟨A1, hA1⟩ : ∃ B, B = A ++ [IO.lst (oddW.map IV.str)] := ⟨_, rfl⟩
  have g1 : Gr A A1 := by rw [hA1]; exact Gr.new _ _
  have t1 : evE prg (callI prg (n + 1)) (.lst oddE) [some (.ref w), some x1, some (.ref m), x3, some (.int (i : Int)), x5, x6, x7] A = .ok (.ref A.length) A1 := by rw [oddE_eq, hA1]
  have a1 : A1[A.length]? = some (.lst (oddW.map .str)) := by rw [hA1]; exact at_new _ _
  obtain ⟨A2, hA2⟩ : ∃ B, B = A1.set A.length (.lst (oddW.map IV.str ++ [.str "1234567890123"])) := ⟨_, rfl⟩
  have ap : meI .append (.ref A.length) [.str "1234567890123"] A1 = .ok .non A2 := by
    rw [app_lst _ a1 (by rw [List.length_map]; decide), hA2]
  have a2 : A2[A.length]? = some (.lst (oddA.map .str)) := by rw [hA2]; exact get_set_eq a1
  obtain ⟨nw, nk⟩ := h.ne_new
  have g2 : Gw w A A2 := by rw [hA2]; exact (g1.gw w).set (Nat.le_refl _) _
  have w2 : Well A2 w kk c := by rw [hA2]; exact (h.gr g1).set nw nk _
  have m2 : A2[m]? = some (.lst (ws.map .str)) := g2.get _ _ hmw hm
  have hlm := get_lt hm
  -- take
  obtain ⟨A3, hA3⟩ : ∃ B, B = A2 ++ [IO.lst ((ws.take i).map IV.str)] := ⟨_, rfl⟩
  have g3 : Gr A2 A3 := by rw [hA3]; exact Gr.new _ _
  have s3 : slI (.ref m) none (some (i : Int)) A2 = .ok (.ref A2.length) A3 := by rw [sl_ref _ _ m2, cut_map, cut_take, hA3]
  have a3 : A3[A2.length]? = some (.lst ((ws.take i).map .str)) := by rw [hA3]; exact at_new _ _
  -- the odd one
  obtain ⟨A4, r, c4, p4, q4, w4, s4⟩ := f14 n (w2.gr g3) (by omega) (m_lit (m := 15) (by decide) (by decide))
  have c4 : callI prg (n + 1) 14 [.ref w, .int 15] A3 = .ok (.int r) A4 := c4
  have o4 : A4[A.length]? = some (.lst (oddA.map .str)) := s4.get _ _ nw (g3.get a2)
  obtain ⟨v, hv, x4⟩ := ix_mem o4 p4 (by exact q4)
  obtain ⟨od, hod, rfl⟩ := List.mem_map.mp hv
  have n2 : A2.length ≠ w := by have := w2.lt; omega
  have a4 : A4[A2.length]? = some (.lst ((ws.take i).map .str)) := s4.get _ _ n2 a3
  have m4 : A4[m]? = some (.lst (ws.map .str)) := s4.get _ _ hmw (g3.get m2)
  obtain ⟨A5, hA5⟩ : ∃ B, B = A4 ++ [IO.lst [IV.str od]] := ⟨_, rfl⟩
  have g5 : Gr A4 A5 := by rw [hA5]; exact Gr.new _ _
  have a5 : A5[A4.length]? = some (.lst [.str od]) := by rw [hA5]; exact at_new _ _
  have z1 := szW_td ws i
  have z2 := szW_len (ws.take i)
  have z3 := szW_len (ws.drop (i + 1))
  have z4 := drop_one ws i
  have z5 := wd.sz
  obtain ⟨A6, hA6⟩ : ∃ B, B = A5 ++ [IO.lst ((ws.take i).map IV.str ++ [IV.str od])] := ⟨_, rfl⟩
  have g6 : Gr A5 A6 := by rw [hA6]; exact Gr.new _ _
  have ad6 : binI .add (.ref A2.length) (.ref A4.length) A5 = .ok (.ref A5.length) A6 := by
    rw [add_lst (g5.get a4) a5 (by rw [List.length_map]; show _ + 1 ≤ 10000000; omega), hA6]
  have a6 : A6[A5.length]? = some (.lst ((ws.take i).map IV.str ++ [IV.str od])) := by rw [hA6]; exact at_new _ _
  obtain ⟨A7, hA7⟩ : ∃ B, B = A6 ++ [IO.lst ((ws.drop (i + 1)).map IV.str)] := ⟨_, rfl⟩
  have g7 : Gr A6 A7 := by rw [hA7]; exact Gr.new _ _
  have hi1 : (i : Int) + 1 = ((i + 1 : Nat) : Int) := by omega
  have s7 : slI (.ref m) (some ((i + 1 : Nat) : Int)) none A6 = .ok (.ref A6.length) A7 := by rw [sl_ref _ _ (g6.get (g5.get m4)), cut_map, cut_drop, hA7]
  have a7 : A7[A6.length]? = some (.lst ((ws.drop (i + 1)).map .str)) := by rw [hA7]; exact at_new _ _
  obtain ⟨A8, hA8⟩ : ∃ B, B = A7 ++ [IO.lst ((ws.take i).map IV.str ++ [IV.str od] ++ (ws.drop (i + 1)).map IV.str)] := ⟨_, rfl⟩
  have g8 : Gr A7 A8 := by rw [hA8]; exact Gr.new _ _
  have ad8 : binI .add (.ref A5.length) (.ref A6.length) A7 = .ok (.ref A7.length) A8 := by
    rw [add_lst (g7.get a6) a7 (by rw [List.length_append, List.length_map, List.length_map]; show _ + 1 + _ ≤ 10000000; omega), hA8]
  have a8 : A8[A7.length]? = some (.lst ((ws.take i ++ [od] ++ ws.drop (i + 1)).map .str)) := by rw [hA8, List.map_append, List.map_append]; exact at_new _ _
  have W := wd_put wd (odd_wd hod) i
  have wz := W.sz
  have mj := me_join (y := " ") a8 sp_one.1 (by show _ ≤ 10000000; omega)
  have B := join_bd (y := " ") tSp (by decide) (by decide) W
  refine ⟨A8, Txt.join " " (ws.take i ++ [od] ++ ws.drop (i + 1)), ?_, B.mono (by omega) (by omega), w4.gr (((g5.trans g6).trans g7).trans g8), (g2.trans (g3.gw w)).trans (s4.trans ((((g5.trans g6).trans g7).trans g8).gw w))⟩
  simp only [tail2, ss_cons', s_asg', t1, on_ok, stG_nm, List.length_cons, List.length_nil, Nat.reduceAdd, Nat.reduceLT, if_true, oS_some, List.set_cons_zero, List.set_cons_succ, next_nx, s_expr', e_me, e_var, List.getElem?_cons_zero, List.getElem?_cons_succ, gV_some, bind_ok, (recv_list a1).1, es_cons, es_nil, e_str, ap, s_ret']
  rw [sp2, e_me]
  have hl : (oddW.map IV.str).length = 14 := rfl
  simp only [e_str, bind_ok, recv_join, if_true, es_cons, es_nil, e_bin, e_sl, e_var, List.getElem?_cons_zero, List.getElem?_cons_succ, gV_some, o_no, o_some, oI_int, s3, e_lst, e_ix, e_call, e_int, List.append_nil, permute_two, c4, x4, List.length_cons, List.length_nil, Nat.reduceAdd, show ((1 : Nat) ≤ LIM) = True from eq_true (by decide), newL_eq, ← hA5, ad6, add_int, hi1, s7, ad8, mj, on_ok, next_rt, fin_rt]
end LF.Pl
set_option Elab.async false
set_option linter.all false
set_option maxHeartbeats 8000000
set_option maxRecDepth 100000
/-! _law_spoilt, whole. -/
namespace LF.Pl
open PySem
def fourteen : Str := " ()-+/@.019azA"
theorem fourteen_ok : (TL.tl fourteen).length = 14 ∧ (TL.tl fourteen).all (fun c => decide (c < 128)) = true := by decide +kernel
theorem sign_at {i : Int} (A : IH) (h0 : 0 ≤ i) (h1 : i < 14) : ∃ y, ixI (.str fourteen) (.int i) A = .ok (.str y) A ∧ TxB 1 1 y := by
  obtain ⟨e1, e2⟩ := fourteen_ok
  have hlt : i.toNat < (TL.tl fourteen).length := by rw [e1]; omega
  have hl : fourteen.length ≤ LIM := by rw [TL.len_tl, e1]; decide
  have at_ : L2.atI fourteen.cps.toList i = some (TL.tl fourteen)[i.toNat] := by
    have h2 : i < ((TL.tl fourteen).length : Int) := by rw [e1]; exact h1
    unfold L2.atI L2.ixN
    simp only [h0, h2]
    simp [hlt]
  refine ⟨⟨#[(TL.tl fourteen)[i.toNat]]⟩, ?_, fun c hc => ?_, Nat.le_refl 1, ?_⟩
  · show (if fourteen.length ≤ LIM then optR ((L2.atI fourteen.cps.toList i).map fun c => .str ⟨#[c]⟩) A else .bad) = _
    rw [if_pos hl, at_]
    rfl
  · rw [show c = (TL.tl fourteen)[i.toNat] from List.mem_singleton.mp hc]
    exact of_decide_eq_true (List.all_eq_true.mp e2 _ (List.getElem_mem hlt))
  · show List.count 40 [_] ≤ 1
    exact List.count_le_length
theorem fin_str {r : SR} {y : Str} {A : IH} (h : fin r = .ok (.str y) A) : r = .rt (.str y) A := by
  cases r with
  | rt v B => cases h; rfl
  | nx _ _ => cases h
  | bk _ _ => cases h
  | ct _ _ => cases h
  | ex _ _ _ _ => cases h
  | bad => cases h
theorem three_ok (n : Nat) {A : IH} {w kk c L cc : Nat} {x : Str} {r3 : Int} {x2 x4 x5 x6 x7 : Option IV} (h : Well A w kk c) (hb : c + 2 ≤ 1000000) (tx : TxB L cc x) (hL : L ≤ 100000) (h0 : 3 ≤ r3) (h1 : r3 < 6) :
    Spoilt L cc w kk (c + 2) A (fin (evSs prg (callI prg (n + 1)) tail3 [some (.ref w), some (.str x), x2, some (.int r3), x4, x5, x6, x7] A)) := by
  have hl := tx.len
  have hlx : x.length ≤ LIM := by show _ ≤ 10000000; omega
  obtain ⟨A1, r6, c1, p1, q1, w1, s1⟩ := f14 n h (by omega) (mny (m := x.length + 1) (by omega) (by show _ ≤ 10000000; omega))
  have em : ((x.length : Int) + 1) = ((x.length + 1 : Nat) : Int) := by omega
  obtain ⟨A2, r7, c2, p2, q2, w2, s2⟩ := f14 n w1 (by omega) (m_lit (m := 14) (by decide) (by decide))
  have c2 : callI prg (n + 1) 14 [.ref w, .int 14] A1 = .ok (.int r7) A2 := c2
  obtain ⟨y, hy, ty⟩ := sign_at A2 p2 q2
  have hy : ixI (.str " ()-+/@.019azA") (.int r7) A2 = .ok (.str y) A2 := hy
  have ta := cutS_bd tx none (some r6)
  have tb := cutS_bd tx (some r6) none
  have tc := cutS_bd tx (some (r6 + 1)) none
  have sa := fun A => sl_str (x := x) none (some r6) A hlx
  have sb := fun A => sl_str (x := x) (some r6) none A hlx
  have sc := fun A => sl_str (x := x) (some (r6 + 1)) none A hlx
  generalize L2.cutS x none (some r6) = a at *
  generalize L2.cutS x (some r6) none = b at *
  generalize L2.cutS x (some (r6 + 1)) none = d at *
  have la := ta.len
  have lb := tb.len
  have ld := tc.len
  have ly := ty.len
  have cb := fun A => cat_ok (x := y) (y := b) A (by show _ ≤ 10000000; omega)
  have cd := fun A => cat_ok (x := y) (y := d) A (by show _ ≤ 10000000; omega)
  obtain ⟨A3, hA3⟩ : ∃ B, B = A2 ++ [IO.lst [IV.str (y ++ b), IV.str (y ++ d), IV.str d]] := ⟨_, rfl⟩
  have g3 : Gr A2 A3 := by rw [hA3]; exact Gr.new _ _
  have a3 : A3[A2.length]? = some (.lst [IV.str (y ++ b), IV.str (y ++ d), IV.str d]) := by rw [hA3]; exact at_new _ _
  obtain ⟨v, hv, xv⟩ := ix_mem a3 (i := r3 - 3) (by omega) (by show r3 - 3 < 3; omega)
  obtain ⟨z, rfl, tz⟩ : ∃ z, v = .str z ∧ TxB (1 + L) (1 + cc) z := by
    simp only [List.mem_cons, List.not_mem_nil, or_false] at hv
    rcases hv with rfl | rfl | rfl
    · exact ⟨_, rfl, ty.app tb⟩
    · exact ⟨_, rfl, ty.app tc⟩
    · exact ⟨_, rfl, tc.mono (by omega) (by omega)⟩
  have lz := tz.len
  have cz := cat_ok (x := a) (y := z) A3 (by show _ ≤ 10000000; omega)
  refine ⟨A3, a ++ z, ?_, (ta.app tz).mono (by omega) (by omega), w2.gr g3, (s1.trans s2).trans (g3.gw w)⟩
  simp only [tail3, signE, ss_cons', s_asg', e_call, es_cons, es_nil, e_var, e_bin, e_bi, e_int, List.getElem?_cons_zero, List.getElem?_cons_succ, gV_some, bind_ok, biLen_str hlx, add_int, em, List.append_nil, permute_two, c1, on_ok, stG_nm, List.length_cons, List.length_nil, Nat.reduceAdd, Nat.reduceLT, if_true, oS_some, List.set_cons_zero, List.set_cons_succ, next_nx, e_ix, e_str, c2, hy, s_ret']
  rw [lastE, e_bin]
  simp only [e_sl, e_var, List.getElem?_cons_zero, List.getElem?_cons_succ, gV_some, bind_ok, o_no, o_some, oI_int, sa, e_ix, e_lst, es_cons, es_nil, e_bin, sb, cb, e_int, add_int, sc, cd, List.length_cons, List.length_nil, Nat.reduceAdd, show ((3 : Nat) ≤ LIM) = True from eq_true (by decide), if_true, newL_eq, ← hA3, sub_int, xv, cz, on_ok, next_rt, fin_rt]
/-- _law_spoilt -/
theorem f25 (n : Nat) {A : IH} {w kk c L cc : Nat} {x : Str} (h : Well A w kk c) (hb : c + 4 ≤ 1000000) (tx : TxB L cc x) (hL : L ≤ 100000) : Spoilt L cc w kk (c + 4) A (callI prg (n + 2) 25 [.ref w, .str x] A) := by
  rw [call_eq (d := ⟨2, 8, b25⟩) rfl rfl, b25_eq]
  have hl := tx.len
  have hm := me_split (x := x) (y := " ") A len_sp (by show _ ≤ 10000000; omega)
  have wd := split_wd tx
  have h1 := (split_len (x := x) tSp (by decide)).2.1
  have h2 := (split_len (x := x) tSp (by decide)).1
  generalize Txt.split x " " = ws at *
  obtain ⟨A1, hA1⟩ : ∃ B, B = A ++ [IO.lst (ws.map IV.str)] := ⟨_, rfl⟩
  have g1 : Gr A A1 := by rw [hA1]; exact Gr.new _ _
  have a1 : A1[A.length]? = some (.lst (ws.map .str)) := by rw [hA1]; exact at_new _ _
  rw [← hA1] at hm
  obtain ⟨nw, nk⟩ := h.ne_new
  obtain ⟨A2, r3, c2, p2, q2, w2, s2⟩ := f14 n (h.gr g1) (by omega) (m_lit (m := 6) (by decide) (by decide))
  have c2 : callI prg (n + 1) 14 [.ref w, .int 6] A1 = .ok (.int r3) A2 := c2
  have q2 : r3 < 6 := q2
  have a2 := s2.get _ _ nw a1
  have hlen := len_lst a2
  rw [List.length_map] at hlen
  obtain ⟨A3, r4, c3, p3, q3, w3, s3⟩ := f14 n w2 (by omega) (mny (m := ws.length) (by omega) (by show _ ≤ 10000000; omega))
  obtain ⟨i, rfl⟩ : ∃ i : Nat, r4 = i := ⟨r4.toNat, (Int.toNat_of_nonneg p3).symm⟩
  have a3 := s3.get _ _ nw a2
  have G := ((g1.gw w).trans s2).trans s3
  have hi1 : (i : Int) + 1 = ((i + 1 : Nat) : Int) := by omega
  have z := wd.sz
  have ev4 : ∀ (C : Cal) (x5 x6 x7 : Option IV) (B : IH), evE prg C (.var 4) [some (.ref w), some (.str x), some (.ref A.length), some (.int r3), some (.int (i : Int)), x5, x6, x7] B = .ok (.int (i : Int)) B := fun C x5 x6 x7 B => by simp only [e_var, List.getElem?_cons_zero, List.getElem?_cons_succ, gV_some]
  have ev5 : ∀ (C : Cal) (x5 x6 x7 : Option IV) (B : IH), evE prg C (.bin .add (.var 4) (.int 1)) [some (.ref w), some (.str x), some (.ref A.length), some (.int r3), some (.int (i : Int)), x5, x6, x7] B = .ok (.int ((i + 1 : Nat) : Int)) B := fun C x5 x6 x7 B => by simp only [e_bin, e_int, e_var, List.getElem?_cons_zero, List.getElem?_cons_succ, gV_some, bind_ok, add_int, hi1]
  by_cases h0 : r3 = 0
  · obtain ⟨B, gB, eB⟩ := cut_join (callI prg (n + 1)) (ρ := [some (.ref w), some (.str x), some (.ref A.length), some (.int r3), some (.int (i : Int)), none, none, none]) (A := A3) (m := A.length) (i := i) (j := i + 1) (ws := ws) rfl a3 (ev4 _ _ _ _) (ev5 _ _ _ _) (by omega)
    have eB : evE prg (callI prg (n + 1)) sp0 _ _ = _ := eB
    refine ⟨B, _, ?_, (join_bd (y := " ") tSp (by decide) (by decide) (wd_sub wd i (i + 1))).mono (by omega) (by omega), (w3.mono (by omega)).gr gB, G.trans (gB.gw w)⟩
    rotate_left
    simp only [onB_bl, bind_ok, bind_ex, bind_ite, onS_bl, on_ok, on_ex, on_ite, next_nx, next_rt, next_ct, next_ex, next_ite, e_non, e_bl, e_int, e_str, gV_some, e_var, optR_some, e_gco, e_tup, e_lst, e_bin, negI_int, e_neg, e_cmp, e_chain, notI_bl, e_not, e_and, e_or, e_ite, e_ix, e_sl, e_call, e_bi, e_me, optB_some, e_isi, attI_exc, e_att, oG_some, gD_some, e_gin, e_gix, e_gget, o_no, oI_int, o_some, t_no, tI_bl, t_some, es_nil, es_cons, qI_tup, qI_str, qI_ref, q_val, rI_int, q_rng, enI_ref, q_enum, oS_some, s_asg', s_par', s_setix', s_expr', s_ret', s_ite', s_for', s_cont', s_raise', ss_nil', ss_cons', stG_nm, stG_tp, stGs_nil, stGs_cons, fin_rt, fin_nx, fin_ex, fin_ite, List.getElem?_cons_zero, List.getElem?_cons_succ, List.set_cons_zero, List.set_cons_succ, List.length_cons, List.length_nil, List.length_set, List.replicate, if_true, if_false, Bool.not_true, Bool.not_false, Bool.false_eq_true, Bool.and_true, Bool.true_and, Bool.and_false, Bool.false_and, Bool.or_true, Bool.true_or, Bool.or_false, Bool.false_or, decide_true, decide_false, Option.bind_some, Option.isSome_some, List.nil_append, List.cons_append, List.append_nil, startF_one, startF_two, permute_one, permute_two, le_int, lt_int, gt_int, ge_int, add_int, sub_int, not_true_eq_false, not_false_eq_true, and_self, and_true, true_and, or_true, true_or, ite_self, recv_split, hm, Nat.reduceAdd, Nat.reduceLT, c2, hlen, c3, eqI_int, decide_eq_true h0, eB]
  · by_cases h1' : r3 = 1
    · obtain ⟨B, gB, eB⟩ := cut_join (callI prg (n + 1)) (ρ := [some (.ref w), some (.str x), some (.ref A.length), some (.int r3), some (.int (i : Int)), none, none, none]) (A := A3) (m := A.length) (i := i + 1) (j := i) (ws := ws) rfl a3 (ev5 _ _ _ _) (ev4 _ _ _ _) (by omega)
      have eB : evE prg (callI prg (n + 1)) sp1 _ _ = _ := eB
      refine ⟨B, _, ?_, (join_bd (y := " ") tSp (by decide) (by decide) (wd_sub wd (i + 1) i)).mono (by omega) (by omega), (w3.mono (by omega)).gr gB, G.trans (gB.gw w)⟩
      rotate_left
      simp only [onB_bl, bind_ok, bind_ex, bind_ite, onS_bl, on_ok, on_ex, on_ite, next_nx, next_rt, next_ct, next_ex, next_ite, e_non, e_bl, e_int, e_str, gV_some, e_var, optR_some, e_gco, e_tup, e_lst, e_bin, negI_int, e_neg, e_cmp, e_chain, notI_bl, e_not, e_and, e_or, e_ite, e_ix, e_sl, e_call, e_bi, e_me, optB_some, e_isi, attI_exc, e_att, oG_some, gD_some, e_gin, e_gix, e_gget, o_no, oI_int, o_some, t_no, tI_bl, t_some, es_nil, es_cons, qI_tup, qI_str, qI_ref, q_val, rI_int, q_rng, enI_ref, q_enum, oS_some, s_asg', s_par', s_setix', s_expr', s_ret', s_ite', s_for', s_cont', s_raise', ss_nil', ss_cons', stG_nm, stG_tp, stGs_nil, stGs_cons, fin_rt, fin_nx, fin_ex, fin_ite, List.getElem?_cons_zero, List.getElem?_cons_succ, List.set_cons_zero, List.set_cons_succ, List.length_cons, List.length_nil, List.length_set, List.replicate, if_true, if_false, Bool.not_true, Bool.not_false, Bool.false_eq_true, Bool.and_true, Bool.true_and, Bool.and_false, Bool.false_and, Bool.or_true, Bool.true_or, Bool.or_false, Bool.false_or, decide_true, decide_false, Option.bind_some, Option.isSome_some, List.nil_append, List.cons_append, List.append_nil, startF_one, startF_two, permute_one, permute_two, le_int, lt_int, gt_int, ge_int, add_int, sub_int, not_true_eq_false, not_false_eq_true, and_self, and_true, true_and, or_true, true_or, ite_self, recv_split, hm, Nat.reduceAdd, Nat.reduceLT, c2, hlen, c3, eqI_int, decide_eq_false h0, decide_eq_true h1', eB]
    · by_cases h2' : r3 = 2
      · obtain ⟨B, y, e, t, W, S⟩ := two_ok n (x1 := .str x) (x3 := some (.int r3)) (x5 := none) (x6 := none) (x7 := none) (i := i) w3 (by omega) a3 nw wd hL
        refine ⟨B, y, ?_, t, W.mono (by omega), G.trans S⟩
        have e := fin_str e
        simp only [onB_bl, bind_ok, bind_ex, bind_ite, onS_bl, on_ok, on_ex, on_ite, next_nx, next_rt, next_ct, next_ex, next_ite, e_non, e_bl, e_int, e_str, gV_some, e_var, optR_some, e_gco, e_tup, e_lst, e_bin, negI_int, e_neg, e_cmp, e_chain, notI_bl, e_not, e_and, e_or, e_ite, e_ix, e_sl, e_call, e_bi, e_me, optB_some, e_isi, attI_exc, e_att, oG_some, gD_some, e_gin, e_gix, e_gget, o_no, oI_int, o_some, t_no, tI_bl, t_some, es_nil, es_cons, qI_tup, qI_str, qI_ref, q_val, rI_int, q_rng, enI_ref, q_enum, oS_some, s_asg', s_par', s_setix', s_expr', s_ret', s_ite', s_for', s_cont', s_raise', ss_nil', ss_cons', stG_nm, stG_tp, stGs_nil, stGs_cons, fin_rt, fin_nx, fin_ex, fin_ite, List.getElem?_cons_zero, List.getElem?_cons_succ, List.set_cons_zero, List.set_cons_succ, List.length_cons, List.length_nil, List.length_set, List.replicate, if_true, if_false, Bool.not_true, Bool.not_false, Bool.false_eq_true, Bool.and_true, Bool.true_and, Bool.and_false, Bool.false_and, Bool.or_true, Bool.true_or, Bool.or_false, Bool.false_or, decide_true, decide_false, Option.bind_some, Option.isSome_some, List.nil_append, List.cons_append, List.append_nil, startF_one, startF_two, permute_one, permute_two, le_int, lt_int, gt_int, ge_int, add_int, sub_int, not_true_eq_false, not_false_eq_true, and_self, and_true, true_and, or_true, true_or, ite_self, recv_split, hm, Nat.reduceAdd, Nat.reduceLT, c2, hlen, c3, eqI_int, decide_eq_false h0, decide_eq_false h1', decide_eq_true h2', e]
      · obtain ⟨B, y, e, t, W, S⟩ := three_ok n (r3 := r3) (x2 := some (.ref A.length)) (x4 := some (.int (i : Int))) (x5 := none) (x6 := none) (x7 := none) w3 (by omega) tx hL (by omega) q2
        refine ⟨B, y, ?_, t, W, G.trans S⟩
        rw [← e]
        simp only [onB_bl, bind_ok, bind_ex, bind_ite, onS_bl, on_ok, on_ex, on_ite, next_nx, next_rt, next_ct, next_ex, next_ite, e_non, e_bl, e_int, e_str, gV_some, e_var, optR_some, e_gco, e_tup, e_lst, e_bin, negI_int, e_neg, e_cmp, e_chain, notI_bl, e_not, e_and, e_or, e_ite, e_ix, e_sl, e_call, e_bi, e_me, optB_some, e_isi, attI_exc, e_att, oG_some, gD_some, e_gin, e_gix, e_gget, o_no, oI_int, o_some, t_no, tI_bl, t_some, es_nil, es_cons, qI_tup, qI_str, qI_ref, q_val, rI_int, q_rng, enI_ref, q_enum, oS_some, s_asg', s_par', s_setix', s_expr', s_ret', s_ite', s_for', s_cont', s_raise', ss_nil', ss_cons', stG_nm, stG_tp, stGs_nil, stGs_cons, fin_rt, fin_nx, fin_ex, fin_ite, List.getElem?_cons_zero, List.getElem?_cons_succ, List.set_cons_zero, List.set_cons_succ, List.length_cons, List.length_nil, List.length_set, List.replicate, if_true, if_false, Bool.not_true, Bool.not_false, Bool.false_eq_true, Bool.and_true, Bool.true_and, Bool.and_false, Bool.false_and, Bool.or_true, Bool.true_or, Bool.or_false, Bool.false_or, decide_true, decide_false, Option.bind_some, Option.isSome_some, List.nil_append, List.cons_append, List.append_nil, startF_one, startF_two, permute_one, permute_two, le_int, lt_int, gt_int, ge_int, add_int, sub_int, not_true_eq_false, not_false_eq_true, and_self, and_true, true_and, or_true, true_or, ite_self, recv_split, hm, Nat.reduceAdd, Nat.reduceLT, c2, hlen, c3, eqI_int, decide_eq_false h0, decide_eq_false h1', decide_eq_false h2']
end LF.Pl
set_option Elab.async false
set_option linter.all false
set_option maxHeartbeats 8000000
set_option maxRecDepth 100000
/-! _law_step_row. -/
namespace LF.Pl
open PySem
theorem nat_sh {n k : Nat} (hk : 0 < k) (h : n < 10 ^ k) : Wd (k + 1) 0 [Str.ofString (toString (n : Int))] := by
  have e := TL.tl_num n
  have d := TL.numL_digits n
  refine (Wd.one (fun c hc => ?_) ?_).mono (show _ ≤ k + 1 from ?_) (Nat.le_refl 0)
  · rw [e] at hc
    have := d c hc
    omega
  · rw [e]
    exact Nat.le_of_eq (List.count_eq_zero.mpr (TL.numL_free (by omega)))
  · rw [TL.len_tl, e]
    have := TL.numL_len hk h
    omega
theorem lit_wd {w : Str} {S : Nat} (h : ((TL.tl w).all (fun c => decide (c < 128)) && (decide ((TL.tl w).count 40 = 0) && decide (w.length + 1 ≤ S))) = true) : Wd S 0 [w] := by
  simp only [Bool.and_eq_true, decide_eq_true_eq] at h
  exact (Wd.one (asc_lit h.1) (Nat.le_of_eq h.2.1)).mono h.2.2 (Nat.le_refl 0)
def threeV : List IV := [.int 0, .int 3, .int 12]
def rowsE : CEs := (.cons (.lst (.cons (.str "act") (.cons (.var 1) (.cons (.var 2) .nil)))) (.cons (.lst (.cons (.str "come") (.cons (.var 2) .nil))) (.cons (.lst (.cons (.str "tick") (.cons (.var 1) .nil))) (.cons (.lst (.cons (.str "part") (.cons (.var 1) (.cons (.var 2) .nil)))) (.cons (.lst (.cons (.str "fall") (.cons (.var 1) .nil))) (.cons (.lst (.cons (.str "load") (.cons (.var 1) (.cons (.var 2) .nil)))) .nil))))))
theorem b26_eq : b26 = (.cons (.par 1 2 (.bi .str (.cons (.call 14 (.cons (.var 0) (.cons (.int 4) .nil)) [] [0, 1]) .nil)) (.bi .str (.cons (.ix (.lst (.cons (.int 0) (.cons (.int 3) (.cons (.int 12) .nil)))) (.call 14 (.cons (.var 0) (.cons (.int 3) .nil)) [] [0, 1])) .nil)))
    (.cons (.ret (.ix (.lst rowsE) (.call 14 (.cons (.var 0) (.cons (.int 6) .nil)) [] [0, 1]))) .nil)) := rfl
theorem rows_ok (C : Cal) (v0 : IV) (h n : Str) (A : IH) (hh : Wd 2 0 [h]) (hn : Wd 3 0 [n]) : ∃ B m vs, evE prg C (.lst rowsE) [some v0, some (.str h), some (.str n)] A = .ok (.ref m) B ∧ Gr A B ∧ A.length ≤ m ∧ B[m]? = some (.lst vs) ∧ vs.length = 6 ∧ ∀ v ∈ vs, ∃ j ws, v = .ref j ∧ A.length ≤ j ∧ B[j]? = some (.lst (ws.map .str)) ∧ Wd 10 0 ws := by
  obtain ⟨B1, h1⟩ : ∃ B, B = A ++ [IO.lst [.str "act", .str h, .str n]] := ⟨_, rfl⟩
  obtain ⟨B2, h2⟩ : ∃ B, B = B1 ++ [IO.lst [.str "come", .str n]] := ⟨_, rfl⟩
  obtain ⟨B3, h3⟩ : ∃ B, B = B2 ++ [IO.lst [.str "tick", .str h]] := ⟨_, rfl⟩
  obtain ⟨B4, h4⟩ : ∃ B, B = B3 ++ [IO.lst [.str "part", .str h, .str n]] := ⟨_, rfl⟩
  obtain ⟨B5, h5⟩ : ∃ B, B = B4 ++ [IO.lst [.str "fall", .str h]] := ⟨_, rfl⟩
  obtain ⟨B6, h6⟩ : ∃ B, B = B5 ++ [IO.lst [.str "load", .str h, .str n]] := ⟨_, rfl⟩
  obtain ⟨B7, h7⟩ : ∃ B, B = B6 ++ [IO.lst [.ref A.length, .ref B1.length, .ref B2.length, .ref B3.length, .ref B4.length, .ref B5.length]] := ⟨_, rfl⟩
  have g1 : Gr A B1 := by rw [h1]; exact Gr.new _ _
  have g2 : Gr B1 B2 := by rw [h2]; exact Gr.new _ _
  have g3 : Gr B2 B3 := by rw [h3]; exact Gr.new _ _
  have g4 : Gr B3 B4 := by rw [h4]; exact Gr.new _ _
  have g5 : Gr B4 B5 := by rw [h5]; exact Gr.new _ _
  have g6 : Gr B5 B6 := by rw [h6]; exact Gr.new _ _
  have g7 : Gr B6 B7 := by rw [h7]; exact Gr.new _ _
  have e1 : B1[A.length]? = some (.lst [.str "act", .str h, .str n]) := by rw [h1]; exact at_new _ _
  have e2 : B2[B1.length]? = some (.lst [.str "come", .str n]) := by rw [h2]; exact at_new _ _
  have e3 : B3[B2.length]? = some (.lst [.str "tick", .str h]) := by rw [h3]; exact at_new _ _
  have e4 : B4[B3.length]? = some (.lst [.str "part", .str h, .str n]) := by rw [h4]; exact at_new _ _
  have e5 : B5[B4.length]? = some (.lst [.str "fall", .str h]) := by rw [h5]; exact at_new _ _
  have e6 : B6[B5.length]? = some (.lst [.str "load", .str h, .str n]) := by rw [h6]; exact at_new _ _
  have G2 := g1.trans g2
  have G3 := G2.trans g3
  have G4 := G3.trans g4
  have G5 := G4.trans g5
  have G6 := G5.trans g6
  refine ⟨B7, B6.length, _, ?_, G6.trans g7, G6.le, by rw [h7]; exact at_new _ _, rfl, fun v hv => ?_⟩
  · have L3 : ((3 : Nat) ≤ LIM) = True := eq_true (by decide)
    have L2' : ((2 : Nat) ≤ LIM) = True := eq_true (by decide)
    have L6 : ((6 : Nat) ≤ LIM) = True := eq_true (by decide)
    simp only [rowsE, e_lst, es_cons, es_nil, e_str, e_var, List.getElem?_cons_zero, List.getElem?_cons_succ, gV_some, bind_ok, List.length_cons, List.length_nil, Nat.reduceAdd, L2', L3, L6, if_true, newL_eq, ← h1, ← h2, ← h3, ← h4, ← h5, ← h6, ← h7]
  · simp only [List.mem_cons, List.not_mem_nil, or_false] at hv
    rcases hv with rfl | rfl | rfl | rfl | rfl | rfl
    · exact ⟨_, ["act", h, n], rfl, Nat.le_refl _, (((((g2.trans g3).trans g4).trans g5).trans g6).trans g7).get e1, (((lit_wd (w := "act") (S := 4) (by decide +kernel)).app hh).app hn).mono (by decide) (by decide)⟩
    · exact ⟨_, ["come", n], rfl, g1.le, ((((g3.trans g4).trans g5).trans g6).trans g7).get e2, ((lit_wd (w := "come") (S := 5) (by decide +kernel)).app hn).mono (by decide) (by decide)⟩
    · exact ⟨_, ["tick", h], rfl, G2.le, (((g4.trans g5).trans g6).trans g7).get e3, ((lit_wd (w := "tick") (S := 5) (by decide +kernel)).app hh).mono (by decide) (by decide)⟩
    · exact ⟨_, ["part", h, n], rfl, G3.le, ((g5.trans g6).trans g7).get e4, (((lit_wd (w := "part") (S := 5) (by decide +kernel)).app hh).app hn).mono (by decide) (by decide)⟩
    · exact ⟨_, ["fall", h], rfl, G4.le, (g6.trans g7).get e5, ((lit_wd (w := "fall") (S := 5) (by decide +kernel)).app hh).mono (by decide) (by decide)⟩
    · exact ⟨_, ["load", h, n], rfl, G5.le, g7.get e6, (((lit_wd (w := "load") (S := 5) (by decide +kernel)).app hh).app hn).mono (by decide) (by decide)⟩
/-- _law_step_row -/
theorem f26 (n : Nat) {A : IH} {w kk c : Nat} (h : Well A w kk c) (hb : c + 3 ≤ 1000000) : ∃ A' m ws, callI prg (n + 2) 26 [.ref w] A = .ok (.ref m) A' ∧ A'[m]? = some (.lst (ws.map .str)) ∧ m ≠ w ∧ Wd 10 0 ws ∧ Well A' w kk (c + 3) ∧ Gw w A A' := by
  rw [call_eq (d := ⟨1, 3, b26⟩) rfl rfl, b26_eq]
  obtain ⟨A1, r1, c1, p1, q1, w1, s1⟩ := f14 n h (by omega) (m_lit (m := 4) (by decide) (by decide))
  have c1 : callI prg (n + 1) 14 [.ref w, .int 4] A = .ok (.int r1) A1 := c1
  obtain ⟨i, rfl⟩ : ∃ i : Nat, r1 = i := ⟨r1.toNat, (Int.toNat_of_nonneg p1).symm⟩
  have hi : i < 4 := by omega
  have k1 := nat_sh (n := i) (k := 1) (by decide) (by omega)
  have t1 := fun A => str_int (i := (i : Int)) A (by rw [Int.natAbs_natCast]; exact Nat.lt_trans hi (by decide))
  generalize Str.ofString (toString (i : Int)) = sh at *
  obtain ⟨A2, hA2⟩ : ∃ B, B = A1 ++ [IO.lst threeV] := ⟨_, rfl⟩
  have g2 : Gr A1 A2 := by rw [hA2]; exact Gr.new _ _
  have tl := fun (C : Cal) ρ => (show evE prg C (.lst (.cons (.int 0) (.cons (.int 3) (.cons (.int 12) .nil)))) ρ A1 = .ok (.ref A1.length) A2 by
    rw [hA2]
    simp only [e_lst, es_cons, es_nil, e_int, bind_ok, List.length_cons, List.length_nil, Nat.reduceAdd, show ((3 : Nat) ≤ LIM) = True from eq_true (by decide), if_true, newL_eq]
    rfl)
  obtain ⟨A3, r3, c3, p3, q3, w3, s3⟩ := f14 n (w1.gr g2) (by omega) (m_lit (m := 3) (by decide) (by decide))
  have c3 : callI prg (n + 1) 14 [.ref w, .int 3] A2 = .ok (.int r3) A3 := c3
  have nw1 := w1.ne_new.1
  have a3 : A3[A1.length]? = some (.lst threeV) := s3.get _ _ nw1 (by rw [hA2]; exact at_new _ _)
  obtain ⟨v, hv, xv⟩ := ix_mem a3 p3 (by exact q3)
  obtain ⟨j, rfl, hj⟩ : ∃ j : Nat, v = .int j ∧ j < 10 ^ 2 := by
    simp only [threeV, List.mem_cons, List.not_mem_nil, or_false] at hv
    rcases hv with rfl | rfl | rfl
    · exact ⟨0, rfl, by decide⟩
    · exact ⟨3, rfl, by decide⟩
    · exact ⟨12, rfl, by decide⟩
  have k2 := nat_sh (n := j) (k := 2) (by decide) hj
  have t2 := fun A => str_int (i := (j : Int)) A (by rw [Int.natAbs_natCast]; exact Nat.lt_trans hj (by decide))
  generalize Str.ofString (toString (j : Int)) = sn at *
  obtain ⟨A4, m, vs, e4, g4, l4, a4, lv, rows⟩ := rows_ok (callI prg (n + 1)) (.ref w) sh sn A3 k1 k2
  obtain ⟨A5, r5, c5, p5, q5, w5, s5⟩ := f14 n (w3.gr g4) (by omega) (m_lit (m := 6) (by decide) (by decide))
  have c5 : callI prg (n + 1) 14 [.ref w, .int 6] A4 = .ok (.int r5) A5 := c5
  have lw := w3.lt
  have a5 := s5.get _ _ (show m ≠ w by omega) a4
  obtain ⟨v, hv, x5⟩ := ix_mem a5 p5 (by rw [lv]; exact q5)
  obtain ⟨jj, ws, rfl, l5, b5, wd⟩ := rows v hv
  refine ⟨A5, jj, ws, ?_, s5.get _ _ (by omega) b5, by omega, wd, w5, ((s1.trans (g2.gw w)).trans s3).trans ((g4.gw w).trans s5)⟩
  simp only [ss_cons', s_par', startF_one, List.replicate, e_bi, e_call, es_cons, es_nil, e_var, e_int, List.getElem?_cons_zero, gV_some, bind_ok, List.append_nil, permute_two, c1, t1, on_ok, e_ix, tl, c3, xv, t2, List.length_cons, List.length_nil, Nat.reduceAdd, Nat.reduceLT, and_self, if_true, List.set_cons_zero, List.set_cons_succ, next_nx, s_ret', e4, c5, x5, next_rt, fin_rt]
end LF.Pl
set_option Elab.async false
set_option linter.all false
set_option maxHeartbeats 8000000
set_option maxRecDepth 100000
/-! What is due: it can be shown. -/
namespace LF.Pl
open PySem
/-- what is due of one thing -/
def dueOf (x : Str) (ln : IV) : IV := match oneOf x with
  | .ok v => .tup [.str "told", v]
  | .error k => .tup [.str "no", .str "text", ln, .int k]
theorem gd_told : gdV (.str "told") = true ∧ gdV (.str "no") = true ∧ gdV (.str "text") = true := by
  rw [gdV, gdV, gdV]
  decide +kernel
theorem gd_nat {k : Nat} (h : k ≤ 100000) : gdV (.int (k : Int)) = true := by
  rw [gdV, Int.natAbs_natCast]
  exact decide_eq_true (Nat.lt_of_le_of_lt h (by decide +kernel))
theorem sh_told {v : IV} (h1 : gdV v = true) (h2 : dpV v ≤ 60) (h3 : mzV v ≤ 29990) : Sh (.tup [.str "told", v]) := by
  unfold Sh
  rw [gdV, gdVs, gdVs, gdVs, gd_told.1, h1, dpV, dpVs, dpVs, dpVs, dpV, mzV, mzVs, mzVs, mzVs, mzV]
  exact ⟨rfl, by omega, by omega⟩
theorem sh_no {a b : IV} (ha : gdV a = true ∧ dpV a = 0 ∧ mzV a = 1) (hb : gdV b = true ∧ dpV b = 0 ∧ mzV b = 1) : Sh (.tup [.str "no", .str "text", a, b]) := by
  unfold Sh
  rw [gdV, gdVs, gdVs, gdVs, gdVs, gdVs, gd_told.2.1, gd_told.2.2, ha.1, hb.1, dpV, dpVs, dpVs, dpVs, dpVs, dpVs, dpV, dpV, ha.2.1, hb.2.1, mzV, mzVs, mzVs, mzVs, mzVs, mzVs, mzV, mzV, ha.2.2, hb.2.2]
  exact ⟨rfl, by omega, by omega⟩
theorem num_ok {k : Nat} (h : k ≤ 100000) : gdV (.int (k : Int)) = true ∧ dpV (.int (k : Int)) = 0 ∧ mzV (.int (k : Int)) = 1 := ⟨gd_nat h, by rw [dpV], by rw [mzV]⟩
theorem due_sh {x : Str} {ln : IV} (h : TxB 3400 30 x) (hl : gdV ln = true ∧ dpV ln = 0 ∧ mzV ln = 1) : Sh (dueOf x ln) := by
  have hs := split_len (x := x) tSp (by decide)
  have hx := h.len
  have ho := h.op
  have ha := split_asc (x := x) tSp (by decide) h.asc
  have hc := count_opens (Txt.split x " ")
  rw [split_opens tSp (by decide) (by decide)] at hc
  unfold dueOf oneOf
  cases hr : rdAll 1 (Txt.split x " ") with
  | error k =>
    have := rdAll_err hr
    exact sh_no hl (num_ok (by omega))
  | ok xs =>
    obtain ⟨a, b, c⟩ := rdAll_gd ha hr
    obtain ⟨w, ws, ew⟩ := split_cons (x := x) tSp (by decide)
    rw [ew] at hr
    have hne := rdAll_ne hr
    cases xs with
    | nil => exact absurd rfl hne
    | cons v r =>
      have h1 := gdVs_mem a v List.mem_cons_self
      have h2 := mzVs_mem (xs := v :: r) v List.mem_cons_self
      have h3 := dpVs_le c v List.mem_cons_self
      exact sh_told (v := v) h1 (by omega) (by omega)
/-- a text of steps: short -/
def StTx (x : Str) : Prop := Asc x ∧ x.length ≤ 57
theorem StTx.tx {x : Str} (h : StTx x) : Tx x := ⟨h.1, by have := h.2; show _ ≤ 10000000; omega⟩
theorem StTx.rows {x : Str} (h : StTx x) : ∀ r ∈ Txt.split x "\n", RowW r := fun r hr => by
  obtain ⟨h1, h2, h3⟩ := split_len (x := x) tNl (by decide)
  have a := split_asc tNl (by decide) h.1 r hr
  have b := h3 r hr
  have c := h.2
  have d := (split_len (x := r) tSp (by decide)).1
  exact ⟨⟨a, by show _ ≤ 10000000; omega⟩, by omega, by omega⟩
theorem step_flat {xs : List IV} (h : stepOk xs = true) : dpVs xs = 0 := by
  unfold stepOk at h
  simp only [Bool.and_eq_true, decide_eq_true_eq] at h
  obtain ⟨h1, _, h3⟩ := h
  cases xs with
  | nil => rw [dpVs]
  | cons v r =>
    have hv : dpV v = 0 := by
      cases v with
      | tup ys =>
        have : szOf (fstW (.tup ys :: r)) = -1 := rfl
        omega
      | _ => rw [dpV]
    have hr : dpVs r ≤ 0 := dpVs_of fun u hu => by
      have := List.all_eq_true.mp h3 u hu
      cases u with
      | int i => rw [dpV]; omega
      | _ => cases this
    rw [dpVs, hv]
    omega
theorem steps_ok : ∀ (rs : List Str) (k : Nat), (∀ r ∈ rs, RowW r) → match stepsOf k rs with
    | .ok ys => gdVs ys = true ∧ dpVs ys ≤ 1 ∧ mzVs ys ≤ 240 * rs.length
    | .error (l, e) => l ≤ k + rs.length ∧ e ≤ 60
  | [], k, _ => by
    rw [stepsOf]
    show gdVs [] = true ∧ dpVs [] ≤ 1 ∧ mzVs [] ≤ _
    rw [gdVs, dpVs, mzVs]
    exact ⟨rfl, by omega, by omega⟩
  | r :: rs, k, h => by
    obtain ⟨ht, _, h7⟩ := h r List.mem_cons_self
    have ih := steps_ok rs (k + 1) fun z hz => h z (List.mem_cons_of_mem _ hz)
    have ha := split_asc (x := r) tSp (by decide) ht.1
    rw [stepsOf]
    unfold stepOf
    cases hr : rdAll (Txt.split r " ").length (Txt.split r " ") with
    | error e =>
      have := rdAll_err hr
      exact ⟨by rw [List.length_cons]; omega, by omega⟩
    | ok xs =>
      dsimp only
      obtain ⟨a, b, c⟩ := rdAll_gd ha hr
      cases hs : stepOk xs with
      | false =>
        rw [if_neg Bool.false_ne_true]
        exact ⟨by rw [List.length_cons]; omega, by omega⟩
      | true =>
        rw [if_pos rfl]
        dsimp only
        have hf := step_flat hs
        cases hq : stepsOf (k + 1) rs with
        | error z =>
          rw [hq] at ih
          obtain ⟨l, e⟩ := z
          have ih : l ≤ k + 1 + rs.length ∧ e ≤ 60 := ih
          exact ⟨by rw [List.length_cons]; omega, ih.2⟩
        | ok ys =>
          rw [hq] at ih
          have ih : gdVs ys = true ∧ dpVs ys ≤ 1 ∧ mzVs ys ≤ 240 * rs.length := ih
          show gdVs (.tup xs :: ys) = true ∧ dpVs (.tup xs :: ys) ≤ 1 ∧ mzVs (.tup xs :: ys) ≤ _
          rw [gdVs, gdV, a, ih.1, dpVs, dpV, hf, mzVs, mzV, List.length_cons]
          exact ⟨rfl, by omega, by omega⟩
theorem outS_sh {x : Str} (h : StTx x) : Sh (outS (rowsOf x)) := by
  have hl := (split_len (x := x) tNl (by decide)).1
  have h2 := h.2
  unfold rowsOf
  by_cases hx : x = ""
  · rw [if_pos hx]
    exact sh_told (v := .tup []) (by rw [gdV, gdVs]) (by rw [dpV, dpVs]; omega) (by rw [mzV, mzVs]; omega)
  · rw [if_neg hx]
    have q := steps_ok (Txt.split x "\n") 0 h.rows
    cases hs : stepsOf 0 (Txt.split x "\n") with
    | error z =>
      rw [hs] at q
      obtain ⟨l, e⟩ := z
      have q : l ≤ 0 + (Txt.split x "\n").length ∧ e ≤ 60 := q
      exact sh_no (num_ok (by omega)) (num_ok (by omega))
    | ok ys =>
      rw [hs] at q
      have q : gdVs ys = true ∧ dpVs ys ≤ 1 ∧ mzVs ys ≤ 240 * (Txt.split x "\n").length := q
      exact sh_told (v := .tup ys) (by rw [gdV]; exact q.1) (by rw [dpV]; omega) (by rw [mzV]; omega)
/-! ### what is said -/
theorem sub_folk : prg.sub 10 prg.folk = true := by decide
theorem said_one (n : Nat) {C : CE} {ρ : Fr} {A : IH} {x : Str} {ln : IV} (h : Tx x) (he : evE prg (callI prg (n + 5)) C ρ A = callI prg (n + 5) 9 [.str x, ln] A) : ∃ A', Gr A A' ∧ evE prg (callI prg (n + 5)) (.said C) ρ A = .ok (dueOf x ln) A' := by
  obtain ⟨A1, g1, e1⟩ := f9 n A x ln h
  rw [e_said, he, e1]
  unfold dueOf
  cases oneOf x with
  | ok v => exact ⟨A1, g1, rfl⟩
  | error k =>
    obtain ⟨A2, g2, e2⟩ := f18 (n + 4) A1 ln (.int k)
    refine ⟨A2, g1.trans g2, ?_⟩
    show (if prg.sub 10 prg.folk = true then callI prg (n + 5) 18 [.exc 10 [ln, .int k]] A1 else .bad) = _
    rw [if_pos sub_folk]
    exact e2
theorem said_rows (n : Nat) {C : CE} {ρ : Fr} {A : IH} {x : Str} (h : Tx x) (he : evE prg (callI prg (n + 6)) C ρ A = callI prg (n + 6) 12 [.str x] A) : ∃ A', Gr A A' ∧ evE prg (callI prg (n + 6)) (.said C) ρ A = .ok (outS (rowsOf x)) A' := by
  obtain ⟨A1, g1, e1⟩ := f12 n A x h
  rw [e_said, he, e1]
  cases rowsOf x with
  | ok v => exact ⟨A1, g1, rfl⟩
  | error z =>
    obtain ⟨l, e⟩ := z
    obtain ⟨A2, g2, e2⟩ := f18 (n + 5) A1 (.int l) (.int e)
    refine ⟨A2, g1.trans g2, ?_⟩
    show (if prg.sub 10 prg.folk = true then callI prg (n + 6) 18 [.exc 10 [.int l, .int e]] A1 else .bad) = _
    rw [if_pos sub_folk]
    exact e2
end LF.Pl
set_option Elab.async false
set_option linter.all false
set_option maxHeartbeats 8000000
set_option maxRecDepth 100000
/-! law: the texts. -/
namespace LF.Pl
open PySem
def bodyA : CSs := (.cons (.asg (.nm 4) (.me .join (.str " ") (.cons (.call 16 (.cons (.call 17 (.cons (.var 1) (.cons (.int 2) .nil)) [] [0, 1]) .nil) [] [0]) .nil)))
    (.cons (.asg (.nm 5) (.call 25 (.cons (.var 1) (.cons (.var 4) .nil)) [] [0, 1]))
    (.cons (.asg (.nm 2) (.bin .add (.var 2) (.lst (.cons (.var 4) (.cons (.var 5) (.cons (.call 25 (.cons (.var 1) (.cons (.var 5) .nil)) [] [0, 1]) .nil))))))
    .nil)))
/-- the law's frame: its well at 1, the texts at m -/
def frL (m : Nat) (xs : List (Option IV)) : Fr := some (.ref 0) :: some (.ref 1) :: some (.ref m) :: xs
/-- where the law stands -/
structure LawI (A : IH) (m c : Nat) (ts : List Str) : Prop where
  well : Well A 1 3 c
  txt : A[m]? = some (.lst (ts.map .str))
  ne : m ≠ 1
theorem turnA {A : IH} {m c : Nat} {ts : List Str} {x3 : Option IV} {x4 x5 x6 x7 x8 x9 x10 x11 x12 : Option IV} (h : LawI A m c ts) (hb : c + 200 ≤ 1000000) (hl : ts.length ≤ 1000) :
    ∃ A' m' a b d y4 y5, evSs prg (callI prg 15) bodyA (frL m [x3, x4, x5, x6, x7, x8, x9, x10, x11, x12]) A = .nx (frL m' [x3, y4, y5, x6, x7, x8, x9, x10, x11, x12]) A' ∧ LawI A' m' (c + 200) (ts ++ [a, b, d]) ∧ TxB 3400 30 a ∧ TxB 3400 30 b ∧ TxB 3400 30 d := by
  obtain ⟨hw, ht, hne⟩ := h
  obtain ⟨A1, v, e1, t1, w1, s1⟩ := f17 2 11 A 1 3 c hw (by show c + 155 ≤ 1000000; omega)
  have e1 : callI prg 15 17 [.ref 1, .int 2] A = .ok v A1 := e1
  have w1 : Well A1 1 3 (c + 155) := w1
  obtain ⟨A2, k, ws, e2, g2, b2, wd, _⟩ := f16 2 (by omega) 11 A1 v t1
  have e2 : callI prg 15 16 [v] A1 = .ok (.ref k) A2 := e2
  have wd : Wd 840 5 ws := wd
  have z2 := wd.sz
  have mj := me_join (y := " ") b2 sp_one.1 (by show _ ≤ 10000000; omega)
  have ta := join_bd (y := " ") tSp (by decide) (by decide) wd
  generalize Txt.join " " ws = a at *
  have w2 := w1.gr g2
  obtain ⟨A3, b, e3, tb, w3, s3⟩ := f25 13 w2 (by omega) ta (by omega)
  have e3 : callI prg 15 25 [.ref 1, .str a] A2 = .ok (.str b) A3 := e3
  have tb := tb.mono (M := 1679) (d := 11) (by decide) (by decide)
  obtain ⟨A4, d, e4, td, w4, s4⟩ := f25 13 w3 (by omega) tb (by omega)
  have e4 : callI prg 15 25 [.ref 1, .str b] A3 = .ok (.str d) A4 := e4
  have G := ((s1.trans (g2.gw 1)).trans s3).trans s4
  have t4 := G.get _ _ hne ht
  obtain ⟨A5, hA5⟩ : ∃ B, B = A4 ++ [IO.lst [IV.str a, .str b, .str d]] := ⟨_, rfl⟩
  have g5 : Gr A4 A5 := by rw [hA5]; exact Gr.new _ _
  have a5 : A5[A4.length]? = some (.lst [IV.str a, .str b, .str d]) := by rw [hA5]; exact at_new _ _
  obtain ⟨A6, hA6⟩ : ∃ B, B = A5 ++ [IO.lst (ts.map IV.str ++ [IV.str a, .str b, .str d])] := ⟨_, rfl⟩
  have g6 : Gr A5 A6 := by rw [hA6]; exact Gr.new _ _
  have ad : binI .add (.ref m) (.ref A4.length) A5 = .ok (.ref A5.length) A6 := by
    rw [add_lst (g5.get t4) a5 (by rw [List.length_map]; show _ + 3 ≤ 10000000; omega), hA6]
  have lt4 := w4.lt
  have le5 := g5.le
  refine ⟨A6, A5.length, a, b, d, some (.str a), some (.str b), ?_, ⟨(w4.mono (by omega)).gr (g5.trans g6), by rw [hA6, List.map_append]; exact at_new _ _, by omega⟩, ta.mono (by decide) (by decide), tb.mono (by decide) (by decide), td.mono (by decide) (by decide)⟩
  simp only [bodyA, frL, ss_cons', s_asg', e_me, e_str, bind_ok, recv_join, if_true, es_cons, es_nil, e_call, e_var, e_int, List.getElem?_cons_zero, List.getElem?_cons_succ, gV_some, List.append_nil, permute_two, e1, permute_one, e2, mj, on_ok, stG_nm, List.length_cons, List.length_nil, Nat.reduceAdd, Nat.reduceLT, oS_some, List.set_cons_zero, List.set_cons_succ, next_nx, e3, e_bin, e_lst, e4, show ((3 : Nat) ≤ LIM) = True from eq_true (by decide), newL_eq, ← hA5, ad, ss_nil']
def hands : List Str := ["", " ", "(", ")", "( )", "( 1", "1 2", "( 1 ) )", "( at 1 2 )", "( at 1 )", "-", "--", "@", "@1.2.3", "@1."]
theorem hands_ok : ∀ x ∈ hands, (TL.tl x).all (fun c => decide (c < 128)) = true ∧ x.length ≤ 11 ∧ (TL.tl x).count 40 ≤ 2 := by decide +kernel
theorem hands_txt {x : Str} (h : x ∈ hands) : TxB 11 2 x := by
  obtain ⟨a, b, c⟩ := hands_ok x h
  exact ⟨asc_lit a, b, c⟩
/-- the law's first loop -/
theorem loopA {A : IH} {m : Nat} (h : LawI A m 0 hands) : ∃ A' m' ts y3 y4 y5, (forGo (fun x ρ A => oS (stG A (.nm 3) x ρ) fun ρ => evSs prg (callI prg 15) bodyA ρ A) (.fix ((List.range 10).map fun (i : Nat) => IV.int (i : Int))) (LIM + 1) 0 (frL m [none, none, none, none, none, none, none, none, none, none]) A) = .nx (frL m' [y3, y4, y5, none, none, none, none, none, none, none]) A' ∧
    LawI A' m' 2000 (hands ++ ts) ∧ ts.length = 30 ∧ ∀ x ∈ ts, TxB 3400 30 x := by
  rcases for_inv0 (N := 10) (q := .fix ((List.range 10).map fun (i : Nat) => IV.int (i : Int))) (f := fun x ρ A => oS (stG A (.nm 3) x ρ) fun ρ => evSs prg (callI prg 15) bodyA ρ A)
    (fun i ρ B => ∃ m' ts y3 y4 y5, ρ = frL m' [y3, y4, y5, none, none, none, none, none, none, none] ∧ LawI B m' (200 * i) (hands ++ ts) ∧ ts.length = 3 * i ∧ ∀ x ∈ ts, TxB 3400 30 x)
    (fun _ => False) (by decide)
    (fun i ρ B hi ⟨m', ts, y3, y4, y5, e, I, hl, ht⟩ => by
      subst e
      refine ⟨.int i, by rw [item_fix, List.getElem?_map, List.getElem?_range hi]; rfl, .inl ?_⟩
      obtain ⟨B', m2, a, b, d, z4, z5, ev, I2, ta, tb, td⟩ := turnA (x3 := some (.int i)) (x4 := y4) (x5 := y5) (x6 := none) (x7 := none) (x8 := none) (x9 := none) (x10 := none) (x11 := none) (x12 := none) I (by omega) (by rw [List.length_append, show hands.length = 15 from rfl]; omega)
      refine ⟨_, B', .inl ev, m2, ts ++ [a, b, d], some (.int i), z4, z5, rfl, ?_, by simp; omega, fun x hx => ?_⟩
      · rw [← List.append_assoc]
        exact I2
      · rcases List.mem_append.mp hx with hx | hx
        · exact ht x hx
        · simp only [List.mem_cons, List.not_mem_nil, or_false] at hx
          rcases hx with rfl | rfl | rfl
          · exact ta
          · exact tb
          · exact td)
    (fun ρ B _ => by rw [item_fix, List.getElem?_eq_none]; simp) ⟨m, [], none, none, none, rfl, by rw [List.append_nil]; exact h, rfl, fun x hx => nomatch hx⟩ with ⟨ρ', B, r, m', ts, y3, y4, y5, e, I, hl, ht⟩ | ⟨z, _⟩
  · subst e
    exact ⟨B, m', ts, y3, y4, y5, r, I, hl, ht⟩
  · exact z.elim
end LF.Pl
set_option Elab.async false
set_option linter.all false
set_option maxHeartbeats 8000000
set_option maxRecDepth 100000
/-! law: things, read and due. -/
namespace LF.Pl
open PySem
def lnE : CE := .ix (.lst (.cons (.int 0) (.cons (.int 5) (.cons (.bin .pow (.int 10) (.int 60)) .nil)))) (.call 14 (.cons (.var 1) (.cons (.int 3) .nil)) [] [0, 1])
def said1 : CE := .said (.call 9 (.cons (.var 6) (.cons (.var 7) .nil)) [] [0, 1])
def said2 : CE := .said (.call 9 (.cons (.var 6) .nil) [(.int 0)] [0, 1])
def dues2 : CE := .bi .repr (.cons (.lst (.cons (.call 23 (.cons (.var 6) (.cons (.var 7) .nil)) [] [0, 1]) (.cons (.call 23 (.cons (.var 6) (.cons (.int 0) .nil)) [] [0, 1]) .nil))) .nil)
def bodyB : CSs := (.cons (.asg (.nm 7) lnE)
    (.cons (.asg (.nm 8) (.lst (.cons said1 .nil)))
    (.cons (.expr (.me .append (.var 8) (.cons said2 .nil)))
    (.cons (.ite (.cmp .ne (.bi .repr (.cons (.var 8) .nil)) dues2) (.cons (.ret (.bl false)) .nil) .nil)
    .nil))))
def lnV : List IV := [.int 0, .int 5, .int (10 ^ 60)]
theorem pow60 (A : IH) : binI .pow (.int 10) (.int 60) A = .ok (.int (10 ^ 60)) A := by
  show (if 0 ≤ (60 : Int) ∧ (60 : Int) ≤ 1000000 ∧ (10 : Int).natAbs < 2 ^ 64 then Rs.ok (IV.int ((10 : Int) ^ (60 : Int).toNat)) A else .bad) = _
  rw [if_pos (by decide)]
  rfl
theorem lnV_ok : ∀ v ∈ lnV, gdV v = true ∧ dpV v = 0 ∧ mzV v = 1 := by
  intro v hv
  simp only [lnV, List.mem_cons, List.not_mem_nil, or_false] at hv
  rcases hv with rfl | rfl | rfl
  · rw [gdV, dpV, mzV]; exact ⟨by decide +kernel, rfl, rfl⟩
  · rw [gdV, dpV, mzV]; exact ⟨by decide +kernel, rfl, rfl⟩
  · rw [gdV, dpV, mzV]; exact ⟨by decide +kernel, rfl, rfl⟩
theorem ln_ok (n : Nat) {A : IH} {m c : Nat} {xs : List (Option IV)} (h : Well A 1 3 c) (hb : c + 1 ≤ 1000000) : ∃ A' v, evE prg (callI prg (n + 1)) lnE (frL m xs) A = .ok v A' ∧ (gdV v = true ∧ dpV v = 0 ∧ mzV v = 1) ∧ Well A' 1 3 (c + 1) ∧ Gw 1 A A' := by
  obtain ⟨A1, hA1⟩ : ∃ B, B = A ++ [IO.lst lnV] := ⟨_, rfl⟩
  have g1 : Gr A A1 := by rw [hA1]; exact Gr.new _ _
  have e1 : evE prg (callI prg (n + 1)) (.lst (.cons (.int 0) (.cons (.int 5) (.cons (.bin .pow (.int 10) (.int 60)) .nil)))) (frL m xs) A = .ok (.ref A.length) A1 := by
    rw [hA1]
    simp only [e_lst, es_cons, es_nil, e_int, e_bin, bind_ok, pow60, List.length_cons, List.length_nil, Nat.reduceAdd, show ((3 : Nat) ≤ LIM) = True from eq_true (by decide), if_true, newL_eq]
    rfl
  obtain ⟨A2, r, c2, p2, q2, w2, s2⟩ := f14 n (h.gr g1) hb (m_lit (m := 3) (by decide) (by decide))
  have c2 : callI prg (n + 1) 14 [.ref 1, .int 3] A1 = .ok (.int r) A2 := c2
  have a2 : A2[A.length]? = some (.lst lnV) := s2.get _ _ h.ne_new.1 (by rw [hA1]; exact at_new _ _)
  obtain ⟨v, hv, xv⟩ := ix_mem a2 p2 (by exact q2)
  refine ⟨A2, v, ?_, lnV_ok v hv, w2, (g1.gw 1).trans s2⟩
  rw [lnE, e_ix, e1, bind_ok]
  simp only [frL, e_call, es_cons, es_nil, e_var, e_int, List.getElem?_cons_zero, List.getElem?_cons_succ, gV_some, bind_ok, List.append_nil, permute_two, c2, xv]
theorem zero_ok : gdV (.int 0) = true ∧ dpV (.int 0) = 0 ∧ mzV (.int 0) = 1 := by rw [gdV, dpV, mzV]; exact ⟨by decide +kernel, rfl, rfl⟩
theorem turnB {A : IH} {m c : Nat} {ts : List Str} {x : Str} {x3 x4 x5 x7 x8 x9 x10 x11 x12 : Option IV} (h : LawI A m c ts) (hb : c + 1 ≤ 1000000) (tx : TxB 3400 30 x) :
    ∃ A' y7 y8, evSs prg (callI prg 15) bodyB (frL m [x3, x4, x5, some (.str x), x7, x8, x9, x10, x11, x12]) A = .nx (frL m [x3, x4, x5, some (.str x), y7, y8, x9, x10, x11, x12]) A' ∧ LawI A' m (c + 1) ts := by
  obtain ⟨hw, ht, hne⟩ := h
  have T : Tx x := ⟨tx.asc, by have := tx.len; show _ ≤ 10000000; omega⟩
  obtain ⟨A1, ln, e1, l1, w1, s1⟩ := ln_ok 14 (m := m) (xs := [x3, x4, x5, some (.str x), x7, x8, x9, x10, x11, x12]) hw hb
  have e1 : evE prg (callI prg 15) lnE _ A = .ok ln A1 := e1
  have t1 := s1.get _ _ hne ht
  -- said
  obtain ⟨A2, g2, e2⟩ := said_one 10 (C := .call 9 (.cons (.var 6) (.cons (.var 7) .nil)) [] [0, 1]) (ρ := frL m [x3, x4, x5, some (.str x), some ln, x8, x9, x10, x11, x12]) (A := A1) (ln := ln) T (by
    simp only [frL, e_call, es_cons, es_nil, e_var, List.getElem?_cons_zero, List.getElem?_cons_succ, gV_some, bind_ok, List.append_nil, permute_two])
  have e2 : evE prg (callI prg 15) said1 _ A1 = _ := e2
  obtain ⟨A3, hA3⟩ : ∃ B, B = A2 ++ [IO.lst [dueOf x ln]] := ⟨_, rfl⟩
  have g3 : Gr A2 A3 := by rw [hA3]; exact Gr.new _ _
  have a3 : A3[A2.length]? = some (.lst [dueOf x ln]) := by rw [hA3]; exact at_new _ _
  obtain ⟨A4, g4, e4⟩ := said_one 10 (C := .call 9 (.cons (.var 6) .nil) [(.int 0)] [0, 1]) (ρ := frL m [x3, x4, x5, some (.str x), some ln, some (.ref A2.length), x9, x10, x11, x12]) (A := A3) (ln := .int 0) T (by
    simp only [frL, e_call, es_cons, es_nil, e_var, List.getElem?_cons_zero, List.getElem?_cons_succ, gV_some, bind_ok, List.nil_append, List.cons_append, permute_two])
  have e4 : evE prg (callI prg 15) said2 _ A3 = _ := e4
  have a4 := g4.get a3
  obtain ⟨A5, hA5⟩ : ∃ B, B = A4.set A2.length (.lst [dueOf x ln, dueOf x (.int 0)]) := ⟨_, rfl⟩
  have ap : meI .append (.ref A2.length) [dueOf x (.int 0)] A4 = .ok .non A5 := by
    rw [app_lst _ a4 (by show 1 < LIM; decide), hA5]
    rfl
  have a5 : A5[A2.length]? = some (.lst [dueOf x ln, dueOf x (.int 0)]) := by rw [hA5]; exact get_set_eq a4
  have w4 := ((w1.gr g2).gr g3).gr g4
  have l2 := (w1.gr g2).ne_new
  have w5 : Well A5 1 3 (c + 1) := by rw [hA5]; exact w4.set l2.1 l2.2 _
  have hm : m < A2.length := Nat.lt_of_lt_of_le (get_lt t1) g2.le
  have t5 : A5[m]? = some (.lst (ts.map .str)) := by rw [hA5]; exact get_set_ne (g4.get (g3.get (g2.get t1))) (by omega)
  have sh1 := due_sh tx l1
  have sh2 := due_sh tx zero_ok
  have rp1 := repr_two a5 sh1 sh2
  obtain ⟨A6, g6, e6⟩ := f23 11 A5 x ln T
  have e6 : callI prg 15 23 [.str x, ln] A5 = .ok (dueOf x ln) A6 := e6
  obtain ⟨A7, g7, e7⟩ := f23 11 A6 x (.int 0) T
  have e7 : callI prg 15 23 [.str x, .int 0] A6 = .ok (dueOf x (.int 0)) A7 := e7
  obtain ⟨A8, hA8⟩ : ∃ B, B = A7 ++ [IO.lst [dueOf x ln, dueOf x (.int 0)]] := ⟨_, rfl⟩
  have g8 : Gr A7 A8 := by rw [hA8]; exact Gr.new _ _
  have a8 : A8[A7.length]? = some (.lst [dueOf x ln, dueOf x (.int 0)]) := by rw [hA8]; exact at_new _ _
  have rp2 := repr_two a8 sh1 sh2
  have ne := cmp_ne A8 (asc_two sh1 sh2) (asc_two sh1 sh2)
  rw [decide_eq_true rfl] at ne
  have G := (g6.trans g7).trans g8
  have d2 : evE prg (callI prg 15) dues2 (frL m [x3, x4, x5, some (.str x), some ln, some (.ref A2.length), x9, x10, x11, x12]) A5 = .ok (.str (two (dueOf x ln) (dueOf x (.int 0)))) A8 := by
    simp only [dues2, frL, e_bi, es_cons, es_nil, e_lst, e_call, e_var, e_int, List.getElem?_cons_zero, List.getElem?_cons_succ, gV_some, bind_ok, List.append_nil, permute_two, e6, e7, List.length_cons, List.length_nil, Nat.reduceAdd, show ((2 : Nat) ≤ LIM) = True from eq_true (by decide), if_true, newL_eq, ← hA8, rp2]
  refine ⟨A8, some ln, some (.ref A2.length), ?_, ⟨w5.gr G, G.get t5, hne⟩⟩
  unfold frL at e1 e2 e4 d2
  simp only [bodyB, frL, ss_cons', s_asg', e1, on_ok, stG_nm, List.length_cons, List.length_nil, Nat.reduceAdd, Nat.reduceLT, if_true, oS_some, List.set_cons_zero, List.set_cons_succ, next_nx, e_lst, es_cons, es_nil, e2, bind_ok, show ((1 : Nat) ≤ LIM) = True from eq_true (by decide), newL_eq, ← hA3, s_expr', e_me, e_var, List.getElem?_cons_zero, List.getElem?_cons_succ, gV_some, (recv_list a3).1, e4, ap, s_ite', e_cmp, e_bi, rp1, d2, ne, Bool.not_true, onS_bl, Bool.false_eq_true, if_false, ss_nil']
theorem loopB {A : IH} {m c : Nat} {ts : List Str} {x3 x4 x5 : Option IV} (h : LawI A m c ts) (hb : c + 100 ≤ 1000000) (hl : ts.length ≤ 100) (ht : ∀ x ∈ ts, TxB 3400 30 x) : ∃ A' y6 y7 y8, (forGo (fun x ρ A => oS (stG A (.nm 6) x ρ) fun ρ => evSs prg (callI prg 15) bodyB ρ A) (.live m) (LIM + 1) 0 (frL m [x3, x4, x5, none, none, none, none, none, none, none]) A) = .nx (frL m [x3, x4, x5, y6, y7, y8, none, none, none, none]) A' ∧
    LawI A' m (c + 100) ts := by
  rcases for_inv0 (N := ts.length) (q := .live m) (f := fun x ρ A => oS (stG A (.nm 6) x ρ) fun ρ => evSs prg (callI prg 15) bodyB ρ A)
    (fun i ρ B => ∃ y6 y7 y8, ρ = frL m [x3, x4, x5, y6, y7, y8, none, none, none, none] ∧ LawI B m (c + i) ts)
    (fun _ => False) (Nat.le_trans hl (by decide))
    (fun i ρ B hi ⟨y6, y7, y8, e, I⟩ => by
      subst e
      refine ⟨.str ts[i], by rw [item_live, listOf_lst I.txt]; simp [hi], .inl ?_⟩
      obtain ⟨B', z7, z8, ev, I2⟩ := turnB (x3 := x3) (x4 := x4) (x5 := x5) (x7 := y7) (x8 := y8) (x9 := none) (x10 := none) (x11 := none) (x12 := none) I (by omega) (ht _ (List.getElem_mem hi))
      exact ⟨_, B', .inl ev, some (.str ts[i]), z7, z8, rfl, I2⟩)
    (fun ρ B ⟨y6, y7, y8, e, I⟩ => by rw [item_live, listOf_lst I.txt]; simp) ⟨none, none, none, rfl, h⟩ with ⟨ρ', B, r, y6, y7, y8, e, I⟩ | ⟨z, _⟩
  · subst e
    exact ⟨B, y6, y7, y8, r, ⟨I.well.mono (by omega), I.txt, I.ne⟩⟩
  · exact z.elim
end LF.Pl
set_option Elab.async false
set_option linter.all false
set_option maxHeartbeats 8000000
set_option maxRecDepth 100000
/-! law: rows of steps, read and due. -/
namespace LF.Pl
open PySem
def bodyD : CSs := (.cons (.ite (.cmp .ne (.bi .repr (.cons (.said (.call 12 (.cons (.var 6) .nil) [] [0])) .nil)) (.bi .repr (.cons (.call 24 (.cons (.var 6) .nil) [] [0]) .nil))) (.cons (.ret (.bl false))
    .nil) .nil)
    .nil)
theorem turnD {A : IH} {m c : Nat} {ts : List Str} {x : Str} {x3 x4 x5 x7 x8 x9 x10 x11 x12 : Option IV} (h : LawI A m c ts) (hx : StTx x) :
    ∃ A', evSs prg (callI prg 15) bodyD (frL m [x3, x4, x5, some (.str x), x7, x8, x9, x10, x11, x12]) A = .nx (frL m [x3, x4, x5, some (.str x), x7, x8, x9, x10, x11, x12]) A' ∧ LawI A' m c ts := by
  obtain ⟨A1, g1, e1⟩ := said_rows 9 (C := .call 12 (.cons (.var 6) .nil) [] [0]) (ρ := frL m [x3, x4, x5, some (.str x), x7, x8, x9, x10, x11, x12]) (A := A) hx.tx (by
    simp only [frL, e_call, es_cons, es_nil, e_var, List.getElem?_cons_zero, List.getElem?_cons_succ, gV_some, bind_ok, List.append_nil, permute_one])
  have e1 : evE prg (callI prg 15) _ _ A = _ := e1
  obtain ⟨A2, g2, e2⟩ := f24 11 A1 x hx.tx hx.rows
  have e2 : callI prg 15 24 [.str x] A1 = .ok (outS (rowsOf x)) A2 := e2
  have sh := outS_sh hx
  generalize outS (rowsOf x) = v at *
  have r1 := repr_val (A := A1) sh
  have r2 := repr_val (A := A2) sh
  have ne := cmp_ne A2 sh.asc sh.asc
  rw [decide_eq_true rfl] at ne
  have G := g1.trans g2
  refine ⟨A2, ?_, ⟨h.well.gr G, G.get h.txt, h.ne⟩⟩
  unfold frL at e1
  simp only [bodyD, frL, ss_cons', s_ite', e_cmp, e_bi, es_cons, es_nil, e1, bind_ok, r1, e_call, e_var, List.getElem?_cons_zero, List.getElem?_cons_succ, gV_some, List.append_nil, permute_one, e2, r2, ne, on_ok, Bool.not_true, onS_bl, Bool.false_eq_true, if_false, ss_nil', next_nx]
theorem loopD {A : IH} {m c : Nat} {ts : List Str} {its : List IV} {x3 x4 x5 x6 x7 x8 x9 x10 x11 x12 : Option IV} (h : LawI A m c ts) (hl : its.length ≤ 100) (hi : ∀ v ∈ its, ∃ x, v = .str x ∧ StTx x) :
    ∃ A' y6, (forGo (fun x ρ A => oS (stG A (.nm 6) x ρ) fun ρ => evSs prg (callI prg 15) bodyD ρ A) (.fix its) (LIM + 1) 0 (frL m [x3, x4, x5, x6, x7, x8, x9, x10, x11, x12]) A) = .nx (frL m [x3, x4, x5, y6, x7, x8, x9, x10, x11, x12]) A' ∧ LawI A' m c ts := by
  rcases for_inv0 (N := its.length) (q := .fix its) (f := fun x ρ A => oS (stG A (.nm 6) x ρ) fun ρ => evSs prg (callI prg 15) bodyD ρ A)
    (fun i ρ B => ∃ y6, ρ = frL m [x3, x4, x5, y6, x7, x8, x9, x10, x11, x12] ∧ LawI B m c ts)
    (fun _ => False) (Nat.le_trans hl (by decide))
    (fun i ρ B hlt ⟨y6, e, I⟩ => by
      subst e
      obtain ⟨x, ex, sx⟩ := hi _ (List.getElem_mem hlt)
      refine ⟨.str x, by rw [item_fix, List.getElem?_eq_getElem hlt, ex], .inl ?_⟩
      obtain ⟨B', ev, I2⟩ := turnD (x3 := x3) (x4 := x4) (x5 := x5) (x7 := x7) (x8 := x8) (x9 := x9) (x10 := x10) (x11 := x11) (x12 := x12) I sx
      exact ⟨_, B', .inl ev, some (.str x), rfl, I2⟩)
    (fun ρ B ⟨y6, e, I⟩ => by rw [item_fix, List.getElem?_eq_none]; exact Nat.le_refl _) ⟨x6, rfl, h⟩ with ⟨ρ', B, r, y6, e, I⟩ | ⟨z, _⟩
  · subst e
    exact ⟨B, y6, r, I⟩
  · exact z.elim
/-! ### the rows -/
def rowsLc : CE := .lc (.me .join (.str " ") (.cons (.call 26 (.cons (.var 1) .nil) [] [0]) .nil)) (.nm 10) (.rng (.bin .add (.int 1) (.call 14 (.cons (.var 1) (.cons (.int 4) .nil)) [] [0, 1]))) .no [10]
theorem rows_made {A : IH} {m c : Nat} {x3 x4 x5 x6 x7 x8 x9 x10 x11 x12 : Option IV} (h : Well A 1 3 c) (hb : c + 20 ≤ 1000000) :
    ∃ (B : IH) (d : Nat) (rows : List Str), evE prg (callI prg 15) rowsLc (frL m [x3, x4, x5, x6, x7, x8, x9, x10, x11, x12]) A = .ok (.ref d) B ∧ B[d]? = some (.lst (rows.map .str)) ∧ d ≠ 1 ∧ 1 ≤ rows.length ∧ rows.length ≤ 4 ∧ (∀ r ∈ rows, TxB 9 0 r) ∧ Well B 1 3 (c + 13) ∧ Gw 1 A B := by
  obtain ⟨A1, r, c1, p1, q1, w1, s1⟩ := f14 14 h (by omega) (m_lit (m := 4) (by decide) (by decide))
  have c1 : callI prg 15 14 [.ref 1, .int 4] A = .ok (.int r) A1 := c1
  obtain ⟨R, rfl⟩ : ∃ R : Nat, r = R := ⟨r.toNat, (Int.toNat_of_nonneg p1).symm⟩
  have hR : R + 1 ≤ 4 := by omega
  have h1R : (1 : Int) + (R : Int) = ((R + 1 : Nat) : Int) := by omega
  obtain ⟨n1, n2⟩ := w1.ne_new
  obtain ⟨acc, B, e, ⟨rows, i0, i1, i2, i3, i4⟩, e2⟩ := lc_inv0 (q := .fix ((List.range (R + 1)).map fun (i : Nat) => IV.int (i : Int))) (N := R + 1) (A := A1)
    (f := fun x A => oG (stG A (.nm 10) x (wipeF (frL m [x3, x4, x5, x6, x7, x8, x9, x10, x11, x12]) [10])) fun ρ' => (evT prg (callI prg 15) .no ρ' A).bind fun b A => if b = true then (evE prg (callI prg 15) (.me .join (.str " ") (.cons (.call 26 (.cons (.var 1) .nil) [] [0]) .nil)) ρ' A).bind fun y A => .ok (some y) A else .ok none A)
    (fun i acc B => ∃ rows : List Str, acc = rows.map .str ∧ rows.length = i ∧ (∀ r ∈ rows, TxB 9 0 r) ∧ Well B 1 3 (c + 1 + i * 3) ∧ Gw 1 A1 B) (Nat.le_trans hR (by decide))
    (fun i acc B hi ⟨rows, j0, j1, j2, j3, j4⟩ hd => by
      have hit : (Sq.fix ((List.range (R + 1)).map fun (i : Nat) => IV.int (i : Int))).item i B = some (some (.int i)) := by
        rw [item_fix, List.getElem?_map, List.getElem?_range (by omega)]
        rfl
      obtain ⟨B', k, ws, ec, ek, nk, wd, wv, sv⟩ := f26 13 j3 (by omega)
      have ec : callI prg 15 26 [.ref 1] B = .ok (.ref k) B' := ec
      have z := wd.sz
      have mj := me_join (y := " ") ek sp_one.1 (by show _ ≤ 10000000; omega)
      have tj := join_bd (y := " ") tSp (by decide) (by decide) wd
      refine ⟨_, hit, some (.str (Txt.join " " ws)), B', ?_, sv.get _ _ n1 hd, rows ++ [Txt.join " " ws], by rw [j0, List.map_append]; rfl, by simp [j1], fun u hu => ?_, ?_, ?_⟩
      · simp only [frL, stG_nm, wipeF, List.length_cons, List.length_nil, List.length_set, Nat.reduceAdd, Nat.reduceLT, if_true, oG_some, List.set_cons_succ, List.set_cons_zero, t_no, bind_ok, e_me, e_str, recv_join, es_cons, es_nil, e_call, e_var, List.getElem?_cons_zero, List.getElem?_cons_succ, gV_some, List.append_nil, permute_one, ec, mj]
      · rcases List.mem_append.mp hu with e | e
        · exact j2 u e
        · rw [show u = _ from List.mem_singleton.mp e]; exact tj
      · have := wv.set n1 n2 (.lst (acc ++ (some (IV.str (Txt.join " " ws))).toList))
        rw [show c + 1 + (i + 1) * 3 = c + 1 + i * 3 + 3 by omega]
        exact this
      · exact (j4.trans sv).set (Nat.le_refl _) _)
    (fun acc B _ => by
      rw [item_fix, List.getElem?_eq_none]
      simp)
    ⟨[], rfl, rfl, fun v hv => (nomatch hv), (w1.gr (Gr.new _ _)).mono (by omega), (Gr.new A1 _).gw 1⟩
  refine ⟨B, A1.length, rows, ?_, by rw [e2, i0], n1, by omega, by omega, i2, i3.mono (by omega), s1.trans i4⟩
  refine Eq.trans ?_ e
  have hq : evQ prg (callI prg 15) (.rng (.bin .add (.int 1) (.call 14 (.cons (.var 1) (.cons (.int 4) .nil)) [] [0, 1]))) (frL m [x3, x4, x5, x6, x7, x8, x9, x10, x11, x12]) A = .ok (.fix ((List.range (R + 1)).map fun (i : Nat) => IV.int (i : Int))) A1 := by
    refine rng_ok ?_ (by omega)
    simp only [frL, e_bin, e_int, e_call, es_cons, es_nil, e_var, List.getElem?_cons_zero, List.getElem?_cons_succ, gV_some, bind_ok, List.append_nil, permute_two, c1, add_int, h1R]
  rw [rowsLc, e_lc, hq, bind_ok]
theorem rows_wd : ∀ {rows : List Str}, (∀ r ∈ rows, TxB 9 0 r) → Wd (10 * rows.length) 0 rows
  | [], _ => Wd.nil
  | r :: rs, h => by
    have a := h r List.mem_cons_self
    have b := rows_wd (rows := rs) fun z hz => h z (List.mem_cons_of_mem _ hz)
    have l := a.len
    have := (Wd.one a.asc a.op).app b
    exact this.mono (by rw [List.length_cons]; omega) (Nat.le_refl _)
end LF.Pl
set_option Elab.async false
set_option linter.all false
set_option maxHeartbeats 8000000
set_option maxRecDepth 100000
/-! law: the turns of the rows. -/
namespace LF.Pl
open PySem
def spE : CE := .bin .add (.bin .add (.sl (.var 9) .no (.some (.var 11))) (.lst (.cons (.call 25 (.cons (.var 1) (.cons (.ix (.var 9) (.var 11)) .nil)) [] [0, 1]) .nil))) (.sl (.var 9) (.some (.bin .add (.var 11) (.int 1))) .no)
def tupE : CE := .tup (.cons (.me .join (.str "\n") (.cons (.var 9) .nil)) (.cons (.me .join (.str "\n") (.cons (.var 12) .nil)) (.cons (.bin .add (.me .join (.str "\n") (.cons (.var 9) .nil)) (.str "\n")) (.cons (.ix (.var 2) (.var 3)) (.cons (.str "act 0 x") (.cons (.str "act 0 (") .nil))))))
def bodyC : CSs := (.cons (.asg (.nm 9) rowsLc)
    (.cons (.asg (.nm 11) (.call 14 (.cons (.var 1) (.cons (.bi .len (.cons (.var 9) .nil)) .nil)) [] [0, 1]))
    (.cons (.asg (.nm 12) spE)
    (.cons (.for (.nm 6) (.val tupE) bodyD)
    .nil))))
/-- one row of the rows spoilt -/
theorem sp_ok {A : IH} {m d c i : Nat} {rows : List Str} {x3 x4 x5 x6 x7 x8 x10 x12 : Option IV} (h : Well A 1 3 c) (hb : c + 4 ≤ 1000000) (hd : A[d]? = some (.lst (rows.map .str))) (nd : d ≠ 1) (hi : i < rows.length) (hl : rows.length ≤ 4) (hr : ∀ r ∈ rows, TxB 9 0 r) :
    ∃ B e ws, evE prg (callI prg 15) spE (frL m [x3, x4, x5, x6, x7, x8, some (.ref d), x10, some (.int (i : Int)), x12]) A = .ok (.ref e) B ∧ B[e]? = some (.lst (ws.map .str)) ∧ Wd 54 1 ws ∧ Well B 1 3 (c + 4) ∧ Gw 1 A B := by
  obtain ⟨A1, hA1⟩ : ∃ B, B = A ++ [IO.lst ((rows.take i).map IV.str)] := ⟨_, rfl⟩
  have g1 : Gr A A1 := by rw [hA1]; exact Gr.new _ _
  have s1 : slI (.ref d) none (some (i : Int)) A = .ok (.ref A.length) A1 := by rw [sl_ref _ _ hd, cut_map, cut_take, hA1]
  have a1 : A1[A.length]? = some (.lst ((rows.take i).map .str)) := by rw [hA1]; exact at_new _ _
  have xi : ixI (.ref d) (.int (i : Int)) A1 = .ok (.str rows[i]) A1 := by
    rw [ix_lst _ (g1.get hd), atI_in (by omega) (by rw [List.length_map]; omega), Int.toNat_natCast, List.getElem?_map, List.getElem?_eq_getElem hi]
    rfl
  obtain ⟨A2, y, e2, ty, w2, s2⟩ := f25 13 (h.gr g1) hb (hr _ (List.getElem_mem hi)) (by omega)
  have e2 : callI prg 15 25 [.ref 1, .str rows[i]] A1 = .ok (.str y) A2 := e2
  have ty : TxB 23 1 y := ty.mono (by decide) (by decide)
  have a2 := s2.get _ _ h.ne_new.1 a1
  have d2 := s2.get _ _ nd (g1.get hd)
  obtain ⟨A3, hA3⟩ : ∃ B, B = A2 ++ [IO.lst [IV.str y]] := ⟨_, rfl⟩
  have g3 : Gr A2 A3 := by rw [hA3]; exact Gr.new _ _
  have a3 : A3[A2.length]? = some (.lst [.str y]) := by rw [hA3]; exact at_new _ _
  have l1 : (rows.take i).length = i := by rw [List.length_take]; omega
  have l2 : (rows.drop (i + 1)).length = rows.length - (i + 1) := List.length_drop
  obtain ⟨A4, hA4⟩ : ∃ B, B = A3 ++ [IO.lst ((rows.take i).map IV.str ++ [IV.str y])] := ⟨_, rfl⟩
  have g4 : Gr A3 A4 := by rw [hA4]; exact Gr.new _ _
  have ad4 : binI .add (.ref A.length) (.ref A2.length) A3 = .ok (.ref A3.length) A4 := by
    rw [add_lst (g3.get a2) a3 (by rw [List.length_map, l1]; show _ + 1 ≤ 10000000; omega), hA4]
  have a4 : A4[A3.length]? = some (.lst ((rows.take i).map IV.str ++ [IV.str y])) := by rw [hA4]; exact at_new _ _
  have hi1 : (i : Int) + 1 = ((i + 1 : Nat) : Int) := by omega
  obtain ⟨A5, hA5⟩ : ∃ B, B = A4 ++ [IO.lst ((rows.drop (i + 1)).map IV.str)] := ⟨_, rfl⟩
  have g5 : Gr A4 A5 := by rw [hA5]; exact Gr.new _ _
  have s5 : slI (.ref d) (some ((i + 1 : Nat) : Int)) none A4 = .ok (.ref A4.length) A5 := by rw [sl_ref _ _ (g4.get (g3.get d2)), cut_map, cut_drop, hA5]
  have a5 : A5[A4.length]? = some (.lst ((rows.drop (i + 1)).map .str)) := by rw [hA5]; exact at_new _ _
  obtain ⟨A6, hA6⟩ : ∃ B, B = A5 ++ [IO.lst ((rows.take i).map IV.str ++ [IV.str y] ++ (rows.drop (i + 1)).map IV.str)] := ⟨_, rfl⟩
  have g6 : Gr A5 A6 := by rw [hA6]; exact Gr.new _ _
  have ad6 : binI .add (.ref A3.length) (.ref A4.length) A5 = .ok (.ref A5.length) A6 := by
    rw [add_lst (g5.get a4) a5 (by rw [List.length_append, List.length_map, List.length_map, l1, l2]; show _ + 1 + _ ≤ 10000000; omega), hA6]
  have a6 : A6[A5.length]? = some (.lst ((rows.take i ++ [y] ++ rows.drop (i + 1)).map .str)) := by rw [hA6, List.map_append, List.map_append]; exact at_new _ _
  have W1 := rows_wd (rows := rows.take i) fun r h' => hr r (List.mem_of_mem_take h')
  have W2 := rows_wd (rows := rows.drop (i + 1)) fun r h' => hr r (List.mem_of_mem_drop h')
  have ly := ty.len
  have W := (W1.app (Wd.one ty.asc ty.op)).app W2
  have G := ((g3.trans g4).trans g5).trans g6
  refine ⟨A6, A5.length, rows.take i ++ [y] ++ rows.drop (i + 1), ?_, a6, W.mono (by rw [l1, l2]; omega) (by omega), w2.gr G, ((g1.gw 1).trans s2).trans (G.gw 1)⟩
  simp only [spE, frL, e_bin, e_sl, e_var, List.getElem?_cons_zero, List.getElem?_cons_succ, gV_some, bind_ok, o_no, o_some, oI_int, s1, e_lst, es_cons, es_nil, e_call, e_ix, xi, List.append_nil, permute_two, e2, List.length_cons, List.length_nil, Nat.reduceAdd, show ((1 : Nat) ≤ LIM) = True from eq_true (by decide), if_true, newL_eq, ← hA3, ad4, e_int, add_int, hi1, s5, ad6]
theorem ix_app {A : IH} {m i : Nat} {as bs : List Str} (h : A[m]? = some (.lst ((as ++ bs).map .str))) (hi : i < as.length) : ixI (.ref m) (.int (i : Int)) A = .ok (.str as[i]) A := by
  rw [ix_lst _ h, atI_in (by omega) (by rw [List.length_map, List.length_append]; omega), Int.toNat_natCast, List.getElem?_map, List.getElem?_append_left hi, List.getElem?_eq_getElem hi]
  rfl
theorem lit_st {x : Str} (h : ((TL.tl x).all (fun c => decide (c < 128)) && decide (x.length ≤ 57)) = true) : StTx x := by
  obtain ⟨a, b⟩ := Bool.and_eq_true_iff.mp h
  exact ⟨asc_lit a, of_decide_eq_true b⟩
/-- the six texts -/
theorem tup_ok {A : IH} {m d e c i : Nat} {rows ws us : List Str} {x4 x5 x6 x7 x8 x10 x11 : Option IV} (h : LawI A m c (hands ++ us)) (hi : i < 10) (hd : A[d]? = some (.lst (rows.map .str))) (he : A[e]? = some (.lst (ws.map .str))) (W1 : Wd 40 0 rows) (W2 : Wd 54 1 ws) :
    ∃ its, evE prg (callI prg 15) tupE (frL m [some (.int (i : Int)), x4, x5, x6, x7, x8, some (.ref d), x10, x11, some (.ref e)]) A = .ok (.tup its) A ∧ its.length ≤ 100 ∧ ∀ v ∈ its, ∃ x, v = .str x ∧ StTx x := by
  have z1 := W1.sz
  have z2 := W2.sz
  have j1 := me_join (y := "\n") hd sp_one.2 (by show _ ≤ 10000000; omega)
  have j2 := me_join (y := "\n") he sp_one.2 (by show _ ≤ 10000000; omega)
  have t1 := join_bd (y := "\n") tNl (by decide) (by decide) W1
  have t2 := join_bd (y := "\n") tNl (by decide) (by decide) W2
  generalize Txt.join "\n" rows = a at *
  generalize Txt.join "\n" ws = b at *
  have l1 := t1.len
  have l2 := t2.len
  have hn : (("\n" : Str)).length = 1 := sp_one.2
  have c1 := cat_ok (x := a) (y := "\n") A (by rw [hn]; show _ ≤ 10000000; omega)
  have hlen : i < hands.length := Nat.lt_trans hi (by decide)
  have xi := ix_app h.txt hlen
  have th := hands_txt (List.getElem_mem hlen)
  refine ⟨[.str a, .str b, .str (a ++ "\n"), .str hands[i], .str "act 0 x", .str "act 0 ("], ?_, by show 6 ≤ 100; decide, fun v hv => ?_⟩
  · simp only [tupE, frL, e_tup, es_cons, es_nil, e_me, e_str, bind_ok, recv_join, if_true, e_var, List.getElem?_cons_zero, List.getElem?_cons_succ, gV_some, j1, j2, e_bin, c1, e_ix, xi, List.length_cons, List.length_nil, Nat.reduceAdd, show ((6 : Nat) ≤ LIM) = True from eq_true (by decide)]
  · simp only [List.mem_cons, List.not_mem_nil, or_false] at hv
    rcases hv with rfl | rfl | rfl | rfl | rfl | rfl
    · exact ⟨_, rfl, t1.asc, by omega⟩
    · exact ⟨_, rfl, t2.asc, by omega⟩
    · exact ⟨_, rfl, asc_app t1.asc (asc_lit (by decide +kernel)), by rw [len_app, hn]; omega⟩
    · exact ⟨_, rfl, th.asc, by have := th.len; omega⟩
    · exact ⟨_, rfl, lit_st (by decide +kernel)⟩
    · exact ⟨_, rfl, lit_st (by decide +kernel)⟩
theorem turnC {A : IH} {m c i : Nat} {us : List Str} {x4 x5 x6 x7 x8 x9 x10 x11 x12 : Option IV} (h : LawI A m c (hands ++ us)) (hi : i < 10) (hb : c + 20 ≤ 1000000) :
    ∃ A' y6 y9 y11 y12, evSs prg (callI prg 15) bodyC (frL m [some (.int (i : Int)), x4, x5, x6, x7, x8, x9, x10, x11, x12]) A = .nx (frL m [some (.int (i : Int)), x4, x5, y6, x7, x8, y9, x10, y11, y12]) A' ∧ LawI A' m (c + 20) (hands ++ us) := by
  obtain ⟨hw, ht, hne⟩ := h
  obtain ⟨A1, d, rows, e1, d1, nd, r1, r2, hr, w1, s1⟩ := rows_made (m := m) (x3 := some (.int (i : Int))) (x4 := x4) (x5 := x5) (x6 := x6) (x7 := x7) (x8 := x8) (x9 := x9) (x10 := x10) (x11 := x11) (x12 := x12) hw hb
  have hlen := len_lst d1
  rw [List.length_map] at hlen
  obtain ⟨A2, r, c2, p2, q2, w2, s2⟩ := f14 14 w1 (by omega) (mny (m := rows.length) (by omega) (by show _ ≤ 10000000; omega))
  have c2 : callI prg 15 14 [.ref 1, .int (rows.length : Nat)] A1 = .ok (.int r) A2 := c2
  obtain ⟨k, rfl⟩ : ∃ k : Nat, r = k := ⟨r.toNat, (Int.toNat_of_nonneg p2).symm⟩
  have d2 := s2.get _ _ nd d1
  obtain ⟨A3, e, ws, e3, b3, W2, w3, s3⟩ := sp_ok (m := m) (i := k) (x3 := some (.int (i : Int))) (x4 := x4) (x5 := x5) (x6 := x6) (x7 := x7) (x8 := x8) (x10 := x10) (x12 := x12) w2 (by omega) d2 nd (by omega) r2 hr
  have d3 := s3.get _ _ nd d2
  have t3 := ((s1.trans s2).trans s3).get _ _ hne ht
  have I3 : LawI A3 m (c + 20) (hands ++ us) := ⟨w3.mono (by omega), t3, hne⟩
  have W1 := (rows_wd hr).mono (T := 40) (d := 0) (by omega) (Nat.le_refl _)
  obtain ⟨its, e4, l4, h4⟩ := tup_ok (x4 := x4) (x5 := x5) (x6 := x6) (x7 := x7) (x8 := x8) (x10 := x10) (x11 := some (.int (k : Int))) I3 hi d3 b3 W1 W2
  obtain ⟨A5, y6, e5, I5⟩ := loopD (x3 := some (.int (i : Int))) (x4 := x4) (x5 := x5) (x6 := x6) (x7 := x7) (x8 := x8) (x9 := some (.ref d)) (x10 := x10) (x11 := some (.int (k : Int))) (x12 := some (.ref e)) I3 l4 h4
  refine ⟨A5, y6, some (.ref d), some (.int (k : Int)), some (.ref e), ?_, I5⟩
  unfold frL at e1 e3 e4 e5
  simp only [bodyC, frL, ss_cons', s_asg', e1, on_ok, stG_nm, List.length_cons, List.length_nil, Nat.reduceAdd, Nat.reduceLT, if_true, oS_some, List.set_cons_zero, List.set_cons_succ, next_nx, e_call, es_cons, es_nil, e_var, e_bi, List.getElem?_cons_zero, List.getElem?_cons_succ, gV_some, bind_ok, hlen, List.append_nil, permute_two, c2, e3, s_for', q_val, e4, qI_tup]
  simp only [stG_nm, List.length_cons, List.length_nil, Nat.reduceAdd, Nat.reduceLT, if_true, oS_some] at e5
  simp only [e5, next_nx, ss_nil']
end LF.Pl
set_option Elab.async false
set_option linter.all false
set_option maxHeartbeats 8000000
set_option maxRecDepth 100000
/-! law, whole. -/
namespace LF.Pl
open PySem
abbrev tenQ : Sq := .fix ((List.range 10).map fun (i : Nat) => IV.int (i : Int))
theorem loopC {A : IH} {m c : Nat} {us : List Str} {x3 x4 x5 x6 x7 x8 x9 x10 x11 x12 : Option IV} (h : LawI A m c (hands ++ us)) (hb : c + 200 ≤ 1000000) :
    ∃ A' y3 y6 y9 y11 y12, (forGo (fun x ρ A => oS (stG A (.nm 3) x ρ) fun ρ => evSs prg (callI prg 15) bodyC ρ A) tenQ (LIM + 1) 0 (frL m [x3, x4, x5, x6, x7, x8, x9, x10, x11, x12]) A) = .nx (frL m [y3, x4, x5, y6, x7, x8, y9, x10, y11, y12]) A' ∧ LawI A' m (c + 200) (hands ++ us) := by
  rcases for_inv0 (N := 10) (q := tenQ) (f := fun x ρ A => oS (stG A (.nm 3) x ρ) fun ρ => evSs prg (callI prg 15) bodyC ρ A)
    (fun i ρ B => ∃ y3 y6 y9 y11 y12, ρ = frL m [y3, x4, x5, y6, x7, x8, y9, x10, y11, y12] ∧ LawI B m (c + 20 * i) (hands ++ us))
    (fun _ => False) (by decide)
    (fun i ρ B hi ⟨y3, y6, y9, y11, y12, e, I⟩ => by
      subst e
      refine ⟨.int i, by rw [item_fix, List.getElem?_map, List.getElem?_range hi]; rfl, .inl ?_⟩
      obtain ⟨B', z6, z9, z11, z12, ev, I2⟩ := turnC (x4 := x4) (x5 := x5) (x6 := y6) (x7 := x7) (x8 := x8) (x9 := y9) (x10 := x10) (x11 := y11) (x12 := y12) I hi (by omega)
      exact ⟨_, B', .inl ev, some (.int i), z6, z9, z11, z12, rfl, I2⟩)
    (fun ρ B _ => by rw [item_fix, List.getElem?_eq_none]; simp) ⟨x3, x6, x9, x11, x12, rfl, h⟩ with ⟨ρ', B, r, y3, y6, y9, y11, y12, e, I⟩ | ⟨z, _⟩
  · subst e
    exact ⟨B, y3, y6, y9, y11, y12, r, I⟩
  · exact z.elim
def hand13 : CEs := (.cons (.str "") (.cons (.str " ") (.cons (.str "(") (.cons (.str ")") (.cons (.str "( )") (.cons (.str "( 1") (.cons (.str "1 2") (.cons (.str "( 1 ) )") (.cons (.str "( at 1 2 )") (.cons (.str "( at 1 )") (.cons (.str "-") (.cons (.str "--") (.cons (.str "@") .nil)))))))))))))
def hand2 : CEs := (.cons (.str "@1.2.3") (.cons (.str "@1.") .nil))
def h13 : List IV := [.str "", .str " ", .str "(", .str ")", .str "( )", .str "( 1", .str "1 2", .str "( 1 ) )", .str "( at 1 2 )", .str "( at 1 )", .str "-", .str "--", .str "@"]
def h2 : List IV := [.str "@1.2.3", .str "@1."]
theorem h15 : h13 ++ h2 = hands.map .str := rfl
def end27 : CE := .cmp .eq (.bi .repr (.cons (.call 12 (.cons (.str "") .nil) [] [0]) .nil)) (.str "()")
theorem b27_eq : b27 = (.cons (.asg (.nm 1) (.call 13 (.cons (.var 0) .nil) [] [0])) (.cons (.asg (.nm 2) (.lst hand13)) (.cons (.asg (.nm 2) (.bin .add (.var 2) (.lst hand2)))
    (.cons (.for (.nm 3) (.rng (.int 10)) bodyA) (.cons (.for (.nm 6) (.val (.var 2)) bodyB) (.cons (.for (.nm 3) (.rng (.int 10)) bodyC) (.cons (.ret end27) .nil))))))) := rfl
theorem hand13_eq (P : Prg) (C : Cal) (ρ : Fr) (A : IH) : evE P C (.lst hand13) ρ A = .ok (.ref A.length) (A ++ [.lst h13]) := by
  have l : (0 + 1 + 1 + 1 + 1 + 1 + 1 + 1 + 1 + 1 + 1 + 1 + 1 + 1 ≤ LIM) = True := eq_true (by decide)
  simp only [hand13, e_lst, es_cons, es_nil, e_str, bind_ok, List.length_cons, List.length_nil, l, if_true, newL_eq]
  rfl
theorem hand2_eq (P : Prg) (C : Cal) (ρ : Fr) (A : IH) : evE P C (.lst hand2) ρ A = .ok (.ref A.length) (A ++ [.lst h2]) := by
  have l : (0 + 1 + 1 ≤ LIM) = True := eq_true (by decide)
  simp only [hand2, e_lst, es_cons, es_nil, e_str, bind_ok, List.length_cons, List.length_nil, l, if_true, newL_eq]
  rfl
theorem rng10 (C : Cal) (ρ : Fr) (A : IH) : evQ prg C (.rng (.int 10)) ρ A = .ok tenQ A := rng_ok (R := 10) (e_int _ _ _ _ _) (by decide)
theorem sh_unit : Sh (.tup []) := by
  unfold Sh
  rw [gdV, gdVs, dpV, dpVs, mzV, mzVs]
  exact ⟨rfl, by decide, by decide⟩
theorem end_ok (ρ : Fr) (A : IH) : ∃ A', evE prg (callI prg 15) end27 ρ A = .ok (.bl true) A' := by
  obtain ⟨A1, g1, e1⟩ := f12 9 A "" ⟨asc_lit (by decide +kernel), by decide⟩
  have e1 : callI prg 15 12 [.str ""] A = .ok (.tup []) A1 := e1
  have r1 := repr_val (A := A1) sh_unit
  have q := cmp_eq A1 sh_unit.asc (asc_lit (x := "()") (by decide +kernel))
  rw [decide_eq_true (show (datV (.tup [])).shown = "()" by decide +kernel)] at q
  refine ⟨A1, ?_⟩
  simp only [end27, e_cmp, e_bi, es_cons, es_nil, e_call, e_str, bind_ok, List.append_nil, permute_one, e1, r1, q]
theorem law_plain (ns : List Int) : ∃ A, callI prg 16 27 [.ref 0] [.fro ns] = .ok (.bl true) A := by
  obtain ⟨A1, e1, w1⟩ := f13 14 ns
  have e1 : callI prg 15 13 [.ref 0] [.fro ns] = .ok (.ref 1) A1 := e1
  obtain ⟨A2, hA2⟩ : ∃ B, B = A1 ++ [IO.lst h13] := ⟨_, rfl⟩
  obtain ⟨A3, hA3⟩ : ∃ B, B = A2 ++ [IO.lst h2] := ⟨_, rfl⟩
  obtain ⟨A4, hA4⟩ : ∃ B, B = A3 ++ [IO.lst (h13 ++ h2)] := ⟨_, rfl⟩
  have g2 : Gr A1 A2 := by rw [hA2]; exact Gr.new _ _
  have g3 : Gr A2 A3 := by rw [hA3]; exact Gr.new _ _
  have g4 : Gr A3 A4 := by rw [hA4]; exact Gr.new _ _
  have t2 := fun ρ => hand13_eq prg (callI prg 15) ρ A1
  have t3 := fun ρ => hand2_eq prg (callI prg 15) ρ A2
  rw [← hA2] at t2
  rw [← hA3] at t3
  have a2 : A2[A1.length]? = some (.lst h13) := by rw [hA2]; exact at_new _ _
  have a3 : A3[A2.length]? = some (.lst h2) := by rw [hA3]; exact at_new _ _
  have ad : binI .add (.ref A1.length) (.ref A2.length) A3 = .ok (.ref A3.length) A4 := by
    rw [add_lst (g3.get a2) a3 (by decide), hA4]
  have w4 := w1.gr ((g2.trans g3).trans g4)
  have l1 := w1.lt
  have le2 := (g2.trans g3).le
  have I4 : LawI A4 A3.length 0 hands := ⟨w4, by rw [hA4, h15]; exact at_new _ _, by omega⟩
  obtain ⟨A5, m, ts, y3, y4, y5, e5, I5, hl, ht⟩ := loopA I4
  obtain ⟨A6, y6, y7, y8, e6, I6⟩ := loopB (x3 := y3) (x4 := y4) (x5 := y5) I5 (by decide) (by rw [List.length_append, hl]; decide) (fun x hx => by
    rcases List.mem_append.mp hx with h | h
    · exact (hands_txt h).mono (by decide) (by decide)
    · exact ht x h)
  obtain ⟨A7, z3, z6, z9, z11, z12, e7, I7⟩ := loopC (x3 := y3) (x4 := y4) (x5 := y5) (x6 := y6) (x7 := y7) (x8 := y8) (x9 := none) (x10 := none) (x11 := none) (x12 := none) I6 (by decide)
  obtain ⟨A8, e8⟩ := end_ok (frL m [z3, y4, y5, z6, y7, y8, z9, none, z11, z12]) A7
  refine ⟨A8, ?_⟩
  have q6 : (listOf A5 m).isSome = true := by rw [listOf_lst I5.txt]; rfl
  rw [call_eq (d := ⟨1, 13, b27⟩) rfl rfl, b27_eq]
  unfold frL at e5 e6 e7 e8
  simp only [ss_cons', s_asg', startF_one, List.replicate, e_call, es_cons, es_nil, e_var, List.getElem?_cons_zero, List.getElem?_cons_succ, gV_some, bind_ok, List.append_nil, permute_one, e1, on_ok, stG_nm, List.length_cons, List.length_nil, Nat.reduceAdd, Nat.reduceLT, if_true, oS_some, List.set_cons_zero, List.set_cons_succ, next_nx, t2, e_bin, t3, ad]
  simp only [stG_nm] at e5 e6 e7
  rw [s_for', rng10, on_ok]
  simp only [stG_nm]
  rw [e5]
  simp only [next_nx]
  rw [s_for', q_val, e_var]
  simp only [List.getElem?_cons_zero, List.getElem?_cons_succ, gV_some, bind_ok, qI_ref, q6, if_true, on_ok, stG_nm]
  rw [e6]
  simp only [next_nx]
  rw [s_for', rng10, on_ok]
  simp only [stG_nm]
  rw [e7]
  simp only [next_nx, s_ret', e8, on_ok, next_rt, fin_rt]
end LF.Pl
set_option Elab.async false
set_option linter.all false
set_option maxRecDepth 1000000
set_option maxHeartbeats 0
open PySem PySem.W PySem.Calls PyProof.Rows
theorem PySem.Challenge.cw_letterfolk_k86_texts_refused_holds : PySem.Challenge.rw_letterfolk_k86_texts_refused.Holds := by
  have hlaw : LF.Law86 := fun ns _ _ => LF.Pl.law_plain ns
  w_on; o_law
  refine HandSHeadRun.head_any (r := OpenLaw.row PySem.Challenge.rw_letterfolk_k86_texts_refused) (q := LF.q86) (H := LF.hk86) (ob := LF.ob86) (M := 40000) (loose := LF.names86) (d := HandSHeadRun.topDef (OpenLaw.row PySem.Challenge.rw_letterfolk_k86_texts_refused).prog 52) (kwd := []) LF.ob86_eq
    (by kernel_rfl) (fun s => by kernel_rfl) LF.run86 (by kernel_rfl) (by kernel_rfl) (by kernel_rfl) (by rfl) (by first | assumption | decide +kernel) (by decide +kernel) ⟨rfl, rfl, rfl, rfl, rfl, by decide +kernel⟩ ?hw ?hc
  case hw => w_witness2
  case hc =>
    refine Att.attach_callB (l := PySem.Challenge.rw_letterfolk_k86_texts_refused) (n := 63) rfl (by kernel_rfl) fun w s₀ s₁ mg mb fa o pm cd doc a vs ns G Y ho hd hcd hmg hobj hints hlen hbits hg => ?_
    obtain ⟨K, KX, c⟩ := Y
    have hmg' : mg ("law" : PySem.Str) = some (.ref fa) := by
      have e : (HandSHeadRun.topDef (OpenLaw.row PySem.Challenge.rw_letterfolk_k86_texts_refused).prog 52).name = ("law" : PySem.Str) := by kernel_rfl
      rw [← e]
      exact hmg
    exact LF.call86 _ hlaw KX G.T.g G.T.b G.T.builtins G.T.nolimit hg G.T.bmain hobj hints hlen hbits hmg' c
