import PyProof.Rows.All
import Wide.All
import OpenK.AllK
import Wide.FinOn
import HandS.ForMost
import HandS.ForExc
import HandS.TupAny
import HandS.Wide
import HandS.Deep
import HandS.Flow
import HandS.IsInst
import HandS.Zip
import HandS.ListItems
import KE.KeyNested
import KE.KDictWalk
import KE.KDictKeyed
import KE.SortData
import KE.SortKeyHeap
import HandS.TupMul
import HandS.TupLe
import KE.SortCalls
import KE.KDictCopyH
import HandS.Conv
import KE.KDictPairs
import KE.KDictOf
import HandS.SetTxt0
import HandS.TupSets
import HandS.SetFor
import HandS.Strs
import HandS.Codes
import HandS.Style
import HandS.Words
import KE.KStateDown
import HandS.Defaults
import HandS.Head0
import HandS.Head1
import HandS.Head2
import HandS.HeadEnd
import HandS.HeadHook1
import HandS.HeadHook2
import Wide.Once
import PySem.Challenge.RW_intoorover_k01_values_recognized
set_option Elab.async false
set_option linter.all false
set_option maxRecDepth 100000
/-! Ev: a small language of values and its evaluator. -/
namespace Mp
open PySem PySem.Spec PyProof.Rows

/-- data: what is shared and changed stands in a store, by number -/
inductive D where
  | non
  | bl (b : Bool)
  | int (i : Int)
  | str (s : Str)
  | tup (xs : List D)
  | lst (xs : List D)
  | dic (ks : List NestedKey) (vs : List D)
  | ref (n : Nat)
  | cel (xs : List D)
  deriving Inhabited

/-- a store's object -/
inductive SO where
  | lst (xs : List D)
  | dic (ks : List NestedKey) (vs : List D)
  deriving Inhabited

/-- each with the number of writes so far -/
abbrev Sto := List (Nat × SO)
/-- how a value is held: for good (f), by a name that may still change it (b), new (n) -/
inductive Tag where
  | f | b | n
  deriving DecidableEq, Inhabited

inductive Res (a : Type) where
  | ok (x : a) (s : Sto)
  | exc (c : Nat) (fs : List D) (s : Sto)
  | bad
  deriving Inhabited

def Res.bind {a b : Type} (r : Res a) (k : a → Sto → Res b) : Res b :=
  match r with
  | .ok x s => k x s
  | .exc c fs s => .exc c fs s
  | .bad => .bad
@[simp] theorem Res.bind_ok {a b : Type} (x : a) (s : Sto) (k : a → Sto → Res b) : (Res.ok x s).bind k = k x s := rfl
@[simp] theorem Res.bind_exc {a b : Type} (c : Nat) (fs : List D) (s : Sto) (k : a → Sto → Res b) : (Res.exc (a := a) c fs s).bind k = .exc c fs s := rfl
@[simp] theorem Res.bind_bad {a b : Type} (k : a → Sto → Res b) : (Res.bad (a := a)).bind k = .bad := rfl

abbrev DT := D × Tag
/-- a place of a frame: not yet told, a value, a value that the frame alone holds and may change -/
inductive SV where
  | no
  | val (d : D)
  | own (d : D)
  deriving Inhabited
abbrev Env := List SV

inductive BO where
  | add | sub | mul | fdiv | mod | pow
  deriving DecidableEq, Inhabited
inductive CO where
  | eq | ne | lt | le | gt | ge | is | isn | inn | nin
  deriving DecidableEq, Inhabited
inductive BF where
  | len | isi (t : String) | all | sorted | sortedset | sortkey0 | list | tuple | dict | min2 | int | abs
  deriving DecidableEq, Inhabited
inductive MF where
  | get1 | split | join
  deriving DecidableEq, Inhabited
inductive CT where
  | nm (i : Nat)
  | tup (is : List Nat)
  deriving DecidableEq, Inhabited

mutual
inductive CE where
  | cst (d : D)
  | glb (x : Str) (d : D)
  | var (i : Nat)
  | tup (es : List CE)
  | lst (es : List CE)
  | dct (ks : List Str) (es : List CE)
  | new (e : CE)
  | sub (a b : CE)
  | sli (a : CE) (lo hi : CE)
  | sliL (a : CE) (lo : CE)
  | sliH (a : CE) (hi : CE)
  | bin (o : BO) (a b : CE)
  | cmp (o : CO) (a b : CE)
  | chn (o p : CO) (a b c : CE)
  | and (es : List CE)
  | or (es : List CE)
  | not (a : CE)
  | ite (c a b : CE)
  | cal (f : Nat) (es : List CE)
  | blt (f : BF) (es : List CE)
  | mth (m : MF) (o : CE) (es : List CE)
  | get2 (o k x : CE)
  | lc (elt : CE) (tg : CT) (it : CI) (ifs : Option CE) (vs : List Nat)
inductive CI where
  | seq (e : CE)
  | vals (e : CE)
  | items (e : CE)
  | range1 (e : CE)
  | range2 (a b : CE)
  | zip (a b : CE)
  | enum (e : CE)
end
instance : Inhabited CE := ⟨.cst .non⟩
instance : Inhabited CI := ⟨.seq default⟩

inductive CS where
  | expr (e : CE)
  | asg (i : Nat) (e : CE)
  | asgO (i : Nat) (e : CE)
  | asgT (is : List Nat) (e : CE)
  | par2 (i j : Nat) (a b : CE)
  | par3 (i j k : Nat) (a b c : CE)
  | subO (i : Nat) (ix e : CE)
  | subS (o ix e : CE)
  | subS2 (o1 i1 o2 i2 e : CE)
  | appO (i : Nat) (e : CE)
  | appS (o e : CE)
  | updO (i : Nat) (e : CE)
  | ret (e : CE)
  | retO (i : Nat)
  | retN
  | ite (c : CE) (a b : List CS)
  | for_ (tg : CT) (it : CI) (body : List CS)
  | while_ (c : CE) (body : List CS)
  | pass
  | raise (c : Nat) (es : List CE)
  deriving Inhabited

/-! ### looks at values -/
mutual
def D.pd : D → PyData
  | .non => .none
  | .bl b => .bool b
  | .int i => .int i
  | .str s => .str s
  | .tup xs => .tuple (D.pds xs)
  | .lst xs => .list (D.pds xs)
  | .dic _ _ => .dict []
  | .ref _ => .dict []
  | .cel _ => .dict []
def D.pds : List D → List PyData
  | [] => []
  | x :: xs => D.pd x :: D.pds xs
end
mutual
def D.key : D → Option NestedKey
  | .non => some .none
  | .int i => some (.num i)
  | .str s => some (.text s)
  | .tup xs => match D.keys xs with
    | some ks => some (.tup ks)
    | none => none
  | _ => none
def D.keys : List D → Option (List NestedKey)
  | [] => some []
  | x :: xs => match D.key x, D.keys xs with
    | some k, some ks => some (k :: ks)
    | _, _ => none
end
mutual
def ofKey : NestedKey → D
  | .none => .non
  | .num i => .int i
  | .text s => .str s
  | .tup ks => .tup (ofKeys ks)
def ofKeys : List NestedKey → List D
  | [] => []
  | k :: ks => ofKey k :: ofKeys ks
end
/-- == where it is told -/
def D.eqq (x y : D) : Option Bool :=
  if SeqAt.shaped x.pd && SeqAt.shaped y.pd then some (PyData.eqv x.pd y.pd) else none
def seqV (s : Sto) : D → Option (List D)
  | .lst xs => some xs
  | .tup xs => some xs
  | .ref n => match s[n]? with
    | some (_, .lst xs) => some xs
    | _ => none
  | _ => none
/-- what may be indexed, measured and walked: also a list that is only read -/
def seqR (s : Sto) (d : D) : Option (List D) := match d with
  | .cel xs => some xs
  | d => seqV s d
def lstV (s : Sto) : D → Option (List D)
  | .lst xs => some xs
  | .ref n => match s[n]? with
    | some (_, .lst xs) => some xs
    | _ => none
  | _ => none
def dicV (s : Sto) : D → Option (List NestedKey × List D)
  | .dic ks vs => some (ks, vs)
  | .ref n => match s[n]? with
    | some (_, .dic ks vs) => some (ks, vs)
    | _ => none
  | _ => none
def look (ks : List NestedKey) (vs : List D) (k : NestedKey) : Option D :=
  match ks, vs with
  | a :: ks, v :: vs => if NestedKey.beq a k then some v else look ks vs k
  | _, _ => none
def has (ks : List NestedKey) (k : NestedKey) : Bool := ks.any fun a => NestedKey.beq a k
/-- d[k] = v -/
def putV (ks : List NestedKey) (vs : List D) (k : NestedKey) (v : D) : List D :=
  match ks, vs with
  | a :: ks, u :: vs => if NestedKey.beq a k then v :: vs else u :: putV ks vs k v
  | _, _ => [v]
def putK (ks : List NestedKey) (k : NestedKey) : List NestedKey := if has ks k then ks else ks ++ [k]
def keyOf (d : D) : Option NestedKey :=
  match d.key with
  | some k => if k.depth ≤ 8 then some k else none
  | none => none
def kindName (s : Sto) : D → Option String
  | .non => some "NoneType"
  | .bl _ => some "bool"
  | .int _ => some "int"
  | .str _ => some "str"
  | .tup _ => some "tuple"
  | .lst _ => some "list"
  | .dic _ _ => some "dict"
  | .ref n => match s[n]? with
    | some (_, .lst _) => some "list"
    | some (_, .dic _ _) => some "dict"
    | none => none
  | .cel _ => none
/-- a test's value: bools alone -/
def truth (d : D) : Option Bool :=
  match d with
  | .bl b => some b
  | _ => none
def cut (xs : List D) (lo hi : Option Int) : List D := (xs.drop (HT.sIx xs.length 0 lo)).take (HT.sIx xs.length xs.length hi - HT.sIx xs.length 0 lo)
def asInt : D → Option Int
  | .int i => some i
  | _ => none
def fresh (d : D) : DT := (d, .n)
def held (d : D) : DT := (d, .f)

def binF (s : Sto) (o : BO) (x y : D) : Option DT :=
  match o, x, y with
  | .add, .int i, .int j => some (held (.int (i + j)))
  | .add, .str a, .str b => if a.length + b.length ≤ 16777216 then some (held (.str (a ++ b))) else none
  | .add, .tup a, .tup b => if a.length + b.length ≤ 16777216 then some (held (.tup (a ++ b))) else none
  | .add, x, y => match lstV s x, lstV s y with
    | some a, some b => if a.length + b.length ≤ 16777216 then some (fresh (.lst (a ++ b))) else none
    | _, _ => none
  | .sub, .int i, .int j => some (held (.int (i - j)))
  | .mul, .int i, .int j => if (-(2 ^ 64) < i ∧ i < 2 ^ 64) ∨ (-(2 ^ 64) < j ∧ j < 2 ^ 64) then some (held (.int (i * j))) else none
  | .mul, .tup a, .int k => if a ≠ [] ∧ 2 ≤ k ∧ k ≤ 1000 ∧ a.length ≤ 1000 then some (held (.tup (List.replicate k.toNat a).flatten)) else none
  | .fdiv, .int i, .int j => if 0 < j ∧ j < 1073741824 then some (held (.int (i / j))) else none
  | .mod, .int i, .int j => if 0 < j then some (held (.int (i % j))) else none
  | .pow, .int i, .int j => if 0 ≤ j ∧ j ≤ 1000000 ∧ i.natAbs < 2 ^ 64 then some (held (.int (i ^ j.toNat))) else none
  | _, _, _ => none

def isScal : D → Bool
  | .non | .bl _ | .int _ | .str _ => true
  | _ => false
def cmpF (s : Sto) (o : CO) (x y : D) : Option Bool :=
  match o with
  | .eq => match lstV s x, lstV s y with
    | some a, some b => D.eqq (.lst a) (.lst b)
    | some a, none => D.eqq (.lst a) y
    | none, some b => D.eqq x (.lst b)
    | none, none => D.eqq x y
  | .ne => match lstV s x, lstV s y with
    | some a, some b => (D.eqq (.lst a) (.lst b)).map (!·)
    | some a, none => (D.eqq (.lst a) y).map (!·)
    | none, some b => (D.eqq x (.lst b)).map (!·)
    | none, none => (D.eqq x y).map (!·)
  | .lt => match x, y with
    | .int i, .int j => some (decide (i < j))
    | .str a, .str b => some (decide (a.cps.toList < b.cps.toList))
    | _, _ => none
  | .le => match x, y with
    | .int i, .int j => some (decide (i ≤ j))
    | .str a, .str b => some (!decide (b.cps.toList < a.cps.toList))
    | _, _ => none
  | .gt => match x, y with
    | .int i, .int j => some (decide (j < i))
    | .str a, .str b => some (decide (b.cps.toList < a.cps.toList))
    | _, _ => none
  | .ge => match x, y with
    | .int i, .int j => some (decide (j ≤ i))
    | .str a, .str b => some (!decide (a.cps.toList < b.cps.toList))
    | _, _ => none
  | .is => match y with
    | .non => some (match x with | .non => true | _ => false)
    | .bl b => match x with
      | .bl a => some (decide (a = b))
      | _ => none
    | _ => none
  | .isn => match y with
    | .non => some (match x with | .non => false | _ => true)
    | .bl b => match x with
      | .bl a => some (!decide (a = b))
      | _ => none
    | _ => none
  | .inn => inF s x y
  | .nin => (inF s x y).map (!·)
where
  inF (s : Sto) (x y : D) : Option Bool :=
    match y with
    | .str z => match x with
      | .str ⟨⟨[c]⟩⟩ => some (decide (c ∈ z.cps.toList))
      | _ => none
    | y => match dicV s y with
      | some (ks, _) => (keyOf x).map (has ks)
      | none => match seqV s y with
        | some xs => if SeqAt.shaped x.pd && SeqAt.shaped (D.lst xs).pd then some (xs.any fun z => PyData.eqv z.pd x.pd) else none
        | none => none

def subF (s : Sto) (x y : D) : Option DT :=
  match x, y with
  | .str z, .int i => match L2.atI z.cps.toList i with
    | some c => if z.length ≤ 16777216 then some (held (.str ⟨#[c]⟩)) else none
    | none => none
  | x, y => match seqR s x, y with
    | some xs, .int i => (L2.atI xs i).map held
    | _, _ => match dicV s x, keyOf y with
      | some (ks, vs), some k => (look ks vs k).map held
      | _, _ => none
def sliF (s : Sto) (x : D) (lo hi : Option Int) : Option DT :=
  match x with
  | .str z => if z.length ≤ 16777216 then some (held (.str (L2.cutS z lo hi))) else none
  | .tup xs => some (held (.tup (cut xs lo hi)))
  | x => match lstV s x with
    | some xs => some (fresh (.lst (cut xs lo hi)))
    | none => none

/-- which order sorted() takes: all alike data, or tuples led by texts that differ -/
def leadStr : D → Option Str
  | .tup (.str z :: _) => some z
  | _ => none
def leads : List D → Option (List Str)
  | [] => some []
  | x :: xs => match leadStr x, leads xs with
    | some z, some zs => some (z :: zs)
    | _, _ => none
def sortD (xs : List D) : Option (List D) :=
  if xs.all (fun x => xs.all fun y => W.alike x.pd y.pd) && (xs.all (fun x => match x with | .tup (_ :: _) => true | _ => false) || xs.all (fun x => match x with | .str _ => true | .int _ => true | _ => false)) && xs.all (fun x => SeqAt.shaped x.pd) then some (xs.mergeSort (W.dataLe false D.pd))
  else match leads xs with
    | some zs => if zs.Nodup then some (xs.mergeSort (W.dataLe false fun d => .str ((leadStr d).getD Str.empty))) else none
    | none => none
def txts : List D → Option (List Str)
  | [] => some []
  | .str z :: xs => (txts xs).map (z :: ·)
  | _ => none
def bls : List D → Option (List Bool)
  | [] => some []
  | .bl b :: xs => (bls xs).map (b :: ·)
  | _ => none
def pairsD : List D → Option (List (NestedKey × D))
  | [] => some []
  | .tup [k, v] :: xs => match keyOf k, pairsD xs with
    | some q, some r => some ((q, v) :: r)
    | _, _ => none
  | _ => none
def mergeD (ks : List NestedKey) (vs : List D) : List (NestedKey × D) → List NestedKey × List D
  | [] => (ks, vs)
  | (k, v) :: r => mergeD (putK ks k) (putV ks vs k v) r
def isiF (s : Sto) (t : String) (d : D) : Option Bool :=
  match kindName s d with
  | some n => some (n == t || (n == "bool" && t == "int"))
  | none => none

def bltF (s : Sto) (f : BF) (as : List D) : Option DT :=
  match f, as with
  | .len, [d] => match d with
    | .str z => if z.length ≤ 16777216 then some (held (.int z.length)) else none
    | d => match seqR s d with
      | some xs => some (held (.int xs.length))
      | none => none
  | .isi t, [d] => (isiF s t d).map fun b => held (.bl b)
  | .all, [d] => match lstV s d with
    | some xs => (bls xs).map fun bs => held (.bl (bs.all id))
    | none => none
  | .sorted, [d] => match lstV s d with
    | some xs => (sortD xs).map fun ys => fresh (.lst ys)
    | none => none
  | .sortkey0, [d] => match lstV s d with
    | some xs => match leads xs with
      | some zs => if zs.Nodup then some (fresh (.lst (xs.mergeSort (W.dataLe false fun d => .str ((leadStr d).getD Str.empty))))) else none
      | none => none
    | none => none
  | .sortedset, [d] => match seqV s d with
    | some xs => match txts xs with
      | some zs => if zs.length < 4000 then some (fresh (.lst ((zs.eraseDups.mergeSort (W.dataLe false PyData.str)).map D.str))) else none
      | none => none
    | none => none
  | .list, [d] => match seqV s d with
    | some xs => some (fresh (.lst xs))
    | none => match dicV s d with
      | some (ks, _) => some (fresh (.lst (ofKeys ks)))
      | none => none
  | .tuple, [d] => (seqV s d).map fun xs => held (.tup xs)
  | .dict, [d] => match dicV s d with
    | some (ks, vs) => if ks.all (fun k => match k with | .text _ => true | _ => false) then some (fresh (.dic ks vs)) else none
    | none => match lstV s d with
      | some xs => (pairsD xs).map fun ps => fresh (.dic (mergeD [] [] ps).1 (mergeD [] [] ps).2)
      | none => none
  | .min2, [a, b] => minF a b
  | .int, [a] => intF a
  | .abs, [a] => absF a
  | _, _ => none
where
  minF : D → D → Option DT
  | .int i, .int j => some (held (.int (if j < i then j else i)))
  | _, _ => none
  intF : D → Option DT
  | .int i => some (held (.int i))
  | _ => none
  absF : D → Option DT
  | .int i => some (held (.int (if i < 0 then -i else i)))
  | _ => none

def mthF (s : Sto) (m : MF) (o : D) (as : List D) : Option DT :=
  match m, as with
  | .get1, [k] => match dicV s o, keyOf k with
    | some (ks, vs), some k => some (held ((look ks vs k).getD .non))
    | _, _ => none
  | .split, [.str b] => match o with
    | .str a => if (b.length == 0) = false ∧ a.length + 2 ≤ 16777216 then some (fresh (.lst ((Txt.split a b).map D.str))) else none
    | _ => none
  | .join, [d] => match o, (seqV s d).bind txts with
    | .str a, some ys => if (ys.map (·.length)).sum + ys.length * a.length ≤ 16777216 then some (held (.str (Txt.join a ys))) else none
    | _, _ => none
  | _, _ => none

/-! ### the evaluator -/
abbrev Calls := Nat → List D → Sto → Res D
def esc (x : DT) : Option D := match x.2 with
  | .b => none
  | _ => some x.1
def ofOpt {a : Type} (o : Option a) (s : Sto) : Res a := match o with
  | some x => .ok x s
  | none => .bad
@[simp] theorem ofOpt_some {a : Type} (x : a) (s : Sto) : ofOpt (some x) s = .ok x s := rfl
@[simp] theorem ofOpt_none {a : Type} (s : Sto) : ofOpt (none : Option a) s = .bad := rfl
def wipeE (r : Env) : List Nat → Env
  | [] => r
  | v :: vs => (wipeE r vs).set v .no
/-- the names of a target get their values -/
def bindT (r : Env) (tg : CT) (d : D) : Option Env :=
  match tg with
  | .nm i => some (r.set i (.val d))
  | .tup is => match d with
    | .tup xs => bindAll r is xs
    | _ => none
where
  bindAll (r : Env) (is : List Nat) (xs : List D) : Option Env :=
    match is, xs with
    | [], [] => some r
    | i :: is, x :: xs => bindAll (r.set i (.val x)) is xs
    | _, _ => none
def lcLoop (ok : Sto → Bool) (f : D → Sto → Res (Option D)) : List D → List D → Sto → Res (List D)
  | [], acc, s => if ok s then .ok acc s else .bad
  | x :: xs, acc, s => if ok s then (f x s).bind fun o s => match o with
    | some y => if acc.length < 16777216 then lcLoop ok f xs (acc ++ [y]) s else .bad
    | none => lcLoop ok f xs acc s else .bad
def signs (z : Str) : List D := z.cps.toList.map fun c => .str ⟨#[c]⟩
def zipD : List D → List D → List D
  | x :: xs, y :: ys => .tup [x, y] :: zipD xs ys
  | _, _ => []
def itemsD : List NestedKey → List D → List D
  | k :: ks, v :: vs => .tup [ofKey k, v] :: itemsD ks vs
  | _, _ => []
def enumD (i : Nat) : List D → List D
  | [] => []
  | x :: xs => .tup [.int i, x] :: enumD (i + 1) xs
def rangeD (lo hi : Int) : List D := (List.range (hi - lo).toNat).map fun k => .int (lo + (k : Nat))
/-- what a loop walks: held for good, a place of the frame's own, the store's object n as it was written v times -/
inductive Src where
  | held
  | own
  | obj (n v : Nat)
  | bad
  deriving DecidableEq, Inhabited
structure Its where
  xs : List D
  src : Src
def srcD (s : Sto) (x : DT) : Src := match x.1 with
  | .ref n => match s[n]? with
    | some (v, _) => .obj n v
    | none => .bad
  | _ => match x.2 with
    | .b => .own
    | _ => .held
def Src.both : Src → Src → Src
  | .held, .held => .held
  | .held, .own => .own
  | .own, .held => .own
  | .own, .own => .own
  | _, _ => .bad
/-- still as it was -/
def Src.still (o : Bool) (x : Src) (s : Sto) : Bool := match x with
  | .held => true
  | .own => o
  | .obj n v => match s[n]? with
    | some (c, _) => c == v
    | none => false
  | .bad => false
def seqI (s : Sto) (x : DT) : Option Its :=
  match x.1 with
  | .str z => if z.length ≤ 16777216 then some ⟨signs z, .held⟩ else none
  | d => match seqR s d with
    | some xs => some ⟨xs, srcD s x⟩
    | none => match dicV s d with
      | some (ks, _) => some ⟨ofKeys ks, srcD s x⟩
      | none => none

mutual
def ev (c : Calls) (r : Env) : CE → Sto → Res DT
  | .cst d, s => .ok (held d) s
  | .glb _ d, s => .ok (held d) s
  | .var i, s => match r[i]? with
    | some (.val d) => .ok (held d) s
    | some (.own d) => .ok (d, .b) s
    | _ => .bad
  | .tup es, s => (evs c r es s).bind fun ds s => .ok (held (.tup ds)) s
  | .lst es, s => (evs c r es s).bind fun ds s => .ok (fresh (.lst ds)) s
  | .dct ks es, s => (evs c r es s).bind fun ds s => .ok (fresh (.dic (ks.map .text) ds)) s
  | .new e, s => (ev c r e s).bind fun x s => match x with
    | (.lst xs, .n) => .ok (held (.ref s.length)) (s ++ [(0, .lst xs)])
    | (.dic ks vs, .n) => .ok (held (.ref s.length)) (s ++ [(0, .dic ks vs)])
    | _ => .bad
  | .sub a b, s => (ev c r a s).bind fun x s => (ev c r b s).bind fun y s => ofOpt (subF s x.1 y.1) s
  | .sli a lo hi, s => (ev c r a s).bind fun x s => (ev c r lo s).bind fun l s => (ev c r hi s).bind fun h s => match asInt l.1, asInt h.1 with
    | some l, some h => ofOpt (sliF s x.1 (some l) (some h)) s
    | _, _ => .bad
  | .sliL a lo, s => (ev c r a s).bind fun x s => (ev c r lo s).bind fun l s => match asInt l.1 with
    | some l => ofOpt (sliF s x.1 (some l) none) s
    | none => .bad
  | .sliH a hi, s => (ev c r a s).bind fun x s => (ev c r hi s).bind fun h s => match asInt h.1 with
    | some h => ofOpt (sliF s x.1 none (some h)) s
    | none => .bad
  | .bin o a b, s => (ev c r a s).bind fun x s => (ev c r b s).bind fun y s => ofOpt (binF s o x.1 y.1) s
  | .cmp o a b, s => (ev c r a s).bind fun x s => (ev c r b s).bind fun y s => ofOpt ((cmpF s o x.1 y.1).map fun k => held (.bl k)) s
  | .chn o p a b e, s => (ev c r a s).bind fun x s => (ev c r b s).bind fun y s => match cmpF s o x.1 y.1 with
    | some true => (ev c r e s).bind fun z s => ofOpt ((cmpF s p y.1 z.1).map fun k => held (.bl k)) s
    | some false => .ok (held (.bl false)) s
    | none => .bad
  | .and es, s => evAnd c r es s
  | .or es, s => evOr c r es s
  | .not a, s => (ev c r a s).bind fun x s => ofOpt ((truth x.1).map fun k => held (.bl (!k))) s
  | .ite t a b, s => (ev c r t s).bind fun x s => match truth x.1 with
    | some true => ev c r a s
    | some false => ev c r b s
    | none => .bad
  | .cal f es, s => (evs c r es s).bind fun ds s => (c f ds s).bind fun d s => .ok (held d) s
  | .blt f es, s => (evo c r es s).bind fun ds s => ofOpt (bltF s f ds) s
  | .mth m o es, s => (ev c r o s).bind fun x s => (evo c r es s).bind fun ds s => ofOpt (mthF s m x.1 ds) s
  | .get2 o k e, s => (ev c r o s).bind fun x s => match dicV s x.1 with
    | none => .bad
    | some _ => (ev c r k s).bind fun y s => (ev c r e s).bind fun z s => match esc z, dicV s x.1, keyOf y.1 with
      | some z, some (ks, vs), some k => .ok (held ((look ks vs k).getD z)) s
      | _, _, _ => .bad
  | .lc elt tg it ifs vs, s => (evI c r it s).bind fun its s => (lcLoop (its.src.still true) (fun d s => match bindT (wipeE r vs) tg d with
      | none => .bad
      | some r' => match ifs with
        | none => (ev c r' elt s).bind fun x s => (ofOpt (esc x) s).bind fun y s => .ok (some y) s
        | some t => (ev c r' t s).bind fun x s => match truth x.1 with
          | some true => (ev c r' elt s).bind fun x s => (ofOpt (esc x) s).bind fun y s => .ok (some y) s
          | some false => .ok none s
          | none => .bad) its.xs [] s).bind fun ys s => .ok (fresh (.lst ys)) s
def evAnd (c : Calls) (r : Env) : List CE → Sto → Res DT
  | [], s => .bad
  | e :: es, s => (ev c r e s).bind fun x s => match truth x.1 with
    | some true => if es.isEmpty then .ok (held (.bl true)) s else evAnd c r es s
    | some false => .ok (held (.bl false)) s
    | none => .bad
def evOr (c : Calls) (r : Env) : List CE → Sto → Res DT
  | [], s => .bad
  | e :: es, s => (ev c r e s).bind fun x s => match truth x.1 with
    | some true => .ok (held (.bl true)) s
    | some false => if es.isEmpty then .ok (held (.bl false)) s else evOr c r es s
    | none => .bad
def evs (c : Calls) (r : Env) : List CE → Sto → Res (List D)
  | [], s => .ok [] s
  | e :: es, s => (ev c r e s).bind fun x s => (ofOpt (esc x) s).bind fun d s => (evs c r es s).bind fun ds s => .ok (d :: ds) s
def evo (c : Calls) (r : Env) : List CE → Sto → Res (List D)
  | [], s => .ok [] s
  | e :: es, s => (ev c r e s).bind fun x s => (evo c r es s).bind fun ds s => .ok (x.1 :: ds) s
def evI (c : Calls) (r : Env) : CI → Sto → Res Its
  | .seq e, s => (ev c r e s).bind fun x s => ofOpt (seqI s x) s
  | .vals e, s => (ev c r e s).bind fun x s => ofOpt ((dicV s x.1).map fun q => ⟨q.2, srcD s x⟩) s
  | .items e, s => (ev c r e s).bind fun x s => ofOpt ((dicV s x.1).map fun q => ⟨itemsD q.1 q.2, srcD s x⟩) s
  | .range1 e, s => (ev c r e s).bind fun x s => match x.1 with
    | .int n => if -(2 ^ 62) ≤ n ∧ n < 2 ^ 62 then .ok ⟨rangeD 0 n, .held⟩ s else .bad
    | _ => .bad
  | .range2 a b, s => (ev c r a s).bind fun x s => (ev c r b s).bind fun y s => match x.1, y.1 with
    | .int l, .int n => if (-(2 ^ 62) ≤ l ∧ l < 2 ^ 62) ∧ (-(2 ^ 62) ≤ n ∧ n < 2 ^ 62) then .ok ⟨rangeD l n, .held⟩ s else .bad
    | _, _ => .bad
  | .zip a b, s => (ev c r a s).bind fun x s => (ev c r b s).bind fun y s => match x.1, y.1 with
    | .tup xs, .tup ys => .ok ⟨zipD xs ys, .held⟩ s
    | _, _ => .bad
  | .enum e, s => (ev c r e s).bind fun x s => match lstV s x.1 with
    | some xs => .ok ⟨enumD 0 xs, srcD s x⟩ s
    | none => .bad
end

/-! ### statements -/
inductive SRes where
  | nx (r : Env) (s : Sto)
  | rt (d : D) (s : Sto)
  | exc (c : Nat) (fs : List D) (s : Sto)
  | bad
  deriving Inhabited
def SRes.bind (x : SRes) (k : Env → Sto → SRes) : SRes := match x with
  | .nx r s => k r s
  | x => x
@[simp] theorem SRes.bind_nx (r : Env) (s : Sto) (k : Env → Sto → SRes) : (SRes.nx r s).bind k = k r s := rfl
@[simp] theorem SRes.bind_rt (d : D) (s : Sto) (k : Env → Sto → SRes) : (SRes.rt d s).bind k = .rt d s := rfl
@[simp] theorem SRes.bind_exc (c : Nat) (fs : List D) (s : Sto) (k : Env → Sto → SRes) : (SRes.exc c fs s).bind k = .exc c fs s := rfl
@[simp] theorem SRes.bind_bad (k : Env → Sto → SRes) : SRes.bad.bind k = .bad := rfl
def Res.st {a : Type} (x : Res a) (k : a → Sto → SRes) : SRes := match x with
  | .ok x s => k x s
  | .exc c fs s => .exc c fs s
  | .bad => .bad
@[simp] theorem Res.st_ok {a : Type} (x : a) (s : Sto) (k : a → Sto → SRes) : (Res.ok x s).st k = k x s := rfl
@[simp] theorem Res.st_exc {a : Type} (c : Nat) (fs : List D) (s : Sto) (k : a → Sto → SRes) : (Res.exc (a := a) c fs s).st k = .exc c fs s := rfl
@[simp] theorem Res.st_bad {a : Type} (k : a → Sto → SRes) : (Res.bad (a := a)).st k = .bad := rfl
def forLoop (ok : Sto → Bool) (f : D → Env → Sto → SRes) : List D → Env → Sto → SRes
  | [], r, s => if ok s then .nx r s else .bad
  | x :: xs, r, s => if ok s then (f x r s).bind fun r s => forLoop ok f xs r s else .bad
def whileLoop (t : Env → Sto → Res Bool) (f : Env → Sto → SRes) : Nat → Env → Sto → SRes
  | 0, _, _ => .bad
  | n + 1, r, s => (t r s).st fun k s => if k then (f r s).bind fun r s => whileLoop t f n r s else .nx r s
def setF (s : Sto) (o i v : D) : Option Sto :=
  match o with
  | .ref n => match s[n]? with
    | some (c, .lst xs) => match i with
      | .int k => match L2.ixN xs.length k with
        | some j => some (s.set n (c + 1, .lst (xs.set j v)))
        | none => none
      | _ => none
    | some (c, .dic ks vs) => match keyOf i with
      | some k => if ks.length < 16777216 then some (s.set n (c + 1, .dic (putK ks k) (putV ks vs k v))) else none
      | none => none
    | none => none
  | _ => none
def isText : NestedKey → Bool
  | .text _ => true
  | _ => false
def evT (c : Calls) (r : Env) (t : CE) (s : Sto) : Res Bool := (ev c r t s).bind fun x s => ofOpt (truth x.1) s

mutual
def exec (c : Calls) : CS → Env → Sto → SRes
  | .expr e, r, s => (ev c r e s).st fun _ s => .nx r s
  | .asg i e, r, s => (ev c r e s).st fun x s => match esc x with
    | some d => .nx (r.set i (.val d)) s
    | none => .bad
  | .asgO i e, r, s => (ev c r e s).st fun x s => match x.2 with
    | .n => .nx (r.set i (.own x.1)) s
    | _ => .bad
  | .asgT is e, r, s => (ev c r e s).st fun x s => match bindT r (.tup is) x.1 with
    | some r => .nx r s
    | none => .bad
  | .par2 i j a b, r, s => (evs c r [a, b] s).st fun ds s => match ds with
    | [x, y] => .nx ((r.set i (.val x)).set j (.val y)) s
    | _ => .bad
  | .par3 i j k a b e, r, s => (evs c r [a, b, e] s).st fun ds s => match ds with
    | [x, y, z] => .nx (((r.set i (.val x)).set j (.val y)).set k (.val z)) s
    | _ => .bad
  | .subO i ix e, r, s => (ev c r e s).st fun x s => match esc x with
    | none => .bad
    | some d => match r[i]? with
      | some (.own (.dic ks vs)) => (ev c r ix s).st fun y s => match keyOf y.1 with
        | some k => if ks.length < 16777216 then .nx (r.set i (.own (.dic (putK ks k) (putV ks vs k d)))) s else .bad
        | none => .bad
      | _ => .bad
  | .subS o ix e, r, s => (ev c r e s).st fun x s => match esc x with
    | none => .bad
    | some d => (ev c r o s).st fun ov s => (ev c r ix s).st fun iv s => match setF s ov.1 iv.1 d with
      | some s => .nx r s
      | none => .bad
  | .subS2 o1 i1 o2 i2 e, r, s => (ev c r e s).st fun x s => match x.1 with
    | .tup [d1, d2] => (ev c r o1 s).st fun ov s => (ev c r i1 s).st fun iv s => match setF s ov.1 iv.1 d1 with
      | some s => (ev c r o2 s).st fun ov s => (ev c r i2 s).st fun iv s => match setF s ov.1 iv.1 d2 with
        | some s => .nx r s
        | none => .bad
      | none => .bad
    | _ => .bad
  | .appO i e, r, s => match r[i]? with
    | some (.own (.lst xs)) => (ev c r e s).st fun x s => match esc x with
      | some d => if xs.length < 16777216 then .nx (r.set i (.own (.lst (xs ++ [d])))) s else .bad
      | none => .bad
    | _ => .bad
  | .appS o e, r, s => (ev c r o s).st fun ov s => match lstV s ov.1 with
    | none => .bad
    | some _ => (ev c r e s).st fun x s => match esc x, ov.1 with
      | some d, .ref n => match s[n]? with
        | some (c, .lst xs) => if xs.length < 16777216 then .nx r (s.set n (c + 1, .lst (xs ++ [d]))) else .bad
        | _ => .bad
      | _, _ => .bad
  | .updO i e, r, s => (ev c r e s).st fun x s => match r[i]?, x with
    | some (.own (.dic ks vs)), (.dic ks2 vs2, .n) => if (ks ++ ks2).all isText && decide ((ks ++ ks2).Nodup) && decide (ks.length + ks2.length ≤ 1000) then .nx (r.set i (.own (.dic (ks ++ ks2) (vs ++ vs2)))) s else .bad
    | _, _ => .bad
  | .ret e, r, s => (ev c r e s).st fun x s => match esc x with
    | some d => .rt d s
    | none => .bad
  | .retO i, r, s => match r[i]? with
    | some (.own d) => .rt d s
    | _ => .bad
  | .retN, _, s => .rt .non s
  | .ite t a b, r, s => (evT c r t s).st fun k s => if k then execs c a r s else execs c b r s
  | .for_ tg it body, r, s => (evI c r it s).st fun its s => forLoop (its.src.still false) (fun d r s => match bindT r tg d with
      | some r => execs c body r s
      | none => .bad) its.xs r s
  | .while_ t body, r, s => whileLoop (fun r s => evT c r t s) (fun r s => execs c body r s) 1000 r s
  | .pass, r, s => .nx r s
  | .raise n es, r, s => (evs c r es s).st fun ds s => .exc n ds s
def execs (c : Calls) : List CS → Env → Sto → SRes
  | [], r, s => .nx r s
  | x :: xs, r, s => (exec c x r s).bind fun r s => execs c xs r s
end

/-- a def -/
structure FD where
  np : Nat
  nn : Nat
  body : List CS
  deriving Inhabited
def runF (c : Calls) (f : FD) (as : List D) (s : Sto) : Res D :=
  if as.length = f.np then match execs c f.body (as.map .val ++ List.replicate (f.nn - f.np) .no) s with
    | .nx _ s => .ok .non s
    | .rt d s => .ok d s
    | .exc c fs s => .exc c fs s
    | .bad => .bad
  else .bad
def callN (T : List FD) : Nat → Calls
  | 0 => fun _ _ _ => .bad
  | k + 1 => fun f as s => match T[f]? with
    | some d => runF (callN T k) d as s
    | none => .bad
end Mp
set_option Elab.async false
set_option linter.all false
set_option maxRecDepth 100000
/-! what stands for what: values of the small language and the hand layer's heap -/
namespace Mp
open PySem PySem.Spec PyProof.Rows L2

theorem lineN : (sizeLine : Nat) = 16777216 := sizeLine_eq

/-- the state beside the heap: what is held for good, where the store's objects stand -/
structure Gh where
  F : Addr → Prop
  mu : Nat → Addr
  L : Nat
  H : Hp
  ver : Nat → Nat

/-- a dict's object, its entries told -/
def dcO (a : Addr) (es : Array DictEntry) (ep : Nat) : HO := .ext fun h => ∃ o, h.get? a = some o ∧ o.ExactDict ∧ o.data = .dict es ep
/-- a list of the written part -/
def KLst (K : W.Frag) (a : Addr) (xs : List V) : Prop :=
  ∃ (o : Obj) (its : Array Value) (n : Nat), K.lookup a = some o ∧ o.cls = .type "list" ∧ o.dict = none ∧ o.data = .seq its n ∧ its.size ≤ sizeLine ∧ Vals xs its.toList
/-- a dict of the written part -/
def KDc (K : W.Frag) (a : Addr) (es : Array DictEntry) (ep : Nat) : Prop := ∃ o : Obj, K.lookup a = some o ∧ o.ExactDict ∧ o.data = .dict es ep
abbrev KE3 := NestedKey × Value × Value
def entK (w : World) (x : KE3) : DictEntry := ⟨x.1.hash w, x.2.1, x.2.2⟩
def KTup (K : W.Frag) (a : Addr) (xs : List V) : Prop :=
  ∃ (o : Obj) (its : Array Value) (n : Nat), K.lookup a = some o ∧ o.cls = .type "tuple" ∧ o.data = .seq its n ∧ its.size ≤ sizeLine ∧ Vals xs its.toList

section
variable (K : W.Frag) (w : World) (g : Gh)
mutual
inductive Rep : D → V → Prop
  | non : Rep .non .non
  | bl (b : Bool) : Rep (.bl b) (.bl b)
  | int (i : Int) : Rep (.int i) (.int i)
  | str (z : Str) : Rep (.str z) (.str z)
  | tup {a : Addr} {xs : List D} {vs : List V} : ((g.H a = some (.tup vs) ∧ g.F a) ∨ KTup K a vs) → Reps xs vs → Rep (.tup xs) (.ref a)
  | lst {a : Addr} {xs : List D} {vs : List V} : g.H a = some (.lst vs) → g.F a → Reps xs vs → Rep (.lst xs) (.ref a)
  | dic {a : Addr} {ks : List NestedKey} {vs : List D} {es : Array DictEntry} {ep : Nat} {xs : List KE3} {kvs vvs : List V} : ((g.H a = some (dcO a es ep) ∧ g.F a) ∨ KDc K a es ep) →
      (es.toList = xs.map (entK w) ∧ ks = xs.map (·.1)) → Vals kvs (xs.map (·.2.1)) → Vals vvs (xs.map (·.2.2)) → Reps (ofKeys ks) kvs → Reps vs vvs → (ks.Nodup ∧ (∀ k ∈ ks, k.depth ≤ 8) ∧ ks.length ≤ sizeLine ∧ vs.length = ks.length ∧ (a == sysModules) = false) → Rep (.dic ks vs) (.ref a)
  | ref {n : Nat} : n < g.L → Rep (.ref n) (.ref (g.mu n))
  | cel {a : Addr} {xs : List D} {vs : List V} : (((∃ o, g.H a = some (.frz o (.lst vs))) ∧ g.F a) ∨ KLst K a vs) → Reps xs vs → Rep (.cel xs) (.ref a)
inductive Reps : List D → List V → Prop
  | nil : Reps [] []
  | cons {d : D} {v : V} {ds : List D} {vs : List V} : Rep d v → Reps ds vs → Reps (d :: ds) (v :: vs)
end
def LstAt (a : Addr) (xs : List D) : Prop := ∃ vs, g.H a = some (.lst vs) ∧ Reps K w g xs vs
def DicAt (a : Addr) (ks : List NestedKey) (vs : List D) : Prop :=
  ∃ (es : Array DictEntry) (ep : Nat) (xs : List KE3) (kvs vvs : List V), g.H a = some (dcO a es ep) ∧ (es.toList = xs.map (entK w) ∧ ks = xs.map (·.1)) ∧ Vals kvs (xs.map (·.2.1)) ∧ Vals vvs (xs.map (·.2.2)) ∧ Reps K w g (ofKeys ks) kvs ∧ Reps K w g vs vvs ∧
    (ks.Nodup ∧ (∀ k ∈ ks, k.depth ≤ 8) ∧ ks.length ≤ sizeLine ∧ vs.length = ks.length ∧ (a == sysModules) = false)
/-- a dict that is read -/
def DicVw (a : Addr) (ks : List NestedKey) (vs : List D) : Prop :=
  ∃ (es : Array DictEntry) (ep : Nat) (xs : List KE3) (kvs vvs : List V), (g.H a = some (dcO a es ep) ∨ KDc K a es ep) ∧ (es.toList = xs.map (entK w) ∧ ks = xs.map (·.1)) ∧ Vals kvs (xs.map (·.2.1)) ∧ Vals vvs (xs.map (·.2.2)) ∧ Reps K w g (ofKeys ks) kvs ∧ Reps K w g vs vvs ∧
    (ks.Nodup ∧ (∀ k ∈ ks, k.depth ≤ 8) ∧ ks.length ≤ sizeLine ∧ vs.length = ks.length ∧ (a == sysModules) = false)
def ObjAt (a : Addr) : SO → Prop
  | .lst xs => LstAt K w g a xs
  | .dic ks vs => DicAt K w g a ks vs
structure WF (S : Sto) : Prop where
  len : g.L = S.length
  fz : ∀ a, g.F a → g.H a ≠ none
  live : ∀ (n c : Nat) (o : SO), S[n]? = some (c, o) → ¬ g.F (g.mu n) ∧ ObjAt K w g (g.mu n) o
  ver : ∀ (n c : Nat) (o : SO), S[n]? = some (c, o) → g.ver n = c
  inj : ∀ n m, n < g.L → m < g.L → g.mu n = g.mu m → n = m
/-- not the store's -/
def Off (a : Addr) : Prop := ∀ n, n < g.L → g.mu n ≠ a
/-- a list or dict that may still change -/
def Unf (d : D) (a : Addr) : Prop := Off g a ∧ ¬ g.F a ∧ match d with
  | .lst xs => LstAt K w g a xs
  | .dic ks vs => DicAt K w g a ks vs
  | _ => False
/-- g₀: where the expression began -/
def RepT (g₀ : Gh) (x : DT) (v : V) : Prop := match x.2 with
  | .f => Rep K w g x.1 v
  | .b => ∃ a, v = .ref a ∧ Unf K w g x.1 a
  | .n => ∃ a, v = .ref a ∧ Unf K w g x.1 a ∧ g₀.H a = none
end

structure After (g g' : Gh) : Prop where
  L : g.L ≤ g'.L
  mu : ∀ n, n < g.L → g'.mu n = g.mu n
  F : ∀ a, g.F a → g'.F a
  keep : ∀ a o, g.H a = some o → Off g a → g'.H a = some o
  nF : ∀ a, g'.F a → g.F a ∨ g.H a = none
  nmu : ∀ n, g.L ≤ n → n < g'.L → g.H (g'.mu n) = none
  there : ∀ a, g.H a ≠ none → g'.H a ≠ none
  ver : ∀ n, n < g.L → g.ver n ≤ g'.ver n ∧ (g'.ver n = g.ver n → ∀ o, g.H (g.mu n) = some o → g'.H (g.mu n) = some o)
structure Mono (g g' : Gh) : Prop where
  L : g.L ≤ g'.L
  mu : ∀ n, n < g.L → g'.mu n = g.mu n
  F : ∀ a, g.F a → g'.F a ∧ g'.H a = g.H a
  ver : ∀ n, n < g.L → g.ver n ≤ g'.ver n ∧ (g'.ver n = g.ver n → ∀ o, g.H (g.mu n) = some o → g'.H (g.mu n) = some o)

theorem After.refl (g : Gh) : After g g := ⟨Nat.le_refl _, fun _ _ => rfl, fun _ h => h, fun _ _ h _ => h, fun _ h => .inl h, fun n h1 h2 => absurd h2 (by omega), fun _ h => h, fun _ _ => ⟨Nat.le_refl _, fun _ _ h => h⟩⟩
theorem After.off {g g' : Gh} (x : After g g') {a : Addr} (h : g.H a ≠ none) (o : Off g a) : Off g' a := fun n hn e => by
  by_cases hl : n < g.L
  · rw [x.mu n hl] at e; exact o n hl e
  · exact h (by rw [← e]; exact x.nmu n (by omega) hn)
theorem After.trans {g g1 g2 : Gh} (x : After g g1) (y : After g1 g2) : After g g2 where
  L := Nat.le_trans x.L y.L
  mu := fun n hn => (y.mu n (Nat.lt_of_lt_of_le hn x.L)).trans (x.mu n hn)
  F := fun a h => y.F a (x.F a h)
  keep := fun a o h hf => y.keep a o (x.keep a o h hf) (x.off (by rw [h]; simp) hf)
  nF := fun a h => by
    rcases y.nF a h with q | q
    · exact x.nF a q
    · exact .inr (Classical.byContradiction fun z => x.there a z q)
  nmu := fun n h1 h2 => by
    by_cases hl : n < g1.L
    · rw [y.mu n hl]; exact x.nmu n h1 hl
    · have q := y.nmu n (by omega) h2
      exact Classical.byContradiction fun z => x.there _ z q
  there := fun a h => y.there a (x.there a h)
  ver := fun n hn => by
    obtain ⟨h1, h2⟩ := x.ver n hn
    obtain ⟨h3, h4⟩ := y.ver n (Nat.lt_of_lt_of_le hn x.L)
    refine ⟨Nat.le_trans h1 h3, fun e o ho => ?_⟩
    have := h4 (by omega) o (by rw [x.mu n hn]; exact h2 (by omega) o ho)
    rw [x.mu n hn] at this
    exact this
theorem Mono.refl (g : Gh) : Mono g g := ⟨Nat.le_refl _, fun _ _ => rfl, fun _ h => ⟨h, rfl⟩, fun _ _ => ⟨Nat.le_refl _, fun _ _ h => h⟩⟩
theorem Mono.trans {g g1 g2 : Gh} (x : Mono g g1) (y : Mono g1 g2) : Mono g g2 :=
  ⟨Nat.le_trans x.L y.L, fun n hn => (y.mu n (Nat.lt_of_lt_of_le hn x.L)).trans (x.mu n hn), fun a h => ⟨(y.F a (x.F a h).1).1, ((y.F a (x.F a h).1).2).trans (x.F a h).2⟩, fun n hn => by
    obtain ⟨h1, h2⟩ := x.ver n hn
    obtain ⟨h3, h4⟩ := y.ver n (Nat.lt_of_lt_of_le hn x.L)
    refine ⟨Nat.le_trans h1 h3, fun e o ho => ?_⟩
    have := h4 (by omega) o (by rw [x.mu n hn]; exact h2 (by omega) o ho)
    rw [x.mu n hn] at this
    exact this⟩

section
variable {K : W.Frag} {w : World} {g g' g₀ : Gh} {S : Sto}
theorem WF.offF (W : WF K w g S) {a : Addr} (h : g.F a) : Off g a := fun n hn e => by
  have : n < S.length := by rw [← W.len]; exact hn
  exact (W.live n S[n].1 S[n].2 (List.getElem?_eq_getElem this)).1 (by rw [e]; exact h)
theorem After.mono (x : After g g') (W : WF K w g S) : Mono g g' := ⟨x.L, x.mu, fun a h => ⟨x.F a h, by
  cases e : g.H a with
  | none => exact absurd e (W.fz a h)
  | some o => exact x.keep a o e (W.offF h)⟩, x.ver⟩
mutual
theorem Rep.mono (m : Mono g g') : ∀ {d : D} {v : V}, Rep K w g d v → Rep K w g' d v
  | _, _, .non => .non
  | _, _, .bl b => .bl b
  | _, _, .int i => .int i
  | _, _, .str z => .str z
  | _, _, .tup h r => .tup (h.elim (fun q => .inl ⟨((m.F _ q.2).2).trans q.1, (m.F _ q.2).1⟩) .inr) (Reps.mono m r)
  | _, _, .lst h f r => .lst (((m.F _ f).2).trans h) (m.F _ f).1 (Reps.mono m r)
  | _, _, .dic h e k1 k2 r1 r2 z => .dic (h.elim (fun q => .inl ⟨((m.F _ q.2).2).trans q.1, (m.F _ q.2).1⟩) .inr) e k1 k2 (Reps.mono m r1) (Reps.mono m r2) z
  | _, _, .ref h => by rw [← m.mu _ h]; exact .ref (Nat.lt_of_lt_of_le h m.L)
  | _, _, .cel h r => .cel (h.elim (fun q => .inl ⟨q.1.elim fun o e => ⟨o, ((m.F _ q.2).2).trans e⟩, (m.F _ q.2).1⟩) .inr) (Reps.mono m r)
theorem Reps.mono (m : Mono g g') : ∀ {ds : List D} {vs : List V}, Reps K w g ds vs → Reps K w g' ds vs
  | _, _, .nil => .nil
  | _, _, .cons r t => .cons (Rep.mono m r) (Reps.mono m t)
end
theorem Reps.length : ∀ {ds : List D} {vs : List V}, Reps K w g ds vs → ds.length = vs.length
  | _, _, .nil => rfl
  | _, _, .cons _ t => by simp [Reps.length t]
theorem Reps.append : ∀ {ds es : List D} {vs us : List V}, Reps K w g ds vs → Reps K w g es us → Reps K w g (ds ++ es) (vs ++ us)
  | _, _, _, _, .nil, q => q
  | _, _, _, _, .cons r t, q => .cons r (Reps.append t q)
theorem Reps.take : ∀ {ds : List D} {vs : List V} (n : Nat), Reps K w g ds vs → Reps K w g (ds.take n) (vs.take n)
  | _, _, 0, _ => .nil
  | _, _, _ + 1, .nil => .nil
  | _, _, n + 1, .cons r t => .cons r (Reps.take n t)
theorem Reps.drop : ∀ {ds : List D} {vs : List V} (n : Nat), Reps K w g ds vs → Reps K w g (ds.drop n) (vs.drop n)
  | _, _, 0, q => q
  | _, _, _ + 1, .nil => .nil
  | _, _, n + 1, .cons _ t => Reps.drop n t
theorem Reps.get : ∀ {ds : List D} {vs : List V} {i : Nat} {d : D}, Reps K w g ds vs → ds[i]? = some d → ∃ v, vs[i]? = some v ∧ Rep K w g d v
  | _, _, _, _, .nil, h => by simp at h
  | _, _, 0, _, .cons r _, h => by simp at h; subst h; exact ⟨_, rfl, r⟩
  | _, _, i + 1, _, .cons _ t, h => by simpa using Reps.get (i := i) t (by simpa using h)
theorem Reps.getV : ∀ {ds : List D} {vs : List V} {i : Nat} {v : V}, Reps K w g ds vs → vs[i]? = some v → ∃ d, ds[i]? = some d ∧ Rep K w g d v
  | _, _, _, _, .nil, h => by simp at h
  | _, _, 0, _, .cons r _, h => by simp at h; subst h; exact ⟨_, rfl, r⟩
  | _, _, i + 1, _, .cons _ t, h => by simpa using Reps.getV (i := i) t (by simpa using h)
theorem Reps.set {d : D} {v : V} (r : Rep K w g d v) : ∀ {ds : List D} {vs : List V} (i : Nat), Reps K w g ds vs → Reps K w g (ds.set i d) (vs.set i v)
  | _, _, _, .nil => .nil
  | _, _, 0, .cons _ t => .cons r t
  | _, _, i + 1, .cons q t => .cons q (Reps.set r i t)
theorem Reps.rep : ∀ {ds : List D} {vs : List V} (n : Nat), Reps K w g ds vs → Reps K w g (List.replicate n ds).flatten (List.replicate n vs).flatten
  | _, _, 0, _ => .nil
  | _, _, n + 1, q => by simpa [List.replicate_succ] using q.append (Reps.rep n q)
theorem DicAt.vw {a : Addr} {ks : List NestedKey} {vs : List D} (h : DicAt K w g a ks vs) : DicVw K w g a ks vs := by
  obtain ⟨es, ep, xs, kvs, vvs, h1, h2⟩ := h
  exact ⟨es, ep, xs, kvs, vvs, .inl h1, h2⟩
theorem LstAt.mono (m : Mono g g') {a : Addr} {xs : List D} (h : LstAt K w g a xs) (e : ∀ o, g.H a = some o → g'.H a = some o) : LstAt K w g' a xs := by
  obtain ⟨vs, h1, h2⟩ := h
  exact ⟨vs, e _ h1, h2.mono m⟩
theorem DicAt.mono (m : Mono g g') {a : Addr} {ks : List NestedKey} {vs : List D} (h : DicAt K w g a ks vs) (e : ∀ o, g.H a = some o → g'.H a = some o) : DicAt K w g' a ks vs := by
  obtain ⟨es, ep, xs, kvs, vvs, h1, h2, h3, h4, h5, h6, h7⟩ := h
  exact ⟨es, ep, xs, kvs, vvs, e _ h1, h2, h3, h4, h5.mono m, h6.mono m, h7⟩
theorem ObjAt.mono (m : Mono g g') {a : Addr} {o : SO} (h : ObjAt K w g a o) (e : ∀ o, g.H a = some o → g'.H a = some o) : ObjAt K w g' a o := by
  cases o with
  | lst xs => exact LstAt.mono m h e
  | dic ks vs => exact DicAt.mono m h e
theorem ObjAt.there {a : Addr} {o : SO} (h : ObjAt K w g a o) : g.H a ≠ none := by
  cases o with
  | lst xs => obtain ⟨vs, h1, _⟩ := h; rw [h1]; simp
  | dic ks vs => obtain ⟨es, ep, xs, kvs, vvs, h1, _⟩ := h; rw [h1]; simp
theorem Unf.there {d : D} {a : Addr} (h : Unf K w g d a) : g.H a ≠ none := by
  obtain ⟨_, _, q⟩ := h
  cases d with
  | lst xs => exact ObjAt.there (o := .lst xs) q
  | dic ks vs => exact ObjAt.there (o := .dic ks vs) q
  | _ => exact q.elim
theorem Unf.after (x : After g g') (W : WF K w g S) {d : D} {a : Addr} (h : Unf K w g d a) : Unf K w g' d a := by
  have ht := h.there
  have hk : ∀ o, g.H a = some o → g'.H a = some o := fun o e => x.keep a o e h.1
  obtain ⟨h1, h2, q⟩ := h
  refine ⟨x.off ht h1, fun z => (x.nF a z).elim h2 ht, ?_⟩
  cases d with
  | lst xs => exact LstAt.mono (x.mono W) q hk
  | dic ks vs => exact DicAt.mono (x.mono W) q hk
  | _ => exact q.elim
theorem RepT.after (x : After g g') (W : WF K w g S) {d : DT} {v : V} (h : RepT K w g g₀ d v) : RepT K w g' g₀ d v := by
  obtain ⟨d, t⟩ := d
  cases t with
  | f => exact Rep.mono (x.mono W) h
  | b =>
    obtain ⟨a, e, q⟩ := h
    exact ⟨a, e, q.after x W⟩
  | n =>
    obtain ⟨a, e, q, z⟩ := h
    exact ⟨a, e, q.after x W, z⟩

/-- a new object laid, held for good or not -/
def Gh.lay (g : Gh) (p : Addr) (o : HO) : Gh := { g with H := upd g.H p o }
def Gh.hold (g : Gh) (p : Addr) : Gh := { g with F := fun a => g.F a ∨ a = p }
def Gh.put (g : Gh) (p : Addr) : Gh := { g with mu := fun n => if n = g.L then p else g.mu n, L := g.L + 1, ver := fun n => if n = g.L then 0 else g.ver n }
theorem After.lay {p : Addr} {o : HO} (hp : g.H p = none) : After g (g.lay p o) where
  L := Nat.le_refl _
  mu := fun _ _ => rfl
  F := fun _ h => h
  keep := fun a u h _ => by
    show upd g.H p o a = some u
    rw [upd_ne (ne_of_none h hp)]; exact h
  nF := fun _ h => .inl h
  nmu := fun n h1 h2 => absurd h2 (by show ¬ n < g.L; omega)
  there := fun a h => by
    show upd g.H p o a ≠ none
    by_cases e : a = p
    · subst e; rw [upd_same]; simp
    · rw [upd_ne e]; exact h
  ver := fun n _ => ⟨Nat.le_refl _, fun _ u h => by
    show upd g.H p o (g.mu n) = some u
    rw [upd_ne (ne_of_none h hp)]; exact h⟩
theorem After.hold {p : Addr} (hp : g₀.H p = none) (x : After g₀ g) : After g₀ (g.hold p) where
  L := x.L
  mu := x.mu
  F := fun a h => .inl (x.F a h)
  keep := x.keep
  nF := fun a h => by
    rcases h with h | h
    · exact x.nF a h
    · subst h; exact .inr hp
  nmu := x.nmu
  there := x.there
  ver := x.ver
theorem After.put {p : Addr} (hp : g₀.H p = none) (x : After g₀ g) : After g₀ (g.put p) where
  L := Nat.le_trans x.L (Nat.le_succ _)
  mu := fun n hn => by
    show (if n = g.L then p else g.mu n) = _
    rw [if_neg (by have := x.L; omega)]
    exact x.mu n hn
  F := x.F
  keep := x.keep
  nF := x.nF
  nmu := fun n h1 h2 => by
    show g₀.H (if n = g.L then p else g.mu n) = none
    by_cases e : n = g.L
    · rw [if_pos e]; exact hp
    · rw [if_neg e]; exact x.nmu n h1 (by have : n < g.L + 1 := h2; omega)
  there := x.there
  ver := fun n hn => by
    have e : (g.put p).ver n = g.ver n := by
      show (if n = g.L then 0 else g.ver n) = _
      rw [if_neg (by have := x.L; omega)]
    rw [e]
    exact x.ver n hn
theorem Mono.lay {p : Addr} {o : HO} (hp : g.H p = none) (W : WF K w g S) : Mono g (g.lay p o) := (After.lay hp).mono W
theorem Mono.hold {p : Addr} : Mono g (g.hold p) := ⟨Nat.le_refl _, fun _ _ => rfl, fun _ h => ⟨.inl h, rfl⟩, fun _ _ => ⟨Nat.le_refl _, fun _ _ h => h⟩⟩
theorem Mono.put {p : Addr} : Mono g (g.put p) := ⟨Nat.le_succ _, fun n hn => by
  show (if n = g.L then p else g.mu n) = _
  rw [if_neg (by omega)], fun _ h => ⟨h, rfl⟩, fun n hn => by
    have e : (g.put p).ver n = g.ver n := by
      show (if n = g.L then 0 else g.ver n) = _
      rw [if_neg (by omega)]
    rw [e]
    exact ⟨Nat.le_refl _, fun _ _ h => h⟩⟩
theorem WF.lay {p : Addr} {o : HO} (hp : g.H p = none) (W : WF K w g S) : WF K w (g.lay p o) S where
  len := W.len
  fz := fun a h => (After.lay (o := o) hp).there a (W.fz a h)
  ver := W.ver
  live := fun n c u h => by
    obtain ⟨h1, h2⟩ := W.live n c u h
    have hn : g.mu n ≠ p := fun e => h2.there (by rw [e]; exact hp)
    exact ⟨h1, h2.mono (Mono.lay hp W) fun q e => by
      show upd g.H p o (g.mu n) = some q
      rw [upd_ne hn]; exact e⟩
  inj := W.inj
theorem WF.hold {p : Addr} (h0 : g.H p ≠ none) (ho : Off g p) (W : WF K w g S) : WF K w (g.hold p) S where
  len := W.len
  fz := fun a h => by
    rcases h with h | h
    · exact W.fz a h
    · rw [h]; exact h0
  ver := W.ver
  live := fun n c u h => by
    obtain ⟨h1, h2⟩ := W.live n c u h
    have hn : n < g.L := by rw [W.len]; exact (List.getElem?_eq_some_iff.mp h).1
    refine ⟨fun z => ?_, h2.mono Mono.hold fun q e => e⟩
    rcases z with z | z
    · exact h1 z
    · exact ho n hn z
  inj := W.inj
theorem WF.put {p : Addr} {o : SO} (h0 : ¬ g.F p) (ho : Off g p) (hob : ObjAt K w g p o) (W : WF K w g S) : WF K w (g.put p) (S ++ [(0, o)]) where
  len := by
    show g.L + 1 = _
    rw [W.len]; simp
  fz := W.fz
  ver := fun n c u h => by
    show (if n = g.L then 0 else g.ver n) = c
    by_cases hn : n < S.length
    · rw [List.getElem?_append_left hn] at h
      rw [if_neg (by rw [W.len]; omega)]
      exact W.ver n c u h
    · have e : n = S.length := by
        have := (List.getElem?_eq_some_iff.mp h).1
        simp at this; omega
      subst e
      simp at h
      rw [if_pos W.len.symm]
      exact h.1
  live := fun n c u h => by
    by_cases hn : n < S.length
    · rw [List.getElem?_append_left hn] at h
      obtain ⟨h1, h2⟩ := W.live n c u h
      have e : (g.put p).mu n = g.mu n := (Mono.put (g := g) (p := p)).mu n (by rw [W.len]; exact hn)
      rw [e]
      exact ⟨h1, h2.mono Mono.put fun q e => e⟩
    · have e : n = S.length := by
        have := (List.getElem?_eq_some_iff.mp h).1
        simp at this; omega
      subst e
      simp at h
      obtain ⟨_, rfl⟩ := h
      have e : (g.put p).mu S.length = p := by
        show (if S.length = g.L then p else _) = p
        rw [if_pos W.len.symm]
      rw [e]
      exact ⟨h0, hob.mono Mono.put fun q e => e⟩
  inj := fun n m hn hm e => by
    have hn : n < g.L + 1 := hn
    have hm : m < g.L + 1 := hm
    have e : (if n = g.L then p else g.mu n) = (if m = g.L then p else g.mu m) := e
    by_cases h1 : n = g.L <;> by_cases h2 : m = g.L
    · omega
    · rw [if_pos h1, if_neg h2] at e; exact absurd e.symm (ho m (by omega))
    · rw [if_neg h1, if_pos h2] at e; exact absurd e (ho n (by omega))
    · rw [if_neg h1, if_neg h2] at e; exact W.inj n m (by omega) (by omega) e
theorem WF.off_new (W : WF K w g S) {p : Addr} (hp : g.H p = none) : Off g p := fun n hn e => by
  have : n < S.length := by rw [← W.len]; exact hn
  exact (W.live n S[n].1 S[n].2 (List.getElem?_eq_getElem this)).2.there (by rw [e]; exact hp)
theorem WF.notF_new (W : WF K w g S) {p : Addr} (hp : g.H p = none) : ¬ g.F p := fun h => W.fz p h hp

/-- an unheld one is held -/
theorem Unf.hold {d : D} {a : Addr} (h : Unf K w g d a) : Rep K w (g.hold a) d (.ref a) := by
  obtain ⟨_, _, q⟩ := h
  cases d with
  | lst xs =>
    obtain ⟨vs, h1, h2⟩ := q
    exact .lst h1 (.inr rfl) (h2.mono Mono.hold)
  | dic ks vs =>
    obtain ⟨es, ep, xs, kvs, vvs, h1, h2, h3, h4, h5, h6, h7⟩ := q
    exact .dic (.inl ⟨h1, .inr rfl⟩) h2 h3 h4 (h5.mono Mono.hold) (h6.mono Mono.hold) h7
  | _ => exact q.elim
end
end Mp
set_option Elab.async false
set_option linter.all false
set_option maxRecDepth 100000
set_option maxHeartbeats 4000000
/-! readings of expressions, and what operations give -/
namespace Mp
open PySem PySem.Spec PyProof.Rows L2

section
variable {K : W.Frag} {w : World} {g g' g₀ : Gh} {S : Sto}

theorem none_before (x : After g₀ g) {p : Addr} (h : g.H p = none) : g₀.H p = none := Classical.byContradiction fun z => x.there p z h
/-- a new tuple -/
theorem lay_tup (A : After g₀ g) (W : WF K w g S) {p : Addr} (hp : g.H p = none) {xs : List D} {vs : List V} (r : Reps K w g xs vs) :
    ∃ g', g'.H = upd g.H p (.tup vs) ∧ After g₀ g' ∧ After g g' ∧ WF K w g' S ∧ Rep K w g' (.tup xs) (.ref p) := by
  have h1 : After g (g.lay p (.tup vs)) := After.lay hp
  refine ⟨(g.lay p (.tup vs)).hold p, rfl, After.hold (none_before A hp) (A.trans h1), After.hold hp h1, (WF.lay hp W).hold (by show upd g.H p _ p ≠ none; rw [upd_same]; simp) (W.off_new hp), ?_⟩
  exact .tup (.inl ⟨by show upd g.H p _ p = _; rw [upd_same], .inr rfl⟩) ((r.mono (Mono.lay hp W)).mono Mono.hold)
/-- a new list -/
theorem lay_lst (A : After g₀ g) (W : WF K w g S) {p : Addr} (hp : g.H p = none) {xs : List D} {vs : List V} (r : Reps K w g xs vs) :
    ∃ g', g'.H = upd g.H p (.lst vs) ∧ After g₀ g' ∧ After g g' ∧ WF K w g' S ∧ RepT K w g' g₀ (.lst xs, .n) (.ref p) := by
  have h1 : After g (g.lay p (.lst vs)) := After.lay hp
  refine ⟨g.lay p (.lst vs), rfl, A.trans h1, h1, WF.lay hp W, p, rfl, ⟨W.off_new hp, W.notF_new hp, vs, by show upd g.H p _ p = _; rw [upd_same], r.mono (Mono.lay hp W)⟩, none_before A hp⟩

/-- what sequences show -/
theorem view_lst (W : WF K w g S) {x : DT} {v : V} (r : RepT K w g g₀ x v) {xs : List D} (h : lstV S x.1 = some xs) :
    ∃ a vs, v = .ref a ∧ g.H a = some (.lst vs) ∧ Reps K w g xs vs := by
  obtain ⟨d, t⟩ := x
  have un : ∀ a, v = .ref a → Unf K w g d a → ∃ a vs, v = .ref a ∧ g.H a = some (.lst vs) ∧ Reps K w g xs vs := fun a e ⟨_, _, q⟩ => by
    cases d with
    | lst ys =>
      obtain ⟨vs, h1, h2⟩ := q
      cases h
      exact ⟨a, vs, e, h1, h2⟩
    | dic ks vs => cases h
    | _ => exact q.elim
  cases t with
  | f =>
    have r : Rep K w g d v := r
    cases d with
    | lst ys =>
      cases h
      cases r with
      | lst h1 h2 h3 => exact ⟨_, _, rfl, h1, h3⟩
    | ref n =>
      have h : (match S[n]? with | some (_, .lst xs) => some xs | _ => none) = some xs := h
      cases e : S[n]? with
      | none => rw [e] at h; cases h
      | some co =>
        obtain ⟨c, o⟩ := co
        cases o with
        | dic ks vs => rw [e] at h; cases h
        | lst ys =>
          rw [e] at h
          cases h
          cases r with
          | ref hn =>
            obtain ⟨_, vs, h1, h2⟩ := W.live n _ _ e
            exact ⟨_, vs, rfl, h1, h2⟩
    | _ => cases h
  | b => obtain ⟨a, e, q⟩ := r; exact un a e q
  | n => obtain ⟨a, e, q, _⟩ := r; exact un a e q
theorem view_seq (W : WF K w g S) {x : DT} {v : V} (r : RepT K w g g₀ x v) {xs : List D} (h : seqV S x.1 = some xs) :
    ∃ a vs, v = .ref a ∧ (SqL K g.H a vs ∨ SqT K g.H a vs) ∧ Reps K w g xs vs := by
  cases e : lstV S x.1 with
  | some ys =>
    obtain ⟨a, vs, h1, h2, h3⟩ := view_lst W r e
    have : xs = ys := by
      obtain ⟨d, t⟩ := x
      cases d with
      | lst zs => cases h; cases e; rfl
      | ref n =>
        have h : (match S[n]? with | some (_, .lst xs) => some xs | _ => none) = some xs := h
        have e : (match S[n]? with | some (_, .lst xs) => some xs | _ => none) = some ys := e
        rw [h] at e; cases e; rfl
      | _ => cases e
    subst this
    exact ⟨a, vs, h1, .inl (.inl (.inl h2)), h3⟩
  | none =>
    obtain ⟨d, t⟩ := x
    cases d with
    | tup zs =>
      cases h
      cases t with
      | f =>
        have r : Rep K w g (.tup xs) v := r
        cases r with
        | tup h1 h2 =>
          refine ⟨_, _, rfl, .inr ?_, h2⟩
          rcases h1 with h1 | h1
          · exact .inl (.inl h1.1)
          · exact .inr h1
      | b => obtain ⟨a, _, _, _, q⟩ := r; exact q.elim
      | n => obtain ⟨a, _, ⟨_, _, q⟩, _⟩ := r; exact q.elim
    | lst zs => cases e
    | ref n =>
      have h : (match S[n]? with | some (_, .lst xs) => some xs | _ => none) = some xs := h
      have e : (match S[n]? with | some (_, .lst xs) => some xs | _ => none) = none := e
      rw [h] at e; cases e
    | _ => cases h
theorem view_tup {x : D} {v : V} {xs : List D} (r : Rep K w g (.tup xs) v) : ∃ a vs, v = .ref a ∧ SqT K g.H a vs ∧ Reps K w g xs vs := by
  cases r with
  | tup h1 h2 =>
    refine ⟨_, _, rfl, ?_, h2⟩
    rcases h1 with h1 | h1
    · exact .inl (.inl h1.1)
    · exact .inr h1
theorem view_cel {x : D} {v : V} {xs : List D} (r : Rep K w g (.cel xs) v) : ∃ a vs, v = .ref a ∧ SqL K g.H a vs ∧ Reps K w g xs vs := by
  cases r with
  | cel h1 h2 =>
    refine ⟨_, _, rfl, ?_, h2⟩
    rcases h1 with h1 | h1
    · exact .inl (.inr h1.1)
    · exact .inr h1
theorem rep_cel {x : DT} {v : V} {xs : List D} (r : RepT K w g g₀ x v) (h : x.1 = .cel xs) : Rep K w g (.cel xs) v := by
  obtain ⟨d, t⟩ := x
  cases h
  cases t with
  | f => exact r
  | b => obtain ⟨a, _, _, _, q⟩ := r; exact q.elim
  | n => obtain ⟨a, _, ⟨_, _, q⟩, _⟩ := r; exact q.elim
theorem view_seqR (W : WF K w g S) {x : DT} {v : V} (r : RepT K w g g₀ x v) {xs : List D} (h : seqR S x.1 = some xs) :
    ∃ a vs, v = .ref a ∧ (SqL K g.H a vs ∨ SqT K g.H a vs) ∧ Reps K w g xs vs := by
  obtain ⟨d, t⟩ := x
  cases d with
  | cel ys =>
    cases h
    obtain ⟨a, vs, rfl, h1, h2⟩ := view_cel (x := .non) (rep_cel r rfl)
    exact ⟨a, vs, rfl, .inl h1, h2⟩
  | _ => exact view_seq W r h
theorem view_dic (W : WF K w g S) {x : DT} {v : V} (r : RepT K w g g₀ x v) {ks : List NestedKey} {vs : List D} (h : dicV S x.1 = some (ks, vs)) :
    ∃ a, v = .ref a ∧ DicVw K w g a ks vs := by
  obtain ⟨d, t⟩ := x
  have un : ∀ a, v = .ref a → Unf K w g d a → ∃ a, v = .ref a ∧ DicVw K w g a ks vs := fun a e ⟨_, _, q⟩ => by
    cases d with
    | dic ks' vs' => cases h; exact ⟨a, e, DicAt.vw q⟩
    | lst xs => cases h
    | _ => exact q.elim
  cases t with
  | f =>
    have r : Rep K w g d v := r
    cases d with
    | dic ks' vs' =>
      cases h
      cases r with
      | dic h1 h2 h3 h4 h5 h6 h7 => exact ⟨_, rfl, _, _, _, _, _, h1.elim (fun q => .inl q.1) .inr, h2, h3, h4, h5, h6, h7⟩
    | ref n =>
      have h : (match S[n]? with | some (_, .dic ks vs) => some (ks, vs) | _ => none) = some (ks, vs) := h
      cases e : S[n]? with
      | none => rw [e] at h; cases h
      | some co =>
        obtain ⟨c, o⟩ := co
        cases o with
        | lst ys => rw [e] at h; cases h
        | dic ks' vs' =>
          rw [e] at h
          cases h
          cases r with
          | ref hn => exact ⟨_, rfl, DicAt.vw (W.live n _ _ e).2⟩
    | _ => cases h
  | b => obtain ⟨a, e, q⟩ := r; exact un a e q
  | n => obtain ⟨a, e, q, _⟩ := r; exact un a e q
/-- scalars are what they are -/
theorem rep_int {x : DT} {v : V} {i : Int} (r : RepT K w g g₀ x v) (h : x.1 = .int i) : v = .int i := by
  obtain ⟨d, t⟩ := x
  cases h
  cases t with
  | f => cases (show Rep K w g (.int i) v from r); rfl
  | b => obtain ⟨a, _, _, _, q⟩ := r; exact q.elim
  | n => obtain ⟨a, _, ⟨_, _, q⟩, _⟩ := r; exact q.elim
theorem rep_str {x : DT} {v : V} {z : Str} (r : RepT K w g g₀ x v) (h : x.1 = .str z) : v = .str z := by
  obtain ⟨d, t⟩ := x
  cases h
  cases t with
  | f => cases (show Rep K w g (.str z) v from r); rfl
  | b => obtain ⟨a, _, _, _, q⟩ := r; exact q.elim
  | n => obtain ⟨a, _, ⟨_, _, q⟩, _⟩ := r; exact q.elim
theorem rep_bl {x : DT} {v : V} {b : Bool} (r : RepT K w g g₀ x v) (h : x.1 = .bl b) : v = .bl b := by
  obtain ⟨d, t⟩ := x
  cases h
  cases t with
  | f => cases (show Rep K w g (.bl b) v from r); rfl
  | b => obtain ⟨a, _, _, _, q⟩ := r; exact q.elim
  | n => obtain ⟨a, _, ⟨_, _, q⟩, _⟩ := r; exact q.elim
theorem rep_non {x : DT} {v : V} (r : RepT K w g g₀ x v) (h : x.1 = .non) : v = .non := by
  obtain ⟨d, t⟩ := x
  cases h
  cases t with
  | f => cases (show Rep K w g .non v from r); rfl
  | b => obtain ⟨a, _, _, _, q⟩ := r; exact q.elim
  | n => obtain ⟨a, _, ⟨_, _, q⟩, _⟩ := r; exact q.elim
theorem rep_tup {x : DT} {v : V} {xs : List D} (r : RepT K w g g₀ x v) (h : x.1 = .tup xs) : Rep K w g (.tup xs) v := by
  obtain ⟨d, t⟩ := x
  cases h
  cases t with
  | f => exact r
  | b => obtain ⟨a, _, _, _, q⟩ := r; exact q.elim
  | n => obtain ⟨a, _, ⟨_, _, q⟩, _⟩ := r; exact q.elim
end

/-! ### operations by values -/
/-- what is wanted of an operation's end: the store stays -/
def Fin (K : W.Frag) (w : World) (g₀ g : Gh) (S : Sto) (z : DT) (Q : VK) : Prop := ∀ g' v, After g₀ g' → After g g' → WF K w g' S → RepT K w g' g₀ z v → Q v g'.H
section
variable {K : W.Frag} {w : World} {g g' g₀ : Gh} {S : Sto} {x y z : DT} {v u : V} {Q : VK}
theorem Fin.here (h : Fin K w g₀ g S z Q) (A : After g₀ g) (W : WF K w g S) {v : V} (r : RepT K w g g₀ z v) : Q v g.H := h g v A (After.refl g) W r
theorem Fin.tup {xs : List D} {vs : List V} (h : Fin K w g₀ g S (held (.tup xs)) Q) (A : After g₀ g) (W : WF K w g S) (r : Reps K w g xs vs) : ∀ p, g.H p = none → Q (.ref p) (upd g.H p (.tup vs)) := fun p hp => by
  obtain ⟨g', e, h1, h2, h3, h4⟩ := lay_tup A W hp r
  rw [← e]
  exact h g' _ h1 h2 h3 h4
theorem Fin.lst {xs : List D} {vs : List V} (h : Fin K w g₀ g S (fresh (.lst xs)) Q) (A : After g₀ g) (W : WF K w g S) (r : Reps K w g xs vs) : ∀ p, g.H p = none → Q (.ref p) (upd g.H p (.lst vs)) := fun p hp => by
  obtain ⟨g', e, h1, h2, h3, h4⟩ := lay_lst A W hp r
  rw [← e]
  exact h g' _ h1 h2 h3 h4

/-- the rule for a two-place operation on values -/
def Op2 (f : Sto → D → D → Option DT) (r : W.Frag → R2) : Prop := ∀ (K : W.Frag) (w : World) (g₀ g : Gh) (S : Sto) (x y z : DT) (v u : V) (Q : VK),
  After g₀ g → WF K w g S → RepT K w g g₀ x v → RepT K w g g₀ y u → f S x.1 y.1 = some z → Fin K w g₀ g S z Q → r K v u g.H Q

def rAddA (K : W.Frag) : R2 := fun x y H Q => ((rI0 fun i j => .int (i + j)) x y H Q ∨ (∃ i j, x = .str i ∧ y = .str j ∧ i.length + j.length ≤ sizeLine ∧ Q (.str (i ++ j)) H)) ∨ (rCatA K x y H Q ∨ rCat x y H Q)
theorem or_add {X : Cx} : OpR X (binaryOp .Add) (rAddA X.K) := (OpR.or (OpR.or op_add op_add_str) (OpR.or op_catA op_cat))
theorem op2_add : Op2 (fun S => binF S .add) rAddA := by
  intro K w g₀ g S x y z v u Q A W rx ry h fin
  have cat : ∀ a b, lstV S x.1 = some a → lstV S y.1 = some b → (if a.length + b.length ≤ 16777216 then some (fresh (.lst (a ++ b))) else none) = some z → rAddA K v u g.H Q := fun a b h1 h2 h3 => by
    obtain ⟨p, vs, rfl, hp, rp⟩ := view_lst W rx h1
    obtain ⟨q, us, rfl, hq, rq⟩ := view_lst W ry h2
    split at h3
    · rename_i hz
      cases h3
      refine .inr (.inr ⟨p, q, vs, us, rfl, rfl, hp, hq, ?_, ?_⟩)
      · rw [lineN, ← rp.length, ← rq.length]; exact hz
      · exact fin.lst A W (rp.append rq)
    · cases h3
  obtain ⟨dx, tx⟩ := x
  obtain ⟨dy, ty⟩ := y
  have gen : (match lstV S dx, lstV S dy with
    | some a, some b => if a.length + b.length ≤ 16777216 then some (fresh (.lst (a ++ b))) else none
    | _, _ => none) = some z → rAddA K v u g.H Q := fun h => by
    split at h
    · rename_i a b h1 h2
      exact cat a b h1 h2 h
    · cases h
  cases dx with
  | int i =>
    cases dy with
    | int j =>
      cases h
      cases rep_int rx rfl
      cases rep_int ry rfl
      exact .inl (.inl ⟨i, j, rfl, rfl, fin.here A W (.int _)⟩)
    | _ => exact gen h
  | str a =>
    cases dy with
    | str b =>
      have h : (if a.length + b.length ≤ 16777216 then some (held (.str (a ++ b))) else none) = some z := h
      split at h
      · rename_i hz
        cases h
        cases rep_str rx rfl
        cases rep_str ry rfl
        exact .inl (.inr ⟨a, b, rfl, rfl, by rw [lineN]; exact hz, fin.here A W (.str _)⟩)
      · cases h
    | _ => exact gen h
  | tup a =>
    cases dy with
    | tup b =>
      have h : (if a.length + b.length ≤ 16777216 then some (held (.tup (a ++ b))) else none) = some z := h
      split at h
      · rename_i hz
        cases h
        have r1 := rep_tup rx rfl
        have r2 := rep_tup ry rfl
        obtain ⟨p, vs, rfl, hp, rp⟩ := view_tup (x := .non) r1
        obtain ⟨q, us, rfl, hq, rq⟩ := view_tup (x := .non) r2
        refine .inr (.inl ⟨p, q, vs, us, rfl, rfl, hp, hq, ?_, fun e => ?_, fun _ e => ?_, fun _ _ => fin.tup A W (rp.append rq)⟩)
        · rw [lineN, ← rp.length, ← rq.length]; exact hz
        · subst e
          cases rp
          exact fin.here A W (show Rep K w g (.tup ([] ++ b)) _ from r2)
        · subst e
          cases rq
          exact fin.here A W (show Rep K w g (.tup (a ++ [])) _ by rw [List.append_nil]; exact r1)
      · cases h
    | _ => exact gen h
  | _ => exact gen h
end
end Mp
set_option Elab.async false
set_option linter.all false
set_option maxRecDepth 100000
set_option maxHeartbeats 4000000
/-! more operations by values -/
namespace Mp
open PySem PySem.Spec PyProof.Rows L2

section
variable {K : W.Frag} {w : World} {g g' g₀ : Gh} {S : Sto} {x y z : DT} {v u : V} {Q : VK}

def rSubA (_ : W.Frag) : R2 := rI0 fun i j => .int (i - j)
theorem op2_sub : Op2 (fun S => binF S .sub) rSubA := by
  intro K w g₀ g S x y z v u Q A W rx ry h fin
  obtain ⟨dx, tx⟩ := x
  obtain ⟨dy, ty⟩ := y
  cases dx with
  | int i =>
    cases dy with
    | int j =>
      cases h
      cases rep_int rx rfl
      cases rep_int ry rfl
      exact ⟨i, j, rfl, rfl, fin.here A W (.int _)⟩
    | _ => cases h
  | _ => cases h
def rMulA (K : W.Frag) : R2 := fun x y H Q => (rI CMul fun i j => .int (i * j)) x y H Q ∨ rRepT K x y H Q
theorem or_mul {X : Cx} : OpR X (binaryOp .Mult) (rMulA X.K) := OpR.or op_mul op_repT
theorem op2_mul : Op2 (fun S => binF S .mul) rMulA := by
  intro K w g₀ g S x y z v u Q A W rx ry h fin
  obtain ⟨dx, tx⟩ := x
  obtain ⟨dy, ty⟩ := y
  cases dx with
  | int i =>
    cases dy with
    | int j =>
      have h : (if (-(2 ^ 64) < i ∧ i < 2 ^ 64) ∨ (-(2 ^ 64) < j ∧ j < 2 ^ 64) then some (held (.int (i * j))) else none) = some z := h
      split at h
      · rename_i hc
        cases h
        cases rep_int rx rfl
        cases rep_int ry rfl
        exact .inl ⟨i, j, rfl, rfl, hc, fin.here A W (.int _)⟩
      · cases h
    | _ => cases h
  | tup a =>
    cases dy with
    | int k =>
      have h : (if a ≠ [] ∧ 2 ≤ k ∧ k ≤ 1000 ∧ a.length ≤ 1000 then some (held (.tup (List.replicate k.toNat a).flatten)) else none) = some z := h
      split at h
      · rename_i hc
        cases h
        cases rep_int ry rfl
        obtain ⟨p, vs, rfl, hp, rp⟩ := view_tup (x := .non) (rep_tup rx rfl)
        refine .inr ⟨p, k, vs, rfl, rfl, hp, fun e => ?_, hc.2.1, hc.2.2.1, by rw [← rp.length]; exact hc.2.2.2, fin.tup A W (rp.rep _)⟩
        subst e
        cases rp
        exact hc.1 rfl
      · cases h
    | _ => cases h
  | _ => cases h
def rFdivA (_ : W.Frag) : R2 := rI CDiv fun i j => .int (i / j)
theorem op2_fdiv : Op2 (fun S => binF S .fdiv) rFdivA := by
  intro K w g₀ g S x y z v u Q A W rx ry h fin
  obtain ⟨dx, tx⟩ := x
  obtain ⟨dy, ty⟩ := y
  cases dx with
  | int i =>
    cases dy with
    | int j =>
      have h : (if 0 < j ∧ j < 1073741824 then some (held (.int (i / j))) else none) = some z := h
      split at h
      · rename_i hc
        cases h
        cases rep_int rx rfl
        cases rep_int ry rfl
        exact ⟨i, j, rfl, rfl, hc, fin.here A W (.int _)⟩
      · cases h
    | _ => cases h
  | _ => cases h
def rModA (_ : W.Frag) : R2 := rI (fun _ j => 0 < j) fun i j => .int (i % j)
theorem op2_mod : Op2 (fun S => binF S .mod) rModA := by
  intro K w g₀ g S x y z v u Q A W rx ry h fin
  obtain ⟨dx, tx⟩ := x
  obtain ⟨dy, ty⟩ := y
  cases dx with
  | int i =>
    cases dy with
    | int j =>
      have h : (if 0 < j then some (held (.int (i % j))) else none) = some z := h
      split at h
      · rename_i hc
        cases h
        cases rep_int rx rfl
        cases rep_int ry rfl
        exact ⟨i, j, rfl, rfl, hc, fin.here A W (.int _)⟩
      · cases h
    | _ => cases h
  | _ => cases h
def rPowA (_ : W.Frag) : R2 := rI CPow fun i j => .int (i ^ j.toNat)
theorem op2_pow : Op2 (fun S => binF S .pow) rPowA := by
  intro K w g₀ g S x y z v u Q A W rx ry h fin
  obtain ⟨dx, tx⟩ := x
  obtain ⟨dy, ty⟩ := y
  cases dx with
  | int i =>
    cases dy with
    | int j =>
      have h : (if 0 ≤ j ∧ j ≤ 1000000 ∧ i.natAbs < 2 ^ 64 then some (held (.int (i ^ j.toNat))) else none) = some z := h
      split at h
      · rename_i hc
        cases h
        cases rep_int rx rfl
        cases rep_int ry rfl
        exact ⟨i, j, rfl, rfl, hc, fin.here A W (.int _)⟩
      · cases h
    | _ => cases h
  | _ => cases h

/-! ### == -/
mutual
theorem dp_of : ∀ {d : D} {v : V}, Rep K w g d v → d.pd.canLay0 = true → Dp K g.H v d.pd
  | _, _, .non, _ => .non
  | _, _, .bl b, _ => .bl b
  | _, _, .int i, _ => .int i
  | _, _, .str z, _ => .str z
  | _, _, .tup h r, c => .tup (h.elim (fun q => .inl (.inl q.1)) .inr) (dps_of r c)
  | _, _, .lst h f r, c => .lst (.inl (.inl h)) (dps_of r c)
  | _, _, .dic .., c => by cases c
  | _, _, .ref _, c => by cases c
  | _, _, .cel _ _, c => by cases c
theorem dps_of : ∀ {ds : List D} {vs : List V}, Reps K w g ds vs → PyData.canLayAll0 (D.pds ds) = true → DpAll K g.H vs (D.pds ds)
  | _, _, .nil, _ => .nil
  | _, _, .cons r t, c => by
    have c' := (Bool.and_eq_true_iff.mp (show (_ && _) = true from c))
    exact .cons (dp_of r c'.1) (dps_of t c'.2)
end
theorem dp_lst (W : WF K w g S) (r : RepT K w g g₀ x v) {xs : List D} (h : lstV S x.1 = some xs) (c : (D.lst xs).pd.canLay0 = true) : Dp K g.H v (D.lst xs).pd := by
  obtain ⟨a, vs, rfl, h1, h2⟩ := view_lst W r h
  exact .lst (.inl (.inl h1)) (dps_of h2 c)
theorem dp_any (W : WF K w g S) (r : RepT K w g g₀ x v) (h : lstV S x.1 = none) (c : x.1.pd.canLay0 = true) : Dp K g.H v x.1.pd := by
  obtain ⟨d, t⟩ := x
  cases t with
  | f => exact dp_of (show Rep K w g d v from r) c
  | b =>
    obtain ⟨a, _, _, _, q⟩ := r
    cases d with
    | lst xs => cases h
    | dic ks vs => cases c
    | _ => exact q.elim
  | n =>
    obtain ⟨a, _, ⟨_, _, q⟩, _⟩ := r
    cases d with
    | lst xs => cases h
    | dic ks vs => cases c
    | _ => exact q.elim
/-- a value as data: a list is looked at where it stands -/
def asD (S : Sto) (d : D) : D := match lstV S d with
  | some xs => .lst xs
  | none => d
theorem dp_asD (W : WF K w g S) (r : RepT K w g g₀ x v) (c : SeqAt.shaped (asD S x.1).pd = true) : Dp K g.H v (asD S x.1).pd := by
  have c := SeqAt.canLay_of_shaped c
  unfold asD at c ⊢
  cases h : lstV S x.1 with
  | some xs => rw [h] at c; exact dp_lst W r h c
  | none => rw [h] at c; exact dp_any W r h c
theorem cmp_eq_as (s : Sto) (x y : D) : cmpF s .eq x y = D.eqq (asD s x) (asD s y) := by
  unfold cmpF asD
  cases lstV s x <;> cases lstV s y <;> rfl
theorem cmp_ne_as (s : Sto) (x y : D) : cmpF s .ne x y = (D.eqq (asD s x) (asD s y)).map (!·) := by
  unfold cmpF asD
  cases lstV s x <;> cases lstV s y <;> rfl
theorem eqq_some {x y : D} {b : Bool} (h : D.eqq x y = some b) : SeqAt.shaped x.pd = true ∧ SeqAt.shaped y.pd = true ∧ PyData.eqv x.pd y.pd = b := by
  unfold D.eqq at h
  split at h
  · rename_i hc
    cases h
    have := Bool.and_eq_true_iff.mp hc
    exact ⟨this.1, this.2, rfl⟩
  · cases h

def Cmp2 (f : Sto → D → D → Option Bool) (r : W.Frag → R2) : Prop := ∀ (K : W.Frag) (w : World) (g₀ g : Gh) (S : Sto) (x y : DT) (b : Bool) (v u : V) (Q : VK),
  After g₀ g → WF K w g S → RepT K w g g₀ x v → RepT K w g g₀ y u → f S x.1 y.1 = some b → Q (.bl b) g.H → r K v u g.H Q
theorem cmp2_eq : Cmp2 (fun S => cmpF S .eq) rEqD := by
  intro K w g₀ g S x y b v u Q A W rx ry h q
  have h : cmpF S .eq x.1 y.1 = some b := h
  rw [cmp_eq_as] at h
  obtain ⟨h1, h2, rfl⟩ := eqq_some h
  exact ⟨_, _, dp_asD W rx h1, dp_asD W ry h2, h1, h2, q⟩
theorem cmp2_ne : Cmp2 (fun S => cmpF S .ne) rNeD := by
  intro K w g₀ g S x y b v u Q A W rx ry h q
  have h : cmpF S .ne x.1 y.1 = some b := h
  rw [cmp_ne_as] at h
  obtain ⟨c, hc, rfl⟩ := Option.map_eq_some_iff.mp h
  obtain ⟨h1, h2, rfl⟩ := eqq_some hc
  exact ⟨_, _, dp_asD W rx h1, dp_asD W ry h2, h1, h2, q⟩

/-! ### <, <=, >, >= -/
def rOrd (f : Int → Int → Bool) (h : List Nat → List Nat → Bool) (_ : W.Frag) : R2 := fun x y H Q =>
  (rI0 fun i j => .bl (f i j)) x y H Q ∨ (∃ i j, x = .str i ∧ y = .str j ∧ Q (.bl (h i.cps.toList j.cps.toList)) H)
abbrev rLtA := rOrd (fun i j => decide (i < j)) fun a b => decide (a < b)
abbrev rLeA := rOrd (fun i j => decide (i ≤ j)) fun a b => !decide (b < a)
abbrev rGtA := rOrd (fun i j => decide (j < i)) fun a b => decide (b < a)
abbrev rGeA := rOrd (fun i j => decide (j ≤ i)) fun a b => !decide (a < b)
theorem or_lt {X : Cx} : OpR X (compareOp .Lt) (rLtA X.K) := OpR.or op_lt op_lt_str
theorem or_le {X : Cx} : OpR X (compareOp .LtE) (rLeA X.K) := OpR.or op_le op_le_str
theorem or_gt {X : Cx} : OpR X (compareOp .Gt) (rGtA X.K) := OpR.or op_gt op_gt_str
theorem or_ge {X : Cx} : OpR X (compareOp .GtE) (rGeA X.K) := OpR.or op_ge op_ge_str
theorem ord_case {f : Int → Int → Bool} {k : List Nat → List Nat → Bool} {b : Bool} (rx : RepT K w g g₀ x v) (ry : RepT K w g g₀ y u)
    (h : (match x.1, y.1 with
      | .int i, .int j => some (f i j)
      | .str a, .str b => some (k a.cps.toList b.cps.toList)
      | _, _ => none) = some b) (q : Q (.bl b) g.H) : rOrd f k K v u g.H Q := by
  obtain ⟨dx, tx⟩ := x
  obtain ⟨dy, ty⟩ := y
  cases dx with
  | int i =>
    cases dy with
    | int j =>
      cases h
      cases rep_int rx rfl
      cases rep_int ry rfl
      exact .inl ⟨i, j, rfl, rfl, q⟩
    | _ => cases h
  | str a =>
    cases dy with
    | str c =>
      cases h
      cases rep_str rx rfl
      cases rep_str ry rfl
      exact .inr ⟨a, c, rfl, rfl, q⟩
    | _ => cases h
  | _ => cases h
theorem cmp2_lt : Cmp2 (fun S => cmpF S .lt) rLtA := fun K w g₀ g S x y b v u Q A W rx ry h q => ord_case rx ry h q
theorem cmp2_le : Cmp2 (fun S => cmpF S .le) rLeA := fun K w g₀ g S x y b v u Q A W rx ry h q => ord_case rx ry h q
theorem cmp2_gt : Cmp2 (fun S => cmpF S .gt) rGtA := fun K w g₀ g S x y b v u Q A W rx ry h q => ord_case rx ry h q
theorem cmp2_ge : Cmp2 (fun S => cmpF S .ge) rGeA := fun K w g₀ g S x y b v u Q A W rx ry h q => ord_case rx ry h q

/-! ### is -/
theorem rep_isnon {x : DT} {v : V} (r : RepT K w g g₀ x v) : decide (v = .non) = (match x.1 with | .non => true | _ => false) := by
  obtain ⟨d, t⟩ := x
  cases t with
  | f => cases (show Rep K w g d v from r) <;> simp
  | b =>
    obtain ⟨a, rfl, _, _, q⟩ := r
    cases d with
    | non => exact q.elim
    | _ => simp
  | n =>
    obtain ⟨a, rfl, ⟨_, _, q⟩, _⟩ := r
    cases d with
    | non => exact q.elim
    | _ => simp
def rIsA (_ : W.Frag) : R2 := fun x y H Q => (y = .non ∧ Q (.bl (decide (x = .non))) H) ∨ (∃ a b, x = .bl a ∧ y = .bl b ∧ Q (.bl (decide (a = b))) H)
def rIsnA (_ : W.Frag) : R2 := fun x y H Q => (y = .non ∧ Q (.bl (!decide (x = .non))) H) ∨ (∃ a b, x = .bl a ∧ y = .bl b ∧ Q (.bl (!decide (a = b))) H)
theorem or_is {X : Cx} : OpR X (compareOp .Is) (rIsA X.K) := OpR.or op_isN op_is_bl
theorem or_isn {X : Cx} : OpR X (compareOp .IsNot) (rIsnA X.K) := OpR.or op_notN op_isnot_bl
theorem cmp2_is : Cmp2 (fun S => cmpF S .is) rIsA := by
  intro K w g₀ g S x y b v u Q A W rx ry h q
  obtain ⟨dy, ty⟩ := y
  cases dy with
  | non =>
    cases rep_non ry rfl
    refine .inl ⟨rfl, ?_⟩
    rw [rep_isnon rx]
    cases h
    exact q
  | bl c =>
    cases rep_bl ry rfl
    obtain ⟨dx, tx⟩ := x
    cases dx with
    | bl a =>
      cases h
      cases rep_bl rx rfl
      exact .inr ⟨a, c, rfl, rfl, q⟩
    | _ => cases h
  | _ => cases h
theorem cmp2_isn : Cmp2 (fun S => cmpF S .isn) rIsnA := by
  intro K w g₀ g S x y b v u Q A W rx ry h q
  obtain ⟨dy, ty⟩ := y
  cases dy with
  | non =>
    cases rep_non ry rfl
    refine .inl ⟨rfl, ?_⟩
    rw [rep_isnon rx]
    obtain ⟨dx, tx⟩ := x
    cases dx <;> cases h <;> exact q
  | bl c =>
    cases rep_bl ry rfl
    obtain ⟨dx, tx⟩ := x
    cases dx with
    | bl a =>
      cases h
      cases rep_bl rx rfl
      exact .inr ⟨a, c, rfl, rfl, q⟩
    | _ => cases h
  | _ => cases h
end
end Mp
set_option Elab.async false
set_option linter.all false
set_option maxRecDepth 100000
set_option maxHeartbeats 4000000
/-! dicts whose keys are texts, numbers, None and tuples of such, in any mix, at the level of the machine's heap -/
namespace Mp
open PySem PySem.Spec PyProof.Rows L2

section
variable {prog : Program} {w : World} {A : Around} {E : Value → Shared → Prop} {s : Shared}

/-- at d stands a dict with these entries -/
structure DcH (w : World) (h : Heap) (d : Addr) (es : Array DictEntry) (ep : Nat) (xs : List KE3) : Prop where
  obj : ∃ o, h.get? d = some o ∧ o.ExactDict ∧ o.data = .dict es ep
  ent : es.toList = xs.map (entK w)
  key : ∀ x ∈ xs, NestedIs h x.1 x.2.1 ∧ x.1.depth ≤ 8
  nd : (xs.map (·.1)).Nodup

theorem DcH.size {h : Heap} {d : Addr} {es : Array DictEntry} {ep : Nat} {xs : List KE3} (x : DcH w h d es ep xs) : es.size = xs.length := by
  rw [← Array.length_toList, x.ent, List.length_map]
theorem DcH.at_ {h : Heap} {d : Addr} {es : Array DictEntry} {ep : Nat} {xs : List KE3} (x : DcH w h d es ep xs) (j : Nat) : es[j]? = (xs[j]?).map (entK w) := by
  rw [← Array.getElem?_toList, x.ent, List.getElem?_map]
theorem idx_once {xs : List KE3} (nd : (xs.map (·.1)).Nodup) {i j : Nat} {k : NestedKey} {p q : Value × Value} (hi : xs[i]? = some (k, p)) (hj : xs[j]? = some (k, q)) : i = j := by
  have a : (xs.map (·.1))[i]? = some k := by rw [List.getElem?_map, hi]; rfl
  have b : (xs.map (·.1))[j]? = some k := by rw [List.getElem?_map, hj]; rfl
  exact (List.getElem?_inj (List.getElem?_eq_some_iff.mp a).1 nd).mp (a.trans b.symm)
theorem may_quiet {key : Value} {k : NestedKey} (hk : NestedIs s.heap k key) (hd : k.depth ≤ 8) {stored : List Value} {Q : Bool → Shared → Prop}
    (hs : ∀ v ∈ stored, ∃ k', NestedIs s.heap k' v ∧ k'.depth ≤ 8) (h : Q false s) : wpAny (model prog w) A (tableMayTell key stored) Q E s := by
  unfold tableMayTell
  split
  · exact wpAny_pure h
  · refine wpAny_bind (quiet_key k key 8 s hk hd A E _ ?_)
    simp only [Bool.not_true, Bool.false_eq_true, if_false]
    refine wpAny_bind ?_
    refine wpAny_forIn_list _ (fun rest r s' => s' = s ∧ r = (none, ()) ∧ ∀ v ∈ rest, ∃ k', NestedIs s.heap k' v ∧ k'.depth ≤ 8) _ ?_ ?_ _ _ ⟨rfl, rfl, hs⟩
    · rintro x rest r s' ⟨rfl, rfl, hr⟩
      obtain ⟨k', hb, hl⟩ := hr x List.mem_cons_self
      refine wpAny_bind (quiet_key k' x 8 s' hb hl A E _ ?_)
      simp only [Bool.not_true, Bool.false_eq_true, if_false]
      exact wpAny_pure ⟨rfl, rfl, fun v hv => hr v (List.mem_cons_of_mem _ hv)⟩
    · rintro r s' ⟨rfl, rfl, _⟩
      exact wpAny_pure h
theorem eq_keys {x y : NestedKey} {a b : Value} {Q : Bool → Shared → Prop} (hx : NestedIs s.heap x a) (hy : NestedIs s.heap y b) (dx : x.depth ≤ 8) (hu : A.units + 8 < cLine) (h : Q (NestedKey.beq x y) s) :
    wpAny (model prog w) A (eqBool a b) Q E s := eqAt_key x y A s a b hx hy (by omega) _ _ _ _ h
theorem beq_true {a b : NestedKey} : NestedKey.beq a b = true ↔ a = b := ⟨NestedKey.eq_of_beq a b, fun e => by rw [e]; exact NestedKey.beq_self b⟩
theorem beq_false {a b : NestedKey} : NestedKey.beq a b = false ↔ a ≠ b := by
  rw [← Bool.not_eq_true, beq_true]

/-- the turns over the places with the key's hash; rep: is the hit carried on (true) or given back at once -/
theorem dfind {d : Addr} {es : Array DictEntry} {ep : Nat} {xs : List KE3} {k : NestedKey} {key : Value} {Q : Option Nat → Shared → Prop} (hu : A.units + 8 < cLine) (hk : NestedIs s.heap k key) (hdk : k.depth ≤ 8)
    (D : DcH w s.heap d es ep xs) (hnone : (∀ (j : Nat) (p : Value × Value), xs[j]? ≠ some (k, p)) → Q none s) (hsome : ∀ (j : Nat) (p : Value × Value), xs[j]? = some (k, p) → Q (some j) s) :
    wpAny (model prog w) A (dictFind d key (k.hash w)) Q E s := by
  obtain ⟨o, ho, hex, hd⟩ := D.obj
  have hsz : es.size = xs.length := D.size
  have he := D.at_
  have haskey : ∀ (j : Nat) (p : Value × Value), xs[j]? = some (k, p) → ((es[j]?.map (·.hash)) == some (k.hash w)) = true := by
    intro j p hj
    rw [he j, hj]
    simp [entK]
  have hmem : ∀ e ∈ es, ∃ x ∈ xs, e = entK w x := by
    intro e hin
    have : e ∈ xs.map (entK w) := D.ent ▸ Array.mem_toList_iff.mpr hin
    obtain ⟨x, hx, rfl⟩ := List.mem_map.mp this
    exact ⟨x, hx, rfl⟩
  unfold dictFind
  try with_reducible refine wpAny_holding ?_
  refine wpAny_bind (wpAny_dictEntries ho hd ?_)
  have hst : ∀ v ∈ (placesWithHash es.size (fun i => es[i]?.map (·.hash)) (k.hash w)).filterMap (fun i => es[i]?.map (·.key)), ∃ k', NestedIs s.heap k' v ∧ k'.depth ≤ 8 := by
    intro v hv
    obtain ⟨i, _, hi⟩ := List.mem_filterMap.mp hv
    cases hei : es[i]? with
    | none => rw [hei] at hi; cases hi
    | some e =>
      rw [hei] at hi
      obtain rfl : e.key = v := by simpa using hi
      obtain ⟨x, hx, rfl⟩ := hmem e (Array.mem_of_getElem? hei)
      exact ⟨x.1, D.key x hx⟩
  have hnext : ∀ {x : Nat} {i : Nat}, (∀ j, i ≤ j → j < x → ((es[j]?.map (·.hash)) == some (k.hash w)) = false) → (∀ j p, j < i → xs[j]? ≠ some (k, p)) → ∀ j p, j < x → xs[j]? ≠ some (k, p) := fun {x i} hskip hno j p hjx hj => by
    rcases Nat.lt_or_ge j i with h | h
    · exact hno j p h hj
    · have q := hskip j h hjx
      rw [haskey j p hj] at q
      exact absurd q (by decide)
  have hstep : ∀ {x : Nat} {k' : NestedKey} {b : Value × Value}, xs[x]? = some (k', b) → k' ≠ k → (∀ j p, j < x → xs[j]? ≠ some (k, p)) → ∀ j p, j < x + 1 → xs[j]? ≠ some (k, p) := fun {x k' b} hx hne hno j p hjx hj => by
    rcases Nat.lt_or_ge j x with h | h
    · exact hno j p h hj
    · have e : j = x := by omega
      subst e
      rw [hx] at hj
      injection hj with hj
      injection hj with hj
      exact hne hj
  have hend : ∀ {i : Nat}, [] = (List.range' i (es.size - i)).filter (fun i => (es[i]?.map (·.hash)) == some (k.hash w)) → (∀ j p, j < i → xs[j]? ≠ some (k, p)) → ∀ j p, xs[j]? ≠ some (k, p) := fun {i} hr hno j p hj => by
    rcases Nat.lt_or_ge j i with h | h
    · exact hno j p h hj
    · have hjl : j < es.size := by
        rw [hsz]
        exact (List.getElem?_eq_some_iff.mp hj).1
      have q := List.filter_eq_nil_iff.mp hr.symm j (List.mem_range'_1.mpr ⟨h, by omega⟩)
      exact q (haskey j p hj)
  have hat : ∀ {x : Nat}, x < es.size → ∃ k' b, xs[x]? = some (k', b) ∧ NestedIs s.heap k' b.1 ∧ k'.depth ≤ 8 ∧ es[x]? = some ⟨k'.hash w, b.1, b.2⟩ := fun {x} hlt => by
    have hl : x < xs.length := by rw [← hsz]; exact hlt
    have hx : xs[x]? = some xs[x] := List.getElem?_eq_getElem hl
    obtain ⟨h1, h2⟩ := D.key _ (List.mem_of_getElem? hx)
    exact ⟨xs[x].1, xs[x].2, hx, h1, h2, by rw [he x, hx]; rfl⟩
  have walk : wpAny (model prog w) A (dictWalkPlain d key (k.hash w) es (placesWithHash es.size (fun i => es[i]?.map (·.hash)) (k.hash w))) Q E s := by
    refine wpAny_bind ?_
    refine wpAny_forIn_list _
      (fun rest b s' => s' = s ∧ b = (none, ()) ∧ ∃ i, rest = (List.range' i (es.size - i)).filter (fun i => (es[i]?.map (·.hash)) == some (k.hash w)) ∧ i ≤ es.size ∧ ∀ j p, j < i → xs[j]? ≠ some (k, p)) _ ?_ ?_ _ _
      ⟨rfl, rfl, 0, by rw [placesWithHash, List.range_eq_range', Nat.sub_zero], Nat.zero_le _, fun _ _ h => absurd h (Nat.not_lt_zero _)⟩
    · rintro x rest b s' ⟨rfl, rfl, i, hr, hi, hno⟩
      obtain ⟨hix, hxn, hpx, hskip, hrest⟩ := filter_range'_cons _ _ _ _ _ hr.symm
      have hlt : x < es.size := by omega
      have hrest' : rest = (List.range' (x + 1) (es.size - (x + 1))).filter (fun i => (es[i]?.map (·.hash)) == some (k.hash w)) := by rw [hrest]; congr 2; omega
      obtain ⟨k', b, hx, hib, hdb, hex'⟩ := hat hlt
      rw [hex']
      dsimp only
      by_cases hh : (k'.hash w == k.hash w) = true
      · rw [if_pos hh]
        refine wpAny_bind (wpAny_dictEpoch ho hd (wpAny_bind (eq_keys hib hk hdb hu (wpAny_bind (wpAny_dictEpoch ho hd ?_)))))
        show wpAny _ _ (if (ep != ep) = true then _ else _) _ E _
        rw [if_neg (by simp)]
        by_cases hkk : k' = k
        · rw [beq_true.mpr hkk]
          subst hkk
          exact wpAny_bind (wpAny_rule (wpAny_pure (wpAny_pure (hsome x _ hx))))
        · rw [beq_false.mpr hkk]
          exact wpAny_bind (wpAny_rule (wpAny_pure ⟨rfl, rfl, x + 1, hrest', hlt, hstep hx hkk (hnext hskip hno)⟩))
      · rw [if_neg hh]
        refine wpAny_pure ⟨rfl, rfl, x + 1, hrest', hlt, hstep hx ?_ (hnext hskip hno)⟩
        intro hkk
        rw [hkk] at hh; simp at hh
    · rintro b s' ⟨rfl, rfl, i, hr, hi, hno⟩
      exact wpAny_pure (hnone (hend hr hno))
  have hany : ¬ (es.any fun e => e.key == key && e.hash != k.hash w) = true ∨ ∀ a, key ≠ .ref a := by
    by_cases hr : ∃ a, key = .ref a
    · obtain ⟨a, rfl⟩ := hr
      refine .inl ?_
      rw [← Array.any_toList, List.any_eq_true]
      rintro ⟨e, hin, hc⟩
      obtain ⟨x, hx, rfl⟩ := hmem e (Array.mem_toList_iff.mp hin)
      simp only [entK, Bool.and_eq_true, beq_iff_eq, bne_iff_ne, ne_eq] at hc
      obtain ⟨hxa, hne⟩ := hc
      have q := (D.key x hx).1
      rw [hxa] at q
      exact hne (by rw [NestedIs.inj _ _ _ q hk])
    · exact .inr fun a e => hr ⟨a, e⟩
  have byv : ∀ (z : Str) (t : Tok), key = .str z t → (es.all fun e => isExactStrKey e.key) = true → wpAny (model prog w) A (foundByValue d key es z) Q E s := fun z t ek hall => by
    have hkz : k = .text z := by
      subst ek
      cases hk with
      | text => rfl
    have hf : ∀ (j : Nat) (k' : NestedKey) (b : Value × Value), xs[j]? = some (k', b) → ∀ e, es[j]? = some e → (e.key.isStr z = true ↔ k' = k) := fun j k' b hj e hje => by
      rw [he j, hj] at hje
      obtain rfl : entK w (k', b) = e := by simpa using hje
      have q := (D.key _ (List.mem_of_getElem? hj)).1
      have hx : isExactStrKey b.1 = true := by
        have := (Array.all_eq_true'.mp hall) _ (Array.mem_of_getElem? (show es[j]? = some (entK w (k', b)) by rw [he j, hj]; rfl))
        exact this
      show b.1.isStr z = true ↔ _
      cases hb : b.1 with
      | str y u =>
        have q : NestedIs s.heap k' (.str y u) := by rw [← hb]; exact q
        cases q with
        | text =>
          rw [hkz]
          show (y == z) = true ↔ _
          simp
      | _ => rw [hb] at hx; cases hx
    unfold foundByValue
    cases hfi : es.findIdx? (fun e => e.key.isStr z) with
    | none =>
      refine wpAny_pure (hnone fun j p hj => ?_)
      have hjl : j < es.size := by
        rw [hsz]
        exact (List.getElem?_eq_some_iff.mp hj).1
      have q := Array.findIdx?_eq_none_iff.mp hfi es[j] (Array.getElem_mem hjl)
      have := (hf j k p hj es[j] (Array.getElem?_eq_getElem hjl)).mpr rfl
      rw [q] at this; cases this
    | some i =>
      obtain ⟨hlt, hi, _⟩ := Array.findIdx?_eq_some_iff_getElem.mp hfi
      obtain ⟨k', b, hx, hib, hdb, hex'⟩ := hat hlt
      have hkk : k' = k := (hf i k' b hx es[i] (Array.getElem?_eq_getElem hlt)).mp hi
      dsimp only
      rw [hex']
      dsimp only
      refine wpAny_bind (wpAny_dictEpoch ho hd (wpAny_bind (eq_keys hib hk hdb hu (wpAny_bind (wpAny_dictEpoch ho hd ?_)))))
      show wpAny _ _ (if (ep != ep) = true then _ else _) _ E _
      rw [if_neg (by rw [bne_self_eq_false]; exact Bool.false_ne_true), beq_true.mpr hkk]
      subst hkk
      exact wpAny_bind (wpAny_rule (wpAny_pure (hsome i _ hx)))
  dsimp only
  by_cases hall : (key :: (placesWithHash es.size (fun i => es[i]?.map (·.hash)) (k.hash w)).filterMap (fun i => es[i]?.map (·.key))).all carriedByValue = true
  · rw [if_pos hall]
    split
    next x t =>
      split
      next hs => exact byv x t rfl hs
      next => exact walk
    next => exact walk
  · rw [if_neg hall]
    cases key with
    | str x t =>
      dsimp only
      by_cases hs : (es.all fun e => isExactStrKey e.key) = true
      · rw [if_pos hs]
        exact byv x t rfl hs
      · rw [if_neg hs]
        by_cases hone : (((placesWithHash es.size (fun i => es[i]?.map (·.hash)) (k.hash w)).filterMap (fun i => es[i]?.map (·.key))) == [Value.str x t]) = true <;>
        (first | rw [if_pos hone] | rw [if_neg hone]) <;> (first | refine wpAny_bind (wpAny_pure ?_) | refine wpAny_bind (may_quiet hk hdk hst ?_)) <;> (
          rw [if_neg (by rw [Bool.false_and]; exact Bool.false_ne_true)]
          refine wpAny_bind ?_
          refine wpAny_forIn_list _
            (fun rest b s' => s' = s ∧ ∃ i hit, b = (none, hit) ∧ rest = (List.range' i (es.size - i)).filter (fun i => (es[i]?.map (·.hash)) == some (k.hash w)) ∧ i ≤ es.size ∧
              ((hit = none ∧ ∀ j p, j < i → xs[j]? ≠ some (k, p)) ∨ ∃ j p, hit = some j ∧ j < i ∧ xs[j]? = some (k, p))) _ ?_ ?_ _ _
            ⟨rfl, 0, none, rfl, by rw [placesWithHash, List.range_eq_range', Nat.sub_zero], Nat.zero_le _, .inl ⟨rfl, fun _ _ h => absurd h (Nat.not_lt_zero _)⟩⟩
          · rintro x' rest b s' ⟨rfl, i, hit, rfl, hr, hi, hH⟩
            obtain ⟨hix, hxn, hpx, hskip, hrest⟩ := filter_range'_cons _ _ _ _ _ hr.symm
            have hlt : x' < es.size := by omega
            have hrest' : rest = (List.range' (x' + 1) (es.size - (x' + 1))).filter (fun i => (es[i]?.map (·.hash)) == some (k.hash w)) := by rw [hrest]; congr 2; omega
            obtain ⟨k', b, hx, hib, hdb, hex'⟩ := hat hlt
            have hHx : (hit = none ∧ ∀ j p, j < x' → xs[j]? ≠ some (k, p)) ∨ ∃ j p, hit = some j ∧ j < x' ∧ xs[j]? = some (k, p) := by
              rcases hH with ⟨h0, hno⟩ | ⟨j, p, h1, hji, hj⟩
              · exact .inl ⟨h0, hnext hskip hno⟩
              · exact .inr ⟨j, p, h1, by omega, hj⟩
            have hstay : ¬ k' = k → ((hit = none ∧ ∀ j p, j < x' + 1 → xs[j]? ≠ some (k, p)) ∨ ∃ j p, hit = some j ∧ j < x' + 1 ∧ xs[j]? = some (k, p)) := by
              intro hne
              rcases hHx with ⟨h0, hno⟩ | ⟨j, p, h1, hji, hj⟩
              · exact .inl ⟨h0, hstep hx hne hno⟩
              · exact .inr ⟨j, p, h1, by omega, hj⟩
            rw [hex']
            dsimp only
            by_cases hh : (k'.hash w == k.hash w) = true
            · rw [if_pos hh]
              refine wpAny_bind (wpAny_dictEpoch ho hd (wpAny_bind (eq_keys hib hk hdb hu (wpAny_bind (wpAny_dictEpoch ho hd ?_)))))
              show wpAny _ _ (if (ep != ep) = true then _ else _) _ E _
              rw [if_neg (by rw [bne_self_eq_false]; exact Bool.false_ne_true)]
              by_cases hkk : k' = k
              · rw [beq_true.mpr hkk]
                subst hkk
                rcases hHx with ⟨rfl, _⟩ | ⟨j, p, _, hjx, hj⟩
                · first | rw [if_pos rfl] | skip
                  simp only [Option.isSome_none, Bool.false_eq_true, if_false]
                  first | refine wpAny_bind (wpAny_pure ?_) | skip
                  refine wpAny_bind (wpAny_rule ?_)
                  split
                  · exact wpAny_pure (wpAny_pure (hsome x' _ hx))
                  · exact wpAny_pure ⟨rfl, x' + 1, some x', rfl, hrest', hlt, .inr ⟨x', _, rfl, Nat.lt_succ_self x', hx⟩⟩
                · exact absurd (idx_once D.nd hj hx) (by omega)
              · rw [beq_false.mpr hkk]
                simp only [Bool.false_eq_true, if_false]
                refine wpAny_bind (wpAny_rule ?_)
                first | rw [if_neg (by rw [Bool.false_and]; exact Bool.false_ne_true)] | skip
                first
                  | exact wpAny_pure ⟨rfl, x' + 1, hit, rfl, hrest', hlt, hstay hkk⟩
                  | exact wpAny_bind (wpAny_pure (wpAny_pure ⟨rfl, x' + 1, hit, rfl, hrest', hlt, hstay hkk⟩))
            · rw [if_neg hh]
              refine wpAny_pure ⟨rfl, x' + 1, hit, rfl, hrest', hlt, hstay ?_⟩
              intro hkk
              rw [hkk] at hh; simp at hh
          · rintro b s' ⟨rfl, i, hit, rfl, hr, hi, hH⟩
            rcases hH with ⟨rfl, hno⟩ | ⟨j, p, rfl, _, hj⟩
            · exact wpAny_pure (hnone (hend hr hno))
            · exact wpAny_pure (hsome j p hj))
    | ref a =>
      dsimp only
      rw [if_neg (hany.elim id fun z => absurd rfl (z a))]
      by_cases hone : (((placesWithHash es.size (fun i => es[i]?.map (·.hash)) (k.hash w)).filterMap (fun i => es[i]?.map (·.key))) == [Value.ref a]) = true <;>
      (first | rw [if_pos hone] | rw [if_neg hone]) <;> (first | refine wpAny_bind (wpAny_pure ?_) | refine wpAny_bind (may_quiet hk hdk hst ?_)) <;> (
        rw [if_neg (by rw [Bool.false_and]; exact Bool.false_ne_true)]
        refine wpAny_bind ?_
        refine wpAny_forIn_list _
          (fun rest b s' => s' = s ∧ ∃ i hit, b = (none, hit) ∧ rest = (List.range' i (es.size - i)).filter (fun i => (es[i]?.map (·.hash)) == some (k.hash w)) ∧ i ≤ es.size ∧
            ((hit = none ∧ ∀ j p, j < i → xs[j]? ≠ some (k, p)) ∨ ∃ j p, hit = some j ∧ j < i ∧ xs[j]? = some (k, p))) _ ?_ ?_ _ _
          ⟨rfl, 0, none, rfl, by rw [placesWithHash, List.range_eq_range', Nat.sub_zero], Nat.zero_le _, .inl ⟨rfl, fun _ _ h => absurd h (Nat.not_lt_zero _)⟩⟩
        · rintro x' rest b s' ⟨rfl, i, hit, rfl, hr, hi, hH⟩
          obtain ⟨hix, hxn, hpx, hskip, hrest⟩ := filter_range'_cons _ _ _ _ _ hr.symm
          have hlt : x' < es.size := by omega
          have hrest' : rest = (List.range' (x' + 1) (es.size - (x' + 1))).filter (fun i => (es[i]?.map (·.hash)) == some (k.hash w)) := by rw [hrest]; congr 2; omega
          obtain ⟨k', b, hx, hib, hdb, hex'⟩ := hat hlt
          have hHx : (hit = none ∧ ∀ j p, j < x' → xs[j]? ≠ some (k, p)) ∨ ∃ j p, hit = some j ∧ j < x' ∧ xs[j]? = some (k, p) := by
            rcases hH with ⟨h0, hno⟩ | ⟨j, p, h1, hji, hj⟩
            · exact .inl ⟨h0, hnext hskip hno⟩
            · exact .inr ⟨j, p, h1, by omega, hj⟩
          have hstay : ¬ k' = k → ((hit = none ∧ ∀ j p, j < x' + 1 → xs[j]? ≠ some (k, p)) ∨ ∃ j p, hit = some j ∧ j < x' + 1 ∧ xs[j]? = some (k, p)) := by
            intro hne
            rcases hHx with ⟨h0, hno⟩ | ⟨j, p, h1, hji, hj⟩
            · exact .inl ⟨h0, hstep hx hne hno⟩
            · exact .inr ⟨j, p, h1, by omega, hj⟩
          rw [hex']
          dsimp only
          by_cases hh : (k'.hash w == k.hash w) = true
          · rw [if_pos hh]
            refine wpAny_bind (wpAny_dictEpoch ho hd (wpAny_bind (eq_keys hib hk hdb hu (wpAny_bind (wpAny_dictEpoch ho hd ?_)))))
            show wpAny _ _ (if (ep != ep) = true then _ else _) _ E _
            rw [if_neg (by rw [bne_self_eq_false]; exact Bool.false_ne_true)]
            by_cases hkk : k' = k
            · rw [beq_true.mpr hkk]
              subst hkk
              rcases hHx with ⟨rfl, _⟩ | ⟨j, p, _, hjx, hj⟩
              · first | rw [if_pos rfl] | skip
                simp only [Option.isSome_none, Bool.false_eq_true, if_false]
                first | refine wpAny_bind (wpAny_pure ?_) | skip
                refine wpAny_bind (wpAny_rule ?_)
                split
                · exact wpAny_pure (wpAny_pure (hsome x' _ hx))
                · exact wpAny_pure ⟨rfl, x' + 1, some x', rfl, hrest', hlt, .inr ⟨x', _, rfl, Nat.lt_succ_self x', hx⟩⟩
              · exact absurd (idx_once D.nd hj hx) (by omega)
            · rw [beq_false.mpr hkk]
              simp only [Bool.false_eq_true, if_false]
              refine wpAny_bind (wpAny_rule ?_)
              first | rw [if_neg (by rw [Bool.false_and]; exact Bool.false_ne_true)] | skip
              first
                | exact wpAny_pure ⟨rfl, x' + 1, hit, rfl, hrest', hlt, hstay hkk⟩
                | exact wpAny_bind (wpAny_pure (wpAny_pure ⟨rfl, x' + 1, hit, rfl, hrest', hlt, hstay hkk⟩))
          · rw [if_neg hh]
            refine wpAny_pure ⟨rfl, x' + 1, hit, rfl, hrest', hlt, hstay ?_⟩
            intro hkk
            rw [hkk] at hh; simp at hh
        · rintro b s' ⟨rfl, i, hit, rfl, hr, hi, hH⟩
          rcases hH with ⟨rfl, hno⟩ | ⟨j, p, rfl, _, hj⟩
          · exact wpAny_pure (hnone (hend hr hno))
          · exact wpAny_pure (hsome j p hj))
    | int i t =>
      dsimp only
      by_cases hone : (((placesWithHash es.size (fun i => es[i]?.map (·.hash)) (k.hash w)).filterMap (fun i => es[i]?.map (·.key))) == [Value.int i t]) = true <;>
      (first | rw [if_pos hone] | rw [if_neg hone]) <;> (first | refine wpAny_bind (wpAny_pure ?_) | refine wpAny_bind (may_quiet hk hdk hst ?_)) <;> (
        rw [if_neg (by rw [Bool.false_and]; exact Bool.false_ne_true)]
        refine wpAny_bind ?_
        refine wpAny_forIn_list _
          (fun rest b s' => s' = s ∧ ∃ i hit, b = (none, hit) ∧ rest = (List.range' i (es.size - i)).filter (fun i => (es[i]?.map (·.hash)) == some (k.hash w)) ∧ i ≤ es.size ∧
            ((hit = none ∧ ∀ j p, j < i → xs[j]? ≠ some (k, p)) ∨ ∃ j p, hit = some j ∧ j < i ∧ xs[j]? = some (k, p))) _ ?_ ?_ _ _
          ⟨rfl, 0, none, rfl, by rw [placesWithHash, List.range_eq_range', Nat.sub_zero], Nat.zero_le _, .inl ⟨rfl, fun _ _ h => absurd h (Nat.not_lt_zero _)⟩⟩
        · rintro x' rest b s' ⟨rfl, i, hit, rfl, hr, hi, hH⟩
          obtain ⟨hix, hxn, hpx, hskip, hrest⟩ := filter_range'_cons _ _ _ _ _ hr.symm
          have hlt : x' < es.size := by omega
          have hrest' : rest = (List.range' (x' + 1) (es.size - (x' + 1))).filter (fun i => (es[i]?.map (·.hash)) == some (k.hash w)) := by rw [hrest]; congr 2; omega
          obtain ⟨k', b, hx, hib, hdb, hex'⟩ := hat hlt
          have hHx : (hit = none ∧ ∀ j p, j < x' → xs[j]? ≠ some (k, p)) ∨ ∃ j p, hit = some j ∧ j < x' ∧ xs[j]? = some (k, p) := by
            rcases hH with ⟨h0, hno⟩ | ⟨j, p, h1, hji, hj⟩
            · exact .inl ⟨h0, hnext hskip hno⟩
            · exact .inr ⟨j, p, h1, by omega, hj⟩
          have hstay : ¬ k' = k → ((hit = none ∧ ∀ j p, j < x' + 1 → xs[j]? ≠ some (k, p)) ∨ ∃ j p, hit = some j ∧ j < x' + 1 ∧ xs[j]? = some (k, p)) := by
            intro hne
            rcases hHx with ⟨h0, hno⟩ | ⟨j, p, h1, hji, hj⟩
            · exact .inl ⟨h0, hstep hx hne hno⟩
            · exact .inr ⟨j, p, h1, by omega, hj⟩
          rw [hex']
          dsimp only
          by_cases hh : (k'.hash w == k.hash w) = true
          · rw [if_pos hh]
            refine wpAny_bind (wpAny_dictEpoch ho hd (wpAny_bind (eq_keys hib hk hdb hu (wpAny_bind (wpAny_dictEpoch ho hd ?_)))))
            show wpAny _ _ (if (ep != ep) = true then _ else _) _ E _
            rw [if_neg (by rw [bne_self_eq_false]; exact Bool.false_ne_true)]
            by_cases hkk : k' = k
            · rw [beq_true.mpr hkk]
              subst hkk
              rcases hHx with ⟨rfl, _⟩ | ⟨j, p, _, hjx, hj⟩
              · first | rw [if_pos rfl] | skip
                simp only [Option.isSome_none, Bool.false_eq_true, if_false]
                first | refine wpAny_bind (wpAny_pure ?_) | skip
                refine wpAny_bind (wpAny_rule ?_)
                split
                · exact wpAny_pure (wpAny_pure (hsome x' _ hx))
                · exact wpAny_pure ⟨rfl, x' + 1, some x', rfl, hrest', hlt, .inr ⟨x', _, rfl, Nat.lt_succ_self x', hx⟩⟩
              · exact absurd (idx_once D.nd hj hx) (by omega)
            · rw [beq_false.mpr hkk]
              simp only [Bool.false_eq_true, if_false]
              refine wpAny_bind (wpAny_rule ?_)
              first | rw [if_neg (by rw [Bool.false_and]; exact Bool.false_ne_true)] | skip
              first
                | exact wpAny_pure ⟨rfl, x' + 1, hit, rfl, hrest', hlt, hstay hkk⟩
                | exact wpAny_bind (wpAny_pure (wpAny_pure ⟨rfl, x' + 1, hit, rfl, hrest', hlt, hstay hkk⟩))
          · rw [if_neg hh]
            refine wpAny_pure ⟨rfl, x' + 1, hit, rfl, hrest', hlt, hstay ?_⟩
            intro hkk
            rw [hkk] at hh; simp at hh
        · rintro b s' ⟨rfl, i, hit, rfl, hr, hi, hH⟩
          rcases hH with ⟨rfl, hno⟩ | ⟨j, p, rfl, _, hj⟩
          · exact wpAny_pure (hnone (hend hr hno))
          · exact wpAny_pure (hsome j p hj))
    | bool b =>
      dsimp only
      by_cases hone : (((placesWithHash es.size (fun i => es[i]?.map (·.hash)) (k.hash w)).filterMap (fun i => es[i]?.map (·.key))) == [Value.bool b]) = true <;>
      (first | rw [if_pos hone] | rw [if_neg hone]) <;> (first | refine wpAny_bind (wpAny_pure ?_) | refine wpAny_bind (may_quiet hk hdk hst ?_)) <;> (
        rw [if_neg (by rw [Bool.false_and]; exact Bool.false_ne_true)]
        refine wpAny_bind ?_
        refine wpAny_forIn_list _
          (fun rest b s' => s' = s ∧ ∃ i hit, b = (none, hit) ∧ rest = (List.range' i (es.size - i)).filter (fun i => (es[i]?.map (·.hash)) == some (k.hash w)) ∧ i ≤ es.size ∧
            ((hit = none ∧ ∀ j p, j < i → xs[j]? ≠ some (k, p)) ∨ ∃ j p, hit = some j ∧ j < i ∧ xs[j]? = some (k, p))) _ ?_ ?_ _ _
          ⟨rfl, 0, none, rfl, by rw [placesWithHash, List.range_eq_range', Nat.sub_zero], Nat.zero_le _, .inl ⟨rfl, fun _ _ h => absurd h (Nat.not_lt_zero _)⟩⟩
        · rintro x' rest b s' ⟨rfl, i, hit, rfl, hr, hi, hH⟩
          obtain ⟨hix, hxn, hpx, hskip, hrest⟩ := filter_range'_cons _ _ _ _ _ hr.symm
          have hlt : x' < es.size := by omega
          have hrest' : rest = (List.range' (x' + 1) (es.size - (x' + 1))).filter (fun i => (es[i]?.map (·.hash)) == some (k.hash w)) := by rw [hrest]; congr 2; omega
          obtain ⟨k', b, hx, hib, hdb, hex'⟩ := hat hlt
          have hHx : (hit = none ∧ ∀ j p, j < x' → xs[j]? ≠ some (k, p)) ∨ ∃ j p, hit = some j ∧ j < x' ∧ xs[j]? = some (k, p) := by
            rcases hH with ⟨h0, hno⟩ | ⟨j, p, h1, hji, hj⟩
            · exact .inl ⟨h0, hnext hskip hno⟩
            · exact .inr ⟨j, p, h1, by omega, hj⟩
          have hstay : ¬ k' = k → ((hit = none ∧ ∀ j p, j < x' + 1 → xs[j]? ≠ some (k, p)) ∨ ∃ j p, hit = some j ∧ j < x' + 1 ∧ xs[j]? = some (k, p)) := by
            intro hne
            rcases hHx with ⟨h0, hno⟩ | ⟨j, p, h1, hji, hj⟩
            · exact .inl ⟨h0, hstep hx hne hno⟩
            · exact .inr ⟨j, p, h1, by omega, hj⟩
          rw [hex']
          dsimp only
          by_cases hh : (k'.hash w == k.hash w) = true
          · rw [if_pos hh]
            refine wpAny_bind (wpAny_dictEpoch ho hd (wpAny_bind (eq_keys hib hk hdb hu (wpAny_bind (wpAny_dictEpoch ho hd ?_)))))
            show wpAny _ _ (if (ep != ep) = true then _ else _) _ E _
            rw [if_neg (by rw [bne_self_eq_false]; exact Bool.false_ne_true)]
            by_cases hkk : k' = k
            · rw [beq_true.mpr hkk]
              subst hkk
              rcases hHx with ⟨rfl, _⟩ | ⟨j, p, _, hjx, hj⟩
              · first | rw [if_pos rfl] | skip
                simp only [Option.isSome_none, Bool.false_eq_true, if_false]
                first | refine wpAny_bind (wpAny_pure ?_) | skip
                refine wpAny_bind (wpAny_rule ?_)
                split
                · exact wpAny_pure (wpAny_pure (hsome x' _ hx))
                · exact wpAny_pure ⟨rfl, x' + 1, some x', rfl, hrest', hlt, .inr ⟨x', _, rfl, Nat.lt_succ_self x', hx⟩⟩
              · exact absurd (idx_once D.nd hj hx) (by omega)
            · rw [beq_false.mpr hkk]
              simp only [Bool.false_eq_true, if_false]
              refine wpAny_bind (wpAny_rule ?_)
              first | rw [if_neg (by rw [Bool.false_and]; exact Bool.false_ne_true)] | skip
              first
                | exact wpAny_pure ⟨rfl, x' + 1, hit, rfl, hrest', hlt, hstay hkk⟩
                | exact wpAny_bind (wpAny_pure (wpAny_pure ⟨rfl, x' + 1, hit, rfl, hrest', hlt, hstay hkk⟩))
          · rw [if_neg hh]
            refine wpAny_pure ⟨rfl, x' + 1, hit, rfl, hrest', hlt, hstay ?_⟩
            intro hkk
            rw [hkk] at hh; simp at hh
        · rintro b s' ⟨rfl, i, hit, rfl, hr, hi, hH⟩
          rcases hH with ⟨rfl, hno⟩ | ⟨j, p, rfl, _, hj⟩
          · exact wpAny_pure (hnone (hend hr hno))
          · exact wpAny_pure (hsome j p hj))
    | none =>
      dsimp only
      by_cases hone : (((placesWithHash es.size (fun i => es[i]?.map (·.hash)) (k.hash w)).filterMap (fun i => es[i]?.map (·.key))) == [Value.none]) = true <;>
      (first | rw [if_pos hone] | rw [if_neg hone]) <;> (first | refine wpAny_bind (wpAny_pure ?_) | refine wpAny_bind (may_quiet hk hdk hst ?_)) <;> (
        rw [if_neg (by rw [Bool.false_and]; exact Bool.false_ne_true)]
        refine wpAny_bind ?_
        refine wpAny_forIn_list _
          (fun rest b s' => s' = s ∧ ∃ i hit, b = (none, hit) ∧ rest = (List.range' i (es.size - i)).filter (fun i => (es[i]?.map (·.hash)) == some (k.hash w)) ∧ i ≤ es.size ∧
            ((hit = none ∧ ∀ j p, j < i → xs[j]? ≠ some (k, p)) ∨ ∃ j p, hit = some j ∧ j < i ∧ xs[j]? = some (k, p))) _ ?_ ?_ _ _
          ⟨rfl, 0, none, rfl, by rw [placesWithHash, List.range_eq_range', Nat.sub_zero], Nat.zero_le _, .inl ⟨rfl, fun _ _ h => absurd h (Nat.not_lt_zero _)⟩⟩
        · rintro x' rest b s' ⟨rfl, i, hit, rfl, hr, hi, hH⟩
          obtain ⟨hix, hxn, hpx, hskip, hrest⟩ := filter_range'_cons _ _ _ _ _ hr.symm
          have hlt : x' < es.size := by omega
          have hrest' : rest = (List.range' (x' + 1) (es.size - (x' + 1))).filter (fun i => (es[i]?.map (·.hash)) == some (k.hash w)) := by rw [hrest]; congr 2; omega
          obtain ⟨k', b, hx, hib, hdb, hex'⟩ := hat hlt
          have hHx : (hit = none ∧ ∀ j p, j < x' → xs[j]? ≠ some (k, p)) ∨ ∃ j p, hit = some j ∧ j < x' ∧ xs[j]? = some (k, p) := by
            rcases hH with ⟨h0, hno⟩ | ⟨j, p, h1, hji, hj⟩
            · exact .inl ⟨h0, hnext hskip hno⟩
            · exact .inr ⟨j, p, h1, by omega, hj⟩
          have hstay : ¬ k' = k → ((hit = none ∧ ∀ j p, j < x' + 1 → xs[j]? ≠ some (k, p)) ∨ ∃ j p, hit = some j ∧ j < x' + 1 ∧ xs[j]? = some (k, p)) := by
            intro hne
            rcases hHx with ⟨h0, hno⟩ | ⟨j, p, h1, hji, hj⟩
            · exact .inl ⟨h0, hstep hx hne hno⟩
            · exact .inr ⟨j, p, h1, by omega, hj⟩
          rw [hex']
          dsimp only
          by_cases hh : (k'.hash w == k.hash w) = true
          · rw [if_pos hh]
            refine wpAny_bind (wpAny_dictEpoch ho hd (wpAny_bind (eq_keys hib hk hdb hu (wpAny_bind (wpAny_dictEpoch ho hd ?_)))))
            show wpAny _ _ (if (ep != ep) = true then _ else _) _ E _
            rw [if_neg (by rw [bne_self_eq_false]; exact Bool.false_ne_true)]
            by_cases hkk : k' = k
            · rw [beq_true.mpr hkk]
              subst hkk
              rcases hHx with ⟨rfl, _⟩ | ⟨j, p, _, hjx, hj⟩
              · first | rw [if_pos rfl] | skip
                simp only [Option.isSome_none, Bool.false_eq_true, if_false]
                first | refine wpAny_bind (wpAny_pure ?_) | skip
                refine wpAny_bind (wpAny_rule ?_)
                split
                · exact wpAny_pure (wpAny_pure (hsome x' _ hx))
                · exact wpAny_pure ⟨rfl, x' + 1, some x', rfl, hrest', hlt, .inr ⟨x', _, rfl, Nat.lt_succ_self x', hx⟩⟩
              · exact absurd (idx_once D.nd hj hx) (by omega)
            · rw [beq_false.mpr hkk]
              simp only [Bool.false_eq_true, if_false]
              refine wpAny_bind (wpAny_rule ?_)
              first | rw [if_neg (by rw [Bool.false_and]; exact Bool.false_ne_true)] | skip
              first
                | exact wpAny_pure ⟨rfl, x' + 1, hit, rfl, hrest', hlt, hstay hkk⟩
                | exact wpAny_bind (wpAny_pure (wpAny_pure ⟨rfl, x' + 1, hit, rfl, hrest', hlt, hstay hkk⟩))
          · rw [if_neg hh]
            refine wpAny_pure ⟨rfl, x' + 1, hit, rfl, hrest', hlt, hstay ?_⟩
            intro hkk
            rw [hkk] at hh; simp at hh
        · rintro b s' ⟨rfl, i, hit, rfl, hr, hi, hH⟩
          rcases hH with ⟨rfl, hno⟩ | ⟨j, p, rfl, _, hj⟩
          · exact wpAny_pure (hnone (hend hr hno))
          · exact wpAny_pure (hsome j p hj))
    | _ => cases hk
end
end Mp
set_option Elab.async false
set_option linter.all false
set_option maxRecDepth 100000
set_option maxHeartbeats 4000000
/-! dicts over the hand layer's heap -/
namespace Mp
open PySem PySem.Spec PyProof.Rows L2

section
variable {prog : Program} {w : World} {A : Around} {E : Value → Shared → Prop} {s : Shared} {d : Addr} {es : Array DictEntry} {ep : Nat} {xs : List KE3} {k : NestedKey} {key v : Value}

def at3 (xs : List KE3) (k : NestedKey) : Option (Value × Value) := (xs.find? fun x => NestedKey.beq x.1 k).map (·.2)
theorem at3_none (h : ∀ (j : Nat) (p : Value × Value), xs[j]? ≠ some (k, p)) : at3 xs k = none := by
  unfold at3
  rw [Option.map_eq_none_iff, List.find?_eq_none]
  intro x hx e
  obtain ⟨j, hj⟩ := List.mem_iff_getElem?.mp hx
  have e := beq_true.mp e
  subst e
  exact h j x.2 hj
theorem at3_some (nd : (xs.map (·.1)).Nodup) {j : Nat} {p : Value × Value} (hj : xs[j]? = some (k, p)) : at3 xs k = some p := by
  cases e : at3 xs k with
  | none =>
    unfold at3 at e
    rw [Option.map_eq_none_iff, List.find?_eq_none] at e
    exact absurd (beq_true.mpr rfl) (e _ (List.mem_of_getElem? hj))
  | some q =>
    unfold at3 at e
    obtain ⟨x, hx, rfl⟩ := Option.map_eq_some_iff.mp e
    have h1 := List.find?_some hx
    obtain ⟨i, hi⟩ := List.mem_iff_getElem?.mp (List.mem_of_find?_eq_some hx)
    have h1 := beq_true.mp h1
    subst h1
    have := idx_once nd (p := x.2) (q := p) hi hj
    subst this
    rw [hi] at hj
    exact congrArg some (Prod.mk.inj (Option.some.inj hj)).2
theorem dc_get {Q : Option Value → Shared → Prop} (hu : A.units + 8 < cLine) (hk : NestedIs s.heap k key) (hdk : k.depth ≤ 8) (D : DcH w s.heap d es ep xs)
    (h : Q ((at3 xs k).map (·.2)) { s with toks := s.toks + k.draws }) : wpAny (model prog w) A (dictGet d key) Q E s := by
  unfold dictGet
  try with_reducible refine wpAny_holding ?_
  obtain ⟨o, ho, hex, hd⟩ := D.obj
  refine wpAny_bind (pyHash_key k key A s _ hk (by omega) (wpAny_bind (dfind (s := { s with toks := s.toks + k.draws }) hu hk hdk D ?_ ?_)))
  · intro hno
    rw [at3_none hno] at h
    exact wpAny_pure h
  · intro j p hj
    rw [at3_some D.nd hj] at h
    refine wpAny_bind (wpAny_dictEntries (s := { s with toks := s.toks + k.draws }) ho hd ?_)
    rw [D.at_ j, hj]
    exact wpAny_pure h
theorem DcH.typeIs (D : DcH w s.heap d es ep xs) : s.TypeIs (.ref d) "dict" := let ⟨o, ho, hc, _⟩ := D.obj; ⟨o, ho, hc.1⟩
theorem dc_has {Q : Bool → Shared → Prop} (hu : A.units + 10 < cLine) (hk : NestedIs s.heap k key) (hdk : k.depth ≤ 8) (hd : (d == sysModules) = false) (D : DcH w s.heap d es ep xs)
    (h : Q (at3 xs k).isSome { s with toks := s.toks + k.draws }) : wpAny (model prog w) A (contains (.ref d) key) Q E s := by
  refine wpAny_contains_slot D.typeIs F.slot_dict_contains ?_
  refine call_meetsIn F.slot_dict_contains D.typeIs F.entry_dict_contains (F.args_dict_contains_2 _ _) (S := fun A' R s' => A' = A ∧ s' = s ∧ R (.ok (.ret (.bool (at3 xs k).isSome))) { s with toks := s.toks + k.draws }) (fun A' R s' hS => ?_) ⟨rfl, rfl, wpAny_truthy_bool h⟩
  obtain ⟨rfl, rfl, hq⟩ := hS
  show wpAny _ _ (dictGet d key >>= _) _ _ _
  refine wpAny_bind (dc_get (by show A'.units + 1 + 8 < _; omega) hk hdk D ?_)
  cases hf : at3 xs k with
  | some p =>
    rw [hf] at hq
    show wpAny _ _ (ret (.bool true)) _ _ _
    exact wpAny_pure hq
  | none =>
    rw [hf] at hq
    show wpAny _ _ (Builtin.Dict.pendingKey? d key >>= _) _ _ _
    exact wpAny_bind (wpAny_pendingKey_other hd (wpAny_pure hq))
theorem dc_in {Q : Value → Shared → Prop} (hu : A.units + 10 < cLine) (hk : NestedIs s.heap k key) (hdk : k.depth ≤ 8) (hd : (d == sysModules) = false) (D : DcH w s.heap d es ep xs)
    (h : Q (.bool (at3 xs k).isSome) { s with toks := s.toks + k.draws }) : wpAny (model prog w) A (compareOp .In key (.ref d)) Q E s := by
  show wpAny _ _ (do return .bool (← contains (.ref d) key)) Q E s
  exact wpAny_bind (dc_has hu hk hdk hd D (wpAny_pure h))
theorem dc_nin {Q : Value → Shared → Prop} (hu : A.units + 10 < cLine) (hk : NestedIs s.heap k key) (hdk : k.depth ≤ 8) (hd : (d == sysModules) = false) (D : DcH w s.heap d es ep xs)
    (h : Q (.bool (!(at3 xs k).isSome)) { s with toks := s.toks + k.draws }) : wpAny (model prog w) A (compareOp .NotIn key (.ref d)) Q E s := by
  show wpAny _ _ (do return .bool (!(← contains (.ref d) key))) Q E s
  exact wpAny_bind (dc_has hu hk hdk hd D (wpAny_pure h))
theorem dc_item {p : Value × Value} {Q : Value → Shared → Prop} (hu : A.units + 10 < cLine) (hk : NestedIs s.heap k key) (hdk : k.depth ≤ 8) (D : DcH w s.heap d es ep xs) (hp : at3 xs k = some p)
    (h : Q p.2 { s with toks := s.toks + k.draws }) : wpAny (model prog w) A (getItem (.ref d) key) Q E s := by
  unfold getItem
  try with_reducible refine wpAny_holding ?_
  refine wpAny_bind (wpAny_sequenceKey D.typeIs (by decide) ?_)
  refine wpAny_bind (wpAny_callSpecial?_slot (name := Str.ofString "__getitem__") D.typeIs slot_dict_getitem
    (wpAny_call_entry slot_dict_getitem D.typeIs entry_dict_getitem ?_ (args_dict_getitem _ _)))
  show wpAny _ _ (dictGet d key >>= _) _ _ s
  refine wpAny_bind (dc_get (by show A.units + 1 + 8 < _; omega) hk hdk D ?_)
  rw [hp]
  exact wpAny_pure ⟨p.2, rfl, wpAny_pure h⟩
theorem dc_getm (hd : (d == sysModules) = false) (x : Value) :
    MeetsIn prog w (Builtin.«dict.get» ⟨[.ref d, key, x], []⟩) (fun A R s => A.units + 9 < cLine ∧ ∃ es ep xs k, NestedIs s.heap k key ∧ k.depth ≤ 8 ∧ DcH w s.heap d es ep xs ∧
      R (.ok (.ret (((at3 xs k).map (·.2)).getD x))) { s with toks := s.toks + k.draws }) :=
  .of_wp fun A R s ⟨hu, es, ep, xs, k, hk, hdk, D, h⟩ => by
    show wpAny _ _ (dictGet d key >>= _) _ _ s
    refine wpAny_bind (dc_get (by show A.units + 1 + 8 < _; omega) hk hdk D ?_)
    cases hf : (at3 xs k).map (·.2) with
    | some v =>
      rw [hf] at h
      exact wpAny_pure ⟨v, rfl, h⟩
    | none =>
      rw [hf] at h
      show wpAny _ _ (Builtin.Dict.missed d key >>= _) _ _ _
      exact wpAny_bind (wpAny_missed_other hd (wpAny_pure ⟨x, rfl, h⟩))
theorem dc_get2 {x : Value} {Q : Value → Shared → Prop} (hu : A.units + 10 < cLine) (hk : NestedIs s.heap k key) (hdk : k.depth ≤ 8) (hd : (d == sysModules) = false) (D : DcH w s.heap d es ep xs)
    (h : Q (((at3 xs k).map (·.2)).getD x) { s with toks := s.toks + k.draws }) : wpAny (model prog w) A (call (.builtin "dict.get") [.ref d, key, x]) Q E s :=
  call_meetsIn F.slot_dict_get D.typeIs F.entry_dict_get (F.args_dict_get_3 _ _ _) (dc_getm hd x) ⟨by omega, es, ep, xs, k, hk, hdk, D, h⟩

/-! stores -/
def put3 (xs : List KE3) (k : NestedKey) (u v : Value) : List KE3 :=
  match xs with
  | [] => [(k, u, v)]
  | x :: r => if NestedKey.beq x.1 k then (x.1, x.2.1, v) :: r else x :: put3 r k u v
theorem put3_keys (xs : List KE3) (k : NestedKey) (u v : Value) : (put3 xs k u v).map (·.1) = putK (xs.map (·.1)) k := by
  induction xs with
  | nil => rfl
  | cons x r ih =>
    unfold put3 putK has
    by_cases h : NestedKey.beq x.1 k = true
    · simp [h]
    · have h : NestedKey.beq x.1 k = false := by simpa using h
      simp only [h, Bool.false_eq_true, if_false, List.map_cons, List.any_cons, Bool.false_or]
      rw [ih]
      unfold putK has
      split <;> simp
theorem put3_new (h : ∀ (j : Nat) (p : Value × Value), xs[j]? ≠ some (k, p)) (u v : Value) : put3 xs k u v = xs ++ [(k, u, v)] := by
  induction xs with
  | nil => rfl
  | cons x r ih =>
    have hx : NestedKey.beq x.1 k = false := beq_false.mpr fun e => h 0 x.2 (by rw [← e]; rfl)
    unfold put3
    rw [hx]
    simp only [Bool.false_eq_true, if_false, List.cons_append]
    rw [ih fun j p e => h (j + 1) p (by simpa using e)]
theorem set_self {a : Type} {x : a} : ∀ {l : List a} {j : Nat}, l[j]? = some x → l.set j x = l
  | [], _, h => by simp at h
  | y :: l, 0, h => by simp at h; subst h; rfl
  | y :: l, j + 1, h => by rw [List.set_cons_succ, set_self (by simpa using h)]
theorem modify_set {a : Type} {x : a} (f : a → a) : ∀ {l : List a} {j : Nat}, l[j]? = some x → l.modify j f = l.set j (f x)
  | [], _, h => by simp at h
  | y :: l, 0, h => by simp at h; subst h; rfl
  | y :: l, j + 1, h => by
    rw [List.set_cons_succ, ← modify_set f (l := l) (by simpa using h)]
    rfl
theorem put3_old {p : Value × Value} (u v : Value) : ∀ {xs : List KE3} {j : Nat}, (xs.map (·.1)).Nodup → xs[j]? = some (k, p) → put3 xs k u v = xs.set j (k, p.1, v)
  | [], j, _, h => by simp at h
  | x :: r, 0, nd, h => by
    simp at h
    subst h
    unfold put3
    rw [beq_true.mpr rfl]
    rfl
  | x :: r, j + 1, nd, h => by
    have h : r[j]? = some (k, p) := by simpa using h
    have nd' := List.nodup_cons.mp nd
    have hx : NestedKey.beq x.1 k = false := beq_false.mpr fun e => nd'.1 (by
      show x.1 ∈ _
      rw [e]
      exact List.mem_map.mpr ⟨_, List.mem_of_getElem? h, rfl⟩)
    unfold put3
    rw [hx]
    simp only [Bool.false_eq_true, if_false, List.set_cons_succ]
    rw [put3_old (j := j) (p := p) u v nd'.2 h]
theorem keep_dict {h h' : Heap} {o : Obj} (ho : h.get? d = some o) (hd : o.data = .dict es ep) (sb : Heap.SameBut d h h') {k : NestedKey} {u : Value} (x : NestedIs h k u) : NestedIs h' k u :=
  NestedIs.at (fun b ob vs n hb hc => by
    refine (sb.2 b fun e => ?_).trans hb
    subst e
    rw [ho] at hb
    cases hb
    rw [hd] at hc
    cases hc) k u x
theorem dc_set {Q : Unit → Shared → Prop} (hu : A.units + 8 < cLine) (hk : NestedIs s.heap k key) (hdk : k.depth ≤ 8) (D : DcH w s.heap d es ep xs) (hz : xs.length ≤ sizeLine)
    (hQ : ∀ h' es' ep', DcH w h' d es' ep' (put3 xs k key v) → Heap.SameBut d s.heap h' → Q () { s with heap := h', toks := s.toks + k.draws }) :
    wpAny (model prog w) A (dictSet d key v) Q E s := by
  obtain ⟨o, ho, hc, hd⟩ := id D.obj
  unfold dictSet
  try with_reducible refine wpAny_holding ?_
  refine wpAny_bind (pyHash_key k key A s _ hk (by omega) ?_)
  unfold dictSetHashed
  try with_reducible refine wpAny_holding ?_
  refine wpAny_bind (dfind (s := { s with toks := s.toks + k.draws }) hu hk hdk D ?_ ?_)
  · intro hno
    refine wpAny_bind (wpAny_rule (wpAny_updateDictKeys (hz := by rw [D.size]; exact hz) (s := { s with toks := s.toks + k.draws }) ho hd (hQ _ _ (ep + 1) ⟨⟨_, Heap.get?_update_self _ ho (Obj.isFreed_of_dict (Obj.data_mapDictKeys hd _)),
      hc.mapDictKeys _, Obj.data_mapDictKeys hd _⟩, ?_, ?_, ?_⟩ (Heap.SameBut.update ..))))
    · rw [put3_new hno, Array.toList_push, D.ent]
      simp [entK]
    · rw [put3_new hno]
      intro x hx
      rcases List.mem_append.mp hx with hx | hx
      · exact ⟨keep_dict ho hd (Heap.SameBut.update ..) (D.key x hx).1, (D.key x hx).2⟩
      · simp only [List.mem_singleton] at hx
        subst hx
        exact ⟨keep_dict ho hd (Heap.SameBut.update ..) hk, hdk⟩
    · rw [put3_new hno, List.map_append, List.nodup_append]
      refine ⟨D.nd, by simp, ?_⟩
      intro x hx y hy
      simp only [List.map_cons, List.map_nil, List.mem_singleton] at hy
      subst hy
      rintro rfl
      obtain ⟨z, hz, rfl⟩ := List.mem_map.mp hx
      obtain ⟨j, hj⟩ := List.mem_iff_getElem?.mp hz
      exact hno j z.2 hj
  · intro j p hj
    refine wpAny_bind (wpAny_rule (wpAny_bind (wpAny_updateDict (s := { s with toks := s.toks + k.draws }) ho hd (wpAny_point (hQ _ _ ep ⟨⟨_, Heap.get?_update_self _ ho (Obj.isFreed_of_dict (Obj.data_mapDict hd _)),
      hc.mapDict _, Obj.data_mapDict hd _⟩, ?_, ?_, ?_⟩ (Heap.SameBut.update ..))))))
    · rw [put3_old (p := p) key v D.nd hj, Array.toList_modify, D.ent, List.map_set, modify_set (x := entK w (k, p)) _ (by rw [List.getElem?_map, hj]; rfl)]
      rfl
    · rw [put3_old (p := p) key v D.nd hj]
      intro x hx
      rcases List.mem_or_eq_of_mem_set hx with hx | hx
      · exact ⟨keep_dict ho hd (Heap.SameBut.update ..) (D.key x hx).1, (D.key x hx).2⟩
      · subst hx
        have q := D.key _ (List.mem_of_getElem? hj)
        exact ⟨keep_dict ho hd (Heap.SameBut.update ..) q.1, q.2⟩
    · rw [put3_old (p := p) key v D.nd hj, List.map_set]
      have e : (xs.map (·.1)).set j k = xs.map (·.1) := set_self (by rw [List.getElem?_map, hj]; rfl)
      show ((xs.map (·.1)).set j k).Nodup
      rw [e]
      exact D.nd
theorem dc_store {Q : Unit → Shared → Prop} (hu : A.units + 10 < cLine) (hk : NestedIs s.heap k key) (hdk : k.depth ≤ 8) (D : DcH w s.heap d es ep xs) (hz : xs.length ≤ sizeLine)
    (hQ : ∀ h' es' ep', DcH w h' d es' ep' (put3 xs k key v) → Heap.SameBut d s.heap h' → Q () { s with heap := h', toks := s.toks + k.draws }) :
    wpAny (model prog w) A (setItem (.ref d) key v) Q E s := by
  unfold setItem
  try with_reducible refine wpAny_holding ?_
  refine wpAny_bind (wpAny_sequenceKey D.typeIs (by decide) ?_)
  refine wpAny_bind (wpAny_callSpecial?_slot (name := Str.ofString "__setitem__") D.typeIs slot_dict_setitem
    (wpAny_call_entry slot_dict_setitem D.typeIs entry_dict_setitem ?_ (args_dict_setitem _ _ _)))
  show wpAny _ _ (Builtin.Dict.notOrdered "__setitem__" ⟨[.ref d, key, v], []⟩ >>= _) _ _ s
  refine wpAny_bind (wpAny_notOrdered_dict D.typeIs ?_)
  show wpAny _ _ (dictSet d key v >>= _) _ _ s
  exact wpAny_bind (dc_set (by show A.units + 1 + 8 < _; omega) hk hdk D hz fun h' es' ep' D' hs' => wpAny_pure ⟨.none, rfl, wpAny_pure (hQ h' es' ep' D' hs')⟩)
end
end Mp
set_option Elab.async false
set_option linter.all false
set_option maxRecDepth 100000
set_option maxHeartbeats 4000000
/-! dicts: the operations' readings -/
namespace Mp
open PySem PySem.Spec PyProof.Rows L2

section
variable {X : Cx} {pins : List (Addr × Obj)} {σ : L2.St} {s : Shared} {g : Gh}
mutual
theorem key_is (I : Inv X pins σ g.H s) : ∀ (k : NestedKey) (v : V) (u : Value), Rep X.K X.w g (ofKey k) v → RelV v u → NestedIs s.heap k u
  | .none, v, u, h, r => by
    simp only [ofKey] at h
    cases h
    cases r
    exact .none
  | .num i, v, u, h, r => by
    simp only [ofKey] at h
    cases h
    obtain ⟨t, rfl⟩ := r
    exact .int i t
  | .text z, v, u, h, r => by
    simp only [ofKey] at h
    cases h
    obtain ⟨t, rfl⟩ := r
    exact .text z t
  | .tup ks, v, u, h, r => by
    simp only [ofKey] at h
    obtain ⟨a, vs, rfl, hS, hR⟩ := view_tup (x := .non) h
    cases r
    obtain ⟨its, rv, ⟨o, ho, hc, n, hd⟩, _⟩ := I.tuple hS
    exact .tup ho hc hd (by simpa using keys_are I ks vs its hR rv)
theorem keys_are (I : Inv X pins σ g.H s) : ∀ (ks : List NestedKey) (vs : List V) (us : List Value), Reps X.K X.w g (ofKeys ks) vs → Vals vs us → NestedAll s.heap ks us
  | [], vs, us, h, r => by
    simp only [ofKeys] at h
    cases h
    cases r
    exact .nil
  | k :: ks, vs, us, h, r => by
    simp only [ofKeys] at h
    cases h with
    | cons h1 h2 =>
      cases r with
      | cons r1 r2 => exact .cons (key_is I k _ _ h1 r1) (keys_are I ks _ _ h2 r2)
end
theorem keys_each {K : W.Frag} {w : World} {h : Heap} (P : NestedKey → Value → Prop) : ∀ (xs : List KE3), (∀ x ∈ xs, True) → NestedAll h (xs.map (·.1)) (xs.map (·.2.1)) → ∀ x ∈ xs, NestedIs h x.1 x.2.1
  | [], _, _, x, hx => by cases hx
  | y :: ys, hT, ha, x, hx => by
    cases ha with
    | cons h1 h2 =>
      rcases List.mem_cons.mp hx with rfl | hx
      · exact h1
      · exact keys_each (K := K) (w := w) P ys (fun _ _ => trivial) h2 x hx
/-- the dict at a, in the machine's heap -/
theorem dc_of (I : Inv X pins σ g.H s) {a : Addr} {ks : List NestedKey} {vs : List D} (h : DicVw X.K X.w g a ks vs) :
    ∃ (es : Array DictEntry) (ep : Nat) (xs : List KE3) (vvs : List V), (g.H a = some (dcO a es ep) ∨ KDc X.K a es ep) ∧ DcH X.w s.heap a es ep xs ∧ ks = xs.map (·.1) ∧ Vals vvs (xs.map (·.2.2)) ∧ Reps X.K X.w g vs vvs ∧ xs.length ≤ sizeLine ∧ (a == sysModules) = false := by
  obtain ⟨es, ep, xs, kvs, vvs, h1, ⟨h2, rfl⟩, h3, h4, h5, h6, hn, hd, hz, _, hm⟩ := h
  have ho : ∃ o, s.heap.get? a = some o ∧ o.ExactDict ∧ o.data = .dict es ep := by
    rcases h1 with h1 | ⟨o, h1, h2, h3⟩
    · exact (I.hok a _ h1).1
    · exact ⟨o, I.kIn a o h1, h2, h3⟩
  have ka := keys_are I _ _ _ h5 h3
  have hk := keys_each (K := X.K) (w := X.w) (fun _ _ => True) xs (fun _ _ => trivial) ka
  refine ⟨es, ep, xs, vvs, h1, ⟨ho, h2, fun x hx => ⟨hk x hx, hd x.1 (List.mem_map.mpr ⟨x, hx, rfl⟩)⟩, hn⟩, rfl, h4, h6, ?_, hm⟩
  simpa using hz
theorem has_at3 (xs : List KE3) (k : NestedKey) : (at3 xs k).isSome = has (xs.map (·.1)) k := by
  unfold at3 has
  rw [Option.isSome_map]
  induction xs with
  | nil => rfl
  | cons x r ih =>
    by_cases e : NestedKey.beq x.1 k = true
    · simp [e]
    · have e : NestedKey.beq x.1 k = false := by simpa using e
      simp only [List.find?_cons, e, List.map_cons, List.any_cons, Bool.false_or]
      exact ih
theorem look_at3 {K : W.Frag} {w : World} (k : NestedKey) : ∀ (xs : List KE3) (vs : List D) (vvs : List V), Vals vvs (xs.map (·.2.2)) → Reps K w g vs vvs →
    match look (xs.map (·.1)) vs k with
    | some d => ∃ p v, at3 xs k = some p ∧ RelV v p.2 ∧ Rep K w g d v
    | none => at3 xs k = none
  | [], vs, vvs, hv, hr => by
    cases vs <;> rfl
  | x :: xs, vs, vvs, hv, hr => by
    cases hv with
    | cons v1 v2 =>
      cases hr with
      | cons r1 r2 =>
        have ih := look_at3 k xs _ _ v2 r2
        unfold look
        by_cases e : NestedKey.beq x.1 k = true
        · simp only [List.map_cons, e, if_true]
          exact ⟨x.2, _, by unfold at3; simp [e], v1, r1⟩
        · have e : NestedKey.beq x.1 k = false := by simpa using e
          have ea : at3 (x :: xs) k = at3 xs k := by
            unfold at3
            simp only [List.find?_cons, e]
          simp only [List.map_cons, e, Bool.false_eq_true, if_false]
          rw [ea]
          exact ih
end

def rInDic (w : World) (neg : Bool) (K : W.Frag) : R2 := fun x y H Q => ∃ (g : Gh) (a : Addr) (ks : List NestedKey) (vs : List D) (k : NestedKey),
  g.H = H ∧ y = .ref a ∧ DicVw K w g a ks vs ∧ Rep K w g (ofKey k) x ∧ k.depth ≤ 8 ∧ Q (.bl (if neg then !has ks k else has ks k)) H
theorem or_inDic {X : Cx} (hu : X.A.units + 10 < cLine) : OpR X (compareOp .In) (rInDic X.w false X.K) := by
  intro pins s σ H x y v u Q I rx ry h
  obtain ⟨g, a, ks, vs, k, rfl, rfl, hD, hk, hd, q⟩ := h
  cases ry
  obtain ⟨es, ep, xs, vvs, h1, hH, rfl, _, _, _, hm⟩ := dc_of I hD
  refine dc_in hu (key_is I k x v hk rx) hd hm hH ?_
  rw [has_at3]
  exact ⟨.bl _, g.H, I.tok _, rfl, q⟩
theorem or_ninDic {X : Cx} (hu : X.A.units + 10 < cLine) : OpR X (compareOp .NotIn) (rInDic X.w true X.K) := by
  intro pins s σ H x y v u Q I rx ry h
  obtain ⟨g, a, ks, vs, k, rfl, rfl, hD, hk, hd, q⟩ := h
  cases ry
  obtain ⟨es, ep, xs, vvs, h1, hH, rfl, _, _, _, hm⟩ := dc_of I hD
  refine dc_nin hu (key_is I k x v hk rx) hd hm hH ?_
  rw [has_at3]
  exact ⟨.bl _, g.H, I.tok _, rfl, q⟩
def rIxDic (w : World) (K : W.Frag) : R2 := fun x y H Q => ∃ (g : Gh) (a : Addr) (ks : List NestedKey) (vs : List D) (k : NestedKey) (d : D),
  g.H = H ∧ x = .ref a ∧ DicVw K w g a ks vs ∧ Rep K w g (ofKey k) y ∧ k.depth ≤ 8 ∧ look ks vs k = some d ∧ ∀ v, Rep K w g d v → Q v H
theorem ix_dic {X : Cx} (hu : X.A.units + 10 < cLine) : IxR X (rIxDic X.w X.K) := by
  intro value slice pins s σ H x y v u Q I rx ry h hs
  obtain ⟨g, a, ks, vs, k, d, rfl, rfl, hD, hk, hd, hl, q⟩ := h
  cases rx
  obtain ⟨es, ep, xs, vvs, h1, hH, rfl, hv, hr, _, hm⟩ := dc_of I hD
  have lk := look_at3 k xs vs vvs hv hr
  rw [hl] at lk
  obtain ⟨p, z, e1, e2, e3⟩ := lk
  exact tail_any hH.typeIs F.slot_dict_getitem.lookup (dc_item hu (key_is I k y u hk ry) hd hH e1 ⟨z, g.H, I.tok _, e2, q z e3⟩) hs
theorem dic_get2 {X : Cx} {pins : List (Addr × Obj)} {σ : L2.St} {s : Shared} {g : Gh} {a : Addr} {ks : List NestedKey} {vs : List D} {k : NestedKey} {y z : V} {u r : Value} {dz : D} {Q : VK} (hu : X.A.units + 10 < cLine)
    (I : Inv X pins σ g.H s) (hD : DicVw X.K X.w g a ks vs) (hk : Rep X.K X.w g (ofKey k) y) (hd : k.depth ≤ 8) (ry : RelV y u) (hz : Rep X.K X.w g dz z) (rz : RelV z r)
    (q : ∀ v, Rep X.K X.w g ((look ks vs k).getD dz) v → Q v g.H) : wpAny (model X.prog X.w) X.A (call (.builtin "dict.get") [.ref a, u, r]) (EP X pins σ Q) X.xe s := by
  obtain ⟨es, ep, xs, vvs, h1, hH, rfl, hv, hr, _, hm⟩ := dc_of I hD
  refine dc_get2 hu (key_is I k y u hk ry) hd hm hH ?_
  have lk := look_at3 k xs vs vvs hv hr
  cases hl : look (xs.map (·.1)) vs k with
  | none =>
    rw [hl] at lk q
    rw [lk]
    exact ⟨z, g.H, I.tok _, rz, q z hz⟩
  | some d =>
    rw [hl] at lk q
    obtain ⟨p, v, e1, e2, e3⟩ := lk
    rw [e1]
    exact ⟨v, g.H, I.tok _, e2, q v e3⟩

/-- d[k] = v -/
theorem vals_put {k : NestedKey} {u : Value} {v : V} {r : Value} (rv : RelV v r) : ∀ {xs : List KE3} {vvs : List V}, Vals vvs (xs.map (·.2.2)) →
    ∃ vvs', Vals vvs' ((put3 xs k u r).map (·.2.2)) ∧ (∀ {K w g vs d}, Reps K w g vs vvs → Rep K w g d v → Reps K w g (putV (xs.map (·.1)) vs k d) vvs')
  | [], vvs, h => by
    cases h
    exact ⟨[v], .cons rv .nil, fun hr hd => by cases hr; exact .cons hd .nil⟩
  | x :: xs, vvs, h => by
    cases h with
    | cons h1 h2 =>
      rename_i v0 vt
      by_cases e : NestedKey.beq x.1 k = true
      · refine ⟨v :: vt, ?_, fun hr hd => ?_⟩
        · unfold put3
          simp only [e, if_true, List.map_cons]
          exact .cons rv h2
        · cases hr with
          | cons r1 r2 =>
            unfold putV
            simp only [List.map_cons, e, if_true]
            exact .cons hd r2
      · have e : NestedKey.beq x.1 k = false := by simpa using e
        obtain ⟨vvs', a1, a2⟩ := vals_put (k := k) (u := u) rv h2
        refine ⟨v0 :: vvs', ?_, fun hr hd => ?_⟩
        · unfold put3
          simp only [e, Bool.false_eq_true, if_false, List.map_cons]
          exact .cons h1 a1
        · cases hr with
          | cons r1 r2 =>
            unfold putV
            simp only [List.map_cons, e, Bool.false_eq_true, if_false]
            exact .cons r1 (a2 r2 hd)
theorem keys_put {k : NestedKey} {u : Value} {y : V} {r : Value} (ry : RelV y u) : ∀ {xs : List KE3} {kvs : List V}, Vals kvs (xs.map (·.2.1)) →
    ∃ kvs', Vals kvs' ((put3 xs k u r).map (·.2.1)) ∧ (∀ {K w g}, Reps K w g (ofKeys (xs.map (·.1))) kvs → Rep K w g (ofKey k) y → Reps K w g (ofKeys ((put3 xs k u r).map (·.1))) kvs')
  | [], kvs, h => by
    cases h
    exact ⟨[y], .cons ry .nil, fun _ hk => .cons hk .nil⟩
  | x :: xs, kvs, h => by
    cases h with
    | cons h1 h2 =>
      rename_i v0 vt
      by_cases e : NestedKey.beq x.1 k = true
      · refine ⟨v0 :: vt, ?_, fun hr _ => ?_⟩
        · unfold put3
          simp only [e, if_true, List.map_cons]
          exact .cons h1 h2
        · unfold put3
          simp only [e, if_true, List.map_cons]
          exact hr
      · have e : NestedKey.beq x.1 k = false := by simpa using e
        obtain ⟨kvs', a1, a2⟩ := keys_put (k := k) (r := r) ry h2
        refine ⟨v0 :: kvs', ?_, fun hr hk => ?_⟩
        · unfold put3
          simp only [e, Bool.false_eq_true, if_false, List.map_cons]
          exact .cons h1 a1
        · unfold put3
          simp only [e, Bool.false_eq_true, if_false, List.map_cons, ofKeys] at hr ⊢
          cases hr with
          | cons r1 r2 => exact .cons r1 (a2 r2 hk)
theorem putV_len : ∀ (ks : List NestedKey) (vs : List D) (k : NestedKey) (d : D), vs.length = ks.length → (putV ks vs k d).length = (putK ks k).length
  | [], vs, k, d, h => by
    cases vs with
    | nil => rfl
    | cons _ _ => cases h
  | a :: ks, [], k, d, h => by cases h
  | a :: ks, v :: vs, k, d, h => by
    have ih := putV_len ks vs k d (by simpa using h)
    unfold putV putK has
    by_cases e : NestedKey.beq a k = true
    · simp only [e, if_true, List.any_cons, Bool.true_or, List.length_cons]
      simpa using h
    · have e : NestedKey.beq a k = false := by simpa using e
      simp only [e, Bool.false_eq_true, if_false, List.any_cons, Bool.false_or, List.length_cons, ih]
      unfold putK has
      split <;> simp
theorem putK_sub (ks : List NestedKey) (k : NestedKey) : ∀ x ∈ putK ks k, x ∈ ks ∨ x = k := fun x hx => by
  unfold putK at hx
  split at hx
  · exact .inl hx
  · simpa using hx
theorem putK_nodup {ks : List NestedKey} (nd : ks.Nodup) (k : NestedKey) : (putK ks k).Nodup := by
  unfold putK
  split
  · exact nd
  · rename_i h
    rw [List.nodup_append]
    refine ⟨nd, by simp, fun a ha b hb => ?_⟩
    simp only [List.mem_singleton] at hb
    subst hb
    rintro rfl
    exact h (List.any_eq_true.mpr ⟨a, ha, beq_true.mpr rfl⟩)
theorem putK_len (ks : List NestedKey) (k : NestedKey) : (putK ks k).length ≤ ks.length + 1 := by
  unfold putK
  split <;> simp
/-- the store's reading: what stands behind it -/
theorem dic_set {X : Cx} {pins : List (Addr × Obj)} {σ : L2.St} {s : Shared} {g : Gh} {a : Addr} {ks : List NestedKey} {vs : List D} {k : NestedKey} {y z : V} {u r : Value} {dz : D} {Q : Hp → Prop} (hu : X.A.units + 10 < cLine)
    (I : Inv X pins σ g.H s) (hD : DicAt X.K X.w g a ks vs) (hk : Rep X.K X.w g (ofKey k) y) (hd : k.depth ≤ 8) (ry : RelV y u) (hz : Rep X.K X.w g dz z) (rz : RelV z r) (hl : ks.length < 16777216)
    (q : ∀ (es : Array DictEntry) (ep : Nat), (∀ g' : Gh, g'.H = upd g.H a (dcO a es ep) → Mono g g' → DicAt X.K X.w g' a (putK ks k) (putV ks vs k dz)) → Q (upd g.H a (dcO a es ep))) :
    wpAny (model X.prog X.w) X.A (setItem (.ref a) u r) (fun _ s' => ∃ H', Inv X pins σ H' s' ∧ Q H') X.xe s := by
  obtain ⟨es, ep, xs, kvs, vvs, h1, ⟨h2, rfl⟩, h3, h4, h5, h6, hn, hdd, hzz, hvl, hm⟩ := id hD
  obtain ⟨ho, _, _⟩ := I.hok a _ h1
  have ka := keys_are I _ _ _ h5 h3
  have hkk := keys_each (K := X.K) (w := X.w) (fun _ _ => True) xs (fun _ _ => trivial) ka
  have hH : DcH X.w s.heap a es ep xs := ⟨ho, h2, fun x hx => ⟨hkk x hx, hdd x.1 (List.mem_map.mpr ⟨x, hx, rfl⟩)⟩, hn⟩
  refine dc_store hu (key_is I k y u hk ry) hd hH (by simpa using hzz) fun h' es' ep' D' sb => ?_
  obtain ⟨o', ho', hex', hdat'⟩ := D'.obj
  refine ⟨upd g.H a (dcO a es' ep'), I.write (x := a) (e := a) (by rw [h1]; trivial) (.inl rfl) (fun b o hb e => (sb.2 b hb).trans e) ⟨o', ho'⟩ ⟨⟨o', ho', hex', hdat'⟩, ⟨o', ho'⟩, fun h1 h2 ⟨oo, e1, e2⟩ st => ⟨oo, st _ e1, e2⟩⟩, ?_⟩
  refine q es' ep' fun g' hg m => ?_
  obtain ⟨kvs', k1, k2⟩ := keys_put (r := r) (k := k) ry h3
  obtain ⟨vvs', v1, v2⟩ := vals_put (u := u) (k := k) rz h4
  have ek := put3_keys xs k u r
  refine ⟨es', ep', put3 xs k u r, kvs', vvs', by rw [hg, upd_same], ⟨D'.ent, ek.symm⟩, k1, v1, ?_, ?_, ?_, ?_, ?_, ?_, hm⟩
  · rw [← ek]
    exact k2 (h5.mono m) (hk.mono m)
  · exact v2 (h6.mono m) (hz.mono m)
  · exact putK_nodup hn k
  · exact fun x hx => (putK_sub _ _ x hx).elim (hdd x) fun e => by rw [e]; exact hd
  · have := putK_len (xs.map (·.1)) k
    have hs := lineN
    omega
  · exact putV_len _ _ _ _ hvl
end Mp
set_option Elab.async false
set_option linter.all false
set_option maxRecDepth 100000
set_option maxHeartbeats 4000000
/-! in, subscripts, slices, calls of built-ins -/
namespace Mp
open PySem PySem.Spec PyProof.Rows L2

section
variable {K : W.Frag} {w : World} {g g' g₀ : Gh} {S : Sto} {x y z : DT} {v u : V} {Q : VK}

def rInTD (neg : Bool) (K : W.Frag) : R2 := fun x y H Q => ∃ d ds, Dp K H x d ∧ Dp K H y (.tuple ds) ∧ SeqAt.shaped d = true ∧ SeqAt.shaped (.tuple ds) = true ∧ Q (.bl (if neg then !(ds.any fun z => PyData.eqv z d) else ds.any fun z => PyData.eqv z d)) H
theorem op_inTD {X : Cx} (hu : X.A.units + 65 < cLine) : OpR X (compareOp .In) (rInTD false X.K) := by
  intro pins s σ H x y v u Q I rx ry h
  obtain ⟨d, ds, hd, he, sd, se, q⟩ := h
  obtain ⟨as, r1⟩ := Dp.reads I d x v hd rx
  obtain ⟨bs, r2⟩ := Dp.reads I (.tuple ds) y u he ry
  exact SeqAt.in_tuple_reads r2 r1 (SeqAt.canLay_of_shaped se) (SeqAt.canLay_of_shaped sd) (room_in_shaped sd hu) ⟨.bl _, H, I, rfl, q⟩
theorem op_ninTD {X : Cx} (hu : X.A.units + 65 < cLine) : OpR X (compareOp .NotIn) (rInTD true X.K) := by
  intro pins s σ H x y v u Q I rx ry h
  obtain ⟨d, ds, hd, he, sd, se, q⟩ := h
  obtain ⟨as, r1⟩ := Dp.reads I d x v hd rx
  obtain ⟨bs, r2⟩ := Dp.reads I (.tuple ds) y u he ry
  exact SeqAt.notIn_tuple_reads r2 r1 (SeqAt.canLay_of_shaped se) (SeqAt.canLay_of_shaped sd) (room_in_shaped sd hu) ⟨.bl _, H, I, rfl, q⟩
def rSign (neg : Bool) (_ : W.Frag) : R2 := fun x y H Q => ∃ (c : Nat) (z : Str), x = .str ⟨#[c]⟩ ∧ y = .str z ∧ Q (.bl (if neg then !decide (c ∈ z.cps.toList) else decide (c ∈ z.cps.toList))) H
def rInA (w : World) (K : W.Frag) : R2 := fun x y H Q => (rSign false K x y H Q ∨ rInDic w false K x y H Q) ∨ (rInD K x y H Q ∨ rInTD false K x y H Q)
def rNinA (w : World) (K : W.Frag) : R2 := fun x y H Q => (rSign true K x y H Q ∨ rInDic w true K x y H Q) ∨ (rNotInD K x y H Q ∨ rInTD true K x y H Q)
theorem or_inn {X : Cx} (hu : X.A.units + 70 < cLine) : OpR X (compareOp .In) (rInA X.w X.K) :=
  OpR.or (OpR.or (r := rSign false X.K) op_in_sign (or_inDic (by omega))) (OpR.or (op_inD (by omega)) (op_inTD (by omega)))
theorem or_nin {X : Cx} (hu : X.A.units + 70 < cLine) : OpR X (compareOp .NotIn) (rNinA X.w X.K) :=
  OpR.or (OpR.or (r := rSign true X.K) op_notIn_sign (or_ninDic (by omega))) (OpR.or (op_notInD (by omega)) (op_ninTD (by omega)))

theorem key_inv : ∀ (d : D) (k : NestedKey), d.key = some k → d = ofKey k := by
  have both : (∀ (d : D) (k : NestedKey), d.key = some k → d = ofKey k) ∧ ∀ (ds : List D) (ks : List NestedKey), D.keys ds = some ks → ds = ofKeys ks := by
    refine ⟨fun d => ?_, fun ds => ?_⟩
    · refine D.rec (motive_1 := fun d => ∀ k, d.key = some k → d = ofKey k) (motive_2 := fun ds => ∀ ks, D.keys ds = some ks → ds = ofKeys ks)
        ?_ ?_ ?_ ?_ ?_ ?_ ?_ ?_ ?_ ?_ ?_ d
      · intro k h; simp only [D.key] at h; cases h; simp only [ofKey]
      · intro b k h; simp only [D.key] at h; cases h
      · intro i k h; simp only [D.key] at h; cases h; simp only [ofKey]
      · intro z k h; simp only [D.key] at h; cases h; simp only [ofKey]
      · intro xs ih k h
        simp only [D.key] at h
        cases e : D.keys xs with
        | none => rw [e] at h; cases h
        | some ks => rw [e] at h; cases h; simp only [ofKey]; rw [ih ks e]
      · intro xs ih k h; simp only [D.key] at h; cases h
      · intro ks vs ih k h; simp only [D.key] at h; cases h
      · intro n k h; simp only [D.key] at h; cases h
      · intro xs ih k h; simp only [D.key] at h; cases h
      · intro ks h; simp only [D.keys] at h; cases h; simp only [ofKeys]
      · intro x xs ih1 ih2 ks h
        simp only [D.keys] at h
        cases e1 : x.key with
        | none => rw [e1] at h; cases h
        | some k =>
          cases e2 : D.keys xs with
          | none => rw [e1, e2] at h; cases h
          | some ks' => rw [e1, e2] at h; cases h; simp only [ofKeys]; rw [ih1 k e1, ih2 ks' e2]
    · refine D.rec_1 (motive_1 := fun d => ∀ k, d.key = some k → d = ofKey k) (motive_2 := fun ds => ∀ ks, D.keys ds = some ks → ds = ofKeys ks)
        ?_ ?_ ?_ ?_ ?_ ?_ ?_ ?_ ?_ ?_ ?_ ds
      · intro k h; simp only [D.key] at h; cases h; simp only [ofKey]
      · intro b k h; simp only [D.key] at h; cases h
      · intro i k h; simp only [D.key] at h; cases h; simp only [ofKey]
      · intro z k h; simp only [D.key] at h; cases h; simp only [ofKey]
      · intro xs ih k h
        simp only [D.key] at h
        cases e : D.keys xs with
        | none => rw [e] at h; cases h
        | some ks => rw [e] at h; cases h; simp only [ofKey]; rw [ih ks e]
      · intro xs ih k h; simp only [D.key] at h; cases h
      · intro ks vs ih k h; simp only [D.key] at h; cases h
      · intro n k h; simp only [D.key] at h; cases h
      · intro xs ih k h; simp only [D.key] at h; cases h
      · intro ks h; simp only [D.keys] at h; cases h; simp only [ofKeys]
      · intro x xs ih1 ih2 ks h
        simp only [D.keys] at h
        cases e1 : x.key with
        | none => rw [e1] at h; cases h
        | some k =>
          cases e2 : D.keys xs with
          | none => rw [e1, e2] at h; cases h
          | some ks' => rw [e1, e2] at h; cases h; simp only [ofKeys]; rw [ih1 k e1, ih2 ks' e2]
  exact both.1
theorem keyOf_inv {d : D} {k : NestedKey} (h : keyOf d = some k) : d = ofKey k ∧ k.depth ≤ 8 := by
  unfold keyOf at h
  cases e : d.key with
  | none => rw [e] at h; cases h
  | some q =>
    rw [e] at h
    have h : (if q.depth ≤ 8 then some q else none) = some k := h
    split at h
    · cases h; rename_i hd; exact ⟨key_inv d _ e, hd⟩
    · cases h
/-- a key is no list, no dict -/
theorem rep_key {x : DT} {v : V} {k : NestedKey} (r : RepT K w g g₀ x v) (h : keyOf x.1 = some k) : Rep K w g (ofKey k) v ∧ k.depth ≤ 8 := by
  obtain ⟨e, hd⟩ := keyOf_inv h
  refine ⟨?_, hd⟩
  obtain ⟨d, t⟩ := x
  have e : d = ofKey k := e
  subst e
  cases t with
  | f => exact r
  | b =>
    obtain ⟨a, _, _, _, q⟩ := r
    cases k <;> simp only [ofKey] at q
  | n =>
    obtain ⟨a, _, ⟨_, _, q⟩, _⟩ := r
    cases k <;> simp only [ofKey] at q
theorem seqV_cases {d : D} {xs : List D} (h : seqV S d = some xs) : lstV S d = some xs ∨ d = .tup xs := by
  cases d with
  | tup ys => cases h; exact .inr rfl
  | lst ys => exact .inl h
  | ref n => exact .inl h
  | _ => cases h
theorem any_pds (xs : List D) (f : PyData → Bool) : (D.pds xs).any f = xs.any fun z => f z.pd := by
  induction xs with
  | nil => rfl
  | cons x r ih => simp only [D.pds, List.any_cons, ih]
theorem lst_not_f {d : D} {xs : List D} (h : lstV S d = some xs) : dicV S d = none := by
  cases d with
  | lst _ => rfl
  | ref n =>
    have h : (match S[n]? with | some (_, .lst xs) => some xs | _ => none) = some xs := h
    show (match S[n]? with | some (_, .dic ks vs) => some (ks, vs) | _ => none) = none
    cases e : S[n]? with
    | none => rfl
    | some co =>
      obtain ⟨c, o⟩ := co
      cases o with
      | lst _ => rfl
      | dic _ _ => rw [e] at h; cases h
  | _ => cases h
theorem in_str {S : Sto} {dx : D} {z : Str} {b : Bool} (h : cmpF.inF S dx (.str z) = some b) : ∃ c, dx = .str ⟨#[c]⟩ ∧ b = decide (c ∈ z.cps.toList) := by
  unfold cmpF.inF at h
  split at h
  · rename_i z' e
    split at h
    · rename_i c
      cases h
      cases e
      exact ⟨c, rfl, rfl⟩
    · cases h
  · rename_i e
    exact absurd rfl (e z)
theorem in_core (neg : Bool) {b : Bool} (W : WF K w g S) (rx : RepT K w g g₀ x v) (ry : RepT K w g g₀ y u) (h : cmpF.inF S x.1 y.1 = some b) (q : Q (.bl (if neg then !b else b)) g.H) :
    (rSign neg K v u g.H Q ∨ rInDic w neg K v u g.H Q) ∨ ((if neg then rNotInD K v u g.H Q else rInD K v u g.H Q) ∨ rInTD neg K v u g.H Q) := by
  have gen : (match dicV S y.1 with
      | some (ks, _) => (keyOf x.1).map (has ks)
      | none => match seqV S y.1 with
        | some xs => if SeqAt.shaped x.1.pd && SeqAt.shaped (D.lst xs).pd then some (xs.any fun z => PyData.eqv z.pd x.1.pd) else none
        | none => none) = some b → (rSign neg K v u g.H Q ∨ rInDic w neg K v u g.H Q) ∨ ((if neg then rNotInD K v u g.H Q else rInD K v u g.H Q) ∨ rInTD neg K v u g.H Q) := by
    intro h
    cases ed : dicV S y.1 with
    | some p =>
      obtain ⟨ks, vs⟩ := p
      rw [ed] at h
      obtain ⟨k, hk, rfl⟩ := Option.map_eq_some_iff.mp h
      obtain ⟨a, rfl, hD⟩ := view_dic W ry ed
      obtain ⟨r1, r2⟩ := rep_key rx hk
      exact .inl (.inr ⟨g, a, ks, vs, k, rfl, rfl, hD, r1, r2, q⟩)
    | none =>
      rw [ed] at h
      cases es : seqV S y.1 with
      | none => rw [es] at h; cases h
      | some xs =>
        rw [es] at h
        have h : (if SeqAt.shaped x.1.pd && SeqAt.shaped (D.lst xs).pd then some (xs.any fun z => PyData.eqv z.pd x.1.pd) else none) = some b := h
        split at h
        · rename_i hc
          cases h
          have hc := Bool.and_eq_true_iff.mp hc
          have nl : lstV S x.1 = none ∨ ∃ ys, lstV S x.1 = some ys := by cases lstV S x.1 <;> simp
          have dx : Dp K g.H v x.1.pd := by
            rcases nl with nl | ⟨ys, nl⟩
            · exact dp_any W rx nl (SeqAt.canLay_of_shaped hc.1)
            · have ex : x.1 = .lst ys := by
                cases e : x.1 with
                | lst zs => rw [e] at nl; cases nl; rfl
                | ref n => rw [e] at hc; cases hc.1
                | _ => rw [e] at nl; cases nl
              have := dp_lst W rx nl (by rw [ex] at hc; exact SeqAt.canLay_of_shaped hc.1)
              rw [ex]
              exact this
          rcases seqV_cases es with el | et
          · have dy := dp_lst W ry el (SeqAt.canLay_of_shaped hc.2)
            refine .inr (.inl ?_)
            cases neg with
            | false =>
              exact ⟨x.1.pd, D.pds xs, dx, dy, hc.1, hc.2, by rw [any_pds]; exact q⟩
            | true =>
              exact ⟨x.1.pd, D.pds xs, dx, dy, hc.1, hc.2, by rw [any_pds]; exact q⟩
          · have ry' := rep_tup ry et
            have dy : Dp K g.H u (D.tup xs).pd := dp_of ry' (by
              have := SeqAt.canLay_of_shaped hc.2
              exact this)
            exact .inr (.inr ⟨x.1.pd, D.pds xs, dx, dy, hc.1, hc.2, by rw [any_pds]; exact q⟩)
        · cases h
  obtain ⟨dx, tx⟩ := x
  obtain ⟨dy, ty⟩ := y
  cases dy with
  | str z =>
    cases rep_str ry rfl
    obtain ⟨c, rfl, rfl⟩ := in_str h
    cases rep_str rx rfl
    exact .inl (.inl ⟨c, z, rfl, rfl, q⟩)
  | _ => exact gen h
end
theorem cmp2_inn {K : W.Frag} {w : World} {g₀ g : Gh} {S : Sto} {x y : DT} {b : Bool} {v u : V} {Q : VK} (W : WF K w g S) (rx : RepT K w g g₀ x v) (ry : RepT K w g g₀ y u) (h : cmpF S .inn x.1 y.1 = some b) (q : Q (.bl b) g.H) :
    rInA w K v u g.H Q := in_core false W rx ry h q
theorem cmp2_nin {K : W.Frag} {w : World} {g₀ g : Gh} {S : Sto} {x y : DT} {b : Bool} {v u : V} {Q : VK} (W : WF K w g S) (rx : RepT K w g g₀ x v) (ry : RepT K w g g₀ y u) (h : cmpF S .nin x.1 y.1 = some b) (q : Q (.bl b) g.H) :
    rNinA w K v u g.H Q := by
  obtain ⟨c, hc, rfl⟩ := Option.map_eq_some_iff.mp (show (cmpF.inF S x.1 y.1).map (!·) = some b from h)
  exact in_core true W rx ry hc q
end Mp
set_option Elab.async false
set_option linter.all false
set_option maxRecDepth 100000
set_option maxHeartbeats 4000000
/-! subscripts, slices, calls of built-ins -/
namespace Mp
open PySem PySem.Spec PyProof.Rows L2

section
variable {K : W.Frag} {w : World} {g g' g₀ : Gh} {S : Sto} {x y z : DT} {v u : V} {Q : VK}

theorem reps_atI {xs : List D} {vs : List V} {i : Int} {d : D} (r : Reps K w g xs vs) (h : L2.atI xs i = some d) : ∃ v, L2.atI vs i = some v ∧ Rep K w g d v := by
  unfold L2.atI at h ⊢
  rw [← r.length]
  cases e : ixN xs.length i with
  | none => rw [e] at h; cases h
  | some j =>
    rw [e] at h
    exact r.get h
theorem reps_cut {xs : List D} {vs : List V} (lo hi : Option Int) (r : Reps K w g xs vs) : Reps K w g (cut xs lo hi) (cutV vs lo hi) := by
  unfold cut cutV
  rw [← r.length]
  exact (r.drop _).take _

/-! ### subscripts -/
def rIxA (w : World) (K : W.Frag) : R2 := fun x y H Q => rIx K x y H Q ∨ rIxDic w K x y H Q
theorem or_ix {X : Cx} (hu : X.A.units + 10 < cLine) : IxR X (rIxA X.w X.K) := ix_seq.or (ix_dic hu)
theorem sub_cases {S : Sto} {dx dy : D} {z : DT} (h : subF S dx dy = some z) :
    (∃ t i c, dx = .str t ∧ dy = .int i ∧ L2.atI t.cps.toList i = some c ∧ t.length ≤ 16777216 ∧ z = held (.str ⟨#[c]⟩)) ∨
    (∃ (xs : List D) (i : Int) (d : D), seqR S dx = some xs ∧ dy = .int i ∧ L2.atI xs i = some d ∧ z = held d) ∨
    (∃ (ks : List NestedKey) (vs : List D) (k : NestedKey) (d : D), dicV S dx = some (ks, vs) ∧ keyOf dy = some k ∧ look ks vs k = some d ∧ z = held d) := by
  unfold subF at h
  split at h
  · rename_i t i
    split at h
    · rename_i c hc
      split at h
      · rename_i hz
        cases h
        exact .inl ⟨t, i, c, rfl, rfl, hc, hz, rfl⟩
      · cases h
    · cases h
  · split at h
    · rename_i xs i hs _
      obtain ⟨d, hd, rfl⟩ := Option.map_eq_some_iff.mp h
      exact .inr (.inl ⟨xs, i, d, hs, rfl, hd, rfl⟩)
    · split at h
      · rename_i ks vs k h1 h2
        obtain ⟨d, hd, rfl⟩ := Option.map_eq_some_iff.mp h
        exact .inr (.inr ⟨ks, vs, k, d, h1, h2, hd, rfl⟩)
      · cases h
theorem op2_ix (A : After g₀ g) (W : WF K w g S) (rx : RepT K w g g₀ x v) (ry : RepT K w g g₀ y u) (h : subF S x.1 y.1 = some z) (fin : Fin K w g₀ g S z Q) : rIxA w K v u g.H Q := by
  rcases sub_cases h with ⟨t, i, c, h1, h2, h3, h4, rfl⟩ | ⟨xs, i, d, h1, h2, h3, rfl⟩ | ⟨ks, vs, k, d, h1, h2, h3, rfl⟩
  · cases rep_str rx h1
    cases rep_int ry h2
    exact .inl (.inr (.inr ⟨t, i, c, rfl, rfl, by rw [lineN]; exact h4, h3, fin.here A W (.str _)⟩))
  · obtain ⟨a, vs, rfl, hq, hr⟩ := view_seqR W rx h1
    cases rep_int ry h2
    obtain ⟨b, hb, rb⟩ := reps_atI hr h3
    rcases hq with hq | hq
    · exact .inl (.inl ⟨a, vs, i, b, rfl, rfl, hq, hb, fin.here A W rb⟩)
    · exact .inl (.inr (.inl ⟨a, vs, i, b, rfl, rfl, hq, hb, fin.here A W rb⟩))
  · obtain ⟨a, rfl, hD⟩ := view_dic W rx h1
    obtain ⟨r1, r2⟩ := rep_key ry h2
    exact .inr ⟨g, a, ks, vs, k, d, rfl, rfl, hD, r1, r2, h3, fun b rb => fin.here A W rb⟩

/-! ### slices -/
def rSlAll (K : W.Frag) : V → Option Int → Option Int → Hp → VK → Prop := fun x lo hi H Q => rSlL K x lo hi H Q ∨ (rSlA K x lo hi H Q ∨ rSlS x lo hi H Q)
theorem or_sl {X : Cx} : SlR X (rSlAll X.K) := sl_list.or (sl_tupA.or sl_str)
theorem cut_whole {xs : List D} {lo hi : Option Int} (h : HT.sIx xs.length 0 lo = 0 ∧ HT.sIx xs.length xs.length hi = xs.length) : cut xs lo hi = xs := by
  unfold cut
  rw [h.1, h.2]
  simp
theorem sl_core {lo hi : Option Int} (A : After g₀ g) (W : WF K w g S) (rx : RepT K w g g₀ x v) (h : sliF S x.1 lo hi = some z) (fin : Fin K w g₀ g S z Q) : rSlAll K v lo hi g.H Q := by
  have gen : ∀ xs, lstV S x.1 = some xs → z = fresh (.lst (cut xs lo hi)) → rSlAll K v lo hi g.H Q := fun xs h1 h2 => by
    subst h2
    obtain ⟨a, vs, rfl, hq, hr⟩ := view_lst W rx h1
    exact .inl ⟨a, vs, rfl, .inl (.inl hq), fin.lst A W (reps_cut lo hi hr)⟩
  obtain ⟨dx, tx⟩ := x
  cases dx with
  | str t =>
    have h : (if t.length ≤ 16777216 then some (held (.str (L2.cutS t lo hi))) else none) = some z := h
    split at h
    · rename_i hz
      cases h
      cases rep_str rx rfl
      exact .inr (.inr ⟨t, rfl, by rw [lineN]; exact hz, fin.here A W (.str _)⟩)
    · cases h
  | tup xs =>
    cases h
    have r1 := rep_tup rx rfl
    obtain ⟨p, vs, rfl, hp, rp⟩ := view_tup (x := .non) r1
    refine .inr (.inl ⟨p, vs, rfl, hp, fun e => ?_, fun _ => fin.tup A W (reps_cut lo hi rp)⟩)
    rw [← rp.length] at e
    rw [cut_whole e] at fin
    exact fin.here A W r1
  | lst xs =>
    cases h
    exact gen xs rfl rfl
  | ref n =>
    have h : (match lstV S (.ref n) with | some xs => some (fresh (.lst (cut xs lo hi))) | none => none) = some z := h
    split at h
    · rename_i xs hx
      cases h
      exact gen xs hx rfl
    · cases h
  | non => cases h
  | bl b => cases h
  | int i => cases h
  | dic ks vs => cases h
  | cel xs => cases h

/-! ### built-in functions -/
/-- an argument: how it is held does not matter -/
def RepA (K : W.Frag) (w : World) (g g₀ : Gh) (d : D) (v : V) : Prop := ∃ t, RepT K w g g₀ (d, t) v
inductive RepAs (K : W.Frag) (w : World) (g g₀ : Gh) : List D → List V → Prop
  | nil : RepAs K w g g₀ [] []
  | cons {d : D} {v : V} {ds : List D} {vs : List V} : RepA K w g g₀ d v → RepAs K w g g₀ ds vs → RepAs K w g g₀ (d :: ds) (v :: vs)
theorem RepA.after (x : After g g') (W : WF K w g S) {d : D} {v : V} (h : RepA K w g g₀ d v) : RepA K w g' g₀ d v := by
  obtain ⟨t, h⟩ := h
  exact ⟨t, h.after x W⟩
theorem RepAs.after (x : After g g') (W : WF K w g S) : ∀ {ds : List D} {vs : List V}, RepAs K w g g₀ ds vs → RepAs K w g' g₀ ds vs
  | _, _, .nil => .nil
  | _, _, .cons h t => .cons (h.after x W) (RepAs.after x W t)
theorem RepAs.one {d : D} {vs : List V} (h : RepAs K w g g₀ [d] vs) : ∃ v, vs = [v] ∧ RepA K w g g₀ d v := by
  cases h with
  | cons h t => cases t; exact ⟨_, rfl, h⟩
theorem RepAs.two {d e : D} {vs : List V} (h : RepAs K w g g₀ [d, e] vs) : ∃ v u, vs = [v, u] ∧ RepA K w g g₀ d v ∧ RepA K w g g₀ e u := by
  cases h with
  | cons h t => obtain ⟨u, rfl, hu⟩ := t.one; exact ⟨_, _, rfl, h, hu⟩

theorem len_core {d : D} {v : V} (A : After g₀ g) (W : WF K w g S) (r : RepA K w g g₀ d v) (h : bltF S .len [d] = some z) (fin : Fin K w g₀ g S z Q) :
    ∃ x n, [v] = [x] ∧ LenV K x g.H n ∧ Q (.int n) g.H := by
  obtain ⟨t, r⟩ := r
  have gen : ∀ xs, seqR S d = some xs → z = held (.int xs.length) → ∃ x n, [v] = [x] ∧ LenV K x g.H n ∧ Q (.int n) g.H := fun xs h1 h2 => by
    subst h2
    obtain ⟨a, vs, rfl, hq, hr⟩ := view_seqR W r h1
    refine ⟨_, xs.length, rfl, ?_, fin.here A W (.int _)⟩
    rw [hr.length]
    rcases hq with hq | hq
    · exact .inl ⟨vs, hq, rfl⟩
    · exact .inr ⟨vs, hq, rfl⟩
  cases d with
  | str s =>
    have h : (if s.length ≤ 16777216 then some (held (.int s.length)) else none) = some z := h
    split at h
    · rename_i hz
      cases h
      cases rep_str r rfl
      exact ⟨_, s.length, rfl, ⟨by rw [lineN]; exact hz, rfl⟩, fin.here A W (.int _)⟩
    · cases h
  | tup xs => cases h; exact gen xs rfl rfl
  | cel xs => cases h; exact gen xs rfl rfl
  | lst xs => cases h; exact gen xs rfl rfl
  | ref n =>
    have h : (match seqR S (.ref n) with | some xs => some (held (.int xs.length)) | none => none) = some z := h
    split at h
    · rename_i xs hx
      cases h
      exact gen xs hx rfl
    · cases h
  | non => cases h
  | bl b => cases h
  | int i => cases h
  | dic ks vs => cases h

/-! isinstance -/
def menuT : List String := ["tuple", "str", "list", "bool", "dict", "int"]
def rIsiD (w : World) (K : W.Frag) : List V → Hp → VK → Prop := fun xs H Q => ∃ (g : Gh) (a : Addr) (ks : List NestedKey) (vs : List D) (c : V) (u : Value) (b : Bool), g.H = H ∧ xs = [.ref a, c] ∧ ClsV c u ∧ DicVw K w g a ks vs ∧ PySem.W.kitOne K (.type "dict") u = some b ∧ Q (.bl b) H
theorem call_isiD {X : Cx} : CallR X (.builtin "isinstance") (rIsiD X.w X.K) := by
  intro pins s σ H xs us Q I r h
  obtain ⟨g, a, ks, vs, c, u, b, rfl, rfl, k, hD, e, q⟩ := h
  obtain ⟨u1, u2, rfl, r1, r2⟩ := vals2 r
  have e2 := k.eq r2
  subst e2
  cases (show u1 = Value.ref a from r1)
  obtain ⟨es, ep, xs, vvs, h1, hH, _⟩ := dc_of I hD
  exact PySem.W.kia_one (PySem.W.kitx_dict (K := X.K) (a := a)) I.kIn (by obtain ⟨o, h2, h3, _⟩ := hH.1; exact ⟨o, h2, h3.1⟩) e (fun z => nomatch z) fun tk => ⟨.bl b, g.H, I.tok tk, rfl, q⟩
def rIsiA (w : World) (K : W.Frag) : List V → Hp → VK → Prop := fun xs H Q => rIsi K xs H Q ∨ rIsiD w K xs H Q
theorem call_isiA {X : Cx} : CallR X (.builtin "isinstance") (rIsiA X.w X.K) := call_isi.or call_isiD
theorem menu_ok : ∀ n ∈ ["NoneType", "bool", "int", "str", "tuple", "list", "dict"], ∀ t ∈ menuT, kitB n t = some (n == t || (n == "bool" && t == "int")) := by decide +kernel
theorem isi_core {d : D} {v : V} {t : String} (ht : t ∈ menuT) (A : After g₀ g) (W : WF K w g S) (r : RepA K w g g₀ d v) (h : bltF S (.isi t) [d] = some z) (fin : Fin K w g₀ g S z Q) : rIsiA w K [v, .ty t] g.H Q := by
  obtain ⟨tg, r⟩ := r
  obtain ⟨b, hb, rfl⟩ := Option.map_eq_some_iff.mp (show (isiF S t d).map (fun b => held (.bl b)) = some z from h)
  have q : Q (.bl b) g.H := fin.here A W (.bl b)
  unfold isiF at hb
  cases hk : kindName S d with
  | none => rw [hk] at hb; cases hb
  | some n =>
    rw [hk] at hb
    cases hb
    have go : ∀ m, m = n → m ∈ ["NoneType", "bool", "int", "str", "tuple", "list", "dict"] → TyX K g.H v (.type m) → rIsiA w K [v, .ty t] g.H Q := fun m e hm ty => by
      subst e
      exact .inl ⟨v, .ty t, _, _, _, rfl, .ty t, ty, kit_ty (menu_ok m hm t ht), q⟩
    have god : "dict" = n → (∃ a ks vs, v = .ref a ∧ DicVw K w g a ks vs) → rIsiA w K [v, .ty t] g.H Q := fun e ⟨a, ks, vs, ev, hD⟩ => by
      subst e
      subst ev
      exact .inr ⟨g, a, ks, vs, .ty t, _, _, rfl, rfl, .ty t, hD, kit_ty (menu_ok "dict" (by decide) t ht), q⟩
    cases d with
    | non => cases hk; cases rep_non r rfl; exact go _ rfl (by decide) (.base .non)
    | bl b => cases hk; cases rep_bl r rfl; exact go _ rfl (by decide) (.base (.bl b))
    | int i => cases hk; cases rep_int r rfl; exact go _ rfl (by decide) (.base (.int i))
    | str s => cases hk; cases rep_str r rfl; exact go _ rfl (by decide) (.base (.str s))
    | tup xs =>
      cases hk
      have r1 := rep_tup r rfl
      cases r1 with
      | tup h1 h2 =>
        rcases h1 with h1 | ⟨o, its, m, h1, h3, _⟩
        · exact go _ rfl (by decide) (.base (.tup h1.1))
        · exact go _ rfl (by decide) (.kTuple h1 h3)
    | lst xs =>
      cases hk
      obtain ⟨a, vs, rfl, h1, _⟩ := view_lst W r (xs := xs) rfl
      exact go _ rfl (by decide) (.base (.lst h1))
    | dic ks vs =>
      cases hk
      obtain ⟨a, rfl, hD⟩ := view_dic W r (ks := ks) (vs := vs) rfl
      exact god rfl ⟨a, ks, vs, rfl, hD⟩
    | cel xs => cases hk
    | ref m =>
      have hk : (match S[m]? with | some (_, .lst _) => some "list" | some (_, .dic _ _) => some "dict" | none => none) = some n := hk
      cases e : S[m]? with
      | none => rw [e] at hk; cases hk
      | some co =>
        obtain ⟨c, o⟩ := co
        rw [e] at hk
        cases o with
        | lst xs =>
          cases hk
          obtain ⟨a, vs, rfl, h1, _⟩ := view_lst W r (xs := xs) (by show (match S[m]? with | some (_, .lst xs) => some xs | _ => none) = _; rw [e])
          exact go _ rfl (by decide) (.base (.lst h1))
        | dic ks vs =>
          cases hk
          obtain ⟨a, rfl, hD⟩ := view_dic W r (ks := ks) (vs := vs) (by show (match S[m]? with | some (_, .dic ks vs) => some (ks, vs) | _ => none) = _; rw [e])
          exact god rfl ⟨a, ks, vs, rfl, hD⟩

/-! all -/
theorem bls_inv : ∀ {xs : List D} {bs : List Bool} {vs : List V}, bls xs = some bs → Reps K w g xs vs → vs = bs.map V.bl
  | [], bs, vs, h, r => by cases h; cases r; rfl
  | x :: xs, bs, vs, h, r => by
    cases r with
    | cons r1 r2 =>
      cases x with
      | bl b =>
        obtain ⟨cs, hc, rfl⟩ := Option.map_eq_some_iff.mp (show (bls xs).map (b :: ·) = some bs from h)
        cases r1
        rw [bls_inv hc r2]
        rfl
      | _ => cases h
theorem all_core {d : D} {v : V} (A : After g₀ g) (W : WF K w g S) (r : RepA K w g g₀ d v) (h : bltF S .all [d] = some z) (fin : Fin K w g₀ g S z Q) : rAll K [v] g.H Q := by
  obtain ⟨t, r⟩ := r
  have h : (match lstV S d with | some xs => (bls xs).map fun bs => held (.bl (bs.all id)) | none => none) = some z := h
  split at h
  · rename_i xs hx
    obtain ⟨bs, hb, rfl⟩ := Option.map_eq_some_iff.mp h
    obtain ⟨a, vs, rfl, h1, hr⟩ := view_lst W r hx
    have := bls_inv hb hr
    subst this
    exact ⟨a, bs, rfl, .inl (.inl h1), fin.here A W (.bl _)⟩
  · cases h

/-! list, tuple, numbers -/
def rTuple (K : W.Frag) : List V → Hp → VK → Prop := fun xs H Q => ∃ p ys, xs = [.ref p] ∧ ((SqL K H p ys ∧ ∀ l, H l = none → Q (.ref l) (upd H l (.tup ys))) ∨ (SqT K H p ys ∧ Q (.ref p) H))
theorem seqV_tup {d : D} {xs : List D} (h : seqV S d = some xs) (hl : lstV S d = none) : d = .tup xs := by
  rcases seqV_cases h with h' | h'
  · rw [h'] at hl; cases hl
  · exact h'
theorem tuple_core {d : D} {v : V} (A : After g₀ g) (W : WF K w g S) (r : RepA K w g g₀ d v) (h : bltF S .tuple [d] = some z) (fin : Fin K w g₀ g S z Q) : rTuple K [v] g.H Q := by
  obtain ⟨t, r⟩ := r
  obtain ⟨xs, hx, rfl⟩ := Option.map_eq_some_iff.mp (show (seqV S d).map (fun xs => held (.tup xs)) = some z from h)
  rcases seqV_cases hx with hl | rfl
  · obtain ⟨a, vs, rfl, h1, hr⟩ := view_lst W r hl
    exact ⟨a, vs, rfl, .inl ⟨.inl (.inl h1), fin.tup A W hr⟩⟩
  · have r1 := rep_tup r rfl
    obtain ⟨p, vs, rfl, hp, rp⟩ := view_tup (x := .non) r1
    exact ⟨p, vs, rfl, .inr ⟨hp, fin.here A W r1⟩⟩
theorem int_core {d : D} {v : V} (A : After g₀ g) (W : WF K w g S) (r : RepA K w g g₀ d v) (h : bltF S .int [d] = some z) (fin : Fin K w g₀ g S z Q) : ∃ i, v = .int i ∧ Q (.int i) g.H := by
  obtain ⟨t, r⟩ := r
  cases d with
  | int i => cases h; cases rep_int r rfl; exact ⟨i, rfl, fin.here A W (.int i)⟩
  | _ => cases h
theorem abs_core {d : D} {v : V} (A : After g₀ g) (W : WF K w g S) (r : RepA K w g g₀ d v) (h : bltF S .abs [d] = some z) (fin : Fin K w g₀ g S z Q) : ∃ i, [v] = [.int i] ∧ Q (.int (if i < 0 then -i else i)) g.H := by
  obtain ⟨t, r⟩ := r
  cases d with
  | int i => cases h; cases rep_int r rfl; exact ⟨i, rfl, fin.here A W (.int _)⟩
  | _ => cases h
theorem min_core {d e : D} {v u : V} (A : After g₀ g) (W : WF K w g S) (r : RepA K w g g₀ d v) (r' : RepA K w g g₀ e u) (h : bltF S .min2 [d, e] = some z) (fin : Fin K w g₀ g S z Q) : ∃ i j, [v, u] = [.int i, .int j] ∧ Q (.int (if j < i then j else i)) g.H := by
  obtain ⟨t, r⟩ := r
  obtain ⟨t', r'⟩ := r'
  cases d with
  | int i =>
    cases e with
    | int j => cases h; cases rep_int r rfl; cases rep_int r' rfl; exact ⟨i, j, rfl, fin.here A W (.int _)⟩
    | _ => cases h
  | _ => cases h
end
end Mp
set_option Elab.async false
set_option linter.all false
set_option maxRecDepth 100000
set_option maxHeartbeats 4000000
/-! the readings that the evaluator gives, and how they are put together -/
namespace Mp
open PySem PySem.Spec PyProof.Rows L2

/-! ### places -/
section
variable (K : W.Frag) (w : World)
def SlotR (ge g : Gh) : SV → Option V → Prop
  | .no, _ => True
  | .val d, o => ∃ v, o = some v ∧ Rep K w g d v
  | .own d, o => ∃ a, o = some (.ref a) ∧ Unf K w g d a ∧ ge.H a = none
structure EnvR (ge g : Gh) (ρ : Env) (σ : L2.St) : Prop where
  len : ρ.length = σ.length
  at_ : ∀ (i : Nat) (s : SV) (o : Option V), ρ[i]? = some s → σ[i]? = some o → SlotR K w ge g s o
  one : ∀ (i j : Nat) (d e : D) (a : Addr), ρ[i]? = some (.own d) → ρ[j]? = some (.own e) → σ[i]? = some (some (.ref a)) → σ[j]? = some (some (.ref a)) → i = j
def EvQ (g : Gh) (Q : VK) : Res DT → Prop
  | .ok x S => ∀ g' v, After g g' → WF K w g' S → RepT K w g' g x v → Q v g'.H
  | _ => False
def EvQs (g : Gh) (Q : List V → Hp → Prop) : Res (List D) → Prop
  | .ok ds S => ∀ g' vs, After g g' → WF K w g' S → Reps K w g' ds vs → Q vs g'.H
  | _ => False
def EvQo (g : Gh) (Q : List V → Hp → Prop) : Res (List D) → Prop
  | .ok ds S => ∀ g' vs, After g g' → WF K w g' S → RepAs K w g' g ds vs → Q vs g'.H
  | _ => False
def EvR (g : Gh) (Q : VK) : Res D → Prop
  | .ok d S => ∀ g' v, After g g' → WF K w g' S → Rep K w g' d v → Q v g'.H
  | _ => False
/-- where an expression begins -/
def Beg (ρ : Env) (g : Gh) (S : Sto) (σ : L2.St) (H : Hp) : Prop := g.H = H ∧ WF K w g S ∧ ∃ ge, EnvR K w ge g ρ σ
def tE (c : Calls) (e : CE) : TE := fun σ H Q => ∃ ρ g S, Beg K w ρ g S σ H ∧ EvQ K w g Q (ev c ρ e S)
def tA (c : Calls) (es : List CE) : TA := fun σ H Q => ∃ ρ g S, Beg K w ρ g S σ H ∧ EvQs K w g Q (evs c ρ es S)
def tAo (c : Calls) (es : List CE) : TA := fun σ H Q => ∃ ρ g S, Beg K w ρ g S σ H ∧ EvQo K w g Q (evo c ρ es S)
end
section
variable {K : W.Frag} {w : World} {ge g g' g₀ g1 g2 : Gh} {S : Sto} {ρ : Env} {σ : L2.St} {H : Hp} {c : Calls}
theorem SlotR.after (x : After g g') (W : WF K w g S) {s : SV} {o : Option V} (h : SlotR K w ge g s o) : SlotR K w ge g' s o := by
  cases s with
  | no => trivial
  | val d => obtain ⟨v, e, r⟩ := h; exact ⟨v, e, r.mono (x.mono W)⟩
  | own d => obtain ⟨a, e, u, z⟩ := h; exact ⟨a, e, u.after x W, z⟩
theorem EnvR.after (x : After g g') (W : WF K w g S) (h : EnvR K w ge g ρ σ) : EnvR K w ge g' ρ σ :=
  ⟨h.len, fun i s o h1 h2 => (h.at_ i s o h1 h2).after x W, h.one⟩
theorem Beg.after (h : Beg K w ρ g S σ H) (x : After g g') {S' : Sto} (W : WF K w g' S') : Beg K w ρ g' S' σ g'.H := by
  obtain ⟨rfl, W0, ge, E⟩ := h
  exact ⟨rfl, W, ge, E.after x W0⟩
theorem RepT.base (x : After g₀ g) {d : DT} {v : V} (h : RepT K w g' g d v) : RepT K w g' g₀ d v := by
  obtain ⟨d, t⟩ := d
  cases t with
  | f => exact h
  | b => exact h
  | n => obtain ⟨a, e, u, z⟩ := h; exact ⟨a, e, u, none_before x z⟩
theorem RepA.base (x : After g₀ g) {d : D} {v : V} (h : RepA K w g' g d v) : RepA K w g' g₀ d v := by
  obtain ⟨t, h⟩ := h
  exact ⟨t, h.base x⟩
theorem RepAs.base (x : After g₀ g) : ∀ {ds : List D} {vs : List V}, RepAs K w g' g ds vs → RepAs K w g' g₀ ds vs
  | _, _, .nil => .nil
  | _, _, .cons h t => .cons (h.base x) (RepAs.base x t)
/-- a value is held for good -/
theorem esc_hold {x : DT} {v : V} {d : D} (A : After g g1) (W : WF K w g1 S) (r : RepT K w g1 g x v) (h : esc x = some d) : ∃ g2, g2.H = g1.H ∧ After g g2 ∧ Mono g1 g2 ∧ WF K w g2 S ∧ Rep K w g2 d v := by
  obtain ⟨dx, t⟩ := x
  cases t with
  | f => cases h; exact ⟨g1, rfl, A, Mono.refl _, W, r⟩
  | b => cases h
  | n =>
    cases h
    obtain ⟨a, rfl, u, z⟩ := r
    exact ⟨g1.hold a, rfl, After.hold z A, Mono.hold, W.hold u.there u.1, u.hold⟩

theorem EvQ.bind {r : Res DT} {k : DT → Sto → Res DT} {Q Q' : VK} (A : After g g1) (h : EvQ K w g Q (r.bind k))
    (f : ∀ x S' g' v, After g g' → After g1 g' → WF K w g' S' → RepT K w g' g x v → EvQ K w g Q (k x S') → Q' v g'.H) : EvQ K w g1 Q' r := by
  cases r with
  | ok x S' => exact fun g' v A' W' r' => f x S' g' v (A.trans A') A' W' (r'.base A) h
  | exc _ _ _ => exact h
  | bad => exact h
theorem EvQ.of (A : After g g1) {r : Res DT} {Q : VK} (h : EvQ K w g Q r) : EvQ K w g1 Q r := by
  cases r with
  | ok x S' => exact fun g' v A' W' r' => h g' v (A.trans A') W' (r'.base A)
  | exc _ _ _ => exact h
  | bad => exact h
/-- the end: a value by an option -/
theorem EvQ.opt {o : Option DT} {Q : VK} (h : EvQ K w g Q (ofOpt o S)) : ∃ z, o = some z ∧ ∀ g1, After g g1 → Fin K w g g1 S z Q := by
  cases o with
  | none => exact h.elim
  | some z => exact ⟨z, rfl, fun g1 A g' v A1 A2 W r => h g' v A1 W r⟩
theorem EvQs.bindE {r : Res DT} {k : DT → Sto → Res (List D)} {Q : List V → Hp → Prop} {Q' : VK} (A : After g g1) (h : EvQs K w g Q (r.bind k))
    (f : ∀ x S' g' v, After g g' → After g1 g' → WF K w g' S' → RepT K w g' g x v → EvQs K w g Q (k x S') → Q' v g'.H) : EvQ K w g1 Q' r := by
  cases r with
  | ok x S' => exact fun g' v A' W' r' => f x S' g' v (A.trans A') A' W' (r'.base A) h
  | exc _ _ _ => exact h
  | bad => exact h
theorem EvQs.bind {r : Res (List D)} {k : List D → Sto → Res (List D)} {Q Q' : List V → Hp → Prop} (A : After g g1) (h : EvQs K w g Q (r.bind k))
    (f : ∀ x S' g' v, After g g' → After g1 g' → WF K w g' S' → Reps K w g' x v → EvQs K w g Q (k x S') → Q' v g'.H) : EvQs K w g1 Q' r := by
  cases r with
  | ok x S' => exact fun g' v A' W' r' => f x S' g' v (A.trans A') A' W' r' h
  | exc _ _ _ => exact h
  | bad => exact h
theorem EvQo.bindE {r : Res DT} {k : DT → Sto → Res (List D)} {Q : List V → Hp → Prop} {Q' : VK} (A : After g g1) (h : EvQo K w g Q (r.bind k))
    (f : ∀ x S' g' v, After g g' → After g1 g' → WF K w g' S' → RepT K w g' g x v → EvQo K w g Q (k x S') → Q' v g'.H) : EvQ K w g1 Q' r := by
  cases r with
  | ok x S' => exact fun g' v A' W' r' => f x S' g' v (A.trans A') A' W' (r'.base A) h
  | exc _ _ _ => exact h
  | bad => exact h
theorem EvQo.bind {r : Res (List D)} {k : List D → Sto → Res (List D)} {Q Q' : List V → Hp → Prop} (A : After g g1) (h : EvQo K w g Q (r.bind k))
    (f : ∀ x S' g' v, After g g' → After g1 g' → WF K w g' S' → RepAs K w g' g x v → EvQo K w g Q (k x S') → Q' v g'.H) : EvQo K w g1 Q' r := by
  cases r with
  | ok x S' => exact fun g' v A' W' r' => f x S' g' v (A.trans A') A' W' (r'.base A) h
  | exc _ _ _ => exact h
  | bad => exact h
theorem EvQ.bindS {r : Res (List D)} {k : List D → Sto → Res DT} {Q : VK} {Q' : List V → Hp → Prop} (A : After g g1) (h : EvQ K w g Q (r.bind k))
    (f : ∀ x S' g' v, After g g' → After g1 g' → WF K w g' S' → Reps K w g' x v → EvQ K w g Q (k x S') → Q' v g'.H) : EvQs K w g1 Q' r := by
  cases r with
  | ok x S' => exact fun g' v A' W' r' => f x S' g' v (A.trans A') A' W' r' h
  | exc _ _ _ => exact h
  | bad => exact h
theorem EvQ.bindO {r : Res (List D)} {k : List D → Sto → Res DT} {Q : VK} {Q' : List V → Hp → Prop} (A : After g g1) (h : EvQ K w g Q (r.bind k))
    (f : ∀ x S' g' v, After g g' → After g1 g' → WF K w g' S' → RepAs K w g' g x v → EvQ K w g Q (k x S') → Q' v g'.H) : EvQo K w g1 Q' r := by
  cases r with
  | ok x S' => exact fun g' v A' W' r' => f x S' g' v (A.trans A') A' W' (r'.base A) h
  | exc _ _ _ => exact h
  | bad => exact h
theorem EvQ.bindR {r : Res D} {k : D → Sto → Res DT} {Q Q' : VK} (A : After g g1) (h : EvQ K w g Q (r.bind k))
    (f : ∀ x S' g' v, After g g' → After g1 g' → WF K w g' S' → Rep K w g' x v → EvQ K w g Q (k x S') → Q' v g'.H) : EvR K w g1 Q' r := by
  cases r with
  | ok x S' => exact fun g' v A' W' r' => f x S' g' v (A.trans A') A' W' r' h
  | exc _ _ _ => exact h
  | bad => exact h

/-! ### weakening -/
theorem _root_.L2.PE.wk {X : Cx} {e : Expr} {t t' : TE} (h : PE X e t) (f : ∀ σ H Q, t' σ H Q → t σ H Q) : PE X e t' := ⟨fun pins s σ H Q I q => h.run pins s σ H Q I (f σ H Q q)⟩
theorem _root_.L2.PA.wk {X : Cx} {e : List Expr} {t t' : TA} (h : PA X e t) (f : ∀ σ H Q, t' σ H Q → t σ H Q) : PA X e t' := ⟨fun pos pins s σ H Q I q => h.run pos pins s σ H Q I (f σ H Q q)⟩
theorem _root_.L2.PT.wk {X : Cx} {e : Expr} {t t' : TT} (h : PT X e t) (f : ∀ σ H Q, t' σ H Q → t σ H Q) : PT X e t' := ⟨fun pins s σ H Q I q => h.run pins s σ H Q I (f σ H Q q)⟩

/-! ### one form after another: what the evaluator's reading needs of the rule's -/
variable {Q : VK}
theorem i_scal {v : V} {d : D} (hv : ∀ g : Gh, Rep K w g d v) (h : tE K w c (.cst d) σ H Q) : tC v σ H Q := by
  obtain ⟨ρ, g, S, ⟨rfl, W, _⟩, h⟩ := h
  exact h g v (After.refl g) W (hv g)
theorem i_glb {x : Str} {v : V} {d : D} (hv : ∀ g : Gh, Rep K w g d v) (h : tE K w c (.glb x d) σ H Q) : tC v σ H Q := by
  obtain ⟨ρ, g, S, ⟨rfl, W, _⟩, h⟩ := h
  exact h g v (After.refl g) W (hv g)
theorem i_var {i : Nat} (h : tE K w c (.var i) σ H Q) : tVar i σ H Q := by
  obtain ⟨ρ, g, S, ⟨rfl, W, ge, E⟩, h⟩ := h
  have h : EvQ K w g Q (match ρ[i]? with
    | some (.val d) => .ok (held d) S
    | some (.own d) => .ok (d, .b) S
    | _ => .bad) := by unfold ev at h; exact h
  cases e : ρ[i]? with
  | none => rw [e] at h; exact h.elim
  | some s =>
    have hl : i < σ.length := by rw [← E.len]; exact (List.getElem?_eq_some_iff.mp e).1
    have es : σ[i]? = some σ[i] := List.getElem?_eq_getElem hl
    have sr := E.at_ i s _ e es
    rw [e] at h
    cases s with
    | no => exact h.elim
    | val d =>
      obtain ⟨v, e1, r⟩ := sr
      exact ⟨v, by rw [es, e1], h g v (After.refl g) W r⟩
    | own d =>
      obtain ⟨a, e1, u, z⟩ := sr
      exact ⟨.ref a, by rw [es, e1], h g _ (After.refl g) W ⟨a, rfl, u⟩⟩
theorem i_op2 {a b : CE} {e : CE} {r : R2} {f : Sto → D → D → Option DT} (he : ∀ ρ S, ev c ρ e S = (ev c ρ a S).bind fun x s => (ev c ρ b s).bind fun y s => ofOpt (f s x.1 y.1) s)
    (hf : ∀ {g₀ g : Gh} {S : Sto} {x y z : DT} {v u : V} {Q : VK}, After g₀ g → WF K w g S → RepT K w g g₀ x v → RepT K w g g₀ y u → f S x.1 y.1 = some z → Fin K w g₀ g S z Q → r v u g.H Q)
    (h : tE K w c e σ H Q) : tOp r (tE K w c a) (tE K w c b) σ H Q := by
  obtain ⟨ρ, g, S, B, h⟩ := h
  rw [he] at h
  refine ⟨ρ, g, S, B, EvQ.bind (After.refl g) h fun x S1 g1 v A1 _ W1 r1 h1 => ?_⟩
  refine ⟨ρ, g1, S1, B.after A1 W1, EvQ.bind A1 h1 fun y S2 g2 u A2 A12 W2 r2 h2 => ?_⟩
  obtain ⟨z, hz, fin⟩ := h2.opt
  exact hf A2 W2 (r1.after A12 W1) r2 hz (fin g2 A2)
theorem op2_of {f : Sto → D → D → Option DT} {r : W.Frag → R2} (h : Op2 f r) : ∀ {g₀ g : Gh} {S : Sto} {x y z : DT} {v u : V} {Q : VK}, After g₀ g → WF K w g S → RepT K w g g₀ x v → RepT K w g g₀ y u → f S x.1 y.1 = some z → Fin K w g₀ g S z Q → r K v u g.H Q :=
  fun A W rx ry hz fin => h K w _ _ _ _ _ _ _ _ _ A W rx ry hz fin
theorem i_ite {t a b : CE} (h : tE K w c (.ite t a b) σ H Q) : tIf (tB (tE K w c t)) (tE K w c a) (tE K w c b) σ H Q := by
  obtain ⟨ρ, g, S, B, h⟩ := h
  unfold ev at h
  refine ⟨ρ, g, S, B, EvQ.bind (After.refl g) h fun x S1 g1 v A1 _ W1 r1 h1 => ?_⟩
  obtain ⟨dx, tx⟩ := x
  cases dx with
  | bl k =>
    cases rep_bl r1 rfl
    refine ⟨k, rfl, ?_⟩
    cases k with
    | true => exact ⟨ρ, g1, S1, B.after A1 W1, h1.of A1⟩
    | false => exact ⟨ρ, g1, S1, B.after A1 W1, h1.of A1⟩
  | _ => exact h1.elim
theorem i_not {a : CE} (h : tE K w c (.not a) σ H Q) : tE K w c a σ H fun x H1 => ∃ k, x = .bl k ∧ Q (.bl (!k)) H1 := by
  obtain ⟨ρ, g, S, B, h⟩ := h
  unfold ev at h
  refine ⟨ρ, g, S, B, EvQ.bind (After.refl g) h fun x S1 g1 v A1 _ W1 r1 h1 => ?_⟩
  obtain ⟨dx, tx⟩ := x
  cases dx with
  | bl k =>
    cases rep_bl r1 rfl
    exact ⟨k, rfl, h1 g1 _ A1 W1 (.bl _)⟩
  | _ => exact h1.elim
def tAndL (K : W.Frag) (w : World) (c : Calls) (es : List CE) : TE := fun σ H Q => ∃ ρ g S, Beg K w ρ g S σ H ∧ EvQ K w g Q (evAnd c ρ es S)
def tOrL (K : W.Frag) (w : World) (c : Calls) (es : List CE) : TE := fun σ H Q => ∃ ρ g S, Beg K w ρ g S σ H ∧ EvQ K w g Q (evOr c ρ es S)
theorem i_and1 {a : CE} (h : tAndL K w c [a] σ H Q) : tE K w c a σ H fun x H1 => ∃ k, x = .bl k ∧ Q x H1 := by
  obtain ⟨ρ, g, S, B, h⟩ := h
  unfold evAnd at h
  refine ⟨ρ, g, S, B, EvQ.bind (After.refl g) h fun x S1 g1 v A1 _ W1 r1 h1 => ?_⟩
  obtain ⟨dx, tx⟩ := x
  cases dx with
  | bl k =>
    cases rep_bl r1 rfl
    cases k with
    | true => exact ⟨true, rfl, h1 g1 _ A1 W1 (.bl _)⟩
    | false => exact ⟨false, rfl, h1 g1 _ A1 W1 (.bl _)⟩
  | _ => exact h1.elim
theorem i_and {a b : CE} {es : List CE} (h : tAndL K w c (a :: b :: es) σ H Q) : tE K w c a σ H fun x H1 => ∃ k, x = .bl k ∧ if k = true then tAndL K w c (b :: es) σ H1 Q else Q (.bl false) H1 := by
  obtain ⟨ρ, g, S, B, h⟩ := h
  unfold evAnd at h
  refine ⟨ρ, g, S, B, EvQ.bind (After.refl g) h fun x S1 g1 v A1 _ W1 r1 h1 => ?_⟩
  obtain ⟨dx, tx⟩ := x
  cases dx with
  | bl k =>
    cases rep_bl r1 rfl
    cases k with
    | true => exact ⟨true, rfl, by rw [if_pos rfl]; exact ⟨ρ, g1, S1, B.after A1 W1, EvQ.of A1 h1⟩⟩
    | false => exact ⟨false, rfl, by rw [if_neg (by decide)]; exact h1 g1 _ A1 W1 (.bl _)⟩
  | _ => exact h1.elim
theorem i_or1 {a : CE} (h : tOrL K w c [a] σ H Q) : tE K w c a σ H fun x H1 => ∃ k, x = .bl k ∧ Q x H1 := by
  obtain ⟨ρ, g, S, B, h⟩ := h
  unfold evOr at h
  refine ⟨ρ, g, S, B, EvQ.bind (After.refl g) h fun x S1 g1 v A1 _ W1 r1 h1 => ?_⟩
  obtain ⟨dx, tx⟩ := x
  cases dx with
  | bl k =>
    cases rep_bl r1 rfl
    cases k with
    | true => exact ⟨true, rfl, h1 g1 _ A1 W1 (.bl _)⟩
    | false => exact ⟨false, rfl, h1 g1 _ A1 W1 (.bl _)⟩
  | _ => exact h1.elim
theorem i_or {a b : CE} {es : List CE} (h : tOrL K w c (a :: b :: es) σ H Q) : tE K w c a σ H fun x H1 => ∃ k, x = .bl k ∧ if k = true then Q (.bl true) H1 else tOrL K w c (b :: es) σ H1 Q := by
  obtain ⟨ρ, g, S, B, h⟩ := h
  unfold evOr at h
  refine ⟨ρ, g, S, B, EvQ.bind (After.refl g) h fun x S1 g1 v A1 _ W1 r1 h1 => ?_⟩
  obtain ⟨dx, tx⟩ := x
  cases dx with
  | bl k =>
    cases rep_bl r1 rfl
    cases k with
    | true => exact ⟨true, rfl, by rw [if_pos rfl]; exact h1 g1 _ A1 W1 (.bl _)⟩
    | false => exact ⟨false, rfl, by rw [if_neg (by decide)]; exact ⟨ρ, g1, S1, B.after A1 W1, EvQ.of A1 h1⟩⟩
  | _ => exact h1.elim
theorem i_nil {Q : List V → Hp → Prop} (h : tA K w c [] σ H Q) : tNil σ H Q := by
  obtain ⟨ρ, g, S, ⟨rfl, W, _⟩, h⟩ := h
  exact h g [] (After.refl g) W .nil
theorem i_cons {a : CE} {es : List CE} {Q : List V → Hp → Prop} (h : tA K w c (a :: es) σ H Q) : tCons (tE K w c a) (tA K w c es) σ H Q := by
  obtain ⟨ρ, g, S, B, h⟩ := h
  unfold evs at h
  refine ⟨ρ, g, S, B, EvQs.bindE (After.refl g) h fun x S1 g1 v A1 _ W1 r1 h1 => ?_⟩
  cases he : esc x with
  | none => rw [he] at h1; exact h1.elim
  | some d =>
    rw [he] at h1
    have h1 : EvQs K w g Q ((evs c ρ es S1).bind fun ds s => .ok (d :: ds) s) := h1
    obtain ⟨g2, e2, A2, M2, W2, r2⟩ := esc_hold A1 W1 r1 he
    rw [← e2]
    refine ⟨ρ, g2, S1, B.after A2 W2, EvQs.bind A2 h1 fun ds S3 g3 vs A3 A23 W3 r3 h3 => ?_⟩
    exact h3 g3 (v :: vs) A3 W3 (.cons (r2.mono (A23.mono W2)) r3)
theorem io_nil {Q : List V → Hp → Prop} (h : tAo K w c [] σ H Q) : tNil σ H Q := by
  obtain ⟨ρ, g, S, ⟨rfl, W, _⟩, h⟩ := h
  exact h g [] (After.refl g) W .nil
theorem io_cons {a : CE} {es : List CE} {Q : List V → Hp → Prop} (h : tAo K w c (a :: es) σ H Q) : tCons (tE K w c a) (tAo K w c es) σ H Q := by
  obtain ⟨ρ, g, S, B, h⟩ := h
  unfold evo at h
  refine ⟨ρ, g, S, B, EvQo.bindE (After.refl g) h fun x S1 g1 v A1 _ W1 r1 h1 => ?_⟩
  refine ⟨ρ, g1, S1, B.after A1 W1, EvQo.bind A1 h1 fun ds S3 g3 vs A3 A23 W3 r3 h3 => ?_⟩
  exact h3 g3 (v :: vs) A3 W3 (.cons ⟨x.2, r1.after A23 W1⟩ r3)
theorem i_tup {es : List CE} (hl : es.length ≤ 1000) (h : tE K w c (.tup es) σ H Q) : tTup (tA K w c es) σ H Q := by
  obtain ⟨ρ, g, S, B, h⟩ := h
  unfold ev at h
  have hlen : ∀ (es : List CE) (S : Sto) ds S', evs c ρ es S = .ok ds S' → ds.length = es.length := fun es => by
    induction es with
    | nil => intro S ds S' e; unfold evs at e; cases e; rfl
    | cons a es ih =>
      intro S ds S' e
      unfold evs at e
      cases e1 : ev c ρ a S with
      | ok x S1 =>
        rw [e1] at e
        cases e2 : esc x with
        | none => rw [Res.bind_ok, e2] at e; cases e
        | some d =>
          rw [Res.bind_ok, e2, ofOpt_some, Res.bind_ok] at e
          cases e3 : evs c ρ es S1 with
          | ok ys S2 =>
            rw [e3] at e
            cases e
            rw [List.length_cons, ih _ _ _ e3, List.length_cons]
          | exc _ _ _ => rw [e3] at e; cases e
          | bad => rw [e3] at e; cases e
      | exc _ _ _ => rw [e1] at e; cases e
      | bad => rw [e1] at e; cases e
  refine ⟨ρ, g, S, B, ?_⟩
  cases e1 : evs c ρ es S with
  | ok ds S1 =>
    rw [e1] at h
    intro g1 vs A1 W1 r1
    have := hlen es S ds S1 e1
    refine ⟨?_, ?_⟩
    · rw [lineN, ← r1.length]; omega
    · have fin : Fin K w g g1 S1 (held (.tup ds)) Q := fun g' v A' _ W' r' => h g' v A' W' r'
      exact fin.tup A1 W1 r1
  | exc _ _ _ => rw [e1] at h; exact h
  | bad => rw [e1] at h; exact h
theorem i_lst {es : List CE} (hl : es.length ≤ 1000) (h : tE K w c (.lst es) σ H Q) : tLst (tA K w c es) σ H Q := by
  obtain ⟨ρ, g, S, B, h⟩ := h
  unfold ev at h
  have hlen : ∀ (es : List CE) (S : Sto) ds S', evs c ρ es S = .ok ds S' → ds.length = es.length := fun es => by
    induction es with
    | nil => intro S ds S' e; unfold evs at e; cases e; rfl
    | cons a es ih =>
      intro S ds S' e
      unfold evs at e
      cases e1 : ev c ρ a S with
      | ok x S1 =>
        rw [e1] at e
        cases e2 : esc x with
        | none => rw [Res.bind_ok, e2] at e; cases e
        | some d =>
          rw [Res.bind_ok, e2, ofOpt_some, Res.bind_ok] at e
          cases e3 : evs c ρ es S1 with
          | ok ys S2 =>
            rw [e3] at e
            cases e
            rw [List.length_cons, ih _ _ _ e3, List.length_cons]
          | exc _ _ _ => rw [e3] at e; cases e
          | bad => rw [e3] at e; cases e
      | exc _ _ _ => rw [e1] at e; cases e
      | bad => rw [e1] at e; cases e
  refine ⟨ρ, g, S, B, ?_⟩
  cases e1 : evs c ρ es S with
  | ok ds S1 =>
    rw [e1] at h
    intro g1 vs A1 W1 r1
    have := hlen es S ds S1 e1
    refine ⟨?_, ?_⟩
    · rw [lineN, ← r1.length]; omega
    · have fin : Fin K w g g1 S1 (fresh (.lst ds)) Q := fun g' v A' _ W' r' => h g' v A' W' r'
      exact fin.lst A1 W1 r1
  | exc _ _ _ => rw [e1] at h; exact h
  | bad => rw [e1] at h; exact h
/-- into the store -/
theorem i_new {e : CE} (h : tE K w c (.new e) σ H Q) : tE K w c e σ H Q := by
  obtain ⟨ρ, g, S, B, h⟩ := h
  unfold ev at h
  refine ⟨ρ, g, S, B, EvQ.bind (After.refl g) h fun x S1 g1 v A1 _ W1 r1 h1 => ?_⟩
  have gen : ∀ (d : D) (o : SO), x = (d, .n) → EvQ K w g Q (.ok (held (.ref S1.length)) (S1 ++ [(0, o)])) → (∀ a, Unf K w g1 d a → ObjAt K w g1 a o) → Q v g1.H := fun d o ex hz hob => by
    subst ex
    obtain ⟨a, rfl, u, z⟩ := r1
    have A2 : After g (g1.put a) := After.put z A1
    have W2 : WF K w (g1.put a) (S1 ++ [(0, o)]) := W1.put u.2.1 u.1 (hob a u)
    have r2 : Rep K w (g1.put a) (.ref S1.length) (.ref a) := by
      have := Rep.ref (K := K) (w := w) (g := g1.put a) (n := S1.length) (by show S1.length < g1.L + 1; rw [W1.len]; omega)
      have e : (g1.put a).mu S1.length = a := by
        show (if S1.length = g1.L then a else _) = a
        rw [if_pos W1.len.symm]
      rw [e] at this
      exact this
    exact hz (g1.put a) _ A2 W2 r2
  obtain ⟨dx, tx⟩ := x
  cases dx with
  | lst xs =>
    cases tx with
    | n => exact gen _ (.lst xs) rfl h1 fun a u => u.2.2
    | _ => exact h1.elim
  | dic ks vs =>
    cases tx with
    | n => exact gen _ (.dic ks vs) rfl h1 fun a u => u.2.2
    | _ => exact h1.elim
  | _ => exact h1.elim
theorem i_cal {f : Nat} {es : List CE} (h : tE K w c (.cal f es) σ H Q) : tA K w c es σ H fun vs H1 => ∃ g S ds, g.H = H1 ∧ WF K w g S ∧ Reps K w g ds vs ∧ EvR K w g Q (c f ds S) := by
  obtain ⟨ρ, g, S, B, h⟩ := h
  unfold ev at h
  refine ⟨ρ, g, S, B, EvQ.bindS (After.refl g) h fun ds S1 g1 vs A1 _ W1 r1 h1 => ?_⟩
  refine ⟨g1, S1, ds, rfl, W1, r1, EvQ.bindR A1 h1 fun d S2 g2 v A2 A12 W2 r2 h2 => ?_⟩
  exact h2 g2 v A2 W2 r2
theorem i_blt {f : BF} {es : List CE} {r : List V → Hp → VK → Prop}
    (hf : ∀ {g₀ g : Gh} {S : Sto} {ds : List D} {z : DT} {vs : List V} {Q : VK}, After g₀ g → WF K w g S → RepAs K w g g₀ ds vs → bltF S f ds = some z → Fin K w g₀ g S z Q → r vs g.H Q)
    (h : tE K w c (.blt f es) σ H Q) : tCB r (tAo K w c es) σ H Q := by
  obtain ⟨ρ, g, S, B, h⟩ := h
  unfold ev at h
  refine ⟨ρ, g, S, B, EvQ.bindO (After.refl g) h fun ds S1 g1 vs A1 _ W1 r1 h1 => ?_⟩
  obtain ⟨z, hz, fin⟩ := h1.opt
  exact hf A1 W1 r1 hz (fin g1 A1)
theorem i_chn {o p : CO} {a b e : CE} {r r' : R2}
    (hr : ∀ {g₀ g : Gh} {S : Sto} {x y : DT} {k : Bool} {v u : V} {Q : VK}, After g₀ g → WF K w g S → RepT K w g g₀ x v → RepT K w g g₀ y u → cmpF S o x.1 y.1 = some k → Q (.bl k) g.H → r v u g.H Q)
    (hr' : ∀ {g₀ g : Gh} {S : Sto} {x y : DT} {k : Bool} {v u : V} {Q : VK}, After g₀ g → WF K w g S → RepT K w g g₀ x v → RepT K w g g₀ y u → cmpF S p x.1 y.1 = some k → Q (.bl k) g.H → r' v u g.H Q)
    (h : tE K w c (.chn o p a b e) σ H Q) : tChain r r' (tE K w c a) (tE K w c b) (tE K w c e) σ H Q := by
  obtain ⟨ρ, g, S, B, h⟩ := h
  unfold ev at h
  refine ⟨ρ, g, S, B, EvQ.bind (After.refl g) h fun x S1 g1 v A1 _ W1 r1 h1 => ?_⟩
  refine ⟨ρ, g1, S1, B.after A1 W1, EvQ.bind A1 h1 fun y S2 g2 u A2 A12 W2 r2 h2 => ?_⟩
  cases hk : cmpF S2 o x.1 y.1 with
  | none => rw [hk] at h2; exact h2.elim
  | some k =>
    refine hr A2 W2 (r1.after A12 W1) r2 hk ⟨k, rfl, ?_⟩
    rw [hk] at h2
    cases k with
    | false => rw [if_neg (by decide)]; exact h2 g2 _ A2 W2 (.bl _)
    | true =>
      rw [if_pos rfl]
      refine ⟨ρ, g2, S2, B.after A2 W2, EvQ.bind A2 h2 fun q S3 g3 t A3 A23 W3 r3 h3 => ?_⟩
      cases hk' : cmpF S3 p y.1 q.1 with
      | none => rw [hk'] at h3; exact h3.elim
      | some k' =>
        rw [hk'] at h3
        exact hr' A3 W3 (r2.after A23 W2) r3 hk' (h3 g3 _ A3 W3 (.bl _))
theorem i_cmp {o : CO} {a b : CE} {r : R2}
    (hr : ∀ {g₀ g : Gh} {S : Sto} {x y : DT} {k : Bool} {v u : V} {Q : VK}, After g₀ g → WF K w g S → RepT K w g g₀ x v → RepT K w g g₀ y u → cmpF S o x.1 y.1 = some k → Q (.bl k) g.H → r v u g.H Q)
    (h : tE K w c (.cmp o a b) σ H Q) : tOp r (tE K w c a) (tE K w c b) σ H Q := by
  obtain ⟨ρ, g, S, B, h⟩ := h
  unfold ev at h
  refine ⟨ρ, g, S, B, EvQ.bind (After.refl g) h fun x S1 g1 v A1 _ W1 r1 h1 => ?_⟩
  refine ⟨ρ, g1, S1, B.after A1 W1, EvQ.bind A1 h1 fun y S2 g2 u A2 A12 W2 r2 h2 => ?_⟩
  cases hk : cmpF S2 o x.1 y.1 with
  | none => rw [hk] at h2; exact h2.elim
  | some k =>
    rw [hk] at h2
    exact hr A2 W2 (r1.after A12 W1) r2 hk (h2 g2 _ A2 W2 (.bl _))
/-- slices -/
theorem asInt_inv {d : D} {i : Int} (h : asInt d = some i) : d = .int i := by
  cases d with
  | int j => cases h; rfl
  | _ => cases h
theorem i_sli {a lo hi : CE} (h : tE K w c (.sli a lo hi) σ H Q) : tSl (rSlAll K) (tE K w c a) (tPart (tE K w c lo)) (tPart (tE K w c hi)) σ H Q := by
  obtain ⟨ρ, g, S, B, h⟩ := h
  unfold ev at h
  refine ⟨ρ, g, S, B, EvQ.bind (After.refl g) h fun x S1 g1 v A1 _ W1 r1 h1 => ?_⟩
  refine ⟨ρ, g1, S1, B.after A1 W1, EvQ.bind A1 h1 fun y S2 g2 u A2 A12 W2 r2 h2 => ?_⟩
  cases hl : asInt y.1 with
  | none =>
    exfalso
    have := h2
    cases hv : ev c ρ hi S2 with
    | ok q S3 => rw [hv, Res.bind_ok, hl] at this; exact this
    | exc _ _ _ => rw [hv] at this; exact this
    | bad => rw [hv] at this; exact this
  | some l =>
    cases rep_int r2 (asInt_inv hl)
    refine ⟨l, rfl, ρ, g2, S2, B.after A2 W2, EvQ.bind A2 h2 fun q S3 g3 t A3 A23 W3 r3 h3 => ?_⟩
    cases hh : asInt q.1 with
    | none => rw [hl, hh] at h3; exact h3.elim
    | some m =>
      cases rep_int r3 (asInt_inv hh)
      rw [hl, hh] at h3
      obtain ⟨z, hz, fin⟩ := EvQ.opt h3
      exact ⟨m, rfl, sl_core A3 W3 ((r1.after A12 W1).after A23 W2) hz (fin g3 A3)⟩
theorem i_sliL {a lo : CE} (h : tE K w c (.sliL a lo) σ H Q) : tSl (rSlAll K) (tE K w c a) (tPart (tE K w c lo)) tNoPart σ H Q := by
  obtain ⟨ρ, g, S, B, h⟩ := h
  unfold ev at h
  refine ⟨ρ, g, S, B, EvQ.bind (After.refl g) h fun x S1 g1 v A1 _ W1 r1 h1 => ?_⟩
  refine ⟨ρ, g1, S1, B.after A1 W1, EvQ.bind A1 h1 fun y S2 g2 u A2 A12 W2 r2 h2 => ?_⟩
  cases hl : asInt y.1 with
  | none => rw [hl] at h2; exact h2.elim
  | some l =>
    cases rep_int r2 (asInt_inv hl)
    rw [hl] at h2
    obtain ⟨z, hz, fin⟩ := EvQ.opt h2
    exact ⟨l, rfl, sl_core A2 W2 (r1.after A12 W1) hz (fin g2 A2)⟩
theorem i_sliH {a hi : CE} (h : tE K w c (.sliH a hi) σ H Q) : tSl (rSlAll K) (tE K w c a) tNoPart (tPart (tE K w c hi)) σ H Q := by
  obtain ⟨ρ, g, S, B, h⟩ := h
  unfold ev at h
  refine ⟨ρ, g, S, B, EvQ.bind (After.refl g) h fun x S1 g1 v A1 _ W1 r1 h1 => ?_⟩
  refine ⟨ρ, g1, S1, B.after A1 W1, EvQ.bind A1 h1 fun y S2 g2 u A2 A12 W2 r2 h2 => ?_⟩
  cases hl : asInt y.1 with
  | none => rw [hl] at h2; exact h2.elim
  | some l =>
    cases rep_int r2 (asInt_inv hl)
    rw [hl] at h2
    obtain ⟨z, hz, fin⟩ := EvQ.opt h2
    exact ⟨l, rfl, sl_core A2 W2 (r1.after A12 W1) hz (fin g2 A2)⟩
end
theorem tE_mono {K : W.Frag} {w : World} {ce : CE} {σ : L2.St} {H : Hp} {Q Q' : VK} (h : tE K w c ce σ H Q) (f : ∀ v H, Q v H → Q' v H) : tE K w c ce σ H Q' := by
  obtain ⟨ρ, g, S, B, h⟩ := h
  refine ⟨ρ, g, S, B, ?_⟩
  cases e : ev c ρ ce S with
  | ok x S' => rw [e] at h; exact fun g' v A W r => f _ _ (h g' v A W r)
  | exc _ _ _ => rw [e] at h; exact h
  | bad => rw [e] at h; exact h
end Mp
set_option Elab.async false
set_option linter.all false
set_option maxRecDepth 100000
set_option maxHeartbeats 4000000
/-! what loops walk -/
namespace Mp
open PySem PySem.Spec PyProof.Rows L2

/-- the entries of a dict -/
def EsIs (K : W.Frag) (H : Hp) (d : Addr) (es : Array DictEntry) (ep : Nat) : Prop := H d = some (dcO d es ep) ∨ KDc K d es ep
theorem EsIs.raw {X : Cx} {pins : List (Addr × Obj)} {σ : L2.St} {H : Hp} {s : Shared} {d : Addr} {es : Array DictEntry} {ep : Nat} (I : Inv X pins σ H s) (h : EsIs X.K H d es ep) : s.heap.DictRaw d es ep := by
  rcases h with h | ⟨o, h1, h2, h3⟩
  · exact (I.hok d _ h).1
  · exact ⟨o, I.kIn d o h1, h2, h3⟩
def Jk (K : W.Frag) (d : Addr) (es : Array DictEntry) (ep : Nat) (kvs : List V) : It :=
  ⟨fun i H => EsIs K H d es ep ∧ i < es.size, fun i H x H' => H' = H ∧ kvs[i]? = some x, fun i H => EsIs K H d es ep ∧ es.size ≤ i⟩
def Jv (K : W.Frag) (d : Addr) (es : Array DictEntry) (ep : Nat) (vvs : List V) : It :=
  ⟨fun i H => EsIs K H d es ep ∧ i < es.size, fun i H x H' => H' = H ∧ vvs[i]? = some x, fun i H => EsIs K H d es ep ∧ es.size ≤ i⟩
def Ji (K : W.Frag) (d : Addr) (es : Array DictEntry) (ep : Nat) (kvs vvs : List V) : It :=
  ⟨fun i H => EsIs K H d es ep ∧ i < es.size, fun i H x H' => ∃ T k v, kvs[i]? = some k ∧ vvs[i]? = some v ∧ x = .ref T ∧ H T = none ∧ H' = upd H T (.tup [k, v]), fun i H => EsIs K H d es ep ∧ es.size ≤ i⟩
theorem vals_at {vs : List V} {f : DictEntry → Value} {es : Array DictEntry} (h : Vals vs (es.toList.map f)) {i : Nat} (hi : i < es.size) : ∃ v, vs[i]? = some v ∧ RelV v (f es[i]) := by
  have hl : vs.length = es.size := by rw [h.length]; simp
  have hv : vs[i]? = some vs[i] := List.getElem?_eq_getElem (by omega)
  obtain ⟨u, e, r⟩ := h.get hv
  refine ⟨_, hv, ?_⟩
  have : (es.toList.map f)[i]? = some (f es[i]) := by simp [hi]
  rw [this] at e
  cases e
  exact r
section
variable {P : Program} {w : World} {K : W.Frag} {tg : Expr} {d : Addr} {es : Array DictEntry} {ep : Nat} {kvs vvs : List V}
theorem turn_k (it : Addr) (hk : Vals kvs (es.toList.map (·.key))) : Turn P w K tg (Jk K d es ep kvs) [it] it (fun i h => h.IsKeyIter it d i es.size ep) where
  mem := by simp
  obj := fun i h st b hb => by
    have e : b = it := by simpa using hb
    subst e
    obtain ⟨oi, e, c, dd⟩ := st
    exact ⟨oi, e, fun v z => by rw [dd] at z; cases z⟩
  keep := fun i h h' st k => st.at fun oi e => k it (by simp) oi e
  item := by
    intro X hP hw hK hc i pins s σ H E I hf st hg
    subst hP hw hK
    obtain ⟨hd, hi⟩ := hg
    obtain ⟨f0, f1, f2, f3, f4, f5⟩ := hf it (by simp)
    obtain ⟨v, hv, rv⟩ := vals_at hk hi
    refine wpAny_pyNext_keys_item_raw st (hd.raw I) hi fun h' st' sb => ?_
    have I1 : Inv X pins σ H { s with heap := h' } := I.turned (t' := s.toks) (fun b ob hb e => (sb.2 b hb).trans e) f0 f1 f3 f4 f5
    obtain ⟨oi, e, c, dd⟩ := id st'
    exact ⟨es[i].key, rfl, go_of (s := { s with heap := h' }) e c dd (by decide) ⟨v, H, I1, rv, ⟨rfl, hv⟩, st', fun b hb => (hf b hb).1⟩⟩
  done := by
    intro X hP hw hK hc i pins s σ H E I hf st hg
    subst hP hw hK
    obtain ⟨hd, hi⟩ := hg
    obtain ⟨f0, f1, f2, f3, f4, f5⟩ := hf it (by simp)
    exact wpAny_pyNext_keys_end_raw (I.ok.hd hc) st (hd.raw I) hi fun h' eb => ⟨rfl, I.turned (t' := s.toks) (fun b ob hb e => eb b ob hb e) f0 f1 f3 f4 f5⟩
  self := fun A i s Q E st h => wpAny_pyIter_keyiter st h
theorem turn_v (it : Addr) (hk : Vals vvs (es.toList.map (·.val))) : Turn P w K tg (Jv K d es ep vvs) [it] it (fun i h => h.IsValIter it d i es.size ep) where
  mem := by simp
  obj := fun i h st b hb => by
    have e : b = it := by simpa using hb
    subst e
    obtain ⟨oi, e, c, dd⟩ := st
    exact ⟨oi, e, fun v z => by rw [dd] at z; cases z⟩
  keep := fun i h h' st k => st.at fun oi e => k it (by simp) oi e
  item := by
    intro X hP hw hK hc i pins s σ H E I hf st hg
    subst hP hw hK
    obtain ⟨hd, hi⟩ := hg
    obtain ⟨f0, f1, f2, f3, f4, f5⟩ := hf it (by simp)
    obtain ⟨v, hv, rv⟩ := vals_at hk hi
    refine wpAny_pyNext_values_item_raw st (hd.raw I) hi fun h' st' sb => ?_
    have I1 : Inv X pins σ H { s with heap := h' } := I.turned (t' := s.toks) (fun b ob hb e => (sb.2 b hb).trans e) f0 f1 f3 f4 f5
    obtain ⟨oi, e, c, dd⟩ := id st'
    exact ⟨es[i].val, rfl, go_of (s := { s with heap := h' }) e c dd (by decide) ⟨v, H, I1, rv, ⟨rfl, hv⟩, st', fun b hb => (hf b hb).1⟩⟩
  done := by
    intro X hP hw hK hc i pins s σ H E I hf st hg
    subst hP hw hK
    obtain ⟨hd, hi⟩ := hg
    obtain ⟨f0, f1, f2, f3, f4, f5⟩ := hf it (by simp)
    exact wpAny_pyNext_values_end_raw (I.ok.hd hc) st (hd.raw I) hi fun h' eb => ⟨rfl, I.turned (t' := s.toks) (fun b ob hb e => eb b ob hb e) f0 f1 f3 f4 f5⟩
  self := fun A i s Q E st h => wpAny_pyIter_valiter st h
theorem turn_i {elts : List Expr} {kk : Nat} {tpos : Pos} (it : Addr) (hk : Vals kvs (es.toList.map (·.key))) (hv : Vals vvs (es.toList.map (·.val))) :
    Turn P w K (.Tuple elts kk tpos) (Ji K d es ep kvs vvs) [it] it (fun i h => ∃ ok ov, IsItemIter h it d i es.size ep ok ov) where
  mem := by simp
  obj := fun i h st b hb => by
    have e : b = it := by simpa using hb
    subst e
    obtain ⟨ok, ov, e⟩ := st
    exact ⟨_, e, fun v z => nomatch z⟩
  keep := fun i h h' st k => let ⟨ok, ov, e⟩ := st; ⟨ok, ov, k it (by simp) _ e⟩
  item := by
    intro X hP hw hK hc i pins s σ H E I hf st hg
    subst hP hw hK
    obtain ⟨hd, hi⟩ := hg
    obtain ⟨k, hkk, rk⟩ := vals_at hk hi
    obtain ⟨v, hvv, rv⟩ := vals_at hv hi
    obtain ⟨ok, ov, he⟩ := st
    have hlt : it < s.heap.objs.size := Heap.lt_size he
    refine wpAny_pyNext_items_item_raw he (hd.raw I) hi fun h' ho hT hz hk => ?_
    refine ⟨_, rfl, wpAny_letOwnedTupleGo_items (s := { s with heap := h' }) ho fun h'' he' sb => ?_⟩
    have hT2 : h''.get? s.heap.objs.size = some { cls := .type "tuple", data := .seq #[es[i].key, es[i].val] } := (sb.2 _ (Nat.ne_of_gt hlt)).trans hT
    have new : ObjOk X.prog X.w (upd H s.heap.objs.size (.tup [k, v])) h'' s.heap.objs.size (.tup [k, v]) :=
      ⟨by show 2 ≤ sizeLine; decide, [es[i].key, es[i].val], .cons rk (.cons rv .nil), ⟨_, hT2, rfl, _, rfl⟩⟩
    have I1 : Inv X pins σ (upd H s.heap.objs.size (.tup [k, v])) { s with heap := h'' } :=
      I.turnedNew (t' := s.toks) (ch := [it]) (fun b ob hb e => (sb.2 b (by simpa using hb)).trans (hk b ob (by simpa using hb) e)) hf (Nat.le_refl _) new
    refine ⟨.ref s.heap.objs.size, _, I1, rfl, ⟨_, k, v, hkk, hvv, rfl, I.hok.fresh (Nat.le_refl _), rfl⟩, ⟨_, _, he'⟩, fun b hb => ?_⟩
    have e : b = it := by simpa using hb
    rw [e, upd_ne (Nat.ne_of_lt hlt)]
    exact (hf it (by simp)).1
  done := by
    intro X hP hw hK hc i pins s σ H E I hf st hg
    subst hP hw hK
    obtain ⟨hd, hi⟩ := hg
    obtain ⟨f0, f1, f2, f3, f4, f5⟩ := hf it (by simp)
    obtain ⟨ok, ov, he⟩ := st
    exact wpAny_pyNext_items_end_raw (I.ok.hd hc) he (hd.raw I) hi fun h' eb => ⟨rfl, I.turned (t' := s.toks) (fun b ob hb e => eb b ob hb e) f0 f1 f3 f4 f5⟩
  self := fun A i s Q E st h => let ⟨_, _, e⟩ := st; PySem.W.kcp_self e h
end

section
variable {X : Cx} {tg e : Expr} {te : TE} {apos cpos : Pos}
/-- a dict's entries and the values that stand for them -/
def Ents (K : W.Frag) (H : Hp) (d : Addr) (es : Array DictEntry) (ep : Nat) (kvs vvs : List V) : Prop :=
  EsIs K H d es ep ∧ Vals kvs (es.toList.map (·.key)) ∧ Vals vvs (es.toList.map (·.val)) ∧ (d == sysModules) = false
/-- over a list, a tuple, a text, a dict's keys -/
def iAny (K : W.Frag) (te : TE) : TI := fun σ H R => te σ H fun x H1 =>
  (∃ a xs, x = .ref a ∧ SqL K H1 a xs ∧ R (Itl K a) H1) ∨ (∃ a xs, x = .ref a ∧ SqT K H1 a xs ∧ R (Itt K a) H1) ∨ (∃ z, x = .str z ∧ R (L2.Its z) H1) ∨
  (∃ d es ep kvs vvs, x = .ref d ∧ Ents K H1 d es ep kvs vvs ∧ R (Jk K d es ep kvs) H1)
theorem pi_any (he : PE X e te) : PI X tg e (iAny X.K te) := by
  refine ⟨fun pins s σ H R I h => ?_⟩
  refine thn (he.run pins s σ H _ I h) fun v s1 ⟨x, H1, I1, r1, q1⟩ => ?_
  rcases q1 with ⟨a, xs, rfl, hq, q⟩ | ⟨a, xs, rfl, hq, q⟩ | ⟨z, rfl, q⟩ | ⟨d, es, ep, kvs, vvs, rfl, ⟨hq, k1, k2, hs⟩, q⟩
  · cases r1
    obtain ⟨its, rv, p, hz⟩ := I1.list hq
    refine wpAny_pyIter_list p.isList ?_
    exact pi_one (tk := s1.toks) I1 _ (turn_list a _) ⟨_, Heap.get?_push_size _ rfl, rfl, rfl⟩ q
  · cases r1
    obtain ⟨its, rv, p, hz⟩ := I1.tuple hq
    refine wpAny_pyIter_tuple (show s1.heap.IsTuple a its.toArray from p) ?_
    exact pi_one (tk := s1.toks) I1 _ (turn_tuple a _) ⟨_, Heap.get?_push_size _ rfl, rfl, rfl⟩ q
  · obtain ⟨t, rfl⟩ := r1
    cases ha : z.cps.all (· < 128)
    · exact wpAny_pyIter_wide ha (pi_one (tk := s1.toks) I1 _ (turn_str _ z t "str_iterator" (.inr rfl)) ⟨_, Heap.get?_push_size _ rfl, rfl, rfl⟩ q)
    · exact wpAny_pyIter_ascii ha (pi_one (tk := s1.toks) I1 _ (turn_str _ z t "str_ascii_iterator" (.inl rfl)) ⟨_, Heap.get?_push_size _ rfl, rfl, rfl⟩ q)
  · cases r1
    exact wpAny_pyIter_dict_raw hs (hq.raw I1) (pi_one (tk := s1.toks) I1 _ (turn_k _ k1) ⟨_, Heap.get?_push_size _ rfl, rfl, rfl⟩ q)
def iValsD (K : W.Frag) (te : TE) : TI := fun σ H R => te σ H fun x H1 => ∃ d es ep kvs vvs, x = .ref d ∧ Ents K H1 d es ep kvs vvs ∧ R (Jv K d es ep vvs) H1
def iItemsD (K : W.Frag) (te : TE) : TI := fun σ H R => te σ H fun x H1 => ∃ d es ep kvs vvs, x = .ref d ∧ Ents K H1 d es ep kvs vvs ∧ R (Ji K d es ep kvs vvs) H1
theorem raw_nodict {h : Heap} {d : Addr} {es : Array DictEntry} {ep : Nat} (x : h.DictRaw d es ep) : ∀ a, Value.ref d = .ref a → ∃ ob, h.get? a = some ob ∧ ob.dict = none := fun a q => by
  cases q
  obtain ⟨o, h1, h2, _⟩ := x
  exact ⟨o, h1, h2.2.1⟩
theorem pi_valsD (he : PE X e te) (hbase : attributeBase e "values" X.env (eval e X.env) = eval e X.env) (hline : (apos.endLine == cpos.line) = true) : PI X tg (.Call (.Attribute e "values" apos) [] [] cpos) (iValsD X.K te) := by
  refine ⟨fun pins s σ H R I h => ?_⟩
  refine wpAny_Call_method (T := "dict") (id := "dict.values") hbase rfl hline F.plainAttrs_dict F.slot_dict_values F.type_dict_values (thn (he.run pins s σ H _ I h) fun u s1 ⟨x, H1, I1, rx, d, es, ep, kvs, vvs, ex, ⟨hq, k1, k2, hs⟩, q⟩ => ?_)
  subst ex
  obtain rfl : u = Value.ref d := rx
  have hm := hq.raw I1
  refine ⟨hm.typeIs, raw_nodict hm, ?_⟩
  have I2 : Inv X pins σ H1 { s1 with heap := s1.heap.push { cls := .type "dict_values", data := .fields #[.ref d] } } := I1.kept (t' := s1.toks) fun b ob q => Heap.get?_push_of_some _ q
  have fin : wpAny (model X.prog X.w) X.A (pyIter (.ref s1.heap.objs.size)) (PIE X pins σ tg R) X.xe { s1 with heap := s1.heap.push { cls := .type "dict_values", data := .fields #[.ref d] } } := by
    exact wpAny_pyIter_values_raw (d := d) ⟨_, Heap.get?_push_size _ rfl, rfl, rfl⟩ (hm.at fun o e => Heap.get?_push_of_some _ e) (pi_one (tk := s1.toks) I2 _ (turn_v _ k2) ⟨_, Heap.get?_push_size _ rfl, rfl, rfl⟩ q)
  show wpAny _ _ (callWith cpos (.builtin "dict.values") [.ref d] [] []) _ X.xe s1
  exact method_meetsIn F.slot_dict_values F.entry_dict_values rfl (PySem.evalArgs_none ⟨rfl, hm.typeIs, F.args_dict_values_1 _, _, meets_dict_values_raw d hs, ⟨es, ep, hm⟩, fin⟩)
theorem pi_itemsD {elts : List Expr} {kk : Nat} {tpos : Pos} (he : PE X e te) (hbase : attributeBase e "items" X.env (eval e X.env) = eval e X.env) (hline : (apos.endLine == cpos.line) = true) :
    PI X (.Tuple elts kk tpos) (.Call (.Attribute e "items" apos) [] [] cpos) (iItemsD X.K te) := by
  refine ⟨fun pins s σ H R I h => ?_⟩
  refine wpAny_Call_method (T := "dict") (id := "dict.items") hbase rfl hline F.plainAttrs_dict F.slot_dict_items F.type_dict_items (thn (he.run pins s σ H _ I h) fun u s1 ⟨x, H1, I1, rx, d, es, ep, kvs, vvs, ex, ⟨hq, k1, k2, hs⟩, q⟩ => ?_)
  subst ex
  obtain rfl : u = Value.ref d := rx
  have hm := hq.raw I1
  refine ⟨hm.typeIs, raw_nodict hm, ?_⟩
  have I2 : Inv X pins σ H1 { s1 with heap := s1.heap.push { cls := .type "dict_items", data := .fields #[.ref d] } } := I1.kept (t' := s1.toks) fun b ob q => Heap.get?_push_of_some _ q
  have fin : wpAny (model X.prog X.w) X.A (pyIter (.ref s1.heap.objs.size)) (PIE X pins σ (.Tuple elts kk tpos) R) X.xe { s1 with heap := s1.heap.push { cls := .type "dict_items", data := .fields #[.ref d] } } := by
    exact wpAny_pyIter_items_raw (d := d) ⟨_, Heap.get?_push_size _ rfl, rfl, rfl⟩ (hm.at fun o e => Heap.get?_push_of_some _ e) (pi_one (tk := s1.toks) I2 _ (turn_i _ k1 k2) ⟨.none, .none, Heap.get?_push_size _ rfl⟩ q)
  show wpAny _ _ (callWith cpos (.builtin "dict.items") [.ref d] [] []) _ X.xe s1
  exact method_meetsIn F.slot_dict_items F.entry_dict_items rfl (PySem.evalArgs_none ⟨rfl, hm.typeIs, F.args_dict_items_1 _, _, meets_dict_items_raw d hs, ⟨es, ep, hm⟩, fin⟩)
end

/-! ### what is walked, by the evaluator -/
/-- J walks its.xs, as long as the source stands still -/
def Walk (K : W.Frag) (w : World) (g1 : Gh) (its : Its) (J : It) : Prop :=
  ∀ (o : Bool) (g : Gh) (S : Sto), Mono g1 g → (o = true → After g1 g) → WF K w g S → its.src.still o S = true → ∀ i,
    (∀ d, its.xs[i]? = some d → J.go i g.H ∧ ∀ x H', J.yld i g.H x H' → ∃ g', g'.H = H' ∧ After g g' ∧ WF K w g' S ∧ Rep K w g' d x) ∧ (i = its.xs.length → J.stop i g.H)
def EvI (K : W.Frag) (w : World) (g : Gh) (R : It → Hp → Prop) : Res Its → Prop
  | .ok its S => ∀ g' J, After g g' → WF K w g' S → Walk K w g' its J → R J g'.H
  | _ => False
def tI (K : W.Frag) (w : World) (c : Calls) (e : CI) : TI := fun σ H R => ∃ ρ g S, Beg K w ρ g S σ H ∧ EvI K w g R (evI c ρ e S)
section
variable {K : W.Frag} {w : World} {ge g g' g₀ g1 g2 : Gh} {S : Sto} {ρ : Env} {σ : L2.St} {H : Hp} {c : Calls}
theorem EvI.bindE {r : Res DT} {k : DT → Sto → Res Its} {R : It → Hp → Prop} {Q' : VK} (A : After g g1) (h : EvI K w g R (r.bind k))
    (f : ∀ x S' g' v, After g g' → After g1 g' → WF K w g' S' → RepT K w g' g x v → EvI K w g R (k x S') → Q' v g'.H) : EvQ K w g1 Q' r := by
  cases r with
  | ok x S' => exact fun g' v A' W' r' => f x S' g' v (A.trans A') A' W' (r'.base A) h
  | exc _ _ _ => exact h
  | bad => exact h
/-- what stands behind a source -/
inductive SrcIs (K : W.Frag) (w : World) (g1 : Gh) : Src → Addr → Prop
  | held {a : Addr} : g1.F a → SrcIs K w g1 .held a
  | own {a : Addr} : Off g1 a → SrcIs K w g1 .own a
  | obj {n v : Nat} : n < g1.L → g1.ver n = v → SrcIs K w g1 (.obj n v) (g1.mu n)
theorem SrcIs.same {src : Src} {a : Addr} (h : SrcIs K w g1 src a) {o : Bool} {o' : HO} (M : Mono g1 g) (A : o = true → After g1 g) (W : WF K w g S) (st : src.still o S = true) (e : g1.H a = some o') : g.H a = some o' := by
  cases h with
  | held h => rw [(M.F a h).2]; exact e
  | own h => exact (A st).keep a o' e h
  | @obj n v h1 h2 =>
    have st : (match S[n]? with | some (c, _) => c == v | none => false) = true := st
    split at st
    · rename_i c' o'' hs
      have hv := W.ver n c' o'' hs
      have e2 : c' = v := by simpa using st
      exact (M.ver n h1).2 (by rw [hv, e2, h2]) _ e
    · cases st
/-- where a value's object stands: as a source -/
theorem src_of {x : DT} {a : Addr} {S : Sto} (A : After g g1) (W : WF K w g1 S) (r : RepT K w g1 g x (.ref a)) :
    ∃ g2, g2.H = g1.H ∧ After g g2 ∧ WF K w g2 S ∧ RepA K w g2 g x.1 (.ref a) ∧ Mono g1 g2 ∧ (srcD S x = .bad ∨ SrcIs K w g2 (srcD S x) a ∨ (((∃ xs, x.1 = .tup xs) ∨ (∃ ks vs, x.1 = .dic ks vs) ∨ ∃ xs, x.1 = .cel xs) ∧ Rep K w g2 x.1 (.ref a))) := by
  obtain ⟨d, t⟩ := x
  cases t with
  | f =>
    have r : Rep K w g1 d (.ref a) := r
    cases r with
    | tup h1 h2 => exact ⟨g1, rfl, A, W, ⟨.f, .tup h1 h2⟩, Mono.refl _, .inr (.inr ⟨.inl ⟨_, rfl⟩, .tup h1 h2⟩)⟩
    | lst h1 h2 h3 => exact ⟨g1, rfl, A, W, ⟨.f, .lst h1 h2 h3⟩, Mono.refl _, .inr (.inl (.held h2))⟩
    | dic h1 h2 h3 h4 h5 h6 h7 => exact ⟨g1, rfl, A, W, ⟨.f, .dic h1 h2 h3 h4 h5 h6 h7⟩, Mono.refl _, .inr (.inr ⟨.inr (.inl ⟨_, _, rfl⟩), .dic h1 h2 h3 h4 h5 h6 h7⟩)⟩
    | cel h1 h2 => exact ⟨g1, rfl, A, W, ⟨.f, .cel h1 h2⟩, Mono.refl _, .inr (.inr ⟨.inr (.inr ⟨_, rfl⟩), .cel h1 h2⟩)⟩
    | @ref n hn =>
      refine ⟨g1, rfl, A, W, ⟨.f, .ref hn⟩, Mono.refl _, ?_⟩
      have hs : (match S[n]? with | some (v, _) => Src.obj n v | none => .bad) = srcD S (.ref n, .f) := rfl
      cases e : S[n]? with
      | none => rw [e] at hs; exact .inl hs.symm
      | some p =>
        obtain ⟨v, o⟩ := p
        rw [e] at hs
        rw [← hs]
        exact .inr (.inl (.obj hn (W.ver n v o e)))
  | b =>
    obtain ⟨a', e, u⟩ := r
    cases e
    have hs : srcD S (d, .b) = .own := by
      cases d with
      | lst xs => rfl
      | dic ks vs => rfl
      | _ => exact u.2.2.elim
    rw [hs]
    exact ⟨g1, rfl, A, W, ⟨.b, a, rfl, u⟩, Mono.refl _, .inr (.inl (.own u.1))⟩
  | n =>
    obtain ⟨a', e, u, z⟩ := r
    cases e
    have hs : srcD S (d, .n) = .held := by
      cases d with
      | lst xs => rfl
      | dic ks vs => rfl
      | _ => exact u.2.2.elim
    rw [hs]
    exact ⟨g1.hold a, rfl, After.hold z A, W.hold u.there u.1, ⟨.f, u.hold⟩, Mono.hold, .inr (.inl (.held (.inr rfl)))⟩
theorem rd_lst {H : Hp} {a : Addr} {vs us : List V} (e : H a = some (.lst vs)) (nk : ∀ o, K.lookup a = some o → False) (h : SqL K H a us) : us = vs := by
  rcases h with (h | ⟨o, h⟩) | ⟨o, its, n, h, _⟩
  · rw [e] at h; cases h; rfl
  · rw [e] at h; cases h
  · exact (nk o h).elim
theorem walk_bad {its : Its} {J : It} (h : its.src = .bad) : Walk K w g its J := fun o g' S M A W st => by rw [h] at st; cases st
theorem reps_len {ds : List D} {vs : List V} (r : Reps K w g ds vs) {i : Nat} {d : D} (h : ds[i]? = some d) : i < vs.length := by
  rw [← r.length]; exact (List.getElem?_eq_some_iff.mp h).1
end
end Mp
set_option Elab.async false
set_option linter.all false
set_option maxRecDepth 100000
set_option maxHeartbeats 4000000
/-! what is walked, by the evaluator -/
namespace Mp
open PySem PySem.Spec PyProof.Rows L2
section
variable {K : W.Frag} {w : World} {ge g g' g₀ g1 g2 : Gh} {S : Sto} {ρ : Env} {σ : L2.St} {H : Hp} {c : Calls}
theorem walk_lst {a : Addr} {xs : List D} {vs : List V} {src : Src} (h : SrcIs K w g1 src a) (e : g1.H a = some (.lst vs)) (r : Reps K w g1 xs vs) : Walk K w g1 ⟨xs, src⟩ (Itl K a) := by
  intro o g S M A W st i
  have e' := h.same M A W st e
  have r' := r.mono M
  have q : SqL K g.H a vs := .inl (.inl e')
  refine ⟨fun d hd => ?_, fun hi => ⟨vs, q, by rw [← r.length]; exact Nat.le_of_eq hi.symm⟩⟩
  obtain ⟨v, hv, rv⟩ := r'.get hd
  exact ⟨⟨vs, v, q, hv⟩, fun x H' y => ⟨g, y.1.symm, After.refl g, W, by
    have := y.2 vs q
    rw [hv] at this
    cases this
    exact rv⟩⟩
theorem walk_tup {a : Addr} {xs : List D} {src : Src} (r : Rep K w g1 (.tup xs) (.ref a)) : Walk K w g1 ⟨xs, src⟩ (Itt K a) := by
  intro o g S M A W st i
  obtain ⟨a', vs, e, q, r'⟩ := view_tup (x := .non) (r.mono M)
  cases e
  refine ⟨fun d hd => ?_, fun hi => ⟨vs, q, by rw [← r'.length]; exact Nat.le_of_eq hi.symm⟩⟩
  obtain ⟨v, hv, rv⟩ := r'.get hd
  exact ⟨⟨vs, v, q, hv⟩, fun x H' y => ⟨g, y.1.symm, After.refl g, W, by
    have := y.2 vs q
    rw [hv] at this
    cases this
    exact rv⟩⟩
theorem walk_cel {a : Addr} {xs : List D} {src : Src} (r : Rep K w g1 (.cel xs) (.ref a)) : Walk K w g1 ⟨xs, src⟩ (Itl K a) := by
  intro o g S M A W st i
  obtain ⟨a', vs, e, q, r'⟩ := view_cel (x := .non) (r.mono M)
  cases e
  refine ⟨fun d hd => ?_, fun hi => ⟨vs, q, by rw [← r'.length]; exact Nat.le_of_eq hi.symm⟩⟩
  obtain ⟨v, hv, rv⟩ := r'.get hd
  exact ⟨⟨vs, v, q, hv⟩, fun x H' y => ⟨g, y.1.symm, After.refl g, W, by
    have := y.2 vs q
    rw [hv] at this
    cases this
    exact rv⟩⟩
theorem walk_str (z : Str) : Walk K w g1 ⟨signs z, .held⟩ (L2.Its z) := by
  intro o g S M A W st i
  have hl : (signs z).length = z.cps.size := by simp [signs]
  refine ⟨fun d hd => ?_, fun hi => by
    have hi : i = (signs z).length := hi
    show z.cps.size ≤ i
    omega⟩
  have hi : i < z.cps.size := by rw [← hl]; exact (List.getElem?_eq_some_iff.mp hd).1
  refine ⟨hi, fun x H' y => ⟨g, y.1.symm, After.refl g, W, ?_⟩⟩
  obtain ⟨cc, hc, rfl⟩ := y.2
  have : (signs z)[i]? = some (.str ⟨#[cc]⟩) := by simp [signs, hc]
  rw [show (⟨signs z, .held⟩ : Its).xs = signs z from rfl, this] at hd
  cases hd
  exact .str _
theorem walk_rng (lo hi : Int) : Walk K w g1 ⟨rangeD lo hi, .held⟩ (Itr lo (hi - lo).toNat) := by
  intro o g S M A W st i
  have hl : (rangeD lo hi).length = (hi - lo).toNat := by simp [rangeD]
  refine ⟨fun d hd => ?_, fun h => by
    have h : i = (rangeD lo hi).length := h
    show (hi - lo).toNat ≤ i
    omega⟩
  have h1 : i < (hi - lo).toNat := by rw [← hl]; exact (List.getElem?_eq_some_iff.mp hd).1
  refine ⟨h1, fun x H' y => ⟨g, y.1.symm, After.refl g, W, ?_⟩⟩
  have : (rangeD lo hi)[i]? = some (.int (lo + (i : Nat))) := by simp [rangeD, h1]
  rw [show (⟨rangeD lo hi, .held⟩ : Its).xs = rangeD lo hi from rfl, this] at hd
  cases hd
  rw [y.2]
  exact .int _
theorem zipD_at : ∀ {xs ys : List D} {i : Nat} {d : D}, (zipD xs ys)[i]? = some d → ∃ x y, xs[i]? = some x ∧ ys[i]? = some y ∧ d = .tup [x, y]
  | [], _, _, _, h => by simp [zipD] at h
  | _ :: _, [], _, _, h => by simp [zipD] at h
  | x :: xs, y :: ys, 0, d, h => by simp [zipD] at h; exact ⟨x, y, rfl, rfl, h.symm⟩
  | x :: xs, y :: ys, i + 1, d, h => by simp only [zipD, List.getElem?_cons_succ] at h ⊢; exact zipD_at h
theorem zipD_len : ∀ xs ys : List D, (zipD xs ys).length = min xs.length ys.length
  | [], _ => by simp [zipD]
  | _ :: _, [] => by simp [zipD]
  | x :: xs, y :: ys => by simp [zipD, zipD_len xs ys]
theorem walk_zip {a b : Addr} {xs ys : List D} (r : Rep K w g1 (.tup xs) (.ref a)) (r2 : Rep K w g1 (.tup ys) (.ref b)) : Walk K w g1 ⟨zipD xs ys, .held⟩ (RZ.ItzT K a b) := by
  intro o g S M A W st i
  obtain ⟨a', vs, e, q, rv⟩ := view_tup (x := .non) (r.mono M)
  cases e
  obtain ⟨b', us, e, q2, ru⟩ := view_tup (x := .non) (r2.mono M)
  cases e
  refine ⟨fun d hd => ?_, fun h => ⟨vs, us, q, q2, ?_⟩⟩
  · obtain ⟨x, y, hx, hy, rfl⟩ := zipD_at hd
    obtain ⟨v, hv, rv'⟩ := rv.get hx
    obtain ⟨u, hu, ru'⟩ := ru.get hy
    refine ⟨⟨vs, us, v, u, q, q2, hv, hu⟩, fun x H' y => ?_⟩
    obtain ⟨T, v1, u1, rfl, hT, rfl, e1, e2⟩ := y
    have e1 := e1 vs q
    rw [hv] at e1
    cases e1
    have e2 := e2 us q2
    rw [hu] at e2
    cases e2
    obtain ⟨g3, h1, h2, h3, h4, h5⟩ := lay_tup (After.refl g) W hT (.cons rv' (.cons ru' .nil))
    exact ⟨g3, h1, h2, h4, h5⟩
  · have h : i = (zipD xs ys).length := h
    rw [zipD_len, rv.length, ru.length] at h
    omega
theorem walk_nn {d : Addr} {es : Array DictEntry} {ep : Nat} {src : Src} {x : D} (hs : SrcIs K w g1 src d ∨ Rep K w g1 x (.ref d)) (he : EsIs K g1.H d es ep) (hx : ∀ g', Mono g1 g' → Rep K w g1 x (.ref d) → EsIs K g'.H d es ep)
    {o : Bool} (M : Mono g1 g) (A : o = true → After g1 g) (W : WF K w g S) (st : src.still o S = true) : EsIs K g.H d es ep := by
  rcases hs with hs | hs
  · rcases he with he | he
    · exact .inl (hs.same M A W st he)
    · exact .inr he
  · exact hx g M hs
theorem walk_keys {d : Addr} {es : Array DictEntry} {ep : Nat} {src : Src} {ks : List D} {kvs : List V} (he : ∀ (o : Bool) (g : Gh) (S : Sto), Mono g1 g → (o = true → After g1 g) → WF K w g S → src.still o S = true → EsIs K g.H d es ep)
    (hl : kvs.length = es.size) (r : Reps K w g1 ks kvs) : Walk K w g1 ⟨ks, src⟩ (Jk K d es ep kvs) := by
  intro o g S M A W st i
  have q := he o g S M A W st
  have r' := r.mono M
  refine ⟨fun x hx => ?_, fun hi => ⟨q, by
    have hi : i = ks.length := hi
    rw [r.length] at hi; omega⟩⟩
  obtain ⟨v, hv, rv⟩ := r'.get hx
  refine ⟨⟨q, by rw [← hl]; exact (List.getElem?_eq_some_iff.mp hv).1⟩, fun y H' z => ⟨g, z.1.symm, After.refl g, W, ?_⟩⟩
  have := z.2
  rw [hv] at this
  cases this
  exact rv
theorem walk_vals {d : Addr} {es : Array DictEntry} {ep : Nat} {src : Src} {ks : List D} {kvs : List V} (he : ∀ (o : Bool) (g : Gh) (S : Sto), Mono g1 g → (o = true → After g1 g) → WF K w g S → src.still o S = true → EsIs K g.H d es ep)
    (hl : kvs.length = es.size) (r : Reps K w g1 ks kvs) : Walk K w g1 ⟨ks, src⟩ (Jv K d es ep kvs) := by
  intro o g S M A W st i
  have q := he o g S M A W st
  have r' := r.mono M
  refine ⟨fun x hx => ?_, fun hi => ⟨q, by
    have hi : i = ks.length := hi
    rw [r.length] at hi; omega⟩⟩
  obtain ⟨v, hv, rv⟩ := r'.get hx
  refine ⟨⟨q, by rw [← hl]; exact (List.getElem?_eq_some_iff.mp hv).1⟩, fun y H' z => ⟨g, z.1.symm, After.refl g, W, ?_⟩⟩
  have := z.2
  rw [hv] at this
  cases this
  exact rv
theorem itemsD_at : ∀ {ks : List NestedKey} {vs : List D} {i : Nat} {d : D}, (itemsD ks vs)[i]? = some d → ∃ k v, (ofKeys ks)[i]? = some k ∧ vs[i]? = some v ∧ d = .tup [k, v]
  | [], _, _, _, h => by simp [itemsD] at h
  | _ :: _, [], _, _, h => by simp [itemsD] at h
  | k :: ks, v :: vs, 0, d, h => by simp [itemsD] at h; exact ⟨ofKey k, v, by simp [ofKeys], rfl, h.symm⟩
  | k :: ks, v :: vs, i + 1, d, h => by simp only [itemsD, List.getElem?_cons_succ, ofKeys] at h ⊢; exact itemsD_at h
theorem itemsD_len : ∀ (ks : List NestedKey) (vs : List D), vs.length = ks.length → (itemsD ks vs).length = ks.length
  | [], _, _ => by simp [itemsD]
  | _ :: _, [], h => by cases h
  | k :: ks, v :: vs, h => by simp [itemsD, itemsD_len ks vs (by simpa using h)]
theorem ofKeys_len : ∀ ks : List NestedKey, (ofKeys ks).length = ks.length
  | [] => rfl
  | k :: ks => by simp [ofKeys, ofKeys_len ks]
theorem walk_items {d : Addr} {es : Array DictEntry} {ep : Nat} {src : Src} {ks : List NestedKey} {vs : List D} {kvs vvs : List V} (he : ∀ (o : Bool) (g : Gh) (S : Sto), Mono g1 g → (o = true → After g1 g) → WF K w g S → src.still o S = true → EsIs K g.H d es ep)
    (hl : kvs.length = es.size) (hv : vs.length = ks.length) (r : Reps K w g1 (ofKeys ks) kvs) (r2 : Reps K w g1 vs vvs) : Walk K w g1 ⟨itemsD ks vs, src⟩ (Ji K d es ep kvs vvs) := by
  intro o g S M A W st i
  have q := he o g S M A W st
  have r' := r.mono M
  have r2' := r2.mono M
  have hlen : ks.length = es.size := by rw [← hl, ← r.length, ofKeys_len]
  refine ⟨fun x hx => ?_, fun hi => ⟨q, by
    have hi : i = (itemsD ks vs).length := hi
    rw [itemsD_len _ _ hv] at hi; omega⟩⟩
  obtain ⟨k, v, hk, hv', rfl⟩ := itemsD_at hx
  obtain ⟨kv, hkv, rk⟩ := r'.get hk
  obtain ⟨vv, hvv, rv⟩ := r2'.get hv'
  refine ⟨⟨q, by rw [← hl]; exact (List.getElem?_eq_some_iff.mp hkv).1⟩, fun y H' z => ?_⟩
  obtain ⟨T, k', v', e1, e2, rfl, hT, rfl⟩ := z
  rw [hkv] at e1
  cases e1
  rw [hvv] at e2
  cases e2
  obtain ⟨g3, h1, h2, h3, h4, h5⟩ := lay_tup (After.refl g) W hT (.cons rk (.cons rv .nil))
  exact ⟨g3, h1, h2, h4, h5⟩
theorem seqV_ref_lst {x : D} {xs : List D} (h : seqV S x = some xs) (hx : ∀ ys, x ≠ .tup ys) : lstV S x = some xs := (seqV_cases h).resolve_right (hx xs)

/-- a dict, walked -/
theorem dict_walk {x : DT} {v : V} {ks : List NestedKey} {vs : List D} (A : After g g1) (W : WF K w g1 S) (r : RepT K w g1 g x v) (h : dicV S x.1 = some (ks, vs)) :
    ∃ g2 d es ep kvs vvs, v = .ref d ∧ g2.H = g1.H ∧ After g g2 ∧ WF K w g2 S ∧ Ents K g2.H d es ep kvs vvs ∧ kvs.length = es.size ∧ vvs.length = es.size ∧ vs.length = ks.length ∧ Reps K w g2 (ofKeys ks) kvs ∧ Reps K w g2 vs vvs ∧
      (srcD S x = .bad ∨ ∀ (o : Bool) (g : Gh) (S' : Sto), Mono g2 g → (o = true → After g2 g) → WF K w g S' → (srcD S x).still o S' = true → EsIs K g.H d es ep) := by
  obtain ⟨a, rfl, _⟩ := view_dic W r h
  obtain ⟨g2, e2, A2, W2, ⟨t, r2⟩, M, hs⟩ := src_of A W r
  have main : ∀ (es : Array DictEntry) (ep : Nat) (xs : List KE3) (kvs vvs : List V), EsIs K g2.H a es ep → es.toList = xs.map (entK w) → ks = xs.map (·.1) → Vals kvs (xs.map (·.2.1)) → Vals vvs (xs.map (·.2.2)) → Reps K w g2 (ofKeys ks) kvs → Reps K w g2 vs vvs →
      vs.length = ks.length → (a == sysModules) = false → (srcD S x = .bad ∨ ∀ (o : Bool) (g : Gh) (S' : Sto), Mono g2 g → (o = true → After g2 g) → WF K w g S' → (srcD S x).still o S' = true → EsIs K g.H a es ep) →
      ∃ g2 d es ep kvs vvs, V.ref a = .ref d ∧ g2.H = g1.H ∧ After g g2 ∧ WF K w g2 S ∧ Ents K g2.H d es ep kvs vvs ∧ kvs.length = es.size ∧ vvs.length = es.size ∧ vs.length = ks.length ∧ Reps K w g2 (ofKeys ks) kvs ∧ Reps K w g2 vs vvs ∧
      (srcD S x = .bad ∨ ∀ (o : Bool) (g : Gh) (S' : Sto), Mono g2 g → (o = true → After g2 g) → WF K w g S' → (srcD S x).still o S' = true → EsIs K g.H d es ep) := fun es ep xs kvs vvs h1 h2 ek h3 h4 h5 h6 hvl hm hst => by
    have k1 : es.toList.map (·.key) = xs.map (·.2.1) := by rw [h2, List.map_map]; rfl
    have k2 : es.toList.map (·.val) = xs.map (·.2.2) := by rw [h2, List.map_map]; rfl
    have hsz : es.size = xs.length := by rw [← Array.length_toList, h2, List.length_map]
    exact ⟨g2, a, es, ep, kvs, vvs, rfl, e2, A2, W2, ⟨h1, by rw [k1]; exact h3, by rw [k2]; exact h4, hm⟩, by rw [h3.length, List.length_map, hsz], by rw [h4.length, List.length_map, hsz], hvl, h5, h6, hst⟩
  rcases hs with hs | hs | ⟨hs, rr⟩
  · obtain ⟨a', e, es, ep, xs, kvs, vvs, h1, ⟨h2, h2'⟩, h3, h4, h5, h6, hn, hd, hz, hvl, hm⟩ := view_dic W2 r2 h
    cases e
    exact main es ep xs kvs vvs h1 h2 h2' h3 h4 h5 h6 hvl hm (.inl hs)
  · obtain ⟨a', e, es, ep, xs, kvs, vvs, h1, ⟨h2, h2'⟩, h3, h4, h5, h6, hn, hd, hz, hvl, hm⟩ := view_dic W2 r2 h
    cases e
    refine main es ep xs kvs vvs h1 h2 h2' h3 h4 h5 h6 hvl hm (.inr fun o g S' M' A' W' st => ?_)
    rcases h1 with h1 | h1
    · exact .inl (hs.same M' A' W' st h1)
    · exact .inr h1
  · rcases hs with ⟨ys, e⟩ | ⟨ks', vs', e⟩ | ⟨ys, e⟩
    rotate_left 2
    · rw [e] at h; cases h
    · rw [e] at h; cases h
    · rw [e] at rr h
      cases h
      cases rr with
      | dic q1 q2 q3 q4 q5 q6 q7 =>
        obtain ⟨hn, hd, hz, hvl, hm⟩ := q7
        refine main _ _ _ _ _ (q1.elim (fun q => .inl q.1) .inr) q2.1 q2.2 q3 q4 q5 q6 hvl hm (.inr fun o g S' M' A' W' st => ?_)
        rcases q1 with ⟨q1, qf⟩ | q1
        · exact .inl (by rw [(M'.F a qf).2]; exact q1)
        · exact .inr q1
end
end Mp
set_option Elab.async false
set_option linter.all false
set_option maxRecDepth 100000
set_option maxHeartbeats 4000000
/-! what is walked: the readings -/
namespace Mp
open PySem PySem.Spec PyProof.Rows L2
section
variable {K : W.Frag} {w : World} {ge g g' g₀ g1 g2 : Gh} {S : Sto} {ρ : Env} {σ : L2.St} {H : Hp} {c : Calls} {R : It → Hp → Prop}
theorem seq_walk {x : DT} {v : V} {xs : List D} (A : After g g1) (W : WF K w g1 S) (r : RepT K w g1 g x v) (h : seqV S x.1 = some xs) :
    ∃ g2 a, v = .ref a ∧ g2.H = g1.H ∧ After g g2 ∧ WF K w g2 S ∧
      ((∃ vs, SqL K g2.H a vs ∧ Walk K w g2 ⟨xs, srcD S x⟩ (Itl K a)) ∨ ∃ vs, SqT K g2.H a vs ∧ Walk K w g2 ⟨xs, srcD S x⟩ (Itt K a)) := by
  obtain ⟨a, vs0, rfl, _⟩ := view_seq W r h
  obtain ⟨g2, e2, A2, W2, ⟨t, r2⟩, M, hs⟩ := src_of A W r
  refine ⟨g2, a, rfl, e2, A2, W2, ?_⟩
  rcases seqV_cases h with hl | ht
  · obtain ⟨a', vs, e, h1, hr⟩ := view_lst W2 r2 hl
    cases e
    refine .inl ⟨vs, .inl (.inl h1), ?_⟩
    rcases hs with hs | hs | ⟨hs, _⟩
    · exact walk_bad hs
    · exact walk_lst hs h1 hr
    · rcases hs with ⟨ys, e⟩ | ⟨ks, vs', e⟩ | ⟨ys, e⟩
      rotate_left 2
      · rw [e] at hl; cases hl
      · rw [e] at hl; cases hl
      · rw [e] at hl; cases hl
  · have rr := rep_tup r2 ht
    obtain ⟨a', vs, e, q, _⟩ := view_tup (x := .non) rr
    cases e
    exact .inr ⟨vs, q, walk_tup rr⟩
theorem ofOptI_none {S : Sto} (h : EvI K w g R (ofOpt (none : Option Its) S)) : False := h
theorem iI_seq {e : CE} (h : tI K w c (.seq e) σ H R) : iAny K (tE K w c e) σ H R := by
  obtain ⟨ρ, g, S, B, h⟩ := h
  unfold evI at h
  refine ⟨ρ, g, S, B, EvI.bindE (After.refl g) h fun x S1 g1 v A1 _ W1 r1 h1 => ?_⟩
  have gen : seqR S1 x.1 = seqV S1 x.1 → (match seqV S1 x.1 with | some xs => some (⟨xs, srcD S1 x⟩ : Its) | none => match dicV S1 x.1 with | some (ks, _) => some ⟨ofKeys ks, srcD S1 x⟩ | none => none) = seqI S1 x → 
      (∃ a xs, v = .ref a ∧ SqL K g1.H a xs ∧ R (Itl K a) g1.H) ∨ (∃ a xs, v = .ref a ∧ SqT K g1.H a xs ∧ R (Itt K a) g1.H) ∨ (∃ z, v = .str z ∧ R (L2.Its z) g1.H) ∨
      (∃ d es ep kvs vvs, v = .ref d ∧ Ents K g1.H d es ep kvs vvs ∧ R (Jk K d es ep kvs) g1.H)   := fun _ hq => by
    rw [← hq] at h1
    cases hs : seqV S1 x.1 with
    | some xs =>
      rw [hs] at h1
      obtain ⟨g2, a, rfl, e2, A2, W2, q⟩ := seq_walk A1 W1 r1 hs
      rw [← e2]
      rcases q with ⟨vs, q, wk⟩ | ⟨vs, q, wk⟩
      · exact .inl ⟨a, vs, rfl, q, h1 g2 _ A2 W2 wk⟩
      · exact .inr (.inl ⟨a, vs, rfl, q, h1 g2 _ A2 W2 wk⟩)
    | none =>
      rw [hs] at h1
      cases hd : dicV S1 x.1 with
      | none => rw [hd] at h1; exact h1.elim
      | some p =>
        obtain ⟨ks, vs⟩ := p
        rw [hd] at h1
        obtain ⟨g2, d, es, ep, kvs, vvs, rfl, e2, A2, W2, en, l1, l2, l3, r3, r4, hst⟩ := dict_walk A1 W1 r1 hd
        rw [← e2]
        refine .inr (.inr (.inr ⟨d, es, ep, kvs, vvs, rfl, en, h1 g2 _ A2 W2 ?_⟩))
        rcases hst with hst | hst
        · exact walk_bad hst
        · exact walk_keys hst l1 r3
  obtain ⟨dx, tx⟩ := x
  cases dx with
  | str z =>
    have h1 : EvI K w g R (ofOpt (if z.length ≤ 16777216 then some ⟨signs z, .held⟩ else none) S1) := h1
    split at h1
    · cases rep_str r1 rfl
      exact .inr (.inr (.inl ⟨z, rfl, h1 g1 _ A1 W1 (walk_str z)⟩))
    · exact h1.elim
  | cel xs =>
    have rr := rep_cel r1 rfl
    obtain ⟨a, vs, rfl, q, _⟩ := view_cel (x := .non) rr
    exact .inl ⟨a, vs, rfl, q, h1 g1 _ A1 W1 (walk_cel rr)⟩
  | _ => exact gen rfl rfl
theorem iI_vals {e : CE} (h : tI K w c (.vals e) σ H R) : iValsD K (tE K w c e) σ H R := by
  obtain ⟨ρ, g, S, B, h⟩ := h
  unfold evI at h
  refine ⟨ρ, g, S, B, EvI.bindE (After.refl g) h fun x S1 g1 v A1 _ W1 r1 h1 => ?_⟩
  cases hd : dicV S1 x.1 with
  | none => rw [hd] at h1; exact h1.elim
  | some p =>
    obtain ⟨ks, vs⟩ := p
    rw [hd] at h1
    obtain ⟨g2, d, es, ep, kvs, vvs, rfl, e2, A2, W2, en, l1, l2, l3, r3, r4, hst⟩ := dict_walk A1 W1 r1 hd
    rw [← e2]
    refine ⟨d, es, ep, kvs, vvs, rfl, en, h1 g2 _ A2 W2 ?_⟩
    rcases hst with hst | hst
    · exact walk_bad hst
    · exact walk_vals hst l2 r4
theorem iI_items {e : CE} (h : tI K w c (.items e) σ H R) : iItemsD K (tE K w c e) σ H R := by
  obtain ⟨ρ, g, S, B, h⟩ := h
  unfold evI at h
  refine ⟨ρ, g, S, B, EvI.bindE (After.refl g) h fun x S1 g1 v A1 _ W1 r1 h1 => ?_⟩
  cases hd : dicV S1 x.1 with
  | none => rw [hd] at h1; exact h1.elim
  | some p =>
    obtain ⟨ks, vs⟩ := p
    rw [hd] at h1
    obtain ⟨g2, d, es, ep, kvs, vvs, rfl, e2, A2, W2, en, l1, l2, l3, r3, r4, hst⟩ := dict_walk A1 W1 r1 hd
    rw [← e2]
    refine ⟨d, es, ep, kvs, vvs, rfl, en, h1 g2 _ A2 W2 ?_⟩
    rcases hst with hst | hst
    · exact walk_bad hst
    · exact walk_items hst l1 l3 r3 r4
theorem iI_range1 {e : CE} (h : tI K w c (.range1 e) σ H R) : iRng1 (tCons (tE K w c e) tNil) σ H R := by
  obtain ⟨ρ, g, S, B, h⟩ := h
  unfold evI at h
  refine ⟨ρ, g, S, B, EvI.bindE (After.refl g) h fun x S1 g1 v A1 _ W1 r1 h1 => ?_⟩
  obtain ⟨dx, tx⟩ := x
  cases dx with
  | int n =>
    have h1 : EvI K w g R (if -(2 ^ 62) ≤ n ∧ n < 2 ^ 62 then .ok ⟨rangeD 0 n, .held⟩ S1 else .bad) := h1
    split at h1
    · rename_i hn
      cases rep_int r1 rfl
      have := walk_rng (K := K) (w := w) (g1 := g1) 0 n
      rw [Int.sub_zero] at this
      exact ⟨n, rfl, hn.1, hn.2, h1 g1 _ A1 W1 this⟩
    · exact h1.elim
  | _ => exact h1.elim
theorem iI_range2 {a b : CE} (h : tI K w c (.range2 a b) σ H R) : iRng2 (tCons (tE K w c a) (tCons (tE K w c b) tNil)) σ H R := by
  obtain ⟨ρ, g, S, B, h⟩ := h
  unfold evI at h
  refine ⟨ρ, g, S, B, EvI.bindE (After.refl g) h fun x S1 g1 v A1 _ W1 r1 h1 => ?_⟩
  refine ⟨ρ, g1, S1, B.after A1 W1, EvI.bindE A1 h1 fun y S2 g2 u A2 A12 W2 r2 h2 => ?_⟩
  obtain ⟨dx, tx⟩ := x
  obtain ⟨dy, ty⟩ := y
  cases dx with
  | int l =>
    cases dy with
    | int n =>
      have h2 : EvI K w g R (if (-(2 ^ 62) ≤ l ∧ l < 2 ^ 62) ∧ (-(2 ^ 62) ≤ n ∧ n < 2 ^ 62) then .ok ⟨rangeD l n, .held⟩ S2 else .bad) := h2
      split at h2
      · rename_i hn
        cases rep_int r1 rfl
        cases rep_int r2 rfl
        exact ⟨l, n, rfl, ⟨hn.1.1, hn.1.2, hn.2.1, hn.2.2⟩, h2 g2 _ A2 W2 (walk_rng l n)⟩
      · exact h2.elim
    | _ => exact h2.elim
  | _ => exact h2.elim
theorem iI_zip {a b : CE} (h : tI K w c (.zip a b) σ H R) : RZ.iZipA K (tCons (tE K w c a) (tCons (tE K w c b) tNil)) σ H R := by
  obtain ⟨ρ, g, S, B, h⟩ := h
  unfold evI at h
  refine ⟨ρ, g, S, B, EvI.bindE (After.refl g) h fun x S1 g1 v A1 _ W1 r1 h1 => ?_⟩
  refine ⟨ρ, g1, S1, B.after A1 W1, EvI.bindE A1 h1 fun y S2 g2 u A2 A12 W2 r2 h2 => ?_⟩
  obtain ⟨dx, tx⟩ := x
  obtain ⟨dy, ty⟩ := y
  cases dx with
  | tup xs =>
    cases dy with
    | tup ys =>
      have q1 := rep_tup (r1.after A12 W1) rfl
      have q2 := rep_tup r2 rfl
      obtain ⟨p, vs, rfl, hp, _⟩ := view_tup (x := .non) q1
      obtain ⟨q, us, rfl, hq, _⟩ := view_tup (x := .non) q2
      exact ⟨p, q, vs, us, rfl, .inr ⟨hp, hq, h2 g2 _ A2 W2 (walk_zip q1 q2)⟩⟩
    | _ => exact h2.elim
  | _ => exact h2.elim
end
end Mp
set_option Elab.async false
set_option linter.all false
set_option maxRecDepth 100000
set_option maxHeartbeats 4000000
/-! comprehensions -/
namespace Mp
open PySem PySem.Spec PyProof.Rows L2
theorem Res.assoc {a b d : Type} (r : Res a) (k : a → Sto → Res b) (l : b → Sto → Res d) : (r.bind k).bind l = r.bind fun x s => (k x s).bind l := by
  cases r <;> rfl
section
variable {K : W.Frag} {w : World} {ge g g' g₀ g1 g2 : Gh} {S : Sto} {ρ : Env} {σ : L2.St} {H : Hp} {c : Calls}
/-! ### an object of the frame's own is written -/
def Gh.bump (g : Gh) (p : Addr) (o : HO) : Gh := { g with H := upd g.H p o }
theorem Mono.bump {p : Addr} {o : HO} (nf : ¬ g.F p) (off : Off g p) : Mono g (g.bump p o) :=
  ⟨Nat.le_refl _, fun _ _ => rfl, fun a h => ⟨h, by
    show upd g.H p o a = _
    rw [upd_ne (fun e => nf (by rw [← e]; exact h))]⟩, fun n hn => ⟨Nat.le_refl _, fun _ u h => by
    show upd g.H p o (g.mu n) = _
    rw [upd_ne (off n hn)]; exact h⟩⟩
theorem WF.bump {p : Addr} {o : HO} (nf : ¬ g.F p) (off : Off g p) (W : WF K w g S) : WF K w (g.bump p o) S where
  len := W.len
  ver := W.ver
  fz := fun a h => by
    show upd g.H p o a ≠ none
    rw [upd_ne (fun e => nf (by rw [← e]; exact h))]
    exact W.fz a h
  live := fun n c' u h => by
    obtain ⟨h1, h2⟩ := W.live n c' u h
    have hn : n < g.L := by rw [W.len]; exact (List.getElem?_eq_some_iff.mp h).1
    exact ⟨h1, h2.mono (Mono.bump nf off) fun q e => by
      show upd g.H p o (g.mu n) = some q
      rw [upd_ne (off n hn)]; exact e⟩
  inj := W.inj
theorem After.bump {p : Addr} {o : HO} (A : After g₀ g) (h : g₀.H p = none) : After g₀ (g.bump p o) where
  L := A.L
  mu := A.mu
  F := A.F
  keep := fun a u e f => by
    show upd g.H p o a = some u
    rw [upd_ne (ne_of_none e h)]
    exact A.keep a u e f
  nF := A.nF
  nmu := A.nmu
  there := fun a e => by
    show upd g.H p o a ≠ none
    rw [upd_ne (fun z => e (by rw [z]; exact h))]
    exact A.there a e
  ver := fun n hn => ⟨(A.ver n hn).1, fun e u hu => by
    have := (A.ver n hn).2 e u hu
    show upd g.H p o (g₀.mu n) = some u
    rw [upd_ne (fun z => by rw [z, h] at hu; cases hu)]
    exact this⟩

/-! ### targets -/
def gT (K : W.Frag) : CT → TG
  | .nm i => gName i
  | .tup is => gTup K is.length (gAll is)
where
  gAll : List Nat → TGs
  | [] => gNil
  | i :: is => gCons (gName i) (gAll is)
def CT.ixs : CT → List Nat
  | .nm i => [i]
  | .tup is => is
theorem EnvR.set {i : Nat} {d : D} {v : V} (E : EnvR K w ge g ρ σ) (r : Rep K w g d v) : EnvR K w ge g (ρ.set i (.val d)) (σ.set i (some v)) := by
  have own : ∀ {j : Nat} {d' : D}, (ρ.set i (.val d))[j]? = some (.own d') → i ≠ j ∧ ρ[j]? = some (.own d') := fun {j d'} e => by
    by_cases h : i = j
    · subst h
      by_cases hl : i < ρ.length
      · rw [List.getElem?_set_self hl] at e; cases e
      · rw [List.getElem?_eq_none (by simpa using hl)] at e; cases e
    · rw [List.getElem?_set_ne h] at e; exact ⟨h, e⟩
  refine ⟨by simp [E.len], fun j s o h1 h2 => ?_, fun j k d1 d2 a h1 h2 h3 h4 => ?_⟩
  · by_cases h : i = j
    · subst h
      by_cases hl : i < ρ.length
      · rw [List.getElem?_set_self hl] at h1
        rw [List.getElem?_set_self (by rw [← E.len]; exact hl)] at h2
        cases h1
        cases h2
        exact ⟨v, rfl, r⟩
      · rw [List.getElem?_eq_none (by simpa using hl)] at h1; cases h1
    · rw [List.getElem?_set_ne h] at h1 h2
      exact E.at_ j s o h1 h2
  · obtain ⟨n1, e1⟩ := own h1
    obtain ⟨n2, e2⟩ := own h2
    rw [List.getElem?_set_ne n1] at h3
    rw [List.getElem?_set_ne n2] at h4
    exact E.one j k d1 d2 a e1 e2 h3 h4
theorem wipe_set {i : Nat} {x : Option V} : ∀ {vs : List Nat} {σ : L2.St}, i ∈ vs → wipe (σ.set i x) vs = wipe σ vs
  | v :: vs, σ, h => by
    unfold wipe
    by_cases hv : i ∈ vs
    · rw [wipe_set hv]
    · have e : i = v := by
        rcases List.mem_cons.mp h with h | h
        · exact h
        · exact absurd h hv
      subst e
      have z : ∀ (us : List Nat) (τ : L2.St), i ∉ us → wipe (τ.set i x) us = (wipe τ us).set i x := fun us => by
        induction us with
        | nil => intro τ _; rfl
        | cons u us ih =>
          intro τ hu
          simp only [List.mem_cons, not_or] at hu
          unfold wipe
          rw [ih τ hu.2, List.set_comm]
          exact hu.1
      rw [z vs σ hv, List.set_set]
theorem set_none_wipe {v : Nat} : ∀ {vs : List Nat} {σ : L2.St}, wipe (σ.set v none) vs = (wipe σ vs).set v none
  | [], _ => rfl
  | u :: us, σ => by
    unfold wipe
    rw [set_none_wipe (vs := us)]
    by_cases h : v = u
    · subst h; rfl
    · rw [List.set_comm]; exact h
theorem wipe_idem : ∀ {vs : List Nat} {σ : L2.St}, wipe (wipe σ vs) vs = wipe σ vs
  | [], _ => rfl
  | v :: vs, σ => by
    show (wipe ((wipe σ vs).set v none) vs).set v none = (wipe σ vs).set v none
    rw [set_none_wipe, wipe_idem, List.set_set]
theorem EnvR.wipe (E : EnvR K w ge g ρ σ) : ∀ vs : List Nat, EnvR K w ge g (wipeE ρ vs) (wipe σ vs)
  | [] => E
  | v :: vs => by
    have ih := EnvR.wipe E vs
    unfold wipeE L2.wipe
    have own : ∀ {j : Nat} {d' : D}, ((wipeE ρ vs).set v .no)[j]? = some (.own d') → v ≠ j ∧ (wipeE ρ vs)[j]? = some (.own d') := fun {j d'} e => by
      by_cases h : v = j
      · subst h
        by_cases hl : v < (wipeE ρ vs).length
        · rw [List.getElem?_set_self hl] at e; cases e
        · rw [List.getElem?_eq_none (by simpa using hl)] at e; cases e
      · rw [List.getElem?_set_ne h] at e; exact ⟨h, e⟩
    refine ⟨by simp [ih.len], fun j s o h1 h2 => ?_, fun j k d1 d2 a h1 h2 h3 h4 => ?_⟩
    · by_cases h : v = j
      · subst h
        by_cases hl : v < (wipeE ρ vs).length
        · rw [List.getElem?_set_self hl] at h1
          cases h1
          trivial
        · rw [List.getElem?_eq_none (by simpa using hl)] at h1; cases h1
      · rw [List.getElem?_set_ne h] at h1 h2
        exact ih.at_ j s o h1 h2
    · obtain ⟨n1, e1⟩ := own h1
      obtain ⟨n2, e2⟩ := own h2
      rw [List.getElem?_set_ne n1] at h3
      rw [List.getElem?_set_ne n2] at h4
      exact ih.one j k d1 d2 a e1 e2 h3 h4
/-- a target's names: told by the places that change -/
theorem gT_ok {tg : CT} {d : D} {v : V} {ρ' : Env} {Q : L2.St → Hp → Prop} (E : EnvR K w ge g ρ σ) (r : Rep K w g d v) (h : bindT ρ tg d = some ρ')
    (q : ∀ σ', EnvR K w ge g ρ' σ' → (∀ vs, (∀ i ∈ tg.ixs, i ∈ vs) → L2.wipe σ' vs = L2.wipe σ vs) → Q σ' g.H) : gT K tg v σ g.H Q := by
  have all : ∀ (is : List Nat) (xs : List D) (us : List V) (ρ : Env) (σ : L2.St), EnvR K w ge g ρ σ → Reps K w g xs us → bindT.bindAll ρ is xs = some ρ' →
      (∀ σ', EnvR K w ge g ρ' σ' → (∀ vs, (∀ i ∈ is, i ∈ vs) → L2.wipe σ' vs = L2.wipe σ vs) → Q σ' g.H) → gT.gAll is us σ g.H Q := fun is => by
    induction is with
    | nil =>
      intro xs us ρ σ E r h q
      cases xs with
      | nil =>
        cases r
        cases h
        exact ⟨rfl, q σ E fun _ _ => rfl⟩
      | cons _ _ => cases h
    | cons i is ih =>
      intro xs us ρ σ E r h q
      cases xs with
      | nil => cases h
      | cons x xs =>
        cases r with
        | cons r1 r2 =>
          refine ⟨_, _, rfl, ?_⟩
          refine ih xs _ _ _ (E.set r1) r2 h fun σ' E' hw => q σ' E' fun vs hvs => ?_
          rw [hw vs fun j hj => hvs j (List.mem_cons_of_mem _ hj), wipe_set (hvs i List.mem_cons_self)]
  cases tg with
  | nm i =>
    cases h
    exact q _ (E.set r) fun vs hvs => wipe_set (hvs i (by simp [CT.ixs]))
  | tup is =>
    cases d with
    | tup xs =>
      obtain ⟨a, us, rfl, hq, rr⟩ := view_tup (x := .non) r
      have hl : ∀ (is : List Nat) (xs : List D) (ρ : Env), bindT.bindAll ρ is xs = some ρ' → xs.length = is.length := fun is => by
        induction is with
        | nil => intro xs ρ h; cases xs with
          | nil => rfl
          | cons _ _ => cases h
        | cons i is ih => intro xs ρ h; cases xs with
          | nil => cases h
          | cons x xs => rw [List.length_cons, List.length_cons, ih xs _ h]
      exact ⟨a, us, rfl, hq, by rw [← rr.length]; exact hl is xs ρ h, all is xs us ρ σ E rr h q⟩
    | _ => cases h

/-! ### the comprehension -/
def tTs (K : W.Frag) (w : World) (c : Calls) : Option CE → TT
  | none => tYes
  | some t => tB (tE K w c t)
theorem EvQ.bind' {r : Res DT} {k : DT → Sto → Res DT} {Q Q' : VK} (A : After g g1) (h : EvQ K w g Q (r.bind k))
    (f : ∀ x S' g' v, After g g' → After g1 g' → WF K w g' S' → RepT K w g' g1 x v → EvQ K w g Q (k x S') → Q' v g'.H) : EvQ K w g1 Q' r := by
  cases r with
  | ok x S' => exact fun g' v A' W' r' => f x S' g' v (A.trans A') A' W' r' h
  | exc _ _ _ => exact h
  | bad => exact h
theorem i_lc {elt : CE} {tg : CT} {it : CI} {ifs : Option CE} {vs : List Nat} {Q : VK} (hvs : ∀ i ∈ tg.ixs, i ∈ vs) (h : tE K w c (.lc elt tg it ifs vs) σ H Q) :
    tLc (tI K w c it) (gT K tg) (tTs K w c ifs) (tE K w c elt) vs σ H Q := by
  obtain ⟨ρ, g, S, B, h⟩ := h
  unfold ev at h
  refine ⟨ρ, g, S, B, ?_⟩
  cases hI : evI c ρ it S with
  | exc _ _ _ => rw [hI] at h; exact h
  | bad => rw [hI] at h; exact h
  | ok its S1 =>
    rw [hI, Res.bind_ok] at h
    generalize hf : (fun (d : D) (s : Sto) => _) = f at h
    intro g1 J A1 W1 wk D hD
    have h0 : g.H D = none := none_before A1 hD
    refine ⟨fun i m H => m = its.xs.length - i ∧ i ≤ its.xs.length ∧ ∃ g' S' acc vs', g'.H = H ∧ After g g' ∧ After g1 g' ∧ WF K w g' S' ∧ g'.H D = some (.lst vs') ∧ Reps K w g' acc vs' ∧ Off g' D ∧ ¬ g'.F D ∧
      EvQ K w g Q ((lcLoop (its.src.still true) f (its.xs.drop i) acc S').bind fun ys s => .ok (fresh (.lst ys)) s), ⟨_, rfl, Nat.zero_le _, g1.lay D (.lst []), S1, [], [], rfl, A1.trans (After.lay hD), After.lay hD, W1.lay hD, ?_, .nil, W1.off_new hD, W1.notF_new hD, h⟩, ?_⟩
    · show upd g1.H D _ D = _
      rw [upd_same]
    rintro i m H' ⟨rfl, hi, g', S', acc, vs', rfl, A', A1', W', hDl, ra, off, nf, hh⟩
    have B' := B.after A' W'
    by_cases hlt : i < its.xs.length
    · -- a turn
      have hdrop : its.xs.drop i = its.xs[i] :: its.xs.drop (i + 1) := List.drop_eq_getElem_cons hlt
      rw [hdrop] at hh
      unfold lcLoop at hh
      cases hst : its.src.still true S' with
      | false => rw [hst] at hh; exact hh.elim
      | true =>
        rw [hst, if_pos rfl, Res.assoc] at hh
        have wki := wk true g' S' (A1'.mono W1) (fun _ => A1') W' hst i
        obtain ⟨go, yl⟩ := wki.1 its.xs[i] (List.getElem?_eq_getElem hlt)
        refine .inr ⟨go, fun H2 => ∃ g' S' acc vs', g'.H = H2 ∧ After g g' ∧ After g1 g' ∧ WF K w g' S' ∧ g'.H D = some (.lst vs') ∧ Reps K w g' acc vs' ∧ Off g' D ∧ ¬ g'.F D ∧
          EvQ K w g Q ((lcLoop (its.src.still true) f (its.xs.drop (i + 1)) acc S').bind fun ys s => .ok (fresh (.lst ys)) s), fun H2 q => ⟨its.xs.length - (i + 1), by omega, rfl, hlt, q⟩, fun x H2 y => ?_⟩
        obtain ⟨g2, rfl, A2, W2, r2⟩ := yl x H2 y
        obtain ⟨_, W0, ge, E⟩ := B
        have E2 : EnvR K w ge g2 ρ σ := (E.after A' W0).after A2 W'
        rw [← hf] at hh
        have A2' := A'.trans A2
        have A12 := A1'.trans A2
        have hD2 : g2.H D = some (.lst vs') := A2.keep D _ hDl off
        have ra2 := ra.mono (A2.mono W')
        have off2 : Off g2 D := A2.off (by rw [hDl]; simp) off
        have nf2 : ¬ g2.F D := fun z => (A2.nF D z).elim nf (by rw [hDl]; simp)
        -- the turn's value
        have value : ∀ (r' : Env) (σ2 : L2.St) (g3 : Gh) (S3 : Sto), After g g3 → After g1 g3 → WF K w g3 S3 → EnvR K w ge g3 r' σ2 → g3.H D = some (.lst vs') → Reps K w g3 acc vs' → Off g3 D → ¬ g3.F D →
              EvQ K w g Q (((ev c r' elt S3).bind fun x s => (ofOpt (esc x) s).bind fun y s => .ok (some y) s).bind fun o s => (match o with
                | some y => if acc.length < 16777216 then lcLoop (its.src.still true) f (its.xs.drop (i + 1)) (acc ++ [y]) s else .bad
                | none => lcLoop (its.src.still true) f (its.xs.drop (i + 1)) acc s).bind fun ys s => .ok (fresh (.lst ys)) s) →
              tE K w c elt σ2 g3.H fun y H4 => ∃ acc, H4 D = some (.lst acc) ∧ acc.length < sizeLine ∧ ∃ g' S' acc' vs', g'.H = upd H4 D (.lst (acc ++ [y])) ∧ After g g' ∧ After g1 g' ∧ WF K w g' S' ∧ g'.H D = some (.lst vs') ∧ Reps K w g' acc' vs' ∧ Off g' D ∧ ¬ g'.F D ∧
                EvQ K w g Q ((lcLoop (its.src.still true) f (its.xs.drop (i + 1)) acc' S').bind fun ys s => .ok (fresh (.lst ys)) s) := fun r' σ2 g3 S3 A3 A13 W3 E3 hD3 ra3 off3 nf3 hh => by
            rw [Res.assoc] at hh
            refine ⟨r', g3, S3, ⟨rfl, W3, ge, E3⟩, EvQ.bind' A3 hh fun y S4 g4 u A4 A34 W4 r4 h4 => ?_⟩
            cases he : esc y with
            | none => rw [he] at h4; exact h4.elim
            | some d =>
              rw [he, ofOpt_some, Res.bind_ok, Res.bind_ok] at h4
              have h4 : EvQ K w g Q ((if acc.length < 16777216 then lcLoop (its.src.still true) f (its.xs.drop (i + 1)) (acc ++ [d]) S4 else .bad).bind fun ys s => .ok (fresh (.lst ys)) s) := h4
              split at h4
              · rename_i hacc
                obtain ⟨g5, e5, A35, M5, W5, r5⟩ := esc_hold A34 W4 r4 he
                have hD5 : g5.H D = some (.lst vs') := A35.keep D _ hD3 off3
                have off5 : Off g5 D := A35.off (by rw [hD3]; simp) off3
                have nf5 : ¬ g5.F D := fun z => (A35.nF D z).elim nf3 (by rw [hD3]; simp)
                have ra5 := ra3.mono (A35.mono W3)
                refine ⟨vs', by rw [← e5]; exact hD5, by rw [lineN, ← ra5.length]; exact hacc, g5.bump D (.lst (vs' ++ [u])), S4, acc ++ [d], vs' ++ [u], by rw [← e5]; rfl, (A3.trans A35).bump h0, (A13.trans A35).bump hD, W5.bump nf5 off5, ?_, ?_, off5, nf5, h4⟩
                · show upd g5.H D _ D = _
                  rw [upd_same]
                · exact (ra5.append (.cons r5 .nil)).mono (Mono.bump nf5 off5)
              · exact h4.elim
        cases hb : bindT (wipeE ρ vs) tg its.xs[i] with
        | none => simp only [hb] at hh; exact hh.elim
        | some r' =>
          simp only [hb] at hh
          refine gT_ok (E2.wipe vs) r2 hb fun σ2 E3 hw => ⟨by rw [hw vs hvs, wipe_idem], ?_⟩
          rw [hf] at hh
          cases ifs with
          | none => exact value r' σ2 g2 S' A2' A12 W2 E3 hD2 ra2 off2 nf2 hh
          | some t =>
            simp only at hh
            rw [Res.assoc] at hh
            refine ⟨r', g2, S', ⟨rfl, W2, ge, E3⟩, EvQ.bind A2' hh fun b S3 g3 u A3 A23 W3 r3 h3 => ?_⟩
            have hD3 : g3.H D = some (.lst vs') := A23.keep D _ hD2 off2
            have off3 : Off g3 D := A23.off (by rw [hD2]; simp) off2
            have nf3 : ¬ g3.F D := fun z => (A23.nF D z).elim nf2 (by rw [hD2]; simp)
            have ra3 := ra2.mono (A23.mono W2)
            obtain ⟨db, tb⟩ := b
            cases db with
            | bl k =>
              cases rep_bl r3 rfl
              refine ⟨k, rfl, ?_⟩
              cases k with
              | true =>
                rw [if_pos rfl]
                exact value r' σ2 g3 S3 A3 (A12.trans A23) W3 (E3.after A23 W2) hD3 ra3 off3 nf3 h3
              | false =>
                rw [if_neg (by decide)]
                exact ⟨g3, S3, acc, vs', rfl, A3, A12.trans A23, W3, hD3, ra3, off3, nf3, h3⟩
            | _ => exact h3.elim
    · have e : i = its.xs.length := by omega
      rw [List.drop_eq_nil_of_le (by omega)] at hh
      unfold lcLoop at hh
      cases hst : its.src.still true S' with
      | false => rw [hst] at hh; exact hh.elim
      | true =>
        rw [hst, if_pos rfl, Res.bind_ok] at hh
        have wki := wk true g' S' (A1'.mono W1) (fun _ => A1') W' hst i
        exact .inl ⟨wki.2 e, hh g' _ A' W' ⟨D, rfl, ⟨off, nf, vs', hDl, ra⟩, h0⟩⟩
end
end Mp
set_option Elab.async false
set_option linter.all false
set_option maxRecDepth 100000
set_option maxHeartbeats 4000000
/-! sorted(xs) -/
namespace PySem.W
open PySem PySem.Calls PyProof.Rows
section
variable {prog : Program} {w : World} {A : Around} {s : Shared}
/-- v is one of vs, a tuple led by the text z -/
def Led (h : Heap) (vs : List Value) (v : Value) (z : Str) : Prop := v ∈ vs ∧ ∃ a o xs n t, v = .ref a ∧ h.get? a = some o ∧ o.cls = .type "tuple" ∧ o.data = .seq xs n ∧ xs[0]? = some (.str z t)
theorem Led.uniq {h : Heap} {vs : List Value} {v : Value} {z y : Str} (h1 : Led h vs v z) (h2 : Led h vs v y) : z = y := by
  obtain ⟨_, a, o, xs, n, t, rfl, e1, _, e2, e3⟩ := h1
  obtain ⟨_, b, o', xs', n', t', e0, f1, _, f2, f3⟩ := h2
  cases e0
  rw [e1] at f1
  cases f1
  rw [e2] at f2
  cases f2
  rw [e3] at f3
  cases f3
  rfl
noncomputable def ledKind (h : Heap) (vs : List Value) : PyProof.Rows.KeyKind where
  toKeyOrd := listOrd itemOrd
  keyOf v := open Classical in if q : ∃ z, Led h vs v z then some (keyToks (.str q.choose)) else none
  dflt := ([] : List (Int ⊕ List Nat))
theorem ledKind_some {h : Heap} {vs : List Value} {v : Value} {z : Str} (l : Led h vs v z) : (ledKind h vs).keyOf v = some (keyToks (.str z)) := by
  have q : ∃ z, Led h vs v z := ⟨z, l⟩
  have e : (ledKind h vs).keyOf v = some (keyToks (.str q.choose)) := by
    show (open Classical in if q : ∃ z, Led h vs v z then some (keyToks (.str q.choose)) else none) = _
    rw [dif_pos q]
  rw [e, q.choose_spec.uniq l]
theorem ledKind_inv {h : Heap} {vs : List Value} {v : Value} {k : List (Int ⊕ List Nat)} (e : (ledKind h vs).keyOf v = some k) : ∃ z, Led h vs v z ∧ k = keyToks (.str z) := by
  by_cases q : ∃ z, Led h vs v z
  · obtain ⟨z, l⟩ := q
    rw [ledKind_some l] at e
    exact ⟨z, l, (Option.some.inj e).symm⟩
  · have e' : (ledKind h vs).keyOf v = none := by
      show (open Classical in if q : ∃ z, Led h vs v z then some (keyToks (.str q.choose)) else none) = _
      rw [dif_neg q]
      rfl
    rw [e'] at e
    exact absurd e (by simp)
theorem each_led {h : Heap} {us : List Value} : ∀ {vs : List Value} {zs : List Str}, EachIs (fun v z => Led h us v z) vs zs → ∃ fs, KatTups h vs fs ∧ fs.length = vs.length ∧ ∀ f ∈ fs, ∃ z t, f = .str z t
  | _, _, .nil => ⟨[], KatTups.nil, rfl, fun f hf => absurd hf (by simp)⟩
  | _, _, .cons ⟨_, a, o, xs, n, t, e, ho, hc, hd, hx⟩ r => by
    obtain ⟨fs, h1, h2, h3⟩ := each_led r
    subst e
    refine ⟨_ :: fs, KatTups.cons ho hc hd hx h1, by rw [List.length_cons, List.length_cons, h2], fun f hf => ?_⟩
    rcases List.mem_cons.mp hf with rfl | hf
    · exact ⟨_, t, rfl⟩
    · exact h3 f hf
theorem led_one {h : Heap} {us : List Value} : ∀ {vs : List Value} {zs : List Str}, EachIs (fun v z => Led h us v z) vs zs → zs.Nodup → ∀ {x y : Value} {z : Str}, x ∈ vs → y ∈ vs → Led h us x z → Led h us y z → x = y
  | _, _, .nil, _, x, y, z, hx, _, _, _ => absurd hx (by simp)
  | _, _, .cons l r, nd, x, y, z, hx, hy, lx, ly => by
    rw [List.nodup_cons] at nd
    have far : ∀ {u : Value}, u ∈ _ → Led h us u z → ∃ z' ∈ _, z' = z := fun {u} hu lu => by
      obtain ⟨z', hz', l'⟩ := r.left u hu
      exact ⟨z', hz', l'.uniq lu⟩
    rcases List.mem_cons.mp hx with ex | hx2 <;> rcases List.mem_cons.mp hy with ey | hy2
    · rw [ex, ey]
    · subst ex
      obtain ⟨z', hz', e⟩ := far hy2 ly
      have := l.uniq lx
      exact absurd (by rw [this, ← e]; exact hz') nd.1
    · subst ey
      obtain ⟨z', hz', e⟩ := far hx2 lx
      have := l.uniq ly
      exact absurd (by rw [this, ← e]; exact hz') nd.1
    · exact led_one r nd.2 hx2 hy2 lx ly
theorem kat_self {b fin : Bool} {Q : Bool → Shared → Prop} : ∀ (l : List Value) (i : Nat), Q fin s → KatLex prog w A b fin Q (l.zip l) i s
  | [], i, h => kat_nil h
  | v :: l, i, h => by
    rw [List.zip_cons_cons]
    refine kat_cons ?_
    unfold eqBool
    refine wpAny_holding ?_
    rw [if_pos (beq_self_eq_true v)]
    refine wpAny_bind (wpAny_rule (wpAny_pure ?_))
    exact kat_yes (kat_self l (i + 1) h)
theorem SortsAt.led {vs : List Value} {zs : List Str} (e : EachIs (fun v z => Led s.heap vs v z) vs zs) (nd : zs.Nodup) (hu : A.units + 64 < cLine) : SortsAt prog w A s (ledKind s.heap vs) vs := by
  refine ⟨fun v hv => ?_, tuples' (Value.type "str" != Value.type "tuple"), ?_, fun h2 E Q hq => ?_⟩
  · obtain ⟨z, _, l⟩ := e.left v hv
    exact ⟨_, ledKind_some l⟩
  · intro E x y a b Q ha hb hq
    obtain ⟨z, lz, rfl⟩ := ledKind_inv ha
    obtain ⟨z', lz', rfl⟩ := ledKind_inv hb
    have hq' : Q (dataLt (.str z) (.str z')) s := hq
    obtain ⟨m1, p, o, xs, n, t, rfl, h1, h2, h3, h4⟩ := id lz
    obtain ⟨m2, p', o', xs', n', t', rfl, k1, k2, k3, k4⟩ := id lz'
    refine kat_lt h1 h3 k1 k3 ?_
    by_cases hz : z = z'
    · subst hz
      cases led_one e nd m1 m2 lz lz'
      rw [h1] at k1
      cases k1
      rw [h3] at k3
      cases k3
      refine kat_self _ _ ?_
      have : dataLt (.str z) (.str z) = false := lex_irrefl ..
      rw [this] at hq'
      simpa using hq'
    · obtain ⟨l, hl⟩ : ∃ l, xs.toList = .str z t :: l := by
        cases q : xs.toList with
        | nil => rw [← Array.getElem?_toList, q] at h4; cases h4
        | cons f r => rw [← Array.getElem?_toList, q] at h4; cases h4; exact ⟨r, rfl⟩
      obtain ⟨l', hl'⟩ : ∃ l, xs'.toList = .str z' t' :: l := by
        cases q : xs'.toList with
        | nil => rw [← Array.getElem?_toList, q] at k4; cases k4
        | cons f r => rw [← Array.getElem?_toList, q] at k4; cases k4; exact ⟨r, rfl⟩
      rw [hl, hl', List.zip_cons_cons]
      have hx : PyData.eqv (.str z) (.str z') = false := by
        simp [PyData.eqv, hz]
      refine kat_cons (eqAt_alike (.str z) (.str z') A s _ _ _ _ (Reads.str z t) (Reads.str z' t') rfl (by simp [PyData.depth]; omega) prog w _ _ ?_)
      rw [hx]
      exact kat_no (oneLt_alike (fun _ _ => by simp) (Reads.str z t) (Reads.str z' t') rfl (by simp) (by simp [PyData.depth]; omega) hq')
  · obtain ⟨fs, t1, t2, t3⟩ := each_led e
    refine kat_kind (T := Value.type "str") t1 (by omega) (fun f hf => ?_) (beq_self_eq_true _) hq
    obtain ⟨z, t, rfl⟩ := t3 f hf
    exact looks_reads (d := .str z) (Reads.str z t)
end
end PySem.W
set_option Elab.async false
set_option linter.all false
set_option maxRecDepth 100000
set_option maxHeartbeats 4000000
/-! sorted(xs): the reading -/
namespace Mp
open PySem PySem.Spec PyProof.Rows L2
section
variable {K : W.Frag} {w : World} {g : Gh}
def RV (K : W.Frag) (w : World) (g : Gh) (v : Value) (b : D × V) : Prop := RelV b.2 v ∧ Rep K w g b.1 b.2
theorem each_rv : ∀ {xs : List D} {us : List V} {its : List Value}, Reps K w g xs us → Vals us its → PySem.W.EachIs (RV K w g) its (xs.zip us) ∧ (xs.zip us).map (·.1) = xs
  | [], _, _, r, v => by cases r; cases v; exact ⟨.nil, rfl⟩
  | x :: xs, _, _, r, v => by
    cases r with
    | cons r1 r2 =>
      cases v with
      | cons v1 v2 =>
        obtain ⟨h1, h2⟩ := each_rv r2 v2
        exact ⟨.cons ⟨v1, r1⟩ h1, by rw [List.zip_cons_cons, List.map_cons, h2]⟩
theorem rv_out : ∀ {out : List Value} {bs : List (D × V)}, PySem.W.EachIs (RV K w g) out bs → Vals (bs.map (·.2)) out ∧ Reps K w g (bs.map (·.1)) (bs.map (·.2))
  | _, _, .nil => ⟨.nil, .nil⟩
  | _, _, .cons h t => by
    obtain ⟨h1, h2⟩ := rv_out t
    exact ⟨.cons h.1 h1, .cons h.2 h2⟩
theorem leads_at : ∀ {xs : List D} {zs : List Str}, leads xs = some zs → zs.length = xs.length ∧ ∀ (i : Nat) (d : D), xs[i]? = some d → ∃ z, zs[i]? = some z ∧ leadStr d = some z
  | [], zs, h => by cases h; exact ⟨rfl, fun i d e => by simp at e⟩
  | x :: xs, zs, h => by
    unfold leads at h
    split at h
    · rename_i z zs' h1 h2
      cases h
      obtain ⟨l, f⟩ := leads_at h2
      refine ⟨by simp [l], fun i d e => ?_⟩
      cases i with
      | zero => simp at e; subst e; exact ⟨z, rfl, h1⟩
      | succ i => simpa using f i d (by simpa using e)
    · cases h
theorem leadStr_inv {d : D} {z : Str} (h : leadStr d = some z) : ∃ r, d = .tup (.str z :: r) := by
  unfold leadStr at h
  split at h
  · cases h; exact ⟨_, rfl⟩
  · cases h
end
def rSortD (w : World) (K : W.Frag) : List V → Hp → VK → Prop := fun vs H Q => ∃ (g : Gh) (a : Addr) (xs ys : List D) (us : List V), g.H = H ∧ vs = [.ref a] ∧ H a = some (.lst us) ∧ Reps K w g xs us ∧ sortD xs = some ys ∧
  ∀ us' p, Reps K w g ys us' → H p = none → Q (.ref p) (upd H p (.lst us'))
section
variable {X : Cx}
theorem each_led_of {g : Gh} {pins : List (Addr × Obj)} {σ : L2.St} {s : Shared} (I : Inv X pins σ g.H s) {h' : Heap} (kp : ∀ b o, s.heap.get? b = some o → h'.get? b = some o) {its0 : List Value} : ∀ {xs : List D} {us : List V} {its : List Value} {zs : List Str}, Reps X.K X.w g xs us → Vals us its → leads xs = some zs → (∀ v ∈ its, v ∈ its0) →
    PySem.W.EachIs (fun v z => PySem.W.Led h' its0 v z) its zs
  | [], _, _, _, r, v, h, hm => by cases r; cases v; cases h; exact .nil
  | x :: xs, _, _, _, r, v, h, hm => by
    cases r with
    | cons r1 r2 =>
      cases v with
      | cons v1 v2 =>
        unfold leads at h
        split at h
        · rename_i z zs' h1 h2
          cases h
          refine .cons ⟨hm _ List.mem_cons_self, ?_⟩ (each_led_of I kp r2 v2 h2 fun v hv => hm v (List.mem_cons_of_mem _ hv))
          obtain ⟨rest, rfl⟩ := leadStr_inv h1
          obtain ⟨a, vs, rfl, hS, hR⟩ := view_tup (x := .non) r1
          cases v1
          obtain ⟨ts, rv, ⟨o, ho, hc, n, hd⟩, _⟩ := I.tuple hS
          cases hR with
          | cons q1 q2 =>
            cases q1
            cases rv with
            | cons p1 p2 =>
              obtain ⟨t, rfl⟩ := p1
              exact ⟨a, o, _, n, t, rfl, kp _ _ ho, hc, hd, by simp⟩
        · cases h
theorem call_sortD (hu : X.A.units + 200 < cLine) : CallR X (.builtin "sorted") (rSortD X.w X.K) := by
  intro pins s σ H vs us0 Q I r h
  obtain ⟨g, a, xs, ys, us, rfl, rfl, ha, hR, hs, q⟩ := h
  obtain ⟨hz, its, n, rv, hlen, ho⟩ := I.lstM ha
  rw [Vals.ref1 r]
  obtain ⟨e, efst⟩ := each_rv hR rv
  have hl : s.heap.IsList a its.toArray := ⟨_, ho, rfl, n, rfl⟩
  have hbl : (xs.zip us).length = us.length := by rw [List.length_zip, hR.length, Nat.min_self]
  have fin : ∀ (out : List Value) (bs : List (D × V)), PySem.W.EachIs (RV X.K X.w g) out bs → bs.length = us.length → bs.map (·.1) = ys → EP X pins σ Q (.ref (s.heap.objs.size + 1)) { s with heap := sortedAll s.heap its out.toArray } := fun out bs h1 h2 h3 => by
    obtain ⟨k1, k2⟩ := rv_out h1
    obtain ⟨ep, he'⟩ := PyProof.Rows.sortedAll_at s.heap its out.toArray
    have hlen' : (bs.map (·.2)).length ≤ sizeLine := by rw [List.length_map, h2]; exact hz
    exact ⟨.ref _, upd g.H (s.heap.objs.size + 1) (.lst (bs.map (·.2))), I.laid (t' := s.toks) (fun _ _ => PyProof.Rows.sortedAll_old) (Nat.le_succ _) ⟨hlen', out, ep, k1, he'⟩, rfl, q _ _ (by rw [← h3]; exact k2) (I.hok.fresh (Nat.le_succ _))⟩
  unfold sortD at hs
  split at hs
  · rename_i hc
    cases hs
    obtain ⟨hc, hc3⟩ := Bool.and_eq_true_iff.mp hc
    obtain ⟨hc1, hc2⟩ := Bool.and_eq_true_iff.mp hc
    have hmem : ∀ b ∈ xs.zip us, b.1 ∈ xs := fun b hb => (List.of_mem_zip hb).1
    have hal : PySem.W.AllAlike ((xs.zip us).map fun b => b.1.pd) := fun d hd d' hd' => by
      obtain ⟨b, hb, rfl⟩ := List.mem_map.mp hd
      obtain ⟨b', hb', rfl⟩ := List.mem_map.mp hd'
      have := List.all_eq_true.mp hc1 b.1 (hmem b hb)
      exact List.all_eq_true.mp this b'.1 (hmem b' hb')
    have hsh : ∀ b ∈ xs.zip us, SeqAt.shaped b.1.pd = true := fun b hb => List.all_eq_true.mp hc3 b.1 (hmem b hb)
    have er : ∀ {its : List Value} {bs : List (D × V)}, PySem.W.EachIs (RV X.K X.w g) its bs → (∀ b ∈ bs, SeqAt.shaped b.1.pd = true) → PySem.W.EachIs (fun v b => ∃ as, Reads s.heap v b.1.pd as) its bs := fun e => by
      induction e with
      | nil => intro _; exact .nil
      | cons h t ih =>
        intro hb
        exact .cons (Dp.reads I _ _ _ (dp_of h.2 (SeqAt.canLay_of_shaped (hb _ List.mem_cons_self))) h.1) (ih fun b hm => hb b (List.mem_cons_of_mem _ hm))
    have hk : PySem.W.Sortable ((xs.zip us).map fun b => b.1.pd) := by
      rcases Bool.or_eq_true_iff.mp hc2 with h2 | h2
      · refine .inl fun d hd => ?_
        obtain ⟨b, hb, rfl⟩ := List.mem_map.mp hd
        have := List.all_eq_true.mp h2 b.1 (hmem b hb)
        split at this
        · rename_i y r e
          rw [e]
          exact ⟨y.pd, D.pds r, rfl⟩
        · cases this
      · refine .inr fun d hd => ?_
        obtain ⟨b, hb, rfl⟩ := List.mem_map.mp hd
        have := List.all_eq_true.mp h2 b.1 (hmem b hb)
        split at this
        · rename_i z e
          rw [e]
          exact ⟨by simp [D.pd], fun _ => by simp [D.pd]⟩
        · rename_i z e
          rw [e]
          exact ⟨by simp [D.pd], fun _ => by simp [D.pd]⟩
        · cases this
    refine PySem.W.sorted_data (R := RV X.K X.w g) (enc := fun b => b.1.pd) hl e (er e hsh) hal hk (by rw [hbl]; exact hz) (fun b hb => ?_) fun out h1 h2 => fin out _ h2 (by rw [(List.mergeSort_perm _ _).length_eq]; exact hbl) ?_
    · have := hsh b hb
      unfold SeqAt.shaped at this
      have := of_decide_eq_true (Bool.and_eq_true_iff.mp this).2
      omega
    · exact (List.map_mergeSort (r := PySem.W.dataLe false fun b : D × V => b.1.pd) (s := PySem.W.dataLe false D.pd) (f := fun b : D × V => b.1) (fun _ _ _ _ => rfl)).trans (by rw [efst])
  · split at hs
    · rename_i zs hzs
      split at hs
      · rename_i hnd
        cases hs
        have kp : ∀ b o, s.heap.get? b = some o → (PySem.W.sortingHeap (PySem.W.copyHeap s.heap its) (s.heap.objs.size + 1) its).get? b = some o := fun _ _ => PySem.W.sorting_copy_old
        have el := each_led_of (its0 := its) I kp hR rv hzs (fun v hv => hv)
        refine PySem.W.sorted_vals (κ := PySem.W.ledKind (PySem.W.sortingHeap (PySem.W.copyHeap s.heap its) (s.heap.objs.size + 1) its) its) hl (PySem.W.SortsAt.led (s := { s with heap := PySem.W.sortingHeap (PySem.W.copyHeap s.heap its) (s.heap.objs.size + 1) its }) el hnd (by show X.A.units + 1 + 1 + 64 < cLine; omega)) (by rw [← hlen]; exact hz) ?_
        refine fin _ ((xs.zip us).mergeSort (PySem.W.dataLe false fun b => .str ((leadStr b.1).getD Str.empty))) ?_ (by rw [(List.mergeSort_perm _ _).length_eq]; exact hbl) ((List.map_mergeSort (r := PySem.W.dataLe false fun b : D × V => .str ((leadStr b.1).getD Str.empty)) (s := PySem.W.dataLe false fun d => .str ((leadStr d).getD Str.empty)) (f := fun b : D × V => b.1) (fun _ _ _ _ => rfl)).trans (by rw [efst]))
        refine PySem.W.sortVals_each (κ := PySem.W.ledKind _ its) (fun b => PySem.W.keyToks (.str ((leadStr b.1).getD Str.empty))) e ?_
        have go : ∀ {its' : List Value} {xs' : List D} {us' : List V} {zs' : List Str} {h : Heap}, PySem.W.EachIs (fun v z => PySem.W.Led h its v z) its' zs' → leads xs' = some zs' → xs'.length = us'.length →
            PySem.W.EachIs (fun v b => (PySem.W.ledKind h its).keyOf v = some (PySem.W.keyToks (.str ((leadStr b.1).getD Str.empty)))) its' (xs'.zip us') := fun {its' xs' us' zs' h} el => by
          induction el generalizing xs' us' with
          | nil =>
            intro hx _
            cases xs' with
            | nil => exact .nil
            | cons x xs' =>
              unfold leads at hx
              split at hx
              · cases hx
              · cases hx
          | cons l t ih =>
            intro hx hlen
            cases xs' with
            | nil => cases hx
            | cons x xs' =>
              cases us' with
              | nil => cases hlen
              | cons u us' =>
                unfold leads at hx
                split at hx
                · rename_i z zs2 q1 q2
                  cases hx
                  refine .cons ?_ (ih q2 (by simpa using hlen))
                  rw [PySem.W.ledKind_some l, q1]
                  rfl
                · cases hx
        exact go el hzs hR.length
      · cases hs
    · cases hs
end
section
variable {K : W.Frag} {w : World} {g g₀ : Gh} {S : Sto} {z : DT} {v : V} {Q : VK}
theorem sort_core {d : D} (A : After g₀ g) (W : WF K w g S) (r : RepA K w g g₀ d v) (h : bltF S .sorted [d] = some z) (fin : Fin K w g₀ g S z Q) : rSortD w K [v] g.H Q := by
  obtain ⟨t, r⟩ := r
  have h : (match lstV S d with | some xs => (sortD xs).map fun ys => fresh (.lst ys) | none => none) = some z := h
  split at h
  · rename_i xs hx
    obtain ⟨ys, hy, rfl⟩ := Option.map_eq_some_iff.mp h
    obtain ⟨a, us, rfl, h1, hr⟩ := view_lst W r hx
    exact ⟨g, a, xs, ys, us, rfl, rfl, h1, hr, hy, fun us' p r' hp => fin.lst A W r' p hp⟩
  · cases h
end
end Mp
set_option Elab.async false
set_option linter.all false
set_option maxRecDepth 100000
set_option maxHeartbeats 4000000
/-! list(x), d.get(k, x) -/
namespace Mp
open PySem PySem.Spec PyProof.Rows L2

theorem DicVw.ents {K : W.Frag} {w : World} {g : Gh} {d : Addr} {ks : List NestedKey} {vs : List D} (h : DicVw K w g d ks vs) : ∃ es ep kvs vvs, Ents K g.H d es ep kvs vvs ∧ kvs.length = es.size ∧ Reps K w g (ofKeys ks) kvs ∧ Reps K w g vs vvs ∧ es.size ≤ sizeLine := by
  obtain ⟨es, ep, xs, kvs, vvs, h1, ⟨h2, rfl⟩, h3, h4, h5, h6, hn, hd, hz, hvl, hm⟩ := h
  have k1 : es.toList.map (·.key) = xs.map (·.2.1) := by rw [h2, List.map_map]; rfl
  have k2 : es.toList.map (·.val) = xs.map (·.2.2) := by rw [h2, List.map_map]; rfl
  have hsz : es.size = xs.length := by rw [← Array.length_toList, h2, List.length_map]
  exact ⟨es, ep, kvs, vvs, ⟨h1, by rw [k1]; exact h3, by rw [k2]; exact h4, hm⟩, by rw [h3.length, List.length_map, hsz], h5, h6, by rw [hsz]; simpa using hz⟩
/-- list(d) -/
def rListDc (w : World) (K : W.Frag) : List V → Hp → VK → Prop := fun vs H Q => ∃ (g : Gh) (d : Addr) (ks : List NestedKey) (us : List D), g.H = H ∧ vs = [.ref d] ∧ DicVw K w g d ks us ∧
  ∀ kvs p, Reps K w g (ofKeys ks) kvs → H p = none → Q (.ref p) (upd H p (.lst kvs))
section
variable {X : Cx}
theorem call_listDc (hc : X.calm = true) : CallR X (.type "list") (rListDc X.w X.K) := by
  intro pins s σ H vs us Q I r h
  obtain ⟨g, d, ks, ds, rfl, rfl, hD, q⟩ := h
  rw [Vals.ref1 r]
  obtain ⟨es, ep, kvs, vvs, ⟨he, k1, k2, hs⟩, hl, r1, r2, hz⟩ := hD.ents
  refine PySem.W.kdl_call (PySem.KdlSrc.rawDict hs) (I.ok.hd hc) (he.raw I) hz fun h' tk acc' c' hk ho hi => ?_
  have hv : Vals kvs acc'.toList := by
    refine L2.vals_of_at (by rw [hl]; simp [hi.1]) fun j x u hx hu => ?_
    have hj : j < es.size := by rw [← hl]; exact (List.getElem?_eq_some_iff.mp hx).1
    obtain ⟨v, hv, rv⟩ := vals_at k1 hj
    rw [hx] at hv
    cases hv
    obtain ⟨hj', rfl⟩ := hi.2 j u (by rw [← Array.getElem?_toList]; exact hu)
    exact rv
  exact ⟨.ref s.heap.objs.size, upd g.H s.heap.objs.size (.lst kvs), I.laid (t' := tk) hk (Nat.le_refl _) ⟨by rw [hl]; exact hz, acc'.toList, c', hv, by rw [ho]⟩, rfl, q kvs _ r1 (I.hok.fresh (Nat.le_refl _))⟩
def rListOf (K : W.Frag) : List V → Hp → VK → Prop := fun xs H Q => ∃ p ys, xs = [.ref p] ∧ (SqL K H p ys ∨ SqT K H p ys) ∧ ∀ l, H l = none → Q (.ref l) (upd H l (.lst ys))
def rListA (w : World) (K : W.Frag) : List V → Hp → VK → Prop := fun vs H Q => rListOf K vs H Q ∨ rListDc w K vs H Q
theorem call_listA (hc : X.calm = true) : CallR X (.type "list") (rListA X.w X.K) := call_list_of.or (call_listDc hc)
end
section
variable {K : W.Frag} {w : World} {g g' g₀ : Gh} {S : Sto} {x y z : DT} {v u : V} {Q : VK}
theorem list_core {d : D} {v : V} (A : After g₀ g) (W : WF K w g S) (r : RepA K w g g₀ d v) (h : bltF S .list [d] = some z) (fin : Fin K w g₀ g S z Q) : rListA w K [v] g.H Q := by
  obtain ⟨t, r⟩ := r
  have h : (match seqV S d with
    | some xs => some (fresh (.lst xs))
    | none => match dicV S d with
      | some (ks, _) => some (fresh (.lst (ofKeys ks)))
      | none => none) = some z := h
  split at h
  · rename_i xs hx
    cases h
    obtain ⟨a, vs, rfl, hq, hr⟩ := view_seq W r hx
    exact .inl ⟨a, vs, rfl, hq, fin.lst A W hr⟩
  · split at h
    · rename_i ks vs hd
      cases h
      obtain ⟨a, rfl, hD⟩ := view_dic W r hd
      exact .inr ⟨g, a, ks, vs, rfl, rfl, hD, fun kvs p hr hp => fin.lst A W hr p hp⟩
    · cases h
end

/-! ### d.get(k, x) -/
def tGet2 (w : World) (K : W.Frag) (to : TE) (t : TA) : TE := fun σ H Q => to σ H fun x H1 => (∃ g d ks vs, g.H = H1 ∧ x = .ref d ∧ DicVw K w g d ks vs) ∧ t σ H1 fun us H2 => ∃ (g : Gh) (d : Addr) (ks : List NestedKey) (vs : List D) (k : NestedKey) (dz : D) (y z : V),
  g.H = H2 ∧ x = .ref d ∧ us = [y, z] ∧ DicVw K w g d ks vs ∧ Rep K w g (ofKey k) y ∧ k.depth ≤ 8 ∧ Rep K w g dz z ∧ ∀ v, Rep K w g ((look ks vs k).getD dz) v → Q v H2
theorem pe_get2 {X : Cx} {o e e2 : Expr} {to : TE} {t : TA} {apos cpos : Pos} (hu : X.A.units + 10 < cLine) (ho : PE X o to) (ha : PA X [e, e2] t) (hbase : attributeBase o "get" X.env (eval o X.env) = eval o X.env)
    (hfew : ((backTo cpos (starEach [e, e2] X.env)).all (fun x => !x.1) && (backToKw cpos (keywordEach [] X.env)).all (fun x => x.1.isSome)
      && decide (([e, e2] : List Expr).length + ([] : List Keyword).length + (if ([] : List Keyword).isEmpty then 0 else 1) < 30)) = true)
    (hline : (apos.endLine == cpos.line) = true) (hs : starEach [e, e2] X.env = (false, eval e X.env) :: starEach [e2] X.env) (hplain : (backTo cpos (starEach [e2] X.env)).any (·.1) = false) :
    PE X (.Call (.Attribute o "get" apos) [e, e2] [] cpos) (tGet2 X.w X.K to t) := by
  refine ⟨fun pins s σ H Q I h => ?_⟩
  refine wpAny_Call_method_late hbase hfew hline rfl (thn (ho.run pins s σ H _ I h) fun v s1 ⟨x, H1, I1, r1, ⟨g, d, ks, vs, e1, ex, hD⟩, q1⟩ => ?_)
  subst ex
  subst e1
  cases r1
  obtain ⟨es, ep, kvs, vvs, ⟨he, _, _, _⟩, _⟩ := hD.ents
  have raw := he.raw I1
  refine ⟨"dict", "dict.get", F.plainAttrs_dict, F.slot_dict_get, F.type_dict_get, raw.typeIs, raw_nodict raw, ?_⟩
  have hA := ha.run cpos pins s1 σ _ _ I1 q1
  rw [hs] at hA ⊢
  refine Calls.callWith_builtin (by show (false || (backTo cpos (starEach [e2] X.env)).any (·.1)) = false; rw [hplain] <;> rfl) (Calls.evalArgs_plain ?_)
  refine thn hA fun us s2 ⟨vs2, H2, I2, r2, q2⟩ => ?_
  obtain ⟨g2, d2, ks2, us2, k, dz, y, z, rfl, ed, rfl, hD2, hk, hd, hz, q⟩ := q2
  cases ed
  obtain ⟨u1, u2, rfl, ry, rz⟩ := vals2 r2
  exact dic_get2 hu I2 hD2 hk hd ry hz rz q
end Mp
set_option Elab.async false
set_option linter.all false
set_option maxRecDepth 100000
set_option maxHeartbeats 4000000
/-! dict displays -/
namespace Mp
open PySem PySem.Spec PyProof.Rows L2
theorem nodup_map {α β : Type} {f : α → β} (hf : ∀ a b, f a = f b → a = b) {l : List α} (h : l.Nodup) : (l.map f).Nodup :=
  List.pairwise_map.mpr (h.imp fun {a b} hne e => hne (hf a b e))
def toN : Key → NestedKey
  | .inl i => .num i
  | .inr z => .text z
theorem toN_hash (w : World) : ∀ k : Key, NestedKey.hash w (toN k) = keyH w k
  | .inl _ => rfl
  | .inr _ => rfl
theorem toN_inj {a b : Key} (h : toN a = toN b) : a = b := by
  cases a <;> cases b <;> simp [toN] at h <;> rw [h]
theorem mix_entries {P : Program} {w : World} : ∀ {es : List DictEntry} {kvs : List (Key × V)} {vs : List (Key × Value)}, KV kvs vs → Pairs (mixKind P w) es vs → (∀ e ∈ es, ∃ k, (mixKind P w).is k e.key = true ∧ e.hash = (mixKind P w).hash k) →
    ∃ xs : List KE3, es = xs.map (entK w) ∧ xs.map (·.1) = kvs.map (fun p => toN p.1) ∧ Vals (kvs.map fun p => kV p.1) (xs.map (·.2.1)) ∧ Vals (kvs.map (·.2)) (xs.map (·.2.2))
  | es, [], [], kv, pr, _ => by
    cases pr
    exact ⟨[], rfl, rfl, .nil, .nil⟩
  | es, [], _ :: _, kv, pr, _ => by cases kv
  | es, _ :: _, [], kv, pr, _ => by cases kv
  | es, p :: ps, q :: qs, kv, pr, hk => by
    cases kv with
    | cons r rt =>
      cases pr with
      | @cons e _ es _ h1 h2 t =>
        obtain ⟨xs, i1, i2, i3, i4⟩ := mix_entries rt t (fun e he => hk e (List.mem_cons_of_mem _ he))
        obtain ⟨k, k1, k2⟩ := hk e List.mem_cons_self
        have ek : k = q.1 := (mixKind P w).inj _ _ _ k1 h1
        subst ek
        obtain ⟨hh, hkey, hval⟩ := e
        have e2 : hh = keyH w q.1 := k2
        have e3 : hval = q.2 := h2
        refine ⟨(toN p.1, hkey, hval) :: xs, ?_, ?_, ?_, ?_⟩
        · rw [List.map_cons, ← i1, r.1]
          show _ = entK w (toN q.1, hkey, hval) :: es
          unfold entK
          rw [toN_hash, ← e2]
        · rw [List.map_cons, List.map_cons, i2]
        · rw [List.map_cons, List.map_cons]
          refine .cons ?_ i3
          rw [r.1]
          exact relV_key (show keyIs q.1 hkey = true from h1)
        · rw [List.map_cons, List.map_cons]
          refine .cons ?_ i4
          show RelV p.2 hval
          rw [e3]
          exact r.2
/-- a dict told by its keys and values, told by its entries -/
def tViewD (w : World) (t : TE) : TE := fun σ H Q => t σ H fun x H1 => ∃ (a : Addr) (kvs : List (Key × V)), x = .ref a ∧ H1 a = some (.dK kvs) ∧ ∀ (es : Array DictEntry) (ep : Nat) (xs : List KE3), es.toList = xs.map (entK w) → xs.map (·.1) = kvs.map (fun p => toN p.1) →
  Vals (kvs.map fun p => kV p.1) (xs.map (·.2.1)) → Vals (kvs.map (·.2)) (xs.map (·.2.2)) → (a == sysModules) = false → kvs.length ≤ sizeLine → Q x (upd H1 a (dcO a es ep))
theorem inv_view {X : Cx} {pins : List (Addr × Obj)} {σ : L2.St} {H : Hp} {s : Shared} {a : Addr} {kvs : List (Key × V)} (I : Inv X pins σ H s) (h : H a = some (.dK kvs)) :
    ∃ (es : Array DictEntry) (ep : Nat) (xs : List KE3), es.toList = xs.map (entK X.w) ∧ xs.map (·.1) = kvs.map (fun p => toN p.1) ∧ Vals (kvs.map fun p => kV p.1) (xs.map (·.2.1)) ∧ Vals (kvs.map (·.2)) (xs.map (·.2.2)) ∧ (a == sysModules) = false ∧ kvs.length ≤ sizeLine ∧
      Inv X pins σ (upd H a (dcO a es ep)) s := by
  obtain ⟨z, hm, vs, kv, o, es, ep, ho, hex, hd, hk, hp, hn⟩ := I.hok a _ h
  obtain ⟨xs, i1, i2, i3, i4⟩ := mix_entries kv hp (fun e he => hk e (Array.mem_toList_iff.mp he))
  refine ⟨es, ep, xs, i1, i2, i3, i4, hm, z, ?_⟩
  exact I.write (x := a) (e := a) (t' := s.toks) (by rw [h]; trivial) (.inl rfl) (fun b u hb e => e) ⟨o, ho⟩ ⟨⟨o, ho, hex, hd⟩, ⟨o, ho⟩, fun h1 h2 ⟨oo, e1, e2⟩ st => ⟨oo, st _ e1, e2⟩⟩
theorem pe_view {X : Cx} {e : Expr} {t : TE} (h : PE X e t) : PE X e (tViewD X.w t) := by
  refine ⟨fun pins s σ H Q I hq => thn (h.run pins s σ H _ I hq) fun u s1 ⟨x, H1, I1, r1, a, kvs, ex, ha, q⟩ => ?_⟩
  subst ex
  obtain ⟨es, ep, xs, h1, h2, h3, h4, h5, h6, I2⟩ := inv_view I1 ha
  exact ⟨.ref a, _, I2, r1, q es ep xs h1 h2 h3 h4 h5 h6⟩
theorem mergeK_nodup : ∀ (more kvs : List (Key × V)), ((kvs ++ more).map (·.1)).Nodup → mergeK kvs more = kvs ++ more
  | [], kvs, _ => by simp [mergeK]
  | p :: r, kvs, h => by
    have hp : p.1 ∉ kvs.map (·.1) := by
      rw [List.map_append, List.map_cons, List.nodup_append] at h
      intro hm
      exact h.2.2 _ hm _ List.mem_cons_self rfl
    have e : L2.putK kvs p.1 p.2 = kvs ++ [p] := by
      unfold L2.putK
      rw [if_neg]
      simp only [List.any_eq_true, decide_eq_true_eq, not_exists, not_and]
      exact fun x hx e => hp (List.mem_map.mpr ⟨x, hx, e⟩)
    show mergeK (L2.putK kvs p.1 p.2) r = _
    rw [e, mergeK_nodup r (kvs ++ [p]) (by simpa using h)]
    simp
def trsOf (K : W.Frag) (w : World) (c : Calls) : List Str → List CE → List (TE × TE)
  | k :: ks, e :: es => (tC (.str k), tE K w c e) :: trsOf K w c ks es
  | _, _ => []
section
variable {K : W.Frag} {w : World} {g g' g₀ g1 g2 : Gh} {S : Sto} {ρ : Env} {σ : L2.St} {H : Hp} {c : Calls} {Q : VK}
theorem tp_mono : ∀ (ks : List Str) (es : List CE) {H : Hp} {A B : List (V × V) → Hp → Prop}, tPairs (trsOf K w c ks es) σ H A → (∀ ps H, A ps H → B ps H) → tPairs (trsOf K w c ks es) σ H B
  | [], _, H, A, B, h, f => f _ _ h
  | _ :: _, [], H, A, B, h, f => f _ _ h
  | k :: ks, e :: es, H, A, B, h, f => by
    have h : tE K w c e σ H fun y H2 => tPairs (trsOf K w c ks es) σ H2 fun ps H3 => A ((V.str k, y) :: ps) H3 := h
    show tE K w c e σ H fun y H2 => tPairs (trsOf K w c ks es) σ H2 fun ps H3 => B ((V.str k, y) :: ps) H3
    exact tE_mono h fun y H2 h2 => tp_mono ks es h2 fun ps H3 h3 => f _ _ h3
theorem tp_of : ∀ (es : List CE) (ks : List Str) {H : Hp} {Q' : List V → Hp → Prop}, ks.length = es.length → tA K w c es σ H Q' →
    tPairs (trsOf K w c ks es) σ H fun ps H2 => ∃ vs : List V, vs.length = ks.length ∧ ps = ((ks.map Sum.inr : List Key).zip vs).map (fun kv => (kV kv.1, kv.2)) ∧ Q' vs H2
  | [], [], H, Q', _, h => ⟨[], rfl, rfl, i_nil h⟩
  | [], _ :: _, _, _, hl, _ => by cases hl
  | _ :: _, [], _, _, hl, _ => by cases hl
  | e :: es, k :: ks, H, Q', hl, h => by
    refine tE_mono (i_cons h) fun v H1 h1 => ?_
    have ih := tp_of es ks (by simpa using hl) h1
    exact tp_mono ks es ih fun ps H3 ⟨vs, e1, e2, e3⟩ => ⟨v :: vs, by simp [e1], by rw [e2]; rfl, e3⟩
theorem texts_reps : ∀ ks : List Str, Reps K w g (ofKeys (ks.map .text)) (ks.map V.str)
  | [] => .nil
  | k :: ks => by
    simp only [List.map_cons, ofKeys, ofKey]
    exact .cons (.str k) (texts_reps ks)
theorem i_dct {ks : List Str} {es : List CE} (hl : ks.length = es.length) (hz : ks.length ≤ 15) (hn : ks.Nodup) (h : tE K w c (.dct ks es) σ H Q) : tViewD w (tDisp (trsOf K w c ks es)) σ H Q := by
  obtain ⟨ρ, g, S, B, h⟩ := h
  unfold ev at h
  intro p hp
  obtain ⟨rfl, W0, ge, E0⟩ := id B
  have A1 : After g (g.lay p (.dK [])) := After.lay hp
  have W1 := W0.lay (o := .dK []) hp
  have pz : (g.lay p (.dK [])).H p = some (.dK []) := by show upd g.H p _ p = _; rw [upd_same]
  have off1 : Off (g.lay p (.dK [])) p := W0.off_new hp
  have nf1 : ¬ (g.lay p (.dK [])).F p := fun z => W0.notF_new hp z
  have ta : tA K w c es σ (upd g.H p (.dK [])) fun vs H2 => vs.length = ks.length → H2 p = some (.dK []) ∧ ∃ kvs : List (Key × V), ((ks.map Sum.inr : List Key).zip vs).map (fun kv => (kV kv.1, kv.2)) = kvs.map (fun kv => (kV kv.1, kv.2)) ∧ kvs.length ≤ 15 ∧
      ∃ (a : Addr) (kvs' : List (Key × V)), V.ref p = .ref a ∧ (upd H2 p (.dK (mergeK [] kvs))) a = some (.dK kvs') ∧ ∀ (es : Array DictEntry) (ep : Nat) (xs : List KE3), es.toList = xs.map (entK w) → xs.map (·.1) = kvs'.map (fun p => toN p.1) →
      Vals (kvs'.map fun p => kV p.1) (xs.map (·.2.1)) → Vals (kvs'.map (·.2)) (xs.map (·.2.2)) → (a == sysModules) = false → kvs'.length ≤ sizeLine → Q (.ref p) (upd (upd H2 p (.dK (mergeK [] kvs))) a (dcO a es ep)) := by
    refine ⟨ρ, g.lay p (.dK []), S, B.after A1 W1, EvQ.bindS A1 h fun ds S2 g2 vs A2 A12 W2 r2 h2 => fun hvl => ?_⟩
    refine ⟨A12.keep p _ pz off1, (ks.map Sum.inr : List Key).zip vs, rfl, by rw [List.length_zip, List.length_map, hvl]; omega, p, (ks.map Sum.inr : List Key).zip vs, rfl, ?_, fun es' ep xs e1 e2 e3 e4 hm hsz => ?_⟩
    all_goals
      have fst : ((ks.map Sum.inr : List Key).zip vs).map (·.1) = ks.map Sum.inr := by
        rw [List.map_fst_zip]; simp [hvl]
      have snd : ((ks.map Sum.inr : List Key).zip vs).map (·.2) = vs := by
        rw [List.map_snd_zip]; simp [hvl]
      have hnd : (((ks.map Sum.inr : List Key).zip vs).map (·.1)).Nodup := by
        rw [fst]
        exact nodup_map (fun a b e => by cases e; rfl) hn
    · rw [upd_same, mergeK_nodup _ [] (by simpa using hnd), List.nil_append]
    · rw [upd_upd]
      have off2 : Off g2 p := A12.off (by rw [pz]; simp) off1
      have nf2 : ¬ g2.F p := fun z => (A12.nF p z).elim nf1 (by rw [pz]; simp)
      have hk : xs.map (·.1) = ks.map NestedKey.text := by
        rw [e2]
        have : ((ks.map Sum.inr : List Key).zip vs).map (fun p => toN p.1) = (((ks.map Sum.inr : List Key).zip vs).map (·.1)).map toN := by rw [List.map_map]; rfl
        rw [this, fst, List.map_map]
        rfl
      have hkv : ((ks.map Sum.inr : List Key).zip vs).map (fun p => kV p.1) = ks.map V.str := by
        have : ((ks.map Sum.inr : List Key).zip vs).map (fun p => kV p.1) = (((ks.map Sum.inr : List Key).zip vs).map (·.1)).map kV := by rw [List.map_map]; rfl
        rw [this, fst, List.map_map]
        rfl
      rw [hkv] at e3
      rw [snd] at e4
      have M := Mono.bump (o := dcO p es' ep) nf2 off2
      refine h2 (g2.bump p (dcO p es' ep)) _ (A2.bump hp) (W2.bump nf2 off2) ⟨p, rfl, ⟨off2, nf2, es', ep, xs, ks.map V.str, vs, ?_, ⟨e1, hk.symm⟩, e3, e4, texts_reps ks, r2.mono M, ?_, ?_, ?_, ?_, hm⟩, hp⟩
      · show upd g2.H p _ p = _
        rw [upd_same]
      · exact nodup_map (fun a b e => by cases e; rfl) hn
      · intro k hk'
        obtain ⟨z, _, rfl⟩ := List.mem_map.mp hk'
        simp [NestedKey.depth]
      · rw [List.length_map, lineN]; omega
      · rw [r2.length, hvl, List.length_map]
  exact tp_mono ks es (tp_of es ks hl ta) fun ps H2 ⟨vs, e1, e2, f⟩ => by
    obtain ⟨q1, kvs, q2, q3, q4⟩ := f e1
    exact ⟨q1, kvs, e2.trans q2, q3, q4⟩
theorem i_dct0 (h : tE K w c (.dct [] []) σ H Q) : tViewD w tDNewK σ H Q := by
  obtain ⟨ρ, g, S, B, h⟩ := h
  unfold ev evs at h
  intro p hp
  obtain ⟨rfl, W0, ge, E0⟩ := id B
  refine ⟨p, [], rfl, by rw [upd_same], fun es ep xs e1 e2 e3 e4 hm _ => ?_⟩
  rw [upd_upd]
  have A1 : After g (g.lay p (dcO p es ep)) := After.lay hp
  have W1 := W0.lay (o := dcO p es ep) hp
  have hx : xs = [] := by
    cases xs with
    | nil => rfl
    | cons _ _ => cases e2
  subst hx
  refine h (g.lay p (dcO p es ep)) _ A1 W1 ⟨p, rfl, ⟨W0.off_new hp, fun z => W0.notF_new hp z, es, ep, [], [], [], ?_, ⟨e1, rfl⟩, .nil, .nil, .nil, .nil, ⟨List.Pairwise.nil, fun k hk => absurd hk (by simp), Nat.zero_le _, rfl, hm⟩⟩, hp⟩
  show upd g.H p _ p = _
  rw [upd_same]
end
end Mp
set_option Elab.async false
set_option linter.all false
set_option maxRecDepth 100000
set_option maxHeartbeats 4000000
/-! dict(pairs) -/
namespace Mp
open PySem PySem.Spec PyProof.Rows L2
/-- a pair that is met -/
structure Pr where
  k : NestedKey
  d : D
  kv : V
  vv : V
  uk : Value
  uv : Value
  t : Addr
structure PrOk (K : W.Frag) (w : World) (g : Gh) (h : Heap) (e : Pr) : Prop where
  at_ : PairAt h e.t e.uk e.uv
  key : NestedIs h e.k e.uk
  dep : e.k.depth ≤ 8
  rk : Rep K w g (ofKey e.k) e.kv
  lk : RelV e.kv e.uk
  rv : Rep K w g e.d e.vv
  lv : RelV e.vv e.uv
def foldP (acc : List KE3) (L : List Pr) : List KE3 := L.foldl (fun acc e => put3 acc e.k e.uk e.uv) acc
theorem foldP_len : ∀ (L : List Pr) (acc : List KE3), (foldP acc L).length ≤ acc.length + L.length
  | [], acc => Nat.le_refl _
  | e :: L, acc => by
    have h1 := foldP_len L (put3 acc e.k e.uk e.uv)
    have h2 : (put3 acc e.k e.uk e.uv).length ≤ acc.length + 1 := by
      have := congrArg List.length (put3_keys acc e.k e.uk e.uv)
      rw [List.length_map] at this
      rw [this]
      have := putK_len (acc.map (·.1)) e.k
      rw [List.length_map] at this
      exact this
    show (foldP (put3 acc e.k e.uk e.uv) L).length ≤ _
    rw [List.length_cons]
    omega
theorem foldP_take {acc : List KE3} {L : List Pr} {i : Nat} {e : Pr} (h : L[i]? = some e) : foldP acc (L.take (i + 1)) = put3 (foldP acc (L.take i)) e.k e.uk e.uv := by
  unfold foldP
  rw [List.take_add_one, h, List.foldl_append]
  rfl
section
variable {K : W.Frag} {w : World} {g : Gh}
/-- what the entries stand for -/
structure Sd (K : W.Frag) (w : World) (g : Gh) (xs : List KE3) (ks : List NestedKey) (ds : List D) : Prop where
  keys : ks = xs.map (·.1)
  ex : ∃ kvs vvs, Vals kvs (xs.map (·.2.1)) ∧ Vals vvs (xs.map (·.2.2)) ∧ Reps K w g (ofKeys ks) kvs ∧ Reps K w g ds vvs
  nd : ks.Nodup
  dep : ∀ k ∈ ks, k.depth ≤ 8
  len : ds.length = ks.length
theorem Sd.put {h : Heap} {xs : List KE3} {ks : List NestedKey} {ds : List D} (s : Sd K w g xs ks ds) {e : Pr} (o : PrOk K w g h e) : Sd K w g (put3 xs e.k e.uk e.uv) (putK ks e.k) (putV ks ds e.k e.d) := by
  obtain ⟨rfl, ⟨kvs, vvs, v1, v2, r1, r2⟩, nd, dep, len⟩ := s
  obtain ⟨kvs', k1, k2⟩ := keys_put (r := e.uv) (k := e.k) o.lk v1
  obtain ⟨vvs', u1, u2⟩ := vals_put (u := e.uk) (k := e.k) o.lv v2
  have ek := put3_keys xs e.k e.uk e.uv
  refine ⟨ek.symm, ⟨kvs', vvs', k1, u1, by rw [← ek]; exact k2 r1 o.rk, u2 r2 o.rv⟩, putK_nodup nd e.k, fun x hx => (putK_sub _ _ x hx).elim (dep x) fun z => by rw [z]; exact o.dep, putV_len _ _ _ _ len⟩
theorem Sd.all {h : Heap} : ∀ {L : List Pr} {xs : List KE3} {ks : List NestedKey} {ds : List D}, Sd K w g xs ks ds → (∀ e ∈ L, PrOk K w g h e) → Sd K w g (foldP xs L) (mergeD ks ds (L.map fun e => (e.k, e.d))).1 (mergeD ks ds (L.map fun e => (e.k, e.d))).2
  | [], xs, ks, ds, s, _ => s
  | e :: L, xs, ks, ds, s, o => by
    have q := Sd.all (L := L) (s.put (o e List.mem_cons_self)) fun x hx => o x (List.mem_cons_of_mem _ hx)
    exact q
theorem Sd.nil : Sd K w g [] [] [] := ⟨rfl, ⟨[], [], .nil, .nil, .nil, .nil⟩, List.Pairwise.nil, fun k hk => absurd hk (by simp), rfl⟩
end
/-- the pairs that stand in a list -/
theorem pairs_seen {X : Cx} {pins : List (Addr × Obj)} {σ : L2.St} {g : Gh} {s : Shared} (I : Inv X pins σ g.H s) : ∀ {xs : List D} {us : List V} {its : List Value} {prs : List (NestedKey × D)}, Reps X.K X.w g xs us → Vals us its → pairsD xs = some prs →
    ∃ L : List Pr, prs = L.map (fun e => (e.k, e.d)) ∧ its = L.map (fun e => Value.ref e.t) ∧ ∀ e ∈ L, PrOk X.K X.w g s.heap e
  | [], _, _, _, r, v, h => by cases r; cases v; cases h; exact ⟨[], rfl, rfl, fun e he => absurd he (by simp)⟩
  | x :: xs, _, _, prs, r, v, h => by
    cases r with
    | cons r1 r2 =>
      cases v with
      | cons v1 v2 =>
        unfold pairsD at h
        split at h
        · rename_i e2; cases e2
        · rename_i k d xs' e1
          cases e1
          split at h
          · rename_i q rest h1 h2
            cases h
            obtain ⟨L, l1, l2, l3⟩ := pairs_seen I r2 v2 h2
            obtain ⟨ek, hd⟩ := keyOf_inv h1
            obtain ⟨a, vs, rfl, hS, hR⟩ := view_tup (x := .non) r1
            cases v1
            obtain ⟨ts, rv, tp, _⟩ := I.tuple hS
            cases hR with
            | cons q1 q2 =>
              cases q2 with
              | cons q3 q4 =>
                cases q4
                cases rv with
                | cons p1 p2 =>
                  cases p2 with
                  | cons p3 p4 =>
                    cases p4
                    rw [ek] at q1
                    obtain ⟨E0, z1, z2, z3, z4⟩ : ∃ E0 : Pr, E0.k = q ∧ E0.d = d ∧ E0.t = a ∧ PrOk X.K X.w g s.heap E0 := ⟨⟨q, d, _, _, _, _, a⟩, rfl, rfl, rfl, .inl tp, key_is I q _ _ q1 p1, hd, q1, p1, q3, p3⟩
                    refine ⟨E0 :: L, ?_, ?_, fun e he => ?_⟩
                    · rw [l1, List.map_cons, z1, z2]
                    · rw [l2, List.map_cons, z3]
                    · rcases List.mem_cons.mp he with rfl | he
                      · exact z4
                      · exact l3 e he
          · cases h
        · cases h

theorem prOk_keeps {K : W.Frag} {w : World} {g : Gh} {h h' : Heap} (k : ∀ b o, h.get? b = some o → h'.get? b = some o) {e : Pr} (x : PrOk K w g h e) : PrOk K w g h' e :=
  ⟨x.at_.at fun o q => k _ o q, NestedIs.at (fun a o vs n q _ => k a o q) _ _ x.key, x.dep, x.rk, x.lk, x.rv, x.lv⟩
/-- dict(pairs) -/
def rDictP (w : World) (K : W.Frag) : List V → Hp → VK → Prop := fun vs H Q => ∃ (g : Gh) (a : Addr) (xs : List D) (us : List V) (prs : List (NestedKey × D)), g.H = H ∧ vs = [.ref a] ∧ H a = some (.lst us) ∧ Reps K w g xs us ∧ pairsD xs = some prs ∧
  ∀ (p : Addr) (es : Array DictEntry) (ep : Nat) (x3 : List KE3), H p = none → es.toList = x3.map (entK w) → Sd K w g x3 (mergeD [] [] prs).1 (mergeD [] [] prs).2 → (p == sysModules) = false → x3.length ≤ sizeLine → Q (.ref p) (upd H p (dcO p es ep))
theorem call_dictPr {X : Cx} (hc : X.calm = true) (hu : X.A.units + 200 < cLine) : CallR X (.type "dict") (rDictP X.w X.K) := by
  intro pins s σ H vs us0 Q I r h
  obtain ⟨g, a, xs, us, prs, rfl, rfl, ha, hR, hp, q⟩ := h
  rw [Vals.ref1 r]
  obtain ⟨hz, its, n, rv, hlen, ho⟩ := I.lstM ha
  obtain ⟨L, rfl, el, ok⟩ := pairs_seen I hR rv hp
  have hL : L.length ≤ sizeLine := by
    have := congrArg List.length el
    rw [List.length_map] at this
    omega
  have P := PairArg.list (prog := X.prog) (w := X.w) a its.toArray (fun j => ((L[j]?).map (·.t)).getD 0) (L.map fun e => (e.uk, e.uv))
  have okH : PlainSeq "list" s.heap a its.toArray ∧ PairItems s.heap its.toArray (fun j => ((L[j]?).map (·.t)).getD 0) (L.map fun e => (e.uk, e.uv)) := by
    refine ⟨⟨_, n, ho, rfl, rfl, rfl⟩, by rw [List.size_toArray, el]; simp, fun j k v hj => ?_⟩
    rw [List.getElem?_map] at hj
    cases e : L[j]? with
    | none => rw [e] at hj; cases hj
    | some x =>
      rw [e] at hj
      cases hj
      refine ⟨?_, ?_⟩
      · rw [← Array.getElem?_toList, el, List.getElem?_map, e]
        simp [e]
      · have := (ok x (List.mem_of_getElem? e)).at_
        simpa [e] using this
  refine call_dict_arg P okH fun s₁ hs₁ hdf ok₁ => ?_
  have k1 : ∀ b o, s.heap.get? b = some o → s₁.heap.get? b = some o := fun b o e => by rw [hs₁]; exact Heap.get?_push_of_some _ e
  have okp : ∀ e ∈ L, PrOk X.K X.w g s₁.heap e := fun e he => prOk_keeps k1 (ok e he)
  have at0 : s₁.heap.get? s.heap.objs.size = some { cls := .type "dict", data := .dict #[] } := by rw [hs₁]; exact Heap.get?_push_size _ rfl
  have dne : ∀ b o, s.heap.get? b = some o → b ≠ s.heap.objs.size := fun b o e => Nat.ne_of_lt (Heap.lt_size e)
  have hnd : ∀ i, ((foldP [] (L.take i)).map (·.1)).Nodup ∧ ∀ k ∈ (foldP [] (L.take i)).map (·.1), k.depth ≤ 8 := fun i => by
    have q := Sd.all (L := L.take i) (K := X.K) (w := X.w) (g := g) (h := s.heap) Sd.nil fun e he => ok e (List.mem_of_mem_take he)
    exact ⟨q.keys ▸ q.nd, fun k hk => q.dep k (q.keys ▸ hk)⟩
  have keysAt : ∀ {h : Heap}, (∀ b o, s.heap.get? b = some o → h.get? b = some o) → ∀ (M : List Pr), (∀ e ∈ M, e ∈ L) → ∀ (acc : List KE3), (∀ x ∈ acc, NestedIs h x.1 x.2.1) → ∀ x ∈ foldP acc M, NestedIs h x.1 x.2.1 := fun {h} kh M => by
    induction M with
    | nil => intro _ acc ha x hx; exact ha x hx
    | cons e M ih =>
      intro hm acc hacc x hx
      refine ih (fun e he => hm e (List.mem_cons_of_mem _ he)) (put3 acc e.k e.uk e.uv) (fun y hy => ?_) x hx
      have pe := (prOk_keeps kh (ok e (hm e List.mem_cons_self))).key
      have sub : ∀ (acc : List KE3), (∀ x ∈ acc, NestedIs h x.1 x.2.1) → ∀ y ∈ put3 acc e.k e.uk e.uv, NestedIs h y.1 y.2.1 := fun acc => by
        induction acc with
        | nil => intro _ y hy; simp [put3] at hy; subst hy; exact pe
        | cons z r ih =>
          intro ha y hy
          unfold put3 at hy
          split at hy
          · rcases List.mem_cons.mp hy with rfl | hy
            · exact ha z List.mem_cons_self
            · exact ha y (List.mem_cons_of_mem _ hy)
          · rcases List.mem_cons.mp hy with rfl | hy
            · exact ha _ List.mem_cons_self
            · exact ih (fun x hx => ha x (List.mem_cons_of_mem _ hx)) y hy
      exact sub acc hacc y hy
  refine updateFrom_arg (Tab := fun i h => (∃ (es : Array DictEntry) (ep : Nat), (∃ o, h.get? s.heap.objs.size = some o ∧ o.ExactDict ∧ o.data = .dict es ep) ∧ es.toList = (foldP [] (L.take i)).map (entK X.w)) ∧ ∀ b o, s.heap.get? b = some o → h.get? b = some o) P .none (I.ok.hd hc) ok₁ hdf ?_ ?_ ?_ ?_ ?_
  · exact ⟨⟨#[], 0, ⟨_, at0, ⟨rfl, rfl, rfl⟩, rfl⟩, rfl⟩, k1⟩
  · intro i h ⟨⟨es, ep, ⟨o, e, _⟩, _⟩, _⟩
    exact Heap.lt_size e
  · intro i h h' wr' hd hw ⟨⟨es, ep, ⟨o, e, e2⟩, e3⟩, kp⟩ hk
    refine ⟨⟨es, ep, ⟨o, hk _ _ hd e, e2⟩, e3⟩, fun b o e => hk b o (fun hm => ?_) (kp b o e)⟩
    rcases hw b hm with z | z
    · cases z
    · rw [k1 b o e] at z; cases z
  · intro i key v s' Q' E' hi hrel ⟨⟨es, ep, ob, e3⟩, kp⟩ _ hQ
    have hrel : (L.map fun e => (e.uk, e.uv))[i]? = some (key, v) := hrel
    rw [List.getElem?_map] at hrel
    cases hLi : L[i]? with
    | none => rw [hLi] at hrel; cases hrel
    | some x =>
      rw [hLi] at hrel
      cases hrel
      have px := prOk_keeps kp (ok x (List.mem_of_getElem? hLi))
      obtain ⟨n1, n2⟩ := hnd i
      have D : DcH X.w s'.heap s.heap.objs.size es ep (foldP [] (L.take i)) := ⟨ob, e3, fun y hy => ⟨keysAt kp (L.take i) (fun e he => List.mem_of_mem_take he) [] (fun _ h => absurd h (by simp)) y hy, n2 _ (List.mem_map.mpr ⟨y, hy, rfl⟩)⟩, n1⟩
      refine dc_set (by show X.A.units + 1 + 1 + 8 < cLine; omega) px.key px.dep D ?_ fun h' es' ep' D' sb => ?_
      · have := foldP_len (L.take i) []
        rw [List.length_take] at this
        simp at this
        omega
      · refine hQ h' _ ⟨⟨es', ep', D'.obj, ?_⟩, fun b o e => (sb.2 b (dne b o e)).trans (kp b o e)⟩ sb
        rw [foldP_take hLi]
        exact D'.ent
  · intro h' tk ⟨⟨es, ep, ob, e3⟩, kp⟩ hk
    have eT : L.take (L.map fun e => (e.uk, e.uv)).length = L := List.take_of_length_le (by simp)
    rw [eT] at e3
    obtain ⟨o, ho', hex, hdat⟩ := id ob
    have S := Sd.all (L := L) (K := X.K) (w := X.w) (g := g) (h := s.heap) Sd.nil ok
    have hm : (s.heap.objs.size == sysModules) = false := beq_eq_false_iff_ne.mpr (Nat.ne_of_gt I.big)
    have hsz : (foldP [] L).length ≤ sizeLine := by
      have := foldP_len L []
      simp at this
      omega
    refine ⟨rfl, .ref s.heap.objs.size, upd g.H s.heap.objs.size (dcO s.heap.objs.size es ep), ?_, rfl, q _ es ep _ (I.hok.fresh (Nat.le_refl _)) e3 S hm hsz⟩
    have J := I.laid (a := s.heap.objs.size) (o := dcO s.heap.objs.size es ep) (h' := h') (t' := tk) kp (Nat.le_refl _) ⟨ob, ⟨o, ho'⟩, fun h1 h2 ⟨oo, e1, e2⟩ st => ⟨oo, st _ e1, e2⟩⟩
    rw [hs₁]
    exact J
end Mp
set_option Elab.async false
set_option linter.all false
set_option maxRecDepth 100000
set_option maxHeartbeats 4000000
/-! dict(d), d with text keys; the readings of dict(x) -/
namespace Mp
open PySem PySem.Spec PyProof.Rows L2
theorem texts_of : ∀ {ks : List NestedKey}, (ks.all fun k => match k with | .text _ => true | _ => false) = true → ∃ zs : List Str, ks = zs.map .text
  | [], _ => ⟨[], rfl⟩
  | k :: ks, h => by
    simp only [List.all_cons, Bool.and_eq_true] at h
    obtain ⟨zs, rfl⟩ := texts_of h.2
    cases k with
    | text z => exact ⟨z :: zs, rfl⟩
    | _ => exact absurd h.1 (by simp)
/-- a copy -/
def rDictD (w : World) (K : W.Frag) : List V → Hp → VK → Prop := fun vs H Q => ∃ (g : Gh) (a : Addr) (zs : List Str) (ds : List D), g.H = H ∧ vs = [.ref a] ∧ DicVw K w g a (zs.map .text) ds ∧
  ∀ (p : Addr) (es : Array DictEntry) (ep : Nat) (x3 : List KE3), H p = none → es.toList = x3.map (entK w) → Sd K w g x3 (zs.map .text) ds → (p == sysModules) = false → x3.length ≤ sizeLine → Q (.ref p) (upd H p (dcO p es ep))
theorem copy_kv {h : Heap} : ∀ {zs : List Str} {xs : List KE3} {vvs : List V}, zs.map NestedKey.text = xs.map (·.1) → Vals vvs (xs.map (·.2.2)) → (∀ x ∈ xs, NestedIs h x.1 x.2.1) →
    ∃ (kvs : List (Key × V)) (vs : List (Key × Value)), KV kvs vs ∧ kvs.map (fun p => toN p.1) = zs.map .text ∧ kvs.map (fun p => kV p.1) = zs.map V.str ∧ kvs.map (·.2) = vvs ∧ vs.map (·.1) = zs.map Sum.inr ∧
      ∀ {P : Program} {w : World}, Pairs (mixKind P w) (xs.map (entK w)) vs ∧ ∀ e ∈ xs.map (entK w), ∃ k, (mixKind P w).is k e.key = true ∧ e.hash = (mixKind P w).hash k
  | [], [], _, _, hv, _ => by
    cases hv
    exact ⟨[], [], .nil, rfl, rfl, rfl, rfl, fun {P w} => ⟨.nil, fun e he => absurd he (by simp)⟩⟩
  | [], _ :: _, _, h, _, _ => by cases h
  | _ :: _, [], _, h, _, _ => by cases h
  | z :: zs, x :: xs, _, h, hv, hk => by
    cases hv with
    | cons v1 v2 =>
      obtain ⟨k3, u3, d3⟩ := x
      have h1 : NestedKey.text z = k3 := (List.cons.inj h).1
      subst h1
      obtain ⟨kvs, vs, q1, q2, q3, q4, q5, q6⟩ := copy_kv (List.cons.inj h).2 v2 (fun y hy => hk y (List.mem_cons_of_mem _ hy))
      have ki := hk _ List.mem_cons_self
      obtain ⟨t, rfl⟩ : ∃ t, u3 = Value.str z t := by
        cases ki with
        | text _ t => exact ⟨t, rfl⟩
      refine ⟨(.inr z, _) :: kvs, (.inr z, d3) :: vs, .cons ⟨rfl, v1⟩ q1, by rw [List.map_cons, List.map_cons, q2]; rfl, by rw [List.map_cons, List.map_cons, q3]; rfl, by rw [List.map_cons, q4], by rw [List.map_cons, List.map_cons, q5], fun {P w} => ?_⟩
      obtain ⟨p1, p2⟩ := q6 (P := P) (w := w)
      have is1 : (mixKind P w).is (Sum.inr z) (Value.str z t) = true := by
        show Value.isStrOf z (Value.str z t) = true
        simp [Value.isStrOf]
      refine ⟨.cons is1 rfl p1, fun e he => ?_⟩
      rw [List.map_cons] at he
      rcases List.mem_cons.mp he with rfl | he
      · exact ⟨.inr z, is1, rfl⟩
      · exact p2 e he
theorem call_dictDc {X : Cx} : CallR X (.type "dict") (rDictD X.w X.K) := by
  intro pins s σ H vs us0 Q I r h
  obtain ⟨g, a, zs, ds, rfl, rfl, hD, q⟩ := h
  rw [Vals.ref1 r]
  have hD2 := hD
  obtain ⟨es, ep, xs, vvs, h1, D, hk, hv, hr, hz, hm⟩ := dc_of I hD
  obtain ⟨kvs, vs2, q1, q2, q3, q4, q5, q6⟩ := copy_kv hk hv (fun x hx => (D.key x hx).1)
  obtain ⟨p1, p2⟩ := q6 (P := X.prog) (w := X.w)
  obtain ⟨o, ho, hex, hdat⟩ := id D.obj
  have nd : (vs2.map (·.1)).Nodup := by
    rw [q5]
    have := D.nd
    rw [← hk] at this
    exact List.pairwise_map.mpr ((List.pairwise_map.mp this).imp fun {a b} hne e => hne (by cases e; rfl))
  have dof : s.heap.DictOf (mixKind X.prog X.w) a vs2 := ⟨o, es, ep, ho, hex, hdat, fun e he => p2 e (by rw [← D.ent]; exact Array.mem_toList_iff.mpr he), by rw [D.ent]; exact p1, nd⟩
  have hlen : vs2.length ≤ sizeLine := by
    have l1 := congrArg List.length q5
    have l2 := congrArg List.length hk
    simp only [List.length_map] at l1 l2
    omega
  refine kt_call_dict hm dof hlen fun h' d' hs => ?_
  obtain ⟨o', es', ep', ho', hex', hdat', hko, hpr, hn'⟩ := d'
  obtain ⟨x3, i1, i2, i3, i4⟩ := mix_entries q1 hpr (fun e he => hko e (Array.mem_toList_iff.mp he))
  have hm' : (s.heap.objs.size == sysModules) = false := beq_eq_false_iff_ne.mpr (Nat.ne_of_gt I.big)
  have kp : ∀ b u, s.heap.get? b = some u → h'.get? b = some u := fun b u e => (hs.2 b (Nat.ne_of_lt (Heap.lt_size e))).trans (Heap.get?_push_of_some _ e)
  have J := I.laid (a := s.heap.objs.size) (o := dcO s.heap.objs.size es' ep') (h' := h') (t' := s.toks) kp (Nat.le_refl _) ⟨⟨o', ho', hex', hdat'⟩, ⟨o', ho'⟩, fun h1 h2 ⟨oo, e1, e2⟩ st => ⟨oo, st _ e1, e2⟩⟩
  obtain ⟨_, _, _, _, _, _, _, _, _, _, _, hn, hd, _, hvl, _⟩ := hD2
  refine ⟨.ref s.heap.objs.size, _, J, rfl, q _ es' ep' x3 (I.hok.fresh (Nat.le_refl _)) i1 ⟨by rw [i2, q2], ⟨zs.map V.str, vvs, by rw [← q3]; exact i3, by rw [← q4]; exact i4, texts_reps zs, hr⟩, hn, hd, hvl⟩ hm' ?_⟩
  have l1 := congrArg List.length i2
  have l2 := congrArg List.length q2
  have l3 := congrArg List.length q5
  simp only [List.length_map] at l1 l2 l3
  omega
def rDictA (w : World) (K : W.Frag) : List V → Hp → VK → Prop := fun vs H Q => rDictP w K vs H Q ∨ rDictD w K vs H Q
theorem call_dictA {X : Cx} (hc : X.calm = true) (hu : X.A.units + 200 < cLine) : CallR X (.type "dict") (rDictA X.w X.K) := (call_dictPr hc hu).or call_dictDc
section
variable {K : W.Frag} {w : World} {g g' g₀ : Gh} {S : Sto} {z : DT} {Q : VK}
theorem Fin.dic {ks : List NestedKey} {ds : List D} (h : Fin K w g₀ g S (fresh (.dic ks ds)) Q) (A : After g₀ g) (W : WF K w g S) {p : Addr} {es : Array DictEntry} {ep : Nat} {x3 : List KE3} (hp : g.H p = none) (he : es.toList = x3.map (entK w)) (s : Sd K w g x3 ks ds)
    (hm : (p == sysModules) = false) (hz : x3.length ≤ sizeLine) : Q (.ref p) (upd g.H p (dcO p es ep)) := by
  have A1 : After g (g.lay p (dcO p es ep)) := After.lay hp
  have M : Mono g (g.lay p (dcO p es ep)) := A1.mono W
  obtain ⟨e1, ⟨kvs, vvs, v1, v2, r1, r2⟩, nd, dep, len⟩ := s
  refine h (g.lay p (dcO p es ep)) _ (A.trans A1) A1 (W.lay hp) ⟨p, rfl, ⟨W.off_new hp, fun q => W.notF_new hp q, es, ep, x3, kvs, vvs, ?_, ⟨he, e1⟩, v1, v2, r1.mono M, r2.mono M, nd, dep, ?_, len, hm⟩, none_before A hp⟩
  · show upd g.H p _ p = _
    rw [upd_same]
  · rw [e1, List.length_map]; exact hz
theorem dict_core {d : D} {v : V} (A : After g₀ g) (W : WF K w g S) (r : RepA K w g g₀ d v) (h : bltF S .dict [d] = some z) (fin : Fin K w g₀ g S z Q) : rDictA w K [v] g.H Q := by
  obtain ⟨t, r⟩ := r
  have h : (match dicV S d with
    | some (ks, vs) => if ks.all (fun k => match k with | .text _ => true | _ => false) then some (fresh (.dic ks vs)) else none
    | none => match lstV S d with
      | some xs => (pairsD xs).map fun ps => fresh (.dic (mergeD [] [] ps).1 (mergeD [] [] ps).2)
      | none => none) = some z := h
  split at h
  · rename_i ks vs hd
    split at h
    · rename_i ht
      cases h
      obtain ⟨zs, rfl⟩ := texts_of ht
      obtain ⟨a, rfl, hD⟩ := view_dic W r hd
      exact .inr ⟨g, a, zs, vs, rfl, rfl, hD, fun p es ep x3 hp he s hm hz => fin.dic A W hp he s hm hz⟩
    · cases h
  · split at h
    · rename_i xs hx
      obtain ⟨prs, hp, rfl⟩ := Option.map_eq_some_iff.mp h
      obtain ⟨a, us, rfl, h1, hr⟩ := view_lst W r hx
      exact .inl ⟨g, a, xs, us, prs, rfl, rfl, h1, hr, hp, fun p es ep x3 hp he s hm hz => fin.dic A W hp he s hm hz⟩
    · cases h
end
end Mp
set_option Elab.async false
set_option linter.all false
set_option maxRecDepth 100000
set_option maxHeartbeats 4000000
/-! sorted(set(texts)) -/
namespace Mp
open PySem PySem.Spec PySem.Froz PyProof.Rows
/-- the set at a holds the texts l; its table can be walked -/
def SetX (P : Program) (w : World) (h : Heap) (a : Addr) (l : List Str) : Prop :=
  ∃ D : SD, h.get? a = some (sObj "set" D) ∧ TxOk P w D l ∧ l.Nodup ∧ L2.Ris D.2.2.place.toList ∧ (w.params.followText "set-order" = true ∨ D.2.2.led = true)
theorem tail_ris {ep : Nat} {es1 : Array (Int × Value)} {t2 : SetTable} {wd : Bool} (h : L2.Ris t2.place.toList) : L2.Ris (tailTx ep es1 t2 wd).2.2.place.toList := by
  unfold tailTx
  split
  · exact L2.relayAll_ris _ _ _
  · exact h
theorem tail_led {ep : Nat} {es1 : Array (Int × Value)} {t2 : SetTable} {wd : Bool} : (tailTx ep es1 t2 wd).2.2.led = t2.led := by
  unfold tailTx
  split
  · exact L2.relayAll_led _ _ _
  · rfl
theorem addTx_ris {h : Int} {v : Value} {D : SD} (r : L2.Ris D.2.2.place.toList) : L2.Ris (addTx h v D).2.2.place.toList := by
  unfold addTx
  refine tail_ris ?_
  have q := L2.layNew_ris D.2.2 D.1 h v r
  split
  · exact q
  · exact q
theorem addTx_led {h : Int} {v : Value} {D : SD} : (addTx h v D).2.2.led = D.2.2.led := by
  unfold addTx
  rw [tail_led]
  have q := L2.layNew_led D.2.2 D.1 h v
  split
  · exact q
  · exact q
section
variable {P : Program} {w : World} {A : Around} {E : Value → Shared → Prop} {s : Shared}
theorem SetX.keep {h h' : Heap} {a : Addr} {l : List Str} (X : SetX P w h a l) (k : ∀ o, h.get? a = some o → h'.get? a = some o) : SetX P w h' a l := by
  obtain ⟨D, ho, r⟩ := X
  exact ⟨D, k _ ho, r⟩
/-- a text that is there already -/
theorem add_old {a : Addr} {D : SD} {l : List Str} {k : Str} {u : Tok} {Q : Bool → Shared → Prop} (ho : s.heap.get? a = some (sObj "set" D)) (F : TxOk P w D l) (hk : k ∈ l) (hb : l.length < scanBound)
    (h : Q false s) : wpAny (model P w) A (setAddHashed a (.str k u) (hashStr w k)) Q E s := by
  obtain ⟨es, ep, t⟩ := D
  have hd : (sObj "set" (es, ep, t)).data = .set es ep t := rfl
  have hf : t.fits es.size = true := F.fit
  have hel : ElemsOf (strKind P w) es.toList := F.el
  have hsz : es.size = l.length := F.sz
  have hkey : (strKind P w).is k (.str k u) = true := is_str k u
  unfold setAddHashed setAddHashedIn
  refine wpAny_holding (wpAny_bind (wpAny_setState_of ho hd hf ?_))
  dsimp only
  rw [byScan_of rfl (by omega) hel]
  simp only [↓reduceIte]
  unfold setAddByScan
  refine wpAny_bind ?_
  refine wpAny_bind (wpAny_rule ?_)
  refine wpAny_bind (wpAny_setScan_of (knd := strKind P w) (k := k) hkey ho hd hf hel ?_)
  cases hr : List.findIdx? (fun e => (strKind P w).is k e.2) es.toList with
  | some j =>
    dsimp only
    exact wpAny_pure (wpAny_pure h)
  | none =>
    obtain ⟨e, he, q⟩ := (F.mem k).mp hk
    have c := List.findIdx?_eq_none_iff.mp hr e he
    rw [q] at c
    cases c
theorem addX {a : Addr} {l : List Str} {k : Str} {u : Tok} {Q : Bool → Shared → Prop} (X : SetX P w s.heap a l) (hb : l.length + 1 < scanBound)
    (h : ∀ b h' l', Heap.SameBut a s.heap h' → SetX P w h' a l' → (∀ z, z ∈ l' ↔ z = k ∨ z ∈ l) → l'.length ≤ l.length + 1 → Q b { s with heap := h' }) : wpAny (model P w) A (setAddHashed a (.str k u) (hashStr w k)) Q E s := by
  obtain ⟨D, ho, F, nd, r, hl⟩ := id X
  by_cases hk : k ∈ l
  · exact add_old ho F hk (by omega) (h false s.heap l (Heap.SameBut.refl a s.heap) X (fun z => ⟨.inr, fun c => c.elim (fun e => e ▸ hk) id⟩) (by omega))
  · refine add_x ho F hk hb (h true _ (k :: l) ?_ ⟨_, get_upd _ ho rfl, add_ok u F, List.nodup_cons.mpr ⟨hk, nd⟩, addTx_ris r, ?_⟩ (fun z => List.mem_cons) (by simp))
    · exact ⟨Heap.size_after_update .., fun b hb => Heap.get?_update_other _ _ (Ne.symm hb)⟩
    · rw [addTx_led]; exact hl
end
section
variable {P : Program} {w : World} {A : Around} {R : Result → Shared → Prop} {I : Addr} {fp wr : List Addr} {G : Array GenState → Array GenState → Prop} {n : Nat} {Pv : Nat → Value → Prop} {St : Nat → Shared → Prop}
/-- what the set holds when i texts are in -/
def HasX (P : Program) (w : World) (h : Heap) (S : Addr) (xs : List Str) (i : Nat) : Prop := ∃ l, SetX P w h S l ∧ (∀ z, z ∈ l ↔ z ∈ xs.take i) ∧ l.length ≤ i
theorem HasX.keep {h h' : Heap} {S : Addr} {xs : List Str} {i : Nat} (X : HasX P w h S xs i) (k : ∀ o, h.get? S = some o → h'.get? S = some o) : HasX P w h' S xs i := by
  obtain ⟨l, X, r⟩ := X
  exact ⟨l, X.keep k, r⟩
theorem txts_in (W : WalksS P w A.in1 I fp wr G n Pv St) (S : Addr) (hS : S ∉ fp) (xs : List Str) (hn : n = xs.length) (hz : n + 1 < scanBound) (hv : ∀ i v, Pv i v → ∃ z t, xs[i]? = some z ∧ v = .str z t)
    (k : Nat) : ∀ (i : Nat) (s : Shared), n = i + k → St i s → HasX P w s.heap S xs i → (∀ s', Moved (S :: wr) G s s' → HasX P w s'.heap S xs n → R (.ok (.ret .none)) s') →
      codeAny (model P w) A (.builtin "set.update.loop" ⟨[.ref S, .ref I], []⟩) R s := by
  have far : S ∉ wr := fun h => hS (W.sub _ h)
  have up : ∀ b ∈ wr, b ∈ S :: wr := fun b hb => List.mem_cons_of_mem _ hb
  induction k with
  | zero =>
    intro i s e st X hR
    have e : i = n := by omega
    subst e
    refine codeAny_builtin F.entry_set_update_loop ?_
    rw [Around.under_plainId F.plain_set_update_loop _]
    refine wpAny_bind (m := pyNext (.ref I)) (W.done s _ _ st fun s' hm => ?_)
    exact wpAny_pure (hR s' (hm.mono up) (X.keep fun o e => hm.heap S o far e))
  | succ k ih =>
    intro i s e st X hR
    refine codeAny_builtin F.entry_set_update_loop ?_
    rw [Around.under_plainId F.plain_set_update_loop _]
    refine wpAny_bind (m := pyNext (.ref I)) (W.item i s _ _ (by omega) st fun v s' hp st' hm => ?_)
    obtain ⟨z, t, hz', rfl⟩ := hv i v hp
    obtain ⟨l, X1, mem, len⟩ := X.keep fun o e => hm.heap S o far e
    refine wpAny_bind (m := holding [.str z t] (setAdd S (.str z t))) (wpAny_holding ?_)
    unfold setAdd
    refine wpAny_holding (wpAny_bind ((strKind P w).pyHash (k := z) (is_str z t) ?_))
    refine addX (s := { s' with toks := s'.toks + 1 }) X1 (by omega) fun b h' l' sb X2 m2 len2 => ?_
    have X3 : HasX P w h' S xs (i + 1) := ⟨l', X2, fun y => by rw [m2, mem, List.take_add_one, hz']; simp [or_comm], by omega⟩
    refine wpAny_pure ⟨plainId_quiet F.plain_set_update_loop _, ih (i + 1) _ (by omega) (W.frame _ s' _ _ st' (Nat.le_succ _) fun b hb o e => ?_) X3 fun s'' hm2 X4 => hR s'' (Moved.trans W.gtrans ((hm.mono up).then_heap (Nat.le_succ _) fun b o hb e => ?_) hm2) X4⟩
    · exact (sb.2 b fun q => hS (q ▸ hb)).trans e
    · exact (sb.2 b fun q => hb (q ▸ List.mem_cons_self)).trans e
end
end Mp
set_option Elab.async false
set_option linter.all false
set_option maxRecDepth 100000
set_option maxHeartbeats 8000000
/-! set(xs), xs a list or a tuple of texts -/
namespace Mp
open PySem PySem.Spec PySem.Froz PyProof.Rows L2
theorem strs_get : ∀ {us : List Value} {xs : List Str}, StrsAre us xs → ∀ {i : Nat} {v : Value}, us[i]? = some v → ∃ z t, xs[i]? = some z ∧ v = .str z t
  | _, _, .nil, i, v, h => by simp at h
  | _, _, .cons n t hr, 0, v, h => by simp at h; exact ⟨n, t, rfl, h.symm⟩
  | _, _, .cons n t hr, i + 1, v, h => by
    simp only [List.getElem?_cons_succ] at h ⊢
    exact strs_get hr h
/-- an empty set, as set.__new__ lays it -/
abbrev S0 (w : World) : Obj := { cls := .type "set", dict := none, data := .set #[] 0 (.fresh 0 0 (!w.params.followText "set-order")) }
section
variable {P : Program} {w : World} {A : Around} {E : Value → Shared → Prop} {s : Shared}
theorem hasX_new (h : Heap) (w : World) {xs : List Str} : HasX P w (h.push (S0 w)) h.objs.size xs 0 := by
  refine ⟨[], ⟨(#[], 0, .fresh 0 0 (!w.params.followText "set-order")), Heap.get?_push_size _ rfl, TxOk.nil (by cases w.params.followText "set-order" <;> decide +kernel), List.nodup_nil, List.Pairwise.nil, ?_⟩, fun z => by simp, Nat.le_refl _⟩
  show _ ∨ (!w.params.followText "set-order") = true
  cases w.params.followText "set-order"
  · exact .inr rfl
  · exact .inl rfl


theorem new_set_list {l : Addr} {items : Array Value} {xs : List Str} {Q : Value → Shared → Prop} (hh : A.handled = none) (hl : s.heap.IsList l items) (hx : StrsAre items.toList xs) (hz : items.size + 1 < scanBound)
    (h : ∀ (h' : Heap) (tk : Nat), HasX P w h' s.heap.objs.size xs items.size → (∀ b o, s.heap.get? b = some o → h'.get? b = some o) → Q (.ref s.heap.objs.size) { s with heap := h', toks := tk }) :
    wpAny (model P w) A (call (.type "set") [.ref l]) Q E s := by
  have hsize : items.size = xs.length := by rw [← StrsAre.len_eq hx, Array.length_toList]
  obtain ⟨c, tl, hmro⟩ := F.called_set.mro
  have hmade := F.called_set.made
  have hsub := F.called_set.sub
  refine wpAny_call (codeAny_of_tree ?_)
  refine (?_ : wpAny _ _ (callAny (.type "set") _) _ _ _)
  refine wpAny_pure ⟨Code.quiet_builtin _ (by decide +kernel), codeAny_builtin F.entry_type_call ?_⟩
  rw [Around.under_plain (weight_type_call_type "set" [.ref l] []) rfl]
  have h1 := F.called_set.notType
  have h2 := F.called_set.canCreate
  have hct := F.typeCall_set_1 (.ref l)
  repeat (any_goals (first | assumption | wp_step))
  refine codeAny_mono (code_set_led1 (.ref l) (E := E) (Q₁ := fun o s₁ => o = .ref s.heap.objs.size ∧ s₁ = { s with heap := s.heap.push (S0 w) }) ⟨rfl, rfl⟩) fun r s₁ hr => ?_
  cases r with
  | error e => exact hr
  | ok fl =>
    cases fl with
    | ret o =>
      obtain ⟨rfl, rfl⟩ := hr
      have hS : (s.heap.push (S0 w)).get? s.heap.objs.size = some (S0 w) := Heap.get?_push_size _ rfl
      have hT : Shared.TypeIs { s with heap := s.heap.push (S0 w) } (.ref s.heap.objs.size) "set" := ⟨_, hS, rfl⟩
      have hli := F.called_set.init.lookup
      have hbi := F.called_set.init.bind (.ref s.heap.objs.size)
      repeat (any_goals (first | assumption | wp_step))
      refine codeAny_mono (codeAny_call_builtin (R := wants (fun r s₂ => r = .none ∧ ∃ h' tk, s₂ = { s with heap := h', toks := tk } ∧ HasX P w h' s.heap.objs.size xs items.size ∧
          (∀ b o, s.heap.get? b = some o → h'.get? b = some o)) E) F.called_set.init.plain F.entry_set_init (check_set_init_1 hT ?_)) fun r₂ s₂ hr₂ => ?_
      · obtain ⟨⟨ocls, odict, odata, oslots⟩, hol, hcl, nl, hdl⟩ := hl
        simp only at hcl hdl
        subst hcl; subst hdl
        have hol' := Heap.get?_push_of_some (S0 w) hol
        have q1 := F.sub_list_set
        have q2 := F.sub_list_frozenset
        have q3 : (Value.type "list" == Value.type "dict") = false := by decide
        have hl1 : (s.heap.push (S0 w)).IsList l items := ⟨_, hol', rfl, nl, rfl⟩
        unfold Builtin.«set.__init__» noKeywords Builtin.Frozenset.updateFrom
        generalize hPI : pyIter = PI
        wp_walk
        subst hPI
        refine wpAny_pyIter_list hl1 (wpAny_bind (wpAny_runValue ?_))
        have hlS := Heap.lt_size hol
        have hsz1 : (s.heap.push (S0 w)).objs.size = s.heap.objs.size + 1 := Heap.size_push ..
        have hne : l ≠ (s.heap.push (S0 w)).objs.size := by rw [hsz1]; exact Nat.ne_of_lt (Nat.lt_succ_of_lt hlS)
        have hval : ∀ (i : Nat) (v : Value), items[i]? = some v → ∃ z t, xs[i]? = some z ∧ v = .str z t := fun i v hv => strs_get hx (by rw [Array.getElem?_toList]; exact hv)
        refine txts_in (Walks.list (by simp [hh]) _ l hne items).toS s.heap.objs.size (fun q => ?_) xs hsize (by omega) hval items.size 0 _ (by omega) ⟨⟨_, Heap.get?_push_size _ rfl, rfl, rfl⟩, (hl1.push _)⟩
          (HasX.keep (hasX_new s.heap w) fun o e => Heap.get?_push_of_some _ e) fun s' hm X => ?_
        · simp only [List.mem_cons, List.not_mem_nil, or_false] at q
          rcases q with q | q
          · exact Nat.ne_of_lt (Nat.lt_succ_self _) (q.trans hsz1)
          · exact Nat.ne_of_gt hlS q
        · obtain ⟨h', g2, d', tk', os'⟩ := s'
          obtain rfl : g2 = s.gens := hm.gens
          obtain rfl : d' = s.drawn := hm.drawn
          obtain rfl : os' = s.os := hm.os
          refine wpAny_pure (wpAny_pure ⟨rfl, h', tk', rfl, X, fun b o e => ?_⟩)
          have lb := Heap.lt_size e
          refine hm.heap b o (fun q => ?_) (Heap.get?_push_of_some _ (Heap.get?_push_of_some _ e))
          simp only [List.mem_cons, List.not_mem_nil, or_false] at q
          rcases q with q | q
          · exact Nat.ne_of_lt lb q
          · exact Nat.ne_of_lt (Nat.lt_succ_of_lt lb) (q.trans hsz1)
      · cases r₂ with
        | error e => exact hr₂
        | ok fl₂ =>
          cases fl₂ with
          | ret r =>
            obtain ⟨rfl, h', tk, rfl, X, k⟩ := hr₂
            repeat (any_goals (first | assumption | wp_step))
            exact h _ _ X k
          | _ => exact hr₂.elim
    | _ => exact hr.elim


theorem new_set_tuple {l : Addr} {items : Array Value} {xs : List Str} {Q : Value → Shared → Prop} (hh : A.handled = none) (hl : s.heap.IsTuple l items) (hx : StrsAre items.toList xs) (hz : items.size + 1 < scanBound)
    (h : ∀ (h' : Heap) (tk : Nat), HasX P w h' s.heap.objs.size xs items.size → (∀ b o, s.heap.get? b = some o → h'.get? b = some o) → Q (.ref s.heap.objs.size) { s with heap := h', toks := tk }) :
    wpAny (model P w) A (call (.type "set") [.ref l]) Q E s := by
  have hsize : items.size = xs.length := by rw [← StrsAre.len_eq hx, Array.length_toList]
  obtain ⟨c, tl, hmro⟩ := F.called_set.mro
  have hmade := F.called_set.made
  have hsub := F.called_set.sub
  refine wpAny_call (codeAny_of_tree ?_)
  refine (?_ : wpAny _ _ (callAny (.type "set") _) _ _ _)
  refine wpAny_pure ⟨Code.quiet_builtin _ (by decide +kernel), codeAny_builtin F.entry_type_call ?_⟩
  rw [Around.under_plain (weight_type_call_type "set" [.ref l] []) rfl]
  have h1 := F.called_set.notType
  have h2 := F.called_set.canCreate
  have hct := F.typeCall_set_1 (.ref l)
  repeat (any_goals (first | assumption | wp_step))
  refine codeAny_mono (code_set_led1 (.ref l) (E := E) (Q₁ := fun o s₁ => o = .ref s.heap.objs.size ∧ s₁ = { s with heap := s.heap.push (S0 w) }) ⟨rfl, rfl⟩) fun r s₁ hr => ?_
  cases r with
  | error e => exact hr
  | ok fl =>
    cases fl with
    | ret o =>
      obtain ⟨rfl, rfl⟩ := hr
      have hS : (s.heap.push (S0 w)).get? s.heap.objs.size = some (S0 w) := Heap.get?_push_size _ rfl
      have hT : Shared.TypeIs { s with heap := s.heap.push (S0 w) } (.ref s.heap.objs.size) "set" := ⟨_, hS, rfl⟩
      have hli := F.called_set.init.lookup
      have hbi := F.called_set.init.bind (.ref s.heap.objs.size)
      repeat (any_goals (first | assumption | wp_step))
      refine codeAny_mono (codeAny_call_builtin (R := wants (fun r s₂ => r = .none ∧ ∃ h' tk, s₂ = { s with heap := h', toks := tk } ∧ HasX P w h' s.heap.objs.size xs items.size ∧
          (∀ b o, s.heap.get? b = some o → h'.get? b = some o)) E) F.called_set.init.plain F.entry_set_init (check_set_init_1 hT ?_)) fun r₂ s₂ hr₂ => ?_
      · obtain ⟨⟨ocls, odict, odata, oslots⟩, hol, hcl, nl, hdl⟩ := hl
        simp only at hcl hdl
        subst hcl; subst hdl
        have hol' := Heap.get?_push_of_some (S0 w) hol
        have q1 := F.sub_tuple_set
        have q2 := F.sub_tuple_frozenset
        have q3 : (Value.type "tuple" == Value.type "dict") = false := by decide
        have hl1 : (s.heap.push (S0 w)).IsTuple l items := ⟨_, hol', rfl, nl, rfl⟩
        unfold Builtin.«set.__init__» noKeywords Builtin.Frozenset.updateFrom
        generalize hPI : pyIter = PI
        wp_walk
        subst hPI
        refine wpAny_pyIter_tuple hl1 (wpAny_bind (wpAny_runValue ?_))
        have hlS := Heap.lt_size hol
        have hsz1 : (s.heap.push (S0 w)).objs.size = s.heap.objs.size + 1 := Heap.size_push ..
        have hne : l ≠ (s.heap.push (S0 w)).objs.size := by rw [hsz1]; exact Nat.ne_of_lt (Nat.lt_succ_of_lt hlS)
        have hval : ∀ (i : Nat) (v : Value), items[i]? = some v → ∃ z t, xs[i]? = some z ∧ v = .str z t := fun i v hv => strs_get hx (by rw [Array.getElem?_toList]; exact hv)
        refine txts_in (Walks.tuple (by simp [hh]) _ l hne items).toS s.heap.objs.size (fun q => ?_) xs hsize (by omega) hval items.size 0 _ (by omega) ⟨⟨_, Heap.get?_push_size _ rfl, rfl, rfl⟩, (hl1.push _)⟩
          (HasX.keep (hasX_new s.heap w) fun o e => Heap.get?_push_of_some _ e) fun s' hm X => ?_
        · simp only [List.mem_cons, List.not_mem_nil, or_false] at q
          rcases q with q | q
          · exact Nat.ne_of_lt (Nat.lt_succ_self _) (q.trans hsz1)
          · exact Nat.ne_of_gt hlS q
        · obtain ⟨h', g2, d', tk', os'⟩ := s'
          obtain rfl : g2 = s.gens := hm.gens
          obtain rfl : d' = s.drawn := hm.drawn
          obtain rfl : os' = s.os := hm.os
          refine wpAny_pure (wpAny_pure ⟨rfl, h', tk', rfl, X, fun b o e => ?_⟩)
          have lb := Heap.lt_size e
          refine hm.heap b o (fun q => ?_) (Heap.get?_push_of_some _ (Heap.get?_push_of_some _ e))
          simp only [List.mem_cons, List.not_mem_nil, or_false] at q
          rcases q with q | q
          · exact Nat.ne_of_lt lb q
          · exact Nat.ne_of_lt (Nat.lt_succ_of_lt lb) (q.trans hsz1)
      · cases r₂ with
        | error e => exact hr₂
        | ok fl₂ =>
          cases fl₂ with
          | ret r =>
            obtain ⟨rfl, h', tk, rfl, X, k⟩ := hr₂
            repeat (any_goals (first | assumption | wp_step))
            exact h _ _ X k
          | _ => exact hr₂.elim
    | _ => exact hr.elim

end
end Mp
set_option Elab.async false
set_option linter.all false
set_option maxRecDepth 100000
set_option maxHeartbeats 8000000
/-! sorted(set(texts)): the rules -/
namespace Mp
open PySem PySem.Spec PySem.Froz PyProof.Rows L2
theorem texts_sorted {xs ys : List Str} (p : xs.Perm ys) : xs.mergeSort (PySem.W.dataLe false PyData.str) = ys.mergeSort (PySem.W.dataLe false PyData.str) := by
  have t := PySem.W.sortLe_total (listOrd itemOrd) false fun b : Str => PySem.W.keyToks (.str b)
  refine List.Perm.eq_of_pairwise (le := fun a b => PySem.W.dataLe false PyData.str a b = true) (fun a b _ _ h1 h2 => ?_) (PySem.W.sort_pairwise t xs) (PySem.W.sort_pairwise t ys) (((List.mergeSort_perm _ _).trans p).trans (List.mergeSort_perm _ _).symm)
  have e : ∀ a b : Str, PySem.W.dataLe false PyData.str a b = !decide (b.cps.toList < a.cps.toList) := fun a b => by
    rw [← PySem.W.dataLt_str]
    rfl
  rw [e] at h1 h2
  refine PySem.W.str_of_cps (List.le_antisymm ?_ ?_)
  · simpa using h1
  · simpa using h2
theorem dups_nodup : ∀ (n : Nat) (xs : List Str), xs.length ≤ n → xs.eraseDups.Nodup
  | _, [], _ => by simp
  | 0, _ :: _, h => by simp at h
  | n + 1, x :: xs, h => by
    rw [List.eraseDups_cons]
    refine List.nodup_cons.mpr ⟨fun q => ?_, dups_nodup n _ ?_⟩
    · rw [List.mem_eraseDups] at q
      simp at q
    · exact Nat.le_trans (List.length_filter_le _ _) (by simpa using h)
theorem dups_perm {l xs : List Str} (nd : l.Nodup) (m : ∀ z, z ∈ l ↔ z ∈ xs) : l.Perm xs.eraseDups :=
  (List.perm_ext_iff_of_nodup nd (dups_nodup _ xs (Nat.le_refl _))).mpr fun z => by rw [m, List.mem_eraseDups]

/-- the set, as an object of ours -/
def setXO (P : Program) (w : World) (a : Addr) (xs : List Str) (n : Nat) : HO := .ext fun h => HasX P w h a xs n
def rSetX (P : Program) (w : World) (K : W.Frag) : List V → Hp → VK → Prop := fun vs H Q => ∃ (l : Addr) (zs : List Str), vs = [.ref l] ∧ (SqL K H l (zs.map V.str) ∨ SqT K H l (zs.map V.str)) ∧ zs.length + 1 < scanBound ∧
  ∀ a, H a = none → Q (.ref a) (upd H a (setXO P w a zs zs.length))
def rSortX (P : Program) (w : World) : List V → Hp → VK → Prop := fun vs H Q => ∃ (a : Addr) (zs : List Str), vs = [.ref a] ∧ H a = some (setXO P w a zs zs.length) ∧ zs.length + 1 < scanBound ∧
  ∀ p, H p = none → Q (.ref p) (upd H p (.lst ((zs.eraseDups.mergeSort (PySem.W.dataLe false PyData.str)).map V.str)))
theorem strs_vals : ∀ {zs : List Str} {us : List Value}, Vals (zs.map V.str) us → StrsAre us zs
  | [], _, r => by cases r; exact .nil
  | z :: zs, _, r => by
    cases r with
    | cons h t =>
      obtain ⟨tk, rfl⟩ := h
      exact .cons z tk (strs_vals t)
def strOf : Value → Str
  | .str z _ => z
  | _ => Str.empty
theorem each_str : ∀ {vs : List Value}, (∀ v ∈ vs, ∃ z t, v = .str z t) → PySem.W.EachIs (fun v z => ∃ t, v = .str z t) vs (vs.map strOf)
  | [], _ => .nil
  | v :: vs, h => by
    obtain ⟨z, t, rfl⟩ := h v List.mem_cons_self
    exact .cons ⟨t, rfl⟩ (each_str fun u hu => h u (List.mem_cons_of_mem _ hu))
theorem perm_within : ∀ {l ys : List Str}, l.Nodup → (∀ z ∈ l, z ∈ ys) → ys.length ≤ l.length → ys.Perm l
  | [], ys, _, _, h => by
    cases ys with
    | nil => exact List.Perm.refl _
    | cons _ _ => simp at h
  | x :: l, ys, nd, sub, h => by
    obtain ⟨h1, h2⟩ := List.nodup_cons.mp nd
    have p := List.perm_cons_erase (sub x List.mem_cons_self)
    refine p.trans ((perm_within h2 (fun z hz => ?_) ?_).cons x)
    · have := p.mem_iff.mp (sub z (List.mem_cons_of_mem _ hz))
      rcases List.mem_cons.mp this with e | e
      · exact absurd (e ▸ hz) h1
      · exact e
    · have := p.length_eq
      simp at this h
      omega
theorem set_strs {P : Program} {w : World} {D : SD} {l : List Str} (F : TxOk P w D l) (nd : l.Nodup) : (∀ v ∈ D.1.toList.map (·.2), ∃ z t, v = .str z t) ∧ ((D.1.toList.map (·.2)).map strOf).Perm l := by
  have h1 : ∀ v ∈ D.1.toList.map (·.2), ∃ z t, v = .str z t := fun v hv => by
    obtain ⟨e, he, rfl⟩ := List.mem_map.mp hv
    obtain ⟨⟨k, hk, _⟩, _⟩ := F.el e he
    have hk : Value.isStrOf k e.2 = true := hk
    cases q : e.2 <;> rw [q] at hk <;> first | exact ⟨_, _, rfl⟩ | simp [Value.isStrOf] at hk
  refine ⟨h1, perm_within nd (fun z hz => ?_) ?_⟩
  · obtain ⟨e, he, hk⟩ := (F.mem z).mp hz
    have hk : Value.isStrOf z e.2 = true := hk
    refine List.mem_map.mpr ⟨e.2, List.mem_map.mpr ⟨e, he, rfl⟩, ?_⟩
    cases q : e.2 <;> rw [q] at hk <;> simp [Value.isStrOf] at hk
    exact hk
  · have := F.sz
    simp [this]
section
variable {X : Cx}
theorem setXO_new {P : Program} {w : World} {H : Hp} {h : Heap} {a : Addr} {xs : List Str} {n : Nat} (R : HasX P w h a xs n) : ObjOk P w H h a (setXO P w a xs n) := by
  have ⟨l, ⟨D, ho, r⟩, q⟩ := R
  exact ⟨R, ⟨_, ho⟩, fun h1 h2 p k => p.keep k⟩
theorem call_setX (hc : X.calm = true) : CallR X (.type "set") (rSetX X.prog X.w X.K) := by
  intro pins s σ H vs us Q I r h
  obtain ⟨l, zs, rfl, hl, hz, q⟩ := h
  rw [Vals.ref1 r]
  have fin : ∀ (its : List Value), StrsAre its.toArray.toList zs → ∀ (h' : Heap) (tk : Nat), HasX X.prog X.w h' s.heap.objs.size zs its.toArray.size → (∀ b o, s.heap.get? b = some o → h'.get? b = some o) → EP X pins σ Q (.ref s.heap.objs.size) { s with heap := h', toks := tk } := fun its e h' tk x k => by
    have e2 : its.toArray.size = zs.length := by rw [← StrsAre.len_eq e, Array.length_toList]
    rw [e2] at x
    exact ⟨.ref _, upd H s.heap.objs.size (setXO X.prog X.w s.heap.objs.size zs zs.length), I.laid (t' := tk) k (Nat.le_refl _) (setXO_new x), rfl, q _ (I.hok.fresh (Nat.le_refl _))⟩
  rcases hl with hl | hl
  · obtain ⟨its, rv, pl, _⟩ := I.list hl
    have e : StrsAre its.toArray.toList zs := by simpa using strs_vals rv
    exact new_set_list (I.ok.hd hc) pl.isList e (by rw [← Array.length_toList, StrsAre.len_eq e]; exact hz) (fin its e)
  · obtain ⟨its, rv, it, _⟩ := I.tuple hl
    obtain ⟨o, ho, hcl, n, hd⟩ := it
    have e : StrsAre its.toArray.toList zs := by simpa using strs_vals rv
    exact new_set_tuple (I.ok.hd hc) ⟨o, ho, hcl, n, hd⟩ e (by rw [← Array.length_toList, StrsAre.len_eq e]; exact hz) (fin its e)
theorem call_sortX (hc : X.calm = true) (hu : X.A.units + 200 < cLine) : CallR X (.builtin "sorted") (rSortX X.prog X.w) := by
  intro pins s σ H vs0 us Q I r h
  obtain ⟨a, zs, rfl, ha, hz, q⟩ := h
  obtain ⟨l, ⟨D, ho, F, nd, ris, led⟩, mem, len⟩ := (I.hok a _ ha).1
  rw [List.take_length] at mem
  obtain ⟨f1, f2⟩ := set_strs F nd
  rw [Vals.ref1 r]
  refine Calls.call_function_entry kind_sorted plain_sorted entry_sorted (args_sorted1 _) ?_
  unfold Builtin.«sorted»
  refine wpAny_bind (m := checkCount "sorted" 1 1 _) (wpAny_pure ?_)
  refine wpAny_bind (collect_set (A := X.A.in1) (I.ok.hd hc) ⟨_, ho, rfl, rfl⟩ F.fit (by have := F.sz; omega) ris led fun s1 vs k1 hz1 g1 o1 pm => ?_)
  have e := each_str fun v hv => f1 v (pm.mem_iff.mp hv)
  have py : (vs.map strOf).Perm zs.eraseDups := ((pm.map strOf).trans f2).trans (dups_perm nd mem)
  have lv : vs.length ≤ zs.length := by
    have := (pm.map strOf).trans f2 |>.length_eq
    simp at this
    omega
  have lz : vs.length ≤ sizeLine := by
    rw [sizeLine_eq]
    unfold scanBound at hz
    omega
  refine wpAny_bind (wpAny_newList ?_ lz)
  have hoL : (s1.heap.push (seqObj "list" vs.toArray 0)).get? s1.heap.objs.size = some (seqObj "list" vs.toArray 0) := Heap.get?_push_size _ rfl
  have er : ∀ (h : Heap), PySem.W.EachIs (fun v d => ∃ as, Reads h v d as) vs ((vs.map strOf).map PyData.str) := fun h => PySem.W.each_map PyData.str (e.mono fun v z ⟨t, q⟩ => ⟨[], q ▸ Reads.str z t⟩)
  have hal : PySem.W.AllAlike ((vs.map strOf).map PyData.str) := fun d hd d' hd' => by
    obtain ⟨z, _, rfl⟩ := List.mem_map.mp hd
    obtain ⟨z', _, rfl⟩ := List.mem_map.mp hd'
    rfl
  refine wpAny_bind (wpAny_holding (wpAny_call_entry slot_list_sort ⟨_, hoL, rfl⟩ entry_list_sort (PySem.W.list_sort_vals (s := { s1 with heap := s1.heap.push (seqObj "list" vs.toArray 0) }) hoL (PySem.W.SortsAt.data (er _) hal (.inr fun d hd => ?_) fun d hd => ?_) lz ⟨_, rfl, ?_⟩) (args_list_sort _)))
  · obtain ⟨z, _, rfl⟩ := List.mem_map.mp hd
    exact ⟨by simp, fun _ => by simp⟩
  · obtain ⟨z, _, rfl⟩ := List.mem_map.mp hd
    have : PyData.depth (.str z) = 0 := by simp [PyData.depth]
    rw [this]
    have e1 : X.A.in1.in1.units = X.A.units + 1 + 1 := rfl
    omega
  · have eo := fun hh => PySem.W.sortVals_each (rev := false) (κ := PySem.W.dataKind hh ((vs.map strOf).map PyData.str)) (fun z => PySem.W.keyToks (.str z)) e (PySem.W.each_of_map PyData.str (PySem.W.each_keys hal (er _)))
    have eo := eo (PySem.W.sortingHeap (s1.heap.push (seqObj "list" vs.toArray 0)) s1.heap.objs.size vs)
    have fin2 : ∀ {out : List Value} {ys : List Str}, PySem.W.EachIs (fun v z => ∃ t, v = Value.str z t) out ys → Vals (ys.map V.str) out := fun e => by
      induction e with
      | nil => exact .nil
      | cons h _ ih => exact .cons h ih
    have v2 := fin2 eo
    have e3 : (vs.map strOf).mergeSort (PySem.W.sortLe (PySem.W.dataKind (PySem.W.sortingHeap (s1.heap.push (seqObj "list" vs.toArray 0)) s1.heap.objs.size vs) ((vs.map strOf).map PyData.str)).toKeyOrd false fun z => PySem.W.keyToks (PyData.str z)) = _ := texts_sorted py
    rw [e3] at v2
    obtain ⟨c, hc2⟩ := sortedHeap_at (vs := vs) (out := (PySem.W.sortVals (PySem.W.dataKind (PySem.W.sortingHeap (s1.heap.push (seqObj "list" vs.toArray 0)) s1.heap.objs.size vs) ((vs.map strOf).map PyData.str)) false vs vs).toArray) hoL
    refine wpAny_pure ⟨_, rfl, ?_⟩
    have kk : ∀ b u, s.heap.get? b = some u → (sortedHeap (s1.heap.push (seqObj "list" vs.toArray 0)) s1.heap.objs.size vs (PySem.W.sortVals (PySem.W.dataKind (PySem.W.sortingHeap (s1.heap.push (seqObj "list" vs.toArray 0)) s1.heap.objs.size vs) ((vs.map strOf).map PyData.str)) false vs vs).toArray).get? b = some u := fun b u e => by
      have e5 := k1 b u e
      have lb := Heap.lt_size e5
      rw [sortedHeap_old (Nat.ne_of_lt lb) (by rw [size_push']; exact Nat.lt_succ_of_lt lb)]
      exact Heap.get?_push_of_some _ e5
    have hn : H s1.heap.objs.size = none := I.hok.fresh hz1
    have hlen : ((zs.eraseDups.mergeSort (PySem.W.dataLe false PyData.str)).map V.str).length ≤ sizeLine := by
      rw [List.length_map, (List.mergeSort_perm _ _).length_eq, ← py.length_eq, List.length_map]
      exact lz
    show EP X pins σ Q _ { s1 with heap := sortedHeap (s1.heap.push (seqObj "list" vs.toArray 0)) s1.heap.objs.size vs (PySem.W.sortVals (PySem.W.dataKind (PySem.W.sortingHeap (s1.heap.push (seqObj "list" vs.toArray 0)) s1.heap.objs.size vs) ((vs.map strOf).map PyData.str)) false vs vs).toArray }
    generalize sortedHeap (s1.heap.push (seqObj "list" vs.toArray 0)) s1.heap.objs.size vs (PySem.W.sortVals (PySem.W.dataKind (PySem.W.sortingHeap (s1.heap.push (seqObj "list" vs.toArray 0)) s1.heap.objs.size vs) ((vs.map strOf).map PyData.str)) false vs vs).toArray = hh at kk hc2 ⊢
    have J : Inv X pins σ (upd H s1.heap.objs.size (.lst ((zs.eraseDups.mergeSort (PySem.W.dataLe false PyData.str)).map V.str))) { s with heap := hh, gens := s1.gens, drawn := s1.drawn, toks := s1.toks } :=
      I.call (ch := []) (Un.laid kk hz1 hn) (I.hok.laid kk hz1 ⟨hlen, _, c, v2, hc2⟩) (by rw [g1]; exact I.bare) (fun _ z => nomatch z)
    have es : ({ s1 with heap := hh } : Shared) = { s with heap := hh, gens := s1.gens, drawn := s1.drawn, toks := s1.toks } := by
      rw [← o1]
    rw [es]
    exact ⟨.ref s1.heap.objs.size, _, J, rfl, q _ hn⟩
end
section
variable {K : W.Frag} {w : World} {g g' g₀ : Gh} {S : Sto} {x y z : DT} {v u : V} {Q : VK}
theorem txts_reps : ∀ {xs : List D} {zs : List Str} {vs : List V}, txts xs = some zs → Reps K w g xs vs → vs = zs.map V.str
  | [], zs, _, h, r => by
    cases r
    cases h
    rfl
  | d :: xs, zs, _, h, r => by
    cases r with
    | cons r1 r2 =>
      cases d with
      | str s =>
        obtain ⟨zs', h1, rfl⟩ := Option.map_eq_some_iff.mp (show (txts xs).map (s :: ·) = some zs from h)
        cases r1
        rw [List.map_cons, txts_reps h1 r2]
      | _ => cases h
theorem reps_strs : ∀ (zs : List Str), Reps K w g (zs.map D.str) (zs.map V.str)
  | [] => .nil
  | z :: zs => .cons (.str z) (reps_strs zs)
theorem setx_core {P : Program} {d : D} (A : After g₀ g) (W : WF K w g S) (r : RepA K w g g₀ d v) (h : bltF S .sortedset [d] = some z) (fin : Fin K w g₀ g S z Q) : rSetX P w K [v] g.H fun v1 H1 => rSortX P w [v1] H1 Q := by
  obtain ⟨t, r⟩ := r
  have h : (match seqV S d with
    | some xs => match txts xs with
      | some zs => if zs.length < 4000 then some (fresh (.lst ((zs.eraseDups.mergeSort (PySem.W.dataLe false PyData.str)).map D.str))) else none
      | none => none
    | none => none) = some z := h
  split at h
  · rename_i xs hx
    split at h
    · rename_i zs hz
      split at h
      · rename_i hl
        cases h
        obtain ⟨a, vs, rfl, hq, hr⟩ := view_seq W r hx
        obtain rfl := txts_reps hz hr
        have hb : zs.length + 1 < scanBound := by
          have : (4001 : Nat) < scanBound := by decide
          omega
        refine ⟨a, zs, rfl, hq, hb, fun b hb0 => ⟨b, zs, rfl, by simp [upd], hb, fun p hp => ?_⟩⟩
        have A2 : After g (g.lay b (setXO P w b zs zs.length)) := After.lay hb0
        exact Fin.lst (g := g.lay b (setXO P w b zs zs.length)) (fun g' v a1 a2 w1 r1 => fin g' v a1 (A2.trans a2) w1 r1) (A.trans A2) (W.lay hb0) (reps_strs _) p hp
      · cases h
    · cases h
  · cases h
end
end Mp
set_option Elab.async false
set_option linter.all false
set_option maxRecDepth 100000
set_option maxHeartbeats 8000000
/-! a written expression is what the evaluator's expression says -/
namespace Mp
open PySem PySem.Spec PyProof.Rows L2

/-! ### what is looked at -/
mutual
def D.same : D → D → Bool
  | .non, .non => true
  | .bl a, .bl b => a == b
  | .int a, .int b => decide (a = b)
  | .str a, .str b => decide (a = b)
  | .tup a, .tup b => D.sames a b
  | .lst a, .lst b => D.sames a b
  | .dic k a, .dic l b => decide (k = l) && D.sames a b
  | .ref a, .ref b => decide (a = b)
  | _, _ => false
def D.sames : List D → List D → Bool
  | [], [] => true
  | a :: r, b :: s => D.same a b && D.sames r s
  | _, _ => false
end
structure SC where
  N : List Str
  scope : Scope
  fnC : Option Scope
  glb : List (Str × D)
  fns : List (Str × Nat)
def vis (sc : SC) (x : Str) : Bool := match sc.scope.names.lookup x with
  | some .local => true
  | some .cell => true
  | some .free => true
  | _ => false
def isGl (sc : SC) (x : Str) : Bool := match sc.scope.names.lookup x with
  | some .globalImplicit => !(x == ("__debug__" : Str))
  | _ => false
def varOk (sc : SC) (i : Nat) (x : Str) : Bool := decide (sc.N[i]? = some x) && vis sc x && !(x == ("__debug__" : Str)) && !(x == ("__classdict__" : Str))
/-- a name that is written to -/
def locOk (sc : SC) (i : Nat) (x : Str) : Bool := decide (sc.N[i]? = some x) && match sc.scope.names.lookup x with
  | some .local => true
  | some .cell => (match sc.fnC with
    | none => true
    | some s => s.names.lookup x == some .cell)
  | _ => false
def noStar : Expr → Bool
  | .Starred _ _ => false
  | _ => true
def noSlice : Expr → Bool
  | .Slice _ _ _ _ => false
  | _ => true
def noSet : Expr → Bool
  | .Set _ _ _ => false
  | _ => true
def noSup : Expr → Bool
  | .Call (.Name _ _) [] [] _ => false
  | _ => true
def noIf : Expr → Bool
  | .IfExp _ _ _ _ => false
  | _ => true
def cmpOf : CO → CmpOp
  | .eq => .Eq | .ne => .NotEq | .lt => .Lt | .le => .LtE | .gt => .Gt | .ge => .GtE | .is => .Is | .isn => .IsNot | .inn => .In | .nin => .NotIn
def binOf : BO → Operator
  | .add => .Add | .sub => .Sub | .mul => .Mult | .fdiv => .FloorDiv | .mod => .Mod | .pow => .Pow
def bNames : List Str := ["len", "isinstance", "all", "sorted", "min", "abs", "int", "list", "tuple", "dict", "set", "range", "zip", "str", "bool"]
def chkC : D → Expr → Bool
  | .non, .Constant .none _ _ => true
  | .bl b, .Constant (.bool c) _ _ => b == c
  | .int i, .Constant (.int j) _ _ => decide (i = j)
  | .int i, .UnaryOp .USub (.Constant (.int j) _ _) _ => decide (i = -j)
  | .str z, .Constant (.str y) _ _ => decide (z = y)
  | _, _ => false
def chkTs (sc : SC) : List Nat → List Expr → Bool
  | [], [] => true
  | i :: is, .Name x _ :: es => locOk sc i x && chkTs sc is es
  | _, _ => false
def chkG (sc : SC) : CT → Expr → Bool
  | .nm i, .Name x _ => locOk sc i x
  | .tup is, .Tuple es _ _ => chkTs sc is es
  | _, _ => false
def SC.blk (sc : SC) (scope : Scope) : SC := { sc with scope := relS scope sc.scope, fnC := some scope }
def ownOf (sc : SC) (vs : List Nat) : List (Str × Nat) := vs.map fun i => ((sc.N[i]?).getD "", i)

def chkK : List Str → List (Option Expr) → Bool
  | [], [] => true
  | k :: ks, some (.Constant (.str z) _ _) :: r => decide (k = z) && chkK ks r
  | _, _ => false
mutual
def chk (sc : SC) : CE → Expr → Bool
  | .cst d, e => chkC d e
  | .glb y d, e => match e with
    | .Name x _ => decide (x = y) && isGl sc x && (match sc.glb.lookup x with | some d' => D.same d d' | none => false)
    | _ => false
  | .var i, e => match e with
    | .Name x _ => varOk sc i x
    | _ => false
  | .tup es, e => match e with
    | .Tuple xs _ _ => chks sc es xs && decide (es.length ≤ 1000)
    | _ => false
  | .lst es, e => match e with
    | .List xs _ => chks sc es xs && decide (es.length ≤ 1000)
    | _ => false
  | .new a, e => chk sc a e
  | .sub a b, e => match e with
    | .Subscript x y _ => chk sc a x && chk sc b y && noSlice y
    | _ => false
  | .sli a l h, e => match e with
    | .Subscript x (.Slice (some y) (some z) none _) _ => chk sc a x && chk sc l y && chk sc h z
    | _ => false
  | .sliL a l, e => match e with
    | .Subscript x (.Slice (some y) none none _) _ => chk sc a x && chk sc l y
    | _ => false
  | .sliH a h, e => match e with
    | .Subscript x (.Slice none (some z) none _) _ => chk sc a x && chk sc h z
    | _ => false
  | .bin o a b, e => match e with
    | .BinOp x op y _ => decide (op = binOf o) && chk sc a x && chk sc b y
    | _ => false
  | .cmp o a b, e => match e with
    | .Compare x [op] [y] _ => decide (op = cmpOf o) && chk sc a x && chk sc b y && noSet y
    | _ => false
  | .chn o p a b d, e => match e with
    | .Compare x [op, op'] [y, z] _ => decide (op = cmpOf o) && decide (op' = cmpOf p) && chk sc a x && chk sc b y && chk sc d z && noSet z
    | _ => false
  | .and es, e => match e with
    | .BoolOp .And xs _ => chks sc es xs && xs.all noIf
    | _ => false
  | .or es, e => match e with
    | .BoolOp .Or xs _ => chks sc es xs && xs.all noIf
    | _ => false
  | .not a, e => match e with
    | .UnaryOp .Not x _ => chk sc a x && noIf x
    | _ => false
  | .ite t a b, e => match e with
    | .IfExp x y z _ => chk sc t x && noIf x && chk sc a y && chk sc b z
    | _ => false
  | .cal f es, e => match e with
    | .Call (.Name x _) xs [] _ => isGl sc x && (sc.fns.lookup x == some f) && chks sc es xs && xs.all noStar
    | _ => false
  | .blt f es, e => match f, es, e with
    | .len, [a], .Call (.Name x _) [y] [] _ => decide (x = "len") && isGl sc x && chk sc a y && noStar y
    | .all, [a], .Call (.Name x _) [y] [] _ => decide (x = "all") && isGl sc x && chk sc a y && noStar y
    | .abs, [a], .Call (.Name x _) [y] [] _ => decide (x = "abs") && isGl sc x && chk sc a y && noStar y
    | .min2, [a, b], .Call (.Name x _) [y, z] [] _ => decide (x = "min") && isGl sc x && chk sc a y && chk sc b z && noStar y && noStar z
    | .int, [a], .Call (.Name x _) [y] [] _ => decide (x = "int") && isGl sc x && chk sc a y && noStar y
    | .sorted, [a], .Call (.Name x _) [y] [] _ => decide (x = "sorted") && isGl sc x && chk sc a y && noStar y
    | .sortedset, [a], .Call (.Name x _) [.Call (.Name x2 _) [y] [] _] [] _ => decide (x = "sorted") && decide (x2 = "set") && isGl sc x && isGl sc x2 && chk sc a y && noStar y
    | .list, [a], .Call (.Name x _) [y] [] _ => decide (x = "list") && isGl sc x && chk sc a y && noStar y
    | .dict, [a], .Call (.Name x _) [y] [] _ => decide (x = "dict") && isGl sc x && chk sc a y && noStar y
    | .tuple, [a], .Call (.Name x _) [y] [] _ => decide (x = "tuple") && isGl sc x && chk sc a y && noStar y
    | .isi t, [a], .Call (.Name x _) [y, .Name z _] [] _ => decide (x = "isinstance") && isGl sc x && chk sc a y && noStar y && decide (z = Str.ofString t) && isGl sc z && menuT.contains t
    | _, _, _ => false
  | .lc elt tg it ifs vs, e => match ifs, e with
    | none, .ListComp x [⟨t, i, [], n⟩] scope _ => decide (n = 0) && noSet i && tg.ixs.all (vs.contains ·) && blkC sc.N sc.scope scope (ownOf sc vs) && chkG (sc.blk scope) tg t && chkI sc it i (match t with | .Tuple _ _ _ => true | _ => false) && chk (sc.blk scope) elt x
    | some q, .ListComp x [⟨t, i, [y], n⟩] scope _ => decide (n = 0) && noSet i && tg.ixs.all (vs.contains ·) && blkC sc.N sc.scope scope (ownOf sc vs) && chkG (sc.blk scope) tg t && chkI sc it i (match t with | .Tuple _ _ _ => true | _ => false) && chk (sc.blk scope) elt x && chk (sc.blk scope) q y && noIf y
    | _, _ => false
  | .dct ks es, e => match e with
    | .Dict keys xs _ => chkK ks keys && chks sc es xs && decide (ks.length = es.length) && decide (ks.length ≤ 15) && decide ks.Nodup
    | _ => false
  | .mth _ _ _, _ => false
  | .get2 o k a, e => match e with
    | .Call (.Attribute x m ap) [y, z] [] cp => decide (m = "get") && chk sc o x && chk sc k y && chk sc a z && noSup x && noStar y && noStar z && (ap.endLine == cp.line)
    | _ => false
def chks (sc : SC) : List CE → List Expr → Bool
  | [], [] => true
  | a :: es, x :: xs => chk sc a x && noStar x && chks sc es xs
  | _, _ => false
def chkI (sc : SC) : CI → Expr → Bool → Bool
  | .seq a, e, _ => chk sc a e
  | .vals a, e, _ => match e with
    | .Call (.Attribute x m ap) [] [] cp => decide (m = "values") && chk sc a x && noSup x && (ap.endLine == cp.line)
    | _ => false
  | .items a, e, t => t && match e with
    | .Call (.Attribute x m ap) [] [] cp => decide (m = "items") && chk sc a x && noSup x && (ap.endLine == cp.line)
    | _ => false
  | .range1 a, e, _ => match e with
    | .Call (.Name x _) [y] [] _ => decide (x = "range") && isGl sc x && chk sc a y && noStar y
    | _ => false
  | .range2 a b, e, _ => match e with
    | .Call (.Name x _) [y, z] [] _ => decide (x = "range") && isGl sc x && chk sc a y && chk sc b z && noStar y && noStar z
    | _ => false
  | .zip a b, e, t => t && match e with
    | .Call (.Name x _) [y, z] [] _ => decide (x = "zip") && isGl sc x && chk sc a y && chk sc b z && noStar y && noStar z
    | _ => false
  | .enum _, _, _ => false
end

/-! ### what a context must give -/
def NoE : XK := fun _ _ _ => False
def spF (K : W.Frag) (w : World) (c : Calls) (i : Nat) : Sp := fun vs H Q _ => ∃ g S ds, g.H = H ∧ WF K w g S ∧ Reps K w g ds vs ∧ EvR K w g Q (c i ds S)
/-- a def that can be called -/
structure Can (X : Cx) (CX : CXT) (c : Calls) (x : Str) (i : Nat) : Prop where
  get : ∃ (k : Nat) (f : Addr) (fd : FuncData) (ps : List Str), X.mg x = some (.ref f) ∧ PySem.W.keepIn X.K (.ref f) = true ∧ Binds X.K fd ps [] ∧ Room k X.A ∧ FnOk X.prog X.w X.K X.mg X.base CX k f fd ps (spF X.K X.w c i)
structure Fits (X : Cx) (CX : CXT) (sc : SC) (c : Calls) : Prop where
  N : X.N = sc.N
  nd : X.N.Nodup
  scope : X.env.scope = sc.scope
  fn : match sc.fnC with
    | none => ∀ x, X.fn x = true
    | some s => ∀ x, X.fn x = (s.names.lookup x == some .cell)
  calm : X.calm = true
  units : X.A.units + 200 < cLine
  glb : ∀ x d, sc.glb.lookup x = some d → ∃ v u, X.mg x = some u ∧ RelV v u ∧ ∀ g, Rep X.K X.w g d v
  blt : ∀ x ∈ bNames, X.mg x = none
  fns : ∀ x i, sc.fns.lookup x = some i → Can X CX c x i
  no : ∀ l H s e s', CX l H s NoE e s' → False

mutual
theorem D.same_eq : ∀ (a b : D), D.same a b = true → a = b
  | .non, b, h => by cases b <;> simp [D.same] at h <;> first | rfl | cases h
  | .bl x, b, h => by
    cases b <;> simp [D.same] at h
    rw [h]
  | .int x, b, h => by
    cases b <;> simp [D.same] at h
    rw [h]
  | .str x, b, h => by
    cases b <;> simp [D.same] at h
    rw [h]
  | .tup x, b, h => by
    cases b with
    | tup y =>
      simp only [D.same] at h
      rw [D.sames_eq x y h]
    | _ => simp [D.same] at h
  | .lst x, b, h => by
    cases b with
    | lst y =>
      simp only [D.same] at h
      rw [D.sames_eq x y h]
    | _ => simp [D.same] at h
  | .dic k x, b, h => by
    cases b with
    | dic l y =>
      simp only [D.same, Bool.and_eq_true, decide_eq_true_eq] at h
      rw [h.1, D.sames_eq x y h.2]
    | _ => simp [D.same] at h
  | .ref x, b, h => by
    cases b <;> simp [D.same] at h
    rw [h]
  | .cel x, b, h => by cases b <;> simp [D.same] at h
theorem D.sames_eq : ∀ (a b : List D), D.sames a b = true → a = b
  | [], [], _ => rfl
  | a :: r, b :: s, h => by
    simp only [D.sames, Bool.and_eq_true] at h
    rw [D.same_eq a b h.1, D.sames_eq r s h.2]
  | [], _ :: _, h => by simp [D.sames] at h
  | _ :: _, [], h => by simp [D.sames] at h
end
end Mp
set_option Elab.async false
set_option linter.all false
set_option maxRecDepth 100000
set_option maxHeartbeats 8000000
/-! a written expression is what the evaluator's expression says: the proof -/
namespace Mp
open PySem PySem.Spec PyProof.Rows L2
section
variable {X : Cx} {CX : CXT} {sc : SC} {c : Calls}
theorem starE {e : Expr} {es : List Expr} {env : PySem.Env} (h : noStar e = true) : starEach (e :: es) env = (false, eval e env) :: starEach es env := by
  cases e <;> first | rfl | cases h
theorem starAny {pos : Pos} {env : PySem.Env} : ∀ {es : List Expr}, es.all noStar = true → (backTo pos (starEach es env)).any (·.1) = false
  | [], _ => rfl
  | e :: es, h => by
    simp only [List.all_cons, Bool.and_eq_true] at h
    rw [starE h.1]
    show (false || (backTo pos (starEach es env)).any (·.1)) = false
    rw [starAny h.2]
    rfl
theorem chks_star : ∀ {es : List CE} {xs : List Expr}, chks sc es xs = true → xs.all noStar = true ∧ xs.length = es.length
  | [], [], _ => ⟨rfl, rfl⟩
  | [], _ :: _, h => by simp [chks] at h
  | _ :: _, [], h => by simp [chks] at h
  | a :: es, x :: xs, h => by
    simp only [chks, Bool.and_eq_true] at h
    obtain ⟨h1, h2⟩ := chks_star h.2
    exact ⟨by simp [h.1.2, h1], by simp [h2]⟩
theorem Fits.gl (F : Fits X CX sc c) {x : Str} (h : isGl sc x = true) : Gl X x ∧ (x == ("__debug__" : Str)) = false := by
  unfold isGl at h
  split at h
  · rename_i e
    refine ⟨?_, by simpa using h⟩
    show X.env.scope.names.lookup x = _
    rw [F.scope, e]
  · cases h
theorem Fits.vis (F : Fits X CX sc c) {x : Str} (h : vis sc x = true) : Vis X.env.scope x := by
  unfold Mp.vis at h
  rw [F.scope]
  unfold Vis
  split at h
  · rename_i e; exact .inl e
  · rename_i e; exact .inr (.inl e)
  · rename_i e; exact .inr (.inr e)
  · cases h
theorem Fits.loc (F : Fits X CX sc c) {x : Str} {i : Nat} (h : locOk sc i x = true) : X.N[i]? = some x ∧ L2.Loc X.env.scope x ∧ (X.fn x = true ∨ X.env.scope.names.lookup x = some .local) := by
  unfold locOk at h
  simp only [Bool.and_eq_true, decide_eq_true_eq] at h
  obtain ⟨h1, h2⟩ := h
  refine ⟨by rw [F.N]; exact h1, ?_⟩
  have hf := F.fn
  unfold L2.Loc
  rw [F.scope]
  split at h2
  · rename_i e; exact ⟨.inl e, .inr e⟩
  · rename_i e
    refine ⟨.inr e, .inl ?_⟩
    cases hc : sc.fnC with
    | none => rw [hc] at hf; exact hf x
    | some s => rw [hc] at hf h2; rw [hf x]; exact h2
  · cases h2
theorem Fits.pg (F : Fits X CX sc c) {tg : CT} {e : Expr} (h : chkG sc tg e = true) : PG X e (gT X.K tg) := by
  have all : ∀ (is : List Nat) (es : List Expr), chkTs sc is es = true → PGs X es (gT.gAll is) ∧ (assignEach es X.env).length = is.length ∧ (assignEach es X.env).findIdx? (·.1) = none := fun is => by
    induction is with
    | nil =>
      intro es h
      cases es with
      | nil => exact ⟨pgs_nil, rfl, rfl⟩
      | cons _ _ => simp [chkTs] at h
    | cons i is ih =>
      intro es h
      cases es with
      | nil => simp [chkTs] at h
      | cons e es =>
        cases e with
        | Name x pos =>
          simp only [chkTs, Bool.and_eq_true] at h
          obtain ⟨h1, h2, h3⟩ := ih es h.2
          obtain ⟨l1, l2, l3⟩ := F.loc h.1
          refine ⟨pgs_cons (pg_name F.nd l1 l2 l3) h1, ?_, ?_⟩
          · show (assignEach es X.env).length + 1 = is.length + 1
            rw [h2]
          · show List.findIdx? _ ((false, _) :: assignEach es X.env) = none
            rw [List.findIdx?_cons, h3]
            rfl
        | _ => simp [chkTs] at h
  cases tg with
  | nm i =>
    cases e with
    | Name x pos =>
      obtain ⟨l1, l2, l3⟩ := F.loc (show locOk sc i x = true from h)
      exact pg_name F.nd l1 l2 l3
    | _ => simp [chkG] at h
  | tup is =>
    cases e with
    | Tuple es k pos =>
      obtain ⟨h1, h2, h3⟩ := all is es h
      exact pg_tup F.calm h1 h2 h3
    | _ => simp [chkG] at h
theorem Fits.blk (F : Fits X CX sc c) {scope : Scope} (s : Shared) (H : Hp) (C : Addr) (cl : List (Str × Addr)) (fp : List Addr) : Fits (X.blk s H scope (compEnvC scope cl C X.env) fp) CX (sc.blk scope) c where
  N := F.N
  nd := F.nd
  scope := by
    show relS scope X.env.scope = relS scope sc.scope
    rw [F.scope]
  fn := fun _ => rfl
  calm := F.calm
  units := F.units
  glb := F.glb
  blt := F.blt
  fns := fun x i h => ⟨(F.fns x i h).get⟩
  no := F.no
theorem Fits.pass (F : Fits X CX sc c) : Passes CX X NoE := fun _ _ _ _ _ _ _ h => (F.no _ _ _ _ _ h).elim
theorem own_ixs (sc : SC) (vs : List Nat) : (ownOf sc vs).map (·.2) = vs := by
  unfold ownOf
  rw [List.map_map]
  show vs.map (fun i => i) = vs
  simp
theorem nosup {o : Expr} {m : Str} {env : PySem.Env} (h : noSup o = true) : attributeBase o m env (eval o env) = eval o env := by
  cases o with
  | Call f as ks pos =>
    cases f with
    | Name x p =>
      cases as with
      | nil =>
        cases ks with
        | nil => simp [noSup] at h
        | cons _ _ => rfl
      | cons _ _ => rfl
    | _ => rfl
  | _ => rfl
theorem noset {e : Expr} {env : PySem.Env} (h : noSet e = true) : ∀ x, foldedSetIterable e env x = pure x := by
  intro x
  cases e <;> first | rfl | simp [noSet] at h
theorem nomarks {op : CmpOp} {e : Expr} (h : noSet e = true) : behindInMarks op e = false := by
  cases e <;> first | rfl | simp [noSet] at h
theorem plainix {e : Expr} (h : noSlice e = true) : PlainIx e := by
  intro o i
  cases e <;> first | rfl | simp [noSlice] at h
theorem or_bin (o : BO) (h : X.A.units + 200 < cLine) : ∃ r : R2, OpR X (binaryOp (binOf o)) r ∧ ∀ {g₀ g : Gh} {S : Sto} {x y z : DT} {v u : V} {Q : VK}, After g₀ g → WF X.K X.w g S → RepT X.K X.w g g₀ x v → RepT X.K X.w g g₀ y u → binF S o x.1 y.1 = some z → Fin X.K X.w g₀ g S z Q → r v u g.H Q := by
  cases o with
  | add => exact ⟨_, or_add, fun A W rx ry hz fin => op2_add X.K X.w _ _ _ _ _ _ _ _ _ A W rx ry hz fin⟩
  | sub => exact ⟨_, op_sub, fun A W rx ry hz fin => op2_sub X.K X.w _ _ _ _ _ _ _ _ _ A W rx ry hz fin⟩
  | mul => exact ⟨_, or_mul, fun A W rx ry hz fin => op2_mul X.K X.w _ _ _ _ _ _ _ _ _ A W rx ry hz fin⟩
  | fdiv => exact ⟨_, op_fdiv, fun A W rx ry hz fin => op2_fdiv X.K X.w _ _ _ _ _ _ _ _ _ A W rx ry hz fin⟩
  | mod => exact ⟨_, op_mod, fun A W rx ry hz fin => op2_mod X.K X.w _ _ _ _ _ _ _ _ _ A W rx ry hz fin⟩
  | pow => exact ⟨_, op_pow, fun A W rx ry hz fin => op2_pow X.K X.w _ _ _ _ _ _ _ _ _ A W rx ry hz fin⟩
theorem or_cmp (o : CO) (h : X.A.units + 200 < cLine) : ∃ r : R2, OpR X (compareOp (cmpOf o)) r ∧ ∀ {g₀ g : Gh} {S : Sto} {x y : DT} {k : Bool} {v u : V} {Q : VK}, After g₀ g → WF X.K X.w g S → RepT X.K X.w g g₀ x v → RepT X.K X.w g g₀ y u → cmpF S o x.1 y.1 = some k → Q (.bl k) g.H → r v u g.H Q := by
  cases o with
  | eq => exact ⟨_, op_eqD (by omega), fun A W rx ry hz q => cmp2_eq X.K X.w _ _ _ _ _ _ _ _ _ A W rx ry hz q⟩
  | ne => exact ⟨_, op_neD (by omega), fun A W rx ry hz q => cmp2_ne X.K X.w _ _ _ _ _ _ _ _ _ A W rx ry hz q⟩
  | lt => exact ⟨_, or_lt, fun A W rx ry hz q => cmp2_lt X.K X.w _ _ _ _ _ _ _ _ _ A W rx ry hz q⟩
  | le => exact ⟨_, or_le, fun A W rx ry hz q => cmp2_le X.K X.w _ _ _ _ _ _ _ _ _ A W rx ry hz q⟩
  | gt => exact ⟨_, or_gt, fun A W rx ry hz q => cmp2_gt X.K X.w _ _ _ _ _ _ _ _ _ A W rx ry hz q⟩
  | ge => exact ⟨_, or_ge, fun A W rx ry hz q => cmp2_ge X.K X.w _ _ _ _ _ _ _ _ _ A W rx ry hz q⟩
  | is => exact ⟨_, or_is, fun A W rx ry hz q => cmp2_is X.K X.w _ _ _ _ _ _ _ _ _ A W rx ry hz q⟩
  | isn => exact ⟨_, or_isn, fun A W rx ry hz q => cmp2_isn X.K X.w _ _ _ _ _ _ _ _ _ A W rx ry hz q⟩
  | inn => exact ⟨_, or_inn (by omega), fun A W rx ry hz q => cmp2_inn W rx ry hz q⟩
  | nin => exact ⟨_, or_nin (by omega), fun A W rx ry hz q => cmp2_nin W rx ry hz q⟩

def Ok2 (X : Cx) (c : Calls) (ce : CE) (e : Expr) : Prop := PE X e (tE X.K X.w c ce) ∧ (noIf e = true → PT X e (tB (tE X.K X.w c ce)))
structure OkL (X : Cx) (c : Calls) (es : List CE) (xs : List Expr) : Prop where
  a : PA X xs (tA X.K X.w c es)
  o : PA X xs (tAo X.K X.w c es)
  and : es ≠ [] → xs.all noIf = true → ∀ pos, PE X (.BoolOp .And xs pos) (tAndL X.K X.w c es) ∧ PW X (.BoolOp .And xs pos) (tB (tAndL X.K X.w c es))
  p : ∀ (ks : List Str) (keys : List (Option Expr)), chkK ks keys = true → ks.length = es.length → ∀ pos, PPs X pos keys xs (trsOf X.K X.w c ks es)
  or : es ≠ [] → xs.all noIf = true → ∀ pos, PE X (.BoolOp .Or xs pos) (tOrL X.K X.w c es) ∧ PW X (.BoolOp .Or xs pos) (tB (tOrL X.K X.w c es))
def OkI (X : Cx) (c : Calls) (it : CI) (e : Expr) (t : Bool) : Prop := ∀ tg : Expr, (t = true → ∃ es k pos, tg = .Tuple es k pos) → PI X tg e (tI X.K X.w c it)
theorem _root_.L2.PI.wk {X : Cx} {tg e : Expr} {t t' : TI} (h : PI X tg e t) (f : ∀ σ H R, t' σ H R → t σ H R) : PI X tg e t' := ⟨fun pins s σ H R I q => h.run pins s σ H R I (f σ H R q)⟩
theorem _root_.L2.PW.wk {X : Cx} {e : Expr} {t t' : TT} (h : PW X e t) (f : ∀ σ H Q, t' σ H Q → t σ H Q) : PW X e t' := ⟨fun wh pins s σ H Q I q => h.run wh pins s σ H Q I (f σ H Q q)⟩
theorem _root_.L2.PTs.wk {X : Cx} {e : List Expr} {t t' : TT} (h : PTs X e t) (f : ∀ σ H Q, t' σ H Q → t σ H Q) : PTs X e t' := ⟨fun pins s σ H Q I q => h.run pins s σ H Q I (f σ H Q q)⟩
/-- a plain expression's test -/
theorem ok_plain {ce : CE} {e : Expr} (h : PE X e (tE X.K X.w c ce)) (he : ∀ whole, isTrue e X.env whole = (do let v ← whole; standAt e.pos; holding [v] (truthy v))) : Ok2 X c ce e := ⟨h, fun _ => pt_val h he⟩
theorem call1 {id : String} {x : Str} {e : Expr} {p pos : Pos} {r : List V → Hp → VK → Prop} {t : TA} (F : Fits X CX sc c) (hc : CallR X (.builtin id) r) (hx : isGl sc x = true) (hb : x ∈ bNames) (hv : bootBuiltins x = some (.builtin id)) (hn : x ≠ "__name__") (ha : PA X [e] t) (hs : noStar e = true) :
    PE X (.Call (.Name x p) [e] [] pos) (tCB r t) := by
  obtain ⟨g1, g2⟩ := F.gl hx
  exact pe_callB hc g1 (F.blt x hb) hv ha hn g2 (starE hs) rfl
theorem call2 {id : String} {x : Str} {e e2 : Expr} {p pos : Pos} {r : List V → Hp → VK → Prop} {t : TA} (F : Fits X CX sc c) (hc : CallR X (.builtin id) r) (hx : isGl sc x = true) (hb : x ∈ bNames) (hv : bootBuiltins x = some (.builtin id)) (hn : x ≠ "__name__") (ha : PA X [e, e2] t) (hs : noStar e = true) (hs2 : noStar e2 = true) :
    PE X (.Call (.Name x p) [e, e2] [] pos) (tCB r t) := by
  obtain ⟨g1, g2⟩ := F.gl hx
  exact pe_callB hc g1 (F.blt x hb) hv ha hn g2 (starE hs) (starAny (by simp [hs2]))
theorem callT {T : String} {x : Str} {e : Expr} {p pos : Pos} {r : List V → Hp → VK → Prop} {t : TA} (F : Fits X CX sc c) (hc : CallR X (.type T) r) (hx : isGl sc x = true) (hb : x ∈ bNames) (hv : bootBuiltins x = some (.type T)) (hn : x ≠ "__name__") (ha : PA X [e] t) (hs : noStar e = true) :
    PE X (.Call (.Name x p) [e] [] pos) (tCB r t) := by
  obtain ⟨g1, g2⟩ := F.gl hx
  exact pe_callTy hc g1 (F.blt x hb) hv ha hn g2 (starE hs) rfl
theorem pao1 {a : CE} {e : Expr} (h : Ok2 X c a e) (hs : noStar e = true) : PA X [e] (tAo X.K X.w c [a]) :=
  (pa_cons h.1 (pa_nil.wk fun _ _ _ q => io_nil (K := X.K) (w := X.w) (c := c) q) (starE hs)).wk fun _ _ _ q => io_cons q
theorem pao2 {a b : CE} {e e2 : Expr} (h : Ok2 X c a e) (h2 : Ok2 X c b e2) (hs : noStar e = true) (hs2 : noStar e2 = true) : PA X [e, e2] (tAo X.K X.w c [a, b]) :=
  (pa_cons h.1 (pao1 h2 hs2) (starE hs)).wk fun _ _ _ q => io_cons q
theorem ok_len {a : CE} {e : Expr} {x : Str} {p pos : Pos} (F : Fits X CX sc c) (hx : isGl sc x = true) (e1 : x = "len") (h : Ok2 X c a e) (hs : noStar e = true) : Ok2 X c (.blt .len [a]) (.Call (.Name x p) [e] [] pos) := by
  subst e1
  refine ok_plain ((call1 F call_len hx (by decide) (by decide +kernel) (by decide) (pao1 h hs) hs).wk fun σ H Q q => i_blt (f := .len) (fun A W r hz fin => ?_) q) (fun _ => rfl)
  cases r with
  | cons r t => cases t with
    | nil => exact len_core A W r hz fin
    | cons _ _ => cases hz
  | nil => cases hz
theorem ok_all {a : CE} {e : Expr} {x : Str} {p pos : Pos} (F : Fits X CX sc c) (hx : isGl sc x = true) (e1 : x = "all") (h : Ok2 X c a e) (hs : noStar e = true) : Ok2 X c (.blt .all [a]) (.Call (.Name x p) [e] [] pos) := by
  subst e1
  refine ok_plain ((call1 F (cr_all F.calm) hx (by decide) (by decide +kernel) (by decide) (pao1 h hs) hs).wk fun σ H Q q => i_blt (f := .all) (fun A W r hz fin => ?_) q) (fun _ => rfl)
  cases r with
  | cons r t => cases t with
    | nil => exact all_core A W r hz fin
    | cons _ _ => cases hz
  | nil => cases hz
theorem ok_abs {a : CE} {e : Expr} {x : Str} {p pos : Pos} (F : Fits X CX sc c) (hx : isGl sc x = true) (e1 : x = "abs") (h : Ok2 X c a e) (hs : noStar e = true) : Ok2 X c (.blt .abs [a]) (.Call (.Name x p) [e] [] pos) := by
  subst e1
  refine ok_plain ((call1 F call_abs hx (by decide) (by decide +kernel) (by decide) (pao1 h hs) hs).wk fun σ H Q q => i_blt (f := .abs) (fun A W r hz fin => ?_) q) (fun _ => rfl)
  cases r with
  | cons r t => cases t with
    | nil => exact abs_core A W r hz fin
    | cons _ _ => cases hz
  | nil => cases hz
theorem ok_min {a b : CE} {e e2 : Expr} {x : Str} {p pos : Pos} (F : Fits X CX sc c) (hx : isGl sc x = true) (e1 : x = "min") (h : Ok2 X c a e) (h2 : Ok2 X c b e2) (hs : noStar e = true) (hs2 : noStar e2 = true) : Ok2 X c (.blt .min2 [a, b]) (.Call (.Name x p) [e, e2] [] pos) := by
  subst e1
  refine ok_plain ((call2 F (call_min2 F.calm) hx (by decide) (by decide +kernel) (by decide) (pao2 h h2 hs hs2) hs hs2).wk fun σ H Q q => i_blt (f := .min2) (fun {g₀ g S ds z vs Q} A W r hz fin => ?_) q) (fun _ => rfl)
  cases r with
  | nil => cases hz
  | cons r t =>
    cases t with
    | nil => cases hz
    | cons r2 t =>
      cases t with
      | nil => exact min_core A W r r2 hz fin
      | cons _ _ => cases hz
theorem ok_int {a : CE} {e : Expr} {x : Str} {p pos : Pos} (F : Fits X CX sc c) (hx : isGl sc x = true) (e1 : x = "int") (h : Ok2 X c a e) (hs : noStar e = true) : Ok2 X c (.blt .int [a]) (.Call (.Name x p) [e] [] pos) := by
  subst e1
  refine ok_plain ((callT F call_int1 hx (by decide) (by decide +kernel) (by decide) (pao1 h hs) hs).wk fun σ H Q q => i_blt (f := .int) (fun {g₀ g S ds z vs Q} A W r hz fin => ?_) q) (fun _ => rfl)
  cases r with
  | cons r t => cases t with
    | nil =>
      obtain ⟨i, rfl, q⟩ := int_core A W r hz fin
      exact .inl ⟨i, rfl, q⟩
    | cons _ _ => cases hz
  | nil => cases hz
theorem ok_sorted {a : CE} {e : Expr} {x : Str} {p pos : Pos} (F : Fits X CX sc c) (hx : isGl sc x = true) (e1 : x = "sorted") (h : Ok2 X c a e) (hs : noStar e = true) : Ok2 X c (.blt .sorted [a]) (.Call (.Name x p) [e] [] pos) := by
  subst e1
  refine ok_plain ((call1 F (call_sortD F.units) hx (by decide) (by decide +kernel) (by decide) (pao1 h hs) hs).wk fun σ H Q q => i_blt (f := .sorted) (fun A W r hz fin => ?_) q) (fun _ => rfl)
  cases r with
  | cons r t => cases t with
    | nil => exact sort_core A W r hz fin
    | cons _ _ => cases hz
  | nil => cases hz
theorem ok_sortedset {a : CE} {e : Expr} {x x2 : Str} {p pos p2 pos2 : Pos} (F : Fits X CX sc c) (hx : isGl sc x = true) (hx2 : isGl sc x2 = true) (e1 : x = "sorted") (e2 : x2 = "set") (h : Ok2 X c a e) (hs : noStar e = true) :
    Ok2 X c (.blt .sortedset [a]) (.Call (.Name x p) [.Call (.Name x2 p2) [e] [] pos2] [] pos) := by
  subst e1 e2
  have inner : PE X (.Call (.Name "set" p2) [e] [] pos2) _ := callT F (call_setX F.calm) hx2 (by decide) (by decide +kernel) (by decide) (pao1 h hs) hs
  refine ok_plain ((call1 F (call_sortX F.calm F.units) hx (by decide) (by decide +kernel) (by decide) (pa_cons inner pa_nil (starE rfl)) rfl).wk fun σ H Q q => ?_) (fun _ => rfl)
  exact i_blt (f := .sortedset) (r := fun vs H Q => rSetX X.prog X.w X.K vs H fun v H1 => rSortX X.prog X.w [v] H1 Q) (fun A W r hz fin => by
    cases r with
    | cons r t => cases t with
      | nil => exact setx_core A W r hz fin
      | cons _ _ => cases hz
    | nil => cases hz) q
theorem ok_list {a : CE} {e : Expr} {x : Str} {p pos : Pos} (F : Fits X CX sc c) (hx : isGl sc x = true) (e1 : x = "list") (h : Ok2 X c a e) (hs : noStar e = true) : Ok2 X c (.blt .list [a]) (.Call (.Name x p) [e] [] pos) := by
  subst e1
  refine ok_plain ((callT F (call_listA F.calm) hx (by decide) (by decide +kernel) (by decide) (pao1 h hs) hs).wk fun σ H Q q => i_blt (f := .list) (fun A W r hz fin => ?_) q) (fun _ => rfl)
  cases r with
  | cons r t => cases t with
    | nil => exact list_core A W r hz fin
    | cons _ _ => cases hz
  | nil => cases hz
theorem ok_dict {a : CE} {e : Expr} {x : Str} {p pos : Pos} (F : Fits X CX sc c) (hx : isGl sc x = true) (e1 : x = "dict") (h : Ok2 X c a e) (hs : noStar e = true) : Ok2 X c (.blt .dict [a]) (.Call (.Name x p) [e] [] pos) := by
  subst e1
  refine ok_plain ((callT F (call_dictA F.calm F.units) hx (by decide) (by decide +kernel) (by decide) (pao1 h hs) hs).wk fun σ H Q q => i_blt (f := .dict) (fun A W r hz fin => ?_) q) (fun _ => rfl)
  cases r with
  | cons r t => cases t with
    | nil => exact dict_core A W r hz fin
    | cons _ _ => cases hz
  | nil => cases hz
theorem chkK_some : ∀ {ks : List Str} {keys : List (Option Expr)}, chkK ks keys = true → keys.all (·.isSome) = true ∧ keys.length = ks.length
  | [], [], _ => ⟨rfl, rfl⟩
  | [], _ :: _, h => by simp [chkK] at h
  | _ :: _, [], h => by simp [chkK] at h
  | k :: ks, e :: r, h => by
    unfold chkK at h
    split at h
    · rename_i e1 e2; cases e1
    · rename_i k' ks' z j p r' e1 e2
      cases e1
      cases e2
      obtain ⟨h1, h2⟩ := Bool.and_eq_true_iff.mp h
      obtain ⟨q1, q2⟩ := chkK_some h2
      exact ⟨by simp [q1], by simp [q2]⟩
    · cases h
theorem ok_dct {ks : List Str} {es : List CE} {keys : List (Option Expr)} {xs : List Expr} {pos : Pos} (L : OkL X c es xs) (h1 : chkK ks keys = true) (h2 : ks.length = es.length) (hx : xs.length = es.length) (h3 : ks.length ≤ 15) (h4 : ks.Nodup) : Ok2 X c (.dct ks es) (.Dict keys xs pos) := by
  obtain ⟨q1, q2⟩ := chkK_some h1
  cases ks with
  | nil =>
    cases es with
    | nil =>
      cases keys with
      | nil =>
        cases xs with
        | nil => exact ok_plain ((pe_view pe_dnewK).wk fun _ _ _ q => i_dct0 q) (fun _ => rfl)
        | cons _ _ => cases hx
      | cons _ _ => cases q2
    | cons _ _ => cases h2
  | cons k ks =>
    refine ok_plain ((pe_view (pe_disp (L.p _ _ h1 h2 pos) q1 (by rw [q2, h2, hx]) (fun e => by rw [e] at q2; cases q2) (by rw [q2]; exact h3))).wk fun _ _ _ q => i_dct h2 h3 h4 q) (fun _ => rfl)
theorem i_get2 {o k a : CE} {σ : L2.St} {H : Hp} {Q : VK} {K : W.Frag} {w : World} (h : tE K w c (.get2 o k a) σ H Q) : tGet2 w K (tE K w c o) (tCons (tE K w c k) (tCons (tE K w c a) tNil)) σ H Q := by
  obtain ⟨ρ, g, S, B, h⟩ := h
  unfold ev at h
  refine ⟨ρ, g, S, B, EvQ.bind (After.refl g) h fun x S1 g1 v A1 _ W1 r1 h1 => ?_⟩
  cases hd : dicV S1 x.1 with
  | none => rw [hd] at h1; exact h1.elim
  | some p =>
    obtain ⟨ks, vs⟩ := p
    rw [hd] at h1
    obtain ⟨d, rfl, hD⟩ := view_dic W1 r1 hd
    refine ⟨⟨g1, d, ks, vs, rfl, rfl, hD⟩, ρ, g1, S1, B.after A1 W1, EvQ.bind A1 h1 fun y S2 g2 u A2 A12 W2 r2 h2 => ?_⟩
    refine ⟨ρ, g2, S2, B.after A2 W2, EvQ.bind A2 h2 fun z S3 g3 t A3 A23 W3 r3 h3 => ?_⟩
    cases he : esc z with
    | none => rw [he] at h3; exact h3.elim
    | some dz =>
      rw [he] at h3
      cases hd3 : dicV S3 x.1 with
      | none => rw [hd3] at h3; exact h3.elim
      | some p3 =>
        obtain ⟨ks3, vs3⟩ := p3
        rw [hd3] at h3
        cases hk : keyOf y.1 with
        | none => rw [hk] at h3; exact h3.elim
        | some kk =>
          rw [hk] at h3
          obtain ⟨g4, e4, A4, M4, W4, r4⟩ := esc_hold A3 W3 r3 he
          have A14 : After g1 g3 := A12.trans A23
          have rx3 := r1.after A14 W1
          obtain ⟨d', ed, hD3⟩ := view_dic W3 rx3 hd3
          cases ed
          obtain ⟨rk, hdk⟩ := rep_key (r2.after A23 W2) hk
          show ∃ g5 d5 ks5 vs5 k5 dz5 y5 z5, _
          rw [← e4]
          have hD4 : DicVw K w g4 d ks3 vs3 := by
            obtain ⟨es, ep, xs, kvs, vvs, q1, q2, q3, q4, q5, q6, q7⟩ := hD3
            exact ⟨es, ep, xs, kvs, vvs, q1.elim (fun q => .inl (by rw [e4]; exact q)) .inr, q2, q3, q4, q5.mono M4, q6.mono M4, q7⟩
          exact ⟨g4, d, ks3, vs3, kk, dz, u, t, rfl, rfl, rfl, hD4, rk.mono M4, hdk, r4, fun v rv => h3 g4 v A4 W4 rv⟩
theorem few2 {cp : Pos} {e e2 : Expr} {env : PySem.Env} (h : noStar e = true) (h2 : noStar e2 = true) : ((backTo cp (starEach [e, e2] env)).all (fun x => !x.1) && (backToKw cp (keywordEach [] env)).all (fun x => x.1.isSome)
      && decide (([e, e2] : List Expr).length + ([] : List Keyword).length + (if ([] : List Keyword).isEmpty then 0 else 1) < 30)) = true := by
  rw [starE h, starE h2]
  rfl
theorem ok_get2 {o k a : CE} {x y z : Expr} {ap cp : Pos} (F : Fits X CX sc c) (ho : Ok2 X c o x) (hk : Ok2 X c k y) (ha : Ok2 X c a z) (h1 : noSup x = true) (h2 : noStar y = true) (h3 : noStar z = true) (h4 : (ap.endLine == cp.line) = true) :
    Ok2 X c (.get2 o k a) (.Call (.Attribute x "get" ap) [y, z] [] cp) :=
  ok_plain ((pe_get2 (by have := F.units; omega) ho.1 (pa_cons hk.1 (pa_cons ha.1 pa_nil (starE h3)) (starE h2)) (nosup h1) (few2 h2 h3) h4 (starE h2) (starAny (by simp [h3]))).wk fun _ _ _ q => i_get2 q) (fun _ => rfl)
theorem ok_tuple {a : CE} {e : Expr} {x : Str} {p pos : Pos} (F : Fits X CX sc c) (hx : isGl sc x = true) (e1 : x = "tuple") (h : Ok2 X c a e) (hs : noStar e = true) : Ok2 X c (.blt .tuple [a]) (.Call (.Name x p) [e] [] pos) := by
  subst e1
  refine ok_plain ((callT F call_tuple_of hx (by decide) (by decide +kernel) (by decide) (pao1 h hs) hs).wk fun σ H Q q => i_blt (f := .tuple) (fun A W r hz fin => ?_) q) (fun _ => rfl)
  cases r with
  | cons r t => cases t with
    | nil => exact tuple_core A W r hz fin
    | cons _ _ => cases hz
  | nil => cases hz
theorem boot_menu : ∀ t ∈ menuT, bootBuiltins (Str.ofString t) = some (.type t) ∧ Str.ofString t ∈ bNames ∧ Str.ofString t ≠ "__name__" := by decide +kernel
theorem ok_isi {a : CE} {t : String} {e : Expr} {x z : Str} {p p2 pos : Pos} (F : Fits X CX sc c) (hx : isGl sc x = true) (e1 : x = "isinstance") (h : Ok2 X c a e) (hs : noStar e = true) (hz : z = Str.ofString t) (hgz : isGl sc z = true) (ht : t ∈ menuT) :
    Ok2 X c (.blt (.isi t) [a]) (.Call (.Name x p) [e, .Name z p2] [] pos) := by
  subst e1
  subst hz
  obtain ⟨b1, b2, b3⟩ := boot_menu t ht
  obtain ⟨q1, q2⟩ := F.gl hgz
  have hty : PE X (.Name (Str.ofString t) p2) (tC (.ty t)) := pe_bltn q1 (F.blt _ b2) b1 rfl b3 q2
  refine ok_plain ((call2 F call_isiA hx (by decide) (by decide +kernel) (by decide) (pa_cons h.1 (pa_cons hty pa_nil) (starE hs)) hs rfl).wk fun σ H Q q => ?_) (fun _ => rfl)
  have q' := i_blt (r := fun vs H Q => ∃ v, vs = [v] ∧ rIsiA X.w X.K [v, .ty t] H Q) (f := .isi t) (fun A W r hz fin => by
    cases r with
    | cons r u => cases u with
      | nil => exact ⟨_, rfl, isi_core ht A W r hz fin⟩
      | cons _ _ => cases hz
    | nil => cases hz) q
  have q2 := io_cons q'
  refine tE_mono q2 fun v H1 h1 => ?_
  have h2 := io_nil h1
  obtain ⟨v', e, h3⟩ := h2
  cases e
  exact h3
end
end Mp
set_option Elab.async false
set_option linter.all false
set_option maxRecDepth 100000
set_option maxHeartbeats 16000000
/-! the check of expressions is sound -/
namespace Mp
open PySem PySem.Spec PyProof.Rows L2
section
variable {CX : CXT} {c : Calls}
theorem and2 {a b : Bool} (h : (a && b) = true) : a = true ∧ b = true := by simpa using h
mutual
theorem chk_ok : ∀ (ce : CE) {e : Expr} {X : Cx} {sc : SC}, Fits X CX sc c → chk sc ce e = true → Ok2 X c ce e
  | .cst d, e, X, sc, F, h => by
    unfold chk at h
    unfold chkC at h
    split at h
    · exact ok_plain (pe_non.wk fun _ _ _ q => i_scal (fun _ => .non) q) (fun _ => rfl)
    · obtain rfl := eq_of_beq h
      exact ok_plain (pe_bl.wk fun _ _ _ q => i_scal (fun _ => .bl _) q) (fun _ => rfl)
    · obtain rfl := of_decide_eq_true h
      exact ok_plain (pe_int.wk fun _ _ _ q => i_scal (fun _ => .int _) q) (fun _ => rfl)
    · obtain rfl := of_decide_eq_true h
      exact ok_plain ((pe_un un_neg pe_int).wk fun _ _ _ q => ⟨_, rfl, i_scal (fun _ => .int _) q⟩) (fun _ => rfl)
    · obtain rfl := of_decide_eq_true h
      exact ok_plain (pe_str.wk fun _ _ _ q => i_scal (fun _ => .str _) q) (fun _ => rfl)
    · cases h
  | .glb y d, e, X, sc, F, h => by
    unfold chk at h
    split at h
    · rename_i x pos
      obtain ⟨h, h3⟩ := and2 h
      obtain ⟨h1, h2⟩ := and2 h
      obtain ⟨g1, g2⟩ := F.gl h2
      split at h3
      · rename_i d' hd
        obtain rfl := D.same_eq _ _ h3
        obtain ⟨v, u, m1, m2, m3⟩ := F.glb _ _ hd
        exact ok_plain ((pe_glob g1 m1 m2 g2).wk fun _ _ _ q => i_glb m3 q) (fun _ => rfl)
      · cases h3
    · cases h
  | .var i, e, X, sc, F, h => by
    unfold chk at h
    split at h
    · rename_i x pos
      unfold varOk at h
      obtain ⟨h, h4⟩ := and2 h
      obtain ⟨h, h3⟩ := and2 h
      obtain ⟨h1, h2⟩ := and2 h
      refine ok_plain ((pe_var (by rw [F.N]; exact of_decide_eq_true h1) (F.vis h2) (by simpa using h3) (by simpa using h4)).wk fun _ _ _ q => i_var q) (fun _ => rfl)
    · cases h
  | .tup es, e, X, sc, F, h => by
    unfold chk at h
    split at h
    · obtain ⟨h1, h2⟩ := and2 h
      exact ok_plain ((pe_tup (chks_ok es F h1).a).wk fun _ _ _ q => i_tup (of_decide_eq_true h2) q) (fun _ => rfl)
    · cases h
  | .lst es, e, X, sc, F, h => by
    unfold chk at h
    split at h
    · obtain ⟨h1, h2⟩ := and2 h
      exact ok_plain ((pe_lst (chks_ok es F h1).a).wk fun _ _ _ q => i_lst (of_decide_eq_true h2) q) (fun _ => rfl)
    · cases h
  | .new a, e, X, sc, F, h => by
    unfold chk at h
    obtain ⟨h1, h2⟩ := chk_ok a F h
    exact ⟨h1.wk fun _ _ _ q => i_new q, fun hn => (h2 hn).wk fun _ _ _ q => i_new q⟩
  | .sub a b, e, X, sc, F, h => by
    unfold chk at h
    split at h
    · obtain ⟨h, h3⟩ := and2 h
      obtain ⟨h1, h2⟩ := and2 h
      exact ok_plain ((pe_ix (or_ix (by have := F.units; omega)) (chk_ok a F h1).1 (chk_ok b F h2).1 (plainix h3)).wk fun _ _ _ q => i_op2 (fun _ _ => by rw [ev]) (fun A W rx ry hz fin => op2_ix A W rx ry hz fin) q) (fun _ => rfl)
    · cases h
  | .sli a l r, e, X, sc, F, h => by
    unfold chk at h
    split at h
    · obtain ⟨h, h3⟩ := and2 h
      obtain ⟨h1, h2⟩ := and2 h
      exact ok_plain ((pe_slice or_sl (chk_ok a F h1).1 (po_some (chk_ok l F h2).1) (po_some (chk_ok r F h3).1)).wk fun _ _ _ q => i_sli q) (fun _ => rfl)
    · cases h
  | .sliL a l, e, X, sc, F, h => by
    unfold chk at h
    split at h
    · obtain ⟨h1, h2⟩ := and2 h
      exact ok_plain ((pe_slice or_sl (chk_ok a F h1).1 (po_some (chk_ok l F h2).1) po_none).wk fun _ _ _ q => i_sliL q) (fun _ => rfl)
    · cases h
  | .sliH a l, e, X, sc, F, h => by
    unfold chk at h
    split at h
    · obtain ⟨h1, h2⟩ := and2 h
      exact ok_plain ((pe_slice or_sl (chk_ok a F h1).1 po_none (po_some (chk_ok l F h2).1)).wk fun _ _ _ q => i_sliH q) (fun _ => rfl)
    · cases h
  | .bin o a b, e, X, sc, F, h => by
    unfold chk at h
    split at h
    · obtain ⟨h, h3⟩ := and2 h
      obtain ⟨h1, h2⟩ := and2 h
      obtain rfl := of_decide_eq_true h1
      obtain ⟨r, h4, h5⟩ := or_bin (X := X) o F.units
      exact ok_plain ((pe_op h4 (chk_ok a F h2).1 (chk_ok b F h3).1).wk fun _ _ _ q => i_op2 (f := fun S => binF S o) (fun _ _ => by rw [ev]) h5 q) (fun _ => rfl)
    · cases h
  | .cmp o a b, e, X, sc, F, h => by
    unfold chk at h
    split at h
    · obtain ⟨h, h4⟩ := and2 h
      obtain ⟨h, h3⟩ := and2 h
      obtain ⟨h1, h2⟩ := and2 h
      obtain rfl := of_decide_eq_true h1
      obtain ⟨r, q1, q2⟩ := or_cmp (X := X) o F.units
      exact ⟨(pe_cmpR q1 (chk_ok a F h2).1 (chk_ok b F h3).1 (nomarks h4)).wk fun _ _ _ q => i_cmp q2 q,
        fun _ => (pt_cmpR q1 (chk_ok a F h2).1 (chk_ok b F h3).1 (nomarks h4)).wk fun _ _ _ q => i_cmp q2 q⟩
    · cases h
  | .chn o p a b d, e, X, sc, F, h => by
    unfold chk at h
    split at h
    · obtain ⟨h, h6⟩ := and2 h
      obtain ⟨h, h5⟩ := and2 h
      obtain ⟨h, h4⟩ := and2 h
      obtain ⟨h, h3⟩ := and2 h
      obtain ⟨h1, h2⟩ := and2 h
      obtain rfl := of_decide_eq_true h1
      obtain rfl := of_decide_eq_true h2
      obtain ⟨r, q1, q2⟩ := or_cmp (X := X) o F.units
      obtain ⟨r', q3, q4⟩ := or_cmp (X := X) p F.units
      exact ⟨(pe_chain q1 q3 (chk_ok a F h3).1 (chk_ok b F h4).1 (chk_ok d F h5).1 (nomarks h6)).wk fun _ _ _ q => i_chn q2 q4 q,
        fun _ => (pt_chain q1 q3 (chk_ok a F h3).1 (chk_ok b F h4).1 (chk_ok d F h5).1 (nomarks h6)).wk fun _ _ _ q => i_chn q2 q4 q⟩
    · cases h
  | .and es, e, X, sc, F, h => by
    unfold chk at h
    split at h
    · rename_i xs pos
      obtain ⟨h1, h2⟩ := and2 h
      have q := chks_ok es F h1
      cases es with
      | nil =>
        refine ⟨⟨fun pins s σ H Q I hq => ?_⟩, fun _ => ⟨fun pins s σ H Q I hq => ?_⟩⟩
        · obtain ⟨ρ, g, S, B, hq⟩ := hq
          unfold ev at hq
          exact hq.elim
        · obtain ⟨ρ, g, S, B, hq⟩ := hq
          unfold ev at hq
          exact hq.elim
      | cons a es =>
        obtain ⟨q1, q2⟩ := q.and (by simp) h2 pos
        exact ⟨q1.wk fun _ _ _ ⟨ρ, g, S, B, hq⟩ => ⟨ρ, g, S, B, by rw [ev] at hq; exact hq⟩, fun _ => (q2.wk fun _ _ _ ⟨ρ, g, S, B, hq⟩ => ⟨ρ, g, S, B, by rw [ev] at hq; exact hq⟩).pt⟩
    · cases h
  | .or es, e, X, sc, F, h => by
    unfold chk at h
    split at h
    · rename_i xs pos
      obtain ⟨h1, h2⟩ := and2 h
      have q := chks_ok es F h1
      cases es with
      | nil =>
        refine ⟨⟨fun pins s σ H Q I hq => ?_⟩, fun _ => ⟨fun pins s σ H Q I hq => ?_⟩⟩
        · obtain ⟨ρ, g, S, B, hq⟩ := hq
          unfold ev at hq
          exact hq.elim
        · obtain ⟨ρ, g, S, B, hq⟩ := hq
          unfold ev at hq
          exact hq.elim
      | cons a es =>
        obtain ⟨q1, q2⟩ := q.or (by simp) h2 pos
        exact ⟨q1.wk fun _ _ _ ⟨ρ, g, S, B, hq⟩ => ⟨ρ, g, S, B, by rw [ev] at hq; exact hq⟩, fun _ => (q2.wk fun _ _ _ ⟨ρ, g, S, B, hq⟩ => ⟨ρ, g, S, B, by rw [ev] at hq; exact hq⟩).pt⟩
    · cases h
  | .not a, e, X, sc, F, h => by
    unfold chk at h
    split at h
    · obtain ⟨h1, h2⟩ := and2 h
      obtain ⟨q1, q2⟩ := chk_ok a F h1
      refine ⟨(pe_not q1).wk fun _ _ _ q => ?_, fun _ => (pt_not (q2 h2)).wk fun _ _ _ q => ?_⟩
      · exact i_not q
      · refine tE_mono (i_not q) fun v H ⟨k, e, k', e', q'⟩ => ?_
        cases e'
        exact ⟨k, e, q'⟩
    · cases h
  | .ite t a b, e, X, sc, F, h => by
    unfold chk at h
    split at h
    · obtain ⟨h, h4⟩ := and2 h
      obtain ⟨h, h3⟩ := and2 h
      obtain ⟨h1, h2⟩ := and2 h
      exact ⟨(pe_ifExp ((chk_ok t F h1).2 h2) (chk_ok a F h3).1 (chk_ok b F h4).1).wk fun _ _ _ q => i_ite q, fun z => by cases z⟩
    · cases h
  | .cal f es, e, X, sc, F, h => by
    unfold chk at h
    split at h
    · rename_i x p xs pos
      obtain ⟨h, h4⟩ := and2 h
      obtain ⟨h, h3⟩ := and2 h
      obtain ⟨h1, h2⟩ := and2 h
      obtain ⟨g1, g2⟩ := F.gl h1
      have h2 : sc.fns.lookup x = some f := eq_of_beq h2
      obtain ⟨k, fa, fd, ps, m1, m2, m3, m4, m5⟩ := (F.fns x f h2).get
      have q := chks_ok es F h3
      refine ok_plain ?_ (fun _ => rfl)
      have fin : ∀ σ H Q, tE X.K X.w c (.cal f es) σ H Q → tCall (spF X.K X.w c f) [] NoE (tA X.K X.w c es) σ H Q := fun σ H Q q => by
        have z := i_cal q
        unfold tCall
        simp only [List.append_nil]
        exact z
      cases xs with
      | nil =>
        cases es with
        | nil =>
          exact (pe_call0 m5 m4 g1 m1 m2 m3 .nil F.pass g2).wk fun σ H Q q => by
            have z := fin σ H Q q
            exact i_nil z
        | cons a es => simp [chks] at h3
      | cons y ys =>
        simp only [List.all_cons, Bool.and_eq_true] at h4
        exact (pe_call m5 m4 g1 m1 m2 m3 .nil F.pass q.a g2 (starE h4.1) (starAny h4.2)).wk fin
    · cases h
  | .blt f es, e, X, sc, F, h => by
    unfold chk at h
    split at h
    · rename_i a x p y pos
      obtain ⟨h, h4⟩ := and2 h
      obtain ⟨h, h3⟩ := and2 h
      obtain ⟨h1, h2⟩ := and2 h
      exact ok_len F h2 (of_decide_eq_true h1) (chk_ok a F h3) h4
    · rename_i a x p y pos
      obtain ⟨h, h4⟩ := and2 h
      obtain ⟨h, h3⟩ := and2 h
      obtain ⟨h1, h2⟩ := and2 h
      exact ok_all F h2 (of_decide_eq_true h1) (chk_ok a F h3) h4
    · rename_i a x p y pos
      obtain ⟨h, h4⟩ := and2 h
      obtain ⟨h, h3⟩ := and2 h
      obtain ⟨h1, h2⟩ := and2 h
      exact ok_abs F h2 (of_decide_eq_true h1) (chk_ok a F h3) h4
    · rename_i a b x p y z pos
      obtain ⟨h, h6⟩ := and2 h
      obtain ⟨h, h5⟩ := and2 h
      obtain ⟨h, h4⟩ := and2 h
      obtain ⟨h, h3⟩ := and2 h
      obtain ⟨h1, h2⟩ := and2 h
      exact ok_min F h2 (of_decide_eq_true h1) (chk_ok a F h3) (chk_ok b F h4) h5 h6
    · rename_i a x p y pos
      obtain ⟨h, h4⟩ := and2 h
      obtain ⟨h, h3⟩ := and2 h
      obtain ⟨h1, h2⟩ := and2 h
      exact ok_int F h2 (of_decide_eq_true h1) (chk_ok a F h3) h4
    · rename_i a x p y pos
      obtain ⟨h, h4⟩ := and2 h
      obtain ⟨h, h3⟩ := and2 h
      obtain ⟨h1, h2⟩ := and2 h
      exact ok_sorted F h2 (of_decide_eq_true h1) (chk_ok a F h3) h4
    · rename_i a x p x2 p2 y pos2 pos
      obtain ⟨h, h6⟩ := and2 h
      obtain ⟨h, h5⟩ := and2 h
      obtain ⟨h, h4⟩ := and2 h
      obtain ⟨h, h3⟩ := and2 h
      obtain ⟨h1, h2⟩ := and2 h
      exact ok_sortedset F h3 h4 (of_decide_eq_true h1) (of_decide_eq_true h2) (chk_ok a F h5) h6
    · rename_i a x p y pos
      obtain ⟨h, h4⟩ := and2 h
      obtain ⟨h, h3⟩ := and2 h
      obtain ⟨h1, h2⟩ := and2 h
      exact ok_list F h2 (of_decide_eq_true h1) (chk_ok a F h3) h4
    · rename_i a x p y pos
      obtain ⟨h, h4⟩ := and2 h
      obtain ⟨h, h3⟩ := and2 h
      obtain ⟨h1, h2⟩ := and2 h
      exact ok_dict F h2 (of_decide_eq_true h1) (chk_ok a F h3) h4
    · rename_i a x p y pos
      obtain ⟨h, h4⟩ := and2 h
      obtain ⟨h, h3⟩ := and2 h
      obtain ⟨h1, h2⟩ := and2 h
      exact ok_tuple F h2 (of_decide_eq_true h1) (chk_ok a F h3) h4
    · rename_i t a x p y z p2 pos
      obtain ⟨h, h7⟩ := and2 h
      obtain ⟨h, h6⟩ := and2 h
      obtain ⟨h, h5⟩ := and2 h
      obtain ⟨h, h4⟩ := and2 h
      obtain ⟨h, h3⟩ := and2 h
      obtain ⟨h1, h2⟩ := and2 h
      exact ok_isi F h2 (of_decide_eq_true h1) (chk_ok a F h3) h4 (of_decide_eq_true h5) h6 (by simpa using h7)
    · cases h
  | .lc elt tg it ifs vs, e, X, sc, F, h => by
    unfold chk at h
    split at h
    · rename_i x t i n scope pos
      obtain ⟨h, h7⟩ := and2 h
      obtain ⟨h, h6⟩ := and2 h
      obtain ⟨h, h5⟩ := and2 h
      obtain ⟨h, h4⟩ := and2 h
      obtain ⟨h, h3⟩ := and2 h
      obtain ⟨h1, h2⟩ := and2 h
      obtain rfl := of_decide_eq_true h1
      have hv : ∀ i ∈ tg.ixs, i ∈ vs := fun i hi => by simpa using List.all_eq_true.mp h3 i hi
      have hi := chkI_ok it F h6 t (fun q => by
        split at q
        · exact ⟨_, _, _, rfl⟩
        · cases q)
      refine ok_plain ((pe_lc (own := ownOf sc vs) (te := tE X.K X.w c elt) (g := gT X.K tg) F.calm F.nd hi (blkOk_by (by rw [F.N, F.scope]; exact h4)) (fun s H C cl fp => (F.blk s H C cl fp).pg h5) (fun s H C cl fp => pts_nil) (fun s H C cl fp => (chk_ok elt (F.blk s H C cl fp) h7).1) (noset h2)).wk fun σ H Q q => ?_) (fun _ => rfl)
      rw [own_ixs]
      exact i_lc hv q
    · rename_i u x t i y n scope pos
      obtain ⟨h, h9⟩ := and2 h
      obtain ⟨h, h8⟩ := and2 h
      obtain ⟨h, h7⟩ := and2 h
      obtain ⟨h, h6⟩ := and2 h
      obtain ⟨h, h5⟩ := and2 h
      obtain ⟨h, h4⟩ := and2 h
      obtain ⟨h, h3⟩ := and2 h
      obtain ⟨h1, h2⟩ := and2 h
      obtain rfl := of_decide_eq_true h1
      have hv : ∀ i ∈ tg.ixs, i ∈ vs := fun i hi => by simpa using List.all_eq_true.mp h3 i hi
      have hi := chkI_ok it F h6 t (fun q => by
        split at q
        · exact ⟨_, _, _, rfl⟩
        · cases q)
      refine ok_plain ((pe_lc (own := ownOf sc vs) (te := tE X.K X.w c elt) (g := gT X.K tg) (tt := tB (tE X.K X.w c u)) F.calm F.nd hi (blkOk_by (by rw [F.N, F.scope]; exact h4)) (fun s H C cl fp => (F.blk s H C cl fp).pg h5) (fun s H C cl fp => pts_one ((chk_ok u (F.blk s H C cl fp) h8).2 h9)) (fun s H C cl fp => (chk_ok elt (F.blk s H C cl fp) h7).1) (noset h2)).wk fun σ H Q q => ?_) (fun _ => rfl)
      rw [own_ixs]
      exact i_lc hv q
    · cases h
  | .dct ks es, e, X, sc, F, h => by
    unfold chk at h
    split at h
    · obtain ⟨h, h5⟩ := and2 h
      obtain ⟨h, h4⟩ := and2 h
      obtain ⟨h, h3⟩ := and2 h
      obtain ⟨h1, h2⟩ := and2 h
      exact ok_dct (chks_ok es F h2) h1 (of_decide_eq_true h3) (chks_star h2).2 (of_decide_eq_true h4) (of_decide_eq_true h5)
    · cases h
  | .mth _ _ _, e, X, sc, F, h => by unfold chk at h; cases h
  | .get2 o k a, e, X, sc, F, h => by
    unfold chk at h
    split at h
    · obtain ⟨h, h8⟩ := and2 h
      obtain ⟨h, h7⟩ := and2 h
      obtain ⟨h, h6⟩ := and2 h
      obtain ⟨h, h5⟩ := and2 h
      obtain ⟨h, h4⟩ := and2 h
      obtain ⟨h, h3⟩ := and2 h
      obtain ⟨h1, h2⟩ := and2 h
      obtain rfl := of_decide_eq_true h1
      exact ok_get2 F (chk_ok o F h2) (chk_ok k F h3) (chk_ok a F h4) h5 h6 h7 h8
    · cases h
theorem chks_ok : ∀ (es : List CE) {xs : List Expr} {X : Cx} {sc : SC}, Fits X CX sc c → chks sc es xs = true → OkL X c es xs
  | [], xs, X, sc, F, h => by
    cases xs with
    | nil => exact ⟨pa_nil.wk fun _ _ _ q => i_nil (K := X.K) (w := X.w) (c := c) q, pa_nil.wk fun _ _ _ q => io_nil (K := X.K) (w := X.w) (c := c) q, fun z => absurd rfl z, fun ks keys hk hl pos => (by
      cases ks with
      | nil =>
        cases keys with
        | nil => exact pps_nil
        | cons _ _ => simp [chkK] at hk
      | cons _ _ => cases hl), fun z => absurd rfl z⟩
    | cons _ _ => simp [chks] at h
  | a :: es, xs, X, sc, F, h => by
    cases xs with
    | nil => simp [chks] at h
    | cons x xs =>
      unfold chks at h
      obtain ⟨h, h3⟩ := and2 h
      obtain ⟨h1, h2⟩ := and2 h
      have q1 := chk_ok a F h1
      have q2 := chks_ok es F h3
      refine ⟨(pa_cons q1.1 q2.a (starE h2)).wk fun _ _ _ q => i_cons q, (pa_cons q1.1 q2.o (starE h2)).wk fun _ _ _ q => io_cons q, fun _ hn pos => ?_, fun ks keys hk hl pos => ?_, fun _ hn pos => ?_⟩
      rotate_left 1
      · cases ks with
        | nil => cases hl
        | cons k ks =>
          cases keys with
          | nil => simp [chkK] at hk
          | cons ke keys =>
            unfold chkK at hk
            split at hk
            · rename_i e1 e2; cases e1
            · rename_i k' ks' z j p r' e1 e2
              cases e1
              cases e2
              obtain ⟨k1, k2⟩ := and2 hk
              obtain rfl := of_decide_eq_true k1
              exact pps_cons pe_str q1.1 (q2.p _ _ k2 (by simpa using hl) pos)
            · cases hk
      rotate_left 1
      · simp only [List.all_cons, Bool.and_eq_true] at hn
        cases es with
        | nil =>
          cases xs with
          | nil =>
            refine ⟨(pe_one q1.1).wk fun _ _ _ q => tE_mono (i_and1 q) fun _ _ ⟨_, _, z⟩ => z, (pw_and1 (q1.2 hn.1)).wk fun _ _ _ q => tE_mono (i_and1 q) fun _ _ ⟨k, e, z⟩ => z⟩
          | cons _ _ => simp [chks] at h3
        | cons b es =>
          cases xs with
          | nil => simp [chks] at h3
          | cons y ys =>
            obtain ⟨p1, p2⟩ := q2.and (by simp) hn.2 pos
            refine ⟨(pe_and q1.1 p1).wk fun _ _ _ q => i_and q, (pw_and (q1.2 hn.1) p2).wk fun _ _ _ q => tE_mono (i_and q) fun v H ⟨k, e, z⟩ => ⟨k, e, ?_⟩⟩
            cases k with
            | true => exact z
            | false => rw [if_neg (by decide)] at z ⊢; obtain ⟨k', e', z⟩ := z; cases e'; exact z
      · simp only [List.all_cons, Bool.and_eq_true] at hn
        cases es with
        | nil =>
          cases xs with
          | nil =>
            refine ⟨(pe_one q1.1).wk fun _ _ _ q => tE_mono (i_or1 q) fun _ _ ⟨_, _, z⟩ => z, (pw_or1 (q1.2 hn.1)).wk fun _ _ _ q => tE_mono (i_or1 q) fun _ _ ⟨k, e, z⟩ => z⟩
          | cons _ _ => simp [chks] at h3
        | cons b es =>
          cases xs with
          | nil => simp [chks] at h3
          | cons y ys =>
            obtain ⟨p1, p2⟩ := q2.or (by simp) hn.2 pos
            refine ⟨(pe_or q1.1 p1).wk fun _ _ _ q => i_or q, (pw_or (q1.2 hn.1) p2).wk fun _ _ _ q => tE_mono (i_or q) fun v H ⟨k, e, z⟩ => ⟨k, e, ?_⟩⟩
            cases k with
            | false => exact z
            | true => rw [if_pos rfl] at z ⊢; obtain ⟨k', e', z⟩ := z; cases e'; exact z
theorem chkI_ok : ∀ (it : CI) {e : Expr} {t : Bool} {X : Cx} {sc : SC}, Fits X CX sc c → chkI sc it e t = true → OkI X c it e t
  | .seq a, e, t, X, sc, F, h => fun tg _ => by
    unfold chkI at h
    exact (pi_any (chk_ok a F h).1).wk fun _ _ _ q => iI_seq q
  | .vals a, e, t, X, sc, F, h => fun tg _ => by
    unfold chkI at h
    split at h
    · obtain ⟨h, h4⟩ := and2 h
      obtain ⟨h, h3⟩ := and2 h
      obtain ⟨h1, h2⟩ := and2 h
      obtain rfl := of_decide_eq_true h1
      exact (pi_valsD (chk_ok a F h2).1 (nosup h3) h4).wk fun _ _ _ q => iI_vals q
    · cases h
  | .items a, e, t, X, sc, F, h => fun tg htg => by
    unfold chkI at h
    obtain ⟨ht, h⟩ := and2 h
    obtain ⟨es, k, p, rfl⟩ := htg ht
    split at h
    · obtain ⟨h, h4⟩ := and2 h
      obtain ⟨h, h3⟩ := and2 h
      obtain ⟨h1, h2⟩ := and2 h
      obtain rfl := of_decide_eq_true h1
      exact (pi_itemsD (chk_ok a F h2).1 (nosup h3) h4).wk fun _ _ _ q => iI_items q
    · cases h
  | .range1 a, e, t, X, sc, F, h => fun tg _ => by
    unfold chkI at h
    split at h
    · obtain ⟨h, h4⟩ := and2 h
      obtain ⟨h, h3⟩ := and2 h
      obtain ⟨h1, h2⟩ := and2 h
      obtain rfl := of_decide_eq_true h1
      obtain ⟨g1, g2⟩ := F.gl h2
      exact (pi_range1 g1 (F.blt _ (by decide)) (pa_cons (chk_ok a F h3).1 pa_nil (starE h4)) (starE h4)).wk fun _ _ _ q => iI_range1 q
    · cases h
  | .range2 a b, e, t, X, sc, F, h => fun tg _ => by
    unfold chkI at h
    split at h
    · obtain ⟨h, h6⟩ := and2 h
      obtain ⟨h, h5⟩ := and2 h
      obtain ⟨h, h4⟩ := and2 h
      obtain ⟨h, h3⟩ := and2 h
      obtain ⟨h1, h2⟩ := and2 h
      obtain rfl := of_decide_eq_true h1
      obtain ⟨g1, g2⟩ := F.gl h2
      exact (pi_range2 g1 (F.blt _ (by decide)) (pa_cons (chk_ok a F h3).1 (pa_cons (chk_ok b F h4).1 pa_nil (starE h6)) (starE h5)) (by rw [starE h5, starE h6]; rfl) (starE h6)).wk fun _ _ _ q => iI_range2 q
    · cases h
  | .zip a b, e, t, X, sc, F, h => fun tg htg => by
    unfold chkI at h
    obtain ⟨ht, h⟩ := and2 h
    obtain ⟨es, k, p, rfl⟩ := htg ht
    split at h
    · obtain ⟨h, h6⟩ := and2 h
      obtain ⟨h, h5⟩ := and2 h
      obtain ⟨h, h4⟩ := and2 h
      obtain ⟨h, h3⟩ := and2 h
      obtain ⟨h1, h2⟩ := and2 h
      obtain rfl := of_decide_eq_true h1
      obtain ⟨g1, g2⟩ := F.gl h2
      exact (RZ.pi_zipA g1 (F.blt _ (by decide)) (pa_cons (chk_ok a F h3).1 (pa_cons (chk_ok b F h4).1 pa_nil (starE h6)) (starE h5)) (starE h5) (starAny (by simp [h6]))).wk fun _ _ _ q => iI_zip q
    · cases h
  | .enum a, e, t, X, sc, F, h => by unfold chkI at h; cases h
end
end
end Mp
set_option Elab.async false
set_option linter.all false
set_option maxRecDepth 100000
set_option maxHeartbeats 8000000
/-! statements: the readings that the evaluator gives -/
namespace Mp
open PySem PySem.Spec PyProof.Rows L2

section
variable (K : W.Frag) (w : World)
def EvS (ge g : Gh) (D : Ends) : SRes → Prop
  | .nx ρ S => ∀ g' σ', After ge g' → Mono g g' → WF K w g' S → EnvR K w ge g' ρ σ' → D.nx σ' g'.H
  | .rt d S => ∀ g' v, After ge g' → WF K w g' S → Rep K w g' d v → D.rt v g'.H
  | _ => False
structure BegS (ge g : Gh) (ρ : Env) (S : Sto) (σ : L2.St) (H : Hp) : Prop where
  h : g.H = H
  W : WF K w g S
  A : After ge g
  E : EnvR K w ge g ρ σ
def tS (c : Calls) (s : CS) : TS := fun D σ H => ∃ ge g ρ S, BegS K w ge g ρ S σ H ∧ EvS K w ge g D (exec c s ρ S)
def tSs (c : Calls) (ss : List CS) : TS := fun D σ H => ∃ ge g ρ S, BegS K w ge g ρ S σ H ∧ EvS K w ge g D (execs c ss ρ S)
end
section
variable {K : W.Frag} {w : World} {ge g g' g₀ g1 g2 : Gh} {S : Sto} {ρ : Env} {σ : L2.St} {H : Hp} {c : Calls} {D : Ends}
theorem EvS.bindE {r : Res DT} {k : DT → Sto → SRes} {Q' : VK} (h : EvS K w ge g D (r.st k))
    (f : ∀ x S' g' v, After g1 g' → WF K w g' S' → RepT K w g' g1 x v → EvS K w ge g D (k x S') → Q' v g'.H) : EvQ K w g1 Q' r := by
  cases r with
  | ok x S' => exact fun g' v A' W' r' => f x S' g' v A' W' r' h
  | exc _ _ _ => exact h
  | bad => exact h
theorem EvS.bindA {r : Res (List Mp.D)} {k : List Mp.D → Sto → SRes} {D' : Ends} {Q' : List V → Hp → Prop} (h : EvS K w ge g D' (r.st k))
    (f : ∀ x S' g' v, After g1 g' → WF K w g' S' → Reps K w g' x v → EvS K w ge g D' (k x S') → Q' v g'.H) : EvQs K w g1 Q' r := by
  cases r with
  | ok x S' => exact fun g' v A' W' r' => f x S' g' v A' W' r' h
  | exc _ _ _ => exact h
  | bad => exact h
theorem EvS.shift (M : Mono g g1) {r : SRes} (h : EvS K w ge g D r) : EvS K w ge g1 D r := by
  cases r with
  | nx ρ S => exact fun g' σ' A' M' W' E' => h g' σ' A' (M.trans M') W' E'
  | rt d S => exact h
  | exc _ _ _ => exact h
  | bad => exact h
theorem BegS.beg (B : BegS K w ge g ρ S σ H) : Beg K w ρ g S σ H := ⟨B.h, B.W, ge, B.E⟩
theorem EnvR.setO {i : Nat} {d : Mp.D} {a : Addr} (E : EnvR K w ge g ρ σ) (u : Unf K w g d a) (h0 : ge.H a = none) (hf : ∀ (j : Nat) (e : Mp.D) (b : Addr), ρ[j]? = some (.own e) → σ[j]? = some (some (.ref b)) → b ≠ a) :
    EnvR K w ge g (ρ.set i (.own d)) (σ.set i (some (.ref a))) := by
  have own : ∀ {j : Nat} {d' : Mp.D}, i ≠ j → (ρ.set i (.own d))[j]? = some (.own d') → ρ[j]? = some (.own d') := fun {j d'} h e => by
    rw [List.getElem?_set_ne h] at e; exact e
  refine ⟨by simp [E.len], fun j s o h1 h2 => ?_, fun j k d1 d2 b h1 h2 h3 h4 => ?_⟩
  · by_cases h : i = j
    · subst h
      by_cases hl : i < ρ.length
      · rw [List.getElem?_set_self hl] at h1
        rw [List.getElem?_set_self (by rw [← E.len]; exact hl)] at h2
        cases h1
        cases h2
        exact ⟨a, rfl, u, h0⟩
      · rw [List.getElem?_eq_none (by simpa using hl)] at h1; cases h1
    · rw [List.getElem?_set_ne h] at h1 h2
      exact E.at_ j s o h1 h2
  · by_cases e1 : i = j
    · by_cases e2 : i = k
      · omega
      · subst e1
        have h2' := own e2 h2
        rw [List.getElem?_set_ne e2] at h4
        by_cases hl : i < σ.length
        · rw [List.getElem?_set_self hl] at h3
          cases h3
          exact absurd rfl (hf k d2 a h2' h4)
        · rw [List.getElem?_eq_none (by simpa using hl)] at h3; cases h3
    · have h1' := own e1 h1
      rw [List.getElem?_set_ne e1] at h3
      by_cases e2 : i = k
      · subst e2
        by_cases hl : i < σ.length
        · rw [List.getElem?_set_self hl] at h4
          cases h4
          exact absurd rfl (hf j d1 a h1' h3)
        · rw [List.getElem?_eq_none (by simpa using hl)] at h4; cases h4
      · have h2' := own e2 h2
        rw [List.getElem?_set_ne e2] at h4
        exact E.one j k d1 d2 b h1' h2' h3 h4
theorem EnvR.ownAt (E : EnvR K w ge g ρ σ) {i : Nat} {d : Mp.D} (h : ρ[i]? = some (.own d)) : ∃ a, σ[i]? = some (some (.ref a)) ∧ Unf K w g d a ∧ ge.H a = none := by
  have hl : i < σ.length := by rw [← E.len]; exact (List.getElem?_eq_some_iff.mp h).1
  have es : σ[i]? = some σ[i] := List.getElem?_eq_getElem hl
  obtain ⟨a, e, u, z⟩ := E.at_ i _ _ h es
  exact ⟨a, by rw [es, e], u, z⟩

/-! ### one form after another -/
theorem s_expr {e : CE} (h : tS K w c (.expr e) D σ H) : tDrop (tE K w c e) D σ H := by
  obtain ⟨ge, g, ρ, S, B, h⟩ := h
  unfold exec at h
  refine ⟨ρ, g, S, B.beg, EvS.bindE h fun x S1 g1 v A1 W1 r1 h1 => ?_⟩
  exact h1 g1 σ (B.A.trans A1) (A1.mono B.W) W1 (B.E.after A1 B.W)
theorem s_asg {i : Nat} {e : CE} (h : tS K w c (.asg i e) D σ H) : tAsg (tE K w c e) (gName i) D σ H := by
  obtain ⟨ge, g, ρ, S, B, h⟩ := h
  unfold exec at h
  refine ⟨ρ, g, S, B.beg, EvS.bindE h fun x S1 g1 v A1 W1 r1 h1 => ?_⟩
  cases he : esc x with
  | none => rw [he] at h1; exact h1.elim
  | some d =>
    rw [he] at h1
    obtain ⟨g2, e2, A2, M2, W2, r2⟩ := esc_hold A1 W1 r1 he
    show D.nx _ g1.H
    rw [← e2]
    exact h1 g2 _ (B.A.trans A2) (A2.mono B.W) W2 ((B.E.after A2 B.W).set r2)
theorem s_asgO {i : Nat} {e : CE} (h : tS K w c (.asgO i e) D σ H) : tAsg (tE K w c e) (gName i) D σ H := by
  obtain ⟨ge, g, ρ, S, B, h⟩ := h
  unfold exec at h
  refine ⟨ρ, g, S, B.beg, EvS.bindE h fun x S1 g1 v A1 W1 r1 h1 => ?_⟩
  obtain ⟨dx, tx⟩ := x
  cases tx with
  | n =>
    obtain ⟨a, rfl, u, z⟩ := r1
    have E1 := B.E.after A1 B.W
    refine h1 g1 _ (B.A.trans A1) (A1.mono B.W) W1 (E1.setO u (none_before B.A z) fun j d' b h1 h2 e => ?_)
    obtain ⟨b', e', ub, _⟩ := B.E.ownAt h1
    rw [h2] at e'
    cases e'
    exact ub.there (by rw [e]; exact z)
  | _ => exact h1.elim
theorem s_asgT {is : List Nat} {e : CE} (h : tS K w c (.asgT is e) D σ H) : tAsg (tE K w c e) (gT K (.tup is)) D σ H := by
  obtain ⟨ge, g, ρ, S, B, h⟩ := h
  unfold exec at h
  refine ⟨ρ, g, S, B.beg, EvS.bindE h fun x S1 g1 v A1 W1 r1 h1 => ?_⟩
  cases hb : bindT ρ (.tup is) x.1 with
  | none => rw [hb] at h1; exact h1.elim
  | some ρ' =>
    rw [hb] at h1
    obtain ⟨dx, tx⟩ := x
    have hx : ∃ xs, dx = .tup xs := by
      cases dx with
      | tup xs => exact ⟨xs, rfl⟩
      | _ => cases hb
    obtain ⟨xs, rfl⟩ := hx
    exact gT_ok (B.E.after A1 B.W) (rep_tup r1 rfl) hb fun σ' E' _ => h1 g1 σ' (B.A.trans A1) (A1.mono B.W) W1 E'
theorem s_par2 {i j : Nat} {a b : CE} (h : tS K w c (.par2 i j a b) D σ H) : tPar i j (tA K w c [a, b]) D σ H := by
  obtain ⟨ge, g, ρ, S, B, h⟩ := h
  unfold exec at h
  refine ⟨ρ, g, S, B.beg, EvS.bindA h fun ds S1 g1 vs A1 W1 r1 h1 => ?_⟩
  cases r1 with
  | nil => exact h1.elim
  | cons r1 t =>
    cases t with
    | nil => exact h1.elim
    | cons r2 t =>
      cases t with
      | nil => exact ⟨_, _, rfl, h1 g1 _ (B.A.trans A1) (A1.mono B.W) W1 (((B.E.after A1 B.W).set r1).set r2)⟩
      | cons _ _ => exact h1.elim
theorem s_par3 {i j k : Nat} {a b e : CE} (h : tS K w c (.par3 i j k a b e) D σ H) : tPar3 i j k (tA K w c [a, b, e]) D σ H := by
  obtain ⟨ge, g, ρ, S, B, h⟩ := h
  unfold exec at h
  refine ⟨ρ, g, S, B.beg, EvS.bindA h fun ds S1 g1 vs A1 W1 r1 h1 => ?_⟩
  cases r1 with
  | nil => exact h1.elim
  | cons r1 t =>
    cases t with
    | nil => exact h1.elim
    | cons r2 t =>
      cases t with
      | nil => exact h1.elim
      | cons r3 t =>
        cases t with
        | nil => exact ⟨_, _, _, rfl, h1 g1 _ (B.A.trans A1) (A1.mono B.W) W1 ((((B.E.after A1 B.W).set r1).set r2).set r3)⟩
        | cons _ _ => exact h1.elim
theorem s_ret {e : CE} (h : tS K w c (.ret e) D σ H) : tRet (tE K w c e) D σ H := by
  obtain ⟨ge, g, ρ, S, B, h⟩ := h
  unfold exec at h
  refine ⟨ρ, g, S, B.beg, EvS.bindE h fun x S1 g1 v A1 W1 r1 h1 => ?_⟩
  cases he : esc x with
  | none => rw [he] at h1; exact h1.elim
  | some d =>
    rw [he] at h1
    obtain ⟨g2, e2, A2, M2, W2, r2⟩ := esc_hold A1 W1 r1 he
    rw [← e2]
    exact h1 g2 _ (B.A.trans A2) W2 r2
theorem s_retO {i : Nat} (h : tS K w c (.retO i) D σ H) : tRet (tVar i) D σ H := by
  obtain ⟨ge, g, ρ, S, B, h⟩ := h
  unfold exec at h
  cases hr : ρ[i]? with
  | none => rw [hr] at h; exact h.elim
  | some s =>
    rw [hr] at h
    cases s with
    | own d =>
      obtain ⟨a, e, u, z⟩ := B.E.ownAt hr
      refine ⟨_, e, ?_⟩
      rw [← B.h]
      exact h (g.hold a) _ (After.hold z B.A) (B.W.hold u.there u.1) u.hold
    | _ => exact h.elim
theorem s_retN (h : tS K w c .retN D σ H) : tRetN D σ H := by
  obtain ⟨ge, g, ρ, S, B, h⟩ := h
  unfold exec at h
  show D.rt .non H
  rw [← B.h]
  exact h g .non B.A B.W .non
theorem s_pass (h : tS K w c .pass D σ H) : tNext D σ H := by
  obtain ⟨ge, g, ρ, S, B, h⟩ := h
  unfold exec at h
  show D.nx σ H
  rw [← B.h]
  exact h g σ B.A (Mono.refl _) B.W B.E
theorem s_raise {n : Nat} {es : List CE} (h : tS K w c (.raise n es) D σ H) : False := by
  obtain ⟨ge, g, ρ, S, B, h⟩ := h
  unfold exec at h
  cases e : evs c ρ es S with
  | ok x S' => rw [e] at h; exact h
  | exc _ _ _ => rw [e] at h; exact h
  | bad => rw [e] at h; exact h
theorem s_nil (h : tSs K w c [] D σ H) : tNext D σ H := by
  obtain ⟨ge, g, ρ, S, B, h⟩ := h
  unfold execs at h
  show D.nx σ H
  rw [← B.h]
  exact h g σ B.A (Mono.refl _) B.W B.E
theorem EvS.seq {r : SRes} {k : Env → Sto → SRes} (h : EvS K w ge g D (r.bind k)) {D' : Ends} (hr : ∀ v H, D.rt v H → D'.rt v H)
    (hn : ∀ ρ' S' g' σ', r = .nx ρ' S' → After ge g' → Mono g g' → WF K w g' S' → EnvR K w ge g' ρ' σ' → EvS K w ge g D (k ρ' S') → D'.nx σ' g'.H) : EvS K w ge g D' r := by
  cases r with
  | nx ρ' S' => exact fun g' σ' A' M' W' E' => hn ρ' S' g' σ' rfl A' M' W' E' h
  | rt d S' => exact fun g' v A' W' r' => hr _ _ (h g' v A' W' r')
  | exc _ _ _ => exact h
  | bad => exact h
theorem s_cons {s : CS} {ss : List CS} (h : tSs K w c (s :: ss) D σ H) : tSeq (tS K w c s) (tSs K w c ss) D σ H := by
  obtain ⟨ge, g, ρ, S, B, h⟩ := h
  unfold execs at h
  refine ⟨ge, g, ρ, S, B, EvS.seq h (fun _ _ q => q) fun ρ' S' g' σ' _ A' M' W' E' h' => ?_⟩
  exact ⟨ge, g', ρ', S', ⟨rfl, W', A', E'⟩, h'.shift M'⟩
theorem s_one {s : CS} (h : tSs K w c [s] D σ H) : tS K w c s D σ H := by
  obtain ⟨ge, g, ρ, S, B, h⟩ := h
  unfold execs at h
  refine ⟨ge, g, ρ, S, B, EvS.seq h (fun _ _ q => q) fun ρ' S' g' σ' _ A' M' W' E' h' => ?_⟩
  unfold execs at h'
  exact h' g' σ' A' M' W' E'
theorem EvS.bindT {t : CE} {k : Bool → Sto → SRes} (h : EvS K w ge g D ((evT c ρ t S).st k)) {Q : Bool → Hp → Prop}
    (f : ∀ b S' g' , After g1 g' → WF K w g' S' → EvS K w ge g D (k b S') → Q b g'.H) : EvQ K w g1 (fun x H1 => ∃ b, x = .bl b ∧ Q b H1) (ev c ρ t S) := by
  unfold evT at h
  cases e : ev c ρ t S with
  | ok x S' =>
    rw [e, Res.bind_ok] at h
    intro g' v A' W' r'
    obtain ⟨dx, tx⟩ := x
    cases dx with
    | bl b =>
      cases rep_bl r' rfl
      exact ⟨b, rfl, f b S' g' A' W' h⟩
    | _ => exact h.elim
  | exc _ _ _ => rw [e] at h; exact h
  | bad => rw [e] at h; exact h
theorem s_ite {t : CE} {a b : List CS} (h : tS K w c (.ite t a b) D σ H) : tIfS (tB (tE K w c t)) (tSs K w c a) (tSs K w c b) D σ H := by
  obtain ⟨ge, g, ρ, S, B, h⟩ := h
  unfold exec at h
  refine ⟨ρ, g, S, B.beg, EvS.bindT h fun k S1 g1 A1 W1 h1 => ?_⟩
  have B1 : BegS K w ge g1 ρ S1 σ g1.H := ⟨rfl, W1, B.A.trans A1, B.E.after A1 B.W⟩
  have M1 := A1.mono B.W
  cases k with
  | true => rw [if_pos rfl] at h1 ⊢; exact ⟨ge, g1, ρ, S1, B1, h1.shift M1⟩
  | false => rw [if_neg (by decide)] at h1 ⊢; exact ⟨ge, g1, ρ, S1, B1, h1.shift M1⟩
theorem s_for {tg : CT} {it : CI} {body : List CS} (h : tS K w c (.for_ tg it body) D σ H) : tFor (tI K w c it) (gT K tg) (tSs K w c body) D σ H := by
  obtain ⟨ge, g, ρ, S, B, h⟩ := h
  unfold exec at h
  refine ⟨ρ, g, S, B.beg, ?_⟩
  cases hI : evI c ρ it S with
  | exc _ _ _ => rw [hI] at h; exact h
  | bad => rw [hI] at h; exact h
  | ok its S1 =>
    rw [hI, Res.st_ok] at h
    generalize hf : (fun (d : Mp.D) (r : Env) (s : Sto) => _) = f at h
    intro g1 J A1 W1 wk
    have M1 := A1.mono B.W
    refine ⟨fun i m σ H => m = its.xs.length - i ∧ i ≤ its.xs.length ∧ ∃ g' ρ' S', g'.H = H ∧ After ge g' ∧ Mono g1 g' ∧ WF K w g' S' ∧ EnvR K w ge g' ρ' σ ∧
      EvS K w ge g' D (forLoop (its.src.still false) f (its.xs.drop i) ρ' S'), ⟨_, rfl, Nat.zero_le _, g1, ρ, S1, rfl, B.A.trans A1, Mono.refl _, W1, B.E.after A1 B.W, EvS.shift M1 h⟩, ?_⟩
    rintro i m σ' H' ⟨rfl, hi, g', ρ', S', rfl, A', M', W', E', hh⟩
    by_cases hlt : i < its.xs.length
    · have hdrop : its.xs.drop i = its.xs[i] :: its.xs.drop (i + 1) := List.drop_eq_getElem_cons hlt
      rw [hdrop] at hh
      unfold forLoop at hh
      cases hst : its.src.still false S' with
      | false => rw [hst] at hh; exact hh.elim
      | true =>
        rw [hst, if_pos rfl] at hh
        have wki := wk false g' S' M' (fun z => by cases z) W' hst i
        obtain ⟨go, yl⟩ := wki.1 its.xs[i] (List.getElem?_eq_getElem hlt)
        refine .inr ⟨go, fun σ2 H2 => ∃ g' ρ' S', g'.H = H2 ∧ After ge g' ∧ Mono g1 g' ∧ WF K w g' S' ∧ EnvR K w ge g' ρ' σ2 ∧
          EvS K w ge g' D (forLoop (its.src.still false) f (its.xs.drop (i + 1)) ρ' S'), fun σ2 H2 q => ⟨its.xs.length - (i + 1), by omega, rfl, hlt, q⟩, fun x H2 y => ?_⟩
        obtain ⟨g2, rfl, A2, W2, r2⟩ := yl x H2 y
        have E2 := E'.after A2 W'
        have M2 := A2.mono W'
        rw [← hf] at hh
        cases hb : bindT ρ' tg its.xs[i] with
        | none => simp only [hb] at hh; exact hh.elim
        | some r' =>
          simp only [hb] at hh
          rw [hf] at hh
          refine gT_ok E2 r2 hb fun σ2 E3 _ => ⟨ge, g2, r', S', ⟨rfl, W2, A'.trans A2, E3⟩, ?_⟩
          refine EvS.seq (D := D) (EvS.shift M2 hh) (fun _ _ q => q) fun ρ3 S3 g3 σ3 _ A3 M3 W3 E3 h3 => ?_
          exact ⟨g3, ρ3, S3, rfl, A3, (M'.trans M2).trans M3, W3, E3, h3.shift M3⟩
    · have e : i = its.xs.length := by omega
      rw [List.drop_eq_nil_of_le (by omega)] at hh
      unfold forLoop at hh
      cases hst : its.src.still false S' with
      | false => rw [hst] at hh; exact hh.elim
      | true =>
        rw [hst, if_pos rfl] at hh
        have wki := wk false g' S' M' (fun z => by cases z) W' hst i
        exact .inl ⟨wki.2 e, hh g' σ' A' (Mono.refl _) W' E'⟩
theorem s_while {t : CE} {body : List CS} (h : tS K w c (.while_ t body) D σ H) : tWhile (tB (tE K w c t)) (tSs K w c body) D σ H := by
  obtain ⟨ge, g, ρ, S, B, h⟩ := h
  unfold exec at h
  refine ⟨fun m σ H => ∃ g' ρ' S', BegS K w ge g' ρ' S' σ H ∧ EvS K w ge g' D (whileLoop (fun r s => evT c r t s) (fun r s => execs c body r s) m ρ' S'), ⟨1000, g, ρ, S, B, h⟩, ?_⟩
  rintro m σ' H' ⟨g', ρ', S', B', hh⟩
  cases m with
  | zero => exact hh.elim
  | succ m =>
    unfold whileLoop at hh
    refine ⟨ρ', g', S', B'.beg, EvS.bindT hh fun k S1 g1 A1 W1 h1 => ?_⟩
    have B1 : BegS K w ge g1 ρ' S1 σ' g1.H := ⟨rfl, W1, B'.A.trans A1, B'.E.after A1 B'.W⟩
    have M1 := A1.mono B'.W
    cases k with
    | true =>
      rw [if_pos rfl] at h1 ⊢
      refine ⟨fun σ2 H2 => ∃ g' ρ' S', BegS K w ge g' ρ' S' σ2 H2 ∧ EvS K w ge g' D (whileLoop (fun r s => evT c r t s) (fun r s => execs c body r s) m ρ' S'), fun σ2 H2 q => ⟨m, Nat.lt_succ_self m, q⟩, ge, g1, ρ', S1, B1, ?_⟩
      refine EvS.seq (D := D) (EvS.shift M1 h1) (fun _ _ q => q) fun ρ3 S3 g3 σ3 _ A3 M3 W3 E3 h3 => ?_
      exact ⟨g3, ρ3, S3, ⟨rfl, W3, A3, E3⟩, h3.shift M3⟩
    | false =>
      rw [if_neg (by decide)] at h1 ⊢
      exact h1 g1 σ' B1.A M1 W1 B1.E

/-! ### writes -/
theorem Unf.bump {p a : Addr} {o : HO} {d : Mp.D} (nf : ¬ g.F p) (off : Off g p) (h : Unf K w g d a) (ne : a ≠ p) : Unf K w (g.bump p o) d a := by
  obtain ⟨h1, h2, q⟩ := h
  refine ⟨h1, h2, ?_⟩
  have hk : ∀ u, g.H a = some u → (g.bump p o).H a = some u := fun u e => by
    show upd g.H p o a = _
    rw [upd_ne ne]; exact e
  cases d with
  | lst xs => exact LstAt.mono (Mono.bump nf off) q hk
  | dic ks vs => exact DicAt.mono (Mono.bump nf off) q hk
  | _ => exact q.elim
/-- an own place is written -/
theorem EnvR.bump {i : Nat} {d d' : Mp.D} {a : Addr} {o : HO} (E : EnvR K w ge g ρ σ) (hi : ρ[i]? = some (.own d)) (ha : σ[i]? = some (some (.ref a))) (nf : ¬ g.F a) (off : Off g a) (u : Unf K w (g.bump a o) d' a) (z : ge.H a = none) :
    EnvR K w ge (g.bump a o) (ρ.set i (.own d')) σ := by
  have own : ∀ {j : Nat} {e : Mp.D}, (ρ.set i (.own d'))[j]? = some (.own e) → ∃ e', ρ[j]? = some (.own e') := fun {j e} h => by
    by_cases hj : i = j
    · subst hj; exact ⟨d, hi⟩
    · rw [List.getElem?_set_ne hj] at h; exact ⟨e, h⟩
  refine ⟨by simp [E.len], fun j s q h1 h2 => ?_, fun j k d1 d2 b h1 h2 h3 h4 => ?_⟩
  · by_cases hj : i = j
    · subst hj
      rw [List.getElem?_set_self (List.getElem?_eq_some_iff.mp hi).1] at h1
      cases h1
      rw [ha] at h2
      cases h2
      exact ⟨a, rfl, u, z⟩
    · rw [List.getElem?_set_ne hj] at h1
      have sr := E.at_ j s q h1 h2
      cases s with
      | no => trivial
      | val e => obtain ⟨v, e1, r⟩ := sr; exact ⟨v, e1, r.mono (Mono.bump nf off)⟩
      | own e =>
        obtain ⟨b, e1, ub, zb⟩ := sr
        refine ⟨b, e1, ub.bump nf off (fun eq => ?_), zb⟩
        subst eq
        rw [e1] at h2
        exact hj (E.one i j d e b hi h1 ha h2)
  · obtain ⟨e1, q1⟩ := own h1
    obtain ⟨e2, q2⟩ := own h2
    exact E.one j k e1 e2 b q1 q2 h3 h4
/-- the store's object n is written -/
def Gh.wr (g : Gh) (n : Nat) (o : HO) : Gh := { g with H := upd g.H (g.mu n) o, ver := fun m => if m = n then g.ver n + 1 else g.ver m }
theorem Mono.wr {n : Nat} {o : HO} (W : WF K w g S) (hn : n < g.L) : Mono g (g.wr n o) := by
  have hl : n < S.length := by rw [← W.len]; exact hn
  have nf := (W.live n S[n].1 S[n].2 (List.getElem?_eq_getElem hl)).1
  refine ⟨Nat.le_refl _, fun _ _ => rfl, fun a h => ⟨h, ?_⟩, fun m hm => ?_⟩
  · show upd g.H (g.mu n) o a = _
    rw [upd_ne (fun e => nf (by rw [← e]; exact h))]
  · by_cases e : m = n
    · subst e
      have : (g.wr m o).ver m = g.ver m + 1 := by
        show (if m = m then _ else _) = _
        rw [if_pos rfl]
      rw [this]
      exact ⟨by omega, fun z => by omega⟩
    · have : (g.wr n o).ver m = g.ver m := by
        show (if m = n then _ else _) = _
        rw [if_neg e]
      rw [this]
      refine ⟨Nat.le_refl _, fun _ u hu => ?_⟩
      show upd g.H (g.mu n) o (g.mu m) = _
      rw [upd_ne (fun z => e (W.inj m n hm hn z))]
      exact hu
theorem WF.wr {n c' : Nat} {o : HO} {so so' : SO} (W : WF K w g S) (hs : S[n]? = some (c', so)) (ob : ObjAt K w (g.wr n o) (g.mu n) so') : WF K w (g.wr n o) (S.set n (c' + 1, so')) := by
  have hl := (List.getElem?_eq_some_iff.mp hs).1
  have hn : n < g.L := by rw [W.len]; exact hl
  have nf := (W.live n c' so hs).1
  have M := Mono.wr (o := o) W hn
  have hv := W.ver n c' so hs
  refine ⟨by rw [List.length_set]; exact W.len, fun a h => ?_, fun m c2 u h => ?_, fun m c2 u h => ?_, W.inj⟩
  · show upd g.H (g.mu n) o a ≠ none
    rw [upd_ne (fun e => nf (by rw [← e]; exact h))]
    exact W.fz a h
  · by_cases e : n = m
    · subst e
      rw [List.getElem?_set_self hl] at h
      cases h
      exact ⟨nf, ob⟩
    · rw [List.getElem?_set_ne e] at h
      obtain ⟨h1, h2⟩ := W.live m c2 u h
      have hm : m < g.L := by rw [W.len]; exact (List.getElem?_eq_some_iff.mp h).1
      refine ⟨h1, h2.mono M fun q hq => ?_⟩
      show upd g.H (g.mu n) o (g.mu m) = _
      rw [upd_ne (fun z => e (W.inj m n hm hn z).symm)]
      exact hq
  · by_cases e : n = m
    · subst e
      rw [List.getElem?_set_self hl] at h
      cases h
      show (if n = n then _ else _) = _
      rw [if_pos rfl, hv]
    · rw [List.getElem?_set_ne e] at h
      show (if m = n then _ else _) = _
      rw [if_neg (Ne.symm e)]
      exact W.ver m c2 u h
theorem After.wr {n : Nat} {o : HO} (A : After ge g) (W : WF K w g S) (hn : n < g.L) : After ge (g.wr n o) where
  L := A.L
  mu := A.mu
  F := A.F
  keep := fun a u e f => by
    show upd g.H (g.mu n) o a = some u
    refine (upd_ne fun z => ?_).trans (A.keep a u e f)
    by_cases hl : n < ge.L
    · rw [A.mu n hl] at z; exact f n hl z.symm
    · have := A.nmu n (by omega) hn
      rw [← z, e] at this
      cases this
  nF := A.nF
  nmu := A.nmu
  there := fun a e => by
    show upd g.H (g.mu n) o a ≠ none
    by_cases z : a = g.mu n
    · subst z; rw [upd_same]; simp
    · rw [upd_ne z]; exact A.there a e
  ver := fun m hm => by
    obtain ⟨h1, h2⟩ := A.ver m hm
    by_cases e : m = n
    · subst e
      have : (g.wr m o).ver m = g.ver m + 1 := by
        show (if m = m then _ else _) = _
        rw [if_pos rfl]
      rw [this]
      exact ⟨by omega, fun z => by omega⟩
    · have : (g.wr n o).ver m = g.ver m := by
        show (if m = n then _ else _) = _
        rw [if_neg e]
      rw [this]
      refine ⟨h1, fun z u hu => ?_⟩
      show upd g.H (g.mu n) o (ge.mu m) = some u
      rw [upd_ne (fun q => e (W.inj m n (Nat.lt_of_lt_of_le hm A.L) hn ((A.mu m hm).trans q)))]
      exact h2 z u hu
end
end Mp
set_option Elab.async false
set_option linter.all false
set_option maxRecDepth 100000
set_option maxHeartbeats 8000000
/-! statements that write -/
namespace Mp
open PySem PySem.Spec PyProof.Rows L2

def rSetDc (w : World) (K : W.Frag) : TSet := fun o i v H Q => ∃ (g : Gh) (a : Addr) (ks : List NestedKey) (vs : List D) (k : NestedKey) (dz : D), g.H = H ∧ o = .ref a ∧ DicAt K w g a ks vs ∧ Rep K w g (ofKey k) i ∧ k.depth ≤ 8 ∧ Rep K w g dz v ∧ ks.length < 16777216 ∧
  ∀ es ep, (∀ g' : Gh, g'.H = upd g.H a (dcO a es ep) → Mono g g' → DicAt K w g' a (putK ks k) (putV ks vs k dz)) → Q (upd g.H a (dcO a es ep))
theorem set_dc {X : Cx} (hu : X.A.units + 10 < cLine) : PSet X (rSetDc X.w X.K) := by
  intro pins s σ H o i v ov iv u Q I ro ri rv h
  obtain ⟨g, a, ks, vs, k, dz, rfl, rfl, hD, hk, hd, hz, hl, q⟩ := h
  cases ro
  exact dic_set hu I hD hk hd ri hz rv hl q
def tSetA (w : World) (K : W.Frag) : TSet := fun o i v H Q => rSetL o i v H Q ∨ rSetDc w K o i v H Q
theorem set_any {X : Cx} (hu : X.A.units + 10 < cLine) : PSet X (tSetA X.w X.K) := by
  intro pins s σ H o i v ov iv u Q I ro ri rv h
  rcases h with h | h
  · exact set_list pins s σ H o i v ov iv u Q I ro ri rv h
  · exact set_dc hu pins s σ H o i v ov iv u Q I ro ri rv h
section
variable {K : W.Frag} {w : World} {ge g g' g₀ g1 g2 : Gh} {S : Sto} {ρ : Env} {σ : L2.St} {H : Hp} {c : Calls} {En : Ends}
theorem s_subO {i : Nat} {ix e : CE} (h : tS K w c (.subO i ix e) En σ H) : tAsg (tE K w c e) (gSub (tVar i) (tE K w c ix) (tSetA w K)) En σ H := by
  obtain ⟨ge, g, ρ, S, B, h⟩ := h
  unfold exec at h
  refine ⟨ρ, g, S, B.beg, EvS.bindE h fun x S1 g1 v A1 W1 r1 h1 => ?_⟩
  cases he : esc x with
  | none => rw [he] at h1; exact h1.elim
  | some d =>
    rw [he] at h1
    obtain ⟨g2, e2, A2, M2, W2, r2⟩ := esc_hold A1 W1 r1 he
    rw [← e2]
    cases hr : ρ[i]? with
    | none => rw [hr] at h1; exact h1.elim
    | some sv =>
      rw [hr] at h1
      cases sv with
      | own dd =>
        cases dd with
        | dic ks vs =>
          have E2 := B.E.after A2 B.W
          obtain ⟨a, ea, u2, z⟩ := E2.ownAt hr
          refine ⟨.ref a, ea, ρ, g2, S1, ⟨rfl, W2, ge, E2⟩, EvS.bindE h1 fun y S2 g3 uy A3 W3 r3 h3 => ?_⟩
          cases hk : keyOf y.1 with
          | none => rw [hk] at h3; exact h3.elim
          | some k =>
            rw [hk] at h3
            have h3 : EvS K w ge g En (if ks.length < 16777216 then .nx (ρ.set i (.own (.dic (putK ks k) (putV ks vs k d)))) S2 else .bad) := h3
            split at h3
            · rename_i hsz
              have E3 := E2.after A3 W2
              have u3 := u2.after A3 W2
              obtain ⟨off, nf, hD⟩ := u3
              obtain ⟨rk, hdk⟩ := rep_key r3 hk
              refine .inr ⟨g3, a, ks, vs, k, d, rfl, rfl, hD, rk, hdk, r2.mono (A3.mono W2), hsz, fun es ep hd => ?_⟩
              have Mb : Mono g3 (g3.bump a (dcO a es ep)) := Mono.bump nf off
              have ub : Unf K w (g3.bump a (dcO a es ep)) (.dic (putK ks k) (putV ks vs k d)) a := ⟨off, nf, hd (g3.bump a (dcO a es ep)) rfl Mb⟩
              exact h3 (g3.bump a (dcO a es ep)) σ (((B.A.trans A2).trans A3).bump z) (((A2.mono B.W).trans (A3.mono W2)).trans Mb) (W3.bump nf off) (E3.bump hr ea nf off ub z)
            · exact h3.elim
        | _ => exact h1.elim
      | _ => exact h1.elim
theorem setF_cases {o i v : D} {S' : Sto} (h : setF S o i v = some S') : ∃ n, o = .ref n ∧ ((∃ cc xs k j, S[n]? = some (cc, .lst xs) ∧ i = .int k ∧ L2.ixN xs.length k = some j ∧ S' = S.set n (cc + 1, .lst (xs.set j v))) ∨
    ∃ cc ks vs k, S[n]? = some (cc, .dic ks vs) ∧ keyOf i = some k ∧ ks.length < 16777216 ∧ S' = S.set n (cc + 1, .dic (putK ks k) (putV ks vs k v))) := by
  unfold setF at h
  split at h
  · rename_i n
    refine ⟨n, rfl, ?_⟩
    split at h
    · rename_i cc xs hs
      split at h
      · rename_i k
        split at h
        · rename_i j hj
          cases h
          exact .inl ⟨cc, xs, k, j, hs, rfl, hj, rfl⟩
        · cases h
      · cases h
    · rename_i cc ks vs hs
      split at h
      · rename_i k hk
        split at h
        · rename_i hl
          cases h
          exact .inr ⟨cc, ks, vs, k, hs, hk, hl, rfl⟩
        · cases h
      · cases h
    · cases h
  · cases h
theorem EnvR.wr {n : Nat} {o : HO} (W : WF K w g S) (hn : n < g.L) (E : EnvR K w ge g ρ σ) : EnvR K w ge (g.wr n o) ρ σ := by
  have M := Mono.wr (o := o) W hn
  refine ⟨E.len, fun j s p h1 h2 => ?_, E.one⟩
  have sr := E.at_ j s p h1 h2
  cases s with
  | no => trivial
  | val e => obtain ⟨v, e1, r⟩ := sr; exact ⟨v, e1, r.mono M⟩
  | own e =>
    obtain ⟨b, e1, ⟨off, nf, qq⟩, zb⟩ := sr
    refine ⟨b, e1, ⟨off, nf, ?_⟩, zb⟩
    have hk : ∀ u, g.H b = some u → (g.wr n o).H b = some u := fun u hu => by
      show upd g.H (g.mu n) o b = _
      rw [upd_ne (fun z => off n hn z.symm)]; exact hu
    cases e with
    | lst xs => exact LstAt.mono M qq hk
    | dic ks vs => exact DicAt.mono M qq hk
    | _ => exact qq.elim
/-- a store into the store's object -/
theorem set_core {x y : DT} {d : D} {ov iv v : V} {S' : Sto} {Q : Hp → Prop} (W : WF K w g S) (A : After ge g) (E : EnvR K w ge g ρ σ) (rx : RepT K w g g₀ x ov) (ry : RepT K w g g₀ y iv) (rd : Rep K w g d v) (h : setF S x.1 y.1 d = some S')
    (q : ∀ g', After ge g' → Mono g g' → WF K w g' S' → EnvR K w ge g' ρ σ → Q g'.H) : tSetA w K ov iv v g.H Q := by
  obtain ⟨n, hx, hc⟩ := setF_cases h
  obtain ⟨dx, tx⟩ := x
  have hx : dx = .ref n := hx
  subst hx
  have hov : n < g.L ∧ ov = .ref (g.mu n) := by
    cases tx with
    | f =>
      have r : Rep K w g (.ref n) ov := rx
      cases r with
      | ref hn => exact ⟨hn, rfl⟩
    | b => obtain ⟨a, _, _, _, z⟩ := rx; exact z.elim
    | n => obtain ⟨a, _, ⟨_, _, z⟩, _⟩ := rx; exact z.elim
  obtain ⟨hn, rfl⟩ := hov
  have EW : ∀ (o : HO), EnvR K w ge (g.wr n o) ρ σ := fun o => by
    have M := Mono.wr (o := o) W hn
    refine ⟨E.len, fun j s p h1 h2 => ?_, E.one⟩
    have sr := E.at_ j s p h1 h2
    cases s with
    | no => trivial
    | val e => obtain ⟨v, e1, r⟩ := sr; exact ⟨v, e1, r.mono M⟩
    | own e =>
      obtain ⟨b, e1, ⟨off, nf, qq⟩, zb⟩ := sr
      refine ⟨b, e1, ⟨off, nf, ?_⟩, zb⟩
      have hk : ∀ u, g.H b = some u → (g.wr n o).H b = some u := fun u hu => by
        show upd g.H (g.mu n) o b = _
        rw [upd_ne (fun z => off n hn z.symm)]; exact hu
      cases e with
      | lst xs => exact LstAt.mono M qq hk
      | dic ks vs => exact DicAt.mono M qq hk
      | _ => exact qq.elim
  rcases hc with ⟨cc, xs, k, j, hs, hy, hj, rfl⟩ | ⟨cc, ks, vs, k, hs, hk, hl, rfl⟩
  · cases rep_int ry hy
    obtain ⟨nf, vs, e1, rv⟩ := W.live n _ _ hs
    refine .inl ⟨_, vs, k, j, rfl, rfl, e1, by rw [← rv.length]; exact hj, ?_⟩
    have M := Mono.wr (o := .lst (vs.set j v)) W hn
    refine q (g.wr n (.lst (vs.set j v))) (A.wr W hn) M (W.wr hs ⟨vs.set j v, ?_, (rv.set rd j).mono M⟩) (EW _)
    show upd g.H (g.mu n) _ (g.mu n) = _
    rw [upd_same]
  · obtain ⟨nf, hD⟩ := W.live n _ _ hs
    obtain ⟨rk, hdk⟩ := rep_key ry hk
    refine .inr ⟨g, _, ks, vs, k, d, rfl, rfl, hD, rk, hdk, rd, hl, fun es ep hd => ?_⟩
    have M := Mono.wr (o := dcO (g.mu n) es ep) W hn
    exact q (g.wr n (dcO (g.mu n) es ep)) (A.wr W hn) M (W.wr hs (hd (g.wr n (dcO (g.mu n) es ep)) rfl M)) (EW _)
theorem s_subS {o ix e : CE} (h : tS K w c (.subS o ix e) En σ H) : tAsg (tE K w c e) (gSub (tE K w c o) (tE K w c ix) (tSetA w K)) En σ H := by
  obtain ⟨ge, g, ρ, S, B, h⟩ := h
  unfold exec at h
  refine ⟨ρ, g, S, B.beg, EvS.bindE h fun x S1 g1 v A1 W1 r1 h1 => ?_⟩
  cases he : esc x with
  | none => rw [he] at h1; exact h1.elim
  | some d =>
    rw [he] at h1
    obtain ⟨g2, e2, A2, M2, W2, r2⟩ := esc_hold A1 W1 r1 he
    rw [← e2]
    have E2 := B.E.after A2 B.W
    refine ⟨ρ, g2, S1, ⟨rfl, W2, ge, E2⟩, EvS.bindE h1 fun y S3 g3 oy A3 W3 r3 h3 => ?_⟩
    have E3 := E2.after A3 W2
    refine ⟨ρ, g3, S3, ⟨rfl, W3, ge, E3⟩, EvS.bindE h3 fun z S4 g4 iy A4 W4 r4 h4 => ?_⟩
    cases hs : setF S4 y.1 z.1 d with
    | none => rw [hs] at h4; exact h4.elim
    | some S5 =>
      rw [hs] at h4
      have E4 := E3.after A4 W3
      have A24 := A3.trans A4
      refine set_core W4 ((B.A.trans A2).trans A24) E4 (r3.after A4 W3) (r4.base A3) (r2.mono (A24.mono W2)) hs fun g5 A5 M5 W5 E5 => ?_
      exact h4 g5 σ A5 (((A2.mono B.W).trans (A24.mono W2)).trans M5) W5 E5
theorem s_appO {i : Nat} {e : CE} (h : tS K w c (.appO i e) En σ H) : tDrop (tBM K "list" rAppend (tVar i) (tCons (tE K w c e) tNil)) En σ H := by
  obtain ⟨ge, g, ρ, S, B, h⟩ := h
  unfold exec at h
  cases hr : ρ[i]? with
  | none => rw [hr] at h; exact h.elim
  | some sv =>
    rw [hr] at h
    cases sv with
    | own dd =>
      cases dd with
      | lst xs =>
        obtain ⟨a, ea, u, z⟩ := B.E.ownAt hr
        refine ⟨.ref a, ea, .inl ⟨rfl, ?_⟩, ρ, g, S, B.beg, EvS.bindE h fun x S1 g1 v A1 W1 r1 h1 => ?_⟩
        · obtain ⟨_, _, vs, e1, _⟩ := u
          rw [B.h] at e1
          exact ⟨vs, .inl (.inl e1)⟩
        · cases he : esc x with
          | none => rw [he] at h1; exact h1.elim
          | some d =>
            rw [he] at h1
            have h1 : EvS K w ge g En (if xs.length < 16777216 then .nx (ρ.set i (.own (.lst (xs ++ [d])))) S1 else .bad) := h1
            split at h1
            · rename_i hsz
              obtain ⟨g2, e2, A2, M2, W2, r2⟩ := esc_hold A1 W1 r1 he
              have E2 := B.E.after A2 B.W
              obtain ⟨off, nf, vs, e1, rv⟩ := u.after A2 B.W
              refine ⟨a, vs, v, rfl, rfl, by rw [← e2]; exact e1, by rw [lineN, ← rv.length]; exact hsz, ?_⟩
              rw [← e2]
              have Mb : Mono g2 (g2.bump a (.lst (vs ++ [v]))) := Mono.bump nf off
              have ub : Unf K w (g2.bump a (.lst (vs ++ [v]))) (.lst (xs ++ [d])) a := ⟨off, nf, vs ++ [v], by show upd g2.H a _ a = _; rw [upd_same], (rv.append (.cons r2 .nil)).mono Mb⟩
              exact h1 (g2.bump a (.lst (vs ++ [v]))) σ ((B.A.trans A2).bump z) ((A2.mono B.W).trans Mb) (W2.bump nf off) (E2.bump hr ea nf off ub z)
            · exact h1.elim
      | _ => exact h.elim
    | _ => exact h.elim
theorem s_appS {o e : CE} (h : tS K w c (.appS o e) En σ H) : tDrop (tBM K "list" rAppend (tE K w c o) (tCons (tE K w c e) tNil)) En σ H := by
  obtain ⟨ge, g, ρ, S, B, h⟩ := h
  unfold exec at h
  refine ⟨ρ, g, S, B.beg, EvS.bindE h fun ox S1 g1 ov A1 W1 r1 h1 => ?_⟩
  have E1 := B.E.after A1 B.W
  cases hl : lstV S1 ox.1 with
  | none => rw [hl] at h1; exact h1.elim
  | some xs0 =>
    rw [hl] at h1
    obtain ⟨a0, vs0, rfl, e0, _⟩ := view_lst W1 r1 hl
    refine ⟨.inl ⟨rfl, vs0, .inl (.inl e0)⟩, ρ, g1, S1, ⟨rfl, W1, ge, E1⟩, EvS.bindE h1 fun x S2 g2 v A2 W2 r2 h2 => ?_⟩
    have E2 := E1.after A2 W1
    cases he : esc x with
    | none => rw [he] at h2; exact h2.elim
    | some d =>
      rw [he] at h2
      obtain ⟨dox, tox⟩ := ox
      cases dox with
      | ref n =>
        have h2 : EvS K w ge g En (match S2[n]? with
          | some (c, .lst xs) => if xs.length < 16777216 then .nx ρ (S2.set n (c + 1, .lst (xs ++ [d]))) else .bad
          | _ => .bad) := h2
        have hov : n < g1.L ∧ a0 = g1.mu n := by
          cases tox with
          | f =>
            have r : Rep K w g1 (.ref n) (.ref a0) := r1
            cases r with
            | ref hn => exact ⟨hn, rfl⟩
          | b => obtain ⟨a, _, _, _, z⟩ := r1; exact z.elim
          | n => obtain ⟨a, _, ⟨_, _, z⟩, _⟩ := r1; exact z.elim
        obtain ⟨hn, rfl⟩ := hov
        obtain ⟨g3, e3, A3, M3, W3, r3⟩ := esc_hold A2 W2 r2 he
        have E3 := E1.after A3 W1
        split at h2
        · rename_i cc xs hs
          split at h2
          · rename_i hsz
            obtain ⟨nf, vs, e1, rv⟩ := W3.live n _ _ hs
            have hm : g3.mu n = g1.mu n := A3.mu n hn
            have hn3 : n < g3.L := Nat.lt_of_lt_of_le hn A3.L
            refine ⟨g3.mu n, vs, v, by rw [hm], rfl, by rw [← e3]; exact e1, by rw [lineN, ← rv.length]; exact hsz, ?_⟩
            rw [← e3]
            have M := Mono.wr (o := .lst (vs ++ [v])) W3 hn3
            have EW : EnvR K w ge (g3.wr n (.lst (vs ++ [v]))) ρ σ := EnvR.wr W3 hn3 E3
            refine h2 (g3.wr n (.lst (vs ++ [v]))) σ (((B.A.trans A1).trans A3).wr W3 hn3) (((A1.mono B.W).trans (A3.mono W1)).trans M) (W3.wr hs ⟨vs ++ [v], ?_, (rv.append (.cons r3 .nil)).mono M⟩) EW
            show upd g3.H (g3.mu n) _ (g3.mu n) = _
            rw [upd_same]
          · exact h2.elim
        · exact h2.elim
      | _ => exact h2.elim
end
end Mp
set_option Elab.async false
set_option linter.all false
set_option maxRecDepth 100000
set_option maxHeartbeats 8000000
/-! d.update({..}) -/
namespace Mp
open PySem PySem.Spec PyProof.Rows L2
theorem isText_of : ∀ {ks : List NestedKey}, ks.all isText = true → ∃ zs : List Str, ks = zs.map .text
  | [], _ => ⟨[], rfl⟩
  | k :: ks, h => by
    simp only [List.all_cons, Bool.and_eq_true] at h
    obtain ⟨zs, rfl⟩ := isText_of h.2
    cases k with
    | text z => exact ⟨z :: zs, rfl⟩
    | _ => exact absurd h.1 (by simp [isText])
/-- what is asked of d.update(o) -/
def rUpd (w : World) (K : W.Frag) : V → List V → Hp → VK → Prop := fun x us H Q => ∃ (g : Gh) (d o : Addr) (zs ys : List Str) (vs ws : List D),
  g.H = H ∧ x = .ref d ∧ us = [.ref o] ∧ d ≠ o ∧ DicAt K w g d (zs.map .text) vs ∧ DicVw K w g o (ys.map .text) ws ∧ (zs ++ ys).Nodup ∧ zs.length + ys.length ≤ 1000 ∧
  ∀ es ep, (∀ g' : Gh, g'.H = upd g.H d (dcO d es ep) → Mono g g' → DicAt K w g' d ((zs ++ ys).map .text) (vs ++ ws)) → Q .non (upd g.H d (dcO d es ep))
theorem dict_of {X : Cx} {pins : List (Addr × Obj)} {σ : L2.St} {g : Gh} {s : Shared} (I : Inv X pins σ g.H s) {a : Addr} {zs : List Str} {ds : List D} (hD : DicVw X.K X.w g a (zs.map .text) ds) :
    ∃ (kvs : List (Key × V)) (vs : List (Key × Value)), KV kvs vs ∧ kvs.map (fun p => toN p.1) = zs.map .text ∧ kvs.map (fun p => kV p.1) = zs.map V.str ∧ Reps X.K X.w g ds (kvs.map (·.2)) ∧ vs.map (·.1) = zs.map Sum.inr ∧ s.heap.DictOf (mixKind X.prog X.w) a vs ∧ vs.length = zs.length := by
  obtain ⟨es, ep, xs, vvs, h1, D, hk, hv, hr, hz, hm⟩ := dc_of I hD
  obtain ⟨kvs, vs2, q1, q2, q3, q4, q5, q6⟩ := copy_kv hk hv (fun x hx => (D.key x hx).1)
  obtain ⟨p1, p2⟩ := q6 (P := X.prog) (w := X.w)
  obtain ⟨o, ho, hex, hdat⟩ := id D.obj
  have nd : (vs2.map (·.1)).Nodup := by
    rw [q5]
    have := D.nd
    rw [← hk] at this
    exact List.pairwise_map.mpr ((List.pairwise_map.mp this).imp fun {a b} hne e => hne (by cases e; rfl))
  have hl := congrArg List.length q5
  simp only [List.length_map] at hl
  exact ⟨kvs, vs2, q1, q2, q3, by rw [q4]; exact hr, q5, ⟨o, es, ep, ho, hex, hdat, fun e he => p2 e (by rw [← D.ent]; exact Array.mem_toList_iff.mpr he), by rw [D.ent]; exact p1, nd⟩, hl⟩
theorem kv_append : ∀ {a : List (Key × V)} {b : List (Key × Value)} {a' : List (Key × V)} {b' : List (Key × Value)}, KV a b → KV a' b' → KV (a ++ a') (b ++ b')
  | _, _, _, _, .nil, h => h
  | _, _, _, _, .cons r t, h => .cons r (kv_append t h)
theorem mt_upd {X : Cx} : MtR X "dict.update" (rUpd X.w X.K) := by
  intro pins s σ H x us v ws0 Q I rx rv h
  obtain ⟨g, d, o, zs, ys, vs, ws, rfl, rfl, rfl, hne, hD, hO, hn, hz, q⟩ := h
  cases rx
  rw [Vals.ref1 rv]
  obtain ⟨kv1, vs1, a1, a2, a3, a4, a5, a6, a7⟩ := dict_of I hD.vw
  obtain ⟨kv2, vs2, b1, b2, b3, b4, b5, b6, b7⟩ := dict_of I hO
  have hm : (o == sysModules) = false := by
    obtain ⟨_, _, _, _, _, _, _, _, _, _, _, _, _, _, _, hm⟩ := hO
    exact hm
  have hmd : (d == sysModules) = false := by
    obtain ⟨_, _, _, _, _, _, _, _, _, _, _, _, _, _, _, hm⟩ := hD
    exact hm
  have h1 : g.H d ≠ none := ObjAt.there (o := .dic _ _) hD
  have hno : ∃ es0 ep0, g.H d = some (dcO d es0 ep0) := by
    obtain ⟨es0, ep0, _, _, _, e0, _⟩ := hD
    exact ⟨es0, ep0, e0⟩
  obtain ⟨es0, ep0, e0⟩ := hno
  have hsz : vs1.length + vs2.length ≤ sizeLine := by rw [lineN]; omega
  refine call_meetsIn F.slot_dict_update a6.typeIs F.entry_dict_update (F.args_dict_update_2 _ _) (meets_dict_update (mixKind X.prog X.w) d o hne hm) ⟨vs1, vs2, a6, b6, hsz, fun h' hd' _ hs => ?_⟩
  rw [merged_append_of_fresh vs1 vs2 (by
    rw [List.map_append, a5, b5, ← List.map_append]
    exact nodup_map (fun a b e => by cases e; rfl) hn)] at hd'
  obtain ⟨o', es', ep', ho', hex', hdat', hko, hpr, hn'⟩ := hd'
  obtain ⟨x3, i1, i2, i3, i4⟩ := mix_entries (kv_append a1 b1) hpr (fun e he => hko e (Array.mem_toList_iff.mp he))
  refine ⟨.non, upd g.H d (dcO d es' ep'), I.write (x := d) (e := d) (by rw [e0]; trivial) (.inl rfl) (fun b u hb e => (hs.2 b hb).trans e) ⟨o', ho'⟩ ⟨⟨o', ho', hex', hdat'⟩, ⟨o', ho'⟩, fun h1 h2 ⟨oo, e1, e2⟩ st => ⟨oo, st _ e1, e2⟩⟩, rfl, ?_⟩
  refine q es' ep' fun g' hg m => ?_
  have ek : (zs ++ ys).map NestedKey.text = x3.map (·.1) := by rw [i2, List.map_append (l₁ := kv1), a2, b2, List.map_append]
  have el : x3.length = zs.length + ys.length := by
    have := congrArg List.length ek
    simp only [List.length_map, List.length_append] at this
    exact this.symm
  refine ⟨es', ep', x3, (zs ++ ys).map V.str, kv1.map (·.2) ++ kv2.map (·.2), by rw [hg, upd_same], ⟨i1, ek⟩, ?_, ?_, texts_reps _, ?_, nodup_map (fun a b e => by cases e; rfl) hn, ?_, ?_, ?_, hmd⟩
  · rw [List.map_append (l₁ := kv1), a3, b3, ← List.map_append] at i3
    exact i3
  · rw [List.map_append (l₁ := kv1)] at i4
    exact i4
  · exact (a4.mono m).append (b4.mono m)
  · intro k hk
    obtain ⟨z, _, rfl⟩ := List.mem_map.mp hk
    exact Nat.le_of_ble_eq_true rfl
  · rw [List.length_map, List.length_append, lineN]; omega
  · have l1 := a4.length
    have l2 := b4.length
    have l3 := congrArg List.length a2
    have l4 := congrArg List.length b2
    simp only [List.length_map, List.length_append] at *
    omega
section
variable {K : W.Frag} {w : World} {ge g g' g₀ g1 g2 : Gh} {S : Sto} {ρ : Env} {σ : L2.St} {H : Hp} {c : Calls} {En : Ends}
/-- o.update(e): what is asked -/
def tUpd (w : World) (K : W.Frag) (to : TE) (t : TA) : TE := fun σ H Q => to σ H fun x H1 => (∃ g d ks vs, g.H = H1 ∧ x = .ref d ∧ DicVw K w g d ks vs) ∧ t σ H1 fun us H2 => rUpd w K x us H2 Q
theorem pe_upd {X : Cx} {o e : Expr} {to : TE} {t : TA} {apos cpos : Pos} (ho : PE X o to) (ha : PA X [e] t) (hbase : attributeBase o "update" X.env (eval o X.env) = eval o X.env)
    (hfew : ((backTo cpos (starEach [e] X.env)).all (fun x => !x.1) && (backToKw cpos (keywordEach [] X.env)).all (fun x => x.1.isSome)
      && decide (([e] : List Expr).length + ([] : List Keyword).length + (if ([] : List Keyword).isEmpty then 0 else 1) < 30)) = true)
    (hline : (apos.endLine == cpos.line) = true) (hs : starEach [e] X.env = (false, eval e X.env) :: starEach [] X.env) :
    PE X (.Call (.Attribute o "update" apos) [e] [] cpos) (tUpd X.w X.K to t) := by
  refine ⟨fun pins s σ H Q I h => ?_⟩
  refine wpAny_Call_method_late hbase hfew hline rfl (thn (ho.run pins s σ H _ I h) fun v s1 ⟨x, H1, I1, r1, ⟨g, d, ks, vs, e1, ex, hD⟩, q1⟩ => ?_)
  subst ex
  subst e1
  cases r1
  obtain ⟨es, ep, kvs, vvs, ⟨he, _, _, _⟩, _⟩ := hD.ents
  have raw := he.raw I1
  refine ⟨"dict", "dict.update", F.plainAttrs_dict, F.slot_dict_update, F.type_dict_update, raw.typeIs, raw_nodict raw, ?_⟩
  have hA := ha.run cpos pins s1 σ _ _ I1 q1
  rw [hs] at hA ⊢
  refine Calls.callWith_builtin rfl (Calls.evalArgs_plain ?_)
  exact thn hA fun us s2 ⟨vs2, H2, I2, r2, q2⟩ => mt_upd pins s2 σ H2 (.ref d) vs2 (.ref d) us Q I2 rfl r2 q2
theorem s_updO {i : Nat} {e : CE} (h : tS K w c (.updO i e) En σ H) : tDrop (tUpd w K (tVar i) (tCons (tE K w c e) tNil)) En σ H := by
  obtain ⟨ge, g, ρ, S, B, h⟩ := h
  unfold exec at h
  cases hr : ρ[i]? with
  | none =>
    exfalso
    cases he : ev c ρ e S with
    | ok x S' => rw [he, Res.st_ok] at h; simp only [hr] at h; exact h
    | exc _ _ _ => rw [he] at h; exact h
    | bad => rw [he] at h; exact h
  | some sv =>
    cases sv with
    | own dd =>
      cases dd with
      | dic ks vs =>
        obtain ⟨a, ea, u, z⟩ := B.E.ownAt hr
        obtain ⟨Hg, W0, A0, E0⟩ := B
        subst Hg
        have u0 := u
        refine ⟨.ref a, ea, ⟨g, a, ks, vs, rfl, rfl, (show DicAt K w g a ks vs from u.2.2).vw⟩, ρ, g, S, ⟨rfl, W0, ge, E0⟩, EvS.bindE h fun x S1 g1 v A1 W1 r1 h1 => ?_⟩
        obtain ⟨dx, tx⟩ := x
        cases tx with
        | n =>
          cases dx with
          | dic ks2 vs2 =>
            have h1 : EvS K w ge g En (if (ks ++ ks2).all isText && decide ((ks ++ ks2).Nodup) && decide (ks.length + ks2.length ≤ 1000) then .nx (ρ.set i (.own (.dic (ks ++ ks2) (vs ++ vs2)))) S1 else .bad) := by
              simp only [hr] at h1
              exact h1
            split at h1
            · rename_i hc
              obtain ⟨hc, c3⟩ := and2 hc
              obtain ⟨c1, c2⟩ := and2 hc
              rw [List.all_append] at c1
              obtain ⟨c1a, c1b⟩ := and2 c1
              obtain ⟨zs, rfl⟩ := isText_of c1a
              obtain ⟨ys, rfl⟩ := isText_of c1b
              obtain ⟨b, rfl, ub, zb⟩ := r1
              have E2 := E0.after A1 W0
              obtain ⟨off, nf, hD⟩ := u.after A1 W0
              have hab : a ≠ b := fun e => u0.there (by rw [e]; exact zb)
              have hn : (zs ++ ys).Nodup := by
                have c2 := of_decide_eq_true c2
                rw [← List.map_append] at c2
                exact (List.pairwise_map.mp c2).imp fun {p q} hne e => hne (by rw [e])
              refine ⟨g1, a, b, zs, ys, vs, vs2, rfl, rfl, rfl, hab, hD, (show DicAt K w g1 b _ _ from ub.2.2).vw, hn, by simpa using of_decide_eq_true c3, fun es ep hd => ?_⟩
              have Mb : Mono g1 (g1.bump a (dcO a es ep)) := Mono.bump nf off
              have ubb : Unf K w (g1.bump a (dcO a es ep)) (.dic ((zs ++ ys).map .text) (vs ++ vs2)) a := ⟨off, nf, hd (g1.bump a (dcO a es ep)) rfl Mb⟩
              rw [← List.map_append] at h1
              exact h1 (g1.bump a (dcO a es ep)) σ ((A0.trans A1).bump z) ((A1.mono W0).trans Mb) (W1.bump nf off) (E2.bump hr ea nf off ubb z)
            · exact h1.elim
          | _ => simp only [hr] at h1; exact h1.elim
        | _ => simp only [hr] at h1; exact h1.elim
      | _ =>
        exfalso
        cases he : ev c ρ e S with
        | ok x S' => rw [he, Res.st_ok] at h; simp only [hr] at h; exact h
        | exc _ _ _ => rw [he] at h; exact h
        | bad => rw [he] at h; exact h
    | _ =>
      exfalso
      cases he : ev c ρ e S with
      | ok x S' => rw [he, Res.st_ok] at h; simp only [hr] at h; exact h
      | exc _ _ _ => rw [he] at h; exact h
      | bad => rw [he] at h; exact h
theorem s_subS2 {o1 i1 o2 i2 e : CE} (h : tS K w c (.subS2 o1 i1 o2 i2 e) En σ H) : tAsg (tE K w c e) (gTup K 2 (gCons (gSub (tE K w c o1) (tE K w c i1) (tSetA w K)) (gCons (gSub (tE K w c o2) (tE K w c i2) (tSetA w K)) gNil))) En σ H := by
  obtain ⟨ge, g, ρ, S, B, h⟩ := h
  unfold exec at h
  refine ⟨ρ, g, S, B.beg, EvS.bindE h fun x S1 g1 v A1 W1 r1 h1 => ?_⟩
  obtain ⟨dx, tx⟩ := x
  split at h1
  · rename_i d1 d2 hx
    have hx : dx = .tup [d1, d2] := hx
    subst hx
    obtain ⟨a, vs, rfl, hS, hR⟩ := view_tup (x := .non) (rep_tup r1 rfl)
    cases hR with
    | cons q1 q2 =>
      cases q2 with
      | cons q3 q4 =>
        cases q4
        have E1 := B.E.after A1 B.W
        refine ⟨a, _, rfl, hS, rfl, _, _, rfl, ?_⟩
        refine ⟨ρ, g1, S1, ⟨rfl, W1, ge, E1⟩, EvS.bindE h1 fun y S3 g3 oy A3 W3 r3 h3 => ?_⟩
        have E3 := E1.after A3 W1
        refine ⟨ρ, g3, S3, ⟨rfl, W3, ge, E3⟩, EvS.bindE h3 fun z S4 g4 iy A4 W4 r4 h4 => ?_⟩
        cases hs : setF S4 y.1 z.1 d1 with
        | none => rw [hs] at h4; exact h4.elim
        | some S5 =>
          rw [hs] at h4
          have E4 := E3.after A4 W3
          have A14 := A3.trans A4
          refine set_core W4 ((B.A.trans A1).trans A14) E4 (r3.after A4 W3) (r4.base A3) (q1.mono (A14.mono W1)) hs fun g5 A5 M5 W5 E5 => ?_
          have M15 := (A14.mono W1).trans M5
          refine ⟨_, _, rfl, ?_⟩
          refine ⟨ρ, g5, S5, ⟨rfl, W5, ge, E5⟩, EvS.bindE h4 fun y S6 g6 oy A6 W6 r6 h6 => ?_⟩
          have E6 := E5.after A6 W5
          refine ⟨ρ, g6, S6, ⟨rfl, W6, ge, E6⟩, EvS.bindE h6 fun z S7 g7 iy A7 W7 r7 h7 => ?_⟩
          cases hs : setF S7 y.1 z.1 d2 with
          | none => rw [hs] at h7; exact h7.elim
          | some S8 =>
            rw [hs] at h7
            have E7 := E6.after A7 W6
            have A57 := A6.trans A7
            refine set_core W7 (A5.trans A57) E7 (r6.after A7 W6) (r7.base A6) ((q3.mono M15).mono (A57.mono W5)) hs fun g9 A9 M9 W9 E9 => ?_
            refine ⟨rfl, ?_⟩
            exact h7 g9 σ A9 ((((A1.mono B.W).trans M15).trans (A57.mono W5)).trans M9) W9 E9
  · exact h1.elim
theorem sw_sub2 {x1 y1 x2 y2 u v : Expr} {p1 p2 p3 p4 : Pos} {k1 k2 : Nat} {env : PySem.Env} : swappedStores [.Tuple [.Subscript x1 y1 p1, .Subscript x2 y2 p2] k1 p3] (.Tuple [u, v] k2 p4) env = pure none := by
  unfold swappedStores
  simp
end
end Mp
set_option Elab.async false
set_option linter.all false
set_option maxRecDepth 100000
set_option maxHeartbeats 8000000
/-! the check of statements -/
namespace Mp
open PySem PySem.Spec PyProof.Rows L2

def noComp : Expr → Bool
  | .ListComp _ _ _ _ => false
  | .SetComp _ _ _ _ => false
  | .DictComp _ _ _ _ _ => false
  | _ => true
def isLoc (sc : SC) (x : Str) : Bool := sc.scope.names.lookup x == some .local
def isFn (sc : SC) : Bool := match sc.scope.kind with
  | .function => true
  | _ => false
/-- x = [..] : does the new list take the name's place at once? -/
def swB (sc : SC) (x : Str) (px : Pos) (names : List (Str × NameKind)) (p : Pos) : Bool :=
  isLoc sc x && (px.line == p.line) && !(names.any fun (n, k) => n == x && (k == .local || k == .cell))
/-- a target at which nothing is swapped -/
def notTup : Expr → Bool
  | .Tuple _ _ _ => false
  | _ => true
def foldAll (vs : List Expr) : Bool := vs.all (foldedForSure 8)

def isLc : CE → Expr → Bool
  | .lc _ _ _ _ _, .ListComp _ _ _ _ => true
  | _, _ => false
mutual
def chkS (sc : SC) : CS → Stmt → Bool
  | .expr e, s => match s with
    | .Expr x _ => chk sc e x && noComp x
    | _ => false
  | .asg i e, s => match s with
    | .Assign [.Name x px] y _ => locOk sc i x && isFn sc && chk sc e y && (noComp y || isLc e y)
    | _ => false
  | .asgO i e, s => match s with
    | .Assign [.Name x px] y _ => locOk sc i x && isFn sc && chk sc e y && (noComp y || isLc e y)
    | _ => false
  | .asgT is e, s => match s with
    | .Assign [.Tuple ts k p] y _ => chkG sc (.tup is) (.Tuple ts k p) && chk sc e y && noComp y && notTup y
    | _ => false
  | .par2 i j a b, s => match s with
    | .Assign [.Tuple [.Name x px, .Name y py] _ _] (.Tuple [u, v] _ _) _ => decide (sc.N[i]? = some x) && decide (sc.N[j]? = some y) && decide (i ≠ j) && isLoc sc x && isLoc sc y && isFn sc && (py.line == px.line) && decide (x ≠ y) && noStar u && noStar v &&
      !(foldedForSure 8 u && foldedForSure 8 v) && !(constantsAlone 8 u && constantsAlone 8 v) && chk sc a u && chk sc b v
    | _ => false
  | .par3 _ _ _ _ _ _, _ => false
  | .subO i ix e, s => match s with
    | .Assign [.Subscript (.Name x _) y _] z _ => varOk sc i x && chk sc ix y && chk sc e z && noComp z && noSlice y
    | _ => false
  | .subS o ix e, s => match s with
    | .Assign [.Subscript x y _] z _ => chk sc o x && chk sc ix y && chk sc e z && noComp z && noSlice y
    | _ => false
  | .subS2 o1 i1 o2 i2 e, s => match s with
    | .Assign [.Tuple [.Subscript x1 y1 _, .Subscript x2 y2 _] _ _] (.Tuple [u, v] k p) _ => chk sc o1 x1 && chk sc i1 y1 && chk sc o2 x2 && chk sc i2 y2 && chk sc e (.Tuple [u, v] k p) && noSlice y1 && noSlice y2
    | _ => false
  | .appO i e, s => match s with
    | .Expr (.Call (.Attribute (.Name x _) m ap) [y] [] cp) _ => decide (m = "append") && varOk sc i x && chk sc e y && noStar y && (ap.endLine == cp.line)
    | _ => false
  | .appS o e, s => match s with
    | .Expr (.Call (.Attribute x m ap) [y] [] cp) _ => decide (m = "append") && chk sc o x && chk sc e y && noStar y && noSup x && (ap.endLine == cp.line)
    | _ => false
  | .updO i e, s => match s with
    | .Expr (.Call (.Attribute (.Name x _) m ap) [y] [] cp) _ => decide (m = "update") && varOk sc i x && chk sc e y && noStar y && (ap.endLine == cp.line)
    | _ => false
  | .ret e, s => match s with
    | .Return (some x) _ => chk sc e x
    | _ => false
  | .retO i, s => match s with
    | .Return (some (.Name x _)) _ => varOk sc i x
    | _ => false
  | .retN, s => match s with
    | .Return none _ => true
    | _ => false
  | .ite t a b, s => match s with
    | .If x p q _ => chk sc t x && noIf x && chkSs sc a p && chkSs sc b q
    | _ => false
  | .for_ tg it body, s => match s with
    | .For t i b [] _ => chkG sc tg t && chkI sc it i (match t with | .Tuple _ _ _ => true | _ => false) && noSet i && chkSs sc body b
    | _ => false
  | .while_ t body, s => match s with
    | .While x b [] _ => chk sc t x && noIf x && chkSs sc body b
    | _ => false
  | .pass, s => match s with
    | .Pass _ => true
    | _ => false
  | .raise _ _, _ => true
def chkSs (sc : SC) : List CS → List Stmt → Bool
  | [], [] => true
  | a :: as, s :: ss => chkS sc a s && chkSs sc as ss
  | _, _ => false
end
section
variable {CX : CXT} {c : Calls} {X : Cx} {sc : SC}
theorem _root_.L2.PS.wk {X : Cx} {s : Stmt} {t t' : TS} (h : PS X s t) (f : ∀ D σ H, t' D σ H → t D σ H) : PS X s t' := ⟨fun pins s σ H D I q => h.run pins s σ H D I (f D σ H q)⟩
theorem _root_.L2.PSs.wk {X : Cx} {s : List Stmt} {t t' : TS} (h : PSs X s t) (f : ∀ D σ H, t' D σ H → t D σ H) : PSs X s t' := ⟨fun pins s σ H D I q => h.run pins s σ H D I (f D σ H q)⟩
theorem no_swap {e : Expr} {t : Option Expr} {l : Nat} {env : PySem.Env} (h : noComp e = true) : swapsWith e t l env = pure false := by
  cases e <;> first | rfl | simp [noComp] at h
theorem fn_kind (F : Fits X CX sc c) (h : isFn sc = true) : X.env.scope.kind = .function := by
  unfold isFn at h
  rw [F.scope]
  split at h
  · assumption
  · cases h
theorem blk_kind {env : PySem.Env} (h : env.scope.kind = .function) : env.blockKind = .function := by
  unfold Env.blockKind
  rw [h]
  rfl
theorem sw_lc (F : Fits X CX sc c) (hf : isFn sc = true) {x : Str} {px p : Pos} {l : Nat} {elt : Expr} {gs : List Comprehension} {scope : Scope} :
    swapsWith (.ListComp elt gs scope p) (some (.Name x px)) l X.env = pure (swB sc x px scope.names p) := by
  have hb := blk_kind (fn_kind F hf)
  show (pure (X.env.blockKind == .function && X.env.kindOf x == some .local && px.line == p.line && !(scope.names.any fun (n, k) => n == x && (k == .local || k == .cell))) : Sem Bool) = _
  rw [hb]
  unfold swB isLoc Env.kindOf
  rw [F.scope]
  simp
theorem sw_none {ts : List Expr} {e : Expr} {env : PySem.Env} (h : notTup e = true) : swappedStores ts e env = pure none := by
  cases e <;> first | (simp [notTup] at h; done) | (unfold swappedStores; cases ts with | nil => rfl | cons t ts => cases ts <;> cases t <;> rfl)
theorem sw_none1 {t e : Expr} {env : PySem.Env} (h : notTup t = true) (h2 : ∀ ts p, t ≠ .List ts p) : swappedStores [t] e env = pure none := by
  unfold swappedStores
  cases t <;> first | (simp [notTup] at h; done) | rfl | exact absurd rfl (h2 _ _)
theorem star_no {e : Expr} (h : noStar e = true) : (match e with | .Starred _ _ => true | _ => false) = false := by
  cases e <;> first | rfl | (simp [noStar] at h; done)
theorem sw_two {x y : Str} {px py pt : Pos} {kt k2 : Nat} {pt2 : Pos} {u v : Expr} {env : PySem.Env} (hb : env.blockKind = .function) (hx : env.kindOf x = some .local) (hy : env.kindOf y = some .local) (hl : (py.line == px.line) = true) (hne : x ≠ y)
    (hu : noStar u = true) (hv : noStar v = true) (h1 : (foldedForSure 8 u && foldedForSure 8 v) = false) (h2 : (constantsAlone 8 u && constantsAlone 8 v) = false) :
    swappedStores [.Tuple [.Name x px, .Name y py] kt pt] (.Tuple [u, v] k2 pt2) env = pure (some [x, y]) := by
  have hl' : py.line = px.line := by simpa using hl
  have hd : ([x, y] : List Str).eraseDups = [x, y] := by
    rw [List.eraseDups_cons]
    simp [Ne.symm hne, List.eraseDups_cons]
  unfold swappedStores
  simp [hb, hx, hy, h1, h2, Expr.pos, hl', hd, List.filterMap_cons, List.filterMap_nil]
  rintro (z | z)
  · cases u <;> first | (simp [noStar] at hu; done) | cases z
  · cases v <;> first | (simp [noStar] at hv; done) | cases z
end
end Mp
set_option Elab.async false
set_option linter.all false
set_option maxRecDepth 100000
set_option maxHeartbeats 16000000
/-! the check of statements is sound -/
namespace Mp
open PySem PySem.Spec PyProof.Rows L2
section
variable {CX : CXT} {c : Calls}
theorem loc_of {X : Cx} {sc : SC} (F : Fits X CX sc c) {x : Str} (h : isLoc sc x = true) : X.env.scope.names.lookup x = some .local := by
  rw [F.scope]
  unfold isLoc at h
  exact eq_of_beq h
theorem asg_ok {X : Cx} {sc : SC} (F : Fits X CX sc c) {i : Nat} {x : Str} {px pos : Pos} {e : CE} {y : Expr} (h1 : locOk sc i x = true) (h2 : isFn sc = true) (h3 : chk sc e y = true)
    (h4 : (noComp y || isLc e y) = true) : PS X (.Assign [.Name x px] y pos) (tAsg (tE X.K X.w c e) (gName i)) := by
  obtain ⟨l1, l2, l3⟩ := F.loc h1
  have q := chk_ok e F h3
  by_cases hn : noComp y = true
  · exact ps_set F.nd l1 l2 q.1 (no_swap hn) l3
  · have hn : noComp y = false := by simpa using hn
    rw [hn, Bool.false_or] at h4
    unfold isLc at h4
    split at h4
    · rename_i elt tg it ifs vs elt' gs scope p _
      cases hb : swB sc x px scope.names p with
      | false => exact ps_set F.nd l1 l2 q.1 ((sw_lc F h2).trans (by rw [hb])) l3
      | true =>
        have hloc : X.env.scope.names.lookup x = some .local := by
          unfold swB at hb
          exact loc_of F (and2 (and2 hb).1).1
        unfold chk at h3
        split at h3
        · rename_i e1 x' t i' n scope' pos' e2
          cases e2
          obtain ⟨h, h7⟩ := and2 h3
          obtain ⟨h, h6⟩ := and2 h
          obtain ⟨h, h5⟩ := and2 h
          obtain ⟨h, q4⟩ := and2 h
          obtain ⟨h, q3⟩ := and2 h
          obtain ⟨h1, h2'⟩ := and2 h
          obtain rfl := of_decide_eq_true h1
          have hv : ∀ i ∈ tg.ixs, i ∈ vs := fun i hi => by simpa using List.all_eq_true.mp q3 i hi
          have hi := chkI_ok it F h6 t (fun q => by
            split at q
            · exact ⟨_, _, _, rfl⟩
            · cases q)
          refine (ps_setLc (own := ownOf sc vs) (te := tE X.K X.w c elt) (g := gT X.K tg) F.calm F.nd l1 hloc ((sw_lc F h2).trans (by rw [hb])) hi (blkOk_by (by rw [F.N, F.scope]; exact q4)) (fun s H C cl fp => (F.blk s H C cl fp).pg h5) (fun s H C cl fp => pts_nil) (fun s H C cl fp => (chk_ok elt (F.blk s H C cl fp) h7).1) (noset h2')).wk fun D σ H q => ?_
          rw [own_ixs]
          exact i_lc (ifs := none) hv q
        · rename_i e1 u x' t i' y' n scope' pos' e2
          cases e2
          obtain ⟨h, h9⟩ := and2 h3
          obtain ⟨h, h8⟩ := and2 h
          obtain ⟨h, h7⟩ := and2 h
          obtain ⟨h, h6⟩ := and2 h
          obtain ⟨h, h5⟩ := and2 h
          obtain ⟨h, q4⟩ := and2 h
          obtain ⟨h, q3⟩ := and2 h
          obtain ⟨h1, h2'⟩ := and2 h
          obtain rfl := of_decide_eq_true h1
          have hv : ∀ i ∈ tg.ixs, i ∈ vs := fun i hi => by simpa using List.all_eq_true.mp q3 i hi
          have hi := chkI_ok it F h6 t (fun q => by
            split at q
            · exact ⟨_, _, _, rfl⟩
            · cases q)
          refine (ps_setLc (own := ownOf sc vs) (te := tE X.K X.w c elt) (g := gT X.K tg) (tt := tB (tE X.K X.w c u)) F.calm F.nd l1 hloc ((sw_lc F h2).trans (by rw [hb])) hi (blkOk_by (by rw [F.N, F.scope]; exact q4)) (fun s H C cl fp => (F.blk s H C cl fp).pg h5) (fun s H C cl fp => pts_one ((chk_ok u (F.blk s H C cl fp) h8).2 h9)) (fun s H C cl fp => (chk_ok elt (F.blk s H C cl fp) h7).1) (noset h2')).wk fun D σ H q => ?_
          rw [own_ixs]
          exact i_lc (ifs := some u) hv q
        · cases h3
    · cases h4
theorem sub_ha {o i : Expr} {p : Pos} {env : PySem.Env} (h : noSlice i = true) : ∀ v, assign (.Subscript o i p) env v = (do
      let ov ← holding [v] (eval o env)
      let iv ← holding [v, ov] (eval i env)
      standAt p
      holding [v, ov, iv] (setItem ov iv v)
      release [v, ov, iv] []) := by
  intro v
  cases i <;> first | rfl | (simp [noSlice] at h; done)
theorem var_of {X : Cx} {sc : SC} (F : Fits X CX sc c) {i : Nat} {x : Str} {p : Pos} (h : varOk sc i x = true) : PE X (.Name x p) (tVar i) := by
  unfold varOk at h
  obtain ⟨h, h4⟩ := and2 h
  obtain ⟨h, h3⟩ := and2 h
  obtain ⟨h1, h2⟩ := and2 h
  exact pe_var (by rw [F.N]; exact of_decide_eq_true h1) (F.vis h2) (by simpa using h3) (by simpa using h4)
theorem few1 {cp : Pos} {e : Expr} {env : PySem.Env} (h : noStar e = true) : ((backTo cp (starEach [e] env)).all (fun x => !x.1) && (backToKw cp (keywordEach [] env)).all (fun x => x.1.isSome)
      && decide (([e] : List Expr).length + ([] : List Keyword).length + (if ([] : List Keyword).isEmpty then 0 else 1) < 30)) = true := by
  rw [starE h]
  rfl
theorem no_swap1 {t e : Expr} {l : Nat} {env : PySem.Env} (h : noComp e = true) : swapsWithSole [t] e l env = pure false := no_swap h
theorem notb {b : Bool} (h : (!b) = true) : b = false := by
  cases b with
  | false => rfl
  | true => cases h
theorem sub_none {o i e : Expr} {p : Pos} {env : PySem.Env} : swappedStores [.Subscript o i p] e env = pure none := sw_none1 rfl (fun _ _ z => by cases z)
mutual
theorem chkS_ok : ∀ (cs : CS) {s : Stmt} {X : Cx} {sc : SC}, X.xe = (fun _ _ => False) → Fits X CX sc c → chkS sc cs s = true → PS X s (tS X.K X.w c cs)
  | .expr e, s, X, sc, hx, F, h => by
    unfold chkS at h
    split at h
    · obtain ⟨h1, h2⟩ := and2 h
      exact (ps_expr (chk_ok e F h1).1 (no_swap h2)).wk fun _ _ _ q => s_expr q
    · cases h
  | .asg i e, s, X, sc, hx, F, h => by
    unfold chkS at h
    split at h
    · obtain ⟨h, h4⟩ := and2 h
      obtain ⟨h, h3⟩ := and2 h
      obtain ⟨h1, h2⟩ := and2 h
      exact (asg_ok F h1 h2 h3 h4).wk fun _ _ _ q => s_asg q
    · cases h
  | .asgO i e, s, X, sc, hx, F, h => by
    unfold chkS at h
    split at h
    · obtain ⟨h, h4⟩ := and2 h
      obtain ⟨h, h3⟩ := and2 h
      obtain ⟨h1, h2⟩ := and2 h
      exact (asg_ok F h1 h2 h3 h4).wk fun _ _ _ q => s_asgO q
    · cases h
  | .asgT is e, s, X, sc, hx, F, h => by
    unfold chkS at h
    split at h
    · obtain ⟨h, h4⟩ := and2 h
      obtain ⟨h, h3⟩ := and2 h
      obtain ⟨h1, h2⟩ := and2 h
      exact (ps_asg (chk_ok e F h2).1 (F.pg h1) (no_swap1 h3) (sw_none h4) rfl).wk fun _ _ _ q => s_asgT q
    · cases h
  | .par2 i j a b, s, X, sc, hx, F, h => by
    unfold chkS at h
    split at h
    · rename_i x px y py kt pt u v k2 pt2 pos
      obtain ⟨h, h14⟩ := and2 h
      obtain ⟨h, h13⟩ := and2 h
      obtain ⟨h, h12⟩ := and2 h
      obtain ⟨h, h11⟩ := and2 h
      obtain ⟨h, h10⟩ := and2 h
      obtain ⟨h, h9⟩ := and2 h
      obtain ⟨h, h8⟩ := and2 h
      obtain ⟨h, h7⟩ := and2 h
      obtain ⟨h, h6⟩ := and2 h
      obtain ⟨h, h5⟩ := and2 h
      obtain ⟨h, h4⟩ := and2 h
      obtain ⟨h, h3⟩ := and2 h
      obtain ⟨h1, h2⟩ := and2 h
      have lx := loc_of F h4
      have ly := loc_of F h5
      refine (ps_par F.calm F.nd (by rw [F.N]; exact of_decide_eq_true h1) (by rw [F.N]; exact of_decide_eq_true h2) (of_decide_eq_true h3) lx ly
        ((pa_cons (chk_ok a F h13).1 (pa_cons (chk_ok b F h14).1 (pa_nil.wk fun _ _ _ q => i_nil (K := X.K) (w := X.w) (c := c) q) (starE h10)) (starE h9)).wk (t' := tA X.K X.w c [a, b]) fun σ H Q q => tE_mono (i_cons q) fun v H q => i_cons q)
        (sw_two (blk_kind (fn_kind F h6)) lx ly h7 (of_decide_eq_true h8) h9 h10 (notb h11) (notb h12)) rfl).wk fun _ _ _ q => s_par2 q
    · cases h
  | .par3 _ _ _ _ _ _, s, X, sc, hx, F, h => by unfold chkS at h; cases h
  | .subO i ix e, s, X, sc, hx, F, h => by
    unfold chkS at h
    split at h
    · obtain ⟨h, h5⟩ := and2 h
      obtain ⟨h, h4⟩ := and2 h
      obtain ⟨h, h3⟩ := and2 h
      obtain ⟨h1, h2⟩ := and2 h
      exact (ps_asg (chk_ok e F h3).1 (pg_sub (var_of F h1) (chk_ok ix F h2).1 (set_any (by have := F.units; omega)) (sub_ha h5)) (no_swap1 h4) sub_none rfl).wk fun _ _ _ q => s_subO q
    · cases h
  | .subS o ix e, s, X, sc, hx, F, h => by
    unfold chkS at h
    split at h
    · obtain ⟨h, h5⟩ := and2 h
      obtain ⟨h, h4⟩ := and2 h
      obtain ⟨h, h3⟩ := and2 h
      obtain ⟨h1, h2⟩ := and2 h
      exact (ps_asg (chk_ok e F h3).1 (pg_sub (chk_ok o F h1).1 (chk_ok ix F h2).1 (set_any (by have := F.units; omega)) (sub_ha h5)) (no_swap1 h4) sub_none rfl).wk fun _ _ _ q => s_subS q
    · cases h
  | .subS2 o1 i1 o2 i2 e, s, X, sc, hx, F, h => by
    unfold chkS at h
    split at h
    · obtain ⟨h, h7⟩ := and2 h
      obtain ⟨h, h6⟩ := and2 h
      obtain ⟨h, h5⟩ := and2 h
      obtain ⟨h, h4⟩ := and2 h
      obtain ⟨h, h3⟩ := and2 h
      obtain ⟨h1, h2⟩ := and2 h
      have u := F.units
      exact (ps_asg (chk_ok e F h5).1 (pg_tup F.calm (pgs_cons (pg_sub (chk_ok o1 F h1).1 (chk_ok i1 F h2).1 (set_any (by omega)) (sub_ha h6)) (pgs_cons (pg_sub (chk_ok o2 F h3).1 (chk_ok i2 F h4).1 (set_any (by omega)) (sub_ha h7)) pgs_nil))) (no_swap1 rfl) sw_sub2 rfl).wk fun _ _ _ q => s_subS2 q
    · cases h
  | .appO i e, s, X, sc, hx, F, h => by
    unfold chkS at h
    split at h
    · obtain ⟨h, h5⟩ := and2 h
      obtain ⟨h, h4⟩ := and2 h
      obtain ⟨h, h3⟩ := and2 h
      obtain ⟨h1, h2⟩ := and2 h
      obtain rfl := of_decide_eq_true h1
      exact (ps_expr (pe_bm PySem.F.plainAttrs_list slot_list_append type_list_append mt_append (var_of F h2) (pa_cons (chk_ok e F h3).1 pa_nil (starE h4)) (nosup rfl) (few1 h4) h5 (starE h4) rfl) rfl).wk fun _ _ _ q => s_appO q
    · cases h
  | .appS o e, s, X, sc, hx, F, h => by
    unfold chkS at h
    split at h
    · obtain ⟨h, h6⟩ := and2 h
      obtain ⟨h, h5⟩ := and2 h
      obtain ⟨h, h4⟩ := and2 h
      obtain ⟨h, h3⟩ := and2 h
      obtain ⟨h1, h2⟩ := and2 h
      obtain rfl := of_decide_eq_true h1
      exact (ps_expr (pe_bm PySem.F.plainAttrs_list slot_list_append type_list_append mt_append (chk_ok o F h2).1 (pa_cons (chk_ok e F h3).1 pa_nil (starE h4)) (nosup h5) (few1 h4) h6 (starE h4) rfl) rfl).wk fun _ _ _ q => s_appS q
    · cases h
  | .updO i e, s, X, sc, hx, F, h => by
    unfold chkS at h
    split at h
    · obtain ⟨h, h5⟩ := and2 h
      obtain ⟨h, h4⟩ := and2 h
      obtain ⟨h, h3⟩ := and2 h
      obtain ⟨h1, h2⟩ := and2 h
      obtain rfl := of_decide_eq_true h1
      exact (ps_expr (pe_upd (var_of F h2) (pa_cons (chk_ok e F h3).1 pa_nil (starE h4)) (nosup rfl) (few1 h4) h5 (starE h4)) rfl).wk fun _ _ _ q => s_updO q
    · cases h
  | .ret e, s, X, sc, hx, F, h => by
    unfold chkS at h
    split at h
    · exact (ps_ret (chk_ok e F h).1).wk fun _ _ _ q => s_ret q
    · cases h
  | .retO i, s, X, sc, hx, F, h => by
    unfold chkS at h
    split at h
    · exact (ps_ret (var_of F h)).wk fun _ _ _ q => s_retO q
    · cases h
  | .retN, s, X, sc, hx, F, h => by
    unfold chkS at h
    split at h
    · exact ps_retN.wk fun _ _ _ q => s_retN q
    · cases h
  | .ite t a b, s, X, sc, hx, F, h => by
    unfold chkS at h
    split at h
    · obtain ⟨h, h4⟩ := and2 h
      obtain ⟨h, h3⟩ := and2 h
      obtain ⟨h1, h2⟩ := and2 h
      exact (ps_if ((chk_ok t F h1).2 h2) (chkSs_ok a hx F h3) (chkSs_ok b hx F h4)).wk fun _ _ _ q => s_ite q
    · cases h
  | .for_ tg it body, s, X, sc, hx, F, h => by
    unfold chkS at h
    split at h
    · rename_i t i b pos
      obtain ⟨h, h4⟩ := and2 h
      obtain ⟨h, h3⟩ := and2 h
      obtain ⟨h1, h2⟩ := and2 h
      have hi := chkI_ok it F h2 t (fun q => by
        split at q
        · exact ⟨_, _, _, rfl⟩
        · cases q)
      exact (ps_for (by rw [hx]; exact PassesOwn.never) F.calm hi (F.pg h1) (chkSs_ok body hx F h4) (noset h3)).wk fun _ _ _ q => s_for q
    · cases h
  | .while_ t body, s, X, sc, hx, F, h => by
    unfold chkS at h
    split at h
    · obtain ⟨h, h3⟩ := and2 h
      obtain ⟨h1, h2⟩ := and2 h
      exact (ps_while (by rw [hx]; exact PassesOwn.never) ((chk_ok t F h1).2 h2) (chkSs_ok body hx F h3)).wk fun _ _ _ q => s_while q
    · cases h
  | .pass, s, X, sc, hx, F, h => by
    unfold chkS at h
    split at h
    · exact ps_pass.wk fun _ _ _ q => s_pass q
    · cases h
  | .raise _ _, s, X, sc, hx, F, h => ps_never.wk fun _ _ _ q => (s_raise q).elim
theorem chkSs_ok : ∀ (cs : List CS) {s : List Stmt} {X : Cx} {sc : SC}, X.xe = (fun _ _ => False) → Fits X CX sc c → chkSs sc cs s = true → PSs X s (tSs X.K X.w c cs)
  | [], s, X, sc, hx, F, h => by
    cases s with
    | nil => exact pss_nil.wk fun _ _ _ q => s_nil q
    | cons _ _ => simp [chkSs] at h
  | a :: as, s, X, sc, hx, F, h => by
    cases s with
    | nil => simp [chkSs] at h
    | cons s ss =>
      unfold chkSs at h
      obtain ⟨h1, h2⟩ := and2 h
      exact (pss_cons (chkS_ok a hx F h1) (chkSs_ok as hx F h2)).wk fun _ _ _ q => s_cons q
end
end
end Mp
set_option Elab.async false
set_option linter.all false
set_option maxRecDepth 100000
set_option maxHeartbeats 8000000
/-! a system of defs keeps the evaluator's promise, at every depth -/
namespace Mp
open PySem PySem.Spec PyProof.Rows L2

/-- a def of the text: its name, its statement, its names (the parameters first), its parameters -/
structure DefT where
  x : Str
  st : Stmt
  N : List Str
  ps : List Str
  deriving Inhabited
/-- defs: in the order of their numbers -/
structure Sys where
  T : List FD
  ds : List (Nat × DefT)
  glb : List (Str × D)
def Sys.fns (Y : Sys) : List (Str × Nat) := Y.ds.map fun p => (p.2.x, p.1)
def Sys.sc (Y : Sys) (d : DefT) : SC := ⟨d.N, L2.defScope d.st, none, Y.glb, Y.fns⟩
/-- what is seen of one def's text -/
def defOk (Y : Sys) (d : DefT) (f : FD) : Bool :=
  (match (L2.defScope d.st).kind with | .function => true | _ => false) && !(L2.defScope d.st).isCoroutine && !(L2.defScope d.st).isGenerator && decide d.N.Nodup && decide (d.N.take d.ps.length = d.ps) &&
  (d.ps.all fun x => match (L2.defScope d.st).names.lookup x with | some .local => true | some .cell => true | _ => false) &&
  ((L2.defScope d.st).names.all fun y => match y.2 with | .free => false | _ => true) &&
  decide (f.nn = d.N.length) && decide (f.np = d.ps.length) && chkSs (Y.sc d) f.body (L2.defBody d.st)
theorem defOk_scope {Y : Sys} {d : DefT} {f : FD} (h : defOk Y d f = true) : FnScope d.N d.ps (L2.defScope d.st) ∧ f.nn = d.N.length ∧ f.np = d.ps.length ∧ chkSs (Y.sc d) f.body (L2.defBody d.st) = true := by
  unfold defOk at h
  obtain ⟨h, h10⟩ := and2 h
  obtain ⟨h, h9⟩ := and2 h
  obtain ⟨h, h8⟩ := and2 h
  obtain ⟨h, h7⟩ := and2 h
  obtain ⟨h, h6⟩ := and2 h
  obtain ⟨h, h5⟩ := and2 h
  obtain ⟨h, h4⟩ := and2 h
  obtain ⟨h, h3⟩ := and2 h
  obtain ⟨h1, h2⟩ := and2 h
  refine ⟨⟨?_, notb h2, notb h3, of_decide_eq_true h4, of_decide_eq_true h5, fun x hx => ?_, fun y hy => ?_⟩, of_decide_eq_true h8, of_decide_eq_true h9, h10⟩
  · split at h1
    · assumption
    · cases h1
  · have q := List.all_eq_true.mp h6 x hx
    split at q
    · rename_i e; exact .inl e
    · rename_i e; exact .inr e
    · cases q
  · have q := List.all_eq_true.mp h7 y hy
    intro e
    rw [e] at q
    cases q

section
variable {P : Program} {w : World} {K : W.Frag} {mg : Str → Option Value} {base : Heap}
/-- what the head gives for a def -/
structure Have (K : W.Frag) (mg : Str → Option Value) (d : DefT) (f : Addr) (fd : FuncData) : Prop where
  mg : mg d.x = some (.ref f)
  fn : L2.Fun K d.x d.x d.st f fd
  bd : Binds K fd d.ps []
theorem fns_at {Y : Sys} {x : Str} {i : Nat} (h : Y.fns.lookup x = some i) : ∃ d, (i, d) ∈ Y.ds ∧ d.x = x := by
  have h := PySem.mem_of_lookup h
  unfold Sys.fns at h
  obtain ⟨p, hp, e⟩ := List.mem_map.mp h
  obtain ⟨j, d⟩ := p
  cases e
  exact ⟨d, hp, rfl⟩
theorem callN_zero (T : List FD) (i : Nat) (ds : List D) (S : Sto) : callN T 0 i ds S = .bad := rfl
theorem callN_succ (T : List FD) (n i : Nat) (ds : List D) (S : Sto) : callN T (n + 1) i ds S = (match T[i]? with | some d => runF (callN T n) d ds S | none => .bad) := rfl
theorem envR_start {g : Gh} {ds : List D} {vs : List V} (r : Reps K w g ds vs) (n m : Nat) (h : n - ds.length = m - vs.length) : EnvR K w g g (ds.map .val ++ List.replicate (n - ds.length) .no) (vs.map some ++ List.replicate (m - vs.length) none) := by
  have hl := r.length
  have own : ∀ {i : Nat} {d : D}, (ds.map SV.val ++ List.replicate (n - ds.length) .no)[i]? = some (.own d) → False := fun {i d} e => by
    have := List.mem_of_getElem? e
    rcases List.mem_append.mp this with q | q
    · obtain ⟨x, _, z⟩ := List.mem_map.mp q; cases z
    · cases (List.mem_replicate.mp q).2
  refine ⟨by simp only [List.length_append, List.length_map, List.length_replicate]; omega, fun i s o h1 h2 => ?_, fun i j d e a h1 => (own h1).elim⟩
  by_cases hi : i < ds.length
  · rw [List.getElem?_append_left (by simpa using hi)] at h1
    rw [List.getElem?_append_left (by simpa [← hl] using hi)] at h2
    rw [List.getElem?_map] at h1 h2
    cases e : ds[i]? with
    | none => rw [e] at h1; cases h1
    | some d =>
      rw [e] at h1
      cases h1
      obtain ⟨v, hv, rv⟩ := r.get e
      rw [hv] at h2
      cases h2
      exact ⟨v, rfl, rv⟩
  · rw [List.getElem?_append_right (by simpa using hi)] at h1
    have := List.mem_of_getElem? h1
    rw [(List.mem_replicate.mp this).2]
    trivial
theorem sys_ok (Y : Sys) (hd : ∀ p ∈ Y.ds, ∃ f fd, Have K mg p.2 f fd) (hc : ∀ (i : Nat) (d : DefT), (i, d) ∈ Y.ds → ∃ f, Y.T[i]? = some f ∧ defOk Y d f = true)
    (hg : ∀ x d, Y.glb.lookup x = some d → ∃ v u, mg x = some u ∧ RelV v u ∧ ∀ g, Rep K w g d v) (hb : ∀ x ∈ bNames, mg x = none) :
    ∀ (n i : Nat) (d : DefT) (f : Addr) (fd : FuncData), (i, d) ∈ Y.ds → Have K mg d f fd → FnOk P w K mg base L2.CX0 n f fd d.ps (spF K w (callN Y.T n) i)
  | 0, i, d, f, fd, hi, h => ⟨fun vs H Q E ⟨g, S, ds, _, _, _, q⟩ => by rw [callN_zero] at q; exact q.elim, fun A outer s H args us vs Q E hr he hb hv ⟨g, S, ds, _, _, _, q⟩ => by rw [callN_zero] at q; exact q.elim⟩
  | n + 1, i, d, f, fd, hi, h => by
    obtain ⟨F, hF, hok⟩ := hc i d hi
    obtain ⟨S1, e1, e2, ck⟩ := defOk_scope hok
    have ih := sys_ok Y hd hc hg hb n
    refine h.fn.ok S1 (fun vs H Q E hq => ?_) (fun cdv A outer s H vs Q E hr hq => ?_)
    · obtain ⟨g, S, ds, _, _, r, q⟩ := hq
      rw [callN_succ, hF] at q
      have q : EvR K w g Q (runF (callN Y.T n) F ds S) := q
      unfold runF at q
      split at q
      · rename_i hl
        rw [← r.length, hl, e2]
      · exact q.elim
    · obtain ⟨g, S, ds, rfl, W, r, q⟩ := hq
      rw [callN_succ, hF] at q
      have q : EvR K w g Q (runF (callN Y.T n) F ds S) := q
      unfold runF at q
      split at q
      · rename_i hl
        refine ⟨_, chkSs_ok (CX := L2.CX0) (c := callN Y.T n) F.body rfl (sc := Y.sc d) ?_ ck, g, g, ds.map .val ++ List.replicate (F.nn - F.np) .no, S, ⟨rfl, W, After.refl g, ?_⟩, ?_⟩
        · refine ⟨rfl, S1.nd, rfl, fun _ => rfl, rfl, ?_, hg, hb, fun x j hj => ?_, fun _ _ _ _ _ z => z⟩
          · show (A.deeper _).units + 200 < cLine
            have := hr.un
            omega
          · obtain ⟨d', hd', rfl⟩ := fns_at hj
            obtain ⟨f', fd', h'⟩ := hd (j, d') hd'
            exact ⟨n, f', fd', d'.ps, h'.mg, h'.fn.kp, h'.bd, hr, ih j d' f' fd' hd' h'⟩
        · rw [← hl, e1]
          exact envR_start r _ _ (by rw [r.length])
        · cases e : execs (callN Y.T n) F.body (ds.map .val ++ List.replicate (F.nn - F.np) .no) S with
          | nx ρ' S' =>
            rw [e] at q
            exact fun g' σ' A' M' W' E' => q g' .non A' W' .non
          | rt dd S' =>
            rw [e] at q
            exact fun g' v A' W' r' => q g' v A' W' r'
          | exc _ _ _ => rw [e] at q; exact q
          | bad => rw [e] at q; exact q
      · exact q.elim
end
end Mp
set_option Elab.async false
set_option linter.all false
set_option maxRecDepth 100000
set_option maxHeartbeats 8000000
/-! the end of a law: what the head leaves, read by a Hook -/
namespace Mp
open PySem PySem.Spec PyProof.Rows L2
/-- what is seen of a module's value -/
inductive DO where
  | bad | non | bl (b : Bool) | int (i : Int) | str (z : Str) | tup (l : List DO) | dic (l : List (Int × Str × DO))
def dObs (K : W.Frag) : Nat → Value → DO
  | _, .none => .non
  | _, .bool b => .bl b
  | _, .int i _ => .int i
  | _, .str z _ => .str z
  | n + 1, .ref a => match K.lookup a with
    | some ⟨.type c, od, .seq its _, _⟩ => (match decide (c = "tuple") && decide (its.size ≤ sizeLine) with
      | true => .tup (its.toList.map (dObs K n))
      | false => .bad)
    | some ⟨.type c, none, .dict es _, sl⟩ => (match decide (c = "dict") && (sl.isEmpty && !(a == sysModules)) with
      | true => .dic (es.toList.map fun e => match e.key with
        | .str z _ => (e.hash, z, dObs K n e.val)
        | _ => (0, Str.empty, .bad))
      | false => .bad)
    | _ => .bad
  | _, _ => .bad
mutual
def dVal (P : Params) : D → DO
  | .non => .non
  | .bl b => .bl b
  | .int i => .int i
  | .str z => .str z
  | .tup xs => .tup (dVals P xs)
  | .dic ks vs => .dic (dEnts P ks vs)
  | _ => .bad
def dVals (P : Params) : List D → List DO
  | [] => []
  | x :: xs => dVal P x :: dVals P xs
def dEnts (P : Params) : List NestedKey → List D → List (Int × Str × DO)
  | k :: ks, v :: vs => (match k with
    | .text z => (PyData.keyHash P z, z, dVal P v)
    | _ => (0, Str.empty, .bad)) :: dEnts P ks vs
  | _, _ => []
end
mutual
def glOk : D → Bool
  | .non | .bl _ | .int _ | .str _ => true
  | .tup xs => glOks xs
  | .dic ks vs => ks.all isText && decide ks.Nodup && decide (ks.length ≤ 1000) && decide (vs.length = ks.length) && glOks vs
  | _ => false
def glOks : List D → Bool
  | [] => true
  | x :: xs => glOk x && glOks xs
end
section
variable {K : W.Frag} {w : World}
theorem dObs_tup {n : Nat} {v : Value} {l : List DO} (h : dObs K n v = .tup l) : ∃ m a o its k, n = m + 1 ∧ v = .ref a ∧ K.lookup a = some o ∧ o.cls = .type "tuple" ∧ o.data = .seq its k ∧ its.size ≤ sizeLine ∧ its.toList.map (dObs K m) = l := by
  cases v with
  | ref a =>
    cases n with
    | zero => cases h
    | succ m =>
      unfold dObs at h
      split at h
      · rename_i c od its k sl e
        split at h
        · rename_i hc
          obtain ⟨h1, h2⟩ := and2 hc
          obtain rfl := of_decide_eq_true h1
          exact ⟨m, a, _, its, k, rfl, rfl, e, rfl, rfl, of_decide_eq_true h2, DO.tup.inj h⟩
        · cases h
      · split at h <;> cases h
      · cases h
  | _ => cases n <;> cases h
theorem dObs_dic {n : Nat} {v : Value} {l : List (Int × Str × DO)} (h : dObs K n v = .dic l) : ∃ m a o es ep, n = m + 1 ∧ v = .ref a ∧ K.lookup a = some o ∧ o.ExactDict ∧ o.data = .dict es ep ∧ (a == sysModules) = false ∧
    es.toList.map (fun e => match e.key with
        | .str z _ => (e.hash, z, dObs K m e.val)
        | _ => (0, Str.empty, .bad)) = l := by
  cases v with
  | ref a =>
    cases n with
    | zero => cases h
    | succ m =>
      unfold dObs at h
      split at h
      · split at h <;> cases h
      · rename_i c es ep sl e
        split at h
        · rename_i hc
          obtain ⟨h1, h2⟩ := and2 hc
          obtain ⟨h2, h3⟩ := and2 h2
          obtain rfl := of_decide_eq_true h1
          obtain rfl := Array.isEmpty_iff.mp h2
          exact ⟨m, a, _, es, ep, rfl, rfl, e, ⟨rfl, rfl, rfl⟩, rfl, by simpa using h3, DO.dic.inj h⟩
        · cases h
      · cases h
  | _ => cases n <;> cases h
mutual
theorem dObs_ok : ∀ (d : D) {n : Nat} {v : Value}, glOk d = true → dObs K n v = dVal w.params d → ∃ u, RelV u v ∧ ∀ g, Rep K w g d u
  | .non, n, v, _, h => by
    simp only [dVal] at h
    cases v with
    | none => exact ⟨.non, rfl, fun g => .non⟩
    | ref a => exfalso; cases n with
      | zero => cases h
      | succ m => unfold dObs at h; split at h <;> first | cases h | (split at h <;> cases h)
    | _ => cases n <;> cases h
  | .bl b, n, v, _, h => by
    simp only [dVal] at h
    cases v with
    | bool c =>
      have : c = b := by cases n <;> exact DO.bl.inj h
      subst this
      exact ⟨.bl c, rfl, fun g => .bl c⟩
    | ref a => exfalso; cases n with
      | zero => cases h
      | succ m => unfold dObs at h; split at h <;> first | cases h | (split at h <;> cases h)
    | _ => cases n <;> cases h
  | .int i, n, v, _, h => by
    simp only [dVal] at h
    cases v with
    | int c t =>
      have : c = i := by cases n <;> exact DO.int.inj h
      subst this
      exact ⟨.int c, ⟨t, rfl⟩, fun g => .int c⟩
    | ref a => exfalso; cases n with
      | zero => cases h
      | succ m => unfold dObs at h; split at h <;> first | cases h | (split at h <;> cases h)
    | _ => cases n <;> cases h
  | .str z, n, v, _, h => by
    simp only [dVal] at h
    cases v with
    | str c t =>
      have : c = z := by cases n <;> exact DO.str.inj h
      subst this
      exact ⟨.str c, ⟨t, rfl⟩, fun g => .str c⟩
    | ref a => exfalso; cases n with
      | zero => cases h
      | succ m => unfold dObs at h; split at h <;> first | cases h | (split at h <;> cases h)
    | _ => cases n <;> cases h
  | .tup xs, n, v, g0, h => by
    simp only [dVal] at h
    simp only [glOk] at g0
    obtain ⟨m, a, o, its, k, rfl, rfl, e1, e2, e3, e4, e5⟩ := dObs_tup h
    obtain ⟨us, r1, r2⟩ := dObss_ok xs g0 e5
    exact ⟨.ref a, rfl, fun g => .tup (.inr ⟨o, its, k, e1, e2, e3, e4, r1⟩) (r2 g)⟩
  | .dic ks vs, n, v, g0, h => by
    simp only [dVal] at h
    simp only [glOk] at g0
    obtain ⟨g0, g5⟩ := and2 g0
    obtain ⟨g0, g4⟩ := and2 g0
    obtain ⟨g0, g3⟩ := and2 g0
    obtain ⟨g1, g2⟩ := and2 g0
    obtain ⟨m, a, o, es, ep, rfl, rfl, e1, e2, e3, e4, e5⟩ := dObs_dic h
    obtain ⟨zs, rfl⟩ := isText_of g1
    have hl := of_decide_eq_true g4
    rw [List.length_map] at hl
    obtain ⟨xs, us, p1, p2, p3, p4, p5⟩ := dEnts_ok vs zs g5 hl e5
    refine ⟨.ref a, rfl, fun g => .dic (es := es) (ep := ep) (xs := xs) (kvs := zs.map V.str) (vvs := us) (.inr ⟨o, e1, e2, e3⟩) ⟨p1, p2⟩ p3 p4 (texts_reps zs) (p5 g) ⟨of_decide_eq_true g2, ?_, ?_, of_decide_eq_true g4, e4⟩⟩
    · intro k hk
      obtain ⟨z, _, rfl⟩ := List.mem_map.mp hk
      exact Nat.le_of_ble_eq_true rfl
    · have := of_decide_eq_true g3
      rw [lineN]; omega
  | .lst _, n, v, g0, h => by simp [glOk] at g0
  | .ref _, n, v, g0, h => by simp [glOk] at g0
  | .cel _, n, v, g0, h => by simp [glOk] at g0
theorem dObss_ok : ∀ (xs : List D) {n : Nat} {its : List Value}, glOks xs = true → its.map (dObs K n) = dVals w.params xs → ∃ us, Vals us its ∧ ∀ g, Reps K w g xs us
  | [], n, its, _, h => by
    simp only [dVals, List.map_eq_nil_iff] at h
    subst h
    exact ⟨[], .nil, fun g => .nil⟩
  | x :: xs, n, its, g0, h => by
    simp only [dVals] at h
    simp only [glOks] at g0
    obtain ⟨g1, g2⟩ := and2 g0
    cases its with
    | nil => cases h
    | cons i its =>
      rw [List.map_cons] at h
      obtain ⟨u, r1, r2⟩ := dObs_ok x g1 (List.cons.inj h).1
      obtain ⟨us, q1, q2⟩ := dObss_ok xs g2 (List.cons.inj h).2
      exact ⟨u :: us, .cons r1 q1, fun g => .cons (r2 g) (q2 g)⟩
theorem dEnts_ok : ∀ (vs : List D) (zs : List Str) {n : Nat} {es : List DictEntry}, glOks vs = true → vs.length = zs.length → es.map (fun e => match e.key with
        | .str z _ => (e.hash, z, dObs K n e.val)
        | _ => (0, Str.empty, .bad)) = dEnts w.params (zs.map .text) vs → ∃ (xs : List KE3) (us : List V), es = xs.map (entK w) ∧ zs.map NestedKey.text = xs.map (·.1) ∧ Vals (zs.map V.str) (xs.map (·.2.1)) ∧ Vals us (xs.map (·.2.2)) ∧ ∀ g, Reps K w g vs us
  | [], [], n, es, _, _, h => by
    simp only [List.map_nil, dEnts, List.map_eq_nil_iff] at h
    subst h
    exact ⟨[], [], rfl, rfl, .nil, .nil, fun g => .nil⟩
  | [], _ :: _, n, es, _, hl, h => by cases hl
  | _ :: _, [], n, es, _, hl, h => by cases hl
  | v :: vs, z :: zs, n, es, g0, hl, h => by
    simp only [List.map_cons, dEnts] at h
    simp only [glOks] at g0
    obtain ⟨g1, g2⟩ := and2 g0
    cases es with
    | nil => cases h
    | cons e es =>
      rw [List.map_cons] at h
      obtain ⟨h1, h2⟩ := List.cons.inj h
      obtain ⟨xs, us, p1, p2, p3, p4, p5⟩ := dEnts_ok vs zs g2 (by simpa using hl) h2
      obtain ⟨eh, ek, ev⟩ := e
      cases ek with
      | str y t =>
        obtain ⟨q1, q2⟩ := Prod.mk.inj (show (eh, y, dObs K n ev) = (PyData.keyHash w.params z, z, dVal w.params v) from h1)
        obtain ⟨q2, q3⟩ := Prod.mk.inj q2
        subst q1
        subst q2
        obtain ⟨u, r1, r2⟩ := dObs_ok v g1 q3
        refine ⟨(.text y, .str y t, ev) :: xs, u :: us, by rw [List.map_cons, ← p1]; rfl, by rw [List.map_cons, List.map_cons, p2], .cons ⟨t, rfl⟩ p3, .cons r1 p4, fun g => .cons (r2 g) (p5 g)⟩
      | _ =>
        exfalso
        have h1 : ((0 : Int), Str.empty, DO.bad) = (PyData.keyHash w.params z, z, dVal w.params v) := h1
        have q3 := (Prod.mk.inj (Prod.mk.inj h1).2).2
        have : ∀ d : D, glOk d = true → DO.bad ≠ dVal w.params d := fun d => by cases d <;> simp [glOk, dVal]
        exact this v g1 q3
end
end
/-! ### the Hook -/
abbrev AlM : Type := He.AlD × List DO
def gObs (K : W.Frag) (x : Str) : DO := match W.nsIn K mainGlobals x with
  | some (some v) => dObs K 8 v
  | _ => .bad
def obsM (fa : List He.Fa) (fn : List He.DefD) (gl : List (Str × D)) (K : W.Frag) : AlM := (He.obsD fa fn K, gl.map fun p => gObs K p.1)
def valM (fn : List He.DefD) (gl : List (Str × D)) (w : World) : AlM := (He.valD fn, gl.map fun p => dVal w.params p.2)
def obsMG (n : Nat) (fa : List He.Fa) (fn : List He.DefD) (gl : List (Str × D)) (f : Addr → Option Obj) : AlM := obsM fa fn gl (He.frG f (He.asD f n))
def hookM (n : Nat) (fa : List He.Fa) (fn : List He.DefD) (gl : List (Str × D)) : W.Hook where
  α := AlM
  obs := fun s => obsMG n fa fn gl s.heap.get?
  val := fun w => valM fn gl w
  says := fun w h => ∃ K : W.Frag, K.In h ∧ obsM fa fn gl K = valM fn gl w
  of := fun _ _ e => ⟨_, He.frG_in, e⟩
  keeps := fun _ _ _ ⟨K, hK, c⟩ k => ⟨K, W.Frag.In.keeps hK k, c⟩
theorem obsMG_eq {n : Nat} {fa : List He.Fa} {fn : List He.DefD} {gl : List (Str × D)} {f : Addr → Option Obj} {s : Shared} (h : ∀ a, f a = s.heap.get? a) : obsMG n fa fn gl f = (hookM n fa fn gl).obs s := by
  have e : f = s.heap.get? := funext h
  rw [e] <;> rfl
/-- what a law's def is asked for, as the head wants it -/
def defD (d : DefT) : He.DefD := ⟨(d.x, none), d.x, d.x, defArgs d.st, L2.defBody d.st, L2.defScope d.st, [], []⟩
def faOf (Y : Sys) : List He.Fa := Y.ds.map (fun p => He.Fa.glo p.2.x) ++ bNames.map .free
def fnOf (Y : Sys) : List He.DefD := Y.ds.map fun p => defD p.2
/-- the arguments come to the parameters -/
def BindOk (d : DefT) : Prop := ∀ (kV doc pm : Value) (an : Option Addr) (cdv ct : Value) (us : List Value), us.length = d.ps.length → bindArgs (W.fnOf d.x d.x (defArgs d.st) (L2.defBody d.st) (L2.defScope d.st) .none kV doc pm an cdv ct) ⟨us, []⟩ = pure (d.ps.zip us)
theorem funD_fun {K : W.Frag} {x : Str} {st : Stmt} {f : Addr} {fd : FuncData} (F : FunD K x x (defArgs st) (L2.defBody st) (L2.defScope st) [] [] f fd) : L2.Fun K x x st f fd := by
  obtain ⟨⟨oc, od, dV, kV, doc, pm, an, cdv, ct, osl, rfl, lk, hcd, hD, _⟩, kp⟩ := F
  rcases hD with ⟨_, rfl⟩ | ⟨h, _⟩
  · exact ⟨⟨oc, od, kV, doc, pm, an, cdv, ct, osl, rfl, lk, hcd⟩, kp⟩
  · exact absurd rfl h
section
variable {K : W.Frag} {w : World} {h : Heap} {mg : Str → Option Value}
theorem head_have {Y : Sys} (c : obsM (faOf Y) (fnOf Y) Y.glb K = valM (fnOf Y) Y.glb w) (X : K.In h) (G : h.Ns mainGlobals mg) (hB : ∀ p ∈ Y.ds, BindOk p.2) :
    (∀ p ∈ Y.ds, ∃ f fd, Have K mg p.2 f fd) ∧ ∀ x ∈ bNames, mg x = none := by
  have cd : He.SaysD (faOf Y) (fnOf Y) K := congrArg (fun z : AlM => z.1) c
  constructor
  · intro p hp
    obtain ⟨i, hi, e⟩ := List.getElem_of_mem hp
    have e1 : (fnOf Y)[i]? = some (defD p.2) := by
      unfold fnOf
      rw [List.getElem?_map, List.getElem?_eq_getElem hi, e]
      rfl
    have e2 : (faOf Y)[i]? = some (He.Fa.glo p.2.x) := by
      unfold faOf
      rw [List.getElem?_append_left (by simpa using hi), List.getElem?_map, List.getElem?_eq_getElem hi, e]
      rfl
    obtain ⟨fd, F⟩ := cd.def_ i e1
    have gl := He.glo_ok X G (cd.fact i e2)
    have F2 : FunD K p.2.x p.2.x (defArgs p.2.st) (L2.defBody p.2.st) (L2.defScope p.2.st) [] [] (He.ga K p.2.x) fd := F
    exact ⟨He.ga K p.2.x, fd, gl, funD_fun F2, F2.bindsN (hB p hp)⟩
  · intro x hx
    obtain ⟨i, hi, e⟩ := List.getElem_of_mem hx
    refine He.free_ok X G (cd.fact (Y.ds.length + i) (f := .free x) ?_)
    unfold faOf
    rw [List.getElem?_append_right (by simp), List.length_map, Nat.add_sub_cancel_left, List.getElem?_map, List.getElem?_eq_getElem hi, e]
    rfl
theorem head_glb {Y : Sys} (c : obsM (faOf Y) (fnOf Y) Y.glb K = valM (fnOf Y) Y.glb w) (X : K.In h) (G : h.Ns mainGlobals mg) (hg : ∀ p ∈ Y.glb, glOk p.2 = true) :
    ∀ x d, Y.glb.lookup x = some d → ∃ v u, mg x = some u ∧ RelV v u ∧ ∀ g, Rep K w g d v := by
  intro x d hx
  have hm := PySem.mem_of_lookup hx
  have e : Y.glb.map (fun p => gObs K p.1) = Y.glb.map fun p => dVal w.params p.2 := congrArg (fun z : AlM => z.2) c
  have e2 := List.map_inj_left.mp e (x, d) hm
  have ok := hg (x, d) hm
  have e2 : gObs K x = dVal w.params d := e2
  unfold gObs at e2
  split at e2
  · rename_i v hv
    obtain ⟨u, r1, r2⟩ := dObs_ok d ok e2
    exact ⟨u, v, W.mg_of X G hv, r1, r2⟩
  · exfalso
    have : ∀ d : D, glOk d = true → DO.bad ≠ dVal w.params d := fun d => by cases d <;> simp [glOk, dVal]
    exact this d ok e2
/-- the law's own arguments: a list of numbers that is only read -/
theorem law_start {Y : Sys} {n j : Nat} {H : Hp} {a : Addr} {ns : List Int} (hO : Only H) (hS : SqL K H a (ns.map V.int)) (hl : ∃ S, callN Y.T n j [.cel (ns.map D.int)] [] = .ok (.bl true) S) :
    spF K w (callN Y.T n) j [.ref a] H (fun v _ => v = .bl true) fun _ _ _ => False := by
  have reps : ∀ (g : Gh) (l : List Int), Reps K w g (l.map D.int) (l.map V.int) := fun g l => by
    induction l with
    | nil => exact .nil
    | cons i l ih => exact .cons (.int i) ih
  obtain ⟨S, hS2⟩ := hl
  refine ⟨⟨fun b => b = a ∧ H b ≠ none, fun _ => 0, 0, H, fun _ => 0⟩, [], [.cel (ns.map D.int)], rfl, ⟨rfl, fun b hb => hb.2, fun n c o h => by simp at h, fun n c o h => by simp at h, fun n m h => absurd h (Nat.not_lt_zero _)⟩, .cons ?_ .nil, ?_⟩
  · rcases hS with hS | hS
    · refine .cel (.inl ⟨?_, rfl, ?_⟩) (reps _ ns)
      · show ∃ o, H a = some (.frz o (.lst (ns.map V.int)))
        rcases hS with hS | ⟨o, hS⟩
        · rcases hO a with z | ⟨o, xs, z⟩
          · rw [z] at hS; cases hS
          · rw [z] at hS; cases hS
        · exact ⟨o, hS⟩
      · show H a ≠ none
        rcases hS with hS | ⟨o, hS⟩ <;> (rw [hS]; simp)
    · exact .cel (.inr hS) (reps _ ns)
  · rw [hS2]
    intro g' v _ _ r
    cases r
    rfl
end
/-- a whole law, its run and its mathematics given -/
theorem law_walk {l : W.OpenLaw} {q : Program} {loose : List Str} {XP : (Str → Option Value) → Heap → Prop} {d : DefRec} {n : Nat} (Y : Sys) (j : Nat) (dt : DefT) (x : Str) (hm : l.most = some 63) (hdf : d.params.defaults = []) (hj : (j, dt) ∈ Y.ds) (hx : dt.ps = [x]) (hnm : d.name = dt.x) (hn : n ≤ 200)
    (hB : ∀ p ∈ Y.ds, BindOk p.2) (hc : ∀ (i : Nat) (d : DefT), (i, d) ∈ Y.ds → ∃ f, Y.T[i]? = some f ∧ defOk Y d f = true) (hg : ∀ p ∈ Y.glb, glOk p.2 = true)
    (hl : ∀ ns : List Int, ns.length ≤ 63 → ∃ S, callN Y.T n j [.cel (ns.map D.int)] [] = .ok (.bl true) S) :
    W.WalkO q loose XP (hookM 6 (faOf Y) (fnOf Y) Y.glb).says l.row.toRowW d [] (fun f vs => PySem.call f vs) := by
  refine L2.walk_ofE (l := l) (n := 63) (k := n) (x := x) (CX := L2.CX0) hm (by rw [lineN]; decide) hdf ⟨rfl, ?_, ?_⟩ ?F (fun _ _ _ _ z => z)
  · show 1 + claimMargin + 3 * n + 5 < recursionLimit
    have e1 : claimMargin = 300 := rfl
    have e2 : recursionLimit = 1000 := rfl
    omega
  · show 4 + 16 * n + 200 < cLine
    have e2 : cLine = 9900 := rfl
    omega
  intro w mg fa h Yh G hmg0
  obtain ⟨K, KX, c⟩ := Yh
  obtain ⟨h1, h2⟩ := head_have c KX G hB
  have h3 := head_glb c KX G hg
  obtain ⟨f, fd, H⟩ := h1 (j, dt) hj
  rw [hnm] at hmg0
  have e := H.mg.symm.trans hmg0
  cases e
  refine ⟨K, fd, spF K w (callN Y.T n) j, KX, fun s u => ?_, fun H' a ns hlen hO hS => law_start hO hS (hl ns hlen), fun base _ _ => ?_⟩
  · obtain ⟨oc, od, kV, doc, pm, an, cdv, ct, osl, rfl, lk, hcd⟩ := H.fn.ex
    have := hB (j, dt) hj kV doc pm an cdv ct [u] (by rw [hx]; rfl)
    rw [hx] at this
    exact .of_eq this
  · have := sys_ok (P := l.prog) (w := w) (base := base) Y h1 hc h3 h2 n j dt fa fd hj H
    rw [hx] at this
    exact this
end Mp
set_option Elab.async false
set_option linter.all false
set_option maxRecDepth 100000
set_option maxHeartbeats 4000000
/-! what holds behind a run of the evaluator -/
namespace Mp
open PySem PySem.Spec PyProof.Rows

def Res.P {a : Type} (x : Res a) (Q : a → Sto → Prop) : Prop := match x with
  | .ok v s => Q v s
  | _ => False
def SRes.P (x : SRes) (N : Env → Sto → Prop) (R : D → Sto → Prop) : Prop := match x with
  | .nx r s => N r s
  | .rt d s => R d s
  | _ => False
@[simp] theorem Res.P_ok {a : Type} (v : a) (s : Sto) (Q : a → Sto → Prop) : (Res.ok v s).P Q = Q v s := rfl
@[simp] theorem Res.P_bad {a : Type} (Q : a → Sto → Prop) : (Res.bad : Res a).P Q = False := rfl
@[simp] theorem Res.P_exc {a : Type} (c : Nat) (fs : List D) (s : Sto) (Q : a → Sto → Prop) : (Res.exc c fs s : Res a).P Q = False := rfl
@[simp] theorem SRes.P_nx (r : Env) (s : Sto) (N : Env → Sto → Prop) (R : D → Sto → Prop) : (SRes.nx r s).P N R = N r s := rfl
@[simp] theorem SRes.P_rt (d : D) (s : Sto) (N : Env → Sto → Prop) (R : D → Sto → Prop) : (SRes.rt d s).P N R = R d s := rfl
@[simp] theorem SRes.P_bad (N : Env → Sto → Prop) (R : D → Sto → Prop) : SRes.bad.P N R = False := rfl
@[simp] theorem SRes.P_exc (c : Nat) (fs : List D) (s : Sto) (N : Env → Sto → Prop) (R : D → Sto → Prop) : (SRes.exc c fs s).P N R = False := rfl
@[simp] theorem Res.P_bind {a b : Type} (x : Res a) (k : a → Sto → Res b) (Q : b → Sto → Prop) : (x.bind k).P Q = x.P fun v s => (k v s).P Q := by cases x <;> rfl
@[simp] theorem Res.P_st {a : Type} (x : Res a) (k : a → Sto → SRes) (N : Env → Sto → Prop) (R : D → Sto → Prop) : (x.st k).P N R = x.P fun v s => (k v s).P N R := by cases x <;> rfl
@[simp] theorem SRes.P_bind (x : SRes) (k : Env → Sto → SRes) (N : Env → Sto → Prop) (R : D → Sto → Prop) : (x.bind k).P N R = x.P (fun r s => (k r s).P N R) R := by cases x <;> rfl
theorem Res.P.mono {a : Type} {x : Res a} {Q Q' : a → Sto → Prop} (h : x.P Q) (f : ∀ v s, Q v s → Q' v s) : x.P Q' := by cases x <;> first | exact f _ _ h | exact h
theorem SRes.P.mono {x : SRes} {N N' : Env → Sto → Prop} {R R' : D → Sto → Prop} (h : x.P N R) (f : ∀ r s, N r s → N' r s) (g : ∀ v s, R v s → R' v s) : x.P N' R' := by cases x <;> first | exact f _ _ h | exact g _ _ h | exact h
theorem Res.P.eq {a : Type} {x : Res a} {v : a} {s : Sto} (h : x.P fun u t => u = v ∧ t = s) : x = .ok v s := by
  cases x with
  | ok u t => obtain ⟨rfl, rfl⟩ := h; rfl
  | _ => exact h.elim
theorem Res.P.ex {a : Type} {x : Res a} {Q : a → Sto → Prop} (h : x.P Q) : ∃ v s, x = .ok v s ∧ Q v s := by
  cases x with
  | ok u t => exact ⟨u, t, rfl, h⟩
  | _ => exact h.elim
/-- an option's end -/
def optP {a : Type} (o : Option a) (Q : a → Prop) : Prop := match o with
  | some x => Q x
  | none => False
@[simp] theorem optP_some {a : Type} (x : a) (Q : a → Prop) : optP (some x) Q = Q x := rfl
@[simp] theorem optP_none {a : Type} (Q : a → Prop) : optP (none : Option a) Q = False := rfl
theorem optP_of {a : Type} {o : Option a} {x : a} {Q : a → Prop} (h : o = some x) (q : Q x) : optP o Q := by rw [h]; exact q
@[simp] theorem optP_map {a b : Type} (o : Option a) (f : a → b) (Q : b → Prop) : optP (o.map f) Q = optP o fun x => Q (f x) := by cases o <;> rfl
@[simp] theorem ofOpt_P {a : Type} (o : Option a) (s : Sto) (Q : a → Sto → Prop) : (ofOpt o s).P Q = optP o fun x => Q x s := by cases o <;> rfl
theorem optP_ite {a : Type} {c : Prop} [Decidable c] {x : a} {Q : a → Prop} (h : c) (q : Q x) : optP (if c then some x else none) Q := by rw [if_pos h]; exact q

/-! ### what a test's value is -/
def truP (d : D) (Q : Bool → Prop) : Prop := match d with
  | .bl b => Q b
  | _ => False
@[simp] theorem truP_bl (b : Bool) (Q : Bool → Prop) : truP (.bl b) Q = Q b := rfl
@[simp] theorem held_1 (d : D) : (held d).1 = d := rfl
@[simp] theorem fresh_1 (d : D) : (fresh d).1 = d := rfl
@[simp] theorem esc_held (d : D) : esc (held d) = some d := rfl
@[simp] theorem esc_fresh (d : D) : esc (fresh d) = some d := rfl
@[simp] theorem truth_bl (b : Bool) : truth (.bl b) = some b := rfl
@[simp] theorem asInt_int (i : Int) : asInt (.int i) = some i := rfl
@[simp] theorem optP_if {a : Type} (c : Prop) [Decidable c] (x : a) (Q : a → Prop) : optP (if c then some x else none) Q = (c ∧ Q x) := by
  by_cases h : c <;> simp [h]
@[simp] theorem P_ite {a : Type} (c : Prop) [Decidable c] (x y : Res a) (Q : a → Sto → Prop) : (if c then x else y).P Q = if c then x.P Q else y.P Q := by split <;> rfl
@[simp] theorem SP_ite (c : Prop) [Decidable c] (x y : SRes) (N : Env → Sto → Prop) (R : D → Sto → Prop) : (if c then x else y).P N R = if c then x.P N R else y.P N R := by split <;> rfl

section
variable (c : Calls) (r : Env) (s : Sto) (Q : DT → Sto → Prop) (N : Env → Sto → Prop) (R : D → Sto → Prop)
@[simp] theorem ev_cst (d : D) : (ev c r (.cst d) s).P Q = Q (held d) s := by simp only [ev, Res.P_ok]
@[simp] theorem ev_glb (x : Str) (d : D) : (ev c r (.glb x d) s).P Q = Q (held d) s := by simp only [ev, Res.P_ok]
@[simp] theorem ev_var (i : Nat) : (ev c r (.var i) s).P Q = (match r[i]? with | some (.val d) => Q (held d) s | some (.own d) => Q (d, .b) s | _ => False) := by
  simp only [ev]
  split <;> simp [*]
@[simp] theorem ev_tup (es : List CE) : (ev c r (.tup es) s).P Q = (evs c r es s).P fun ds s => Q (held (.tup ds)) s := by simp only [ev, Res.P_bind, Res.P_ok]
@[simp] theorem ev_lst (es : List CE) : (ev c r (.lst es) s).P Q = (evs c r es s).P fun ds s => Q (fresh (.lst ds)) s := by simp only [ev, Res.P_bind, Res.P_ok]
@[simp] theorem ev_dct (ks : List Str) (es : List CE) : (ev c r (.dct ks es) s).P Q = (evs c r es s).P fun ds s => Q (fresh (.dic (ks.map .text) ds)) s := by simp only [ev, Res.P_bind, Res.P_ok]
@[simp] theorem ev_new (e : CE) : (ev c r (.new e) s).P Q = (ev c r e s).P fun x s => match x with
    | (.lst xs, .n) => Q (held (.ref s.length)) (s ++ [(0, .lst xs)])
    | (.dic ks vs, .n) => Q (held (.ref s.length)) (s ++ [(0, .dic ks vs)])
    | _ => False := by
  simp only [ev, Res.P_bind]
  congr 1
  funext x s
  split <;> simp_all
@[simp] theorem ev_sub (a b : CE) : (ev c r (.sub a b) s).P Q = (ev c r a s).P fun x s => (ev c r b s).P fun y s => optP (subF s x.1 y.1) fun z => Q z s := by simp only [ev, Res.P_bind, ofOpt_P]
@[simp] theorem ev_sli (a lo hi : CE) : (ev c r (.sli a lo hi) s).P Q = (ev c r a s).P fun x s => (ev c r lo s).P fun l s => (ev c r hi s).P fun h s => match asInt l.1, asInt h.1 with
    | some l, some h => optP (sliF s x.1 (some l) (some h)) fun z => Q z s
    | _, _ => False := by
  simp only [ev, Res.P_bind]
  congr 1; funext x s; congr 1; funext l s; congr 1; funext h s
  split <;> simp [*]
@[simp] theorem ev_sliL (a lo : CE) : (ev c r (.sliL a lo) s).P Q = (ev c r a s).P fun x s => (ev c r lo s).P fun l s => match asInt l.1 with
    | some l => optP (sliF s x.1 (some l) none) fun z => Q z s
    | none => False := by
  simp only [ev, Res.P_bind]
  congr 1; funext x s; congr 1; funext l s
  split <;> simp [*]
@[simp] theorem ev_sliH (a hi : CE) : (ev c r (.sliH a hi) s).P Q = (ev c r a s).P fun x s => (ev c r hi s).P fun h s => match asInt h.1 with
    | some h => optP (sliF s x.1 none (some h)) fun z => Q z s
    | none => False := by
  simp only [ev, Res.P_bind]
  congr 1; funext x s; congr 1; funext l s
  split <;> simp [*]
@[simp] theorem ev_bin (o : BO) (a b : CE) : (ev c r (.bin o a b) s).P Q = (ev c r a s).P fun x s => (ev c r b s).P fun y s => optP (binF s o x.1 y.1) fun z => Q z s := by simp only [ev, Res.P_bind, ofOpt_P]
@[simp] theorem ev_cmp (o : CO) (a b : CE) : (ev c r (.cmp o a b) s).P Q = (ev c r a s).P fun x s => (ev c r b s).P fun y s => optP (cmpF s o x.1 y.1) fun k => Q (held (.bl k)) s := by simp only [ev, Res.P_bind, ofOpt_P, optP_map]
@[simp] theorem ev_chn (o p : CO) (a b e : CE) : (ev c r (.chn o p a b e) s).P Q = (ev c r a s).P fun x s => (ev c r b s).P fun y s => optP (cmpF s o x.1 y.1) fun k => if k then (ev c r e s).P fun z s => optP (cmpF s p y.1 z.1) fun k => Q (held (.bl k)) s else Q (held (.bl false)) s := by
  simp only [ev, Res.P_bind]
  congr 1; funext x s; congr 1; funext l s
  split <;> rename_i h <;> simp [h]
@[simp] theorem ev_and (es : List CE) : (ev c r (.and es) s).P Q = (evAnd c r es s).P Q := by simp only [ev]
@[simp] theorem ev_or (es : List CE) : (ev c r (.or es) s).P Q = (evOr c r es s).P Q := by simp only [ev]
@[simp] theorem ev_not (a : CE) : (ev c r (.not a) s).P Q = (ev c r a s).P fun x s => truP x.1 fun k => Q (held (.bl (!k))) s := by
  simp only [ev, Res.P_bind, ofOpt_P, optP_map]
  congr 1; funext x s
  cases x with | mk d t => cases d <;> simp [truth, truP]
@[simp] theorem ev_ite (t a b : CE) : (ev c r (.ite t a b) s).P Q = (ev c r t s).P fun x s => truP x.1 fun k => if k then (ev c r a s).P Q else (ev c r b s).P Q := by
  simp only [ev, Res.P_bind]
  congr 1; funext x s
  cases x with | mk d t => cases d <;> simp [truth, truP]; rename_i b; cases b <;> rfl
@[simp] theorem ev_cal (f : Nat) (es : List CE) : (ev c r (.cal f es) s).P Q = (evs c r es s).P fun ds s => (c f ds s).P fun d s => Q (held d) s := by simp only [ev, Res.P_bind, Res.P_ok]
@[simp] theorem ev_blt (f : BF) (es : List CE) : (ev c r (.blt f es) s).P Q = (evo c r es s).P fun ds s => optP (bltF s f ds) fun z => Q z s := by simp only [ev, Res.P_bind, ofOpt_P]
@[simp] theorem ev_mth (m : MF) (o : CE) (es : List CE) : (ev c r (.mth m o es) s).P Q = (ev c r o s).P fun x s => (evo c r es s).P fun ds s => optP (mthF s m x.1 ds) fun z => Q z s := by simp only [ev, Res.P_bind, ofOpt_P]
@[simp] theorem ev_get2 (o k e : CE) : (ev c r (.get2 o k e) s).P Q = (ev c r o s).P fun x s => optP (dicV s x.1) fun _ => (ev c r k s).P fun y s => (ev c r e s).P fun z s => match esc z, dicV s x.1, keyOf y.1 with
      | some z, some (ks, vs), some k => Q (held ((look ks vs k).getD z)) s
      | _, _, _ => False := by
  simp only [ev, Res.P_bind]
  congr 1; funext x s
  cases h : dicV s x.1 with
  | none => simp
  | some q =>
    simp only [Res.P_bind, optP_some]
    congr 1; funext y s; congr 1; funext z s
    split <;> simp [*]
/-- a comprehension's turn -/
def lcTurn (c : Calls) (r : Env) (elt : CE) (tg : CT) (ifs : Option CE) (vs : List Nat) (d : D) (s : Sto) : Res (Option D) := match bindT (wipeE r vs) tg d with
      | none => .bad
      | some r' => match ifs with
        | none => (ev c r' elt s).bind fun x s => (ofOpt (esc x) s).bind fun y s => .ok (some y) s
        | some t => (ev c r' t s).bind fun x s => match truth x.1 with
          | some true => (ev c r' elt s).bind fun x s => (ofOpt (esc x) s).bind fun y s => .ok (some y) s
          | some false => .ok none s
          | none => .bad
@[simp] theorem ev_lc (elt : CE) (tg : CT) (it : CI) (ifs : Option CE) (vs : List Nat) : (ev c r (.lc elt tg it ifs vs) s).P Q = (evI c r it s).P fun its s => (lcLoop (its.src.still true) (lcTurn c r elt tg ifs vs) its.xs [] s).P fun ys s => Q (fresh (.lst ys)) s := by
  simp only [ev, Res.P_bind, Res.P_ok]
  rfl
theorem lcTurn_none (elt : CE) (tg : CT) (vs : List Nat) (d : D) (Q : Option D → Sto → Prop) : (lcTurn c r elt tg none vs d s).P Q = optP (bindT (wipeE r vs) tg d) fun r => (ev c r elt s).P fun x s => optP (esc x) fun y => Q (some y) s := by
  unfold lcTurn
  split <;> rename_i h <;> simp [h]
theorem lcTurn_some (elt : CE) (tg : CT) (t : CE) (vs : List Nat) (d : D) (Q : Option D → Sto → Prop) : (lcTurn c r elt tg (some t) vs d s).P Q = optP (bindT (wipeE r vs) tg d) fun r => (ev c r t s).P fun x s => truP x.1 fun k => if k then (ev c r elt s).P fun x s => optP (esc x) fun y => Q (some y) s else Q none s := by
  unfold lcTurn
  split <;> rename_i h <;> simp only [h, optP_none, optP_some, Res.P_bad, Res.P_bind]
  congr 1; funext x s
  cases x with | mk d t => cases d <;> simp [truth, truP]; rename_i b; cases b <;> simp
@[simp] theorem evAnd_one (e : CE) : (evAnd c r [e] s).P Q = (ev c r e s).P fun x s => truP x.1 fun k => Q (held (.bl k)) s := by
  simp only [evAnd, Res.P_bind]
  congr 1; funext x s
  cases x with | mk d t => cases d <;> simp [truth, truP]; rename_i b; cases b <;> simp
@[simp] theorem evAnd_two (e f : CE) (es : List CE) : (evAnd c r (e :: f :: es) s).P Q = (ev c r e s).P fun x s => truP x.1 fun k => if k then (evAnd c r (f :: es) s).P Q else Q (held (.bl false)) s := by
  rw [evAnd]
  simp only [Res.P_bind]
  congr 1; funext x s
  cases x with | mk d t => cases d <;> simp [truth, truP]; rename_i b; cases b <;> simp
@[simp] theorem evOr_one (e : CE) : (evOr c r [e] s).P Q = (ev c r e s).P fun x s => truP x.1 fun k => Q (held (.bl k)) s := by
  simp only [evOr, Res.P_bind]
  congr 1; funext x s
  cases x with | mk d t => cases d <;> simp [truth, truP]; rename_i b; cases b <;> simp
@[simp] theorem evOr_two (e f : CE) (es : List CE) : (evOr c r (e :: f :: es) s).P Q = (ev c r e s).P fun x s => truP x.1 fun k => if k then Q (held (.bl true)) s else (evOr c r (f :: es) s).P Q := by
  rw [evOr]
  simp only [Res.P_bind]
  congr 1; funext x s
  cases x with | mk d t => cases d <;> simp [truth, truP]; rename_i b; cases b <;> simp
variable (QL : List D → Sto → Prop)
@[simp] theorem evs_nil : (evs c r [] s).P QL = QL [] s := by simp only [evs, Res.P_ok]
@[simp] theorem evs_cons (e : CE) (es : List CE) : (evs c r (e :: es) s).P QL = (ev c r e s).P fun x s => optP (esc x) fun d => (evs c r es s).P fun ds s => QL (d :: ds) s := by simp only [evs, Res.P_bind, ofOpt_P, Res.P_ok]
@[simp] theorem evo_nil : (evo c r [] s).P QL = QL [] s := by simp only [evo, Res.P_ok]
@[simp] theorem evo_cons (e : CE) (es : List CE) : (evo c r (e :: es) s).P QL = (ev c r e s).P fun x s => (evo c r es s).P fun ds s => QL (x.1 :: ds) s := by simp only [evo, Res.P_bind, Res.P_ok]
variable (QI : Its → Sto → Prop)
@[simp] theorem evI_seq (e : CE) : (evI c r (.seq e) s).P QI = (ev c r e s).P fun x s => optP (seqI s x) fun i => QI i s := by simp only [evI, Res.P_bind, ofOpt_P]
@[simp] theorem evI_vals (e : CE) : (evI c r (.vals e) s).P QI = (ev c r e s).P fun x s => optP (dicV s x.1) fun q => QI ⟨q.2, srcD s x⟩ s := by simp only [evI, Res.P_bind, ofOpt_P, optP_map]
@[simp] theorem evI_items (e : CE) : (evI c r (.items e) s).P QI = (ev c r e s).P fun x s => optP (dicV s x.1) fun q => QI ⟨itemsD q.1 q.2, srcD s x⟩ s := by simp only [evI, Res.P_bind, ofOpt_P, optP_map]
@[simp] theorem evI_range1 (e : CE) : (evI c r (.range1 e) s).P QI = (ev c r e s).P fun x s => optP (asInt x.1) fun n => (-(2 ^ 62) ≤ n ∧ n < 2 ^ 62) ∧ QI ⟨rangeD 0 n, .held⟩ s := by
  simp only [evI, Res.P_bind]
  congr 1; funext x s
  cases x with | mk d t => cases d <;> simp [asInt]
@[simp] theorem evI_range2 (a b : CE) : (evI c r (.range2 a b) s).P QI = (ev c r a s).P fun x s => (ev c r b s).P fun y s => optP (asInt x.1) fun l => optP (asInt y.1) fun n => ((-(2 ^ 62) ≤ l ∧ l < 2 ^ 62) ∧ (-(2 ^ 62) ≤ n ∧ n < 2 ^ 62)) ∧ QI ⟨rangeD l n, .held⟩ s := by
  simp only [evI, Res.P_bind]
  congr 1; funext x s; congr 1; funext y s
  obtain ⟨dx, tx⟩ := x
  obtain ⟨dy, ty⟩ := y
  cases dx <;> cases dy <;> simp [asInt]
@[simp] theorem evI_zip (a b : CE) : (evI c r (.zip a b) s).P QI = (ev c r a s).P fun x s => (ev c r b s).P fun y s => match x.1, y.1 with
    | .tup xs, .tup ys => QI ⟨zipD xs ys, .held⟩ s
    | _, _ => False := by
  simp only [evI, Res.P_bind]
  congr 1; funext x s; congr 1; funext y s
  split <;> simp [*]
@[simp] theorem evI_enum (e : CE) : (evI c r (.enum e) s).P QI = (ev c r e s).P fun x s => optP (lstV s x.1) fun xs => QI ⟨enumD 0 xs, srcD s x⟩ s := by
  simp only [evI, Res.P_bind]
  congr 1; funext x s
  split <;> rename_i h <;> simp [h]
@[simp] theorem evT_P (t : CE) (Q : Bool → Sto → Prop) : (evT c r t s).P Q = (ev c r t s).P fun x s => truP x.1 fun k => Q k s := by
  simp only [evT, Res.P_bind, ofOpt_P]
  congr 1; funext x s
  cases x with | mk d t => cases d <;> simp [truth, truP]
@[simp] theorem execs_nil : (execs c [] r s).P N R = N r s := by simp only [execs, SRes.P_nx]
@[simp] theorem execs_cons (x : CS) (xs : List CS) : (execs c (x :: xs) r s).P N R = (exec c x r s).P (fun r s => (execs c xs r s).P N R) R := by simp only [execs, SRes.P_bind]
@[simp] theorem exec_expr (e : CE) : (exec c (.expr e) r s).P N R = (ev c r e s).P fun _ s => N r s := by simp only [exec, Res.P_st, SRes.P_nx]
@[simp] theorem exec_asg (i : Nat) (e : CE) : (exec c (.asg i e) r s).P N R = (ev c r e s).P fun x s => optP (esc x) fun d => N (r.set i (.val d)) s := by
  simp only [exec, Res.P_st]
  congr 1; funext x s
  split <;> rename_i h <;> simp [h]
@[simp] theorem exec_asgO (i : Nat) (e : CE) : (exec c (.asgO i e) r s).P N R = (ev c r e s).P fun x s => match x.2 with | .n => N (r.set i (.own x.1)) s | _ => False := by
  simp only [exec, Res.P_st]
  congr 1; funext x s
  cases x with | mk d t => cases t <;> rfl
@[simp] theorem exec_asgT (is : List Nat) (e : CE) : (exec c (.asgT is e) r s).P N R = (ev c r e s).P fun x s => optP (bindT r (.tup is) x.1) fun r => N r s := by
  simp only [exec, Res.P_st]
  congr 1; funext x s
  split <;> rename_i h <;> simp [h]
@[simp] theorem exec_par2 (i j : Nat) (a b : CE) : (exec c (.par2 i j a b) r s).P N R = (ev c r a s).P fun x s => optP (esc x) fun x => (ev c r b s).P fun y s => optP (esc y) fun y => N ((r.set i (.val x)).set j (.val y)) s := by
  simp only [exec, Res.P_st, evs_cons, evs_nil, SRes.P_nx]
@[simp] theorem exec_par3 (i j k : Nat) (a b e : CE) : (exec c (.par3 i j k a b e) r s).P N R = (ev c r a s).P fun x s => optP (esc x) fun x => (ev c r b s).P fun y s => optP (esc y) fun y => (ev c r e s).P fun z s => optP (esc z) fun z => N (((r.set i (.val x)).set j (.val y)).set k (.val z)) s := by
  simp only [exec, Res.P_st, evs_cons, evs_nil, SRes.P_nx]
@[simp] theorem exec_ret (e : CE) : (exec c (.ret e) r s).P N R = (ev c r e s).P fun x s => optP (esc x) fun d => R d s := by
  simp only [exec, Res.P_st]
  congr 1; funext x s
  split <;> rename_i h <;> simp [h]
@[simp] theorem exec_retO (i : Nat) : (exec c (.retO i) r s).P N R = (match r[i]? with | some (.own d) => R d s | _ => False) := by
  simp only [exec]
  split <;> simp [*]
@[simp] theorem exec_retN : (exec c .retN r s).P N R = R .non s := by simp only [exec, SRes.P_rt]
@[simp] theorem exec_pass : (exec c .pass r s).P N R = N r s := by simp only [exec, SRes.P_nx]
@[simp] theorem exec_ite (t : CE) (a b : List CS) : (exec c (.ite t a b) r s).P N R = (ev c r t s).P fun x s => truP x.1 fun k => if k then (execs c a r s).P N R else (execs c b r s).P N R := by
  simp only [exec, Res.P_st, evT_P, SP_ite]
@[simp] theorem exec_for (tg : CT) (it : CI) (body : List CS) : (exec c (.for_ tg it body) r s).P N R = (evI c r it s).P fun its s => (forLoop (its.src.still false) (fun d r s => match bindT r tg d with
      | some r => execs c body r s
      | none => .bad) its.xs r s).P N R := by
  simp only [exec, Res.P_st]
  try rfl
@[simp] theorem exec_subO (i : Nat) (ix e : CE) : (exec c (.subO i ix e) r s).P N R = (ev c r e s).P fun x s => optP (esc x) fun d => match r[i]? with
      | some (.own (.dic ks vs)) => (ev c r ix s).P fun y s => optP (keyOf y.1) fun k => ks.length < 16777216 ∧ N (r.set i (.own (.dic (putK ks k) (putV ks vs k d)))) s
      | _ => False := by
  simp only [exec, Res.P_st]
  congr 1; funext x s
  split <;> rename_i h <;> simp only [h, optP_none, optP_some, SRes.P_bad]
  split
  · rename_i hr
    simp only [hr, Res.P_st]
    congr 1; funext y s
    split <;> rename_i h <;> simp [h]
  · rename_i hr
    first
    | rfl
    | split
      · rename_i h2; exact absurd h2 (hr _ _)
      · rfl
@[simp] theorem exec_subS (o ix e : CE) : (exec c (.subS o ix e) r s).P N R = (ev c r e s).P fun x s => optP (esc x) fun d => (ev c r o s).P fun ov s => (ev c r ix s).P fun iv s => optP (setF s ov.1 iv.1 d) fun s => N r s := by
  simp only [exec, Res.P_st]
  congr 1; funext x s
  split <;> rename_i h <;> simp only [h, optP_none, optP_some, SRes.P_bad, Res.P_st]
  congr 1; funext x s; congr 1; funext y s
  split <;> rename_i h <;> simp [h]
@[simp] theorem exec_subS2 (o1 i1 o2 i2 e : CE) : (exec c (.subS2 o1 i1 o2 i2 e) r s).P N R = (ev c r e s).P fun x s => match x.1 with
    | .tup [d1, d2] => (ev c r o1 s).P fun ov s => (ev c r i1 s).P fun iv s => optP (setF s ov.1 iv.1 d1) fun s => (ev c r o2 s).P fun ov s => (ev c r i2 s).P fun iv s => optP (setF s ov.1 iv.1 d2) fun s => N r s
    | _ => False := by
  simp only [exec, Res.P_st]
  congr 1; funext x s
  split
  · rename_i h
    simp only [h, Res.P_st]
    congr 1; funext x s; congr 1; funext y s
    split <;> rename_i h <;> simp only [h, optP_none, optP_some, SRes.P_bad, Res.P_st]
    congr 1; funext x s; congr 1; funext y s
    split <;> rename_i h <;> simp [h]
  · rename_i h
    first
    | rfl
    | split
      · rename_i h2; exact absurd h2 (h _ _)
      · rfl
@[simp] theorem exec_appO (i : Nat) (e : CE) : (exec c (.appO i e) r s).P N R = (match r[i]? with
    | some (.own (.lst xs)) => (ev c r e s).P fun x s => optP (esc x) fun d => xs.length < 16777216 ∧ N (r.set i (.own (.lst (xs ++ [d])))) s
    | _ => False) := by
  simp only [exec]
  split
  · rename_i hr
    simp only [hr, Res.P_st]
    congr 1; funext y s
    split <;> rename_i h <;> simp [h]
  · rename_i hr
    first
    | rfl
    | split
      · rename_i h2; exact absurd h2 (hr _)
      · rfl
@[simp] theorem exec_appS (o e : CE) : (exec c (.appS o e) r s).P N R = (ev c r o s).P fun ov s => optP (lstV s ov.1) fun _ => (ev c r e s).P fun x s => optP (esc x) fun d => match ov.1 with
      | .ref n => (match s[n]? with
        | some (c, .lst xs) => xs.length < 16777216 ∧ N r (s.set n (c + 1, .lst (xs ++ [d])))
        | _ => False)
      | _ => False := by
  simp only [exec, Res.P_st]
  congr 1; funext x s
  split <;> rename_i h <;> simp only [h, optP_none, optP_some, SRes.P_bad, Res.P_st]
  congr 1; funext y s
  obtain ⟨dx, tx⟩ := x
  cases he : esc y with
  | none => simp
  | some d =>
    cases dx <;> simp
    split <;> simp [*]
@[simp] theorem exec_updO (i : Nat) (e : CE) : (exec c (.updO i e) r s).P N R = (ev c r e s).P fun x s => match r[i]?, x with
    | some (.own (.dic ks vs)), (.dic ks2 vs2, .n) => ((ks ++ ks2).all isText && decide ((ks ++ ks2).Nodup) && decide (ks.length + ks2.length ≤ 1000)) = true ∧ N (r.set i (.own (.dic (ks ++ ks2) (vs ++ vs2)))) s
    | _, _ => False := by
  simp only [exec, Res.P_st]
  congr 1; funext x s
  split
  · rename_i h
    simp only [h, SP_ite, SRes.P_nx, SRes.P_bad]
    split <;> rename_i h <;> simp only [h, true_and, false_and]
    simp
  · rename_i h
    first
    | rfl
    | split
      · rename_i h1; exact absurd rfl (h _ _ _ _ h1)
      · rfl
end
/-! ### loops -/
theorem forP {ok : Sto → Bool} {f : D → Env → Sto → SRes} {N : Env → Sto → Prop} {R : D → Sto → Prop} (I : List D → Env → Sto → Prop) :
    ∀ {xs : List D} {r : Env} {s : Sto}, I xs r s → (∀ r s, I [] r s → ok s = true ∧ N r s) → (∀ x xs r s, I (x :: xs) r s → ok s = true ∧ (f x r s).P (fun r s => I xs r s) R) → (forLoop ok f xs r s).P N R
  | [], r, s, h, h0, h1 => by
    obtain ⟨a, b⟩ := h0 r s h
    unfold forLoop
    rw [a, if_pos rfl]
    exact b
  | x :: xs, r, s, h, h0, h1 => by
    obtain ⟨a, b⟩ := h1 x xs r s h
    unfold forLoop
    rw [a, if_pos rfl, SRes.P_bind]
    exact b.mono (fun r s q => forP I q h0 h1) fun _ _ q => q
theorem lcP {ok : Sto → Bool} {f : D → Sto → Res (Option D)} {Q : List D → Sto → Prop} (I : List D → List D → Sto → Prop) :
    ∀ {xs acc : List D} {s : Sto}, I xs acc s → (∀ acc s, I [] acc s → ok s = true ∧ Q acc s) → (∀ x xs acc s, I (x :: xs) acc s → ok s = true ∧ (f x s).P (fun o s => match o with | some y => acc.length < 16777216 ∧ I xs (acc ++ [y]) s | none => I xs acc s)) → (lcLoop ok f xs acc s).P Q
  | [], acc, s, h, h0, h1 => by
    obtain ⟨a, b⟩ := h0 acc s h
    unfold lcLoop
    rw [a, if_pos rfl]
    exact b
  | x :: xs, acc, s, h, h0, h1 => by
    obtain ⟨a, b⟩ := h1 x xs acc s h
    unfold lcLoop
    rw [a, if_pos rfl, Res.P_bind]
    refine b.mono fun o s q => ?_
    cases o with
    | none => exact lcP I q h0 h1
    | some y =>
      show (if acc.length < 16777216 then _ else _ : Res _).P Q
      rw [if_pos q.1]
      exact lcP I q.2 h0 h1
/-- a comprehension that changes nothing -/
theorem lc_pure {ok : Sto → Bool} {f : D → Sto → Res (Option D)} {s : Sto} (h0 : ok s = true) (F : D → Option D) : ∀ {xs acc : List D}, acc.length + xs.length ≤ 16777216 → (∀ x ∈ xs, f x s = .ok (F x) s) → lcLoop ok f xs acc s = .ok (acc ++ xs.filterMap F) s
  | [], acc, _, h => by simp [lcLoop, h0]
  | x :: xs, acc, hl, h => by
    simp only [List.length_cons] at hl
    unfold lcLoop
    rw [h0, if_pos rfl, h x List.mem_cons_self, Res.bind_ok]
    cases e : F x with
    | none =>
      simp only
      rw [lc_pure h0 F (by omega) fun y hy => h y (List.mem_cons_of_mem _ hy), List.filterMap_cons, e]
    | some y =>
      simp only
      rw [if_pos (by omega), lc_pure h0 F (by simp; omega) fun y hy => h y (List.mem_cons_of_mem _ hy), List.filterMap_cons, e]
      simp
/-- a loop that changes nothing but places -/
theorem for_pure {ok : Sto → Bool} {f : D → Env → Sto → SRes} {s : Sto} (h0 : ok s = true) (F : Env → D → Env) (I : List D → Env → Prop) : ∀ {xs : List D} {r : Env}, I xs r → (∀ x xs r, I (x :: xs) r → I xs (F r x) ∧ f x r s = .nx (F r x) s) → forLoop ok f xs r s = .nx (xs.foldl F r) s
  | [], r, _, h => by simp [forLoop, h0]
  | x :: xs, r, hI, h => by
    obtain ⟨a, b⟩ := h x xs r hI
    unfold forLoop
    rw [h0, if_pos rfl, b, SRes.bind_nx, for_pure h0 F I a h]
    rfl
theorem callN_at {T : List FD} {i : Nat} {fd : FD} (h : T[i]? = some fd) (n : Nat) (as : List D) (s : Sto) (hl : as.length = fd.np) (Q : D → Sto → Prop) : (callN T (n + 1) i as s).P Q = (execs (callN T n) fd.body (as.map .val ++ List.replicate (fd.nn - fd.np) .no) s).P (fun _ s => Q .non s) Q := by
  show ((match T[i]? with | some d => runF (callN T n) d as s | none => .bad : Res D)).P Q = _
  rw [h]
  show (runF (callN T n) fd as s).P Q = _
  unfold runF
  rw [if_pos hl]
  cases execs (callN T n) fd.body (as.map .val ++ List.replicate (fd.nn - fd.np) .no) s <;> rfl
end Mp
set_option Elab.async false
set_option linter.all false
set_option maxRecDepth 100000
set_option maxHeartbeats 4000000
/-! the defs of the texts, as the evaluator reads them; printed by gen2.py -/
namespace Mp
open PySem
/-- 0: is_name(value); 0 value, 1 sign -/
def p_is_name : FD := ⟨1, 2,
 [.ret (.and [(.blt (.isi "str") [(.var 0)]), (.chn .le .le (.cst (.int 1)) (.blt .len [(.var 0)]) (.cst (.int 8))), (.blt .all [(.lc (.cmp .inn (.var 1) (.glb "LETTERS" (.str "abcdefghijklmnopqrstuvwxyz"))) (.nm 1) (.seq (.var 0)) none [1])])])]⟩
/-- 1: is_node(value); 0 value, 1 pair, 2 one, 3 other -/
def p_is_node : FD := ⟨1, 4,
 [.ite (.not (.blt (.isi "tuple") [(.var 0)]))
    [.ret (.cal 0 [(.var 0)])]
    [],
  .for_ (.nm 1) (.seq (.var 0))
    [.ite (.or [(.not (.blt (.isi "tuple") [(.var 1)])), (.cmp .ne (.blt .len [(.var 1)]) (.cst (.int 2))), (.not (.cal 0 [(.sub (.var 1) (.cst (.int 0)))])), (.not (.cal 1 [(.sub (.var 1) (.cst (.int 1)))]))])
       [.ret (.cst (.bl false))]
       []],
  .ret (.blt .all [(.lc (.cmp .lt (.sub (.var 2) (.cst (.int 0))) (.sub (.var 3) (.cst (.int 0)))) (.tup [2, 3]) (.zip (.var 0) (.sliL (.var 0) (.cst (.int 1)))) none [2, 3])])]⟩
/-- 2: is_path(value); 0 value, 1 name -/
def p_is_path : FD := ⟨1, 2,
 [.ret (.and [(.blt (.isi "tuple") [(.var 0)]), (.cmp .inn (.blt .len [(.var 0)]) (.tup [(.cst (.int 1)), (.cst (.int 2))])), (.blt .all [(.lc (.cal 0 [(.var 1)]) (.nm 1) (.seq (.var 0)) none [1])])])]⟩
/-- 3: is_folder(value); 0 value -/
def p_is_folder : FD := ⟨1, 1,
 [.ret (.and [(.blt (.isi "tuple") [(.var 0)]), (.cal 1 [(.var 0)])])]⟩
/-- 4: need_tree(value); 0 value -/
def p_need_tree : FD := ⟨1, 1,
 [.ite (.not (.cal 3 [(.var 0)]))
    [.raise 0 []]
    []]⟩
/-- 5: all_nodes(tree); 0 tree, 1 found, 2 name, 3 node -/
def p_all_nodes : FD := ⟨1, 4,
 [.asg 1 (.lst []),
  .for_ (.tup [2, 3]) (.seq (.var 0))
    [.asg 1 (.bin .add (.bin .add (.var 1) (.lst [(.var 2)])) (.ite (.blt (.isi "tuple") [(.var 3)]) (.cal 5 [(.var 3)]) (.lst [])))],
  .ret (.var 1)]⟩
/-- 6: all_files(tree, path); 0 tree, 1 path, 2 found, 3 name, 4 node, 5 longer -/
def p_all_files : FD := ⟨2, 6,
 [.asg 2 (.lst []),
  .for_ (.tup [3, 4]) (.seq (.var 0))
    [.asg 5 (.bin .add (.var 1) (.tup [(.var 3)])),
     .asg 2 (.bin .add (.var 2) (.ite (.blt (.isi "tuple") [(.var 4)]) (.cal 6 [(.var 4), (.var 5)]) (.lst [(.tup [(.var 5), (.var 4)])])))],
  .ret (.var 2)]⟩
/-- 7: inner_node(tree, path); 0 tree, 1 path, 2 node, 3 name, 4 some, 5 word, 6 inner -/
def p_inner_node : FD := ⟨2, 7,
 [.asg 2 (.var 0),
  .for_ (.nm 3) (.seq (.var 1))
    [.asg 4 (.ite (.blt (.isi "tuple") [(.var 2)]) (.lc (.var 6) (.tup [5, 6]) (.seq (.var 2)) (some (.cmp .eq (.var 5) (.var 3))) [5, 6]) (.lst [])),
     .asg 2 (.ite (.cmp .ne (.var 4) (.lst [])) (.sub (.var 4) (.cst (.int 0))) (.cst .non))],
  .ret (.var 2)]⟩
/-- 8: is_tree(value); 0 value -/
def p_is_tree : FD := ⟨1, 1,
 [.ret (.cal 3 [(.var 0)])]⟩
/-- 9: count_nodes(tree); 0 tree -/
def p_count_nodes : FD := ⟨1, 1,
 [.expr (.cal 4 [(.var 0)]),
  .ret (.blt .len [(.cal 5 [(.var 0)])])]⟩
/-- 10: files(tree); 0 tree -/
def p_files : FD := ⟨1, 1,
 [.expr (.cal 4 [(.var 0)]),
  .ret (.blt .sorted [(.cal 6 [(.var 0), (.tup [])])])]⟩
/-- 11: at_path(tree, path); 0 tree, 1 path -/
def p_at_path : FD := ⟨2, 2,
 [.expr (.cal 4 [(.var 0)]),
  .ite (.not (.cal 2 [(.var 1)]))
    [.raise 0 []]
    [],
  .ret (.cal 7 [(.var 0), (.var 1)])]⟩
/-- 12: are_marks(word, value); 0 word, 1 value, 2 mark -/
def p_are_marks : FD := ⟨2, 3,
 [.ite (.or [(.not (.blt (.isi "tuple") [(.var 1)])), (.not (.blt .all [(.lc (.blt (.isi "str") [(.var 2)]) (.nm 2) (.seq (.var 1)) none [2])]))])
    [.ret (.cst (.bl false))]
    [],
  .ret (.and [(.blt .all [(.lc (.cmp .inn (.var 2) (.sub (.glb "MARKS" (.dic [.text "move", .text "copy", .text "make", .text "remove"] [(.tup [(.str "never"), (.str "new")]), (.tup [(.str "never"), (.str "new"), (.str "tree")]), (.tup [(.str "parents")]), (.tup [(.str "quiet"), (.str "tree")])])) (.var 0))) (.nm 2) (.seq (.var 1)) none [2])]), (.cmp .eq (.blt .list [(.var 1)]) (.blt .sortedset [(.var 1)]))])]⟩
/-- 13: is_good_command(value); 0 value, 1 word, 2 path -/
def p_is_good_command : FD := ⟨1, 3,
 [.ite (.or [(.not (.blt (.isi "tuple") [(.var 0)])), (.cmp .nin (.blt .len [(.var 0)]) (.tup [(.cst (.int 3)), (.cst (.int 4))])), (.not (.blt (.isi "str") [(.sub (.var 0) (.cst (.int 0)))]))])
    [.ret (.cst (.bl false))]
    [],
  .asg 1 (.sub (.var 0) (.cst (.int 0))),
  .ite (.cmp .eq (.var 1) (.cst (.str "write")))
    [.ret (.and [(.cmp .eq (.blt .len [(.var 0)]) (.cst (.int 3))), (.cal 2 [(.sub (.var 0) (.cst (.int 1)))]), (.cal 0 [(.sub (.var 0) (.cst (.int 2)))])])]
    [],
  .ite (.or [(.cmp .nin (.var 1) (.glb "MARKS" (.dic [.text "move", .text "copy", .text "make", .text "remove"] [(.tup [(.str "never"), (.str "new")]), (.tup [(.str "never"), (.str "new"), (.str "tree")]), (.tup [(.str "parents")]), (.tup [(.str "quiet"), (.str "tree")])]))), (.not (.cal 12 [(.var 1), (.sub (.var 0) (.cst (.int 1)))]))])
    [.ret (.cst (.bl false))]
    [],
  .ret (.and [(.cmp .eq (.blt .len [(.var 0)]) (.ite (.cmp .inn (.var 1) (.tup [(.cst (.str "move")), (.cst (.str "copy"))])) (.cst (.int 4)) (.cst (.int 3)))), (.blt .all [(.lc (.cal 2 [(.var 2)]) (.nm 2) (.seq (.sliL (.var 0) (.cst (.int 2)))) none [2])])])]⟩
/-- 14: is_good_script(value); 0 value, 1 command -/
def p_is_good_script : FD := ⟨1, 2,
 [.ite (.or [(.not (.blt (.isi "tuple") [(.var 0)])), (.cmp .ne (.blt .len [(.var 0)]) (.cst (.int 2))), (.not (.blt (.isi "bool") [(.sub (.var 0) (.cst (.int 0)))]))])
    [.ret (.cst (.bl false))]
    [],
  .ite (.or [(.not (.blt (.isi "tuple") [(.sub (.var 0) (.cst (.int 1)))])), (.not (.chn .le .le (.cst (.int 1)) (.blt .len [(.sub (.var 0) (.cst (.int 1)))]) (.glb "MOST" (.int 5))))])
    [.ret (.cst (.bl false))]
    [],
  .ret (.blt .all [(.lc (.cal 13 [(.var 1)]) (.nm 1) (.seq (.sub (.var 0) (.cst (.int 1)))) none [1])])]⟩
/-- 15: need_script(value); 0 value -/
def p_need_script : FD := ⟨1, 1,
 [.ite (.not (.cal 14 [(.var 0)]))
    [.raise 0 []]
    []]⟩
/-- 16: paths_of(command); 0 command -/
def p_paths_of : FD := ⟨1, 1,
 [.ret (.ite (.cmp .eq (.sub (.var 0) (.cst (.int 0))) (.cst (.str "write"))) (.lst [(.sub (.var 0) (.cst (.int 1)))]) (.blt .list [(.sliL (.var 0) (.cst (.int 2)))]))]⟩
/-- 17: names_of(script); 0 script, 1 found, 2 command, 3 path -/
def p_names_of : FD := ⟨1, 4,
 [.asg 1 (.lst []),
  .for_ (.nm 2) (.seq (.sub (.var 0) (.cst (.int 1))))
    [.for_ (.nm 3) (.seq (.cal 16 [(.var 2)]))
       [.asg 1 (.bin .add (.var 1) (.blt .list [(.var 3)]))]],
  .ret (.blt .sortedset [(.var 1)])]⟩
/-- 18: is_command(value); 0 value -/
def p_is_command : FD := ⟨1, 1,
 [.ret (.cal 13 [(.var 0)])]⟩
/-- 19: is_script(value); 0 value -/
def p_is_script : FD := ⟨1, 1,
 [.ret (.cal 14 [(.var 0)])]⟩
/-- 20: words(script); 0 script, 1 command -/
def p_words : FD := ⟨1, 2,
 [.expr (.cal 15 [(.var 0)]),
  .ret (.lc (.sub (.var 1) (.cst (.int 0))) (.nm 1) (.seq (.sub (.var 0) (.cst (.int 1)))) none [1])]⟩
/-- 21: names_in(script); 0 script -/
def p_names_in : FD := ⟨1, 1,
 [.expr (.cal 15 [(.var 0)]),
  .ret (.cal 17 [(.var 0)])]⟩
/-- 22: _law_source(_law_script_here, _law_k); 0 _law_script_here, 1 _law_k, 2 _law_cell -/
def L_source : FD := ⟨2, 3,
 [.asg 2 (.cst (.int 0)),
  .ite (.cmp .lt (.var 1) (.blt .len [(.var 0)]))
    [.asg 2 (.blt .abs [(.blt .int [(.sub (.var 0) (.var 1))])])]
    [],
  .ite (.cmp .lt (.var 2) (.bin .pow (.cst (.int 10)) (.cst (.int 18))))
    [.ret (.new (.lst [(.cst (.int 0)), (.bin .add (.cst (.int 1)) (.bin .mod (.blt .int [(.bin .add (.bin .mul (.var 2) (.cst (.int 7919))) (.bin .mul (.cst (.int 104729)) (.var 1)))]) (.cst (.int 2147483646))))]))]
    [],
  .ret (.new (.lst [(.var 2), (.bin .add (.cst (.int 1)) (.bin .mod (.blt .int [(.bin .add (.var 2) (.var 1))]) (.cst (.int 2147483646))))]))]⟩
/-- 23: _law_draw(_law_source_here, _law_many); 0 _law_source_here, 1 _law_many, 2 _law_found -/
def L_draw : FD := ⟨2, 3,
 [.ite (.cmp .gt (.sub (.var 0) (.cst (.int 0))) (.cst (.int 0)))
    [.asg 2 (.bin .mod (.blt .int [(.sub (.var 0) (.cst (.int 0)))]) (.var 1)),
     .subS (.var 0) (.cst (.int 0)) (.bin .fdiv (.sub (.var 0) (.cst (.int 0))) (.var 1)),
     .ret (.var 2)]
    [],
  .subS (.var 0) (.cst (.int 1)) (.bin .mod (.blt .int [(.bin .mul (.sub (.var 0) (.cst (.int 1))) (.cst (.int 48271)))]) (.cst (.int 2147483647))),
  .ret (.bin .mod (.blt .int [(.bin .fdiv (.bin .mod (.blt .int [(.bin .mul (.sub (.var 0) (.cst (.int 1))) (.sub (.var 0) (.cst (.int 1))))]) (.cst (.int 2147483629))) (.cst (.int 64)))]) (.var 1))]⟩
/-- 24: _law_of(_law_source_here, _law_items); 0 _law_source_here, 1 _law_items -/
def L_of : FD := ⟨2, 2,
 [.ret (.sub (.var 1) (.cal 23 [(.var 0), (.blt .len [(.var 1)])]))]⟩
/-- 25: _law_path(_law_source_here); 0 _law_source_here, 1 _law_name -/
def L_path : FD := ⟨1, 2,
 [.asg 1 (.cal 24 [(.var 0), (.lst [(.cst (.str "a")), (.cst (.str "a")), (.cst (.str "b")), (.cst (.str "b")), (.cst (.str "c"))])]),
  .ret (.ite (.cmp .gt (.cal 23 [(.var 0), (.cst (.int 3))]) (.cst (.int 0))) (.tup [(.var 1)]) (.tup [(.var 1), (.cal 24 [(.var 0), (.lst [(.cst (.str "a")), (.cst (.str "b"))])])]))]⟩
/-- 26: _law_marks(_law_source_here, _law_some); 0 _law_source_here, 1 _law_some, 2 _law_mark -/
def L_marks : FD := ⟨2, 3,
 [.ret (.blt .tuple [(.lc (.var 2) (.nm 2) (.seq (.var 1)) (some (.cmp .eq (.cal 23 [(.var 0), (.cst (.int 3))]) (.cst (.int 0)))) [2])])]⟩
/-- 27: _law_command(_law_source_here); 0 _law_source_here, 1 _law_way, 2 _law_path_here, 3 _law_marks_here -/
def L_command : FD := ⟨1, 4,
 [.par2 1 2 (.cal 23 [(.var 0), (.cst (.int 9))]) (.cal 25 [(.var 0)]),
  .ite (.cmp .lt (.var 1) (.cst (.int 3)))
    [.ret (.tup [(.cst (.str "move")), (.cal 26 [(.var 0), (.lst [(.cst (.str "never")), (.cst (.str "new"))])]), (.var 2), (.cal 25 [(.var 0)])])]
    [],
  .ite (.cmp .lt (.var 1) (.cst (.int 6)))
    [.asg 3 (.cal 26 [(.var 0), (.lst [(.cst (.str "never")), (.cst (.str "new"))])]),
     .ret (.tup [(.cst (.str "copy")), (.bin .add (.var 3) (.ite (.cmp .gt (.cal 23 [(.var 0), (.cst (.int 3))]) (.cst (.int 0))) (.tup [(.cst (.str "tree"))]) (.tup []))), (.var 2), (.cal 25 [(.var 0)])])]
    [],
  .ite (.cmp .eq (.var 1) (.cst (.int 6)))
    [.ret (.tup [(.cst (.str "make")), (.cal 26 [(.var 0), (.lst [(.cst (.str "parents"))])]), (.var 2)])]
    [],
  .ite (.cmp .eq (.var 1) (.cst (.int 7)))
    [.ret (.tup [(.cst (.str "remove")), (.cal 26 [(.var 0), (.lst [(.cst (.str "quiet")), (.cst (.str "tree"))])]), (.var 2)])]
    [],
  .ret (.tup [(.cst (.str "write")), (.var 2), (.cal 24 [(.var 0), (.lst [(.cst (.str "x")), (.cst (.str "y")), (.cst (.str "new"))])])])]⟩
/-- 28: _law_script(_law_source_here, _law_most); 0 _law_source_here, 1 _law_most, 2 _law_stops, 3 _law_way, 4 _law_found, 5 _law_turn -/
def L_script : FD := ⟨2, 6,
 [.par2 2 3 (.cmp .eq (.cal 23 [(.var 0), (.cst (.int 2))]) (.cst (.int 0))) (.cal 23 [(.var 0), (.cst (.int 6))]),
  .asg 4 (.blt .tuple [(.lc (.cal 27 [(.var 0)]) (.nm 5) (.range1 (.bin .add (.cst (.int 1)) (.cal 23 [(.var 0), (.var 1)]))) none [5])]),
  .ite (.cmp .eq (.var 3) (.cst (.int 0)))
    [.asg 4 (.sliH (.tup [(.tup [(.cst (.str "copy")), (.tup [(.cst (.str "never"))]), (.tup [(.cst (.str "a"))]), (.tup [(.cst (.str "b"))])]), (.tup [(.cst (.str "write")), (.tup [(.cst (.str "a"))]), (.cst (.str "x"))])]) (.var 1))]
    [],
  .ite (.cmp .eq (.var 3) (.cst (.int 1)))
    [.asg 4 (.sliH (.tup [(.tup [(.cst (.str "make")), (.tup [(.cst (.str "parents"))]), (.tup [(.cst (.str "b"))])]), (.cal 24 [(.var 0), (.lst [(.tup [(.cst (.str "move")), (.tup []), (.tup [(.cst (.str "a"))]), (.tup [(.cst (.str "b"))])]), (.sub (.var 4) (.cst (.int 0)))])])]) (.var 1))]
    [],
  .ret (.tup [(.var 2), (.var 4)])]⟩
/-- 29: _law_folder(_law_source_here, _law_deep, _law_left); 0 _law_source_here, 1 _law_deep, 2 _law_left, 3 _law_found, 4 _law_name -/
def L_folder : FD := ⟨3, 5,
 [.asgO 3 (.dct [] []),
  .for_ (.nm 4) (.seq (.lst [(.cst (.str "a")), (.cst (.str "b")), (.cst (.str "c")), (.cst (.str "q"))]))
    [.ite (.and [(.cmp .gt (.sub (.var 2) (.cst (.int 0))) (.cst (.int 0))), (.cmp .eq (.cal 23 [(.var 0), (.cst (.int 2))]) (.cst (.int 0)))])
       [.subS (.var 2) (.cst (.int 0)) (.bin .sub (.sub (.var 2) (.cst (.int 0))) (.cst (.int 1))),
        .subO 3 (.var 4) (.cal 24 [(.var 0), (.lst [(.cst (.str "x")), (.cst (.str "y")), (.cst (.str "one")), (.cst (.str "two")), (.cst (.str "more"))])]),
        .ite (.and [(.cmp .gt (.var 1) (.cst (.int 1))), (.cmp .eq (.cal 23 [(.var 0), (.cst (.int 2))]) (.cst (.int 0)))])
          [.subO 3 (.var 4) (.cal 29 [(.var 0), (.bin .sub (.var 1) (.cst (.int 1))), (.var 2)])]
          []]
       []],
  .ret (.blt .tuple [(.blt .sorted [(.lc (.tup [(.var 4), (.sub (.var 3) (.var 4))]) (.nm 4) (.seq (.var 3)) none [4])])])]⟩
/-- 30: _law_tree(_law_source_here); 0 _law_source_here -/
def L_tree : FD := ⟨1, 1,
 [.ret (.cal 29 [(.var 0), (.cst (.int 4)), (.new (.lst [(.cal 23 [(.var 0), (.cst (.int 13))])]))])]⟩
/-- 31: _law_names(_law_scripts); 0 _law_scripts, 1 _law_found, 2 _law_script_here, 3 _law_command_here, 4 _law_path_here, 5 _law_name -/
def L_names : FD := ⟨1, 6,
 [.asgO 1 (.dct [] []),
  .for_ (.nm 2) (.seq (.var 0))
    [.for_ (.nm 3) (.seq (.sub (.var 2) (.cst (.int 1))))
       [.for_ (.nm 4) (.seq (.ite (.cmp .eq (.sub (.var 3) (.cst (.int 0))) (.cst (.str "write"))) (.lst [(.sub (.var 3) (.cst (.int 1)))]) (.sliL (.var 3) (.cst (.int 2)))))
          [.for_ (.nm 5) (.seq (.var 4))
             [.subO 1 (.var 5) (.cst (.bl true))]]]],
  .ret (.blt .sorted [(.blt .list [(.var 1)])])]⟩
/-- 32: _law_is_name(_law_value); 0 _law_value, 1 _law_sign -/
def L_is_name : FD := ⟨1, 2,
 [.ite (.or [(.not (.blt (.isi "str") [(.var 0)])), (.not (.chn .le .le (.cst (.int 1)) (.blt .len [(.var 0)]) (.cst (.int 8))))])
    [.ret (.cst (.bl false))]
    [],
  .ret (.cmp .eq (.lc (.var 1) (.nm 1) (.seq (.var 0)) (some (.not (.chn .le .le (.cst (.str "a")) (.var 1) (.cst (.str "z"))))) [1]) (.lst []))]⟩
/-- 33: _law_is_node(_law_value, _law_folder_here); 0 _law_value, 1 _law_folder_here, 2 _law_pair, 3 _law_names_here -/
def L_is_node : FD := ⟨2, 4,
 [.ite (.not (.blt (.isi "tuple") [(.var 0)]))
    [.ret (.and [(.not (.var 1)), (.cal 32 [(.var 0)])])]
    [],
  .for_ (.nm 2) (.seq (.var 0))
    [.ite (.or [(.not (.blt (.isi "tuple") [(.var 2)])), (.cmp .ne (.blt .len [(.var 2)]) (.cst (.int 2))), (.not (.cal 32 [(.sub (.var 2) (.cst (.int 0)))]))])
       [.ret (.cst (.bl false))]
       [],
     .ite (.not (.cal 33 [(.sub (.var 2) (.cst (.int 1))), (.cst (.bl false))]))
       [.ret (.cst (.bl false))]
       []],
  .asg 3 (.lc (.sub (.var 2) (.cst (.int 0))) (.nm 2) (.seq (.var 0)) none [2]),
  .ret (.cmp .eq (.var 3) (.blt .sortedset [(.var 3)]))]⟩
/-- 34: _law_is_path(_law_value); 0 _law_value, 1 _law_name -/
def L_is_path : FD := ⟨1, 2,
 [.ite (.or [(.not (.blt (.isi "tuple") [(.var 0)])), (.not (.chn .le .le (.cst (.int 1)) (.blt .len [(.var 0)]) (.cst (.int 2))))])
    [.ret (.cst (.bl false))]
    [],
  .ret (.cmp .eq (.lc (.var 1) (.nm 1) (.seq (.var 0)) (some (.not (.cal 32 [(.var 1)]))) [1]) (.lst []))]⟩
/-- 35: _law_is_command(_law_value); 0 _law_value, 1 _law_some, 2 _law_mark, 3 _law_path_here -/
def L_is_command : FD := ⟨1, 4,
 [.ite (.or [(.not (.blt (.isi "tuple") [(.var 0)])), (.cmp .lt (.blt .len [(.var 0)]) (.cst (.int 3))), (.not (.blt (.isi "str") [(.sub (.var 0) (.cst (.int 0)))]))])
    [.ret (.cst (.bl false))]
    [],
  .ite (.cmp .eq (.sub (.var 0) (.cst (.int 0))) (.cst (.str "write")))
    [.ret (.and [(.cmp .eq (.blt .len [(.var 0)]) (.cst (.int 3))), (.cal 34 [(.sub (.var 0) (.cst (.int 1)))]), (.cal 32 [(.sub (.var 0) (.cst (.int 2)))])])]
    [],
  .asgO 1 (.dct ["move", "copy"] [(.lst [(.cst (.str "never")), (.cst (.str "new"))]), (.lst [(.cst (.str "never")), (.cst (.str "new")), (.cst (.str "tree"))])]),
  .updO 1 (.dct ["make", "remove"] [(.lst [(.cst (.str "parents"))]), (.lst [(.cst (.str "quiet")), (.cst (.str "tree"))])]),
  .ite (.or [(.cmp .nin (.sub (.var 0) (.cst (.int 0))) (.var 1)), (.cmp .ne (.blt .len [(.var 0)]) (.ite (.cmp .inn (.sub (.var 0) (.cst (.int 0))) (.tup [(.cst (.str "move")), (.cst (.str "copy"))])) (.cst (.int 4)) (.cst (.int 3))))])
    [.ret (.cst (.bl false))]
    [],
  .ite (.or [(.cmp .ne (.lc (.var 3) (.nm 3) (.seq (.sliL (.var 0) (.cst (.int 2)))) (some (.not (.cal 34 [(.var 3)]))) [3]) (.lst [])), (.not (.blt (.isi "tuple") [(.sub (.var 0) (.cst (.int 1)))]))])
    [.ret (.cst (.bl false))]
    [],
  .ite (.cmp .ne (.lc (.var 2) (.nm 2) (.seq (.sub (.var 0) (.cst (.int 1)))) (some (.not (.blt (.isi "str") [(.var 2)]))) [2]) (.lst []))
    [.ret (.cst (.bl false))]
    [],
  .ret (.cmp .eq (.blt .list [(.sub (.var 0) (.cst (.int 1)))]) (.lc (.var 2) (.nm 2) (.seq (.sub (.var 1) (.sub (.var 0) (.cst (.int 0))))) (some (.cmp .inn (.var 2) (.sub (.var 0) (.cst (.int 1))))) [2]))]⟩
/-- 36: _law_is_script(_law_value); 0 _law_value, 1 _law_command_here -/
def L_is_script : FD := ⟨1, 2,
 [.ite (.or [(.not (.blt (.isi "tuple") [(.var 0)])), (.cmp .ne (.blt .len [(.var 0)]) (.cst (.int 2))), (.not (.blt (.isi "bool") [(.sub (.var 0) (.cst (.int 0)))]))])
    [.ret (.cst (.bl false))]
    [],
  .ite (.or [(.not (.blt (.isi "tuple") [(.sub (.var 0) (.cst (.int 1)))])), (.not (.chn .le .le (.cst (.int 1)) (.blt .len [(.sub (.var 0) (.cst (.int 1)))]) (.cst (.int 5))))])
    [.ret (.cst (.bl false))]
    [],
  .ret (.cmp .eq (.lc (.var 1) (.nm 1) (.seq (.sub (.var 0) (.cst (.int 1)))) (some (.not (.cal 35 [(.var 1)]))) [1]) (.lst []))]⟩
/-- 37: _law_odd(_law_source_here); 0 _law_source_here, 1 _law_items -/
def L_odd : FD := ⟨1, 2,
 [.asg 1 (.lst [(.cst .non), (.cst (.bl true)), (.cst (.bl false)), (.cst (.int 0)), (.cst (.int 5)), (.cst (.str "")), (.cst (.str "a")), (.cst (.str "A")), (.cst (.str "abcdefghi")), (.cst (.str "new")), (.cst (.str "tree")), (.tup []), (.lst []), (.tup [(.cst (.str "a"))]), (.tup [(.cst (.str "a")), (.cst (.str "b")), (.cst (.str "c"))])]),
  .asg 1 (.bin .add (.var 1) (.lst [(.tup [(.cst (.str "new"))]), (.tup [(.cst (.str "tree")), (.cst (.str "never"))]), (.tup [(.cst (.str "a")), (.cst (.str "x"))]), (.tup [(.tup [(.cst (.str "a")), (.cst (.str "x"))])]), (.tup [(.tup [(.cst (.str "b")), (.cst (.str "x"))]), (.tup [(.cst (.str "a")), (.cst (.str "x"))])])])),
  .asg 1 (.bin .add (.var 1) (.lst [(.tup [(.cst (.str "write")), (.tup [(.cst (.str "a"))]), (.cst (.str "x"))]), (.tup [(.cst (.str "make")), (.tup [(.cst (.str "parents"))]), (.tup [(.cst (.str "a"))])]), (.tup [(.cst (.str "make")), (.tup [(.cst (.str "tree"))]), (.tup [(.cst (.str "a"))])])])),
  .ret (.cal 24 [(.var 0), (.bin .add (.var 1) (.lst [(.lst [(.cst (.str "a"))]), (.cst (.str "move")), (.cst (.str "write"))]))])]⟩
/-- 38: _law_spoilt(_law_source_here, _law_value); 0 _law_source_here, 1 _law_value, 2 _law_at, 3 _law_way -/
def L_spoilt : FD := ⟨2, 4,
 [.ite (.or [(.not (.blt (.isi "tuple") [(.var 1)])), (.cmp .eq (.var 1) (.tup [])), (.cmp .eq (.cal 23 [(.var 0), (.cst (.int 6))]) (.cst (.int 0)))])
    [.ret (.cal 37 [(.var 0)])]
    [],
  .par2 2 3 (.cal 23 [(.var 0), (.blt .len [(.var 1)])]) (.cal 23 [(.var 0), (.cst (.int 9))]),
  .ite (.cmp .eq (.var 3) (.cst (.int 0)))
    [.ret (.bin .add (.sliH (.var 1) (.var 2)) (.sliL (.var 1) (.bin .add (.var 2) (.cst (.int 1)))))]
    [],
  .ite (.cmp .eq (.var 3) (.cst (.int 1)))
    [.ret (.bin .add (.sliH (.var 1) (.bin .add (.var 2) (.cst (.int 1)))) (.sliL (.var 1) (.var 2)))]
    [],
  .ite (.cmp .eq (.var 3) (.cst (.int 2)))
    [.ret (.bin .add (.bin .add (.sliH (.var 1) (.var 2)) (.tup [(.cal 37 [(.var 0)])])) (.sliL (.var 1) (.var 2)))]
    [],
  .ite (.cmp .eq (.var 3) (.cst (.int 3)))
    [.ret (.blt .list [(.var 1)])]
    [],
  .ret (.bin .add (.bin .add (.sliH (.var 1) (.var 2)) (.tup [(.cal 38 [(.var 0), (.sub (.var 1) (.var 2))])])) (.sliL (.var 1) (.bin .add (.var 2) (.cst (.int 1)))))]⟩
/-- 39: _law_listed(_law_tree_here, _law_names_here); 0 _law_tree_here, 1 _law_names_here, 2 _law_found, 3 _law_name, 4 _law_node -/
def L_listed : FD := ⟨2, 5,
 [.asgO 2 (.lst []),
  .for_ (.tup [3, 4]) (.seq (.var 0))
    [.appO 2 (.tup [(.bin .add (.var 1) (.tup [(.var 3)])), (.var 4)]),
     .ite (.blt (.isi "tuple") [(.var 4)])
       [.asgO 2 (.bin .add (.var 2) (.cal 39 [(.var 4), (.bin .add (.var 1) (.tup [(.var 3)]))]))]
       []],
  .retO 2]⟩
/-- 40: law(_law_script_here); 0 _law_script_here, 1 _law_k, 2 _law_put, 3 _law_source_here, 4 _law_tree_here, 5 _law_some, 6 _law_rows, 7 _law_turn, 8 _law_value, 9 _law_path_here, 10 _law_row, 11 _law_command_here -/
def L_law : FD := ⟨1, 12,
 [.for_ (.nm 1) (.range1 (.bin .add (.cst (.int 1)) (.blt .min2 [(.blt .len [(.var 0)]), (.cst (.int 10))])))
    [.asg 3 (.cal 22 [(.var 0), (.var 1)]),
     .par2 4 5 (.cal 30 [(.var 3)]) (.cal 28 [(.var 3), (.cst (.int 5))]),
     .asg 6 (.cal 39 [(.var 4), (.tup [])]),
     .ite (.cmp .ne (.cal 9 [(.var 4)]) (.blt .len [(.var 6)]))
       [.ret (.cst (.bl false))]
       [],
     .ite (.cmp .ne (.cal 10 [(.var 4)]) (.blt .sorted [(.lc (.var 10) (.nm 10) (.seq (.var 6)) (some (.blt (.isi "str") [(.sub (.var 10) (.cst (.int 1)))])) [10])]))
       [.ret (.cst (.bl false))]
       [],
     .for_ (.nm 7) (.range1 (.cst (.int 6)))
       [.asg 9 (.cal 25 [(.var 3)]),
        .ite (.cmp .ne (.cal 11 [(.var 4), (.var 9)]) (.get2 (.blt .dict [(.var 6)]) (.var 9) (.cst .non)))
          [.ret (.cst (.bl false))]
          []],
     .ite (.or [(.cmp .ne (.cal 20 [(.var 5)]) (.lc (.sub (.var 11) (.cst (.int 0))) (.nm 11) (.seq (.sub (.var 5) (.cst (.int 1)))) none [11])), (.cmp .ne (.cal 21 [(.var 5)]) (.cal 31 [(.lst [(.var 5)])]))])
       [.ret (.cst (.bl false))]
       [],
     .for_ (.nm 8) (.seq (.lst [(.var 4), (.var 5), (.sub (.sub (.var 5) (.cst (.int 1))) (.cst (.int 0)))]))
       [.for_ (.nm 7) (.range1 (.cst (.int 5)))
          [.ite (.cmp .ne (.cal 8 [(.var 8)]) (.and [(.blt (.isi "tuple") [(.var 8)]), (.cal 33 [(.var 8), (.cst (.bl true))])]))
             [.ret (.cst (.bl false))]
             [],
           .ite (.or [(.cmp .ne (.cal 18 [(.var 8)]) (.cal 35 [(.var 8)])), (.cmp .ne (.cal 19 [(.var 8)]) (.cal 36 [(.var 8)]))])
             [.ret (.cst (.bl false))]
             [],
           .ite (.or [(.not (.blt (.isi "bool") [(.cal 19 [(.var 8)])])), (.not (.blt (.isi "bool") [(.cal 8 [(.var 8)])]))])
             [.ret (.cst (.bl false))]
             [],
           .asg 8 (.cal 38 [(.var 3), (.var 8)])]]],
  .asg 2 (.tup [(.cst (.str "write")), (.tup [(.cst (.str "a")), (.cst (.str "b"))]), (.cst (.str "abcdefgh"))]),
  .ite (.or [(.cmp .isn (.cal 19 [(.tup [(.cst (.bl true)), (.bin .mul (.tup [(.var 2)]) (.cst (.int 5)))])]) (.cst (.bl true))), (.cmp .isn (.cal 19 [(.tup [(.cst (.bl true)), (.bin .mul (.tup [(.var 2)]) (.cst (.int 6)))])]) (.cst (.bl false)))])
    [.ret (.cst (.bl false))]
    [],
  .ite (.cal 18 [(.tup [(.cst (.str "write")), (.tup [(.cst (.str "a")), (.cst (.str "b"))]), (.cst (.str "abcdefghi"))])])
    [.ret (.cst (.bl false))]
    [],
  .ret (.cal 18 [(.tup [(.cst (.str "copy")), (.tup [(.cst (.str "never")), (.cst (.str "new")), (.cst (.str "tree"))]), (.tup [(.cst (.str "a"))]), (.tup [(.cst (.str "a"))])])])]⟩
def tab : List FD := [p_is_name, p_is_node, p_is_path, p_is_folder, p_need_tree, p_all_nodes, p_all_files, p_inner_node, p_is_tree, p_count_nodes, p_files, p_at_path, p_are_marks, p_is_good_command, p_is_good_script, p_need_script, p_paths_of, p_names_of, p_is_command, p_is_script, p_words, p_names_in, L_source, L_draw, L_of, L_path, L_marks, L_command, L_script, L_folder, L_tree, L_names, L_is_name, L_is_node, L_is_path, L_is_command, L_is_script, L_odd, L_spoilt, L_listed, L_law]
theorem at_p_is_name : tab[0]? = some p_is_name := rfl
theorem at_p_is_node : tab[1]? = some p_is_node := rfl
theorem at_p_is_path : tab[2]? = some p_is_path := rfl
theorem at_p_is_folder : tab[3]? = some p_is_folder := rfl
theorem at_p_need_tree : tab[4]? = some p_need_tree := rfl
theorem at_p_all_nodes : tab[5]? = some p_all_nodes := rfl
theorem at_p_all_files : tab[6]? = some p_all_files := rfl
theorem at_p_inner_node : tab[7]? = some p_inner_node := rfl
theorem at_p_is_tree : tab[8]? = some p_is_tree := rfl
theorem at_p_count_nodes : tab[9]? = some p_count_nodes := rfl
theorem at_p_files : tab[10]? = some p_files := rfl
theorem at_p_at_path : tab[11]? = some p_at_path := rfl
theorem at_p_are_marks : tab[12]? = some p_are_marks := rfl
theorem at_p_is_good_command : tab[13]? = some p_is_good_command := rfl
theorem at_p_is_good_script : tab[14]? = some p_is_good_script := rfl
theorem at_p_need_script : tab[15]? = some p_need_script := rfl
theorem at_p_paths_of : tab[16]? = some p_paths_of := rfl
theorem at_p_names_of : tab[17]? = some p_names_of := rfl
theorem at_p_is_command : tab[18]? = some p_is_command := rfl
theorem at_p_is_script : tab[19]? = some p_is_script := rfl
theorem at_p_words : tab[20]? = some p_words := rfl
theorem at_p_names_in : tab[21]? = some p_names_in := rfl
theorem at_L_source : tab[22]? = some L_source := rfl
theorem at_L_draw : tab[23]? = some L_draw := rfl
theorem at_L_of : tab[24]? = some L_of := rfl
theorem at_L_path : tab[25]? = some L_path := rfl
theorem at_L_marks : tab[26]? = some L_marks := rfl
theorem at_L_command : tab[27]? = some L_command := rfl
theorem at_L_script : tab[28]? = some L_script := rfl
theorem at_L_folder : tab[29]? = some L_folder := rfl
theorem at_L_tree : tab[30]? = some L_tree := rfl
theorem at_L_names : tab[31]? = some L_names := rfl
theorem at_L_is_name : tab[32]? = some L_is_name := rfl
theorem at_L_is_node : tab[33]? = some L_is_node := rfl
theorem at_L_is_path : tab[34]? = some L_is_path := rfl
theorem at_L_is_command : tab[35]? = some L_is_command := rfl
theorem at_L_is_script : tab[36]? = some L_is_script := rfl
theorem at_L_odd : tab[37]? = some L_odd := rfl
theorem at_L_spoilt : tab[38]? = some L_spoilt := rfl
theorem at_L_listed : tab[39]? = some L_listed := rfl
theorem at_L_law : tab[40]? = some L_law := rfl
end Mp
set_option Elab.async false
set_option linter.all false
set_option maxRecDepth 100000
set_option maxHeartbeats 4000000
/-! the evaluator's operations upon known values -/
namespace Mp
open PySem PySem.Spec PyProof.Rows
open PySem.PyData (strOk)
mutual
def D.pl : D → Bool
  | .non | .bl _ | .int _ => true
  | .str z => decide (z.length ≤ 1000) && strOk z
  | .tup xs => decide (xs.length ≤ 1000) && D.pls xs
  | .lst xs => decide (xs.length ≤ 1000) && D.pls xs
  | _ => false
def D.pls : List D → Bool
  | [] => true
  | x :: xs => D.pl x && D.pls xs
end
mutual
def D.dp : D → Nat
  | .tup xs => D.dps xs + 1
  | .lst xs => D.dps xs + 1
  | _ => 0
def D.dps : List D → Nat
  | [] => 0
  | x :: xs => max (D.dp x) (D.dps xs)
end
theorem D.pls_mem : ∀ {xs : List D}, D.pls xs = true → ∀ x ∈ xs, x.pl = true
  | x :: xs, h, y, hy => by
    simp only [D.pls, Bool.and_eq_true] at h
    rcases List.mem_cons.mp hy with rfl | hy
    · exact h.1
    · exact D.pls_mem h.2 y hy
theorem D.pls_of : ∀ {xs : List D}, (∀ x ∈ xs, x.pl = true) → D.pls xs = true
  | [], _ => rfl
  | x :: xs, h => by
    simp only [D.pls, Bool.and_eq_true]
    exact ⟨h x List.mem_cons_self, D.pls_of fun y hy => h y (List.mem_cons_of_mem _ hy)⟩
theorem D.dps_mem : ∀ {xs : List D}, ∀ x ∈ xs, x.dp ≤ D.dps xs
  | x :: xs, y, hy => by
    simp only [D.dps]
    rcases List.mem_cons.mp hy with rfl | hy
    · exact Nat.le_max_left _ _
    · exact Nat.le_trans (D.dps_mem y hy) (Nat.le_max_right _ _)
theorem D.dps_le : ∀ {xs : List D} {n : Nat}, (∀ x ∈ xs, x.dp ≤ n) → D.dps xs ≤ n
  | [], n, _ => Nat.zero_le _
  | x :: xs, n, h => Nat.max_le.mpr ⟨h x List.mem_cons_self, D.dps_le fun y hy => h y (List.mem_cons_of_mem _ hy)⟩
mutual
theorem D.canLay : ∀ {d : D}, d.pl = true → d.pd.canLay0 = true
  | .non, _ => rfl
  | .bl _, _ => rfl
  | .int _, _ => rfl
  | .str z, h => by
    simp only [D.pl, Bool.and_eq_true] at h
    simpa [D.pd, PyData.canLay0] using h.2
  | .tup xs, h => by
    simp only [D.pl, Bool.and_eq_true] at h
    simpa [D.pd, PyData.canLay0] using D.canLays h.2
  | .lst xs, h => by
    simp only [D.pl, Bool.and_eq_true] at h
    simpa [D.pd, PyData.canLay0] using D.canLays h.2
  | .dic _ _, h => by simp [D.pl] at h
  | .ref _, h => by simp [D.pl] at h
  | .cel _, h => by simp [D.pl] at h
theorem D.canLays : ∀ {xs : List D}, D.pls xs = true → PyData.canLayAll0 (D.pds xs) = true
  | [], _ => rfl
  | x :: xs, h => by
    simp only [D.pls, Bool.and_eq_true] at h
    simp only [D.pds, PyData.canLayAll0, Bool.and_eq_true]
    exact ⟨D.canLay h.1, D.canLays h.2⟩
end
mutual
theorem D.depth : ∀ {d : D}, d.pl = true → d.pd.depth = d.dp
  | .non, _ => rfl
  | .bl _, _ => rfl
  | .int _, _ => rfl
  | .str z, h => rfl
  | .tup xs, h => by
    simp only [D.pl, Bool.and_eq_true] at h
    simp only [D.pd, PyData.depth, D.dp, D.depths h.2]
  | .lst xs, h => by
    simp only [D.pl, Bool.and_eq_true] at h
    simp only [D.pd, PyData.depth, D.dp, D.depths h.2]
  | .dic _ _, h => by simp [D.pl] at h
  | .ref _, h => by simp [D.pl] at h
  | .cel _, h => by simp [D.pl] at h
theorem D.depths : ∀ {xs : List D}, D.pls xs = true → PyData.depthAll (D.pds xs) = D.dps xs
  | [], _ => rfl
  | x :: xs, h => by
    simp only [D.pls, Bool.and_eq_true] at h
    simp only [D.pds, PyData.depthAll, D.dps, D.depth h.1, D.depths h.2]
end
theorem D.shaped {d : D} (h : d.pl = true) (hd : d.dp ≤ 64) : SeqAt.shaped d.pd = true := by
  unfold SeqAt.shaped
  rw [D.canLay h, D.depth h]
  simpa using hd
mutual
theorem D.eqv_refl : ∀ {d : D}, d.pl = true → PyData.eqv d.pd d.pd = true
  | .non, _ => rfl
  | .bl b, _ => by simp [D.pd, PyData.eqv]
  | .int _, _ => by simp [D.pd, PyData.eqv]
  | .str z, h => by simp [D.pd, PyData.eqv]
  | .tup xs, h => by
    simp only [D.pl, Bool.and_eq_true] at h
    simp only [D.pd, PyData.eqv, D.eqvs_refl h.2]
  | .lst xs, h => by
    simp only [D.pl, Bool.and_eq_true] at h
    simp only [D.pd, PyData.eqv, D.eqvs_refl h.2]
  | .dic _ _, h => by simp [D.pl] at h
  | .ref _, h => by simp [D.pl] at h
  | .cel _, h => by simp [D.pl] at h
theorem D.eqvs_refl : ∀ {xs : List D}, D.pls xs = true → PyData.eqvAll (D.pds xs) (D.pds xs) = true
  | [], _ => rfl
  | x :: xs, h => by
    simp only [D.pls, Bool.and_eq_true] at h
    simp only [D.pds, PyData.eqvAll, D.eqv_refl h.1, D.eqvs_refl h.2, Bool.and_self]
end
theorem D.eqq_of {x y : D} (hx : x.pl = true) (hy : y.pl = true) (dx : x.dp ≤ 64) (dy : y.dp ≤ 64) : D.eqq x y = some (PyData.eqv x.pd y.pd) := by
  unfold D.eqq
  rw [D.shaped hx dx, D.shaped hy dy]
  rfl
theorem D.eqq_refl {x : D} (hx : x.pl = true) (dx : x.dp ≤ 64) : D.eqq x x = some true := by
  rw [D.eqq_of hx hx dx dx, D.eqv_refl hx]

@[simp] theorem fresh_2 (d : D) : (fresh d).2 = .n := rfl
@[simp] theorem held_2 (d : D) : (held d).2 = .f := rfl
/-! ### what a value is -/
def allB (bs : List Bool) : Bool := bs.all id
theorem allB_map {α : Type} (xs : List α) (f : α → Bool) : allB (xs.map f) = xs.all f := by simp [allB, List.all_map, Function.comp_def]
section
variable (s : Sto)
@[simp] theorem isi_str_str (z : Str) : bltF s (.isi "str") [.str z] = some (held (.bl true)) := rfl
@[simp] theorem isi_str_non : bltF s (.isi "str") [.non] = some (held (.bl false)) := rfl
@[simp] theorem isi_str_bl (b : Bool) : bltF s (.isi "str") [.bl b] = some (held (.bl false)) := rfl
@[simp] theorem isi_str_int (b : Int) : bltF s (.isi "str") [.int b] = some (held (.bl false)) := rfl
@[simp] theorem isi_str_tup (b : List D) : bltF s (.isi "str") [.tup b] = some (held (.bl false)) := rfl
@[simp] theorem isi_str_lst (b : List D) : bltF s (.isi "str") [.lst b] = some (held (.bl false)) := rfl
@[simp] theorem isi_tup_str (z : Str) : bltF s (.isi "tuple") [.str z] = some (held (.bl false)) := rfl
@[simp] theorem isi_tup_non : bltF s (.isi "tuple") [.non] = some (held (.bl false)) := rfl
@[simp] theorem isi_tup_bl (b : Bool) : bltF s (.isi "tuple") [.bl b] = some (held (.bl false)) := rfl
@[simp] theorem isi_tup_int (b : Int) : bltF s (.isi "tuple") [.int b] = some (held (.bl false)) := rfl
@[simp] theorem isi_tup_tup (b : List D) : bltF s (.isi "tuple") [.tup b] = some (held (.bl true)) := rfl
@[simp] theorem isi_tup_lst (b : List D) : bltF s (.isi "tuple") [.lst b] = some (held (.bl false)) := rfl
@[simp] theorem isi_bool_str (z : Str) : bltF s (.isi "bool") [.str z] = some (held (.bl false)) := rfl
@[simp] theorem isi_bool_non : bltF s (.isi "bool") [.non] = some (held (.bl false)) := rfl
@[simp] theorem isi_bool_bl (b : Bool) : bltF s (.isi "bool") [.bl b] = some (held (.bl true)) := rfl
@[simp] theorem isi_bool_int (b : Int) : bltF s (.isi "bool") [.int b] = some (held (.bl false)) := rfl
@[simp] theorem isi_bool_tup (b : List D) : bltF s (.isi "bool") [.tup b] = some (held (.bl false)) := rfl
@[simp] theorem isi_bool_lst (b : List D) : bltF s (.isi "bool") [.lst b] = some (held (.bl false)) := rfl
def isTup : D → Bool
  | .tup _ => true
  | _ => false
def isStr : D → Bool
  | .str _ => true
  | _ => false
def isBl : D → Bool
  | .bl _ => true
  | _ => false
theorem isi_tup {d : D} (h : d.pl = true) : bltF s (.isi "tuple") [d] = some (held (.bl (isTup d))) := by cases d <;> first | rfl | simp [D.pl] at h
theorem isi_str {d : D} (h : d.pl = true) : bltF s (.isi "str") [d] = some (held (.bl (isStr d))) := by cases d <;> first | rfl | simp [D.pl] at h
theorem isi_bool {d : D} (h : d.pl = true) : bltF s (.isi "bool") [d] = some (held (.bl (isBl d))) := by cases d <;> first | rfl | simp [D.pl] at h
/-! ### lengths, order, equality of plain things -/
@[simp] theorem len_str (z : Str) : bltF s .len [.str z] = if z.length ≤ 16777216 then some (held (.int z.length)) else none := rfl
@[simp] theorem len_tup (xs : List D) : bltF s .len [.tup xs] = some (held (.int xs.length)) := rfl
@[simp] theorem len_lst (xs : List D) : bltF s .len [.lst xs] = some (held (.int xs.length)) := rfl
@[simp] theorem len_cel (xs : List D) : bltF s .len [.cel xs] = some (held (.int xs.length)) := rfl
@[simp] theorem le_int (i j : Int) : cmpF s .le (.int i) (.int j) = some (decide (i ≤ j)) := rfl
@[simp] theorem lt_int (i j : Int) : cmpF s .lt (.int i) (.int j) = some (decide (i < j)) := rfl
@[simp] theorem gt_int (i j : Int) : cmpF s .gt (.int i) (.int j) = some (decide (j < i)) := rfl
@[simp] theorem ge_int (i j : Int) : cmpF s .ge (.int i) (.int j) = some (decide (j ≤ i)) := rfl
@[simp] theorem eq_int (i j : Int) : cmpF s .eq (.int i) (.int j) = some (decide (i = j)) := by
  show D.eqq (.int i) (.int j) = _
  rw [D.eqq_of rfl rfl (Nat.zero_le _) (Nat.zero_le _)]
  simp [D.pd, PyData.eqv]
  by_cases h : i = j <;> simp [h]
@[simp] theorem ne_int (i j : Int) : cmpF s .ne (.int i) (.int j) = some (!decide (i = j)) := by
  have := eq_int s i j
  show (D.eqq (.int i) (.int j)).map (!·) = _
  rw [show D.eqq (.int i) (.int j) = _ from this]
  rfl
@[simp] theorem strOk_pl (z : Str) : (D.str z).pl = (decide (z.length ≤ 1000) && strOk z) := by simp [D.pl]
theorem eq_str' {a b : Str} (ha : strOk a = true) (hb : strOk b = true) : cmpF s .eq (.str a) (.str b) = some (decide (a = b)) := by
  show D.eqq (.str a) (.str b) = _
  unfold D.eqq
  have h1 : SeqAt.shaped (D.str a).pd = true := by unfold SeqAt.shaped; simp [D.pd, PyData.canLay0, PyData.depth, ha]
  have h2 : SeqAt.shaped (D.str b).pd = true := by unfold SeqAt.shaped; simp [D.pd, PyData.canLay0, PyData.depth, hb]
  rw [h1, h2]
  simp [D.pd, PyData.eqv]
  by_cases h : a = b <;> simp [h]
theorem ne_str' {a b : Str} (ha : strOk a = true) (hb : strOk b = true) : cmpF s .ne (.str a) (.str b) = some (!decide (a = b)) := by
  show (D.eqq (.str a) (.str b)).map (!·) = _
  rw [show D.eqq (.str a) (.str b) = _ from eq_str' s ha hb]
  rfl
@[simp] theorem lt_str (a b : Str) : cmpF s .lt (.str a) (.str b) = some (decide (a.cps.toList < b.cps.toList)) := rfl
@[simp] theorem le_str (a b : Str) : cmpF s .le (.str a) (.str b) = some (!decide (b.cps.toList < a.cps.toList)) := rfl
@[simp] theorem isn_non (x : D) : cmpF s .isn x .non = some (match x with | .non => false | _ => true) := rfl
@[simp] theorem is_non (x : D) : cmpF s .is x .non = some (match x with | .non => true | _ => false) := rfl
@[simp] theorem is_bl (a b : Bool) : cmpF s .is (.bl a) (.bl b) = some (decide (a = b)) := rfl
@[simp] theorem isn_bl (a b : Bool) : cmpF s .isn (.bl a) (.bl b) = some (!decide (a = b)) := rfl
@[simp] theorem inn_sign (c : Nat) (z : Str) : cmpF s .inn (.str ⟨#[c]⟩) (.str z) = some (decide (c ∈ z.cps.toList)) := rfl
/-- x in a tuple -/
theorem inn_tup {x : D} {xs : List D} (hx : SeqAt.shaped x.pd = true) (hs : SeqAt.shaped (D.lst xs).pd = true) : cmpF s .inn x (.tup xs) = some (xs.any fun z => PyData.eqv z.pd x.pd) := by
  show (if _ then _ else _) = _
  rw [hx, hs]
  rfl
theorem inn_lst {x : D} {xs : List D} (hx : SeqAt.shaped x.pd = true) (hs : SeqAt.shaped (D.lst xs).pd = true) : cmpF s .inn x (.lst xs) = some (xs.any fun z => PyData.eqv z.pd x.pd) := by
  show (if _ then _ else _) = _
  rw [hx, hs]
  rfl
theorem nin_tup {x : D} {xs : List D} (hx : SeqAt.shaped x.pd = true) (hs : SeqAt.shaped (D.lst xs).pd = true) : cmpF s .nin x (.tup xs) = some (!xs.any fun z => PyData.eqv z.pd x.pd) := by
  show (if _ then _ else _ : Option Bool).map (!·) = _
  rw [hx, hs]
  rfl
theorem nin_lst {x : D} {xs : List D} (hx : SeqAt.shaped x.pd = true) (hs : SeqAt.shaped (D.lst xs).pd = true) : cmpF s .nin x (.lst xs) = some (!xs.any fun z => PyData.eqv z.pd x.pd) := by
  show (if _ then _ else _ : Option Bool).map (!·) = _
  rw [hx, hs]
  rfl
@[simp] theorem inn_dic (x : D) (ks : List NestedKey) (vs : List D) : cmpF s .inn x (.dic ks vs) = (keyOf x).map (has ks) := by cases x <;> rfl
@[simp] theorem nin_dic (x : D) (ks : List NestedKey) (vs : List D) : cmpF s .nin x (.dic ks vs) = (keyOf x).map fun k => !has ks k := by
  show (cmpF.inF s x (.dic ks vs)).map (!·) = _
  rw [show cmpF.inF s x (.dic ks vs) = (keyOf x).map (has ks) by cases x <;> rfl]
  simp [Function.comp_def]
/-! ### arithmetic -/
@[simp] theorem add_int (i j : Int) : binF s .add (.int i) (.int j) = some (held (.int (i + j))) := rfl
@[simp] theorem sub_int (i j : Int) : binF s .sub (.int i) (.int j) = some (held (.int (i - j))) := rfl
@[simp] theorem mul_int (i j : Int) : binF s .mul (.int i) (.int j) = if (-(2 ^ 64) < i ∧ i < 2 ^ 64) ∨ (-(2 ^ 64) < j ∧ j < 2 ^ 64) then some (held (.int (i * j))) else none := rfl
@[simp] theorem fdiv_int (i j : Int) : binF s .fdiv (.int i) (.int j) = if 0 < j ∧ j < 1073741824 then some (held (.int (i / j))) else none := rfl
@[simp] theorem mod_int (i j : Int) : binF s .mod (.int i) (.int j) = if 0 < j then some (held (.int (i % j))) else none := rfl
@[simp] theorem pow_int (i j : Int) : binF s .pow (.int i) (.int j) = if 0 ≤ j ∧ j ≤ 1000000 ∧ i.natAbs < 2 ^ 64 then some (held (.int (i ^ j.toNat))) else none := rfl
@[simp] theorem add_str (a b : Str) : binF s .add (.str a) (.str b) = if a.length + b.length ≤ 16777216 then some (held (.str (a ++ b))) else none := rfl
@[simp] theorem add_tup (a b : List D) : binF s .add (.tup a) (.tup b) = if a.length + b.length ≤ 16777216 then some (held (.tup (a ++ b))) else none := rfl
@[simp] theorem add_lst (a b : List D) : binF s .add (.lst a) (.lst b) = if a.length + b.length ≤ 16777216 then some (fresh (.lst (a ++ b))) else none := rfl
@[simp] theorem mul_tup (a : List D) (k : Int) : binF s .mul (.tup a) (.int k) = if a ≠ [] ∧ 2 ≤ k ∧ k ≤ 1000 ∧ a.length ≤ 1000 then some (held (.tup (List.replicate k.toNat a).flatten)) else none := rfl
@[simp] theorem int_int (i : Int) : bltF s .int [.int i] = some (held (.int i)) := rfl
@[simp] theorem abs_int (i : Int) : bltF s .abs [.int i] = some (held (.int (if i < 0 then -i else i))) := rfl
@[simp] theorem min_int (i j : Int) : bltF s .min2 [.int i, .int j] = some (held (.int (if j < i then j else i))) := rfl
/-! ### parts -/
theorem atI_lt {α : Type} {xs : List α} {i : Int} (h0 : 0 ≤ i) (h : i.toNat < xs.length) : L2.atI xs i = some (xs[i.toNat]'h) := by
  unfold L2.atI L2.ixN
  rw [if_pos h0, if_pos (by omega)]
  simp [List.getElem?_eq_getElem h]
@[simp] theorem atI_0 {α : Type} (x : α) (xs : List α) : L2.atI (x :: xs) 0 = some x := by rw [atI_lt (by decide) (by simp)]; rfl
@[simp] theorem atI_1 {α : Type} (x y : α) (xs : List α) : L2.atI (x :: y :: xs) 1 = some y := by rw [atI_lt (by decide) (by simp)]; rfl
@[simp] theorem atI_2 {α : Type} (x y z : α) (xs : List α) : L2.atI (x :: y :: z :: xs) 2 = some z := by rw [atI_lt (by decide) (by simp)]; rfl
@[simp] theorem atI_3 {α : Type} (x y z u : α) (xs : List α) : L2.atI (x :: y :: z :: u :: xs) 3 = some u := by rw [atI_lt (by decide) (by simp)]; rfl
@[simp] theorem sub_tup (xs : List D) (i : Int) : subF s (.tup xs) (.int i) = (L2.atI xs i).map held := rfl
@[simp] theorem sub_lst (xs : List D) (i : Int) : subF s (.lst xs) (.int i) = (L2.atI xs i).map held := rfl
@[simp] theorem sub_cel (xs : List D) (i : Int) : subF s (.cel xs) (.int i) = (L2.atI xs i).map held := rfl
@[simp] theorem sub_dic (ks : List NestedKey) (vs : List D) (x : D) : subF s (.dic ks vs) x = (keyOf x).bind fun k => (look ks vs k).map held := by
  have e : ∀ x, subF s (.dic ks vs) x = (match dicV s (.dic ks vs), keyOf x with
      | some (ks, vs), some k => (look ks vs k).map held
      | _, _ => none) := fun x => by cases x <;> rfl
  rw [e]
  cases keyOf x <;> rfl
@[simp] theorem sliF_tup (xs : List D) (lo hi : Option Int) : sliF s (.tup xs) lo hi = some (held (.tup (cut xs lo hi))) := rfl
@[simp] theorem sliF_lst (xs : List D) (lo hi : Option Int) : sliF s (.lst xs) lo hi = some (fresh (.lst (cut xs lo hi))) := rfl
theorem cut_lo (xs : List D) (k : Nat) : cut xs (some k) none = xs.drop k := by
  unfold cut
  rw [HT.sIx_nat, HT.sIx_none, List.take_of_length_le]
  · by_cases h : k ≤ xs.length
    · rw [Nat.min_eq_left h]
    · rw [Nat.min_eq_right (by omega), List.drop_eq_nil_of_le (Nat.le_refl _), List.drop_eq_nil_of_le (by omega)]
  · simp
theorem cut_hi (xs : List D) (k : Nat) : cut xs none (some k) = xs.take k := by
  unfold cut
  rw [HT.sIx_nat, HT.sIx_none]
  simp only [List.drop_zero, Nat.sub_zero]
  by_cases h : k ≤ xs.length
  · rw [Nat.min_eq_left h]
  · rw [Nat.min_eq_right (by omega), List.take_of_length_le (Nat.le_refl _), List.take_of_length_le (by omega)]
theorem cut_lh (xs : List D) (a b : Nat) : cut xs (some a) (some b) = (xs.take b).drop a := by
  unfold cut
  rw [HT.sIx_nat, HT.sIx_nat]
  rw [← List.drop_take]
  by_cases ha : a ≤ xs.length
  · rw [Nat.min_eq_left ha]
    by_cases h : b ≤ xs.length
    · rw [Nat.min_eq_left h]
    · rw [Nat.min_eq_right (by omega), List.take_of_length_le (Nat.le_refl _), List.take_of_length_le (by omega)]
  · rw [Nat.min_eq_right (by omega : xs.length ≤ a)]
    rw [List.drop_eq_nil_of_le (by simp; omega), List.drop_eq_nil_of_le (by simp; omega)]
@[simp] theorem seqI_tup (xs : List D) (t : Tag) : seqI s (.tup xs, t) = some ⟨xs, match t with | .b => .own | _ => .held⟩ := by cases t <;> rfl
@[simp] theorem seqI_lst (xs : List D) (t : Tag) : seqI s (.lst xs, t) = some ⟨xs, match t with | .b => .own | _ => .held⟩ := by cases t <;> rfl
@[simp] theorem seqI_str (z : Str) (t : Tag) : seqI s (.str z, t) = if z.length ≤ 16777216 then some ⟨signs z, .held⟩ else none := rfl
@[simp] theorem seqI_dic (ks : List NestedKey) (vs : List D) (t : Tag) : seqI s (.dic ks vs, t) = some ⟨ofKeys ks, match t with | .b => .own | _ => .held⟩ := by cases t <;> rfl
@[simp] theorem seqI_held (d : D) : seqI s (held d) = seqI s (d, .f) := rfl
@[simp] theorem seqI_fresh (d : D) : seqI s (fresh d) = seqI s (d, .n) := rfl
@[simp] theorem still_held (o : Bool) : Src.held.still o s = true := rfl
@[simp] theorem still_own (o : Bool) : Src.own.still o s = o := rfl
@[simp] theorem list_tup (xs : List D) : bltF s .list [.tup xs] = some (fresh (.lst xs)) := rfl
@[simp] theorem list_lst (xs : List D) : bltF s .list [.lst xs] = some (fresh (.lst xs)) := rfl
@[simp] theorem list_dic (ks : List NestedKey) (vs : List D) : bltF s .list [.dic ks vs] = some (fresh (.lst (ofKeys ks))) := rfl
@[simp] theorem tuple_lst (xs : List D) : bltF s .tuple [.lst xs] = some (held (.tup xs)) := rfl
@[simp] theorem tuple_tup (xs : List D) : bltF s .tuple [.tup xs] = some (held (.tup xs)) := rfl
@[simp] theorem all_lst (xs : List D) : bltF s .all [.lst xs] = (bls xs).map fun bs => held (.bl (allB bs)) := rfl
@[simp] theorem bls_map (bs : List Bool) : bls (bs.map D.bl) = some bs := by
  induction bs with
  | nil => rfl
  | cons b bs ih => simp [bls, ih]
theorem bls_mapf {α : Type} (xs : List α) (f : α → Bool) : bls (xs.map fun x => D.bl (f x)) = some (xs.map f) := by
  rw [show (xs.map fun x => D.bl (f x)) = (xs.map f).map D.bl by simp]
  exact bls_map _
@[simp] theorem sorted_lst (xs : List D) : bltF s .sorted [.lst xs] = (sortD xs).map fun ys => fresh (.lst ys) := rfl
@[simp] theorem bindT_nm (r : Env) (i : Nat) (d : D) : bindT r (.nm i) d = some (r.set i (.val d)) := rfl
@[simp] theorem bindT_t2 (r : Env) (i j : Nat) (x y : D) : bindT r (.tup [i, j]) (.tup [x, y]) = some ((r.set i (.val x)).set j (.val y)) := rfl
@[simp] theorem bindT_t3 (r : Env) (i j k : Nat) (x y z : D) : bindT r (.tup [i, j, k]) (.tup [x, y, z]) = some (((r.set i (.val x)).set j (.val y)).set k (.val z)) := rfl
@[simp] theorem bindT_t4 (r : Env) (i j k l : Nat) (x y z u : D) : bindT r (.tup [i, j, k, l]) (.tup [x, y, z, u]) = some ((((r.set i (.val x)).set j (.val y)).set k (.val z)).set l (.val u)) := rfl
@[simp] theorem wipe_nil (r : Env) : wipeE r [] = r := rfl
@[simp] theorem wipe_cons (r : Env) (v : Nat) (vs : List Nat) : wipeE r (v :: vs) = (wipeE r vs).set v .no := rfl
end
/-! ### comprehensions that are pure -/
/-- the elements by a function -/
theorem lc_map {ok : Sto → Bool} {f : D → Sto → Res (Option D)} {s : Sto} {xs : List D} {Q : List D → Sto → Prop} (F : D → D) (h0 : ok s = true) (hl : xs.length ≤ 16777216) (h : ∀ x ∈ xs, (f x s).P fun o t => o = some (F x) ∧ t = s) (q : Q (xs.map F) s) : (lcLoop ok f xs [] s).P Q := by
  have := lc_pure (acc := []) h0 (fun x => some (F x)) (by simpa using hl) fun x hx => (h x hx).eq
  rw [this]
  simpa using q
theorem lc_filter {ok : Sto → Bool} {f : D → Sto → Res (Option D)} {s : Sto} {xs : List D} {Q : List D → Sto → Prop} (F : D → Option D) (h0 : ok s = true) (hl : xs.length ≤ 16777216) (h : ∀ x ∈ xs, (f x s).P fun o t => o = F x ∧ t = s) (q : Q (xs.filterMap F) s) : (lcLoop ok f xs [] s).P Q := by
  have := lc_pure (acc := []) h0 F (by simpa using hl) fun x hx => (h x hx).eq
  rw [this]
  simpa using q
end Mp
set_option Elab.async false
set_option linter.all false
set_option maxRecDepth 100000
set_option maxHeartbeats 4000000
/-! texts in order -/
namespace Mp
open PySem PySem.Spec PyProof.Rows
open PySem.PyData (strOk)
abbrev LtS (a b : Str) : Prop := a.cps.toList < b.cps.toList
instance (a b : Str) : Decidable (LtS a b) := inferInstanceAs (Decidable (_ < _))
theorem LtS.trans {a b c : Str} (h : LtS a b) (g : LtS b c) : LtS a c := List.lt_trans h g
theorem LtS.irrefl (a : Str) : ¬ LtS a a := List.lt_irrefl _
theorem LtS.tri {a b : Str} (h : ¬ LtS a b) (g : ¬ LtS b a) : a = b := W.str_of_cps (List.le_antisymm (List.not_lt.mp g) (List.not_lt.mp h))
abbrev leS : Str → Str → Bool := W.dataLe false PyData.str
theorem leS_eq (a b : Str) : leS a b = !decide (LtS b a) := by
  have h1 : ∀ x : Bool, (x || (!(itemOrd.blt (Sum.inr a.cps.toList) (Sum.inr b.cps.toList)) && false)) = x := fun x => by simp
  have h2 : lexLt itemOrd [Sum.inr b.cps.toList] [Sum.inr a.cps.toList] = decide (LtS b a) := h1 _
  show (!lexLt itemOrd (W.keyToks (.str b)) (W.keyToks (.str a))) = _
  simp only [W.keyToks]
  rw [h2]
theorem leS_trans (a b c : Str) (h : leS a b = true) (g : leS b c = true) : leS a c = true := by
  rw [leS_eq] at *
  simp only [Bool.not_eq_true', decide_eq_false_iff_not] at *
  intro z
  by_cases hb : LtS b a
  · exact h hb
  · by_cases e : LtS a b
    · exact g (z.trans e)
    · have := LtS.tri hb e
      subst this
      exact g z
theorem leS_total (a b : Str) : (leS a b || leS b a) = true := by
  rw [leS_eq, leS_eq]
  by_cases h : LtS b a
  · have : ¬ LtS a b := fun g => LtS.irrefl _ (h.trans g)
    simp [this]
  · simp [h]
def Asc (zs : List Str) : Prop := zs.Pairwise LtS
theorem Asc.nodup {zs : List Str} (h : Asc zs) : zs.Nodup := by
  refine List.Pairwise.imp (R := LtS) (fun {a b} g => ?_) h
  exact fun (e : a = b) => LtS.irrefl a (by rw [← e] at g; exact g)
theorem Asc.sorted {zs : List Str} (h : Asc zs) : zs.mergeSort leS = zs := List.mergeSort_of_pairwise (h.imp fun {a b} g => by
  rw [leS_eq]
  simp only [Bool.not_eq_true', decide_eq_false_iff_not]
  exact fun z => LtS.irrefl _ (z.trans g))
theorem eraseDups_of_nodup {α : Type} [BEq α] [LawfulBEq α] : ∀ {l : List α}, l.Nodup → l.eraseDups = l
  | [], _ => rfl
  | a :: l, h => by
    rw [List.eraseDups_cons]
    have h := List.nodup_cons.mp h
    rw [List.filter_eq_self.mpr, eraseDups_of_nodup h.2]
    intro b hb
    simp only [Bool.not_eq_true', beq_eq_false_iff_ne]
    intro e
    exact h.1 (by rw [← e]; exact hb)
theorem nodup_eraseDups {α : Type} [BEq α] [LawfulBEq α] : ∀ (n : Nat) {l : List α}, l.length ≤ n → l.eraseDups.Nodup
  | _, [], _ => by simp
  | 0, _ :: _, h => by simp at h
  | n + 1, a :: l, h => by
    rw [List.eraseDups_cons]
    refine List.nodup_cons.mpr ⟨fun hm => ?_, nodup_eraseDups n (Nat.le_trans (List.length_filter_le _ _) (by simpa using h))⟩
    have := List.mem_eraseDups.mp hm
    simp at this
/-- a sorted list without doubles is ascending -/
theorem sorted_asc {zs : List Str} (hn : zs.Nodup) : Asc (zs.mergeSort leS) := by
  have hp := List.pairwise_mergeSort leS_trans leS_total zs
  have hn2 : (zs.mergeSort leS).Nodup := (List.mergeSort_perm zs leS).nodup_iff.mpr hn
  refine (hp.and hn2).imp fun {a b} h => ?_
  obtain ⟨h1, h2⟩ := h
  rw [leS_eq] at h1
  simp only [Bool.not_eq_true', decide_eq_false_iff_not] at h1
  exact Classical.byContradiction fun g => h2 (LtS.tri g h1)
/-- what sorted(set(zs)) is -/
def setS (zs : List Str) : List Str := zs.eraseDups.mergeSort leS
theorem setS_asc (zs : List Str) : Asc (setS zs) := sorted_asc (nodup_eraseDups zs.length (Nat.le_refl _))
theorem setS_mem {zs : List Str} {z : Str} : z ∈ setS zs ↔ z ∈ zs := by
  unfold setS
  rw [(List.mergeSort_perm _ _).mem_iff, List.mem_eraseDups]
theorem Asc.setS {zs : List Str} (h : Asc zs) : Mp.setS zs = zs := by
  unfold Mp.setS
  rw [eraseDups_of_nodup h.nodup, h.sorted]
/-- two ascending lists of the same texts -/
theorem Asc.ext : ∀ {as bs : List Str}, Asc as → Asc bs → (∀ z, z ∈ as ↔ z ∈ bs) → as = bs
  | [], [], _, _, _ => rfl
  | [], b :: bs, _, _, h => by have := (h b).mpr List.mem_cons_self; simp at this
  | a :: as, [], _, _, h => by have := (h a).mp List.mem_cons_self; simp at this
  | a :: as, b :: bs, ha, hb, h => by
    have ha' := List.pairwise_cons.mp ha
    have hb' := List.pairwise_cons.mp hb
    have e : a = b := by
      have h1 := (h a).mp List.mem_cons_self
      have h2 := (h b).mpr List.mem_cons_self
      rcases List.mem_cons.mp h1 with e | h1
      · exact e
      · rcases List.mem_cons.mp h2 with e | h2
        · exact e.symm
        · exact absurd ((hb'.1 a h1).trans (ha'.1 b h2)) (LtS.irrefl _)
    subst e
    rw [Asc.ext ha'.2 hb'.2 fun z => ?_]
    constructor
    · intro hz
      rcases List.mem_cons.mp ((h z).mp (List.mem_cons_of_mem _ hz)) with e | q
      · subst e; exact absurd (ha'.1 z hz) (LtS.irrefl _)
      · exact q
    · intro hz
      rcases List.mem_cons.mp ((h z).mpr (List.mem_cons_of_mem _ hz)) with e | q
      · subst e; exact absurd (hb'.1 z hz) (LtS.irrefl _)
      · exact q
/-- the look at neighbours -/
def ascS : List Str → Bool
  | a :: b :: r => decide (LtS a b) && ascS (b :: r)
  | _ => true
theorem ascS_iff : ∀ {zs : List Str}, ascS zs = true ↔ Asc zs
  | [] => by simp [ascS, Asc]
  | [a] => by simp [ascS, Asc]
  | a :: b :: r => by
    have ih := ascS_iff (zs := b :: r)
    simp only [ascS, Bool.and_eq_true, decide_eq_true_eq, ih]
    unfold Asc
    rw [List.pairwise_cons (a := a)]
    constructor
    · rintro ⟨h1, h2⟩
      refine ⟨fun c hc => ?_, h2⟩
      rcases List.mem_cons.mp hc with rfl | hc
      · exact h1
      · exact h1.trans ((List.pairwise_cons.mp h2).1 c hc)
    · rintro ⟨h1, h2⟩
      exact ⟨h1 b List.mem_cons_self, h2⟩
theorem asc_set (zs : List Str) : decide (zs = setS zs) = ascS zs := by
  by_cases h : Asc zs
  · rw [ascS_iff.mpr h, h.setS]
    simp
  · have : ascS zs = false := by
      cases e : ascS zs with
      | false => rfl
      | true => exact absurd (ascS_iff.mp e) h
    rw [this]
    simp only [decide_eq_false_iff_not]
    intro e
    rw [e] at h
    exact h (setS_asc zs)
theorem txts_map (zs : List Str) : txts (zs.map D.str) = some zs := by
  induction zs with
  | nil => rfl
  | cons z zs ih => simp [txts, ih]
theorem sortedset_lst (s : Sto) (zs : List Str) (h : zs.length < 4000) : bltF s .sortedset [.lst (zs.map D.str)] = some (fresh (.lst ((setS zs).map D.str))) := by
  show (match txts (zs.map D.str) with
      | some zs => if zs.length < 4000 then some (fresh (.lst ((zs.eraseDups.mergeSort (W.dataLe false PyData.str)).map D.str))) else none
      | none => none) = _
  rw [txts_map]
  simp only [h, if_true]
  rfl
theorem sortedset_tup (s : Sto) (zs : List Str) (h : zs.length < 4000) : bltF s .sortedset [.tup (zs.map D.str)] = some (fresh (.lst ((setS zs).map D.str))) := by
  show (match txts (zs.map D.str) with
      | some zs => if zs.length < 4000 then some (fresh (.lst ((zs.eraseDups.mergeSort (W.dataLe false PyData.str)).map D.str))) else none
      | none => none) = _
  rw [txts_map]
  simp only [h, if_true]
  rfl
theorem pds_strs (zs : List Str) : D.pds (zs.map D.str) = zs.map PyData.str := by
  induction zs with
  | nil => rfl
  | cons z zs ih => simp [D.pds, D.pd, ih]
theorem eqv_strs : ∀ (a b : List Str), PyData.eqvAll (a.map PyData.str) (b.map PyData.str) = decide (a = b)
  | [], [] => rfl
  | [], _ :: _ => by simp [PyData.eqvAll]
  | _ :: _, [] => by simp [PyData.eqvAll]
  | x :: xs, y :: ys => by
    simp only [List.map_cons, PyData.eqvAll, PyData.eqv, eqv_strs xs ys]
    by_cases h : x = y <;> by_cases g : xs = ys <;> simp [h, g]
theorem pls_strs {zs : List Str} (h : ∀ z ∈ zs, strOk z = true) : PyData.canLayAll0 (D.pds (zs.map D.str)) = true := by
  induction zs with
  | nil => rfl
  | cons z zs ih =>
    simp only [List.map_cons, D.pds, D.pd, PyData.canLayAll0, PyData.canLay0, Bool.and_eq_true]
    exact ⟨h z List.mem_cons_self, ih fun y hy => h y (List.mem_cons_of_mem _ hy)⟩
theorem depth_strs (zs : List Str) : PyData.depthAll (D.pds (zs.map D.str)) = 0 := by
  induction zs with
  | nil => rfl
  | cons z zs ih => simp [D.pds, D.pd, PyData.depthAll, PyData.depth, ih]
theorem shaped_strs {zs : List Str} (h : ∀ z ∈ zs, strOk z = true) : SeqAt.shaped (D.lst (zs.map D.str)).pd = true := by
  unfold SeqAt.shaped
  simp [D.pd, PyData.canLay0, PyData.depth, pls_strs h, depth_strs]
theorem shaped_strsT {zs : List Str} (h : ∀ z ∈ zs, strOk z = true) : SeqAt.shaped (D.tup (zs.map D.str)).pd = true := by
  unfold SeqAt.shaped
  simp [D.pd, PyData.canLay0, PyData.depth, pls_strs h, depth_strs]
theorem shaped_str {z : Str} (h : strOk z = true) : SeqAt.shaped (D.str z).pd = true := by
  unfold SeqAt.shaped
  simp [D.pd, PyData.canLay0, PyData.depth, h]
theorem eq_strs (s : Sto) {a b : List Str} (ha : ∀ z ∈ a, strOk z = true) (hb : ∀ z ∈ b, strOk z = true) : cmpF s .eq (.lst (a.map D.str)) (.lst (b.map D.str)) = some (decide (a = b)) := by
  show D.eqq _ _ = _
  unfold D.eqq
  rw [shaped_strs ha, shaped_strs hb]
  simp [D.pd, PyData.eqv, pds_strs, eqv_strs]
theorem ne_strs (s : Sto) {a b : List Str} (ha : ∀ z ∈ a, strOk z = true) (hb : ∀ z ∈ b, strOk z = true) : cmpF s .ne (.lst (a.map D.str)) (.lst (b.map D.str)) = some (!decide (a = b)) := by
  show (D.eqq _ _).map (!·) = _
  rw [show D.eqq (.lst (a.map D.str)) (.lst (b.map D.str)) = _ from eq_strs s ha hb]
  rfl
theorem any_strs (zs : List Str) (z : Str) : ((zs.map D.str).any fun y => PyData.eqv y.pd (D.str z).pd) = decide (z ∈ zs) := by
  induction zs with
  | nil => simp
  | cons y zs ih =>
    simp only [List.map_cons, List.any_cons, ih, D.pd, PyData.eqv, List.mem_cons]
    by_cases h : z = y
    · subst h; simp
    · have : (y == z) = false := by simpa using fun e => h e.symm
      have ih2 : (zs.any ((fun y => PyData.eqv y.pd (PyData.str z)) ∘ D.str)) = decide (z ∈ zs) := by
        rw [← ih, List.any_map]
        rfl
      simp [h, this, ih2]
theorem inn_strsT (s : Sto) {z : Str} {zs : List Str} (hz : strOk z = true) (h : ∀ z ∈ zs, strOk z = true) : cmpF s .inn (.str z) (.tup (zs.map D.str)) = some (decide (z ∈ zs)) := by
  rw [inn_tup s (shaped_str hz) (shaped_strs h), any_strs]
theorem nin_strsT (s : Sto) {z : Str} {zs : List Str} (hz : strOk z = true) (h : ∀ z ∈ zs, strOk z = true) : cmpF s .nin (.str z) (.tup (zs.map D.str)) = some (!decide (z ∈ zs)) := by
  rw [nin_tup s (shaped_str hz) (shaped_strs h), any_strs]
theorem inn_strsL (s : Sto) {z : Str} {zs : List Str} (hz : strOk z = true) (h : ∀ z ∈ zs, strOk z = true) : cmpF s .inn (.str z) (.lst (zs.map D.str)) = some (decide (z ∈ zs)) := by
  rw [inn_lst s (shaped_str hz) (shaped_strs h), any_strs]
theorem nin_strsL (s : Sto) {z : Str} {zs : List Str} (hz : strOk z = true) (h : ∀ z ∈ zs, strOk z = true) : cmpF s .nin (.str z) (.lst (zs.map D.str)) = some (!decide (z ∈ zs)) := by
  rw [nin_lst s (shaped_str hz) (shaped_strs h), any_strs]
/-! ### sorted() of tuples led by ascending texts -/
theorem leadsOf {ps : List (Str × List D)} : leads (ps.map fun p => D.tup (.str p.1 :: p.2)) = some (ps.map (·.1)) := by
  induction ps with
  | nil => rfl
  | cons p ps ih => simp [leads, leadStr, ih]
theorem lead_lt {a b : Str} {u v : List D} (h : LtS a b) : W.dataLe false D.pd (.tup (.str a :: u)) (.tup (.str b :: v)) = true := by
  show (!lexLt itemOrd (W.keyToks (.tuple (D.pds (.str b :: v)))) (W.keyToks (.tuple (D.pds (.str a :: u))))) = true
  simp only [D.pds, D.pd, W.keyToks, W.keyToksAll, List.cons_append, List.nil_append]
  have h0 : itemOrd.blt (Sum.inl 1) (Sum.inl 1) = false := itemOrd.irrefl _
  have h1 : itemOrd.blt (Sum.inr a.cps.toList) (Sum.inr b.cps.toList) = true := decide_eq_true h
  have h2 : itemOrd.blt (Sum.inr b.cps.toList) (Sum.inr a.cps.toList) = false := decide_eq_false fun g => LtS.irrefl _ (LtS.trans g h)
  rw [lex_cons, lex_cons, h0, h1, h2]
  rfl
theorem sortD_asc {ps : List (Str × List D)} (h : Asc (ps.map (·.1))) : sortD (ps.map fun p => D.tup (.str p.1 :: p.2)) = some (ps.map fun p => D.tup (.str p.1 :: p.2)) := by
  unfold sortD
  rw [leadsOf]
  have hp : ps.Pairwise fun a b => LtS a.1 b.1 := List.pairwise_map.mp h
  split
  · rw [List.mergeSort_of_pairwise]
    exact List.pairwise_map.mpr (hp.imp fun {a b} g => lead_lt g)
  · show (if (ps.map (·.1)).Nodup then _ else _) = _
    rw [if_pos h.nodup, List.mergeSort_of_pairwise]
    refine List.pairwise_map.mpr (hp.imp fun {a b} g => ?_)
    show leS a.1 b.1 = true
    rw [leS_eq]
    simp only [Bool.not_eq_true', decide_eq_false_iff_not]
    exact fun z => LtS.irrefl _ (z.trans g)
end Mp
set_option Elab.async false
set_option linter.all false
set_option maxRecDepth 100000
set_option maxHeartbeats 4000000
/-! what the program's defs recognize -/
namespace Mp
open PySem PySem.Spec PyProof.Rows
open PySem.PyData (strOk)
theorem lc_mapG {α : Type} {ok : Sto → Bool} {f : D → Sto → Res (Option D)} {s : Sto} {Q : List D → Sto → Prop} (ys : List α) (e g : α → D) (h0 : ok s = true) (hl : ys.length ≤ 16777216) (h : ∀ y ∈ ys, (f (e y) s).P fun o t => o = some (g y) ∧ t = s) (q : Q (ys.map g) s) : (lcLoop ok f (ys.map e) [] s).P Q := by
  have key : ∀ (zs : List α) (acc : List D), acc.length + zs.length ≤ 16777216 → (∀ y ∈ zs, (f (e y) s).P fun o t => o = some (g y) ∧ t = s) → lcLoop ok f (zs.map e) acc s = .ok (acc ++ zs.map g) s := fun zs => by
    induction zs with
    | nil => intro acc _ _; simp [lcLoop, h0]
    | cons z zs ih =>
      intro acc hl h
      simp only [List.length_cons] at hl
      rw [List.map_cons]
      unfold lcLoop
      rw [h0, if_pos rfl, (h z List.mem_cons_self).eq, Res.bind_ok]
      simp only
      rw [if_pos (by omega), ih (acc ++ [g z]) (by simp; omega) fun y hy => h y (List.mem_cons_of_mem _ hy)]
      simp
  rw [key ys [] (by simpa using hl) h]
  simpa using q
theorem lc_filterG {α : Type} {ok : Sto → Bool} {f : D → Sto → Res (Option D)} {s : Sto} {Q : List D → Sto → Prop} (ys : List α) (e : α → D) (g : α → Option D) (h0 : ok s = true) (hl : ys.length ≤ 16777216) (h : ∀ y ∈ ys, (f (e y) s).P fun o t => o = g y ∧ t = s) (q : Q (ys.filterMap g) s) : (lcLoop ok f (ys.map e) [] s).P Q := by
  have key : ∀ (zs : List α) (acc : List D), acc.length + zs.length ≤ 16777216 → (∀ y ∈ zs, (f (e y) s).P fun o t => o = g y ∧ t = s) → lcLoop ok f (zs.map e) acc s = .ok (acc ++ zs.filterMap g) s := fun zs => by
    induction zs with
    | nil => intro acc _ _; simp [lcLoop, h0]
    | cons z zs ih =>
      intro acc hl h
      simp only [List.length_cons] at hl
      rw [List.map_cons]
      unfold lcLoop
      rw [h0, if_pos rfl, (h z List.mem_cons_self).eq, Res.bind_ok, List.filterMap_cons]
      cases g z with
      | none =>
        simp only
        exact ih acc (by omega) fun y hy => h y (List.mem_cons_of_mem _ hy)
      | some u =>
        simp only
        rw [if_pos (by omega), ih (acc ++ [u]) (by simp; omega) fun y hy => h y (List.mem_cons_of_mem _ hy)]
        simp
  rw [key ys [] (by simpa using hl) h]
  simpa using q
def lettersS : Str := "abcdefghijklmnopqrstuvwxyz"
def isNameS (z : Str) : Bool := decide (1 ≤ z.length) && decide (z.length ≤ 8) && z.cps.toList.all fun c => decide (c ∈ lettersS.cps.toList)
def isName : D → Bool
  | .str z => isNameS z
  | _ => false
theorem signs_len (z : Str) : z.cps.toList.length = z.length := by simp; rfl
theorem is_name_ok {m : Nat} (hm : 1 ≤ m) {d : D} {s : Sto} (h : d.pl = true) : callN tab m 0 [d] s = .ok (.bl (isName d)) s := by
  obtain ⟨n, rfl⟩ : ∃ n, m = n + 1 := ⟨m - 1, by omega⟩
  refine Res.P.eq ?_
  rw [callN_at at_p_is_name n [d] s rfl]
  unfold p_is_name
  simp
  cases d with
  | str z =>
    simp at h
    have hz : z.length ≤ 16777216 := by omega
    simp [hz]
    split
    · split
      · rename_i h1 h2
        refine lc_mapG z.cps.toList (fun c => .str ⟨#[c]⟩) (fun c => .bl (decide (c ∈ lettersS.cps.toList))) rfl (by rw [signs_len]; exact hz) (fun c hc => ?_) ?_
        · simp [lcTurn_none, lettersS]
        · have h1' : 1 ≤ z.length := by omega
          have h2' : z.length ≤ 8 := by omega
          simp only [all_lst, bls_mapf, allB_map, Option.map_some, optP_some, held_1, truP_bl]
          refine ⟨?_, trivial⟩
          simp [isName, isNameS, List.all_map, Function.comp_def, h1', h2']
      · rename_i h1 h2
        simp [isName, isNameS]
        omega
    · rename_i h1
      simp [isName, isNameS]
      omega
  | _ => first | (simp [isName]; done) | (simp [D.pl] at h)
@[simp] theorem inn_12 (s : Sto) (n : Int) : cmpF s .inn (.int n) (.tup [.int 1, .int 2]) = some (decide (n = 1 ∨ n = 2)) := by
  rw [inn_tup s rfl rfl]
  simp [D.pd, PyData.eqv]
  by_cases h : n = 1 <;> by_cases g : n = 2 <;> simp [h, g] <;> omega
@[simp] theorem nin_34 (s : Sto) (n : Int) : cmpF s .nin (.int n) (.tup [.int 3, .int 4]) = some (!decide (n = 3 ∨ n = 4)) := by
  rw [nin_tup s rfl rfl]
  simp [D.pd, PyData.eqv]
  by_cases h : n = 3 <;> by_cases g : n = 4 <;> simp [h, g] <;> omega
def isPath : D → Bool
  | .tup xs => decide (xs.length = 1 ∨ xs.length = 2) && xs.all isName
  | _ => false
theorem is_path_ok {m : Nat} (hm : 2 ≤ m) {d : D} {s : Sto} (h : d.pl = true) : callN tab m 2 [d] s = .ok (.bl (isPath d)) s := by
  obtain ⟨n, rfl⟩ : ∃ n, m = n + 1 := ⟨m - 1, by omega⟩
  refine Res.P.eq ?_
  rw [callN_at at_p_is_path n [d] s rfl]
  unfold p_is_path
  simp
  cases d with
  | tup xs =>
    simp only [D.pl, Bool.and_eq_true, decide_eq_true_eq] at h
    have hc : ((xs.length : Int) = 1 ∨ (xs.length : Int) = 2) ↔ (xs.length = 1 ∨ xs.length = 2) := by omega
    simp [hc]
    split
    · rename_i h1
      refine lc_map (fun x => .bl (isName x)) rfl (by omega) (fun x hx => ?_) ?_
      · simp [lcTurn_none, is_name_ok (s := s) (by omega : 1 ≤ n) (D.pls_mem h.2 x hx)]
      · simp only [all_lst, bls_mapf, allB_map, Option.map_some, optP_some, held_1, truP_bl]
        refine ⟨?_, trivial⟩
        simp [isPath, h1, List.all_map, Function.comp_def]
    · rename_i h1
      simp [isPath, h1]
  | _ => first | (simp [isPath]; done) | (simp [D.pl] at h)

/-! ### nodes -/
def keyS : D → Str
  | .tup (.str z :: _) => z
  | _ => Str.empty
mutual
def isNode : D → Bool
  | .tup xs => isPairs xs && ascS (xs.map keyS)
  | .str z => isNameS z
  | _ => false
def isPairs : List D → Bool
  | [] => true
  | x :: xs => isPair x && isPairs xs
def isPair : D → Bool
  | .tup xs => isPair2 xs
  | _ => false
def isPair2 : List D → Bool
  | [k, d] => isName k && isNode d
  | _ => false
end
theorem isPairs_iff {xs : List D} : isPairs xs = true ↔ ∀ x ∈ xs, isPair x = true := by
  induction xs with
  | nil => simp [isPairs]
  | cons x xs ih => simp [isPairs, ih]
theorem isPair_inv {x : D} (h : isPair x = true) : ∃ z d, x = .tup [.str z, d] ∧ isNameS z = true ∧ isNode d = true := by
  cases x with
  | tup xs =>
    simp only [isPair] at h
    match xs, h with
    | [k, d], h =>
      simp only [isPair2, Bool.and_eq_true] at h
      cases k with
      | str z => exact ⟨z, d, rfl, h.1, h.2⟩
      | _ => simp [isName] at h
    | [], h => simp [isPair2] at h
    | [_], h => simp [isPair2] at h
    | _ :: _ :: _ :: _, h => simp [isPair2] at h
  | _ => simp [isPair] at h
theorem zipD_asc : ∀ {xs : List D}, (∀ x ∈ xs, isPair x = true) → ∃ bs : List Bool, zipD xs (xs.drop 1) = (bs.zip (xs.zip (xs.drop 1))).map (fun p => D.tup [p.2.1, p.2.2]) ∧ bs.length = (xs.zip (xs.drop 1)).length := fun {xs} _ =>
  ⟨List.replicate (xs.zip (xs.drop 1)).length true, by
    have : ∀ (a b : List D), zipD a b = ((List.replicate (a.zip b).length true).zip (a.zip b)).map (fun p => D.tup [p.2.1, p.2.2]) := fun a => by
      induction a with
      | nil => intro b; simp [zipD]
      | cons x a ih =>
        intro b
        cases b with
        | nil => simp [zipD]
        | cons y b => simp [zipD, List.replicate_succ, ih b]
    exact this _ _, by simp⟩
theorem zipD_eq (a b : List D) : zipD a b = (a.zip b).map fun p => D.tup [p.1, p.2] := by
  induction a generalizing b with
  | nil => simp [zipD]
  | cons x a ih => cases b <;> simp [zipD, ih]
theorem asc_zip : ∀ (zs : List Str), ((zs.zip (zs.drop 1)).all fun p => decide (LtS p.1 p.2)) = ascS zs
  | [] => rfl
  | [_] => rfl
  | a :: b :: r => by
    have ih := asc_zip (b :: r)
    simp only [List.drop_succ_cons, List.drop_zero] at ih ⊢
    simp [ascS, ← ih]
theorem is_node_ok : ∀ (m : Nat) {d : D} {s : Sto}, d.pl = true → d.dp + 2 ≤ m → callN tab m 1 [d] s = .ok (.bl (isNode d)) s
  | 0, d, s, h, hd => by omega
  | n + 1, d, s, h, hd => by
    refine Res.P.eq ?_
    rw [callN_at at_p_is_node n [d] s rfl]
    unfold p_is_node
    simp
    rw [isi_tup s h]
    cases d with
    | tup xs =>
      simp only [D.pl, Bool.and_eq_true, decide_eq_true_eq] at h
      simp only [D.dp] at hd
      simp [isTup]
      refine forP (fun ys r t => t = s ∧ ys <:+ xs ∧ (∃ pre, xs = pre ++ ys ∧ ∀ x ∈ pre, isPair x = true) ∧ ∃ a b c, r = [.val (.tup xs), a, b, c]) ⟨rfl, List.suffix_refl _, ⟨[], rfl, by simp⟩, _, _, _, rfl⟩ ?_ ?_
      · rintro r t ⟨rfl, _, ⟨pre, e, hp⟩, a, b, c, rfl⟩
        refine ⟨rfl, ?_⟩
        rw [List.append_nil] at e
        subst e
        simp [cut_lo xs 1]
        rw [show cut xs (some 1) none = xs.drop 1 from cut_lo xs 1, zipD_eq]
        refine lc_mapG (xs.zip (xs.drop 1)) (fun p => D.tup [p.1, p.2]) (fun p => .bl (decide (LtS (keyS p.1) (keyS p.2)))) rfl (by simp; omega) (fun p hq => ?_) ?_
        · obtain ⟨x, y⟩ := p
          have hx := hp x (List.of_mem_zip hq).1
          have hy := hp y (List.mem_of_mem_drop (List.of_mem_zip hq).2)
          obtain ⟨z1, d1, rfl, _, _⟩ := isPair_inv hx
          obtain ⟨z2, d2, rfl, _, _⟩ := isPair_inv hy
          simp [lcTurn_none, keyS, LtS]
        · simp only [all_lst, bls_mapf, allB_map, Option.map_some, optP_some, held_1, truP_bl, esc_held]
          refine ⟨?_, trivial⟩
          have h1 : isPairs xs = true := isPairs_iff.mpr hp
          simp only [isNode, h1, Bool.true_and, List.all_map, Function.comp_def]
          rw [← asc_zip, ← List.map_drop, List.zip_map, List.all_map]
          simp [Function.comp_def, Prod.map]
      · rintro x ys r t ⟨rfl, hsf, ⟨pre, e, hp⟩, a, b, c, rfl⟩
        refine ⟨rfl, ?_⟩
        have hx : x ∈ xs := by rw [e]; simp
        have px := D.pls_mem h.2 x hx
        have dx := D.dps_mem x hx
        have next : isPair x = true → ∃ pre', xs = pre' ++ ys ∧ ∀ x ∈ pre', isPair x = true := fun hxx => ⟨pre ++ [x], by rw [e]; simp, fun y hy => by
          rcases List.mem_append.mp hy with hy | hy
          · exact hp y hy
          · simp at hy; subst hy; exact hxx⟩
        have stop : isPair x = false → isNode (.tup xs) = false := fun hxx => by
          have : isPairs xs = false := by
            cases q : isPairs xs with
            | false => rfl
            | true => rw [isPairs_iff.mp q x hx] at hxx; cases hxx
          simp [isNode, this]
        have sfx : ys <:+ xs := ⟨pre ++ [x], by rw [e]; simp⟩
        simp
        rw [isi_tup t px]
        cases x with
        | tup us =>
          simp [isTup]
          simp only [D.pl, Bool.and_eq_true, decide_eq_true_eq] at px
          simp only [D.dp] at dx
          by_cases hl : us.length = 2
          · match us, hl with
            | [k, d'], _ =>
              have pk : k.pl = true := D.pls_mem px.2 k (by simp)
              have pd : d'.pl = true := D.pls_mem px.2 d' (by simp)
              have dd : d'.dp ≤ D.dps [k, d'] := D.dps_mem d' (by simp)
              have i1 := is_name_ok (s := t) (by omega : 1 ≤ n) pk
              have i2 := is_node_ok n (s := t) pd (by omega)
              simp [i1, i2]
              by_cases q1 : isName k = true
              · by_cases q2 : isNode d' = true
                · simp [q1, q2]
                  exact ⟨sfx, next (by simp [isPair, isPair2, q1, q2])⟩
                · simp [q1, q2]
                  exact stop (by simp [isPair, isPair2, q1, q2])
              · simp [q1]
                exact stop (by simp [isPair, isPair2, q1])
          · have hl' : ¬ ((us.length : Int) = 2) := by omega
            simp [hl']
            refine stop ?_
            match us, hl with
            | [], _ => rfl
            | [_], _ => rfl
            | [_, _], h => exact absurd rfl h
            | _ :: _ :: _ :: _, _ => rfl
        | _ => first | (simp [isTup]; exact stop rfl) | (simp [D.pl] at px)
    | _ => first | (simp [isTup, is_name_ok (s := s) (by omega : 1 ≤ n) h, isNode, isName]; done) | (simp [D.pl] at h)

def isTree (d : D) : Bool := isTup d && isNode d
theorem is_folder_ok {m : Nat} {d : D} {s : Sto} (h : d.pl = true) (hm : d.dp + 3 ≤ m) : callN tab m 3 [d] s = .ok (.bl (isTree d)) s := by
  obtain ⟨n, rfl⟩ : ∃ n, m = n + 1 := ⟨m - 1, by omega⟩
  refine Res.P.eq ?_
  rw [callN_at at_p_is_folder n [d] s rfl]
  unfold p_is_folder
  simp
  rw [isi_tup s h]
  simp [is_node_ok n (s := s) h (by omega)]
  unfold isTree
  cases isTup d <;> simp
theorem is_tree_ok {m : Nat} {d : D} {s : Sto} (h : d.pl = true) (hm : d.dp + 4 ≤ m) : callN tab m 8 [d] s = .ok (.bl (isTree d)) s := by
  obtain ⟨n, rfl⟩ : ∃ n, m = n + 1 := ⟨m - 1, by omega⟩
  refine Res.P.eq ?_
  rw [callN_at at_p_is_tree n [d] s rfl]
  unfold p_is_tree
  simp [is_folder_ok (s := s) h (by omega : d.dp + 3 ≤ n)]
theorem need_tree_ok {m : Nat} {d : D} {s : Sto} (h : d.pl = true) (hm : d.dp + 4 ≤ m) (ht : isTree d = true) : callN tab m 4 [d] s = .ok .non s := by
  obtain ⟨n, rfl⟩ : ∃ n, m = n + 1 := ⟨m - 1, by omega⟩
  refine Res.P.eq ?_
  rw [callN_at at_p_need_tree n [d] s rfl]
  unfold p_need_tree
  simp [is_folder_ok (s := s) h (by omega : d.dp + 3 ≤ n), ht]
end Mp
set_option Elab.async false
set_option linter.all false
set_option maxRecDepth 100000
set_option maxHeartbeats 4000000
/-! commands and scripts recognized -/
namespace Mp
open PySem PySem.Spec PyProof.Rows
open PySem.PyData (strOk)
@[simp] theorem keyOf_str (z : Str) : keyOf (.str z) = some (.text z) := rfl
@[simp] theorem beq_text (a b : Str) : NestedKey.beq (.text a) (.text b) = decide (a = b) := by
  simp only [NestedKey.beq]
def marksOf (w : Str) : Option (List Str) :=
  if ("move" : Str) = w then some ["never", "new"] else if ("copy" : Str) = w then some ["never", "new", "tree"] else if ("make" : Str) = w then some ["parents"] else if ("remove" : Str) = w then some ["quiet", "tree"] else none
theorem look_marks (w : Str) : look [.text "move", .text "copy", .text "make", .text "remove"] [(.tup [(.str "never"), (.str "new")]), (.tup [(.str "never"), (.str "new"), (.str "tree")]), (.tup [(.str "parents")]), (.tup [(.str "quiet"), (.str "tree")])] (.text w) = (marksOf w).map fun l => .tup (l.map .str) := by
  simp only [look, beq_text, marksOf, decide_eq_true_eq]
  by_cases h1 : ("move" : Str) = w
  · simp only [h1, if_true]; rfl
  by_cases h2 : ("copy" : Str) = w
  · simp only [h1, h2, if_true, if_false]; rfl
  by_cases h3 : ("make" : Str) = w
  · simp only [h1, h2, h3, if_true, if_false]; rfl
  by_cases h4 : ("remove" : Str) = w
  · simp only [h1, h2, h3, h4, if_true, if_false]; rfl
  simp only [h1, h2, h3, h4, if_false]; rfl
theorem has_marks (w : Str) : has [.text "move", .text "copy", .text "make", .text "remove"] (.text w) = (marksOf w).isSome := by
  simp only [has, List.any_cons, List.any_nil, beq_text, marksOf]
  by_cases h1 : ("move" : Str) = w
  · simp only [h1, if_true]; simp
  by_cases h2 : ("copy" : Str) = w
  · simp only [h1, h2, if_true, if_false]; simp
  by_cases h3 : ("make" : Str) = w
  · simp only [h1, h2, h3, if_true, if_false]; simp
  by_cases h4 : ("remove" : Str) = w
  · simp only [h1, h2, h3, h4, if_true, if_false]; simp
  simp only [h1, h2, h3, h4, if_false]; simp
theorem marks_mem {w : Str} {ms : List Str} (h : marksOf w = some ms) : ms = [("never" : Str), "new"] ∨ ms = [("never" : Str), "new", "tree"] ∨ ms = [("parents" : Str)] ∨ ms = [("quiet" : Str), "tree"] := by
  unfold marksOf at h
  split at h
  · cases h; exact .inl rfl
  · split at h
    · cases h; exact .inr (.inl rfl)
    · split at h
      · cases h; exact .inr (.inr (.inl rfl))
      · split at h
        · cases h; exact .inr (.inr (.inr rfl))
        · cases h
theorem marks_ok {w : Str} {ms : List Str} (h : marksOf w = some ms) : (∀ z ∈ ms, strOk z = true) ∧ Asc ms := by
  rcases marks_mem h with rfl | rfl | rfl | rfl <;> exact ⟨by decide +kernel, ascS_iff.mp (by decide +kernel)⟩
def strsD : List D → List Str
  | [] => []
  | .str z :: xs => z :: strsD xs
  | _ :: xs => strsD xs
theorem strs_of {xs : List D} (h : xs.all isStr = true) : xs = (strsD xs).map D.str := by
  induction xs with
  | nil => rfl
  | cons x xs ih =>
    simp only [List.all_cons, Bool.and_eq_true] at h
    cases x with
    | str z => simp only [strsD, List.map_cons, ← ih h.2]
    | _ => exact absurd h.1 (by simp [isStr])
/-- the marks that a command can have -/
def areMarks (ms : List Str) : D → Bool
  | .tup xs => xs.all isStr && (strsD xs).all (fun z => decide (z ∈ ms)) && ascS (strsD xs)
  | _ => false
theorem are_marks_ok {m : Nat} (hm : 1 ≤ m) {w : Str} {ms : List Str} (hw : marksOf w = some ms) {d : D} {s : Sto} (h : d.pl = true) : callN tab m 12 [.str w, d] s = .ok (.bl (areMarks ms d)) s := by
  obtain ⟨n, rfl⟩ : ∃ n, m = n + 1 := ⟨m - 1, by omega⟩
  refine Res.P.eq ?_
  rw [callN_at at_p_are_marks n [.str w, d] s rfl]
  unfold p_are_marks
  simp
  rw [isi_tup s h]
  cases d with
  | tup xs =>
    simp only [D.pl, Bool.and_eq_true, decide_eq_true_eq] at h
    simp [isTup]
    refine lc_map (fun x => .bl (isStr x)) rfl (by omega) (fun x hx => ?_) ?_
    · simp [lcTurn_none, isi_str s (D.pls_mem h.2 x hx)]
    · simp only [all_lst, bls_mapf, allB_map, Option.map_some, optP_some, held_1, truP_bl]
      by_cases ha : xs.all isStr = true
      · have ex := strs_of ha
        generalize strsD xs = zs at ex
        subst ex
        have okz : ∀ z ∈ zs, strOk z = true := fun z hz => by
          have := D.pls_mem h.2 (.str z) (List.mem_map.mpr ⟨z, hz, rfl⟩)
          simp at this
          exact this.2
        obtain ⟨okm, ascm⟩ := marks_ok hw
        have hl : zs.length ≤ 1000 := by simpa using h.1
        have es : strsD (zs.map D.str) = zs := by
          clear hl okz h ha
          induction zs with
          | nil => rfl
          | cons z zs ih => simp [strsD, ih]
        simp only [ha]
        simp
        refine lc_mapG zs D.str (fun z => .bl (decide (z ∈ ms))) rfl (by omega) (fun z hz => ?_) ?_
        · simp [lcTurn_none, look_marks, hw, inn_strsT s (okz z hz) okm]
        · simp only [all_lst, bls_mapf, allB_map, Option.map_some, optP_some, held_1, truP_bl]
          split
          · rename_i h2
            rw [sortedset_tup s zs (by omega)]
            simp only [optP_some, fresh_1]
            rw [eq_strs s okz fun z hz => okz z (setS_mem.mp hz), asc_set]
            simp only [optP_some, held_1, truP_bl]
            refine ⟨?_, trivial⟩
            simp only [areMarks, ha, es, h2, Bool.true_and]
          · rename_i h2
            refine ⟨?_, trivial⟩
            have h2 : (zs.all fun z => decide (z ∈ ms)) = false := by simpa using h2
            simp only [areMarks, es, h2, Bool.and_false, Bool.false_and]
      · have ha : xs.all isStr = false := by simpa using ha
        simp only [ha]
        simp [areMarks, ha]
  | _ => first | (simp [isTup, areMarks]; done) | (simp [D.pl] at h)
def isMC (w : Str) : Bool := decide (w = "move" ∨ w = "copy")
def isCommand : D → Bool
  | .tup [.str w, b, c] => if w = "write" then isPath b && isName c else match marksOf w with
    | none => false
    | some ms => areMarks ms b && !isMC w && isPath c
  | .tup [.str w, b, c, d] => if w = "write" then false else match marksOf w with
    | none => false
    | some ms => areMarks ms b && isMC w && (isPath c && isPath d)
  | _ => false
theorem isCommand_len {xs : List D} (h : ¬ (xs.length = 3 ∨ xs.length = 4)) : isCommand (.tup xs) = false := by
  match xs, h with
  | [], _ => simp [isCommand]
  | [_], _ => simp [isCommand]
  | [_, _], _ => simp [isCommand]
  | [_, _, _], h => exact absurd (.inl rfl) h
  | [_, _, _, _], h => exact absurd (.inr rfl) h
  | _ :: _ :: _ :: _ :: _ :: _, _ => simp [isCommand]
theorem inn_mc (s : Sto) {w : Str} (h : strOk w = true) : cmpF s .inn (.str w) (.tup [.str "move", .str "copy"]) = some (isMC w) := by
  have := inn_strsT s (zs := ["move", "copy"]) h (by decide +kernel)
  rw [show (D.tup [.str "move", .str "copy"]) = .tup (([("move" : Str), "copy"]).map D.str) from rfl, this]
  simp [isMC]
@[simp] theorem cut_2 (xs : List D) : cut xs (some 2) none = xs.drop 2 := cut_lo xs 2
@[simp] theorem cut_1 (xs : List D) : cut xs (some 1) none = xs.drop 1 := cut_lo xs 1
theorem is_good_command_ok {m : Nat} (hm : 3 ≤ m) {d : D} {s : Sto} (h : d.pl = true) : callN tab m 13 [d] s = .ok (.bl (isCommand d)) s := by
  obtain ⟨n, rfl⟩ : ∃ n, m = n + 1 := ⟨m - 1, by omega⟩
  refine Res.P.eq ?_
  rw [callN_at at_p_is_good_command n [d] s rfl]
  unfold p_is_good_command
  simp
  rw [isi_tup s h]
  cases d with
  | tup xs =>
    simp only [D.pl, Bool.and_eq_true, decide_eq_true_eq] at h
    simp [isTup]
    by_cases hl : xs.length = 3 ∨ xs.length = 4
    · rw [if_neg (by omega)]
      have pm := D.pls_mem h.2
      cases xs with
      | nil => simp at hl
      | cons a r =>
        have pa := pm a List.mem_cons_self
        simp
        rw [isi_str s pa]
        cases a with
        | str w =>
          simp [isStr]
          simp at pa
          have eqw := eq_str' s pa.2 (by decide +kernel : strOk ("write" : Str) = true)
          rw [eqw]
          simp
          match r, hl, pm with
          | [b, c], _, pm =>
            have pb := pm b (by simp)
            have pc := pm c (by simp)
            simp [is_path_ok (s := s) (by omega : 2 ≤ n) pb, is_path_ok (s := s) (by omega : 2 ≤ n) pc, is_name_ok (s := s) (by omega : 1 ≤ n) pc]
            by_cases hw : w = "write"
            · simp [hw]
              split <;> simp_all [isCommand]
            · simp [hw, has_marks]
              cases hmk : marksOf w with
              | none => simp [isCommand, hw, hmk]
              | some ms =>
                simp [are_marks_ok (s := s) (by omega : 1 ≤ n) hmk pb]
                by_cases hb : areMarks ms b = true
                · simp [hb, inn_mc s pa.2]
                  cases hmc : isMC w with
                  | true => simp [isCommand, hw, hmk, hb, hmc]
                  | false =>
                    simp
                    refine lc_map (fun x => .bl (isPath x)) rfl (by simp) (fun x hx => ?_) ?_
                    · simp at hx
                      subst hx
                      simp [lcTurn_none, is_path_ok (s := s) (by omega : 2 ≤ n) pc]
                    · simp only [all_lst, bls_mapf, allB_map, Option.map_some, optP_some, held_1, truP_bl]
                      simp [isCommand, hw, hmk, hb, hmc]
                · have hb : areMarks ms b = false := by simpa using hb
                  simp [hb]
                  simp [isCommand, hw, hmk, hb]
          | [b, c, e], _, pm =>
            have pb := pm b (by simp)
            have pc := pm c (by simp)
            have pe := pm e (by simp)
            simp
            by_cases hw : w = "write"
            · simp [hw, isCommand]
            · simp [hw, has_marks]
              cases hmk : marksOf w with
              | none => simp [isCommand, hw, hmk]
              | some ms =>
                simp [are_marks_ok (s := s) (by omega : 1 ≤ n) hmk pb]
                by_cases hb : areMarks ms b = true
                · simp [hb, inn_mc s pa.2]
                  cases hmc : isMC w with
                  | false => simp [isCommand, hw, hmk, hb, hmc]
                  | true =>
                    simp
                    refine lc_map (fun x => .bl (isPath x)) rfl (by simp) (fun x hx => ?_) ?_
                    · simp at hx
                      have px : x.pl = true := by rcases hx with rfl | rfl <;> assumption
                      simp [lcTurn_none, is_path_ok (s := s) (by omega : 2 ≤ n) px]
                    · simp only [all_lst, bls_mapf, allB_map, Option.map_some, optP_some, held_1, truP_bl]
                      simp [isCommand, hw, hmk, hb, hmc]
                · have hb : areMarks ms b = false := by simpa using hb
                  simp [hb]
                  simp [isCommand, hw, hmk, hb]
          | [], hl, _ => simp at hl
          | [_], hl, _ => simp at hl
          | _ :: _ :: _ :: _ :: _, hl, _ => simp at hl
        | _ => first | (simp [isStr, isCommand]; done) | (simp [D.pl] at pa)
    · rw [if_pos (by omega)]
      simp [isCommand_len hl]
  | _ => first | (simp [isTup, isCommand]; done) | (simp [D.pl] at h)
def isScript : D → Bool
  | .tup [.bl _, .tup cs] => decide (1 ≤ cs.length ∧ cs.length ≤ 5) && cs.all isCommand
  | _ => false
theorem isScript_len {xs : List D} (h : ¬ xs.length = 2) : isScript (.tup xs) = false := by
  match xs, h with
  | [], _ => simp [isScript]
  | [_], _ => simp [isScript]
  | [_, _], h => exact absurd rfl h
  | _ :: _ :: _ :: _, _ => simp [isScript]
theorem is_good_script_ok {m : Nat} (hm : 4 ≤ m) {d : D} {s : Sto} (h : d.pl = true) : callN tab m 14 [d] s = .ok (.bl (isScript d)) s := by
  obtain ⟨n, rfl⟩ : ∃ n, m = n + 1 := ⟨m - 1, by omega⟩
  refine Res.P.eq ?_
  rw [callN_at at_p_is_good_script n [d] s rfl]
  unfold p_is_good_script
  simp
  rw [isi_tup s h]
  cases d with
  | tup xs =>
    simp only [D.pl, Bool.and_eq_true, decide_eq_true_eq] at h
    simp [isTup]
    by_cases hl : xs.length = 2
    · have hl' : ((xs.length : Int) = 2) := by omega
      simp only [hl, hl']
      have pm := D.pls_mem h.2
      match xs, hl, pm with
      | [a, b], _, pm =>
        have pa := pm a (by simp)
        have pb := pm b (by simp)
        simp
        rw [isi_bool s pa]
        cases a with
        | bl t =>
          simp [isBl]
          rw [isi_tup s pb]
          cases b with
          | tup cs =>
            simp only [D.pl, Bool.and_eq_true, decide_eq_true_eq] at pb
            simp [isTup]
            have hc1 : (1 ≤ (cs.length : Int)) ↔ 1 ≤ cs.length := by omega
            have hc2 : ((cs.length : Int) ≤ 5) ↔ cs.length ≤ 5 := by omega
            by_cases h1 : 1 ≤ cs.length
            · by_cases h2 : cs.length ≤ 5
              · simp only [hc1, hc2, h1, h2]
                simp
                refine lc_map (fun x => .bl (isCommand x)) rfl (by omega) (fun x hx => ?_) ?_
                · simp [lcTurn_none, is_good_command_ok (s := s) (by omega : 3 ≤ n) (D.pls_mem pb.2 x hx)]
                · simp only [all_lst, bls_mapf, allB_map, Option.map_some, optP_some, held_1, truP_bl]
                  simp [isScript, h1, h2]
              · simp only [hc1, hc2, h1, h2]
                simp [isScript, h2]
            · simp only [hc1, h1]
              simp [isScript, h1]
          | _ => first | (simp [isTup, isScript]; done) | (simp [D.pl] at pb)
        | _ => first | (simp [isBl, isScript]; done) | (simp [D.pl] at pa)
    · have hl' : ¬ ((xs.length : Int) = 2) := by omega
      simp only [hl, hl']
      simp [isScript_len hl]
  | _ => first | (simp [isTup, isScript]; done) | (simp [D.pl] at h)
theorem need_script_ok {m : Nat} (hm : 5 ≤ m) {d : D} {s : Sto} (h : d.pl = true) (hs : isScript d = true) : callN tab m 15 [d] s = .ok .non s := by
  obtain ⟨n, rfl⟩ : ∃ n, m = n + 1 := ⟨m - 1, by omega⟩
  refine Res.P.eq ?_
  rw [callN_at at_p_need_script n [d] s rfl]
  unfold p_need_script
  simp [is_good_script_ok (s := s) (by omega : 4 ≤ n) h, hs]
theorem is_command_ok {m : Nat} (hm : 4 ≤ m) {d : D} {s : Sto} (h : d.pl = true) : callN tab m 18 [d] s = .ok (.bl (isCommand d)) s := by
  obtain ⟨n, rfl⟩ : ∃ n, m = n + 1 := ⟨m - 1, by omega⟩
  refine Res.P.eq ?_
  rw [callN_at at_p_is_command n [d] s rfl]
  unfold p_is_command
  simp [is_good_command_ok (s := s) (by omega : 3 ≤ n) h]
theorem is_script_ok {m : Nat} (hm : 5 ≤ m) {d : D} {s : Sto} (h : d.pl = true) : callN tab m 19 [d] s = .ok (.bl (isScript d)) s := by
  obtain ⟨n, rfl⟩ : ∃ n, m = n + 1 := ⟨m - 1, by omega⟩
  refine Res.P.eq ?_
  rw [callN_at at_p_is_script n [d] s rfl]
  unfold p_is_script
  simp [is_good_script_ok (s := s) (by omega : 4 ≤ n) h]
end Mp
set_option Elab.async false
set_option linter.all false
set_option maxRecDepth 100000
set_option maxHeartbeats 4000000
/-! trees -/
namespace Mp
open PySem PySem.Spec PyProof.Rows
open PySem.PyData (strOk)
inductive Tr where
  | file (z : Str)
  | fold (ks : List (Str × Tr))
abbrev Trs := List (Str × Tr)
mutual
def enc : Tr → D
  | .file z => .str z
  | .fold ks => .tup (encs ks)
def encs : List (Str × Tr) → List D
  | [] => []
  | (k, t) :: r => .tup [.str k, enc t] :: encs r
end
mutual
/-- what a tree must be -/
def Tr.ok : Tr → Bool
  | .file z => isNameS z
  | .fold ks => oks ks && ascS (ks.map (·.1))
def oks : List (Str × Tr) → Bool
  | [] => true
  | (k, t) :: r => isNameS k && t.ok && oks r
end
mutual
def Tr.cnt : Tr → Nat
  | .file _ => 0
  | .fold ks => cnts ks
def cnts : List (Str × Tr) → Nat
  | [] => 0
  | (_, t) :: r => 1 + t.cnt + cnts r
end
mutual
def Tr.dep : Tr → Nat
  | .file _ => 0
  | .fold ks => deps ks + 1
def deps : List (Str × Tr) → Nat
  | [] => 0
  | (_, t) :: r => max t.dep (deps r)
end
mutual
def Tr.names : Tr → List Str
  | .file _ => []
  | .fold ks => namesL ks
def namesL : List (Str × Tr) → List Str
  | [] => []
  | (k, t) :: r => k :: (t.names ++ namesL r)
end
mutual
def Tr.files (p : List Str) : Tr → List (List Str × Str)
  | .file z => [(p, z)]
  | .fold ks => filesL p ks
def filesL (p : List Str) : List (Str × Tr) → List (List Str × Str)
  | [] => []
  | (k, t) :: r => t.files (p ++ [k]) ++ filesL p r
end
mutual
/-- all nodes below, each with the names that lead to it -/
def Tr.rows (p : List Str) : Tr → List (List Str × Tr)
  | .file _ => []
  | .fold ks => rowsL p ks
def rowsL (p : List Str) : List (Str × Tr) → List (List Str × Tr)
  | [] => []
  | (k, t) :: r => (p ++ [k], t) :: (t.rows (p ++ [k]) ++ rowsL p r)
end
def lookT : List (Str × Tr) → Str → Option Tr
  | [], _ => none
  | (k, t) :: r, n => if k = n then some t else lookT r n
def stepT (o : Option Tr) (n : Str) : Option Tr := match o with
  | some (.fold ks) => lookT ks n
  | _ => none
def getT (o : Option Tr) (p : List Str) : Option Tr := p.foldl stepT o
def encO : Option Tr → D
  | some t => enc t
  | none => .non
@[simp] theorem enc_file (z : Str) : enc (.file z) = .str z := by rw [enc]
@[simp] theorem enc_fold (ks : Trs) : enc (.fold ks) = .tup (encs ks) := by rw [enc]
theorem encs_map : ∀ ks : Trs, encs ks = ks.map fun p => .tup [.str p.1, enc p.2]
  | [] => by rw [encs]; rfl
  | (k, t) :: r => by rw [encs, encs_map r]; rfl
theorem encs_len (ks : Trs) : (encs ks).length = ks.length := by rw [encs_map, List.length_map]
theorem oks_mem : ∀ {ks : Trs}, oks ks = true → ∀ p ∈ ks, isNameS p.1 = true ∧ p.2.ok = true
  | (k, t) :: r, h, p, hp => by
    simp only [oks, Bool.and_eq_true] at h
    rcases List.mem_cons.mp hp with rfl | hp
    · exact h.1
    · exact oks_mem h.2 p hp
theorem name_ok {z : Str} (h : isNameS z = true) : strOk z = true ∧ z.length ≤ 8 ∧ 1 ≤ z.length := by
  unfold isNameS at h
  simp only [Bool.and_eq_true, decide_eq_true_eq] at h
  refine ⟨?_, h.1.2, h.1.1⟩
  unfold strOk
  rw [← Array.all_toList, List.all_eq_true]
  intro c hc
  have := List.all_eq_true.mp h.2 c hc
  simp only [decide_eq_true_eq] at this
  have h3 : ∀ c ∈ lettersS.cps.toList, c < 0x110000 := by decide +kernel
  simpa using h3 c this
theorem name_pl {z : Str} (h : isNameS z = true) : (D.str z).pl = true := by
  obtain ⟨h1, h2, _⟩ := name_ok h
  simp [h1]
  omega
theorem len_cnts : ∀ ks : Trs, ks.length ≤ cnts ks
  | [] => Nat.zero_le _
  | (k, t) :: r => by have := len_cnts r; simp only [List.length_cons, cnts]; omega
mutual
theorem enc_pl : ∀ (t : Tr), t.ok = true → t.cnt ≤ 1000 → (enc t).pl = true
  | .file z, h, _ => by
    rw [enc_file]
    exact name_pl (by simpa [Tr.ok] using h)
  | .fold ks, h, hc => by
    simp only [Tr.ok, Bool.and_eq_true] at h
    simp only [Tr.cnt] at hc
    rw [enc_fold]
    simp only [D.pl, Bool.and_eq_true, decide_eq_true_eq, encs_len]
    exact ⟨Nat.le_trans (len_cnts ks) hc, encs_pl ks h.1 hc⟩
theorem encs_pl : ∀ (ks : List (Str × Tr)), oks ks = true → cnts ks ≤ 1000 → D.pls (encs ks) = true
  | [], _, _ => by rw [encs]; rfl
  | (k, t) :: r, h, hc => by
    simp only [oks, Bool.and_eq_true] at h
    simp only [cnts] at hc
    rw [encs]
    have h1 := name_pl h.1.1
    have h2 := enc_pl t h.1.2 (by omega)
    have h3 := encs_pl r h.2 (by omega)
    simp only [D.pls, D.pl, Bool.and_eq_true] at h1 ⊢
    simp only [h2, h3]
    simpa using h1
end
mutual
theorem enc_dp : ∀ (t : Tr), (enc t).dp ≤ 2 * t.dep
  | .file z => by rw [enc_file]; simp [D.dp]
  | .fold ks => by
    rw [enc_fold]
    simp only [D.dp, Tr.dep]
    have := encs_dp ks
    omega
theorem encs_dp : ∀ (ks : List (Str × Tr)), D.dps (encs ks) ≤ 2 * deps ks + 1
  | [] => by rw [encs]; simp [D.dps]
  | (k, t) :: r => by
    rw [encs]
    have h1 := enc_dp t
    have h2 := encs_dp r
    simp only [D.dps, D.dp, deps]
    omega
end
mutual
theorem enc_node : ∀ (t : Tr), t.ok = true → isNode (enc t) = true
  | .file z, h => by
    rw [enc_file]
    simpa [isNode, Tr.ok] using h
  | .fold ks, h => by
    simp only [Tr.ok, Bool.and_eq_true] at h
    rw [enc_fold]
    simp only [isNode, Bool.and_eq_true]
    refine ⟨encs_pairs ks h.1, ?_⟩
    have : (encs ks).map keyS = ks.map (·.1) := by rw [encs_map, List.map_map]; rfl
    rw [this]
    exact h.2
theorem encs_pairs : ∀ (ks : List (Str × Tr)), oks ks = true → isPairs (encs ks) = true
  | [], _ => by rw [encs]; rfl
  | (k, t) :: r, h => by
    simp only [oks, Bool.and_eq_true] at h
    rw [encs]
    simp only [isPairs, isPair, isPair2, isName, Bool.and_eq_true]
    exact ⟨⟨h.1.1, enc_node t h.1.2⟩, encs_pairs r h.2⟩
end
theorem tree_ok {ks : Trs} (h : (Tr.fold ks).ok = true) : isTree (enc (.fold ks)) = true := by
  unfold isTree
  rw [enc_node _ h, enc_fold]
  rfl
mutual
theorem names_cnt : ∀ t : Tr, t.names.length = t.cnt
  | .file z => rfl
  | .fold ks => by simp only [Tr.names, Tr.cnt, namesL_cnt ks]
theorem namesL_cnt : ∀ ks : List (Str × Tr), (namesL ks).length = cnts ks
  | [] => rfl
  | (k, t) :: r => by
    simp only [namesL, cnts, List.length_cons, List.length_append, names_cnt t, namesL_cnt r]
    omega
end
mutual
theorem rows_cnt : ∀ (t : Tr) (p : List Str), (t.rows p).length = t.cnt
  | .file z, p => rfl
  | .fold ks, p => by simp only [Tr.rows, Tr.cnt, rowsL_cnt ks]
theorem rowsL_cnt : ∀ (ks : List (Str × Tr)) (p : List Str), (rowsL p ks).length = cnts ks
  | [], p => rfl
  | (k, t) :: r, p => by
    simp only [rowsL, cnts, List.length_cons, List.length_append, rows_cnt t, rowsL_cnt r]
    omega
end
mutual
theorem files_len : ∀ (t : Tr) (p : List Str), (t.files p).length ≤ t.cnt + 1
  | .file z, p => by simp [Tr.files]
  | .fold ks, p => by simp only [Tr.files, Tr.cnt]; have := filesL_len ks p; omega
theorem filesL_len : ∀ (ks : List (Str × Tr)) (p : List Str), (filesL p ks).length ≤ cnts ks
  | [], p => by simp [filesL]
  | (k, t) :: r, p => by
    have h1 := files_len t (p ++ [k])
    have h2 := filesL_len r p
    simp only [filesL, cnts, List.length_append]
    omega
end
theorem namesL_app (a b : Trs) : namesL (a ++ b) = namesL a ++ namesL b := by
  induction a with
  | nil => rfl
  | cons x a ih => obtain ⟨k, t⟩ := x; simp [namesL, ih]
theorem filesL_app (a b : Trs) (p : List Str) : filesL p (a ++ b) = filesL p a ++ filesL p b := by
  induction a with
  | nil => rfl
  | cons x a ih => obtain ⟨k, t⟩ := x; simp [filesL, ih]
theorem rowsL_app (a b : Trs) (p : List Str) : rowsL p (a ++ b) = rowsL p a ++ rowsL p b := by
  induction a with
  | nil => rfl
  | cons x a ih => obtain ⟨k, t⟩ := x; simp [rowsL, ih]
theorem cnts_app (a b : Trs) : cnts (a ++ b) = cnts a + cnts b := by
  induction a with
  | nil => simp [cnts]
  | cons x a ih => obtain ⟨k, t⟩ := x; simp [cnts, ih]; omega
theorem deps_mem {ks : Trs} : ∀ p ∈ ks, p.2.dep ≤ deps ks := by
  induction ks with
  | nil => intro p hp; simp at hp
  | cons x r ih =>
    obtain ⟨k, t⟩ := x
    intro p hp
    simp only [deps]
    rcases List.mem_cons.mp hp with rfl | hp
    · exact Nat.le_max_left _ _
    · exact Nat.le_trans (ih p hp) (Nat.le_max_right _ _)
theorem cnts_mem {ks : Trs} : ∀ p ∈ ks, p.2.cnt + 1 ≤ cnts ks := by
  induction ks with
  | nil => intro p hp; simp at hp
  | cons x r ih =>
    obtain ⟨k, t⟩ := x
    intro p hp
    simp only [cnts]
    rcases List.mem_cons.mp hp with rfl | hp
    · show t.cnt + 1 ≤ _; omega
    · have := ih p hp; omega
/-- a loop over a tree's pairs, place by place -/
theorem for_trs {ok : Sto → Bool} {f : D → Env → Sto → SRes} {N : Env → Sto → Prop} {R : D → Sto → Prop} {ks : Trs} {s : Sto} {r : Env} (I : Trs → Env → Prop) (h0 : ok s = true) (h1 : I [] r) (h2 : ∀ r, I ks r → N r s)
    (h3 : ∀ pre k t post r, ks = pre ++ (k, t) :: post → I pre r → (f (.tup [.str k, enc t]) r s).P (fun r s' => s' = s ∧ I (pre ++ [(k, t)]) r) R) : (forLoop ok f (encs ks) r s).P N R := by
  refine forP (fun ys r t => t = s ∧ ∃ pre post, ks = pre ++ post ∧ ys = encs post ∧ I pre r) ⟨rfl, [], ks, rfl, rfl, h1⟩ ?_ ?_
  · rintro r t ⟨rfl, pre, post, e, e2, hI⟩
    have : post = [] := by
      have := congrArg List.length e2
      rw [encs_len] at this
      exact List.eq_nil_of_length_eq_zero this.symm
    subst this
    rw [List.append_nil] at e
    subst e
    exact ⟨h0, h2 r hI⟩
  · rintro x xs r t ⟨rfl, pre, post, e, e2, hI⟩
    cases post with
    | nil => rw [encs] at e2; cases e2
    | cons p post =>
      obtain ⟨k, t'⟩ := p
      rw [encs] at e2
      cases e2
      refine ⟨h0, (h3 pre k t' post r e hI).mono (fun r s' q => ⟨q.1, pre ++ [(k, t')], post, by rw [e]; simp, rfl, q.2⟩) fun _ _ q => q⟩
theorem all_nodes_ok : ∀ (m : Nat) {ks : Trs} {s : Sto}, deps ks + 1 ≤ m → cnts ks ≤ 1000 → callN tab m 5 [.tup (encs ks)] s = .ok (.lst ((namesL ks).map .str)) s
  | 0, ks, s, h, _ => by omega
  | n + 1, ks, s, h, hc => by
    refine Res.P.eq ?_
    rw [callN_at at_p_all_nodes n [.tup (encs ks)] s rfl]
    unfold p_all_nodes
    simp
    refine for_trs (fun pre r => ∃ a b, r = [.val (.tup (encs ks)), .val (.lst ((namesL pre).map .str)), a, b]) rfl ⟨_, _, rfl⟩ ?_ ?_
    · rintro r ⟨a, b, rfl⟩
      simp
    · rintro pre k t post r e ⟨a, b, rfl⟩
      have hm : (k, t) ∈ ks := by rw [e]; simp
      have hd := deps_mem _ hm
      have hcm := cnts_mem _ hm
      have hcs : cnts pre + (1 + t.cnt + cnts post) = cnts ks := by rw [e, cnts_app]; simp [cnts]
      have l1 := namesL_cnt pre
      simp [l1]
      refine ⟨by omega, ?_⟩
      cases t with
      | file z => simp [namesL_app, namesL, Tr.names, l1]; omega
      | fold ks' =>
        simp only [Tr.dep] at hd
        simp only [Tr.cnt] at hcm hcs
        have ih := all_nodes_ok n (ks := ks') (s := s) (by omega) (by omega)
        have l2 := namesL_cnt ks'
        simp [ih, namesL_app, namesL, Tr.names, l1, l2]
        omega
end Mp
set_option Elab.async false
set_option linter.all false
set_option maxRecDepth 100000
set_option maxHeartbeats 4000000
/-! what is read off trees -/
namespace Mp
open PySem PySem.Spec PyProof.Rows
open PySem.PyData (strOk)
/-- a loop over a list, place by place -/
theorem for_map {α : Type} {ok : Sto → Bool} {f : D → Env → Sto → SRes} {N : Env → Sto → Prop} {R : D → Sto → Prop} (ys : List α) (e : α → D) {s : Sto} {r : Env} (I : List α → Env → Sto → Prop) (h0 : ∀ pre r s, I pre r s → ok s = true) (h1 : I [] r s) (h2 : ∀ r s, I ys r s → N r s)
    (h3 : ∀ pre y post r s, ys = pre ++ y :: post → I pre r s → (f (e y) r s).P (fun r s' => I (pre ++ [y]) r s') R) : (forLoop ok f (ys.map e) r s).P N R := by
  refine forP (fun xs r t => ∃ pre post, ys = pre ++ post ∧ xs = post.map e ∧ I pre r t) ⟨[], ys, rfl, rfl, h1⟩ ?_ ?_
  · rintro r t ⟨pre, post, e1, e2, hI⟩
    have : post = [] := by simpa using e2.symm
    subst this
    rw [List.append_nil] at e1
    subst e1
    exact ⟨h0 _ _ _ hI, h2 r t hI⟩
  · rintro x xs r t ⟨pre, post, e1, e2, hI⟩
    cases post with
    | nil => cases e2
    | cons p post =>
      rw [List.map_cons] at e2
      cases e2
      exact ⟨h0 _ _ _ hI, (h3 pre p post r t e1 hI).mono (fun r s' q => ⟨pre ++ [p], post, by rw [e1]; simp, rfl, q⟩) fun _ _ q => q⟩
def encF (p : List Str × Str) : D := .tup [.tup (p.1.map .str), .str p.2]
theorem all_files_ok : ∀ (m : Nat) {ks : Trs} {p : List Str} {s : Sto}, deps ks + 1 ≤ m → cnts ks ≤ 1000 → p.length + deps ks ≤ 1000 → callN tab m 6 [.tup (encs ks), .tup (p.map .str)] s = .ok (.lst ((filesL p ks).map encF)) s
  | 0, ks, p, s, h, _, _ => by omega
  | n + 1, ks, p, s, h, hc, hp => by
    refine Res.P.eq ?_
    rw [callN_at at_p_all_files n [.tup (encs ks), .tup (p.map .str)] s rfl]
    unfold p_all_files
    simp
    refine for_trs (fun pre r => ∃ a b c, r = [.val (.tup (encs ks)), .val (.tup (p.map .str)), .val (.lst ((filesL p pre).map encF)), a, b, c]) rfl ⟨_, _, _, rfl⟩ ?_ ?_
    · rintro r ⟨a, b, c, rfl⟩
      simp
    · rintro pre k t post r e ⟨a, b, c, rfl⟩
      have hm : (k, t) ∈ ks := by rw [e]; simp
      have hd := deps_mem _ hm
      have hcm := cnts_mem _ hm
      have hcs : cnts pre + (1 + t.cnt + cnts post) = cnts ks := by rw [e, cnts_app]; simp [cnts]
      have l1 := filesL_len pre p
      have l3 : p.length + 1 ≤ 16777216 := by omega
      simp [l3]
      have em : (p.map D.str ++ [D.str k]) = (p ++ [k]).map D.str := by simp
      cases t with
      | file z => simp [filesL_app, filesL, Tr.files, encF]; omega
      | fold ks' =>
        simp only [Tr.dep] at hd
        simp only [Tr.cnt] at hcm hcs
        have ih := all_files_ok n (ks := ks') (p := p ++ [k]) (s := s) (by omega) (by omega) (by simp; omega)
        have l2 := filesL_len ks' (p ++ [k])
        rw [← em] at ih
        simp [ih, filesL_app, filesL, Tr.files]
        omega
theorem count_nodes_ok {m : Nat} {ks : Trs} {s : Sto} (h : (Tr.fold ks).ok = true) (hc : cnts ks ≤ 1000) (hm : 2 * deps ks + 7 ≤ m) : callN tab m 9 [.tup (encs ks)] s = .ok (.int (cnts ks)) s := by
  obtain ⟨n, rfl⟩ : ∃ n, m = n + 1 := ⟨m - 1, by omega⟩
  have h1 := enc_pl (.fold ks) h (by simpa [Tr.cnt] using hc)
  have h2 := enc_dp (.fold ks)
  have h3 := tree_ok h
  simp only [enc_fold, Tr.dep] at h1 h2 h3
  refine Res.P.eq ?_
  rw [callN_at at_p_count_nodes n [.tup (encs ks)] s rfl]
  unfold p_count_nodes
  simp [need_tree_ok (s := s) h1 (by omega : _ + 4 ≤ n) h3, all_nodes_ok n (s := s) (by omega : deps ks + 1 ≤ n) hc, namesL_cnt]
theorem alike_strs : ∀ (a b : List Str), W.alikeAll (a.map PyData.str) (b.map PyData.str) = true
  | [], _ => by simp [W.alikeAll]
  | _ :: _, [] => by simp [W.alikeAll]
  | x :: xs, y :: ys => by simp [W.alikeAll, W.alike, alike_strs xs ys]
theorem encF_pd (p : List Str × Str) : (encF p).pd = .tuple [.tuple (p.1.map PyData.str), .str p.2] := by simp [encF, D.pd, D.pds, pds_strs]
theorem encF_alike (p q : List Str × Str) : W.alike (encF p).pd (encF q).pd = true := by
  rw [encF_pd, encF_pd]
  simp [W.alike, W.alikeAll, alike_strs]
/-- what a pair of names and text must be -/
def okF (p : List Str × Str) : Prop := (∀ z ∈ p.1, isNameS z = true) ∧ isNameS p.2 = true ∧ p.1.length ≤ 1000
theorem strs_pl {zs : List Str} (h : ∀ z ∈ zs, isNameS z = true) (hl : zs.length ≤ 1000) : (D.tup (zs.map .str)).pl = true := by
  simp only [D.pl, Bool.and_eq_true, decide_eq_true_eq, List.length_map]
  refine ⟨hl, D.pls_of fun x hx => ?_⟩
  obtain ⟨z, hz, rfl⟩ := List.mem_map.mp hx
  exact name_pl (h z hz)
theorem strs_dps (zs : List Str) : D.dps (zs.map D.str) = 0 := by
  induction zs with
  | nil => rfl
  | cons z zs ih => simp [D.dps, D.dp, ih]
theorem strs_dp (zs : List Str) : (D.tup (zs.map D.str)).dp = 1 := by simp [D.dp, strs_dps]
theorem encF_pl {p : List Str × Str} (h : okF p) : (encF p).pl = true := by
  unfold encF
  have h1 := strs_pl h.1 h.2.2
  have h2 := name_pl h.2.1
  rw [D.pl]
  simp only [D.pls, h1, h2]
  rfl
theorem encF_dp (p : List Str × Str) : (encF p).dp = 2 := by
  unfold encF
  rw [D.dp]
  simp only [D.dps, strs_dp]
  simp [D.dp]
theorem sortD_files {fs : List (List Str × Str)} (h : ∀ p ∈ fs, okF p) : sortD (fs.map encF) = some ((fs.map encF).mergeSort (W.dataLe false D.pd)) := by
  unfold sortD
  rw [if_pos]
  simp only [Bool.and_eq_true, Bool.or_eq_true, List.all_eq_true]
  refine ⟨⟨fun x hx y hy => ?_, .inl fun x hx => ?_⟩, fun x hx => ?_⟩
  · obtain ⟨p, _, rfl⟩ := List.mem_map.mp hx
    obtain ⟨q, _, rfl⟩ := List.mem_map.mp hy
    exact encF_alike p q
  · obtain ⟨p, _, rfl⟩ := List.mem_map.mp hx
    rfl
  · obtain ⟨p, hp, rfl⟩ := List.mem_map.mp hx
    exact D.shaped (encF_pl (h p hp)) (by rw [encF_dp]; omega)
mutual
theorem files_ok : ∀ (t : Tr) (p : List Str), t.ok = true → (∀ z ∈ p, isNameS z = true) → p.length + t.dep ≤ 1000 → ∀ q ∈ t.files p, okF q
  | .file z, p, h, hp, hl, q, hq => by
    simp only [Tr.files, List.mem_singleton] at hq
    subst hq
    exact ⟨hp, by simpa [Tr.ok] using h, by show p.length ≤ 1000; omega⟩
  | .fold ks, p, h, hp, hl, q, hq => by
    simp only [Tr.ok, Bool.and_eq_true] at h
    simp only [Tr.files] at hq
    simp only [Tr.dep] at hl
    exact filesL_ok ks p h.1 hp (by omega) q hq
theorem filesL_ok : ∀ (ks : List (Str × Tr)) (p : List Str), oks ks = true → (∀ z ∈ p, isNameS z = true) → p.length + deps ks + 1 ≤ 1000 → ∀ q ∈ filesL p ks, okF q
  | [], p, _, _, _, q, hq => by simp [filesL] at hq
  | (k, t) :: r, p, h, hp, hl, q, hq => by
    simp only [oks, Bool.and_eq_true] at h
    simp only [filesL, List.mem_append] at hq
    simp only [deps] at hl
    rcases hq with hq | hq
    · exact files_ok t (p ++ [k]) h.1.2 (fun z hz => by
        rcases List.mem_append.mp hz with hz | hz
        · exact hp z hz
        · simp at hz; rw [hz]; exact h.1.1) (by simp; omega) q hq
    · exact filesL_ok r p h.2 hp (by omega) q hq
end
def sortedF (fs : List (List Str × Str)) : List D := (fs.map encF).mergeSort (W.dataLe false D.pd)
theorem files_def_ok {m : Nat} {ks : Trs} {s : Sto} (h : (Tr.fold ks).ok = true) (hc : cnts ks ≤ 1000) (hd : deps ks ≤ 900) (hm : 2 * deps ks + 7 ≤ m) : callN tab m 10 [.tup (encs ks)] s = .ok (.lst (sortedF (filesL [] ks))) s := by
  obtain ⟨n, rfl⟩ : ∃ n, m = n + 1 := ⟨m - 1, by omega⟩
  have h1 := enc_pl (.fold ks) h (by simpa [Tr.cnt] using hc)
  have h2 := enc_dp (.fold ks)
  have h3 := tree_ok h
  simp only [enc_fold, Tr.dep] at h1 h2 h3
  have h4 := all_files_ok n (p := []) (s := s) (by omega : deps ks + 1 ≤ n) hc (by simp; omega)
  simp only [Tr.ok, Bool.and_eq_true] at h
  have h5 := sortD_files (filesL_ok ks [] h.1 (by simp) (by simp; omega))
  refine Res.P.eq ?_
  rw [callN_at at_p_files n [.tup (encs ks)] s rfl]
  unfold p_files
  simp only [List.map_nil] at h4
  simp [need_tree_ok (s := s) h1 (by omega : _ + 4 ≤ n) h3, h4, h5, sortedF]
/-! ### the node at a path -/
def selT (ks : Trs) (n : Str) : List Tr := ks.filterMap fun p => if p.1 = n then some p.2 else none
theorem selT_head (ks : Trs) (n : Str) : (selT ks n).head? = lookT ks n := by
  induction ks with
  | nil => rfl
  | cons p ks ih =>
    obtain ⟨k, t⟩ := p
    unfold selT at ih ⊢
    rw [List.filterMap_cons]
    simp only [lookT]
    by_cases h : k = n
    · simp [h]
    · simp [h, ih]
theorem selT_mem {ks : Trs} {n : Str} {t : Tr} (h : t ∈ selT ks n) : ∃ k, (k, t) ∈ ks := by
  unfold selT at h
  obtain ⟨p, hp, e⟩ := List.mem_filterMap.mp h
  split at e
  · cases e; exact ⟨p.1, hp⟩
  · cases e
theorem lookT_mem {ks : Trs} {n : Str} {t : Tr} (h : lookT ks n = some t) : (n, t) ∈ ks := by
  induction ks with
  | nil => cases h
  | cons p ks ih =>
    obtain ⟨k, u⟩ := p
    simp only [lookT] at h
    split at h
    · rename_i e; cases h; rw [e]; exact List.mem_cons_self
    · exact List.mem_cons_of_mem _ (ih h)
theorem eqv_nil (xs : List D) : PyData.eqvAll (D.pds xs) [] = xs.isEmpty := by
  cases xs <;> simp [D.pds, PyData.eqvAll]
theorem ne_nil (s : Sto) {xs : List D} (h : D.pls xs = true) (hl : xs.length ≤ 1000) (hd : D.dps xs ≤ 60) : cmpF s .ne (.lst xs) (.lst []) = some (!xs.isEmpty) := by
  show (D.eqq (.lst xs) (.lst [])).map (!·) = _
  rw [D.eqq_of (by simp [D.pl, h, hl]) rfl (by simp only [D.dp]; omega) (by simp [D.dp, D.dps])]
  simp only [D.pd, D.pds, PyData.eqv, eqv_nil]
  rfl
theorem eq_nil (s : Sto) {xs : List D} (h : D.pls xs = true) (hl : xs.length ≤ 1000) (hd : D.dps xs ≤ 60) : cmpF s .eq (.lst xs) (.lst []) = some xs.isEmpty := by
  show D.eqq (.lst xs) (.lst []) = _
  rw [D.eqq_of (by simp [D.pl, h, hl]) rfl (by simp only [D.dp]; omega) (by simp [D.dp, D.dps])]
  simp only [D.pd, D.pds, PyData.eqv, eqv_nil]
/-- a tree that stays within bounds -/
structure Tr.fine (t : Tr) : Prop where
  ok : t.ok = true
  cnt : t.cnt ≤ 1000
  dep : t.dep ≤ 25
theorem Tr.fine.sub {ks : Trs} (h : (Tr.fold ks).fine) {k : Str} {t : Tr} (hm : (k, t) ∈ ks) : t.fine := by
  obtain ⟨h1, h2, h3⟩ := h
  simp only [Tr.ok, Bool.and_eq_true, Tr.cnt, Tr.dep] at h1 h2 h3
  have q1 : t.dep ≤ deps ks := deps_mem _ hm
  have q2 : t.cnt + 1 ≤ cnts ks := cnts_mem _ hm
  exact ⟨(oks_mem h1.1 _ hm).2, by omega, by omega⟩
theorem Tr.fine.pl {t : Tr} (h : t.fine) : (enc t).pl = true := enc_pl t h.ok h.cnt
theorem Tr.fine.dp {t : Tr} (h : t.fine) : (enc t).dp ≤ 50 := by have := enc_dp t; have := h.dep; omega
def fineO (o : Option Tr) : Prop := ∀ t, o = some t → t.fine
theorem fineO.step {o : Option Tr} (h : fineO o) (n : Str) : fineO (stepT o n) := by
  intro t e
  cases o with
  | none => cases e
  | some u =>
    cases u with
    | file z => cases e
    | fold ks => exact (h _ rfl).sub (lookT_mem e)
theorem getT_snoc (o : Option Tr) (p : List Str) (n : Str) : getT o (p ++ [n]) = stepT (getT o p) n := by unfold getT; rw [List.foldl_append]; rfl
theorem inner_node_ok {m : Nat} (hm : 1 ≤ m) {t : Tr} (ht : t.fine) {p : List Str} (hp : ∀ z ∈ p, isNameS z = true) {s : Sto} : callN tab m 7 [enc t, .tup (p.map .str)] s = .ok (encO (getT (some t) p)) s := by
  obtain ⟨n, rfl⟩ : ∃ n, m = n + 1 := ⟨m - 1, by omega⟩
  refine Res.P.eq ?_
  rw [callN_at at_p_inner_node n [enc t, .tup (p.map .str)] s rfl]
  unfold p_inner_node
  simp
  refine for_map p D.str (fun pre r s' => s' = s ∧ fineO (getT (some t) pre) ∧ ∃ a b c d, r = [.val (enc t), .val (.tup (p.map .str)), .val (encO (getT (some t) pre)), a, b, c, d]) (fun _ _ _ h => rfl) ⟨rfl, fun u e => by cases e; exact ht, _, _, _, _, rfl⟩ ?_ ?_
  · rintro r s' ⟨rfl, _, a, b, c, d, rfl⟩
    simp
  · rintro pre y post r s' e ⟨rfl, hf, a, b, c, d, rfl⟩
    have hy : strOk y = true := (name_ok (hp y (by rw [e]; simp))).1
    have hs := hf.step y
    rw [← getT_snoc] at hs
    simp only [getT_snoc] at hs ⊢
    generalize getT (some t) pre = o at hf hs ⊢
    cases o with
    | none =>
      simp [encO, stepT]
      rw [ne_nil s' rfl (by simp) (by simp [D.dps])]
      simp
      exact fun u e => by cases e
    | some u =>
      cases u with
      | file z =>
        simp [encO, stepT]
        rw [ne_nil s' rfl (by simp) (by simp [D.dps])]
        simp
        exact fun u e => by cases e
      | fold ks =>
        have hu := hf _ rfl
        have hok := hu.ok
        simp only [Tr.ok, Bool.and_eq_true] at hok
        have hcn := hu.cnt
        simp only [Tr.cnt] at hcn
        have hkl := len_cnts ks
        simp [encO, stepT]
        rw [encs_map]
        refine lc_filterG ks (fun p => .tup [.str p.1, enc p.2]) (fun p => if p.1 = y then some (enc p.2) else none) rfl (by omega) (fun q hq => ?_) ?_
        · have hk := (name_ok (oks_mem hok.1 q hq).1).1
          simp [lcTurn_some, eq_str' s' hk hy]
        · have e1 : (ks.filterMap fun p => if p.1 = y then some (enc p.2) else none) = (selT ks y).map enc := by
            unfold selT
            rw [List.map_filterMap]
            congr 1
            funext p
            by_cases h : p.1 = y <;> simp [h]
          rw [e1]
          have hsl : (selT ks y).length ≤ 1000 := Nat.le_trans (by unfold selT; exact List.length_filterMap_le _ _) (by omega : ks.length ≤ 1000)
          have hpl : D.pls ((selT ks y).map enc) = true := D.pls_of fun x hx => by
            obtain ⟨u, hu', rfl⟩ := List.mem_map.mp hx
            obtain ⟨k, hk⟩ := selT_mem hu'
            exact (hu.sub hk).pl
          have hdp : D.dps ((selT ks y).map enc) ≤ 60 := D.dps_le fun x hx => by
            obtain ⟨u, hu', rfl⟩ := List.mem_map.mp hx
            obtain ⟨k, hk⟩ := selT_mem hu'
            have := (hu.sub hk).dp
            omega
          have hhead := selT_head ks y
          simp [ne_nil s' hpl (by simpa using hsl) hdp]
          cases hsel : selT ks y with
          | nil =>
            rw [hsel] at hhead
            simp at hhead
            simp [encO, ← hhead]
            exact fun u e => by cases e
          | cons u us =>
            rw [hsel] at hhead
            simp at hhead
            simp only [stepT, ← hhead] at hs
            simp [encO, ← hhead]
            exact hs
theorem isPath_strs {p : List Str} (hp : ∀ z ∈ p, isNameS z = true) (hl : p.length = 1 ∨ p.length = 2) : isPath (.tup (p.map .str)) = true := by
  simp only [isPath, List.length_map, hl, decide_true, Bool.true_and, List.all_map, List.all_eq_true]
  exact fun z hz => hp z hz
theorem at_path_ok {m : Nat} {ks : Trs} (ht : (Tr.fold ks).fine) (hm : 60 ≤ m) {p : List Str} (hp : ∀ z ∈ p, isNameS z = true) (hl : p.length = 1 ∨ p.length = 2) {s : Sto} : callN tab m 11 [.tup (encs ks), .tup (p.map .str)] s = .ok (encO (getT (some (.fold ks)) p)) s := by
  obtain ⟨n, rfl⟩ : ∃ n, m = n + 1 := ⟨m - 1, by omega⟩
  have h1 := ht.pl
  have h2 := ht.dp
  have h3 := tree_ok ht.ok
  have h5 := inner_node_ok (by omega : 1 ≤ n) ht hp (s := s)
  simp only [enc_fold] at h1 h2 h3 h5
  have h4 := strs_pl hp (by omega)
  refine Res.P.eq ?_
  rw [callN_at at_p_at_path n [.tup (encs ks), .tup (p.map .str)] s rfl]
  unfold p_at_path
  simp [need_tree_ok (s := s) h1 (by omega : _ + 4 ≤ n) h3, is_path_ok (s := s) (by omega : 2 ≤ n) h4, isPath_strs hp hl, h5]
end Mp
set_option Elab.async false
set_option linter.all false
set_option maxRecDepth 100000
set_option maxHeartbeats 4000000
/-! draws -/
namespace Mp
open PySem PySem.Spec PyProof.Rows
open PySem.PyData (strOk)
/-- a source of draws stands at n -/
def SrcAt (n : Nat) (s : Sto) : Prop := ∃ c a b, s[n]? = some (c, .lst [.int a, .int b]) ∧ 0 ≤ a ∧ 0 ≤ b ∧ b < 2147483647
/-- all but what A tells stays -/
structure Fr (A : Nat → Prop) (s s' : Sto) : Prop where
  len : s.length ≤ s'.length
  keep : ∀ j, j < s.length → ¬ A j → s'[j]? = s[j]?
theorem Fr.refl (A : Nat → Prop) (s : Sto) : Fr A s s := ⟨Nat.le_refl _, fun _ _ _ => rfl⟩
theorem Fr.trans {A : Nat → Prop} {s s1 s2 : Sto} (h : Fr A s s1) (g : Fr A s1 s2) : Fr A s s2 := ⟨Nat.le_trans h.len g.len, fun j hj ha => (g.keep j (Nat.lt_of_lt_of_le hj h.len) ha).trans (h.keep j hj ha)⟩
theorem Fr.mono {A B : Nat → Prop} {s s1 : Sto} (h : Fr A s s1) (f : ∀ j, A j → B j) : Fr B s s1 := ⟨h.len, fun j hj hb => h.keep j hj fun ha => hb (f j ha)⟩
theorem Fr.set {n : Nat} {s : Sto} {o : Nat × SO} : Fr (· = n) s (s.set n o) := ⟨by simp, fun j _ hj => by rw [List.getElem?_set_ne (fun e => hj e.symm)]⟩
theorem Fr.at {A : Nat → Prop} {s s1 : Sto} (h : Fr A s s1) {j : Nat} {o : Nat × SO} (e : s[j]? = some o) (ha : ¬ A j) : s1[j]? = some o := (h.keep j (List.getElem?_eq_some_iff.mp e).1 ha).trans e
theorem SrcAt.keep {A : Nat → Prop} {s s1 : Sto} {n : Nat} (h : SrcAt n s) (f : Fr A s s1) (ha : ¬ A n) : SrcAt n s1 := by
  obtain ⟨c, a, b, e, q⟩ := h
  exact ⟨c, a, b, f.at e ha, q⟩
theorem set_at {s : Sto} {n : Nat} {o p : Nat × SO} (h : s[n]? = some o) : (s.set n p)[n]? = some p := List.getElem?_set_self (List.getElem?_eq_some_iff.mp h).1
theorem subF_ref {s : Sto} {n c : Nat} {xs : List D} (h : s[n]? = some (c, .lst xs)) (i : Int) : subF s (.ref n) (.int i) = (L2.atI xs i).map held := by
  show (match seqR s (.ref n), (D.int i) with
    | some xs, .int i => (L2.atI xs i).map held
    | _, _ => match dicV s (.ref n), keyOf (.int i) with
      | some (ks, vs), some k => (look ks vs k).map held
      | _, _ => none) = _
  simp only [seqR, seqV, h]
theorem setF_ref {s : Sto} {n c : Nat} {xs : List D} (h : s[n]? = some (c, .lst xs)) {i : Int} (h0 : 0 ≤ i) (h1 : i < xs.length) (v : D) : setF s (.ref n) (.int i) v = some (s.set n (c + 1, .lst (xs.set i.toNat v))) := by
  unfold setF
  simp only [h]
  have : L2.ixN xs.length i = some i.toNat := by
    unfold L2.ixN
    rw [if_pos h0, if_pos h1]
  rw [this]
theorem draw_ok {m : Nat} (hm : 1 ≤ m) {n : Nat} {s : Sto} (hs : SrcAt n s) {k : Int} (h0 : 0 < k) (hk : k < 1073741824) :
    (callN tab m 23 [.ref n, .int k] s).P fun v s' => ∃ i : Int, v = .int i ∧ 0 ≤ i ∧ i < k ∧ SrcAt n s' ∧ Fr (· = n) s s' := by
  obtain ⟨d, rfl⟩ : ∃ n, m = n + 1 := ⟨m - 1, by omega⟩
  obtain ⟨c, a, b, e, ha, hb, hb2⟩ := hs
  rw [callN_at at_L_draw d [.ref n, .int k] s rfl]
  unfold L_draw
  simp [subF_ref e]
  split
  · simp [setF_ref e (i := 0) (by omega) (by simp), h0, hk]
    exact ⟨Int.emod_nonneg _ (by omega), Int.emod_lt_of_pos _ h0, ⟨c + 1, a / k, b, set_at e, Int.ediv_nonneg ha (by omega), hb, hb2⟩, Fr.set⟩
  · have e2 := set_at (p := (c + 1, SO.lst [.int a, .int (b * 48271 % 2147483647)])) e
    have m1 := Int.emod_nonneg (b * 48271) (by omega : (2147483647 : Int) ≠ 0)
    have m2 := Int.emod_lt_of_pos (b * 48271) (by omega : (0 : Int) < 2147483647)
    simp [setF_ref e (i := 1) (by omega) (by simp), h0, hk, subF_ref e2]
    refine ⟨by omega, Int.emod_nonneg _ (by omega), Int.emod_lt_of_pos _ h0, ⟨c + 1, a, _, e2, ha, m1, m2⟩, Fr.set⟩
theorem of_ok {m : Nat} (hm : 2 ≤ m) {n : Nat} {s : Sto} (hs : SrcAt n s) {xs : List D} (h0 : xs ≠ []) (hl : xs.length < 1073741824) :
    (callN tab m 24 [.ref n, .lst xs] s).P fun v s' => v ∈ xs ∧ SrcAt n s' ∧ Fr (· = n) s s' := by
  obtain ⟨d, rfl⟩ : ∃ n, m = n + 1 := ⟨m - 1, by omega⟩
  have hp : 0 < xs.length := List.length_pos_iff.mpr h0
  rw [callN_at at_L_of d [.ref n, .lst xs] s rfl]
  unfold L_of
  simp
  refine (draw_ok (by omega : 1 ≤ d) hs (k := xs.length) (by omega) (by omega)).mono ?_
  rintro v s' ⟨i, rfl, i0, i1, hs', hf⟩
  simp
  rw [atI_lt i0 (by omega)]
  simp
  exact ⟨hs', hf⟩
theorem source_ok {m : Nat} (hm : 1 ≤ m) {ns : List Int} {k : Int} (h0 : 0 ≤ k) {s : Sto} :
    (callN tab m 22 [.cel (ns.map .int), .int k] s).P fun v s' => v = .ref s.length ∧ SrcAt s.length s' ∧ Fr (fun _ => False) s s' := by
  obtain ⟨d, rfl⟩ : ∃ n, m = n + 1 := ⟨m - 1, by omega⟩
  rw [callN_at at_L_source d [.cel (ns.map .int), .int k] s rfl]
  unfold L_source
  have fin : ∀ (a x : Int), 0 ≤ a → SrcAt s.length (s ++ [(0, SO.lst [.int a, .int (1 + x % 2147483646)])]) ∧ Fr (fun _ => False) s (s ++ [(0, SO.lst [.int a, .int (1 + x % 2147483646)])]) := fun a x ha => by
    have m1 := Int.emod_nonneg x (by omega : (2147483646 : Int) ≠ 0)
    have m2 := Int.emod_lt_of_pos x (by omega : (0 : Int) < 2147483646)
    exact ⟨⟨0, a, 1 + x % 2147483646, by simp, ha, by omega, by omega⟩, ⟨by simp, fun j hj _ => by rw [List.getElem?_append_left hj]⟩⟩
  have rest : ∀ c : Int, 0 ≤ c → (execs (callN tab d) [.ite (.cmp .lt (.var 2) (.bin .pow (.cst (.int 10)) (.cst (.int 18))))
    [.ret (.new (.lst [(.cst (.int 0)), (.bin .add (.cst (.int 1)) (.bin .mod (.blt .int [(.bin .add (.bin .mul (.var 2) (.cst (.int 7919))) (.bin .mul (.cst (.int 104729)) (.var 1)))]) (.cst (.int 2147483646))))]))]
    [],
  .ret (.new (.lst [(.var 2), (.bin .add (.cst (.int 1)) (.bin .mod (.blt .int [(.bin .add (.var 2) (.var 1))]) (.cst (.int 2147483646))))]))] [.val (.cel (ns.map .int)), .val (.int k), .val (.int c)] s).P (fun _ _ => False) (fun v s' => v = .ref s.length ∧ SrcAt s.length s' ∧ Fr (fun _ => False) s s') := fun c hc => by
    simp [fresh, held, esc]
    split
    · exact fin 0 _ (by omega)
    · exact fin c _ hc
  simp only [execs_cons] at rest ⊢
  simp
  split
  · rename_i h
    rw [atI_lt h0 (by simp; omega)]
    simp
    have := rest (if ns[k.toNat] < 0 then -ns[k.toNat] else ns[k.toNat]) (by split <;> omega)
    simpa using this
  · simpa using rest 0 (by omega)
/-! ### paths and commands -/
def okP (p : List Str) : Prop := (∀ z ∈ p, isNameS z = true) ∧ (p.length = 1 ∨ p.length = 2)
def encP (p : List Str) : D := .tup (p.map .str)
theorem path_ok {m : Nat} (hm : 3 ≤ m) {n : Nat} {s : Sto} (hs : SrcAt n s) : (callN tab m 25 [.ref n] s).P fun v s' => ∃ p, v = encP p ∧ okP p ∧ SrcAt n s' ∧ Fr (· = n) s s' := by
  obtain ⟨d, rfl⟩ : ∃ n, m = n + 1 := ⟨m - 1, by omega⟩
  rw [callN_at at_L_path d [.ref n] s rfl]
  unfold L_path
  simp
  refine (of_ok (by omega : 2 ≤ d) hs (by simp) (by simp)).mono ?_
  rintro v s1 ⟨hv, hs1, f1⟩
  have : ∃ z, v = .str z ∧ isNameS z = true := by
    simp at hv
    rcases hv with rfl | rfl | rfl <;> exact ⟨_, rfl, by decide +kernel⟩
  obtain ⟨z, rfl, hz⟩ := this
  try simp
  refine (draw_ok (by omega : 1 ≤ d) hs1 (by omega) (by omega)).mono ?_
  rintro v s2 ⟨i, rfl, i0, i1, hs2, f2⟩
  simp
  split
  · exact ⟨[z], rfl, ⟨by simpa using hz, .inl rfl⟩, hs2, f1.trans f2⟩
  · refine (of_ok (by omega : 2 ≤ d) hs2 (by simp) (by simp)).mono ?_
    rintro v s3 ⟨hv, hs3, f3⟩
    have : ∃ y, v = .str y ∧ isNameS y = true := by
      simp at hv
      rcases hv with rfl | rfl <;> exact ⟨_, rfl, by decide +kernel⟩
    obtain ⟨y, rfl, hy⟩ := this
    exact ⟨[z, y], rfl, ⟨by simp [hz, hy], .inr rfl⟩, hs3, (f1.trans f2).trans f3⟩
theorem marks_draw {m : Nat} (hm : 2 ≤ m) {n : Nat} {s : Sto} (hs : SrcAt n s) {ms : List Str} (hl : ms.length ≤ 1000) : (callN tab m 26 [.ref n, .lst (ms.map .str)] s).P fun v s' => ∃ l : List Str, v = .tup (l.map .str) ∧ l.Sublist ms ∧ SrcAt n s' ∧ Fr (· = n) s s' := by
  obtain ⟨d, rfl⟩ : ∃ n, m = n + 1 := ⟨m - 1, by omega⟩
  rw [callN_at at_L_marks d [.ref n, .lst (ms.map .str)] s rfl]
  unfold L_marks
  simp
  refine lcP (fun xs acc t => SrcAt n t ∧ Fr (· = n) s t ∧ ∃ pre post l : List Str, ms = pre ++ post ∧ xs = post.map D.str ∧ acc = l.map D.str ∧ l.Sublist pre) ⟨hs, Fr.refl _ _, [], ms, [], rfl, rfl, rfl, List.Sublist.refl _⟩ ?_ ?_
  · rintro acc t ⟨ht, f, pre, post, l, e, e2, rfl, hsub⟩
    refine ⟨rfl, ?_⟩
    have : post = [] := by simpa using e2.symm
    subst this
    rw [List.append_nil] at e
    subst e
    try simp
    exact ⟨l, rfl, hsub, ht, f⟩
  · rintro x xs acc t ⟨ht, f, pre, post, l, e, e2, rfl, hsub⟩
    refine ⟨rfl, ?_⟩
    cases post with
    | nil => cases e2
    | cons y post =>
      rw [List.map_cons] at e2
      cases e2
      have hlen := hsub.length_le
      have hlm : pre.length ≤ ms.length := by rw [e]; simp
      rw [lcTurn_some]
      simp
      refine (draw_ok (by omega : 1 ≤ d) ht (by omega) (by omega)).mono ?_
      rintro v t1 ⟨i, rfl, i0, i1, ht1, f1⟩
      simp
      split
      · try simp
        exact ⟨by omega, ht1, f.trans f1, pre ++ [y], post, by rw [e]; simp, rfl, l ++ [y], by simp, hsub.append (List.Sublist.refl _)⟩
      · exact ⟨ht1, f.trans f1, pre ++ [y], post, by rw [e]; simp, rfl, l, rfl, hsub.trans (List.sublist_append_left _ _)⟩
inductive Cmd where
  | carry (copy : Bool) (ms : List Str) (p g : List Str)
  | make (ms : List Str) (p : List Str)
  | remove (ms : List Str) (p : List Str)
  | write (p : List Str) (z : Str)
def encC : Cmd → D
  | .carry c ms p g => .tup [.str (if c then "copy" else "move"), .tup (ms.map .str), encP p, encP g]
  | .make ms p => .tup [.str "make", .tup (ms.map .str), encP p]
  | .remove ms p => .tup [.str "remove", .tup (ms.map .str), encP p]
  | .write p z => .tup [.str "write", encP p, .str z]
def okC : Cmd → Prop
  | .carry c ms p g => ms.Sublist (if c then ["never", "new", "tree"] else ["never", "new"]) ∧ okP p ∧ okP g
  | .make ms p => ms.Sublist ["parents"] ∧ okP p
  | .remove ms p => ms.Sublist ["quiet", "tree"] ∧ okP p
  | .write p z => okP p ∧ isNameS z = true
theorem command_ok {m : Nat} (hm : 4 ≤ m) {n : Nat} {s : Sto} (hs : SrcAt n s) : (callN tab m 27 [.ref n] s).P fun v s' => ∃ c, v = encC c ∧ okC c ∧ SrcAt n s' ∧ Fr (· = n) s s' := by
  obtain ⟨d, rfl⟩ : ∃ n, m = n + 1 := ⟨m - 1, by omega⟩
  rw [callN_at at_L_command d [.ref n] s rfl]
  unfold L_command
  simp
  refine (draw_ok (by omega : 1 ≤ d) hs (by omega) (by omega)).mono ?_
  rintro v s1 ⟨i, rfl, i0, i1, hs1, f1⟩
  refine (path_ok (by omega : 3 ≤ d) hs1).mono ?_
  rintro v s2 ⟨p, rfl, hp, hs2, f2⟩
  have f12 := f1.trans f2
  simp
  have e1 : D.lst [.str "never", .str "new"] = .lst (([("never" : Str), "new"]).map .str) := rfl
  have e2 : D.lst [.str "parents"] = .lst (([("parents" : Str)]).map .str) := rfl
  have e3 : D.lst [.str "quiet", .str "tree"] = .lst (([("quiet" : Str), "tree"]).map .str) := rfl
  split
  · rw [e1]
    refine (marks_draw (by omega : 2 ≤ d) hs2 (by simp)).mono ?_
    rintro v s3 ⟨l, rfl, hl, hs3, f3⟩
    try simp
    refine (path_ok (by omega : 3 ≤ d) hs3).mono ?_
    rintro v s4 ⟨g, rfl, hg, hs4, f4⟩
    exact ⟨.carry false l p g, rfl, ⟨hl, hp, hg⟩, hs4, (f12.trans f3).trans f4⟩
  · split
    · rw [e1]
      refine (marks_draw (by omega : 2 ≤ d) hs2 (by simp)).mono ?_
      rintro v s3 ⟨l, rfl, hl, hs3, f3⟩
      have hll := hl.length_le
      simp at hll
      simp
      refine (draw_ok (by omega : 1 ≤ d) hs3 (by omega) (by omega)).mono ?_
      rintro v s4 ⟨j, rfl, j0, j1, hs4, f4⟩
      simp
      split
      · try simp
        refine ⟨by omega, ?_⟩
        refine (path_ok (by omega : 3 ≤ d) hs4).mono ?_
        rintro v s5 ⟨g, rfl, hg, hs5, f5⟩
        refine ⟨.carry true (l ++ [("tree" : Str)]) p g, ?_, ⟨?_, hp, hg⟩, hs5, ((f12.trans f3).trans f4).trans f5⟩
        · simp [encC]
        · exact hl.append (List.Sublist.refl [("tree" : Str)])
      · try simp
        refine ⟨by omega, ?_⟩
        refine (path_ok (by omega : 3 ≤ d) hs4).mono ?_
        rintro v s5 ⟨g, rfl, hg, hs5, f5⟩
        exact ⟨.carry true l p g, rfl, ⟨hl.trans (List.sublist_append_left [("never" : Str), "new"] [("tree" : Str)]), hp, hg⟩, hs5, ((f12.trans f3).trans f4).trans f5⟩
    · split
      · rw [e2]
        refine (marks_draw (by omega : 2 ≤ d) hs2 (by simp)).mono ?_
        rintro v s3 ⟨l, rfl, hl, hs3, f3⟩
        exact ⟨.make l p, rfl, ⟨hl, hp⟩, hs3, f12.trans f3⟩
      · split
        · rw [e3]
          refine (marks_draw (by omega : 2 ≤ d) hs2 (by simp)).mono ?_
          rintro v s3 ⟨l, rfl, hl, hs3, f3⟩
          exact ⟨.remove l p, rfl, ⟨hl, hp⟩, hs3, f12.trans f3⟩
        · refine (of_ok (by omega : 2 ≤ d) hs2 (by simp) (by simp)).mono ?_
          rintro v s3 ⟨hv, hs3, f3⟩
          have : ∃ z, v = .str z ∧ isNameS z = true := by
            simp at hv
            rcases hv with rfl | rfl | rfl <;> exact ⟨_, rfl, by decide +kernel⟩
          obtain ⟨z, rfl, hz⟩ := this
          exact ⟨.write p z, rfl, ⟨hp, hz⟩, hs3, f12.trans f3⟩
end Mp
set_option Elab.async false
set_option linter.all false
set_option maxRecDepth 100000
set_option maxHeartbeats 4000000
/-! drawn scripts and trees -/
namespace Mp
open PySem PySem.Spec PyProof.Rows
open PySem.PyData (strOk)
abbrev Scr := Bool × List Cmd
def encS (x : Scr) : D := .tup [.bl x.1, .tup (x.2.map encC)]
structure okS (k : Nat) (x : Scr) : Prop where
  lo : 1 ≤ x.2.length
  hi : x.2.length ≤ k
  ok : ∀ c ∈ x.2, okC c
theorem ok_na : isNameS "a" = true := by decide +kernel
theorem ok_nb : isNameS "b" = true := by decide +kernel
theorem ok_nx : isNameS "x" = true := by decide +kernel
theorem okP_a : okP ["a"] := ⟨by simpa using ok_na, .inl rfl⟩
theorem okP_b : okP ["b"] := ⟨by simpa using ok_nb, .inl rfl⟩
def cmdCopy : Cmd := .carry true ["never"] ["a"] ["b"]
def cmdWrite : Cmd := .write ["a"] "x"
def cmdMake : Cmd := .make ["parents"] ["b"]
def cmdMove : Cmd := .carry false [] ["a"] ["b"]
theorem ok_copy : okC cmdCopy := ⟨by simpa using List.Sublist.cons_cons "never" (List.nil_sublist _), okP_a, okP_b⟩
theorem ok_write : okC cmdWrite := ⟨okP_a, ok_nx⟩
theorem ok_make : okC cmdMake := ⟨List.Sublist.refl _, okP_b⟩
theorem ok_move : okC cmdMove := ⟨List.nil_sublist _, okP_a, okP_b⟩
theorem len_rangeD (n : Nat) : (rangeD 0 n).length = n := by simp [rangeD]
theorem cmds_ok {m : Nat} (hm : 4 ≤ m) {n : Nat} {s : Sto} (hs : SrcAt n s) {k : Nat} (hk : k ≤ 1000) {r : Env} (h0 : r[0]? = some (.val (.ref n))) (hl : 5 < r.length) {Q : List D → Sto → Prop}
    (q : ∀ (cs : List Cmd) (s' : Sto), cs.length = k → (∀ c ∈ cs, okC c) → SrcAt n s' → Fr (· = n) s s' → Q (cs.map encC) s') :
    (lcLoop (Src.held.still true) (lcTurn (callN tab m) r (.cal 27 [.var 0]) (.nm 5) none [5]) (rangeD 0 k) [] s).P Q := by
  refine lcP (fun xs acc t => SrcAt n t ∧ Fr (· = n) s t ∧ ∃ cs : List Cmd, acc = cs.map encC ∧ cs.length + xs.length = k ∧ ∀ c ∈ cs, okC c) ⟨hs, Fr.refl _ _, [], rfl, by rw [len_rangeD]; simp, by simp⟩ ?_ ?_
  · rintro acc t ⟨ht, f, cs, rfl, e, ok⟩
    exact ⟨rfl, q cs t (by simpa using e) ok ht f⟩
  · rintro x xs acc t ⟨ht, f, cs, rfl, e, ok⟩
    refine ⟨rfl, ?_⟩
    rw [lcTurn_none]
    simp
    have e0 : ((r.set 5 SV.no).set 5 (.val x))[0]? = some (.val (.ref n)) := by
      rw [List.getElem?_set_ne (by omega), List.getElem?_set_ne (by omega), h0]
    simp only [List.length_cons] at e
    simp [List.getElem?_set_ne, h0]
    refine (command_ok hm ht).mono ?_
    rintro v t1 ⟨c, rfl, hc, ht1, f1⟩
    refine ⟨by omega, ht1, f.trans f1, cs ++ [c], by simp, by simp; omega, fun x hx => ?_⟩
    rcases List.mem_append.mp hx with hx | hx
    · exact ok x hx
    · simp at hx; rw [hx]; exact hc
def OutS (n k : Nat) (s : Sto) (v : D) (s' : Sto) : Prop := ∃ x, v = encS x ∧ okS k x ∧ SrcAt n s' ∧ Fr (· = n) s s'
theorem script_ok {m : Nat} (hm : 5 ≤ m) {n : Nat} {s : Sto} (hs : SrcAt n s) {k : Nat} (hk0 : 1 ≤ k) (hk : k ≤ 5) : (callN tab m 28 [.ref n, .int k] s).P (OutS n k s) := by
  obtain ⟨d, rfl⟩ : ∃ n, m = n + 1 := ⟨m - 1, by omega⟩
  rw [callN_at at_L_script d [.ref n, .int k] s rfl]
  unfold L_script
  simp
  refine (draw_ok (by omega : 1 ≤ d) hs (by omega) (by omega)).mono ?_
  rintro v s1 ⟨i, rfl, i0, i1, hs1, f1⟩
  simp
  refine (draw_ok (by omega : 1 ≤ d) hs1 (by omega) (by omega)).mono ?_
  rintro v s2 ⟨j, rfl, j0, j1, hs2, f2⟩
  refine (draw_ok (by omega : 1 ≤ d) hs2 (by omega) (by omega)).mono ?_
  rintro v s3 ⟨l, rfl, l0, l1, hs3, f3⟩
  simp
  refine ⟨by omega, ?_⟩
  have el : (1 + l) = ((1 + l).toNat : Int) := by omega
  rw [el]
  refine cmds_ok (by omega : 4 ≤ d) hs3 (by omega) rfl (by simp) fun cs s4 hcl hco hs4 f4 => ?_
  have f := ((f1.trans f2).trans f3).trans f4
  have hcl' : 1 ≤ cs.length ∧ cs.length ≤ k := by omega
  try simp
  have cutk : ∀ xs : List D, cut xs none (some (k : Int)) = xs.take k := fun xs => cut_hi xs k
  have fin : ∀ (cs : List Cmd) (s4 : Sto), 1 ≤ cs.length ∧ cs.length ≤ k → (∀ c ∈ cs, okC c) → SrcAt n s4 → Fr (· = n) s s4 →
      OutS n k s (.tup [.bl (decide (i = 0)), .tup (cs.map encC)]) s4 := fun cs s4 h1 h2 h3 h4 =>
    ⟨(decide (i = 0), cs), rfl, ⟨h1.1, h1.2, h2⟩, h3, h4⟩
  by_cases hj0 : j = 0
  · subst hj0
    simp [cutk]
    have e : (List.take k [D.tup [.str "copy", .tup [.str "never"], .tup [.str "a"], .tup [.str "b"]], D.tup [.str "write", .tup [.str "a"], .str "x"]]) = ([cmdCopy, cmdWrite].take k).map encC := by
      rw [List.map_take]; rfl
    rw [e]
    refine fin ([cmdCopy, cmdWrite].take k) s4 ⟨by simp; omega, by simp; omega⟩ (fun c hc => ?_) hs4 f
    have := List.mem_of_mem_take hc
    simp at this
    rcases this with rfl | rfl
    · exact ok_copy
    · exact ok_write
  · simp [hj0]
    by_cases hj1 : j = 1
    · subst hj1
      simp
      cases cs with
      | nil => simp at hcl'
      | cons c0 cs =>
        simp
        refine (of_ok (by omega : 2 ≤ d) hs4 (by simp) (by simp)).mono ?_
        rintro v s5 ⟨hv, hs5, f5⟩
        have : ∃ c, v = encC c ∧ okC c := by
          simp at hv
          rcases hv with rfl | rfl
          · exact ⟨cmdMove, rfl, ok_move⟩
          · exact ⟨c0, rfl, hco c0 (by simp)⟩
        obtain ⟨c, rfl, hc⟩ := this
        simp [cutk]
        have e : (List.take k [D.tup [.str "make", .tup [.str "parents"], .tup [.str "b"]], encC c]) = ([cmdMake, c].take k).map encC := by
          rw [List.map_take]; rfl
        rw [e]
        refine fin ([cmdMake, c].take k) s5 ⟨by simp; omega, by simp; omega⟩ (fun c' hc' => ?_) hs5 (f.trans f5)
        have := List.mem_of_mem_take hc'
        simp at this
        rcases this with rfl | rfl
        · exact ok_make
        · exact hc
    · simp [hj1]
      exact fin cs s4 hcl' hco hs4 f
/-! ### dicts that are filled -/
theorem has_texts (ks : List Str) (k : Str) : has (ks.map .text) (.text k) = decide (k ∈ ks) := by
  unfold has
  induction ks with
  | nil => simp
  | cons x ks ih =>
    simp only [List.map_cons, List.any_cons, beq_text, ih, List.mem_cons]
    by_cases h : x = k
    · simp [h]
    · have : ¬ k = x := fun e => h e.symm
      simp [h, this]
theorem putK_new {ks : List Str} {k : Str} (h : k ∉ ks) : putK (ks.map .text) (.text k) = (ks ++ [k]).map .text := by
  unfold putK
  rw [has_texts]
  simp [h]
theorem putK_old {ks : List Str} {k : Str} (h : k ∈ ks) : putK (ks.map .text) (.text k) = ks.map .text := by
  unfold putK
  rw [has_texts]
  simp [h]
theorem putV_new {ks : List Str} {k : Str} (h : k ∉ ks) : ∀ {vs : List D}, vs.length = ks.length → ∀ v, putV (ks.map .text) vs (.text k) v = vs ++ [v] := by
  induction ks with
  | nil => intro vs hl v; simp at hl; subst hl; rfl
  | cons x ks ih =>
    intro vs hl v
    cases vs with
    | nil => simp at hl
    | cons u vs =>
      simp only [List.mem_cons, not_or] at h
      have hx : ¬ x = k := fun e => h.1 e.symm
      simp [putV, hx]
      exact ih h.2 (by simpa using hl) v
theorem putV_last {ks : List Str} {k : Str} (h : k ∉ ks) : ∀ {vs : List D}, vs.length = ks.length → ∀ u v, putV ((ks ++ [k]).map .text) (vs ++ [u]) (.text k) v = vs ++ [v] := by
  induction ks with
  | nil => intro vs hl u v; simp at hl; subst hl; simp [putV]
  | cons x ks ih =>
    intro vs hl u v
    cases vs with
    | nil => simp at hl
    | cons w vs =>
      simp only [List.mem_cons, not_or] at h
      have hx : ¬ x = k := fun e => h.1 e.symm
      simp [putV, hx]
      have := ih h.2 (by simpa using hl : vs.length = ks.length) u v
      simpa using this
theorem look_texts {ks : List Str} (hn : ks.Nodup) : ∀ {vs : List D}, vs.length = ks.length → ∀ (i : Nat) (hi : i < ks.length) (hv : i < vs.length), look (ks.map .text) vs (.text ks[i]) = some vs[i] := by
  induction ks with
  | nil => intro vs _ i hi; simp at hi
  | cons x ks ih =>
    intro vs hl i hi hv
    cases vs with
    | nil => simp at hl
    | cons u vs =>
      have hn := List.nodup_cons.mp hn
      cases i with
      | zero => simp [look]
      | succ i =>
        simp only [List.length_cons] at hi hv hl
        have hx : ¬ x = ks[i] := fun e => hn.1 (by rw [e]; exact List.getElem_mem _)
        simp [look, hx]
        exact ih hn.2 (by omega) i (by omega) (by omega)
theorem look_trs {ks : Trs} (hn : (ks.map (·.1)).Nodup) {k : Str} {t : Tr} (h : (k, t) ∈ ks) : look ((ks.map (·.1)).map .text) (ks.map fun p => enc p.2) (.text k) = some (enc t) := by
  obtain ⟨i, hi, e⟩ := List.getElem_of_mem h
  have := look_texts hn (vs := ks.map fun p => enc p.2) (by simp) i (by simpa using hi) (by simpa using hi)
  simp only [List.getElem_map, e] at this
  exact this
theorem ofKeys_texts (ks : List Str) : ofKeys (ks.map .text) = ks.map D.str := by
  induction ks with
  | nil => rfl
  | cons k ks ih => simp [ofKeys, ofKey, ih]
/-! ### folders -/
def LeftAt (l : Nat) (v : Int) (s : Sto) : Prop := ∃ c, s[l]? = some (c, .lst [.int v])
theorem LeftAt.keep {A : Nat → Prop} {s s1 : Sto} {l : Nat} {v : Int} (h : LeftAt l v s) (f : Fr A s s1) (ha : ¬ A l) : LeftAt l v s1 := by
  obtain ⟨c, e⟩ := h
  exact ⟨c, f.at e ha⟩
abbrev F2 (n l : Nat) : Nat → Prop := fun j => j = n ∨ j = l
def tnames : List Str := ["a", "b", "c", "q"]
theorem tnames_ok : (∀ z ∈ tnames, isNameS z = true) ∧ Asc tnames := ⟨by decide +kernel, ascS_iff.mp (by decide +kernel)⟩
theorem deps_app (a b : Trs) : deps (a ++ b) = max (deps a) (deps b) := by
  induction a with
  | nil => simp [deps]
  | cons x a ih => obtain ⟨k, t⟩ := x; simp [deps, ih] <;> try omega
theorem oks_app (a b : Trs) : oks (a ++ b) = (oks a && oks b) := by
  induction a with
  | nil => simp [oks]
  | cons x a ih => obtain ⟨k, t⟩ := x; simp [oks, ih, Bool.and_assoc]
def OutF (n l d : Nat) (s : Sto) (v : Int) (r : D) (s' : Sto) : Prop := ∃ (ks : Trs) (v' : Int), r = .tup (encs ks) ∧ (Tr.fold ks).ok = true ∧ deps ks + 1 ≤ d ∧ (cnts ks : Int) + v' ≤ v ∧ 0 ≤ v' ∧ SrcAt n s' ∧ LeftAt l v' s' ∧ Fr (F2 n l) s s'
structure FoldI (n l d : Nat) (s : Sto) (v : Int) (pre : List Str) (ks : Trs) (v' : Int) (s' : Sto) : Prop where
  ok : oks ks = true
  sub : (ks.map (·.1)).Sublist pre
  dep : deps ks ≤ d
  cnt : (cnts ks : Int) + v' ≤ v
  pos : 0 ≤ v'
  src : SrcAt n s'
  left : LeftAt l v' s'
  fr : Fr (F2 n l) s s'
def envF (n l d : Nat) (ks : Trs) (x : SV) : Env := [.val (.ref n), .val (.int ((d : Int) + 1)), .val (.ref l), .own (.dic ((ks.map (·.1)).map .text) (ks.map fun p => enc p.2)), x]
def LoopF (n l d : Nat) (s : Sto) (v : Int) (pre : List Str) (r : Env) (s' : Sto) : Prop := ∃ ks v' x, r = envF n l d ks x ∧ FoldI n l d s v pre ks v' s'
theorem LoopF.mk {n l d : Nat} {s : Sto} {v : Int} {pre : List Str} {s' : Sto} {ks : Trs} {v' : Int} {x : SV} {K : List NestedKey} {vs : List D} (h : FoldI n l d s v pre ks v' s') (e1 : K = (ks.map (·.1)).map .text) (e2 : vs = ks.map fun p => enc p.2) :
    LoopF n l d s v pre [.val (.ref n), .val (.int ((d : Int) + 1)), .val (.ref l), .own (.dic K vs), x] s' := ⟨ks, v', x, by rw [e1, e2]; rfl, h⟩
theorem folder_ok : ∀ (d : Nat) {m : Nat}, d + 3 ≤ m → ∀ {n l : Nat} {s : Sto} {v : Int}, n ≠ l → SrcAt n s → LeftAt l v s → 0 ≤ v → v ≤ 1000 → 1 ≤ d →
    (callN tab m 29 [.ref n, .int d, .ref l] s).P (OutF n l d s v)
  | 0, m, _, n, l, s, v, _, _, _, _, _, hd => by omega
  | d + 1, m, hm, n, l, s, v, hnl, hs, hv, hv0, hv1, hd => by
    obtain ⟨e, rfl⟩ : ∃ n, m = n + 1 := ⟨m - 1, by omega⟩
    rw [callN_at at_L_folder e [.ref n, .int ((d + 1 : Nat) : Int), .ref l] s rfl]
    unfold L_folder
    simp
    rw [show [D.str "a", D.str "b", D.str "c", D.str "q"] = tnames.map D.str from rfl]
    refine for_map tnames D.str (LoopF n l d s v) (fun _ _ _ _ => rfl) (LoopF.mk (ks := []) (v' := v) ⟨rfl, List.Sublist.refl _, by simp [deps], by simp [cnts], hv0, hs, hv, Fr.refl _ _⟩ rfl rfl) ?_ ?_
    · rintro r s' ⟨ks, v', x, rfl, ⟨hok, hsub, hdep, hcnt, hv', hs', hl', hf⟩⟩
      have hasc : Asc (ks.map (·.1)) := tnames_ok.2.sublist hsub
      unfold envF
      simp
      have ofk : ofKeys (ks.map (NestedKey.text ∘ fun x => x.1)) = (ks.map (·.1)).map D.str := by rw [← List.map_map (f := fun x : Str × Tr => x.1), ofKeys_texts]
      rw [ofk]
      have hln : ks.length ≤ 4 := by have := hsub.length_le; simpa [tnames] using this
      rw [List.map_map]
      refine lc_mapG ks (D.str ∘ fun p => p.1) (fun p => .tup [.str p.1, enc p.2]) rfl (by omega) (fun p hp => ?_) ?_
      · obtain ⟨k, t⟩ := p
        simp [lcTurn_none]
        rw [← List.map_map (f := fun x : Str × Tr => x.1) (g := NestedKey.text)]
        rw [look_trs hasc.nodup hp]
        simp
      · have e2 : (ks.map fun p => D.tup [.str p.1, enc p.2]) = (ks.map fun p => (p.1, [enc p.2])).map fun p => D.tup (.str p.1 :: p.2) := by rw [List.map_map]; rfl
        rw [e2, sortD_asc (by rw [List.map_map]; exact hasc), ← e2]
        simp
        exact ⟨ks, v', by rw [encs_map], by simp only [Tr.ok, hok, ascS_iff.mpr hasc, Bool.and_self], by omega, hcnt, hv', hs', hl', hf⟩
    · rintro pre y post r s' hpre ⟨ks, v', x, rfl, ⟨hok, hsub, hdep, hcnt, hv', hs', ⟨c, hc⟩, hf⟩⟩
      have hyn : isNameS y = true := tnames_ok.1 y (by rw [hpre]; simp)
      have hnew : y ∉ ks.map (·.1) := fun hm => by
        have hnd : (pre ++ y :: post).Nodup := by rw [← hpre]; exact tnames_ok.2.nodup
        have := (List.nodup_append.mp hnd).2.2 y (hsub.subset hm) y List.mem_cons_self
        exact this rfl
      have hsub2 : ((ks.map (·.1)) ++ [y]).Sublist (pre ++ [y]) := hsub.append (List.Sublist.refl _)
      have hln : ks.length ≤ 4 := by
        have h1 := hsub.length_le
        have h2 : pre.length ≤ tnames.length := by rw [hpre]; simp
        simp [tnames] at h1 h2
        omega
      unfold envF
      simp [subF_ref hc]
      by_cases hpos : 0 < v'
      · simp [hpos]
        refine (draw_ok (by omega : 1 ≤ e) hs' (by omega) (by omega)).mono ?_
        rintro w s1 ⟨i, rfl, i0, i1, hs1, f1⟩
        have hc1 : s1[l]? = some (c, .lst [.int v']) := f1.at hc (fun z => hnl z.symm)
        simp
        by_cases hi : i = 0
        · simp [hi, subF_ref hc1]
          rw [setF_ref hc1 (by omega) (by simp)]
          simp
          generalize hs2e : s1.set l (c + 1, SO.lst [.int (v' - 1)]) = s2
          have hc2 : s2[l]? = some (c + 1, .lst [.int (v' - 1)]) := by rw [← hs2e]; exact set_at hc1
          have f2 : Fr (· = l) s1 s2 := by rw [← hs2e]; exact Fr.set
          have hs2 : SrcAt n s2 := hs1.keep f2 hnl
          have ff2 : Fr (F2 n l) s s2 := (hf.trans (f1.mono fun j h => .inl h)).trans (f2.mono fun j h => .inr h)
          refine (of_ok (by omega : 2 ≤ e) hs2 (by simp) (by simp)).mono ?_
          rintro w s3 ⟨hw, hs3, f3⟩
          have : ∃ z, w = .str z ∧ isNameS z = true := by
            simp at hw
            rcases hw with rfl | rfl | rfl | rfl | rfl <;> exact ⟨_, rfl, by decide +kernel⟩
          obtain ⟨z, rfl, hz⟩ := this
          have hc3 : s3[l]? = some (c + 1, .lst [.int (v' - 1)]) := f3.at hc2 (fun q => hnl q.symm)
          have ff3 : Fr (F2 n l) s s3 := ff2.trans (f3.mono fun j h => .inl h)
          have pk := putK_new hnew
          have pv := putV_new hnew (vs := ks.map fun p => enc p.2) (by simp) (.str z)
          rw [List.map_map] at pk pv
          simp [pk, pv]
          refine ⟨by omega, ?_⟩
          have file : ∀ s4, SrcAt n s4 → LeftAt l (v' - 1) s4 → Fr (F2 n l) s s4 → FoldI n l d s v (pre ++ [y]) (ks ++ [(y, .file z)]) (v' - 1) s4 := fun s4 a b f => 
            ⟨by rw [oks_app, hok]; simp [oks, hyn, Tr.ok, hz], by simpa using hsub2, by rw [deps_app]; simp [deps, Tr.dep]; omega, by rw [cnts_app]; simp [cnts, Tr.cnt]; omega, by omega, a, b, f⟩
          by_cases hd1 : 0 < d
          · have hd1' : (1 : Int) < (d : Int) + 1 := by omega
            simp [hd1']
            refine (draw_ok (by omega : 1 ≤ e) hs3 (by omega) (by omega)).mono ?_
            rintro w s4 ⟨j, rfl, j0, j1, hs4, f4⟩
            have hc4 : s4[l]? = some (c + 1, .lst [.int (v' - 1)]) := f4.at hc3 (fun q => hnl q.symm)
            have ff4 : Fr (F2 n l) s s4 := ff3.trans (f4.mono fun j h => .inl h)
            simp
            by_cases hj : j = 0
            · simp [hj]
              have ih := folder_ok d (m := e) (by omega) (n := n) (l := l) (s := s4) (v := v' - 1) hnl hs4 ⟨_, hc4⟩ (by omega) (by omega) (by omega)
              refine ih.mono ?_
              rintro w s5 ⟨ks', v5, rfl, ok5, dep5, cnt5, v50, hs5, hl5, f5⟩
              have pk := putK_old (ks := (ks.map (·.1)) ++ [y]) (k := y) (by simp)
              have pv := putV_last hnew (vs := ks.map fun p => enc p.2) (by simp) (.str z) (.tup (encs ks'))
              simp only [List.map_append, List.map_map, List.map_cons, List.map_nil] at pk pv
              simp [pk, pv]
              refine ⟨by omega, LoopF.mk (ks := ks ++ [(y, .fold ks')]) (v' := v5) ⟨?_, by simpa using hsub2, ?_, ?_, v50, hs5, hl5, ff4.trans f5⟩ (by simp) (by simp)⟩
              · rw [oks_app, hok]; simp [oks, hyn, ok5]
              · rw [deps_app]; simp [deps, Tr.dep]; omega
              · rw [cnts_app]; simp [cnts, Tr.cnt]; omega
            · simp [hj]
              exact LoopF.mk (file s4 hs4 ⟨_, hc4⟩ ff4) (by simp) (by simp)
          · have hd1' : ¬ (1 : Int) < (d : Int) + 1 := by omega
            simp [hd1']
            exact LoopF.mk (file s3 hs3 ⟨_, hc3⟩ ff3) (by simp) (by simp)
        · simp [hi]
          exact LoopF.mk ⟨hok, hsub.trans (List.sublist_append_left _ _), hdep, hcnt, hv', hs1, ⟨c, hc1⟩, hf.trans (f1.mono fun j h => .inl h)⟩ (by simp) rfl
      · simp [hpos]
        exact LoopF.mk ⟨hok, hsub.trans (List.sublist_append_left _ _), hdep, hcnt, hv', hs', ⟨c, hc⟩, hf⟩ (by simp) rfl
def OutT (n : Nat) (s : Sto) (r : D) (s' : Sto) : Prop := ∃ ks : Trs, r = .tup (encs ks) ∧ (Tr.fold ks).ok = true ∧ deps ks ≤ 3 ∧ cnts ks ≤ 12 ∧ SrcAt n s' ∧ Fr (· = n) s s'
theorem tree_draw {m : Nat} (hm : 9 ≤ m) {n : Nat} {s : Sto} (hs : SrcAt n s) : (callN tab m 30 [.ref n] s).P (OutT n s) := by
  obtain ⟨e, rfl⟩ : ∃ n, m = n + 1 := ⟨m - 1, by omega⟩
  rw [callN_at at_L_tree e [.ref n] s rfl]
  unfold L_tree
  simp
  refine (draw_ok (by omega : 1 ≤ e) hs (by omega) (by omega)).mono ?_
  rintro w s1 ⟨i, rfl, i0, i1, hs1, f1⟩
  simp [fresh, held, esc]
  have hn : n < s1.length := by
    obtain ⟨c, a, b, h, _⟩ := hs1
    exact (List.getElem?_eq_some_iff.mp h).1
  have hs2 : SrcAt n (s1 ++ [(0, SO.lst [.int i])]) := by
    obtain ⟨c, a, b, h, q⟩ := hs1
    exact ⟨c, a, b, by rw [List.getElem?_append_left hn]; exact h, q⟩
  have f2 : Fr (fun _ => False) s1 (s1 ++ [(0, SO.lst [.int i])]) := ⟨by simp, fun j hj _ => by rw [List.getElem?_append_left hj]⟩
  refine (folder_ok 4 (m := e) (by omega) (n := n) (l := s1.length) (s := s1 ++ [(0, SO.lst [.int i])]) (v := i) (by omega) hs2 ⟨0, by simp⟩ i0 (by omega) (by omega)).mono ?_
  rintro w s3 ⟨ks, v', rfl, ok, dep, cnt, v0, hs3, _, f3⟩
  refine ⟨ks, rfl, ok, by omega, by omega, hs3, ⟨Nat.le_trans f1.len (Nat.le_trans f2.len f3.len), fun j hj hjn => ?_⟩⟩
  have h1 := f1.len
  rw [f3.keep j (Nat.lt_of_lt_of_le hj (Nat.le_trans f1.len f2.len)) (by rintro (q | q); exact hjn q; omega), f2.keep j (by omega) (fun q => q), f1.keep j hj hjn]
end Mp
set_option Elab.async false
set_option linter.all false
set_option maxRecDepth 100000
set_option maxHeartbeats 4000000
/-! the law's own reading of values -/
namespace Mp
open PySem PySem.Spec PyProof.Rows
open PySem.PyData (strOk)
def badOf {α : Type} (f : α → Bool) (xs : List α) : List α := xs.filterMap fun x => if f x = true then none else some x
theorem badOf_empty {α : Type} (f : α → Bool) (xs : List α) : (badOf f xs).isEmpty = xs.all f := by
  unfold badOf
  induction xs with
  | nil => rfl
  | cons x xs ih =>
    rw [List.filterMap_cons]
    cases h : f x with
    | true => simp [h, ih]
    | false => simp [h]
theorem badOf_mem {α : Type} {f : α → Bool} {xs : List α} {x : α} (h : x ∈ badOf f xs) : x ∈ xs := by
  unfold badOf at h
  obtain ⟨y, hy, e⟩ := List.mem_filterMap.mp h
  split at e
  · cases e
  · cases e; exact hy
theorem badOf_len {α : Type} (f : α → Bool) (xs : List α) : (badOf f xs).length ≤ xs.length := List.length_filterMap_le _ _
theorem badOf_pls {f : D → Bool} {xs : List D} (h : D.pls xs = true) : D.pls (badOf f xs) = true := D.pls_of fun x hx => D.pls_mem h x (badOf_mem hx)
theorem badOf_dps {f : D → Bool} {xs : List D} {n : Nat} (h : D.dps xs ≤ n) : D.dps (badOf f xs) ≤ n := D.dps_le fun x hx => Nat.le_trans (D.dps_mem x (badOf_mem hx)) h
theorem eq_bad (s : Sto) {f : D → Bool} {xs : List D} (h : D.pls xs = true) (hl : xs.length ≤ 1000) (hd : D.dps xs ≤ 60) : cmpF s .eq (.lst (badOf f xs)) (.lst []) = some (xs.all f) := by
  rw [eq_nil s (badOf_pls h) (Nat.le_trans (badOf_len f xs) hl) (badOf_dps hd), badOf_empty]
theorem ne_bad (s : Sto) {f : D → Bool} {xs : List D} (h : D.pls xs = true) (hl : xs.length ≤ 1000) (hd : D.dps xs ≤ 60) : cmpF s .ne (.lst (badOf f xs)) (.lst []) = some (!xs.all f) := by
  rw [ne_nil s (badOf_pls h) (Nat.le_trans (badOf_len f xs) hl) (badOf_dps hd), badOf_empty]
/-- [x for x in xs if not f(x)] -/
theorem lc_bad {ok : Sto → Bool} {g : D → Sto → Res (Option D)} {s : Sto} {xs : List D} {Q : List D → Sto → Prop} (f : D → Bool) (h0 : ok s = true) (hl : xs.length ≤ 16777216) (h : ∀ x ∈ xs, (g x s).P fun o t => o = (if f x = true then none else some x) ∧ t = s) (q : Q (badOf f xs) s) : (lcLoop ok g xs [] s).P Q :=
  lc_filter (fun x => if f x = true then none else some x) h0 hl h q
theorem letters_iff (c : Nat) : (!decide ([c] < ("a" : Str).cps.toList) && !decide (("z" : Str).cps.toList < [c])) = decide (c ∈ lettersS.cps.toList) := by
  have h1 : ("a" : Str).cps.toList = [97] := by decide +kernel
  have h2 : ("z" : Str).cps.toList = [122] := by decide +kernel
  have h3 : lettersS.cps.toList = List.range' 97 26 := by decide +kernel
  rw [h1, h2, h3]
  have e1 : ∀ a b : Nat, ([a] < [b]) ↔ a < b := fun a b => by simp [List.cons_lt_cons_iff]
  simp only [e1, List.mem_range'_1]
  by_cases a : c < 97 <;> by_cases b : 122 < c <;> simp [a, b] <;> omega
theorem Lis_name_ok {m : Nat} (hm : 1 ≤ m) {d : D} {s : Sto} (h : d.pl = true) : callN tab m 32 [d] s = .ok (.bl (isName d)) s := by
  obtain ⟨n, rfl⟩ : ∃ n, m = n + 1 := ⟨m - 1, by omega⟩
  refine Res.P.eq ?_
  rw [callN_at at_L_is_name n [d] s rfl]
  unfold L_is_name
  simp
  cases d with
  | str z =>
    simp at h
    have hz : z.length ≤ 16777216 := by omega
    have h1000 : z.cps.toList.length ≤ 1000 := by rw [signs_len]; exact h.1
    simp [hz]
    split
    · split
      · rename_i h1 h2
        have h1' : 1 ≤ z.length := by omega
        have h2' : z.length ≤ 8 := by omega
        refine lc_filterG z.cps.toList (fun c => .str ⟨#[c]⟩) (fun c => if decide (c ∈ lettersS.cps.toList) = true then none else some (.str ⟨#[c]⟩)) rfl (by omega) (fun c hc => ?_) ?_
        · have hl := letters_iff c
          simp [lcTurn_some]
          by_cases g1 : [c] < (Str.ofString "a").cps.toList
          · have : decide (c ∈ lettersS.cps.toList) = false := by rw [← hl]; simp [g1]
            have this := of_decide_eq_false this
            have g1' := List.not_le.mpr g1
            simp [g1']
            simpa using this
          · by_cases g2 : (Str.ofString "z").cps.toList < [c]
            · have : decide (c ∈ lettersS.cps.toList) = false := by rw [← hl]; simp [g2]
              have this := of_decide_eq_false this
              have g1' := List.not_lt.mp g1
              have g2' := List.not_le.mpr g2
              simp [g1', g2']
              simpa using this
            · have : decide (c ∈ lettersS.cps.toList) = true := by rw [← hl]; simp [g1, g2]
              have this := of_decide_eq_true this
              have g1' := List.not_lt.mp g1
              have g2' := List.not_lt.mp g2
              simp [g1', g2']
              simpa using this
        · have e1 : (z.cps.toList.filterMap fun c => if decide (c ∈ lettersS.cps.toList) = true then none else some (D.str ⟨#[c]⟩)) = (badOf (fun c => decide (c ∈ lettersS.cps.toList)) z.cps.toList).map fun c => D.str ⟨#[c]⟩ := by
            unfold badOf
            rw [List.map_filterMap]
            congr 1
            funext c
            by_cases g : c ∈ lettersS.cps.toList <;> simp [g]
          have hpl : D.pls ((badOf (fun c => decide (c ∈ lettersS.cps.toList)) z.cps.toList).map fun c => D.str ⟨#[c]⟩) = true := D.pls_of fun x hx => by
            obtain ⟨c, hc, rfl⟩ := List.mem_map.mp hx
            have hc' : c ∈ z.cps.toList := badOf_mem hc
            have := h.2
            unfold strOk at this
            rw [← Array.all_toList] at this
            have := List.all_eq_true.mp this c hc'
            simp [strOk] at this ⊢
            exact ⟨by show (1 : Nat) ≤ 1000; omega, this⟩
          have hdp : D.dps ((badOf (fun c => decide (c ∈ lettersS.cps.toList)) z.cps.toList).map fun c => D.str ⟨#[c]⟩) ≤ 60 := D.dps_le fun x hx => by
            obtain ⟨c, hc, rfl⟩ := List.mem_map.mp hx
            simp [D.dp]
          simp only [e1, fresh_1]
          rw [eq_nil s hpl (by rw [List.length_map]; exact Nat.le_trans (badOf_len _ _) h1000) hdp]
          have e2 := badOf_empty (fun c => decide (c ∈ lettersS.cps.toList)) z.cps.toList
          simp only [optP_some, held_1, esc_held, List.isEmpty_map, e2]
          simp [isName, isNameS, h1', h2']
      · rename_i h1 h2
        simp [isName, isNameS]
        omega
    · rename_i h1
      simp [isName, isNameS]
      omega
  | _ => first | (simp [isName]; done) | (simp [D.pl] at h)
theorem Lis_path_ok {m : Nat} (hm : 2 ≤ m) {d : D} {s : Sto} (h : d.pl = true) (hd : d.dp ≤ 60) : callN tab m 34 [d] s = .ok (.bl (isPath d)) s := by
  obtain ⟨n, rfl⟩ : ∃ n, m = n + 1 := ⟨m - 1, by omega⟩
  refine Res.P.eq ?_
  rw [callN_at at_L_is_path n [d] s rfl]
  unfold L_is_path
  simp
  rw [isi_tup s h]
  cases d with
  | tup xs =>
    simp only [D.pl, Bool.and_eq_true, decide_eq_true_eq] at h
    simp only [D.dp] at hd
    simp [isTup]
    by_cases h1 : 1 ≤ xs.length
    · by_cases h2 : xs.length ≤ 2
      · have h1' : (1 : Int) ≤ xs.length := by omega
        have h2' : (xs.length : Int) ≤ 2 := by omega
        simp [h1', h2']
        refine lc_bad isName rfl (by omega) (fun x hx => ?_) ?_
        · simp [lcTurn_some, Lis_name_ok (s := s) (by omega : 1 ≤ n) (D.pls_mem h.2 x hx)]
        · rw [eq_bad s h.2 h.1 (by omega)]
          have : xs.length = 1 ∨ xs.length = 2 := by omega
          simp [isPath, this]
      · have h1' : (1 : Int) ≤ xs.length := by omega
        have h2' : ¬ (xs.length : Int) ≤ 2 := by omega
        simp [h1', h2']
        have : ¬ (xs.length = 1 ∨ xs.length = 2) := by omega
        simp [isPath, this]
    · have h1' : ¬ (1 : Int) ≤ xs.length := by omega
      simp [h1']
      have : ¬ (xs.length = 1 ∨ xs.length = 2) := by omega
      simp [isPath, this]
  | _ => first | (simp [isTup, isPath]; done) | (simp [D.pl] at h)
theorem isNode_nt {d : D} (h : isTup d = false) : isNode d = isName d := by cases d <;> first | rfl | simp [isTup] at h | simp [isNode, isName]
theorem Lis_node_ok : ∀ (m : Nat) {d : D} {b : Bool} {s : Sto}, d.pl = true → d.dp + 2 ≤ m → callN tab m 33 [d, .bl b] s = .ok (.bl (isNode d && (isTup d || !b))) s
  | 0, d, b, s, h, hd => by omega
  | n + 1, d, b, s, h, hd => by
    refine Res.P.eq ?_
    rw [callN_at at_L_is_node n [d, .bl b] s rfl]
    unfold L_is_node
    simp
    rw [isi_tup s h]
    cases d with
    | tup xs =>
      simp only [D.pl, Bool.and_eq_true, decide_eq_true_eq] at h
      simp only [D.dp] at hd
      simp [isTup]
      refine forP (fun ys r t => t = s ∧ ys <:+ xs ∧ (∃ pre, xs = pre ++ ys ∧ ∀ x ∈ pre, isPair x = true) ∧ ∃ a c, r = [.val (.tup xs), .val (.bl b), a, c]) ⟨rfl, List.suffix_refl _, ⟨[], rfl, by simp⟩, _, _, rfl⟩ ?_ ?_
      · rintro r t ⟨rfl, _, ⟨pre, e, hp⟩, a, c, rfl⟩
        refine ⟨rfl, ?_⟩
        rw [List.append_nil] at e
        subst e
        simp
        refine lc_map (fun x => .str (keyS x)) rfl (by omega) (fun x hx => ?_) ?_
        · obtain ⟨z, d', rfl, _, _⟩ := isPair_inv (hp x hx)
          simp [lcTurn_none, keyS]
        · have e1 : (xs.map fun x => D.str (keyS x)) = (xs.map keyS).map D.str := by simp
          have okz : ∀ z ∈ xs.map keyS, strOk z = true := fun z hz => by
            obtain ⟨x, hx, rfl⟩ := List.mem_map.mp hz
            obtain ⟨z, d', rfl, hz', _⟩ := isPair_inv (hp x hx)
            exact (name_ok hz').1
          simp only [e1]
          simp
          rw [show (xs.map (D.str ∘ keyS)) = (xs.map keyS).map D.str by simp]
          rw [sortedset_lst t (xs.map keyS) (by simp; omega)]
          simp only [optP_some, fresh_1]
          rw [eq_strs t okz fun z hz => okz z (setS_mem.mp hz), asc_set]
          simp only [optP_some]
          have h1 : isPairs xs = true := isPairs_iff.mpr hp
          simp [isNode, h1]
      · rintro x ys r t ⟨rfl, hsf, ⟨pre, e, hp⟩, a, c, rfl⟩
        refine ⟨rfl, ?_⟩
        have hx : x ∈ xs := by rw [e]; simp
        have px := D.pls_mem h.2 x hx
        have dx := D.dps_mem x hx
        have next : isPair x = true → ∃ pre', xs = pre' ++ ys ∧ ∀ x ∈ pre', isPair x = true := fun hxx => ⟨pre ++ [x], by rw [e]; simp, fun y hy => by
          rcases List.mem_append.mp hy with hy | hy
          · exact hp y hy
          · simp at hy; subst hy; exact hxx⟩
        have stop : isPair x = false → isNode (.tup xs) = false := fun hxx => by
          have : isPairs xs = false := by
            cases q : isPairs xs with
            | false => rfl
            | true => rw [isPairs_iff.mp q x hx] at hxx; cases hxx
          simp [isNode, this]
        have sfx : ys <:+ xs := ⟨pre ++ [x], by rw [e]; simp⟩
        simp
        rw [isi_tup t px]
        cases x with
        | tup us =>
          simp [isTup]
          simp only [D.pl, Bool.and_eq_true, decide_eq_true_eq] at px
          simp only [D.dp] at dx
          by_cases hl : us.length = 2
          · match us, hl with
            | [k, d'], _ =>
              have pk : k.pl = true := D.pls_mem px.2 k (by simp)
              have pd : d'.pl = true := D.pls_mem px.2 d' (by simp)
              have dd : d'.dp ≤ D.dps [k, d'] := D.dps_mem d' (by simp)
              have i1 := Lis_name_ok (s := t) (by omega : 1 ≤ n) pk
              have i2 := Lis_node_ok n (b := false) (s := t) pd (by omega)
              simp [i1, i2]
              by_cases q1 : isName k = true
              · by_cases q2 : isNode d' = true
                · simp [q1, q2]
                  exact ⟨sfx, next (by simp [isPair, isPair2, q1, q2])⟩
                · simp [q1, q2]
                  exact stop (by simp [isPair, isPair2, q1, q2])
              · simp [q1]
                exact stop (by simp [isPair, isPair2, q1])
          · have hl' : ¬ ((us.length : Int) = 2) := by omega
            simp [hl']
            refine stop ?_
            match us, hl with
            | [], _ => rfl
            | [_], _ => rfl
            | [_, _], h => exact absurd rfl h
            | _ :: _ :: _ :: _, _ => rfl
        | _ => first | (simp [isTup]; exact stop rfl) | (simp [D.pl] at px)
    | _ => first | (simp [isTup, Lis_name_ok (s := s) (by omega : 1 ≤ n) h, isNode, isName]; done) | (simp [isTup, Lis_name_ok (s := s) (by omega : 1 ≤ n) h, isNode, isName]; cases b <;> simp; done) | (simp [D.pl] at h)
end Mp
set_option Elab.async false
set_option linter.all false
set_option maxRecDepth 100000
set_option maxHeartbeats 4000000
/-! the law's own reading of commands and scripts -/
namespace Mp
open PySem PySem.Spec PyProof.Rows
open PySem.PyData (strOk)
theorem filter_asc {zs ms : List Str} (hm : Asc ms) : decide (zs = ms.filter fun z => decide (z ∈ zs)) = ((zs.all fun z => decide (z ∈ ms)) && ascS zs) := by
  by_cases h : Asc zs
  · by_cases g : ∀ z ∈ zs, z ∈ ms
    · have e : zs = ms.filter fun z => decide (z ∈ zs) := Asc.ext h (hm.sublist List.filter_sublist) fun z => by
        simp only [List.mem_filter, decide_eq_true_eq]
        exact ⟨fun q => ⟨g z q, q⟩, fun q => q.2⟩
      have g' : (zs.all fun z => decide (z ∈ ms)) = true := by simpa using g
      rw [g', ascS_iff.mpr h, decide_eq_true e]
      rfl
    · have g' : (zs.all fun z => decide (z ∈ ms)) = false := by
        cases q : zs.all fun z => decide (z ∈ ms) with
        | false => rfl
        | true => exact absurd (by simpa using q) g
      rw [g', Bool.false_and, decide_eq_false_iff_not]
      intro e
      refine g fun z hz => ?_
      rw [e] at hz
      exact (List.mem_filter.mp hz).1
  · have : ascS zs = false := by
      cases e : ascS zs with
      | false => rfl
      | true => exact absurd (ascS_iff.mp e) h
    rw [this, Bool.and_false, decide_eq_false_iff_not]
    intro e
    rw [e] at h
    exact h (hm.sublist List.filter_sublist)
theorem look_some (w : Str) : look [.text "move", .text "copy", .text "make", .text "remove"] [(.lst [(.str "never"), (.str "new")]), (.lst [(.str "never"), (.str "new"), (.str "tree")]), (.lst [(.str "parents")]), (.lst [(.str "quiet"), (.str "tree")])] (.text w) = (marksOf w).map fun l => .lst (l.map .str) := by
  simp only [look, beq_text, marksOf, decide_eq_true_eq]
  by_cases h1 : ("move" : Str) = w
  · simp only [h1, if_true]; rfl
  by_cases h2 : ("copy" : Str) = w
  · simp only [h1, h2, if_true, if_false]; rfl
  by_cases h3 : ("make" : Str) = w
  · simp only [h1, h2, h3, if_true, if_false]; rfl
  by_cases h4 : ("remove" : Str) = w
  · simp only [h1, h2, h3, h4, if_true, if_false]; rfl
  simp only [h1, h2, h3, h4, if_false]; rfl
/-- what the law reads of marks, the value a tuple -/
def lawMarks (ms : List Str) : D → Bool
  | .tup xs => xs.all isStr && decide (strsD xs = ms.filter fun z => decide (z ∈ strsD xs))
  | _ => false
theorem lawMarks_eq {ms : List Str} (hm : Asc ms) (d : D) : lawMarks ms d = areMarks ms d := by
  cases d with
  | tup xs =>
    simp only [lawMarks, areMarks, filter_asc hm, Bool.and_assoc]
  | _ => rfl
theorem strsD_map (zs : List Str) : strsD (zs.map D.str) = zs := by
  induction zs with
  | nil => rfl
  | cons z zs ih => simp [strsD, ih]
theorem filterMap_strs (ms zs : List Str) : (ms.filterMap fun z => if z ∈ zs then some (D.str z) else none) = (ms.filter fun z => decide (z ∈ zs)).map D.str := by
  induction ms with
  | nil => rfl
  | cons z ms ih =>
    rw [List.filterMap_cons, List.filter_cons]
    by_cases h : z ∈ zs <;> simp [h, ih]
theorem isCommand_none {w : Str} {r : List D} (hw : ¬ w = "write") (hm : marksOf w = none) : isCommand (.tup (.str w :: r)) = false := by
  match r with
  | [] => simp [isCommand]
  | [_] => simp [isCommand]
  | [_, _] => simp [isCommand, hw, hm]
  | [_, _, _] => simp [isCommand, hw, hm]
  | _ :: _ :: _ :: _ :: _ => simp [isCommand]
theorem isCommand_bad {w : Str} {r : List D} {ms : List Str} (hw : ¬ w = "write") (hm : marksOf w = some ms) (hl : ¬ r.length = if isMC w = true then 3 else 2) : isCommand (.tup (.str w :: r)) = false := by
  match r, hl with
  | [], _ => simp [isCommand]
  | [_], _ => simp [isCommand]
  | [_, _], hl => cases h : isMC w <;> simp_all [isCommand]
  | [_, _, _], hl => cases h : isMC w <;> simp_all [isCommand]
  | _ :: _ :: _ :: _ :: _, _ => simp [isCommand]
theorem isCommand_mk {w : Str} {b : D} {ps : List D} {ms : List Str} (hw : ¬ w = "write") (hm : marksOf w = some ms) (hl : (b :: ps).length = if isMC w = true then 3 else 2) : isCommand (.tup (.str w :: b :: ps)) = (areMarks ms b && ps.all isPath) := by
  match ps, hl with
  | [], hl => cases h : isMC w <;> simp [h] at hl
  | [_], hl => cases h : isMC w <;> simp_all [isCommand]
  | [_, _], hl => cases h : isMC w <;> simp_all [isCommand]
  | _ :: _ :: _ :: _, hl => cases h : isMC w <;> simp [h] at hl
theorem Lis_command_ok {m : Nat} (hm : 3 ≤ m) {d : D} {s : Sto} (h : d.pl = true) (hd : d.dp ≤ 50) : callN tab m 35 [d] s = .ok (.bl (isCommand d)) s := by
  obtain ⟨n, rfl⟩ : ∃ n, m = n + 1 := ⟨m - 1, by omega⟩
  refine Res.P.eq ?_
  rw [callN_at at_L_is_command n [d] s rfl]
  unfold L_is_command
  simp only [execs_cons, exec_ite]
  simp
  rw [isi_tup s h]
  cases d with
  | tup xs =>
    simp only [D.pl, Bool.and_eq_true, decide_eq_true_eq] at h
    simp only [D.dp] at hd
    simp [isTup]
    by_cases hl : 3 ≤ xs.length
    · rw [if_neg (by omega)]
      have pm := D.pls_mem h.2
      have dm : ∀ x ∈ xs, x.dp ≤ 49 := fun x hx => by have := D.dps_mem x hx; omega
      cases xs with
      | nil => simp at hl
      | cons a r =>
        have pa := pm a List.mem_cons_self
        simp
        rw [isi_str s pa]
        cases a with
        | str w =>
          simp [isStr]
          simp at pa
          have eqw := eq_str' s pa.2 (by decide +kernel : strOk ("write" : Str) = true)
          rw [eqw]
          simp
          generalize hX : isCommand (.tup (.str w :: r)) = X
          by_cases hw : w = "write"
          · subst hw
            match r, hl, pm, hX with
            | [b, c], _, pm, hX =>
              have pb := pm b (by simp)
              have pc := pm c (by simp)
              have db := dm b (by simp)
              simp [Lis_path_ok (s := s) (by omega : 2 ≤ n) pb (by omega), Lis_name_ok (s := s) (by omega : 1 ≤ n) pc]
              simp [isCommand] at hX
              split <;> simp_all
            | b :: c :: e :: r, _, pm, hX =>
              have : ¬ ((r.length : Int) + 1 + 1 + 1 + 1 = 3) := by omega
              simp [this]
              cases r with
              | nil => simp [isCommand] at hX; exact hX
              | cons f r => rw [isCommand_len (by simp)] at hX; exact hX.symm
            | [], hl, _, _ => simp at hl
            | [_], hl, _, _ => simp at hl
          · simp [hw]
            simp [fresh, has_marks]
            refine ⟨by decide +kernel, ?_⟩
            cases hmk : marksOf w with
            | none => simp; rw [← hX]; exact isCommand_none hw hmk
            | some ms =>
              obtain ⟨okm, ascm⟩ := marks_ok hmk
              have lms : ms.length ≤ 10 := by rcases marks_mem hmk with rfl | rfl | rfl | rfl <;> simp
              simp [inn_mc s pa.2]
              cases hmc : isMC w with
              | true =>
                simp
                by_cases hl4 : r.length = 3
                · rw [if_pos (by omega)]
                  obtain ⟨b, ps, rfl⟩ : ∃ b ps, r = b :: ps := by
                    cases r with
                    | nil => simp at hl4
                    | cons b ps => exact ⟨b, ps, rfl⟩
                  have hmk2 := isCommand_mk (b := b) (ps := ps) hw hmk (by rw [hmc]; simpa using hl4)
                  rw [hX] at hmk2
                  have pb := pm b (by simp)
                  have db := dm b (by simp)
                  have pps : D.pls ps = true := D.pls_of fun x hx => pm x (by simp [hx])
                  have dps : D.dps ps ≤ 49 := D.dps_le fun x hx => dm x (by simp [hx])
                  have lps : ps.length ≤ 10 := by simp at hl4; omega
                  simp
                  refine lc_bad isPath rfl (by omega) (fun x hx => ?_) ?_
                  · simp [lcTurn_some, Lis_path_ok (s := s) (by omega : 2 ≤ n) (D.pls_mem pps x hx) (by have := D.dps_mem x hx; omega)]
                  · rw [ne_bad s pps (by omega) (by omega)]
                    simp only [optP_some]
                    cases hp : ps.all isPath with
                    | false => rw [hp, Bool.and_false] at hmk2; simp [hmk2]
                    | true =>
                      rw [hp, Bool.and_true] at hmk2
                      simp [isi_tup s pb]
                      cases b with
                      | tup xs =>
                        simp [isTup]
                        simp only [D.pl, Bool.and_eq_true, decide_eq_true_eq] at pb
                        simp only [D.dp] at db
                        refine lc_bad isStr rfl (by omega) (fun x hx' => ?_) ?_
                        · simp [lcTurn_some, isi_str s (D.pls_mem pb.2 x hx')]
                        · rw [ne_bad s pb.2 pb.1 (by omega)]
                          rw [← lawMarks_eq ascm] at hmk2
                          simp only [lawMarks] at hmk2
                          simp only [optP_some]
                          cases hs : xs.all isStr with
                          | true =>
                            rw [hs, Bool.true_and] at hmk2
                            have ex := strs_of hs
                            generalize strsD xs = zs at ex hmk2
                            subst ex
                            have okz : ∀ z ∈ zs, strOk z = true := fun z hz => by
                              have := D.pls_mem pb.2 (.str z) (List.mem_map.mpr ⟨z, hz, rfl⟩)
                              simp at this
                              exact this.2
                            simp [look_some, hmk]
                            refine lc_filterG ms D.str (fun z => if z ∈ zs then some (.str z) else none) rfl (by omega) (fun z hz => ?_) ?_
                            · simp [lcTurn_some, inn_strsT s (okm z hz) okz]
                            · rw [filterMap_strs, eq_strs s okz fun z hz => okm z (List.mem_filter.mp hz).1]
                              simp [hmk2]
                          | false =>
                            rw [hs, Bool.false_and] at hmk2
                            simp [hmk2]
                      | _ => first | (simp [isTup, hmk2, areMarks]; done) | (simp [D.pl] at pb)
                · rw [if_neg (by omega), ← hX]
                  exact isCommand_bad hw hmk (by rw [hmc]; simpa using hl4)
              | false =>
                simp
                by_cases hl4 : r.length = 2
                · rw [if_pos (by omega)]
                  obtain ⟨b, ps, rfl⟩ : ∃ b ps, r = b :: ps := by
                    cases r with
                    | nil => simp at hl4
                    | cons b ps => exact ⟨b, ps, rfl⟩
                  have hmk2 := isCommand_mk (b := b) (ps := ps) hw hmk (by rw [hmc]; simpa using hl4)
                  rw [hX] at hmk2
                  have pb := pm b (by simp)
                  have db := dm b (by simp)
                  have pps : D.pls ps = true := D.pls_of fun x hx => pm x (by simp [hx])
                  have dps : D.dps ps ≤ 49 := D.dps_le fun x hx => dm x (by simp [hx])
                  have lps : ps.length ≤ 10 := by simp at hl4; omega
                  simp
                  refine lc_bad isPath rfl (by omega) (fun x hx => ?_) ?_
                  · simp [lcTurn_some, Lis_path_ok (s := s) (by omega : 2 ≤ n) (D.pls_mem pps x hx) (by have := D.dps_mem x hx; omega)]
                  · rw [ne_bad s pps (by omega) (by omega)]
                    simp only [optP_some]
                    cases hp : ps.all isPath with
                    | false => rw [hp, Bool.and_false] at hmk2; simp [hmk2]
                    | true =>
                      rw [hp, Bool.and_true] at hmk2
                      simp [isi_tup s pb]
                      cases b with
                      | tup xs =>
                        simp [isTup]
                        simp only [D.pl, Bool.and_eq_true, decide_eq_true_eq] at pb
                        simp only [D.dp] at db
                        refine lc_bad isStr rfl (by omega) (fun x hx' => ?_) ?_
                        · simp [lcTurn_some, isi_str s (D.pls_mem pb.2 x hx')]
                        · rw [ne_bad s pb.2 pb.1 (by omega)]
                          rw [← lawMarks_eq ascm] at hmk2
                          simp only [lawMarks] at hmk2
                          simp only [optP_some]
                          cases hs : xs.all isStr with
                          | true =>
                            rw [hs, Bool.true_and] at hmk2
                            have ex := strs_of hs
                            generalize strsD xs = zs at ex hmk2
                            subst ex
                            have okz : ∀ z ∈ zs, strOk z = true := fun z hz => by
                              have := D.pls_mem pb.2 (.str z) (List.mem_map.mpr ⟨z, hz, rfl⟩)
                              simp at this
                              exact this.2
                            simp [look_some, hmk]
                            refine lc_filterG ms D.str (fun z => if z ∈ zs then some (.str z) else none) rfl (by omega) (fun z hz => ?_) ?_
                            · simp [lcTurn_some, inn_strsT s (okm z hz) okz]
                            · rw [filterMap_strs, eq_strs s okz fun z hz => okm z (List.mem_filter.mp hz).1]
                              simp [hmk2]
                          | false =>
                            rw [hs, Bool.false_and] at hmk2
                            simp [hmk2]
                      | _ => first | (simp [isTup, hmk2, areMarks]; done) | (simp [D.pl] at pb)
                · rw [if_neg (by omega), ← hX]
                  exact isCommand_bad hw hmk (by rw [hmc]; simpa using hl4)
        | _ => first | (simp [isStr, isCommand]; done) | (simp [D.pl] at pa)
    · rw [if_pos (by omega)]
      simp [isCommand_len (xs := xs) (by omega)]
  | _ => first | (simp [isTup, isCommand]; done) | (simp [D.pl] at h)
theorem Lis_script_ok {m : Nat} (hm : 4 ≤ m) {d : D} {s : Sto} (h : d.pl = true) (hd : d.dp ≤ 50) : callN tab m 36 [d] s = .ok (.bl (isScript d)) s := by
  obtain ⟨n, rfl⟩ : ∃ n, m = n + 1 := ⟨m - 1, by omega⟩
  refine Res.P.eq ?_
  rw [callN_at at_L_is_script n [d] s rfl]
  unfold L_is_script
  simp
  rw [isi_tup s h]
  cases d with
  | tup xs =>
    simp only [D.pl, Bool.and_eq_true, decide_eq_true_eq] at h
    simp only [D.dp] at hd
    simp [isTup]
    by_cases hl : xs.length = 2
    · have pm := D.pls_mem h.2
      have dm : ∀ x ∈ xs, x.dp ≤ 49 := fun x hx => by have := D.dps_mem x hx; omega
      match xs, hl, pm, dm with
      | [a, b], _, pm, dm =>
        have pa := pm a (by simp)
        have pb := pm b (by simp)
        have db := dm b (by simp)
        simp
        rw [isi_bool s pa]
        cases a with
        | bl t =>
          simp [isBl]
          rw [isi_tup s pb]
          cases b with
          | tup cs =>
            simp only [D.pl, Bool.and_eq_true, decide_eq_true_eq] at pb
            simp only [D.dp] at db
            simp [isTup]
            by_cases h1 : 1 ≤ cs.length
            · by_cases h2 : cs.length ≤ 5
              · have h1' : (1 : Int) ≤ cs.length := by omega
                have h2' : (cs.length : Int) ≤ 5 := by omega
                simp [h1', h2']
                refine lc_bad isCommand rfl (by omega) (fun x hx => ?_) ?_
                · simp [lcTurn_some, Lis_command_ok (s := s) (by omega : 3 ≤ n) (D.pls_mem pb.2 x hx) (by have := D.dps_mem x hx; omega)]
                · rw [eq_bad s pb.2 pb.1 (by omega)]
                  simp [isScript, h1, h2]
              · have h1' : (1 : Int) ≤ cs.length := by omega
                have h2' : ¬ (cs.length : Int) ≤ 5 := by omega
                simp [h1', h2']
                simp [isScript, h2]
            · have h1' : ¬ (1 : Int) ≤ cs.length := by omega
              simp [h1']
              simp [isScript, h1]
          | _ => first | (simp [isTup, isScript]; done) | (simp [D.pl] at pb)
        | _ => first | (simp [isBl, isScript]; done) | (simp [D.pl] at pa)
    · have hl' : ¬ ((xs.length : Int) = 2) := by omega
      simp [hl']
      simp [isScript_len hl]
  | _ => first | (simp [isTup, isScript]; done) | (simp [D.pl] at h)
end Mp
set_option Elab.async false
set_option linter.all false
set_option maxRecDepth 100000
set_option maxHeartbeats 4000000
/-! what is read off drawn trees and scripts -/
namespace Mp
open PySem PySem.Spec PyProof.Rows
open PySem.PyData (strOk)
def encR (p : List Str × Tr) : D := .tup [.tup (p.1.map .str), enc p.2]
theorem listed_ok : ∀ (m : Nat) {ks : Trs} {p : List Str} {s : Sto}, deps ks + 1 ≤ m → cnts ks ≤ 1000 → p.length + deps ks ≤ 1000 → callN tab m 39 [.tup (encs ks), .tup (p.map .str)] s = .ok (.lst ((rowsL p ks).map encR)) s
  | 0, ks, p, s, h, _, _ => by omega
  | n + 1, ks, p, s, h, hc, hp => by
    refine Res.P.eq ?_
    rw [callN_at at_L_listed n [.tup (encs ks), .tup (p.map .str)] s rfl]
    unfold L_listed
    simp
    refine for_trs (fun pre r => ∃ a b, r = [.val (.tup (encs ks)), .val (.tup (p.map .str)), .own (.lst ((rowsL p pre).map encR)), a, b]) rfl ⟨_, _, rfl⟩ ?_ ?_
    · rintro r ⟨a, b, rfl⟩
      simp
    · rintro pre k t post r e ⟨a, b, rfl⟩
      have hm : (k, t) ∈ ks := by rw [e]; simp
      have hd : t.dep ≤ deps ks := deps_mem _ hm
      have hcm : t.cnt + 1 ≤ cnts ks := cnts_mem _ hm
      have hcs : cnts pre + (1 + t.cnt + cnts post) = cnts ks := by rw [e, cnts_app]; simp [cnts]
      have l1 := rowsL_cnt pre p
      have l3 : p.length + 1 ≤ 16777216 := by omega
      have em : (p.map D.str ++ [D.str k]) = (p ++ [k]).map D.str := by simp
      simp [l3, l1]
      refine ⟨by omega, ?_⟩
      cases t with
      | file z => simp [rowsL_app, rowsL, Tr.rows, encR]
      | fold ks' =>
        simp only [Tr.dep] at hd
        simp only [Tr.cnt] at hcm hcs
        have ih := listed_ok n (ks := ks') (p := p ++ [k]) (s := s) (by omega) (by omega) (by simp; omega)
        have l2 := rowsL_cnt ks' (p ++ [k])
        rw [← em] at ih
        simp [ih, rowsL_app, rowsL, Tr.rows, l1, l2]
        refine ⟨by omega, ?_⟩
        simp [encR]
/-! ### commands -/
theorem marks_sub {w : Str} {ms l : List Str} (hm : marksOf w = some ms) (hl : l.Sublist ms) : areMarks ms (.tup (l.map .str)) = true := by
  obtain ⟨_, h2⟩ := marks_ok hm
  simp only [areMarks, strsD_map, Bool.and_eq_true, List.all_eq_true, decide_eq_true_eq]
  refine ⟨⟨fun x hx => ?_, fun z hz => hl.subset hz⟩, ascS_iff.mpr (h2.sublist hl)⟩
  obtain ⟨z, _, rfl⟩ := List.mem_map.mp hx
  rfl
theorem encP_path {p : List Str} (h : okP p) : isPath (encP p) = true := isPath_strs h.1 h.2
theorem mk_move : marksOf "move" = some [("never" : Str), "new"] := by decide +kernel
theorem mk_copy : marksOf "copy" = some [("never" : Str), "new", "tree"] := by decide +kernel
theorem mk_make : marksOf "make" = some [("parents" : Str)] := by decide +kernel
theorem mk_remove : marksOf "remove" = some [("quiet" : Str), "tree"] := by decide +kernel
theorem mc_move : isMC "move" = true := by decide +kernel
theorem mc_copy : isMC "copy" = true := by decide +kernel
theorem mc_make : isMC "make" = false := by decide +kernel
theorem mc_remove : isMC "remove" = false := by decide +kernel
theorem encC_ok : ∀ {c : Cmd}, okC c → isCommand (encC c) = true
  | .carry false ms p g, h => by
    obtain ⟨h1, h2, h3⟩ := h
    have := isCommand_mk (w := "move") (b := .tup (ms.map .str)) (ps := [encP p, encP g]) (by decide +kernel) mk_move (by rw [mc_move]; rfl)
    show isCommand (.tup [.str "move", .tup (ms.map .str), encP p, encP g]) = true
    rw [this, marks_sub mk_move h1]
    simp [encP_path h2, encP_path h3]
  | .carry true ms p g, h => by
    obtain ⟨h1, h2, h3⟩ := h
    have := isCommand_mk (w := "copy") (b := .tup (ms.map .str)) (ps := [encP p, encP g]) (by decide +kernel) mk_copy (by rw [mc_copy]; rfl)
    show isCommand (.tup [.str "copy", .tup (ms.map .str), encP p, encP g]) = true
    rw [this, marks_sub mk_copy h1]
    simp [encP_path h2, encP_path h3]
  | .make ms p, h => by
    obtain ⟨h1, h2⟩ := h
    have := isCommand_mk (w := "make") (b := .tup (ms.map .str)) (ps := [encP p]) (by decide +kernel) mk_make (by rw [mc_make]; rfl)
    simp only [encC]
    rw [this, marks_sub mk_make h1]
    simp [encP_path h2]
  | .remove ms p, h => by
    obtain ⟨h1, h2⟩ := h
    have := isCommand_mk (w := "remove") (b := .tup (ms.map .str)) (ps := [encP p]) (by decide +kernel) mk_remove (by rw [mc_remove]; rfl)
    simp only [encC]
    rw [this, marks_sub mk_remove h1]
    simp [encP_path h2]
  | .write p z, h => by
    obtain ⟨h1, h2⟩ := h
    simp [encC, isCommand, encP_path h1, isName, h2]


/-! ### values within bounds: texts, lengths, depth -/
mutual
def D.bd (k : Nat) : D → Bool
  | .non | .bl _ | .int _ => true
  | .str z => decide (z.length ≤ 1000) && strOk z
  | .tup xs => decide (xs.length ≤ k) && D.bds k xs
  | .lst xs => decide (xs.length ≤ k) && D.bds k xs
  | _ => false
def D.bds (k : Nat) : List D → Bool
  | [] => true
  | x :: xs => D.bd k x && D.bds k xs
end
theorem D.bds_mem {k : Nat} : ∀ {xs : List D}, D.bds k xs = true → ∀ x ∈ xs, x.bd k = true
  | x :: xs, h, y, hy => by
    simp only [D.bds, Bool.and_eq_true] at h
    rcases List.mem_cons.mp hy with rfl | hy
    · exact h.1
    · exact D.bds_mem h.2 y hy
theorem D.bds_of {k : Nat} : ∀ {xs : List D}, (∀ x ∈ xs, x.bd k = true) → D.bds k xs = true
  | [], _ => rfl
  | x :: xs, h => by
    simp only [D.bds, Bool.and_eq_true]
    exact ⟨h x List.mem_cons_self, D.bds_of fun y hy => h y (List.mem_cons_of_mem _ hy)⟩
mutual
theorem D.bd_mono {k j : Nat} (hk : k ≤ j) : ∀ {d : D}, d.bd k = true → d.bd j = true
  | .non, _ => rfl
  | .bl _, _ => rfl
  | .int _, _ => rfl
  | .str z, h => h
  | .tup xs, h => by
    simp only [D.bd, Bool.and_eq_true, decide_eq_true_eq] at h ⊢
    exact ⟨Nat.le_trans h.1 hk, D.bds_mono hk h.2⟩
  | .lst xs, h => by
    simp only [D.bd, Bool.and_eq_true, decide_eq_true_eq] at h ⊢
    exact ⟨Nat.le_trans h.1 hk, D.bds_mono hk h.2⟩
  | .dic _ _, h => by simp [D.bd] at h
  | .ref _, h => by simp [D.bd] at h
  | .cel _, h => by simp [D.bd] at h
theorem D.bds_mono {k j : Nat} (hk : k ≤ j) : ∀ {xs : List D}, D.bds k xs = true → D.bds j xs = true
  | [], _ => rfl
  | x :: xs, h => by
    simp only [D.bds, Bool.and_eq_true] at h ⊢
    exact ⟨D.bd_mono hk h.1, D.bds_mono hk h.2⟩
end
mutual
theorem D.bd_pl : ∀ {d : D}, d.bd 1000 = true → d.pl = true
  | .non, _ => rfl
  | .bl _, _ => rfl
  | .int _, _ => rfl
  | .str z, h => by simpa [D.pl, D.bd] using h
  | .tup xs, h => by
    simp only [D.bd, D.pl, Bool.and_eq_true, decide_eq_true_eq] at h ⊢
    exact ⟨h.1, D.bds_pls h.2⟩
  | .lst xs, h => by
    simp only [D.bd, D.pl, Bool.and_eq_true, decide_eq_true_eq] at h ⊢
    exact ⟨h.1, D.bds_pls h.2⟩
  | .dic _ _, h => by simp [D.bd] at h
  | .ref _, h => by simp [D.bd] at h
  | .cel _, h => by simp [D.bd] at h
theorem D.bds_pls : ∀ {xs : List D}, D.bds 1000 xs = true → D.pls xs = true
  | [], _ => rfl
  | x :: xs, h => by
    simp only [D.bds, D.pls, Bool.and_eq_true] at h ⊢
    exact ⟨D.bd_pl h.1, D.bds_pls h.2⟩
end
theorem bd_tup {k : Nat} {xs : List D} (hl : xs.length ≤ k) (h : ∀ x ∈ xs, x.bd k = true) : (D.tup xs).bd k = true := by
  simp only [D.bd, Bool.and_eq_true, decide_eq_true_eq]
  exact ⟨hl, D.bds_of h⟩
theorem dp_tup {j : Nat} {xs : List D} (h : ∀ x ∈ xs, x.dp ≤ j) : (D.tup xs).dp ≤ j + 1 := by
  simp only [D.dp]
  have := D.dps_le h
  omega
theorem bd_strs {k : Nat} {zs : List Str} (hl : zs.length ≤ k) (h : ∀ z ∈ zs, (D.str z).pl = true) : (D.tup (zs.map D.str)).bd k = true := bd_tup (by simpa using hl) fun x hx => by
  obtain ⟨z, hz, rfl⟩ := List.mem_map.mp hx
  have := h z hz
  simpa [D.pl, D.bd] using this
theorem bd_P {p : List Str} (h : okP p) {k : Nat} (hk : 2 ≤ k) : (encP p).bd k = true ∧ (encP p).dp ≤ 1 := ⟨bd_strs (by have := h.2; omega) fun z hz => name_pl (h.1 z hz), by unfold encP; rw [strs_dp]; omega⟩
theorem bd_M {w : Str} {ms l : List Str} (hm : marksOf w = some ms) (hl : l.Sublist ms) : (D.tup (l.map D.str)).bd 4 = true ∧ (D.tup (l.map D.str)).dp ≤ 1 := by
  have h1 : ms.length ≤ 3 := by rcases marks_mem hm with rfl | rfl | rfl | rfl <;> simp
  have h2 : ∀ z ∈ ms, (D.str z).pl = true := by rcases marks_mem hm with rfl | rfl | rfl | rfl <;> decide +kernel
  exact ⟨bd_strs (by have := hl.length_le; omega) fun z hz => h2 z (hl.subset hz), by rw [strs_dp]; omega⟩
theorem bd_C : ∀ {c : Cmd}, okC c → (encC c).bd 4 = true ∧ (encC c).dp ≤ 2
  | .carry false ms p g, ⟨h1, h2, h3⟩ => by
    have m := bd_M mk_move h1
    have a := bd_P h2 (k := 4) (by omega)
    have b := bd_P h3 (k := 4) (by omega)
    exact ⟨bd_tup (by simp) (by simp [m.1, a.1, b.1]; decide +kernel), dp_tup (by simp [m.2, a.2, b.2, D.dp, strs_dps])⟩
  | .carry true ms p g, ⟨h1, h2, h3⟩ => by
    have m := bd_M mk_copy h1
    have a := bd_P h2 (k := 4) (by omega)
    have b := bd_P h3 (k := 4) (by omega)
    exact ⟨bd_tup (by simp) (by simp [m.1, a.1, b.1]; decide +kernel), dp_tup (by simp [m.2, a.2, b.2, D.dp, strs_dps])⟩
  | .make ms p, ⟨h1, h2⟩ => by
    have m := bd_M mk_make h1
    have a := bd_P h2 (k := 4) (by omega)
    exact ⟨bd_tup (by simp) (by simp [m.1, a.1]; decide +kernel), dp_tup (by simp [m.2, a.2, D.dp, strs_dps])⟩
  | .remove ms p, ⟨h1, h2⟩ => by
    have m := bd_M mk_remove h1
    have a := bd_P h2 (k := 4) (by omega)
    exact ⟨bd_tup (by simp) (by simp [m.1, a.1]; decide +kernel), dp_tup (by simp [m.2, a.2, D.dp, strs_dps])⟩
  | .write p z, ⟨h1, h2⟩ => by
    have a := bd_P h1 (k := 4) (by omega)
    have b : (D.str z).bd 4 = true := by have := name_pl h2; simpa [D.pl, D.bd] using this
    exact ⟨bd_tup (by simp) (by simp [a.1, b]; decide +kernel), dp_tup (by simp [a.2, D.dp])⟩
theorem bd_S {k : Nat} {x : Scr} (h : okS k x) (hk : k ≤ 5) : (encS x).bd 5 = true ∧ (encS x).dp ≤ 4 := by
  have h1 : (D.tup (x.2.map encC)).bd 5 = true := bd_tup (by have := h.hi; simp; omega) fun y hy => by
    obtain ⟨c, hc, rfl⟩ := List.mem_map.mp hy
    exact D.bd_mono (by omega) (bd_C (h.ok c hc)).1
  have h2 : (D.tup (x.2.map encC)).dp ≤ 3 := dp_tup fun y hy => by
    obtain ⟨c, hc, rfl⟩ := List.mem_map.mp hy
    exact (bd_C (h.ok c hc)).2
  refine ⟨bd_tup (by simp) fun y hy => ?_, dp_tup fun y hy => ?_⟩
  · simp at hy
    rcases hy with rfl | rfl
    · rfl
    · exact h1
  · simp at hy
    rcases hy with rfl | rfl
    · exact Nat.zero_le _
    · exact h2
theorem encS_pl {k : Nat} {x : Scr} (h : okS k x) (hk : k ≤ 5) : (encS x).pl = true := D.bd_pl (D.bd_mono (by omega) (bd_S h hk).1)
theorem encS_ok {k : Nat} {x : Scr} (h : okS k x) (hk : k ≤ 5) : isScript (encS x) = true := by
  have h1 := h.lo
  have h2 := h.hi
  have h3 : x.2.length ≤ 5 := by omega
  simp only [encS, isScript, List.length_map, h1, h3, Bool.and_eq_true, List.all_eq_true]
  refine ⟨by simp, fun y hy => ?_⟩
  obtain ⟨c, hc, rfl⟩ := List.mem_map.mp hy
  exact encC_ok (h.ok c hc)
mutual
theorem enc_bd : ∀ (t : Tr) {k : Nat}, 2 ≤ k → t.ok = true → t.cnt ≤ k → (enc t).bd k = true
  | .file z, k, hk, h, _ => by
    rw [enc_file]
    have := name_pl (by simpa [Tr.ok] using h : isNameS z = true)
    simpa [D.pl, D.bd] using this
  | .fold ks, k, hk, h, hc => by
    simp only [Tr.ok, Bool.and_eq_true] at h
    simp only [Tr.cnt] at hc
    rw [enc_fold]
    simp only [D.bd, Bool.and_eq_true, decide_eq_true_eq, encs_len]
    exact ⟨Nat.le_trans (len_cnts ks) hc, encs_bd ks hk h.1 hc⟩
theorem encs_bd : ∀ (ks : List (Str × Tr)) {k : Nat}, 2 ≤ k → oks ks = true → cnts ks ≤ k → D.bds k (encs ks) = true
  | [], k, _, _, _ => by rw [encs]; rfl
  | (n, t) :: r, k, hk, h, hc => by
    simp only [oks, Bool.and_eq_true] at h
    simp only [cnts] at hc
    rw [encs]
    have h1 := name_pl h.1.1
    have h2 := enc_bd t hk h.1.2 (by omega)
    have h3 := encs_bd r hk h.2 (by omega)
    have h4 : (D.str n).bd k = true := by simpa [D.pl, D.bd] using h1
    have h5 : (D.tup [.str n, enc t]).bd k = true := bd_tup (by simpa using hk) (by simp [h2, h4])
    simp only [D.bds, h3, h5, Bool.and_self]
end
/-! ### words and names -/
def wordC : Cmd → Str
  | .carry c _ _ _ => if c then "copy" else "move"
  | .make _ _ => "make"
  | .remove _ _ => "remove"
  | .write _ _ => "write"
def pathsC : Cmd → List (List Str)
  | .carry _ _ p g => [p, g]
  | .make _ p => [p]
  | .remove _ p => [p]
  | .write p _ => [p]
theorem enc_word (c : Cmd) : ∃ r, encC c = .tup (.str (wordC c) :: r) := by
  cases c <;> exact ⟨_, rfl⟩
theorem word_pl (c : Cmd) : (D.str (wordC c)).pl = true := by
  cases c with
  | carry c _ _ _ =>
    cases c
    · exact (by decide +kernel : (D.str "move").pl = true)
    · exact (by decide +kernel : (D.str "copy").pl = true)
  | make _ _ => exact (by decide +kernel : (D.str "make").pl = true)
  | remove _ _ => exact (by decide +kernel : (D.str "remove").pl = true)
  | write _ _ => exact (by decide +kernel : (D.str "write").pl = true)
theorem words_ok {m : Nat} (hm : 6 ≤ m) {x : Scr} (h : okS 5 x) {s : Sto} : callN tab m 20 [encS x] s = .ok (.lst ((x.2.map wordC).map .str)) s := by
  obtain ⟨n, rfl⟩ : ∃ n, m = n + 1 := ⟨m - 1, by omega⟩
  refine Res.P.eq ?_
  rw [callN_at at_p_words n [encS x] s rfl]
  unfold p_words
  simp [need_script_ok (s := s) (by omega : 5 ≤ n) (encS_pl h (by omega)) (encS_ok h (by omega))]
  unfold encS
  have := h.hi
  simp
  refine lc_mapG x.2 encC (fun c => .str (wordC c)) rfl (by omega) (fun c hc => ?_) ?_
  · obtain ⟨r, e⟩ := enc_word c
    simp [lcTurn_none, e]
  · simp
theorem paths_of_ok {m : Nat} (hm : 1 ≤ m) (c : Cmd) {s : Sto} : callN tab m 16 [encC c] s = .ok (.lst ((pathsC c).map encP)) s := by
  obtain ⟨n, rfl⟩ : ∃ n, m = n + 1 := ⟨m - 1, by omega⟩
  refine Res.P.eq ?_
  rw [callN_at at_p_paths_of n [encC c] s rfl]
  unfold p_paths_of
  simp
  have hw : ∀ w : Str, strOk w = true → cmpF s .eq (.str w) (.str "write") = some (decide (w = "write")) := fun w h => eq_str' s h (by decide +kernel)
  cases c with
  | carry c ms p g =>
    cases c with
    | true =>
      simp [encC, pathsC]
      rw [hw _ (by decide +kernel), show decide (("copy" : Str) = "write") = false by decide +kernel]
      simp
    | false =>
      simp [encC, pathsC]
      rw [hw _ (by decide +kernel), show decide (("move" : Str) = "write") = false by decide +kernel]
      simp
  | make ms p =>
    simp [encC, pathsC]
    rw [hw _ (by decide +kernel), show decide (("make" : Str) = "write") = false by decide +kernel]
    simp
  | remove ms p =>
    simp [encC, pathsC]
    rw [hw _ (by decide +kernel), show decide (("remove" : Str) = "write") = false by decide +kernel]
    simp
  | write p z =>
    simp [encC, pathsC]
    rw [hw _ (by decide +kernel)]
    simp
def namesC (c : Cmd) : List Str := (pathsC c).flatten
def namesS (cs : List Cmd) : List Str := (cs.map namesC).flatten
theorem paths_ok {c : Cmd} (h : okC c) : ∀ p ∈ pathsC c, okP p := by
  cases c <;> simp [pathsC] <;> simp [okC] at h <;> simp [h]
theorem namesC_ok {c : Cmd} (h : okC c) : (∀ z ∈ namesC c, isNameS z = true) ∧ (namesC c).length ≤ 4 := by
  refine ⟨fun z hz => ?_, ?_⟩
  · obtain ⟨p, hp, hz⟩ := List.mem_flatten.mp hz
    exact (paths_ok h p hp).1 z hz
  · have hp := paths_ok h
    cases c <;> simp [namesC, pathsC] at hp ⊢
    · have h1 := hp.1.2
      have h2 := hp.2.2
      omega
    · have h1 := hp.2; omega
    · have h1 := hp.2; omega
    · have h1 := hp.2; omega
theorem namesS_ok {cs : List Cmd} (h : ∀ c ∈ cs, okC c) : (∀ z ∈ namesS cs, isNameS z = true) ∧ (namesS cs).length ≤ 4 * cs.length := by
  induction cs with
  | nil => simp [namesS]
  | cons c cs ih =>
    have h1 := namesC_ok (h c List.mem_cons_self)
    have h2 := ih fun x hx => h x (List.mem_cons_of_mem _ hx)
    unfold namesS at *
    simp only [List.map_cons, List.flatten_cons, List.mem_append, List.length_append, List.length_cons]
    exact ⟨fun z hz => hz.elim (h1.1 z) (h2.1 z), by have := h1.2; have := h2.2; omega⟩
theorem namesS_app (a b : List Cmd) : namesS (a ++ b) = namesS a ++ namesS b := by simp [namesS]
theorem names_of_ok {m : Nat} (hm : 2 ≤ m) {x : Scr} (h : okS 5 x) {s : Sto} : callN tab m 17 [encS x] s = .ok (.lst ((setS (namesS x.2)).map .str)) s := by
  obtain ⟨n, rfl⟩ : ∃ n, m = n + 1 := ⟨m - 1, by omega⟩
  refine Res.P.eq ?_
  rw [callN_at at_p_names_of n [encS x] s rfl]
  unfold p_names_of
  simp
  unfold encS
  have hx := h.hi
  simp
  refine for_map x.2 encC (fun pre r s' => s' = s ∧ ∃ a b, r = [.val (.tup [.bl x.1, .tup (x.2.map encC)]), .val (.lst ((namesS pre).map .str)), a, b]) (fun _ _ _ _ => rfl) ⟨rfl, _, _, rfl⟩ ?_ ?_
  · rintro r s' ⟨rfl, a, b, rfl⟩
    have := (namesS_ok h.ok).2
    simp [sortedset_lst s' (namesS x.2) (by omega)]
  · rintro pre c post r s' e ⟨rfl, a, b, rfl⟩
    have okpre : ∀ c ∈ pre, okC c := fun c hc => h.ok c (by rw [e]; simp [hc])
    have okc : okC c := h.ok c (by rw [e]; simp)
    have l1 := (namesS_ok okpre).2
    have l2 : pre.length ≤ x.2.length := by rw [e]; simp
    simp [paths_of_ok (s := s') (by omega : 1 ≤ n) c]
    refine for_map (pathsC c) encP (fun pre2 r s2 => s2 = s' ∧ ∃ a b, r = [.val (.tup [.bl x.1, .tup (x.2.map encC)]), .val (.lst ((namesS pre ++ pre2.flatten).map .str)), a, b]) (fun _ _ _ _ => rfl) ⟨rfl, .val (encC c), b, by simp⟩ ?_ ?_
    · rintro r s2 ⟨rfl, a, b, rfl⟩
      refine ⟨rfl, a, b, ?_⟩
      rw [namesS_app]
      simp [namesS, namesC]
    · rintro pre2 p post2 r s2 e2 ⟨rfl, a, b, rfl⟩
      have hp := paths_ok okc p (by rw [e2]; simp)
      have l3 : pre2.flatten.length ≤ (namesC c).length := by unfold namesC; rw [e2]; simp
      have l4 := (namesC_ok okc).2
      have l5 := hp.2
      simp [encP]
      have l6 : pre2.flatten.length = (pre2.map List.length).sum := by simp
      have l7 : pre2.map (List.length ∘ List.map D.str) = pre2.map List.length := List.map_congr_left fun p _ => by simp
      rw [l7]
      omega
theorem names_in_ok {m : Nat} (hm : 6 ≤ m) {x : Scr} (h : okS 5 x) {s : Sto} : callN tab m 21 [encS x] s = .ok (.lst ((setS (namesS x.2)).map .str)) s := by
  obtain ⟨n, rfl⟩ : ∃ n, m = n + 1 := ⟨m - 1, by omega⟩
  refine Res.P.eq ?_
  rw [callN_at at_p_names_in n [encS x] s rfl]
  unfold p_names_in
  simp [need_script_ok (s := s) (by omega : 5 ≤ n) (encS_pl h (by omega)) (encS_ok h (by omega)), names_of_ok (s := s) (by omega : 2 ≤ n) h]
end Mp
set_option Elab.async false
set_option linter.all false
set_option maxRecDepth 100000
set_option maxHeartbeats 4000000
/-! names, odd values, values that are spoilt -/
namespace Mp
open PySem PySem.Spec PyProof.Rows
open PySem.PyData (strOk)
/-- the keys of a dict that names were put into -/
def NamI (seen : List Str) (K : List NestedKey) (vs : List D) : Prop := ∃ zs : List Str, K = zs.map .text ∧ vs.length = zs.length ∧ zs.Nodup ∧ zs.length ≤ seen.length ∧ ∀ z, z ∈ zs ↔ z ∈ seen
theorem putV_old {ks : List Str} {k : Str} (h : k ∈ ks) : ∀ {vs : List D}, vs.length = ks.length → ∀ v, (putV (ks.map .text) vs (.text k) v).length = vs.length := by
  induction ks with
  | nil => simp at h
  | cons x ks ih =>
    intro vs hl v
    cases vs with
    | nil => simp at hl
    | cons u vs =>
      by_cases e : x = k
      · simp [putV, e]
      · simp [putV, e]
        refine ih ?_ (by simpa using hl) v
        rcases List.mem_cons.mp h with q | q
        · exact absurd q.symm e
        · exact q
theorem NamI.put {seen : List Str} {K : List NestedKey} {vs : List D} (h : NamI seen K vs) (z : Str) (v : D) : NamI (seen ++ [z]) (putK K (.text z)) (putV K vs (.text z) v) := by
  obtain ⟨zs, rfl, h1, h2, h3, h4⟩ := h
  by_cases hz : z ∈ zs
  · refine ⟨zs, putK_old hz, by rw [putV_old hz h1, h1], h2, by simp; omega, fun y => ?_⟩
    rw [h4]
    simp only [List.mem_append, List.mem_singleton]
    exact ⟨.inl, fun q => q.elim (fun q => q) fun q => by rw [q]; exact (h4 z).mp hz⟩
  · refine ⟨zs ++ [z], putK_new hz, by rw [putV_new hz h1]; simp [h1], ?_, by simp; omega, fun y => ?_⟩
    · rw [List.nodup_append]
      exact ⟨h2, by simp, fun a ha b hb => by simp at hb; subst hb; exact fun e => hz (by rw [← e]; exact ha)⟩
    · simp only [List.mem_append, List.mem_singleton, h4]
theorem NamI.len {seen : List Str} {K : List NestedKey} {vs : List D} (h : NamI seen K vs) : K.length ≤ seen.length := by
  obtain ⟨zs, rfl, _, _, h3, _⟩ := h
  simpa using h3
theorem sortD_strs {zs : List Str} (h : ∀ z ∈ zs, strOk z = true) : sortD (zs.map D.str) = some ((zs.mergeSort leS).map D.str) := by
  unfold sortD
  rw [if_pos, List.map_mergeSort (s := W.dataLe false D.pd)]
  · intro a _ b _
    rfl
  · simp only [Bool.and_eq_true, Bool.or_eq_true, List.all_eq_true]
    refine ⟨⟨fun x hx y hy => ?_, .inr fun x hx => ?_⟩, fun x hx => ?_⟩
    · obtain ⟨p, _, rfl⟩ := List.mem_map.mp hx
      obtain ⟨q, _, rfl⟩ := List.mem_map.mp hy
      simp [D.pd, W.alike]
    · obtain ⟨p, _, rfl⟩ := List.mem_map.mp hx
      rfl
    · obtain ⟨p, hp, rfl⟩ := List.mem_map.mp hx
      exact shaped_str (h p hp)
theorem NamI.sorted {seen : List Str} {K : List NestedKey} {vs : List D} (h : NamI seen K vs) (ok : ∀ z ∈ seen, strOk z = true) : sortD (ofKeys K) = some ((setS seen).map D.str) := by
  obtain ⟨zs, rfl, _, h2, _, h4⟩ := h
  rw [ofKeys_texts, sortD_strs fun z hz => ok z ((h4 z).mp hz)]
  rw [Asc.ext (sorted_asc h2) (setS_asc seen) fun z => by rw [setS_mem, (List.mergeSort_perm _ _).mem_iff]; exact h4 z]
def envN (x : Scr) (K : List NestedKey) (vs : List D) (a b c d : SV) : Env := [.val (.lst [encS x]), .own (.dic K vs), a, b, c, d]
def NamE (x : Scr) (seen : List Str) (a : Option SV) (b : Option SV) (c : Option SV) (r : Env) : Prop := ∃ K vs a' b' c' d', r = envN x K vs a' b' c' d' ∧ NamI seen K vs ∧ (∀ u, a = some u → a' = u) ∧ (∀ u, b = some u → b' = u) ∧ (∀ u, c = some u → c' = u)
theorem Lnames_ok {m : Nat} (hm : 1 ≤ m) {x : Scr} (h : okS 5 x) {s : Sto} : callN tab m 31 [.lst [encS x]] s = .ok (.lst ((setS (namesS x.2)).map .str)) s := by
  obtain ⟨n, rfl⟩ : ∃ n, m = n + 1 := ⟨m - 1, by omega⟩
  refine Res.P.eq ?_
  rw [callN_at at_L_names n [.lst [encS x]] s rfl]
  unfold L_names
  simp
  have hx := h.hi
  have hw : ∀ w : Str, strOk w = true → cmpF s .eq (.str w) (.str "write") = some (decide (w = "write")) := fun w h => eq_str' s h (by decide +kernel)
  have total : ∀ seen : List Str, (∃ c, namesS x.2 = seen ++ c) → seen.length ≤ 20 := fun seen ⟨c, e⟩ => by
    have := (namesS_ok h.ok).2
    rw [e, List.length_append] at this
    omega
  refine for_map [x] encS (fun pre r s' => s' = s ∧ NamE x (if pre = [] then [] else namesS x.2) none none none r) (fun _ _ _ _ => rfl) ⟨rfl, [], [], .no, .no, .no, .no, rfl, ⟨[], rfl, rfl, by simp, by simp, by simp⟩, by simp, by simp, by simp⟩ ?_ ?_
  · rintro r s' ⟨rfl, K, vs, a, b, c, d, rfl, hN, _, _, _⟩
    rw [if_neg (by simp)] at hN
    unfold envN
    simp [hN.sorted fun z hz => (name_ok ((namesS_ok h.ok).1 z hz)).1]
  · rintro pre y post r s' e ⟨rfl, K, vs, a, b, c, d, rfl, hN, _, _, _⟩
    have e3 : pre = [] ∧ x = y ∧ post = [] := by
      cases pre with
      | nil => simp at e; exact ⟨rfl, e.1, e.2⟩
      | cons p pre => simp at e
    obtain ⟨rfl, rfl, rfl⟩ := e3
    rw [if_pos rfl] at hN
    unfold envN encS
    simp
    refine for_map x.2 encC (fun pre r s2 => s2 = s' ∧ NamE x (namesS pre) (some (.val (encS x))) none none r) (fun _ _ _ _ => rfl) ⟨rfl, K, vs, _, b, c, d, rfl, hN, by intro u e; cases e; rfl, by simp, by simp⟩ ?_ ?_
    · rintro r s2 ⟨rfl, K, vs, a, b, c, d, rfl, hN, _, _, _⟩
      exact ⟨rfl, K, vs, a, b, c, d, rfl, by simpa using hN, by simp, by simp, by simp⟩
    · rintro pre cm post r s2 e ⟨rfl, K, vs, a, b, c, d, rfl, hN, ha, _, _⟩
      obtain rfl := ha _ rfl
      have okc : okC cm := h.ok cm (by rw [e]; simp)
      unfold envN
      -- the source of the inner loop: the paths
      have src : ∀ (Q : Its → Sto → Prop), Q ⟨(pathsC cm).map encP, .held⟩ s2 → (evI (callN tab n) [.val (.lst [encS x]), .own (.dic K vs), .val (encS x), .val (encC cm), c, d] (.seq (.ite (.cmp .eq (.sub (.var 3) (.cst (.int 0))) (.cst (.str "write"))) (.lst [(.sub (.var 3) (.cst (.int 1)))]) (.sliL (.var 3) (.cst (.int 2))))) s2).P Q := fun Q q => by
        simp
        cases cm with
        | carry c ms p g =>
          cases c with
          | true =>
            simp [encC]
            rw [hw _ (by decide +kernel), show decide (("copy" : Str) = "write") = false by decide +kernel]
            simp
            exact q
          | false =>
            simp [encC]
            rw [hw _ (by decide +kernel), show decide (("move" : Str) = "write") = false by decide +kernel]
            simp
            exact q
        | make ms p =>
          simp [encC]
          rw [hw _ (by decide +kernel), show decide (("make" : Str) = "write") = false by decide +kernel]
          simp
          exact q
        | remove ms p =>
          simp [encC]
          rw [hw _ (by decide +kernel), show decide (("remove" : Str) = "write") = false by decide +kernel]
          simp
          exact q
        | write p z =>
          simp [encC]
          rw [hw _ (by decide +kernel)]
          simp
          exact q
      simp only [execs_cons, execs_nil, bindT_nm, List.set_cons_succ, List.set_cons_zero, exec_for]
      refine src _ ?_
      refine for_map (pathsC cm) encP (fun pre2 r s3 => s3 = s2 ∧ NamE x (namesS pre ++ pre2.flatten) (some (.val (encS x))) (some (.val (encC cm))) none r) (fun _ _ _ _ => rfl) ⟨rfl, K, vs, _, _, c, d, rfl, by simpa using hN, by intro u e; cases e; rfl, by intro u e; cases e; rfl, by simp⟩ ?_ ?_
      · rintro r s3 ⟨rfl, K, vs, a, b, c, d, rfl, hN, ha, _, _⟩
        refine ⟨rfl, K, vs, a, b, c, d, rfl, ?_, ha, by simp, by simp⟩
        rw [namesS_app]
        simpa [namesS, namesC] using hN
      · rintro pre2 p post2 r s3 e2 ⟨rfl, K, vs, a, b, c, d, rfl, hN, ha, hb, _⟩
        obtain rfl := ha _ rfl
        obtain rfl := hb _ rfl
        unfold envN
        simp [encP]
        refine for_map p D.str (fun pre3 r s4 => s4 = s3 ∧ NamE x (namesS pre ++ pre2.flatten ++ pre3) (some (.val (encS x))) (some (.val (encC cm))) (some (.val (encP p))) r) (fun _ _ _ _ => rfl) ⟨rfl, K, vs, _, _, _, d, rfl, by simpa using hN, by intro u e; cases e; rfl, by intro u e; cases e; rfl, by intro u e; cases e; rfl⟩ ?_ ?_
        · rintro r s4 ⟨rfl, K, vs, a, b, c, d, rfl, hN, ha, hb, _⟩
          exact ⟨rfl, K, vs, a, b, c, d, rfl, by simpa using hN, ha, hb, by simp⟩
        · rintro pre3 z post3 r s4 e4 ⟨rfl, K, vs, a, b, c, d, rfl, hN, ha, hb, hc⟩
          have hl := hN.len
          have ht := total (namesS pre ++ pre2.flatten ++ pre3) ⟨z :: post3 ++ post2.flatten ++ namesS post, by
            rw [e, namesS_app]
            show namesS pre ++ namesS (cm :: post) = _
            rw [show namesS (cm :: post) = namesC cm ++ namesS post by simp [namesS]]
            unfold namesC
            rw [e2]
            simp [e4]⟩
          unfold envN
          simp
          refine ⟨by omega, _, _, a, b, c, _, rfl, ?_, ha, hb, hc⟩
          have := hN.put z (.bl true)
          simpa using this
/-! ### odd values -/
def oddL : List D := [.non, .bl true, .bl false, .int 0, .int 5, .str "", .str "a", .str "A", .str "abcdefghi", .str "new", .str "tree", .tup [], .lst [], .tup [.str "a"], .tup [.str "a", .str "b", .str "c"],
  .tup [.str "new"], .tup [.str "tree", .str "never"], .tup [.str "a", .str "x"], .tup [.tup [.str "a", .str "x"]], .tup [.tup [.str "b", .str "x"], .tup [.str "a", .str "x"]],
  .tup [.str "write", .tup [.str "a"], .str "x"], .tup [.str "make", .tup [.str "parents"], .tup [.str "a"]], .tup [.str "make", .tup [.str "tree"], .tup [.str "a"]], .lst [.str "a"], .str "move", .str "write"]
theorem odd_all : ∀ x ∈ oddL, x.bd 3 = true ∧ x.dp ≤ 2 := by
  have : (oddL.all fun x => x.bd 3 && decide (x.dp ≤ 2)) = true := by decide +kernel
  intro x hx
  have := List.all_eq_true.mp this x hx
  simpa using this
theorem odd_ok {m : Nat} (hm : 3 ≤ m) {n : Nat} {s : Sto} (hs : SrcAt n s) : (callN tab m 37 [.ref n] s).P fun v s' => (v.bd 3 = true ∧ v.dp ≤ 2) ∧ SrcAt n s' ∧ Fr (· = n) s s' := by
  obtain ⟨d, rfl⟩ : ∃ n, m = n + 1 := ⟨m - 1, by omega⟩
  rw [callN_at at_L_odd d [.ref n] s rfl]
  unfold L_odd
  simp
  have := of_ok (by omega : 2 ≤ d) hs (xs := oddL) (by simp [oddL]) (by simp [oddL])
  refine Res.P.mono this ?_
  rintro v s' ⟨hv, hs', f⟩
  exact ⟨odd_all v hv, hs', f⟩
theorem eq_nilT (s : Sto) {xs : List D} (h : (D.tup xs).pl = true) (hd : (D.tup xs).dp ≤ 60) : cmpF s .eq (.tup xs) (.tup []) = some xs.isEmpty := by
  show D.eqq (.tup xs) (.tup []) = _
  rw [D.eqq_of h rfl (by omega) (by simp [D.dp, D.dps])]
  simp only [D.pd, D.pds, PyData.eqv, eqv_nil]
theorem bd_tup_inv {k : Nat} {xs : List D} (h : (D.tup xs).bd k = true) : xs.length ≤ k ∧ ∀ x ∈ xs, x.bd k = true := by
  simp only [D.bd, Bool.and_eq_true, decide_eq_true_eq] at h
  exact ⟨h.1, D.bds_mem h.2⟩
theorem spoilt_ok : ∀ (j : Nat) {m : Nat}, j + 4 ≤ m → ∀ {n k : Nat} {d : D} {s : Sto}, SrcAt n s → d.bd k = true → 3 ≤ k → k < 1000 → d.dp ≤ j → j ≤ 50 →
    (callN tab m 38 [.ref n, d] s).P fun v s' => (v.bd (k + 1) = true ∧ v.dp ≤ j + 3) ∧ SrcAt n s' ∧ Fr (· = n) s s' := by
  intro j
  induction j with
  | zero =>
    intro m hm n k d s hs hb hk hk2 hd _
    obtain ⟨e, rfl⟩ : ∃ n, m = n + 1 := ⟨m - 1, by omega⟩
    have pl := D.bd_pl (D.bd_mono (by omega : k ≤ 1000) hb)
    rw [callN_at at_L_spoilt e [.ref n, d] s rfl]
    unfold L_spoilt
    simp
    have nt : isTup d = false := by
      cases d with
      | tup xs => simp [D.dp] at hd
      | _ => rfl
    simp [isi_tup s pl, nt]
    refine (odd_ok (by omega : 3 ≤ e) hs).mono ?_
    rintro v s' ⟨⟨h1, h2⟩, hs', f⟩
    exact ⟨⟨D.bd_mono (by omega) h1, by omega⟩, hs', f⟩
  | succ j ih =>
    intro m hm n k d s hs hb hk hk2 hd hj
    obtain ⟨e, rfl⟩ : ∃ n, m = n + 1 := ⟨m - 1, by omega⟩
    have pl := D.bd_pl (D.bd_mono (by omega : k ≤ 1000) hb)
    rw [callN_at at_L_spoilt e [.ref n, d] s rfl]
    unfold L_spoilt
    simp
    have odd : ∀ s1, SrcAt n s1 → Fr (· = n) s s1 → (callN tab e 37 [.ref n] s1).P fun v s' => (v.bd (k + 1) = true ∧ v.dp ≤ j + 1 + 3) ∧ SrcAt n s' ∧ Fr (· = n) s s' := fun s1 h1 f1 => (odd_ok (by omega : 3 ≤ e) h1).mono fun v s' ⟨⟨a, b⟩, c, f⟩ => ⟨⟨D.bd_mono (by omega) a, by omega⟩, c, f1.trans f⟩
    cases d with
    | tup xs =>
      obtain ⟨hl, hx⟩ := bd_tup_inv hb
      have hx1 : ∀ x ∈ xs, x.bd (k + 1) = true := fun x h => D.bd_mono (by omega) (hx x h)
      have hxd : ∀ x ∈ xs, x.dp ≤ j := fun x h => by have := D.dps_mem x h; simp only [D.dp] at hd; omega
      have fin : ∀ ys : List D, ys.length ≤ xs.length + 1 → (∀ y ∈ ys, y ∈ xs ∨ (y.bd (k + 1) = true ∧ y.dp ≤ j + 3)) → (D.tup ys).bd (k + 1) = true ∧ (D.tup ys).dp ≤ j + 1 + 3 := fun ys h1 h2 =>
        ⟨bd_tup (by omega) fun y hy => (h2 y hy).elim (hx1 y) fun q => q.1, by
          have : (D.tup ys).dp ≤ (j + 3) + 1 := dp_tup fun y hy => (h2 y hy).elim (fun q => by have := hxd y q; omega) fun q => q.2
          omega⟩
      simp [isi_tup s pl, isTup]
      rw [eq_nilT s pl (by omega)]
      simp
      by_cases hxs : xs = []
      · simp [hxs]
        have := odd s hs (Fr.refl _ _)
        simpa using this
      · simp [hxs]
        have hpos : 0 < xs.length := List.length_pos_iff.mpr hxs
        refine (draw_ok (by omega : 1 ≤ e) hs (by omega) (by omega)).mono ?_
        rintro v s1 ⟨i, rfl, i0, i1, hs1, f1⟩
        simp
        by_cases hi : i = 0
        · simp [hi]
          exact odd s1 hs1 f1
        · simp [hi]
          refine (draw_ok (by omega : 1 ≤ e) hs1 (by omega) (by omega)).mono ?_
          rintro v s2 ⟨a, rfl, a0, a1, hs2, f2⟩
          obtain ⟨a, rfl⟩ : ∃ b : Nat, a = b := ⟨a.toNat, by omega⟩
          simp
          refine (draw_ok (by omega : 1 ≤ e) hs2 (by omega) (by omega)).mono ?_
          rintro v s3 ⟨w, rfl, w0, w1, hs3, f3⟩
          have f := (f1.trans f2).trans f3
          have c1 : cut xs none (some (a : Int)) = xs.take a := cut_hi xs a
          have c2 : cut xs (some ((a : Int) + 1)) none = xs.drop (a + 1) := cut_lo xs (a + 1)
          have c3 : cut xs none (some ((a : Int) + 1)) = xs.take (a + 1) := cut_hi xs (a + 1)
          have c4 : cut xs (some (a : Int)) none = xs.drop a := cut_lo xs a
          have ht : ∀ b y, y ∈ xs.take b → y ∈ xs := fun b y h => List.mem_of_mem_take h
          have hdr : ∀ b y, y ∈ xs.drop b → y ∈ xs := fun b y h => List.mem_of_mem_drop h
          simp [c1, c2, c3, c4]
          by_cases w00 : w = 0
          · simp [w00]
            refine ⟨by omega, fin _ (by simp; omega) (fun y hy => ?_), hs3, f⟩
            rcases List.mem_append.mp hy with h | h
            · exact .inl (ht _ _ h)
            · exact .inl (hdr _ _ h)
          · simp [w00]
            by_cases w10 : w = 1
            · simp [w10]
              refine ⟨by omega, fin _ (by simp; omega) (fun y hy => ?_), hs3, f⟩
              rcases List.mem_append.mp hy with h | h
              · exact .inl (ht _ _ h)
              · exact .inl (hdr _ _ h)
            · simp [w10]
              by_cases w20 : w = 2
              · simp [w20]
                refine (odd_ok (by omega : 3 ≤ e) hs3).mono ?_
                rintro v s4 ⟨⟨h1, h2⟩, hs4, f4⟩
                refine ⟨by omega, by omega, fin _ (by simp; omega) (fun y hy => ?_), hs4, f.trans f4⟩
                rcases List.mem_append.mp hy with h | h
                · exact .inl (ht _ _ h)
                · rcases List.mem_cons.mp h with rfl | h
                  · exact .inr ⟨D.bd_mono (by omega) h1, by omega⟩
                  · exact .inl (hdr _ _ h)
              · simp [w20]
                by_cases w30 : w = 3
                · simp [w30]
                  refine ⟨?_, hs3, f⟩
                  have := fin xs (by omega) fun y hy => .inl hy
                  simpa [D.bd, D.dp] using this
                · simp [w30]
                  rw [atI_lt (by omega) (by omega)]
                  simp
                  refine (ih (m := e) (by omega) hs3 (hx _ (List.getElem_mem _)) hk hk2 (hxd _ (List.getElem_mem _)) (by omega)).mono ?_
                  rintro v s4 ⟨⟨h1, h2⟩, hs4, f4⟩
                  refine ⟨by omega, by omega, fin _ (by simp; omega) (fun y hy => ?_), hs4, f.trans f4⟩
                  rcases List.mem_append.mp hy with h | h
                  · exact .inl (ht _ _ h)
                  · rcases List.mem_cons.mp h with rfl | h
                    · exact .inr ⟨h1, by omega⟩
                    · exact .inl (hdr _ _ h)
    | _ =>
      simp [isi_tup s pl, isTup]
      exact odd s hs (Fr.refl _ _)
end Mp
set_option Elab.async false
set_option linter.all false
set_option maxRecDepth 100000
set_option maxHeartbeats 4000000
/-! the last of a tree's rows with some names -/
namespace Mp
open PySem PySem.Spec PyProof.Rows
open PySem.PyData (strOk)
def lastR (rows : List (List Str × Tr)) (p : List Str) : Option Tr := rows.foldl (fun acc r => if r.1 = p then some r.2 else acc) none
theorem lastR_acc (rows : List (List Str × Tr)) (p : List Str) (a : Option Tr) : rows.foldl (fun acc r => if r.1 = p then some r.2 else acc) a = match lastR rows p with | some t => some t | none => a := by
  unfold lastR
  induction rows generalizing a with
  | nil => rfl
  | cons r rows ih =>
    simp only [List.foldl_cons]
    by_cases h : r.1 = p
    · simp only [h, if_true]
      rw [ih (some r.2)]
      cases List.foldl (fun acc r => if r.1 = p then some r.2 else acc) none rows <;> rfl
    · simp only [h, if_false]
      exact ih a
theorem lastR_app (a b : List (List Str × Tr)) (p : List Str) : lastR (a ++ b) p = match lastR b p with | some t => some t | none => lastR a p := by
  show List.foldl _ none (a ++ b) = _
  rw [List.foldl_append]
  exact lastR_acc b p _
theorem lastR_one (q : List Str) (t : Tr) (p : List Str) : lastR [(q, t)] p = if q = p then some t else none := rfl
theorem lastR_none {rows : List (List Str × Tr)} {p : List Str} (h : ∀ r ∈ rows, r.1 ≠ p) : lastR rows p = none := by
  induction rows with
  | nil => rfl
  | cons r rows ih =>
    show List.foldl _ none (r :: rows) = none
    rw [List.foldl_cons, if_neg (h r List.mem_cons_self)]
    exact ih fun x hx => h x (List.mem_cons_of_mem _ hx)
mutual
theorem rows_pre : ∀ (t : Tr) (p : List Str), ∀ r ∈ t.rows p, ∃ n u, r.1 = p ++ n :: u
  | .file z, p, r, hr => by simp [Tr.rows] at hr
  | .fold ks, p, r, hr => by
    simp only [Tr.rows] at hr
    obtain ⟨n, u, h, _⟩ := rowsL_pre ks p r hr
    exact ⟨n, u, h⟩
theorem rowsL_pre : ∀ (ks : List (Str × Tr)) (p : List Str), ∀ r ∈ rowsL p ks, ∃ n u, r.1 = p ++ n :: u ∧ n ∈ ks.map (·.1)
  | [], p, r, hr => by simp [rowsL] at hr
  | (k, t) :: ks, p, r, hr => by
    simp only [rowsL, List.mem_cons, List.mem_append] at hr
    rcases hr with rfl | hr | hr
    · exact ⟨k, [], by simp, by simp⟩
    · obtain ⟨n, u, h⟩ := rows_pre t (p ++ [k]) r hr
      exact ⟨k, n :: u, by rw [h]; simp, by simp⟩
    · obtain ⟨n, u, h, hm⟩ := rowsL_pre ks p r hr
      exact ⟨n, u, h, List.mem_cons_of_mem _ hm⟩
end
theorem getT_none (q : List Str) : getT none q = none := by
  induction q with
  | nil => rfl
  | cons n q ih => exact ih
theorem lookT_none {ks : Trs} {n : Str} (h : n ∉ ks.map (·.1)) : lookT ks n = none := by
  induction ks with
  | nil => rfl
  | cons p ks ih =>
    obtain ⟨k, t⟩ := p
    simp only [List.map_cons, List.mem_cons, not_or] at h
    simp only [lookT]
    rw [if_neg (fun e => h.1 e.symm), ih h.2]
mutual
theorem lastR_tree : ∀ (t : Tr), t.ok = true → ∀ (p : List Str) (n : Str) (q : List Str), lastR (t.rows p) (p ++ n :: q) = getT (some t) (n :: q)
  | .file z, _, p, n, q => by
    simp only [Tr.rows]
    exact (getT_none q).symm
  | .fold ks, h, p, n, q => by
    simp only [Tr.ok, Bool.and_eq_true] at h
    simp only [Tr.rows]
    exact lastR_trees ks h.1 (ascS_iff.mp h.2).nodup p n q
theorem lastR_trees : ∀ (ks : List (Str × Tr)), oks ks = true → (ks.map (·.1)).Nodup → ∀ (p : List Str) (n : Str) (q : List Str), lastR (rowsL p ks) (p ++ n :: q) = getT (lookT ks n) q
  | [], _, _, p, n, q => (getT_none q).symm
  | (k, t) :: ks, h, hn, p, n, q => by
    simp only [oks, Bool.and_eq_true] at h
    have hn := List.nodup_cons.mp hn
    have e : rowsL p ((k, t) :: ks) = ([(p ++ [k], t)] ++ t.rows (p ++ [k])) ++ rowsL p ks := by simp [rowsL]
    rw [e, lastR_app, lastR_app, lastR_one, lastR_trees ks h.2 hn.2 p n q]
    simp only [lookT]
    by_cases hk : k = n
    · subst hk
      rw [lookT_none hn.1, getT_none, if_pos rfl]
      cases q with
      | nil =>
        rw [lastR_none fun r hr e => ?_]
        · simp; rfl
        · obtain ⟨n, u, h1⟩ := rows_pre t (p ++ [k]) r hr
          rw [h1] at e
          simp at e
      | cons n2 q =>
        have ih := lastR_tree t h.1.2 (p ++ [k]) n2 q
        rw [show p ++ k :: n2 :: q = (p ++ [k]) ++ n2 :: q by simp, ih]
        cases getT (some t) (n2 :: q) with
        | some u => rfl
        | none =>
          simp
    · rw [if_neg hk]
      have h0 : lastR (t.rows (p ++ [k])) (p ++ n :: q) = none := lastR_none fun r hr e => by
        obtain ⟨n', u, h1⟩ := rows_pre t (p ++ [k]) r hr
        rw [h1] at e
        simp at e
        exact hk e.1
      rw [h0, if_neg (fun e => by simp at e; exact hk e.1)]
      cases getT (lookT ks n) q <;> rfl
end
/-! ### dict(rows).get(path) -/
theorem keys_strs (zs : List Str) : D.keys (zs.map D.str) = some (zs.map .text) := by
  induction zs with
  | nil => rfl
  | cons z zs ih => simp [D.keys, D.key, ih]
theorem depth_texts (zs : List Str) : NestedKey.depthAll (zs.map .text) = 0 := by
  induction zs with
  | nil => rfl
  | cons z zs ih => simp [NestedKey.depthAll, NestedKey.depth, ih]
def keyP (p : List Str) : NestedKey := .tup (p.map .text)
theorem keyOf_strs (zs : List Str) : keyOf (.tup (zs.map D.str)) = some (keyP zs) := by
  unfold keyOf
  simp only [D.key, keys_strs]
  rw [if_pos]
  · rfl
  · simp [NestedKey.depth, depth_texts]
theorem beq_P (a b : List Str) : NestedKey.beq (keyP a) (keyP b) = decide (a = b) := by
  by_cases h : a = b
  · subst h
    rw [NestedKey.beq_self]
    simp
  · rw [decide_eq_false h]
    cases e : NestedKey.beq (keyP a) (keyP b) with
    | false => rfl
    | true =>
      have := NestedKey.eq_of_beq _ _ e
      unfold keyP at this
      have e2 : ∀ (a b : List Str), a.map NestedKey.text = b.map .text → a = b := fun a => by
        induction a with
        | nil => intro b h; cases b with
          | nil => rfl
          | cons _ _ => cases h
        | cons x a ih =>
          intro b h
          cases b with
          | nil => cases h
          | cons y b =>
            simp only [List.map_cons, List.cons.injEq, NestedKey.text.injEq] at h
            rw [h.1, ih b h.2]
      injection this with this
      exact absurd (e2 a b this) h
theorem pairs_rows (rows : List (List Str × Tr)) : pairsD (rows.map encR) = some (rows.map fun p => (keyP p.1, enc p.2)) := by
  induction rows with
  | nil => rfl
  | cons r rows ih =>
    simp only [List.map_cons, encR]
    unfold pairsD
    rw [keyOf_strs]
    rw [show pairsD (List.map encR rows) = _ from ih]
/-- where all keys are names -/
theorem look_merge : ∀ (rows : List (List Str × Tr)) (ks : List (List Str)) (vs : List D) (p : List Str), vs.length = ks.length →
    look (mergeD (ks.map keyP) vs (rows.map fun r => (keyP r.1, enc r.2))).1 (mergeD (ks.map keyP) vs (rows.map fun r => (keyP r.1, enc r.2))).2 (keyP p) = match lastR rows p with | some t => some (enc t) | none => look (ks.map keyP) vs (keyP p)
  | [], ks, vs, p, _ => rfl
  | (q, t) :: rows, ks, vs, p, hl => by
    simp only [List.map_cons, mergeD]
    have hasP : ∀ (ks : List (List Str)) (q : List Str), has (ks.map keyP) (keyP q) = decide (q ∈ ks) := fun ks q => by
      unfold has
      induction ks with
      | nil => simp
      | cons x ks ih =>
        simp only [List.map_cons, List.any_cons, beq_P, ih, List.mem_cons]
        by_cases h : x = q
        · simp [h]
        · have : ¬ q = x := fun e => h e.symm
          simp [h, this]
    have look_put : ∀ (ks : List (List Str)) (vs : List D) (q : List Str) (v : D), vs.length = ks.length → look (putK (ks.map keyP) (keyP q)) (putV (ks.map keyP) vs (keyP q) v) (keyP p) = if q = p then some v else look (ks.map keyP) vs (keyP p) := fun ks => by
      induction ks with
      | nil =>
        intro vs q v hl
        simp at hl
        subst hl
        simp [putK, has, putV, look, beq_P]
      | cons x ks ih =>
        intro vs q v hl
        cases vs with
        | nil => simp at hl
        | cons u vs =>
          have ih := ih vs q v (by simpa using hl)
          simp only [putK, hasP, List.mem_cons] at ih ⊢
          simp only [List.map_cons, putV, beq_P, decide_eq_true_eq]
          by_cases hxq : x = q
          · subst hxq
            simp only [true_or, decide_true, if_true, look, beq_P, decide_eq_true_eq]
            by_cases hxp : x = p <;> simp [hxp]
          · have hqx : ¬ q = x := fun e => hxq e.symm
            by_cases hm : q ∈ ks
            · simp only [hm, decide_true, if_true] at ih
              simp only [hxq, hqx, hm, or_true, decide_true, if_true, if_false, look, beq_P, decide_eq_true_eq, ih]
              by_cases hxp : x = p
              · subst hxp; simp [hqx]
              · simp [hxp]
            · simp only [hm, decide_false, Bool.false_eq_true, if_false] at ih
              simp only [hxq, hqx, hm, or_self, decide_false, Bool.false_eq_true, if_false, List.cons_append, look, beq_P, decide_eq_true_eq, ih]
              by_cases hxp : x = p
              · subst hxp; simp [hqx]
              · simp [hxp]
    have keep : ∃ ks' : List (List Str), putK (ks.map keyP) (keyP q) = ks'.map keyP ∧ (putV (ks.map keyP) vs (keyP q) (enc t)).length = ks'.length := by
      by_cases hm : q ∈ ks
      · refine ⟨ks, by simp [putK, hasP, hm], ?_⟩
        have : ∀ (ks : List (List Str)) (vs : List D), vs.length = ks.length → q ∈ ks → (putV (ks.map keyP) vs (keyP q) (enc t)).length = ks.length := fun ks => by
          induction ks with
          | nil => intro vs _ h; simp at h
          | cons x ks ih =>
            intro vs hl hm
            cases vs with
            | nil => simp at hl
            | cons u vs =>
              simp only [List.map_cons, putV, beq_P, decide_eq_true_eq]
              by_cases e : x = q
              · simp [e]; simpa using hl
              · simp [e]
                refine ih vs (by simpa using hl) ?_
                rcases List.mem_cons.mp hm with z | z
                · exact absurd z.symm e
                · exact z
        exact this ks vs hl hm
      · refine ⟨ks ++ [q], by simp [putK, hasP, hm], ?_⟩
        have : ∀ (ks : List (List Str)) (vs : List D), vs.length = ks.length → q ∉ ks → (putV (ks.map keyP) vs (keyP q) (enc t)).length = ks.length + 1 := fun ks => by
          induction ks with
          | nil => intro vs hl _; simp at hl; subst hl; rfl
          | cons x ks ih =>
            intro vs hl hm
            cases vs with
            | nil => simp at hl
            | cons u vs =>
              simp only [List.mem_cons, not_or] at hm
              have e : ¬ x = q := fun z => hm.1 z.symm
              simp only [List.map_cons, putV, beq_P, decide_eq_true_eq, e, if_false, List.length_cons]
              rw [ih vs (by simpa using hl) hm.2]
        rw [this ks vs hl hm]
        simp
    obtain ⟨ks', e1, e2⟩ := keep
    have lp := look_put ks vs q (enc t) hl
    have ih := look_merge rows ks' (putV (ks.map keyP) vs (keyP q) (enc t)) p e2
    rw [e1] at lp ⊢
    rw [ih, lp]
    have : lastR ((q, t) :: rows) p = match lastR rows p with | some u => some u | none => if q = p then some t else none := by
      show lastR ([(q, t)] ++ rows) p = _
      rw [lastR_app]
      rfl
    rw [this]
    cases lastR rows p with
    | some u => rfl
    | none => by_cases h : q = p <;> simp [h]
theorem dict_lst (s : Sto) (xs : List D) : bltF s .dict [.lst xs] = (pairsD xs).map fun ps => fresh (.dic (mergeD [] [] ps).1 (mergeD [] [] ps).2) := rfl
theorem get_rows {ks : Trs} (h : (Tr.fold ks).ok = true) {p : List Str} (hp : p ≠ []) :
    (look (mergeD [] [] ((rowsL [] ks).map fun r => (keyP r.1, enc r.2))).1 (mergeD [] [] ((rowsL [] ks).map fun r => (keyP r.1, enc r.2))).2 (keyP p)).getD .non = encO (getT (some (.fold ks)) p) := by
  have := look_merge (rowsL [] ks) [] [] p rfl
  rw [show List.map keyP [] = [] from rfl] at this
  rw [this]
  cases p with
  | nil => exact absurd rfl hp
  | cons n q =>
    have e := lastR_tree (.fold ks) h [] n q
    simp only [Tr.rows, List.nil_append] at e
    rw [e]
    cases getT (some (.fold ks)) (n :: q) with
    | some t => rfl
    | none => rfl
end Mp
set_option Elab.async false
set_option linter.all false
set_option maxRecDepth 100000
set_option maxHeartbeats 4000000
/-! the law of values recognized -/
namespace Mp
open PySem PySem.Spec PyProof.Rows
open PySem.PyData (strOk)
def selF (r : List Str × Tr) : Option D := if isStr (enc r.2) = true then some (encR r) else none
theorem selF_file (q : List Str) (z : Str) : selF (q, .file z) = some (encF (q, z)) := by
  unfold selF encR encF
  simp only [enc_file]
  rfl
theorem selF_fold (q : List Str) (ks : Trs) : selF (q, .fold ks) = none := by
  unfold selF
  simp only [enc_fold]
  rfl
mutual
theorem files_rows : ∀ (t : Tr) (p : List Str), (t.rows p).filterMap selF = match t with | .file _ => [] | .fold _ => (t.files p).map encF
  | .file z, p => rfl
  | .fold ks, p => by
    simp only [Tr.rows, Tr.files]
    exact filesL_rows ks p
theorem filesL_rows : ∀ (ks : List (Str × Tr)) (p : List Str), (rowsL p ks).filterMap selF = (filesL p ks).map encF
  | [], p => rfl
  | (k, .file z) :: r, p => by
    have h := filesL_rows r p
    simp only [rowsL, Tr.rows, List.nil_append, List.filterMap_cons, selF_file, h, filesL, Tr.files, List.singleton_append, List.map_cons]
  | (k, .fold ks) :: r, p => by
    have h := filesL_rows r p
    have h2 := files_rows (.fold ks) (p ++ [k])
    simp only at h2
    simp only [rowsL, List.filterMap_cons, List.filterMap_append, selF_fold, filesL, List.map_append, h, h2]
end
theorem ne_same (s : Sto) {xs : List D} (h : (D.lst xs).pl = true) (hd : (D.lst xs).dp ≤ 60) : cmpF s .ne (.lst xs) (.lst xs) = some false := by
  show (D.eqq (.lst xs) (.lst xs)).map (!·) = _
  rw [D.eqq_refl h (by omega)]
  rfl
theorem ne_eqq (s : Sto) {d : D} (h : lstV s d = none) : cmpF s .ne d d = (D.eqq d d).map (!·) := by simp only [cmpF, h]
theorem ne_self (s : Sto) {d : D} (h : d.pl = true) (hd : d.dp ≤ 60) : cmpF s .ne d d = some false := by
  by_cases e : ∃ xs, d = .lst xs
  · obtain ⟨xs, rfl⟩ := e
    exact ne_same s h hd
  · rw [ne_eqq s, D.eqq_refl h (by omega)]
    · rfl
    · cases d with
      | lst xs => exact absurd ⟨xs, rfl⟩ e
      | ref _ => simp [D.pl] at h
      | _ => rfl
theorem ne_bl (s : Sto) (a b : Bool) : cmpF s .ne (.bl a) (.bl b) = some (!decide (a = b)) := by
  show (D.eqq (.bl a) (.bl b)).map (!·) = _
  rw [D.eqq_of rfl rfl (Nat.zero_le _) (Nat.zero_le _)]
  cases a <;> cases b <;> rfl
theorem strs_plL {zs : List Str} (h : ∀ z ∈ zs, (D.str z).pl = true) (hl : zs.length ≤ 1000) : (D.lst (zs.map .str)).pl = true ∧ (D.lst (zs.map .str)).dp ≤ 60 := by
  refine ⟨?_, by simp [D.dp, strs_dps]⟩
  simp only [D.pl, Bool.and_eq_true, decide_eq_true_eq, List.length_map]
  refine ⟨hl, D.pls_of fun x hx => ?_⟩
  obtain ⟨z, hz, rfl⟩ := List.mem_map.mp hx
  exact h z hz
theorem setS_len (zs : List Str) : (setS zs).length ≤ zs.length := by
  unfold setS
  rw [List.length_mergeSort]
  have : ∀ (n : Nat) (l : List Str), l.length ≤ n → l.eraseDups.length ≤ l.length := fun n => by
    induction n with
    | zero => intro l h; have := List.eq_nil_of_length_eq_zero (Nat.le_zero.mp h); subst this; simp
    | succ n ih =>
      intro l h
      cases l with
      | nil => simp
      | cons a l =>
        rw [List.eraseDups_cons]
        have h1 := List.length_filter_le (fun b => !b == a) l
        have := ih (l.filter fun b => !b == a) (by simp at h; omega)
        simp
        omega
  exact this _ _ (Nat.le_refl _)
/-- the looks at one value, which is spoilt five times -/
def EnvL (ns : List Int) (r : Env) : Prop := ∃ a1 a2 a3 a4 a5 a6 a7 a8 a9 a10 a11, r = [.val (.cel (ns.map .int)), a1, a2, a3, a4, a5, a6, a7, a8, a9, a10, a11]
def EnvK (ns : List Int) (n : Nat) (t x rows : D) (v : Option D) (r : Env) : Prop := ∃ a1 a2 a7 a8 a9 a10 a11, r = [.val (.cel (ns.map .int)), a1, a2, .val (.ref n), .val t, .val x, .val rows, a7, a8, a9, a10, a11] ∧ ∀ d, v = some d → a8 = .val d
theorem turn_ok {m : Nat} (hm : 55 ≤ m) {ns : List Int} {n : Nat} {t x rows : D} {d : D} {k : Nat} (hd : d.bd k = true) (hk3 : 3 ≤ k) (hk : k ≤ 30) (hdp : d.dp ≤ 30) {r : Env} {s : Sto} (hs : SrcAt n s) (hr : EnvK ns n t x rows (some d) r) :
    (execs (callN tab m) [.ite (.cmp .ne (.cal 8 [(.var 8)]) (.and [(.blt (.isi "tuple") [(.var 8)]), (.cal 33 [(.var 8), (.cst (.bl true))])]))
             [.ret (.cst (.bl false))]
             [],
           .ite (.or [(.cmp .ne (.cal 18 [(.var 8)]) (.cal 35 [(.var 8)])), (.cmp .ne (.cal 19 [(.var 8)]) (.cal 36 [(.var 8)]))])
             [.ret (.cst (.bl false))]
             [],
           .ite (.or [(.not (.blt (.isi "bool") [(.cal 19 [(.var 8)])])), (.not (.blt (.isi "bool") [(.cal 8 [(.var 8)])]))])
             [.ret (.cst (.bl false))]
             [],
           .asg 8 (.cal 38 [(.var 3), (.var 8)])] r s).P (fun r' s' => ∃ d' : D, (d'.bd (k + 1) = true ∧ d'.dp ≤ d.dp + 3) ∧ EnvK ns n t x rows (some d') r' ∧ SrcAt n s') (fun _ _ => False) := by
  obtain ⟨a1, a2, a7, a8, a9, a10, a11, rfl, h8⟩ := hr
  obtain rfl := h8 d rfl
  have pl := D.bd_pl (D.bd_mono (by omega : k ≤ 1000) hd)
  simp only [execs_cons, execs_nil, exec_ite]
  simp [is_tree_ok (s := s) pl (by omega : d.dp + 4 ≤ m), isi_tup s pl, Lis_node_ok m (b := true) (s := s) pl (by omega), is_command_ok (s := s) (by omega : 4 ≤ m) pl, Lis_command_ok (s := s) (by omega : 3 ≤ m) pl (by omega), is_script_ok (s := s) (by omega : 5 ≤ m) pl, Lis_script_ok (s := s) (by omega : 4 ≤ m) pl (by omega), ne_bl]
  have fin : (callN tab m 38 [.ref n, d] s).P fun d_1 s_1 => ∃ d', (D.bd (k + 1) d' = true ∧ d'.dp ≤ d.dp + 3) ∧ EnvK ns n t x rows (some d') [SV.val (D.cel (List.map D.int ns)), a1, a2, SV.val (D.ref n), SV.val t, SV.val x, SV.val rows, a7, SV.val d_1, a9, a10, a11] ∧ SrcAt n s_1 := by
    refine (spoilt_ok d.dp (m := m) (by omega) hs hd hk3 (by omega) (Nat.le_refl _) (by omega)).mono ?_
    rintro v s' ⟨h1, h2, _⟩
    exact ⟨v, h1, ⟨a1, a2, a7, .val v, a9, a10, a11, rfl, fun u e => by cases e; rfl⟩, h2⟩
  unfold isTree
  cases h1 : isTup d <;> cases h2 : isNode d <;> simp [ne_bl] <;> exact fin
theorem rangeD_map (n : Int) : rangeD 0 n = (List.range n.toNat).map fun k => .int (k : Nat) := by
  unfold rangeD
  rw [show (n - 0) = n by omega]
  congr 1
  funext k
  rw [show (0 : Int) + (k : Nat) = (k : Nat) by omega]
/-- a value in five turns -/
theorem value_ok {m : Nat} (hm : 55 ≤ m) {ns : List Int} {n : Nat} {t x rows : D} {d : D} (hd : d.bd 12 = true) (hdp : d.dp ≤ 10) {r : Env} {s : Sto} (hs : SrcAt n s) (hr : EnvK ns n t x rows (some d) r) (N : Env → Sto → Prop) (q : ∀ r s, EnvK ns n t x rows none r → SrcAt n s → N r s) :
    (execs (callN tab m) [.for_ (.nm 7) (.range1 (.cst (.int 5)))
          [.ite (.cmp .ne (.cal 8 [(.var 8)]) (.and [(.blt (.isi "tuple") [(.var 8)]), (.cal 33 [(.var 8), (.cst (.bl true))])]))
             [.ret (.cst (.bl false))]
             [],
           .ite (.or [(.cmp .ne (.cal 18 [(.var 8)]) (.cal 35 [(.var 8)])), (.cmp .ne (.cal 19 [(.var 8)]) (.cal 36 [(.var 8)]))])
             [.ret (.cst (.bl false))]
             [],
           .ite (.or [(.not (.blt (.isi "bool") [(.cal 19 [(.var 8)])])), (.not (.blt (.isi "bool") [(.cal 8 [(.var 8)])]))])
             [.ret (.cst (.bl false))]
             [],
           .asg 8 (.cal 38 [(.var 3), (.var 8)])]] r s).P N (fun v _ => v = .bl true) := by
  rw [execs_cons, exec_for, evI_range1]
  simp only [ev_cst, held_1, asInt_int, optP_some, execs_nil]
  refine ⟨by omega, ?_⟩
  rw [rangeD_map]
  refine for_map (List.range (5 : Int).toNat) (fun k => .int (k : Nat)) (fun pre r s => ∃ d : D, d.bd (12 + pre.length) = true ∧ d.dp ≤ 10 + 3 * pre.length ∧ pre.length ≤ 5 ∧ EnvK ns n t x rows (some d) r ∧ SrcAt n s) (fun _ _ _ _ => rfl) ⟨d, hd, by simpa using hdp, by simp, hr, hs⟩ ?_ ?_
  · rintro r s ⟨d, _, _, _, ⟨a1, a2, a7, a8, a9, a10, a11, rfl, _⟩, hs⟩
    exact q _ _ ⟨a1, a2, a7, a8, a9, a10, a11, rfl, fun u e => by cases e⟩ hs
  · rintro pre y post r s e ⟨d, h1, h2, h3, ⟨a1, a2, a7, a8, a9, a10, a11, rfl, h8⟩, hs⟩
    have hlen := congrArg List.length e
    simp at hlen
    simp only [bindT_nm]
    refine (turn_ok (ns := ns) (n := n) (t := t) (x := x) (rows := rows) (by omega : 55 ≤ m) h1 (by omega) (by omega) (by omega) hs ⟨a1, a2, .val (.int (y : Nat)), a8, a9, a10, a11, rfl, h8⟩).mono ?_ fun _ _ z => z.elim
    rintro r' s' ⟨d', ⟨g1, g2⟩, g3, g4⟩
    exact ⟨d', by simpa [Nat.add_assoc] using g1, by simp; omega, by simp; omega, g3, g4⟩
theorem seqP {c : Calls} {x : CS} {xs : List CS} {r : Env} {s : Sto} {N : Env → Sto → Prop} {R : D → Sto → Prop} (M : Env → Sto → Prop) (h : (execs c [x] r s).P M R) (k : ∀ r s, M r s → (execs c xs r s).P N R) : (execs c (x :: xs) r s).P N R := by
  rw [execs_cons]
  rw [execs_cons] at h
  refine h.mono (fun r s q => ?_) fun _ _ q => q
  rw [execs_nil] at q
  exact k r s q
/-- a drawn tree and script stand -/
structure Drawn (ks : Trs) (x : Scr) : Prop where
  ok : (Tr.fold ks).ok = true
  dep : deps ks ≤ 3
  cnt : cnts ks ≤ 12
  scr : okS 5 x
def rowsD (ks : Trs) : D := .lst ((rowsL [] ks).map encR)
def Stand (ns : List Int) (n : Nat) (ks : Trs) (x : Scr) (r : Env) (s : Sto) : Prop := EnvK ns n (.tup (encs ks)) (encS x) (rowsD ks) none r ∧ SrcAt n s
def IsTrue (v : D) (_ : Sto) : Prop := v = .bl true
theorem Drawn.fine {ks : Trs} {x : Scr} (h : Drawn ks x) : (Tr.fold ks).fine := ⟨h.ok, by have := h.cnt; simp only [Tr.cnt]; omega, by have := h.dep; simp only [Tr.dep]; omega⟩
mutual
theorem rows_fine : ∀ (t : Tr) (p : List Str), t.fine → ∀ r ∈ t.rows p, r.2.fine
  | .file z, p, h, r, hr => by simp [Tr.rows] at hr
  | .fold ks, p, h, r, hr => by
    simp only [Tr.rows] at hr
    exact rowsL_fine ks p (fun k t hm => h.sub hm) r hr
theorem rowsL_fine : ∀ (ks : List (Str × Tr)) (p : List Str), (∀ k t, (k, t) ∈ ks → t.fine) → ∀ r ∈ rowsL p ks, r.2.fine
  | [], p, h, r, hr => by simp [rowsL] at hr
  | (k, t) :: ks, p, h, r, hr => by
    simp only [rowsL, List.mem_cons, List.mem_append] at hr
    have ht : t.fine := h k t List.mem_cons_self
    rcases hr with rfl | hr | hr
    · exact ht
    · exact rows_fine t _ ht r hr
    · exact rowsL_fine ks p (fun k t hm => h k t (List.mem_cons_of_mem _ hm)) r hr
end
section
variable {m : Nat} {ns : List Int} {n : Nat} {ks : Trs} {x : Scr} {r : Env} {s : Sto}
theorem st_count (hm : 65 ≤ m) (h : Drawn ks x) (hs : Stand ns n ks x r s) : (execs (callN tab m) [.ite (.cmp .ne (.cal 9 [(.var 4)]) (.blt .len [(.var 6)]))
       [.ret (.cst (.bl false))]
       []] r s).P (Stand ns n ks x) IsTrue := by
  obtain ⟨⟨a1, a2, a7, a8, a9, a10, a11, rfl, h8⟩, hs⟩ := hs
  have h2 := h.dep
  have h3 := h.cnt
  simp [count_nodes_ok (m := m) (s := s) h.ok (by omega) (by omega), rowsD, rowsL_cnt]
  exact ⟨⟨a1, a2, a7, a8, a9, a10, a11, rfl, h8⟩, hs⟩
theorem st_files (hm : 65 ≤ m) (h : Drawn ks x) (hs : Stand ns n ks x r s) : (execs (callN tab m) [.ite (.cmp .ne (.cal 10 [(.var 4)]) (.blt .sorted [(.lc (.var 10) (.nm 10) (.seq (.var 6)) (some (.blt (.isi "str") [(.sub (.var 10) (.cst (.int 1)))])) [10])]))
       [.ret (.cst (.bl false))]
       []] r s).P (Stand ns n ks x) IsTrue := by
  obtain ⟨⟨a1, a2, a7, a8, a9, a10, a11, rfl, h8⟩, hs⟩ := hs
  have h2 := h.dep
  have h3 := h.cnt
  have hok := h.ok
  simp only [Tr.ok, Bool.and_eq_true] at hok
  have hf := files_def_ok (m := m) (s := s) h.ok (by omega) (by omega) (by omega)
  have okF := filesL_ok ks [] hok.1 (by simp) (by simp; omega)
  have lF := filesL_len ks []
  have sd := sortD_files okF
  have sp : (D.lst (sortedF (filesL [] ks))).pl = true ∧ (D.lst (sortedF (filesL [] ks))).dp ≤ 60 := by
    have hmem : ∀ x ∈ sortedF (filesL [] ks), ∃ p ∈ filesL [] ks, x = encF p := fun x hx => by
      have := (List.mergeSort_perm _ _).mem_iff.mp hx
      obtain ⟨p, hp, rfl⟩ := List.mem_map.mp this
      exact ⟨p, hp, rfl⟩
    constructor
    · simp only [D.pl, Bool.and_eq_true, decide_eq_true_eq]
      refine ⟨by unfold sortedF; simp; omega, D.pls_of fun x hx => ?_⟩
      obtain ⟨p, hp, rfl⟩ := hmem x hx
      exact encF_pl (okF p hp)
    · have : D.dps (sortedF (filesL [] ks)) ≤ 2 := D.dps_le fun x hx => by
        obtain ⟨p, hp, rfl⟩ := hmem x hx
        rw [encF_dp]; omega
      simp only [D.dp]; omega
  simp [hf, rowsD]
  refine lc_filterG (rowsL [] ks) encR selF rfl (by rw [rowsL_cnt]; omega) (fun q hq => ?_) ?_
  · have fq := rows_fine (.fold ks) [] h.fine q (by simpa only [Tr.rows] using hq)
    obtain ⟨q, t⟩ := q
    simp [lcTurn_some, encR]
    rw [isi_str s fq.pl]
    simp [selF, encR]
  · rw [filesL_rows, sd]
    simp
    rw [show (List.mergeSort ((filesL [] ks).map encF) (W.dataLe false D.pd)) = sortedF (filesL [] ks) from rfl, ne_same s sp.1 sp.2]
    simp
    exact ⟨⟨a1, a2, a7, a8, a9, a10, a11, rfl, h8⟩, hs⟩
theorem encO_pl {o : Option Tr} (h : fineO o) : (encO o).pl = true ∧ (encO o).dp ≤ 60 := by
  cases o with
  | none => exact ⟨rfl, Nat.zero_le _⟩
  | some t => exact ⟨(h t rfl).pl, by have := (h t rfl).dp; show (enc t).dp ≤ 60; omega⟩
theorem fineO_get {o : Option Tr} (h : fineO o) : ∀ p, fineO (getT o p)
  | [] => h
  | n :: p => fineO_get (o := stepT o n) (h.step n) p
theorem st_paths (hm : 65 ≤ m) (h : Drawn ks x) (hs : Stand ns n ks x r s) : (execs (callN tab m) [.for_ (.nm 7) (.range1 (.cst (.int 6)))
       [.asg 9 (.cal 25 [(.var 3)]),
        .ite (.cmp .ne (.cal 11 [(.var 4), (.var 9)]) (.get2 (.blt .dict [(.var 6)]) (.var 9) (.cst .non)))
          [.ret (.cst (.bl false))]
          []]] r s).P (Stand ns n ks x) IsTrue := by
  rw [execs_cons, exec_for, evI_range1]
  simp only [ev_cst, held_1, asInt_int, optP_some, execs_nil]
  refine ⟨by omega, ?_⟩
  rw [rangeD_map]
  refine for_map (List.range (6 : Int).toNat) (fun k => .int (k : Nat)) (fun pre r s => Stand ns n ks x r s) (fun _ _ _ _ => rfl) hs (fun r s q => q) ?_
  rintro pre y post r s e ⟨⟨a1, a2, a7, a8, a9, a10, a11, rfl, h8⟩, hs⟩
  simp
  refine (path_ok (by omega : 3 ≤ m) hs).mono ?_
  rintro v s1 ⟨p, rfl, hp, hs1, _⟩
  have fine := h.fine
  have ha := at_path_ok (m := m) (s := s1) fine (by omega) hp.1 hp.2
  have gp := get_rows h.ok (p := p) (by have := hp.2; intro e; subst e; simp at this)
  have fo := encO_pl (fineO_get (o := some (.fold ks)) (fun t e => by cases e; exact fine) p)
  simp only [encP]
  simp [ha, rowsD, dict_lst, pairs_rows, dicV, fresh, keyOf_strs, gp, ne_self s1 fo.1 fo.2]
  exact ⟨⟨a1, a2, .val (.int (y : Nat)), a8, .val (.tup (p.map .str)), a10, a11, rfl, fun u e => by cases e⟩, hs1⟩
theorem st_words (hm : 65 ≤ m) (h : Drawn ks x) (hs : Stand ns n ks x r s) : (execs (callN tab m) [.ite (.or [(.cmp .ne (.cal 20 [(.var 5)]) (.lc (.sub (.var 11) (.cst (.int 0))) (.nm 11) (.seq (.sub (.var 5) (.cst (.int 1)))) none [11])), (.cmp .ne (.cal 21 [(.var 5)]) (.cal 31 [(.lst [(.var 5)])]))])
       [.ret (.cst (.bl false))]
       []] r s).P (Stand ns n ks x) IsTrue := by
  obtain ⟨⟨a1, a2, a7, a8, a9, a10, a11, rfl, h8⟩, hs⟩ := hs
  have hx := h.scr
  have hh := hx.hi
  have w := strs_plL (zs := x.2.map wordC) (fun z hz => by obtain ⟨c, _, rfl⟩ := List.mem_map.mp hz; exact word_pl c) (by simp; omega)
  have okN := namesS_ok hx.ok
  have lN := setS_len (namesS x.2)
  have w2 := strs_plL (zs := setS (namesS x.2)) (fun z hz => name_pl (okN.1 z (setS_mem.mp hz))) (by omega)
  simp [words_ok (s := s) (by omega : 6 ≤ m) hx]
  rw [show subF s (encS x) (.int 1) = some (held (.tup (x.2.map encC))) from rfl]
  simp
  refine lc_mapG x.2 encC (fun c => .str (wordC c)) rfl (by omega) (fun c hc => ?_) ?_
  · obtain ⟨r, e⟩ := enc_word c
    simp [lcTurn_none, e]
  · rw [show (x.2.map fun c => D.str (wordC c)) = (x.2.map wordC).map .str by simp]
    simp only [List.map_map] at w
    simp [ne_same s w.1 w.2]
    simp [names_in_ok (s := s) (by omega : 6 ≤ m) hx, Lnames_ok (s := s) (by omega : 1 ≤ m) hx, ne_same s w2.1 w2.2]
    exact ⟨⟨a1, a2, a7, a8, a9, a10, a11, rfl, h8⟩, hs⟩
theorem st_values (hm : 65 ≤ m) (h : Drawn ks x) (hs : Stand ns n ks x r s) : (execs (callN tab m) [.for_ (.nm 8) (.seq (.lst [(.var 4), (.var 5), (.sub (.sub (.var 5) (.cst (.int 1))) (.cst (.int 0)))]))
       [.for_ (.nm 7) (.range1 (.cst (.int 5)))
          [.ite (.cmp .ne (.cal 8 [(.var 8)]) (.and [(.blt (.isi "tuple") [(.var 8)]), (.cal 33 [(.var 8), (.cst (.bl true))])]))
             [.ret (.cst (.bl false))]
             [],
           .ite (.or [(.cmp .ne (.cal 18 [(.var 8)]) (.cal 35 [(.var 8)])), (.cmp .ne (.cal 19 [(.var 8)]) (.cal 36 [(.var 8)]))])
             [.ret (.cst (.bl false))]
             [],
           .ite (.or [(.not (.blt (.isi "bool") [(.cal 19 [(.var 8)])])), (.not (.blt (.isi "bool") [(.cal 8 [(.var 8)])]))])
             [.ret (.cst (.bl false))]
             [],
           .asg 8 (.cal 38 [(.var 3), (.var 8)])]]] r s).P (Stand ns n ks x) IsTrue := by
  obtain ⟨⟨a1, a2, a7, a8, a9, a10, a11, rfl, h8⟩, hs⟩ := hs
  have hx := h.scr
  have hlo := hx.lo
  obtain ⟨c0, cs, ec⟩ : ∃ c0 cs, x.2 = c0 :: cs := by
    cases e : x.2 with
    | nil => rw [e] at hlo; simp at hlo
    | cons c cs => exact ⟨c, cs, rfl⟩
  have bt := enc_bd (.fold ks) (k := 12) (by omega) h.ok (by simp only [Tr.cnt]; exact h.cnt)
  have dt := enc_dp (.fold ks)
  rw [enc_fold] at bt dt
  simp only [Tr.dep] at dt
  have hd := h.dep
  have bs := bd_S hx (by omega)
  have bc := bd_C (hx.ok c0 (by rw [ec]; simp))
  have all : ∀ d ∈ [D.tup (encs ks), encS x, encC c0], d.bd 12 = true ∧ d.dp ≤ 10 := by
    intro d hd
    simp at hd
    rcases hd with rfl | rfl | rfl
    · exact ⟨bt, by omega⟩
    · exact ⟨D.bd_mono (by omega) bs.1, by omega⟩
    · exact ⟨D.bd_mono (by omega) bc.1, by omega⟩
  rw [execs_cons, exec_for, evI_seq]
  have src : ∀ Q : Its → Sto → Prop, Q ⟨[D.tup (encs ks), encS x, encC c0], .held⟩ s → ((ev (callN tab m) [SV.val (D.cel (List.map D.int ns)), a1, a2, SV.val (D.ref n), SV.val (D.tup (encs ks)), SV.val (encS x), SV.val (rowsD ks), a7, a8, a9, a10, a11] (.lst [(.var 4), (.var 5), (.sub (.sub (.var 5) (.cst (.int 1))) (.cst (.int 0)))]) s).P fun x s => optP (seqI s x) fun i => Q i s) := fun Q q => by
    simp
    rw [show subF s (encS x) (.int 1) = some (held (.tup (x.2.map encC))) from rfl]
    simp [ec]
    simpa [ec] using q
  refine src _ ?_
  simp only [execs_nil, bindT_nm]
  refine forP (fun ys r s => Stand ns n ks x r s ∧ ∀ d ∈ ys, d.bd 12 = true ∧ d.dp ≤ 10) ⟨⟨⟨a1, a2, a7, a8, a9, a10, a11, rfl, h8⟩, hs⟩, all⟩ ?_ ?_
  · rintro r s ⟨q, _⟩
    exact ⟨rfl, q⟩
  · rintro d ys r s ⟨⟨⟨a1, a2, a7, a8, a9, a10, a11, rfl, h8⟩, hs⟩, hd⟩
    refine ⟨rfl, ?_⟩
    obtain ⟨d1, d2⟩ := hd d List.mem_cons_self
    refine value_ok (ns := ns) (n := n) (t := .tup (encs ks)) (x := encS x) (rows := rowsD ks) (by omega : 55 ≤ m) d1 d2 hs ⟨a1, a2, a7, .val d, a9, a10, a11, rfl, fun u e => by cases e; rfl⟩ _ fun r s hr hs => ?_
    exact ⟨⟨hr, hs⟩, fun y hy => hd y (List.mem_cons_of_mem _ hy)⟩
end
end Mp
set_option Elab.async false
set_option linter.all false
set_option maxRecDepth 100000
set_option maxHeartbeats 4000000
/-! the law of values recognized: its end -/
namespace Mp
open PySem PySem.Spec PyProof.Rows
open PySem.PyData (strOk)
theorem turn1_ok {m : Nat} (hm : 65 ≤ m) {ns : List Int} {k : Nat} {r : Env} {s : Sto} {body : List CS} (hb : body = (match L_law.body with | .for_ _ _ b :: _ => b | _ => [])) (hr : ∃ a2 a3 a4 a5 a6 a7 a8 a9 a10 a11, r = [.val (.cel (ns.map .int)), .val (.int (k : Nat)), a2, a3, a4, a5, a6, a7, a8, a9, a10, a11]) :
    (execs (callN tab m) body r s).P (fun r _ => EnvL ns r) IsTrue := by
  subst hb
  show (execs (callN tab m) (_ :: _) r s).P _ _
  obtain ⟨a2, a3, a4, a5, a6, a7, a8, a9, a10, a11, rfl⟩ := hr
  rw [execs_cons]
  simp only [exec_asg, ev_cal, evs_cons, evs_nil, ev_var, List.getElem?_cons_zero, List.getElem?_cons_succ, esc_held, optP_some]
  refine (source_ok (by omega : 1 ≤ m) (ns := ns) (k := (k : Nat)) (by omega) (s := s)).mono ?_
  rintro v s1 ⟨rfl, hs1, _⟩
  generalize s.length = n at hs1
  simp only [List.set_cons_succ, List.set_cons_zero]
  rw [execs_cons]
  simp only [exec_par2, ev_cal, evs_cons, evs_nil, ev_var, List.getElem?_cons_zero, List.getElem?_cons_succ, esc_held, optP_some, ev_cst]
  refine (tree_draw (by omega : 9 ≤ m) hs1).mono ?_
  rintro v s2 ⟨ks, rfl, hok, hdep, hcnt, hs2, _⟩
  refine (script_ok (by omega : 5 ≤ m) hs2 (k := 5) (by omega) (by omega)).mono ?_
  rintro v s3 ⟨x, rfl, hx, hs3, _⟩
  simp only [List.set_cons_succ, List.set_cons_zero]
  have hd : Drawn ks x := ⟨hok, hdep, hcnt, hx⟩
  rw [execs_cons]
  simp only [exec_asg, ev_cal, evs_cons, evs_nil, ev_var, ev_tup, List.getElem?_cons_zero, List.getElem?_cons_succ, esc_held, optP_some]
  have hl := listed_ok m (ks := ks) (p := []) (s := s3) (by omega) (by omega) (by simp; omega)
  rw [List.map_nil] at hl
  rw [hl, Res.P_ok]
  simp only [esc_held, optP_some, List.set_cons_succ, List.set_cons_zero]
  have h0 : Stand ns n ks x [.val (.cel (ns.map .int)), .val (.int (k : Nat)), a2, .val (.ref n), .val (.tup (encs ks)), .val (encS x), .val (rowsD ks), a7, a8, a9, a10, a11] s3 := ⟨⟨_, a2, a7, a8, a9, a10, a11, rfl, fun u e => by cases e⟩, hs3⟩
  refine seqP (Stand ns n ks x) (st_count hm hd h0) fun r s h1 => ?_
  refine seqP (Stand ns n ks x) (st_files hm hd h1) fun r s h2 => ?_
  refine seqP (Stand ns n ks x) (st_paths hm hd h2) fun r s h3 => ?_
  refine seqP (Stand ns n ks x) (st_words hm hd h3) fun r s h4 => ?_
  refine (st_values hm hd h4).mono (fun r s h5 => ?_) fun _ _ q => q
  obtain ⟨⟨a1, a2, a7, a8, a9, a10, a11, rfl, _⟩, _⟩ := h5
  exact ⟨a1, a2, _, _, _, _, a7, a8, a9, a10, a11, rfl⟩
theorem k01_ok (ns : List Int) (hn : ns.length ≤ 63) : ∃ S, callN tab 70 40 [.cel (ns.map D.int)] [] = .ok (.bl true) S := by
  have key : (callN tab 70 40 [.cel (ns.map D.int)] []).P IsTrue := by
    rw [callN_at at_L_law 69 [.cel (ns.map D.int)] [] rfl]
    show (execs (callN tab 69) (CS.for_ _ _ _ :: _) _ _).P _ _
    refine SRes.P.mono (N := fun _ _ => False) (R := IsTrue) ?_ (fun _ _ q => q.elim) (fun _ _ q => q)
    refine seqP (fun r _ => EnvL ns r) ?_ ?_
    · rw [execs_cons, exec_for, evI_range1]
      simp
      refine ⟨by split <;> omega, ?_⟩
      rw [rangeD_map]
      refine for_map _ (fun k => .int (k : Nat)) (fun pre r s => EnvL ns r) (fun _ _ _ _ => rfl) ⟨_, _, _, _, _, _, _, _, _, _, _, rfl⟩ (fun r s q => q) ?_
      rintro pre y post r s e ⟨a1, a2, a3, a4, a5, a6, a7, a8, a9, a10, a11, rfl⟩
      exact turn1_ok (by omega : 65 ≤ 69) (ns := ns) (k := y) rfl ⟨a2, a3, a4, a5, a6, a7, a8, a9, a10, a11, rfl⟩
    · rintro r s ⟨a1, a2, a3, a4, a5, a6, a7, a8, a9, a10, a11, rfl⟩
      have put : (D.tup [.str "write", .tup [.str "a", .str "b"], .str "abcdefgh"]).pl = true := by decide +kernel
      have s5 : isScript (.tup [.bl true, .tup (List.replicate 5 [D.tup [.str "write", .tup [.str "a", .str "b"], .str "abcdefgh"]]).flatten]) = true := by decide +kernel
      have p5 : (D.tup [.bl true, .tup (List.replicate 5 [D.tup [.str "write", .tup [.str "a", .str "b"], .str "abcdefgh"]]).flatten]).pl = true := by decide +kernel
      have s6 : isScript (.tup [.bl true, .tup (List.replicate 6 [D.tup [.str "write", .tup [.str "a", .str "b"], .str "abcdefgh"]]).flatten]) = false := by decide +kernel
      have p6 : (D.tup [.bl true, .tup (List.replicate 6 [D.tup [.str "write", .tup [.str "a", .str "b"], .str "abcdefgh"]]).flatten]).pl = true := by decide +kernel
      have c9 : isCommand (.tup [.str "write", .tup [.str "a", .str "b"], .str "abcdefghi"]) = false := by decide +kernel
      have q9 : (D.tup [.str "write", .tup [.str "a", .str "b"], .str "abcdefghi"]).pl = true := by decide +kernel
      have cc : isCommand (.tup [.str "copy", .tup [.str "never", .str "new", .str "tree"], .tup [.str "a"], .tup [.str "a"]]) = true := by decide +kernel
      have qc : (D.tup [.str "copy", .tup [.str "never", .str "new", .str "tree"], .tup [.str "a"], .tup [.str "a"]]).pl = true := by decide +kernel
      have e5 := is_script_ok (m := 69) (by omega) p5 (s := s)
      have e6 := is_script_ok (m := 69) (by omega) p6 (s := s)
      have e9 := is_command_ok (m := 69) (by omega) q9 (s := s)
      have ec := is_command_ok (m := 69) (by omega) qc (s := s)
      rw [s5] at e5
      rw [s6] at e6
      rw [c9] at e9
      rw [cc] at ec
      simp only [List.replicate, List.flatten_cons, List.flatten_nil, List.append_nil, List.singleton_append, List.cons_append, List.nil_append] at e5 e6
      rw [execs_cons]
      simp [e5, e6, e9, ec, List.replicate]
      rfl
  obtain ⟨v, S, e, hv⟩ := key.ex
  have hv : v = .bl true := hv
  subst hv
  exact ⟨S, e⟩
end Mp
set_option Elab.async false
set_option linter.all false
set_option maxRecDepth 100000
set_option maxHeartbeats 4000000
/-! the text of the law; printed by gen2.py -/
namespace Mp
open PySem PySem.Spec PySem.W PySem.Calls PyProof.Rows
def topS (i : Nat) : Stmt := PySem.Challenge.pw_intoorover_k01_values_recognized.main.body.getD i (.Pass ⟨0, 0, 0, 0⟩)
def sysD : List (Nat × DefT) := [
  (0, ⟨"is_name", topS 7, ["value", "sign"], ["value"]⟩),
  (1, ⟨"is_node", topS 8, ["value", "pair", "one", "other"], ["value"]⟩),
  (2, ⟨"is_path", topS 9, ["value", "name"], ["value"]⟩),
  (3, ⟨"is_folder", topS 10, ["value"], ["value"]⟩),
  (4, ⟨"need_tree", topS 11, ["value"], ["value"]⟩),
  (5, ⟨"all_nodes", topS 12, ["tree", "found", "name", "node"], ["tree"]⟩),
  (6, ⟨"all_files", topS 13, ["tree", "path", "found", "name", "node", "longer"], ["tree", "path"]⟩),
  (7, ⟨"inner_node", topS 14, ["tree", "path", "node", "name", "some", "word", "inner"], ["tree", "path"]⟩),
  (8, ⟨"is_tree", topS 15, ["value"], ["value"]⟩),
  (9, ⟨"count_nodes", topS 16, ["tree"], ["tree"]⟩),
  (10, ⟨"files", topS 17, ["tree"], ["tree"]⟩),
  (11, ⟨"at_path", topS 18, ["tree", "path"], ["tree", "path"]⟩),
  (12, ⟨"are_marks", topS 22, ["word", "value", "mark"], ["word", "value"]⟩),
  (13, ⟨"is_good_command", topS 23, ["value", "word", "path"], ["value"]⟩),
  (14, ⟨"is_good_script", topS 24, ["value", "command"], ["value"]⟩),
  (15, ⟨"need_script", topS 25, ["value"], ["value"]⟩),
  (16, ⟨"paths_of", topS 26, ["command"], ["command"]⟩),
  (17, ⟨"names_of", topS 27, ["script", "found", "command", "path"], ["script"]⟩),
  (18, ⟨"is_command", topS 28, ["value"], ["value"]⟩),
  (19, ⟨"is_script", topS 29, ["value"], ["value"]⟩),
  (20, ⟨"words", topS 30, ["script", "command"], ["script"]⟩),
  (21, ⟨"names_in", topS 31, ["script"], ["script"]⟩),
  (22, ⟨"_law_source", topS 33, ["_law_script_here", "_law_k", "_law_cell"], ["_law_script_here", "_law_k"]⟩),
  (23, ⟨"_law_draw", topS 34, ["_law_source_here", "_law_many", "_law_found"], ["_law_source_here", "_law_many"]⟩),
  (24, ⟨"_law_of", topS 35, ["_law_source_here", "_law_items"], ["_law_source_here", "_law_items"]⟩),
  (25, ⟨"_law_path", topS 36, ["_law_source_here", "_law_name"], ["_law_source_here"]⟩),
  (26, ⟨"_law_marks", topS 37, ["_law_source_here", "_law_some", "_law_mark"], ["_law_source_here", "_law_some"]⟩),
  (27, ⟨"_law_command", topS 38, ["_law_source_here", "_law_way", "_law_path_here", "_law_marks_here"], ["_law_source_here"]⟩),
  (28, ⟨"_law_script", topS 39, ["_law_source_here", "_law_most", "_law_stops", "_law_way", "_law_found", "_law_turn"], ["_law_source_here", "_law_most"]⟩),
  (29, ⟨"_law_folder", topS 40, ["_law_source_here", "_law_deep", "_law_left", "_law_found", "_law_name"], ["_law_source_here", "_law_deep", "_law_left"]⟩),
  (30, ⟨"_law_tree", topS 41, ["_law_source_here"], ["_law_source_here"]⟩),
  (31, ⟨"_law_names", topS 42, ["_law_scripts", "_law_found", "_law_script_here", "_law_command_here", "_law_path_here", "_law_name"], ["_law_scripts"]⟩),
  (32, ⟨"_law_is_name", topS 43, ["_law_value", "_law_sign"], ["_law_value"]⟩),
  (33, ⟨"_law_is_node", topS 44, ["_law_value", "_law_folder_here", "_law_pair", "_law_names_here"], ["_law_value", "_law_folder_here"]⟩),
  (34, ⟨"_law_is_path", topS 45, ["_law_value", "_law_name"], ["_law_value"]⟩),
  (35, ⟨"_law_is_command", topS 46, ["_law_value", "_law_some", "_law_mark", "_law_path_here"], ["_law_value"]⟩),
  (36, ⟨"_law_is_script", topS 47, ["_law_value", "_law_command_here"], ["_law_value"]⟩),
  (37, ⟨"_law_odd", topS 48, ["_law_source_here", "_law_items"], ["_law_source_here"]⟩),
  (38, ⟨"_law_spoilt", topS 49, ["_law_source_here", "_law_value", "_law_at", "_law_way"], ["_law_source_here", "_law_value"]⟩),
  (39, ⟨"_law_listed", topS 50, ["_law_tree_here", "_law_names_here", "_law_found", "_law_name", "_law_node"], ["_law_tree_here", "_law_names_here"]⟩),
  (40, ⟨"law", topS 51, ["_law_script_here", "_law_k", "_law_put", "_law_source_here", "_law_tree_here", "_law_some", "_law_rows", "_law_turn", "_law_value", "_law_path_here", "_law_row", "_law_command_here"], ["_law_script_here"]⟩)]
def sysG : List (Str × D) := [("LETTERS", (.str "abcdefghijklmnopqrstuvwxyz")), ("MARKS", (.dic [.text "move", .text "copy", .text "make", .text "remove"] [(.tup [(.str "never"), (.str "new")]), (.tup [(.str "never"), (.str "new"), (.str "tree")]), (.tup [(.str "parents")]), (.tup [(.str "quiet"), (.str "tree")])])), ("MOST", (.int 5))]
def sysY : Sys := ⟨tab, sysD, sysG⟩
theorem ok_p_is_name : defOk sysY (sysD.getD 0 default).2 p_is_name = true := by decide +kernel
theorem bi_p_is_name : BindOk (sysD.getD 0 default).2 := fun _ _ _ _ _ _ us hl => match us, hl with | [_], _ => rfl
theorem ok_p_is_node : defOk sysY (sysD.getD 1 default).2 p_is_node = true := by decide +kernel
theorem bi_p_is_node : BindOk (sysD.getD 1 default).2 := fun _ _ _ _ _ _ us hl => match us, hl with | [_], _ => rfl
theorem ok_p_is_path : defOk sysY (sysD.getD 2 default).2 p_is_path = true := by decide +kernel
theorem bi_p_is_path : BindOk (sysD.getD 2 default).2 := fun _ _ _ _ _ _ us hl => match us, hl with | [_], _ => rfl
theorem ok_p_is_folder : defOk sysY (sysD.getD 3 default).2 p_is_folder = true := by decide +kernel
theorem bi_p_is_folder : BindOk (sysD.getD 3 default).2 := fun _ _ _ _ _ _ us hl => match us, hl with | [_], _ => rfl
theorem ok_p_need_tree : defOk sysY (sysD.getD 4 default).2 p_need_tree = true := by decide +kernel
theorem bi_p_need_tree : BindOk (sysD.getD 4 default).2 := fun _ _ _ _ _ _ us hl => match us, hl with | [_], _ => rfl
theorem ok_p_all_nodes : defOk sysY (sysD.getD 5 default).2 p_all_nodes = true := by decide +kernel
theorem bi_p_all_nodes : BindOk (sysD.getD 5 default).2 := fun _ _ _ _ _ _ us hl => match us, hl with | [_], _ => rfl
theorem ok_p_all_files : defOk sysY (sysD.getD 6 default).2 p_all_files = true := by decide +kernel
theorem bi_p_all_files : BindOk (sysD.getD 6 default).2 := fun _ _ _ _ _ _ us hl => match us, hl with | [_, _], _ => rfl
theorem ok_p_inner_node : defOk sysY (sysD.getD 7 default).2 p_inner_node = true := by decide +kernel
theorem bi_p_inner_node : BindOk (sysD.getD 7 default).2 := fun _ _ _ _ _ _ us hl => match us, hl with | [_, _], _ => rfl
theorem ok_p_is_tree : defOk sysY (sysD.getD 8 default).2 p_is_tree = true := by decide +kernel
theorem bi_p_is_tree : BindOk (sysD.getD 8 default).2 := fun _ _ _ _ _ _ us hl => match us, hl with | [_], _ => rfl
theorem ok_p_count_nodes : defOk sysY (sysD.getD 9 default).2 p_count_nodes = true := by decide +kernel
theorem bi_p_count_nodes : BindOk (sysD.getD 9 default).2 := fun _ _ _ _ _ _ us hl => match us, hl with | [_], _ => rfl
theorem ok_p_files : defOk sysY (sysD.getD 10 default).2 p_files = true := by decide +kernel
theorem bi_p_files : BindOk (sysD.getD 10 default).2 := fun _ _ _ _ _ _ us hl => match us, hl with | [_], _ => rfl
theorem ok_p_at_path : defOk sysY (sysD.getD 11 default).2 p_at_path = true := by decide +kernel
theorem bi_p_at_path : BindOk (sysD.getD 11 default).2 := fun _ _ _ _ _ _ us hl => match us, hl with | [_, _], _ => rfl
theorem ok_p_are_marks : defOk sysY (sysD.getD 12 default).2 p_are_marks = true := by decide +kernel
theorem bi_p_are_marks : BindOk (sysD.getD 12 default).2 := fun _ _ _ _ _ _ us hl => match us, hl with | [_, _], _ => rfl
theorem ok_p_is_good_command : defOk sysY (sysD.getD 13 default).2 p_is_good_command = true := by decide +kernel
theorem bi_p_is_good_command : BindOk (sysD.getD 13 default).2 := fun _ _ _ _ _ _ us hl => match us, hl with | [_], _ => rfl
theorem ok_p_is_good_script : defOk sysY (sysD.getD 14 default).2 p_is_good_script = true := by decide +kernel
theorem bi_p_is_good_script : BindOk (sysD.getD 14 default).2 := fun _ _ _ _ _ _ us hl => match us, hl with | [_], _ => rfl
theorem ok_p_need_script : defOk sysY (sysD.getD 15 default).2 p_need_script = true := by decide +kernel
theorem bi_p_need_script : BindOk (sysD.getD 15 default).2 := fun _ _ _ _ _ _ us hl => match us, hl with | [_], _ => rfl
theorem ok_p_paths_of : defOk sysY (sysD.getD 16 default).2 p_paths_of = true := by decide +kernel
theorem bi_p_paths_of : BindOk (sysD.getD 16 default).2 := fun _ _ _ _ _ _ us hl => match us, hl with | [_], _ => rfl
theorem ok_p_names_of : defOk sysY (sysD.getD 17 default).2 p_names_of = true := by decide +kernel
theorem bi_p_names_of : BindOk (sysD.getD 17 default).2 := fun _ _ _ _ _ _ us hl => match us, hl with | [_], _ => rfl
theorem ok_p_is_command : defOk sysY (sysD.getD 18 default).2 p_is_command = true := by decide +kernel
theorem bi_p_is_command : BindOk (sysD.getD 18 default).2 := fun _ _ _ _ _ _ us hl => match us, hl with | [_], _ => rfl
theorem ok_p_is_script : defOk sysY (sysD.getD 19 default).2 p_is_script = true := by decide +kernel
theorem bi_p_is_script : BindOk (sysD.getD 19 default).2 := fun _ _ _ _ _ _ us hl => match us, hl with | [_], _ => rfl
theorem ok_p_words : defOk sysY (sysD.getD 20 default).2 p_words = true := by decide +kernel
theorem bi_p_words : BindOk (sysD.getD 20 default).2 := fun _ _ _ _ _ _ us hl => match us, hl with | [_], _ => rfl
theorem ok_p_names_in : defOk sysY (sysD.getD 21 default).2 p_names_in = true := by decide +kernel
theorem bi_p_names_in : BindOk (sysD.getD 21 default).2 := fun _ _ _ _ _ _ us hl => match us, hl with | [_], _ => rfl
theorem ok_L_source : defOk sysY (sysD.getD 22 default).2 L_source = true := by decide +kernel
theorem bi_L_source : BindOk (sysD.getD 22 default).2 := fun _ _ _ _ _ _ us hl => match us, hl with | [_, _], _ => rfl
theorem ok_L_draw : defOk sysY (sysD.getD 23 default).2 L_draw = true := by decide +kernel
theorem bi_L_draw : BindOk (sysD.getD 23 default).2 := fun _ _ _ _ _ _ us hl => match us, hl with | [_, _], _ => rfl
theorem ok_L_of : defOk sysY (sysD.getD 24 default).2 L_of = true := by decide +kernel
theorem bi_L_of : BindOk (sysD.getD 24 default).2 := fun _ _ _ _ _ _ us hl => match us, hl with | [_, _], _ => rfl
theorem ok_L_path : defOk sysY (sysD.getD 25 default).2 L_path = true := by decide +kernel
theorem bi_L_path : BindOk (sysD.getD 25 default).2 := fun _ _ _ _ _ _ us hl => match us, hl with | [_], _ => rfl
theorem ok_L_marks : defOk sysY (sysD.getD 26 default).2 L_marks = true := by decide +kernel
theorem bi_L_marks : BindOk (sysD.getD 26 default).2 := fun _ _ _ _ _ _ us hl => match us, hl with | [_, _], _ => rfl
theorem ok_L_command : defOk sysY (sysD.getD 27 default).2 L_command = true := by decide +kernel
theorem bi_L_command : BindOk (sysD.getD 27 default).2 := fun _ _ _ _ _ _ us hl => match us, hl with | [_], _ => rfl
theorem ok_L_script : defOk sysY (sysD.getD 28 default).2 L_script = true := by decide +kernel
theorem bi_L_script : BindOk (sysD.getD 28 default).2 := fun _ _ _ _ _ _ us hl => match us, hl with | [_, _], _ => rfl
theorem ok_L_folder : defOk sysY (sysD.getD 29 default).2 L_folder = true := by decide +kernel
theorem bi_L_folder : BindOk (sysD.getD 29 default).2 := fun _ _ _ _ _ _ us hl => match us, hl with | [_, _, _], _ => rfl
theorem ok_L_tree : defOk sysY (sysD.getD 30 default).2 L_tree = true := by decide +kernel
theorem bi_L_tree : BindOk (sysD.getD 30 default).2 := fun _ _ _ _ _ _ us hl => match us, hl with | [_], _ => rfl
theorem ok_L_names : defOk sysY (sysD.getD 31 default).2 L_names = true := by decide +kernel
theorem bi_L_names : BindOk (sysD.getD 31 default).2 := fun _ _ _ _ _ _ us hl => match us, hl with | [_], _ => rfl
theorem ok_L_is_name : defOk sysY (sysD.getD 32 default).2 L_is_name = true := by decide +kernel
theorem bi_L_is_name : BindOk (sysD.getD 32 default).2 := fun _ _ _ _ _ _ us hl => match us, hl with | [_], _ => rfl
theorem ok_L_is_node : defOk sysY (sysD.getD 33 default).2 L_is_node = true := by decide +kernel
theorem bi_L_is_node : BindOk (sysD.getD 33 default).2 := fun _ _ _ _ _ _ us hl => match us, hl with | [_, _], _ => rfl
theorem ok_L_is_path : defOk sysY (sysD.getD 34 default).2 L_is_path = true := by decide +kernel
theorem bi_L_is_path : BindOk (sysD.getD 34 default).2 := fun _ _ _ _ _ _ us hl => match us, hl with | [_], _ => rfl
theorem ok_L_is_command : defOk sysY (sysD.getD 35 default).2 L_is_command = true := by decide +kernel
theorem bi_L_is_command : BindOk (sysD.getD 35 default).2 := fun _ _ _ _ _ _ us hl => match us, hl with | [_], _ => rfl
theorem ok_L_is_script : defOk sysY (sysD.getD 36 default).2 L_is_script = true := by decide +kernel
theorem bi_L_is_script : BindOk (sysD.getD 36 default).2 := fun _ _ _ _ _ _ us hl => match us, hl with | [_], _ => rfl
theorem ok_L_odd : defOk sysY (sysD.getD 37 default).2 L_odd = true := by decide +kernel
theorem bi_L_odd : BindOk (sysD.getD 37 default).2 := fun _ _ _ _ _ _ us hl => match us, hl with | [_], _ => rfl
theorem ok_L_spoilt : defOk sysY (sysD.getD 38 default).2 L_spoilt = true := by decide +kernel
theorem bi_L_spoilt : BindOk (sysD.getD 38 default).2 := fun _ _ _ _ _ _ us hl => match us, hl with | [_, _], _ => rfl
theorem ok_L_listed : defOk sysY (sysD.getD 39 default).2 L_listed = true := by decide +kernel
theorem bi_L_listed : BindOk (sysD.getD 39 default).2 := fun _ _ _ _ _ _ us hl => match us, hl with | [_, _], _ => rfl
theorem ok_L_law : defOk sysY (sysD.getD 40 default).2 L_law = true := by decide +kernel
theorem bi_L_law : BindOk (sysD.getD 40 default).2 := fun _ _ _ _ _ _ us hl => match us, hl with | [_], _ => rfl
theorem bi_all : ∀ p ∈ sysY.ds, BindOk p.2 := by
  show ∀ p ∈ sysD, BindOk p.2
  unfold sysD
  exact List.forall_mem_cons.mpr ⟨bi_p_is_name, List.forall_mem_cons.mpr ⟨bi_p_is_node, List.forall_mem_cons.mpr ⟨bi_p_is_path, List.forall_mem_cons.mpr ⟨bi_p_is_folder, List.forall_mem_cons.mpr ⟨bi_p_need_tree, List.forall_mem_cons.mpr ⟨bi_p_all_nodes, List.forall_mem_cons.mpr ⟨bi_p_all_files, List.forall_mem_cons.mpr ⟨bi_p_inner_node, List.forall_mem_cons.mpr ⟨bi_p_is_tree, List.forall_mem_cons.mpr ⟨bi_p_count_nodes, List.forall_mem_cons.mpr ⟨bi_p_files, List.forall_mem_cons.mpr ⟨bi_p_at_path, List.forall_mem_cons.mpr ⟨bi_p_are_marks, List.forall_mem_cons.mpr ⟨bi_p_is_good_command, List.forall_mem_cons.mpr ⟨bi_p_is_good_script, List.forall_mem_cons.mpr ⟨bi_p_need_script, List.forall_mem_cons.mpr ⟨bi_p_paths_of, List.forall_mem_cons.mpr ⟨bi_p_names_of, List.forall_mem_cons.mpr ⟨bi_p_is_command, List.forall_mem_cons.mpr ⟨bi_p_is_script, List.forall_mem_cons.mpr ⟨bi_p_words, List.forall_mem_cons.mpr ⟨bi_p_names_in, List.forall_mem_cons.mpr ⟨bi_L_source, List.forall_mem_cons.mpr ⟨bi_L_draw, List.forall_mem_cons.mpr ⟨bi_L_of, List.forall_mem_cons.mpr ⟨bi_L_path, List.forall_mem_cons.mpr ⟨bi_L_marks, List.forall_mem_cons.mpr ⟨bi_L_command, List.forall_mem_cons.mpr ⟨bi_L_script, List.forall_mem_cons.mpr ⟨bi_L_folder, List.forall_mem_cons.mpr ⟨bi_L_tree, List.forall_mem_cons.mpr ⟨bi_L_names, List.forall_mem_cons.mpr ⟨bi_L_is_name, List.forall_mem_cons.mpr ⟨bi_L_is_node, List.forall_mem_cons.mpr ⟨bi_L_is_path, List.forall_mem_cons.mpr ⟨bi_L_is_command, List.forall_mem_cons.mpr ⟨bi_L_is_script, List.forall_mem_cons.mpr ⟨bi_L_odd, List.forall_mem_cons.mpr ⟨bi_L_spoilt, List.forall_mem_cons.mpr ⟨bi_L_listed, List.forall_mem_cons.mpr ⟨bi_L_law, fun _ h => nomatch h⟩⟩⟩⟩⟩⟩⟩⟩⟩⟩⟩⟩⟩⟩⟩⟩⟩⟩⟩⟩⟩⟩⟩⟩⟩⟩⟩⟩⟩⟩⟩⟩⟩⟩⟩⟩⟩⟩⟩⟩⟩
theorem oks_all : ∀ p ∈ sysD, ∃ f, tab[p.1]? = some f ∧ defOk sysY p.2 f = true := by
  unfold sysD
  exact List.forall_mem_cons.mpr ⟨⟨p_is_name, rfl, ok_p_is_name⟩, List.forall_mem_cons.mpr ⟨⟨p_is_node, rfl, ok_p_is_node⟩, List.forall_mem_cons.mpr ⟨⟨p_is_path, rfl, ok_p_is_path⟩, List.forall_mem_cons.mpr ⟨⟨p_is_folder, rfl, ok_p_is_folder⟩, List.forall_mem_cons.mpr ⟨⟨p_need_tree, rfl, ok_p_need_tree⟩, List.forall_mem_cons.mpr ⟨⟨p_all_nodes, rfl, ok_p_all_nodes⟩, List.forall_mem_cons.mpr ⟨⟨p_all_files, rfl, ok_p_all_files⟩, List.forall_mem_cons.mpr ⟨⟨p_inner_node, rfl, ok_p_inner_node⟩, List.forall_mem_cons.mpr ⟨⟨p_is_tree, rfl, ok_p_is_tree⟩, List.forall_mem_cons.mpr ⟨⟨p_count_nodes, rfl, ok_p_count_nodes⟩, List.forall_mem_cons.mpr ⟨⟨p_files, rfl, ok_p_files⟩, List.forall_mem_cons.mpr ⟨⟨p_at_path, rfl, ok_p_at_path⟩, List.forall_mem_cons.mpr ⟨⟨p_are_marks, rfl, ok_p_are_marks⟩, List.forall_mem_cons.mpr ⟨⟨p_is_good_command, rfl, ok_p_is_good_command⟩, List.forall_mem_cons.mpr ⟨⟨p_is_good_script, rfl, ok_p_is_good_script⟩, List.forall_mem_cons.mpr ⟨⟨p_need_script, rfl, ok_p_need_script⟩, List.forall_mem_cons.mpr ⟨⟨p_paths_of, rfl, ok_p_paths_of⟩, List.forall_mem_cons.mpr ⟨⟨p_names_of, rfl, ok_p_names_of⟩, List.forall_mem_cons.mpr ⟨⟨p_is_command, rfl, ok_p_is_command⟩, List.forall_mem_cons.mpr ⟨⟨p_is_script, rfl, ok_p_is_script⟩, List.forall_mem_cons.mpr ⟨⟨p_words, rfl, ok_p_words⟩, List.forall_mem_cons.mpr ⟨⟨p_names_in, rfl, ok_p_names_in⟩, List.forall_mem_cons.mpr ⟨⟨L_source, rfl, ok_L_source⟩, List.forall_mem_cons.mpr ⟨⟨L_draw, rfl, ok_L_draw⟩, List.forall_mem_cons.mpr ⟨⟨L_of, rfl, ok_L_of⟩, List.forall_mem_cons.mpr ⟨⟨L_path, rfl, ok_L_path⟩, List.forall_mem_cons.mpr ⟨⟨L_marks, rfl, ok_L_marks⟩, List.forall_mem_cons.mpr ⟨⟨L_command, rfl, ok_L_command⟩, List.forall_mem_cons.mpr ⟨⟨L_script, rfl, ok_L_script⟩, List.forall_mem_cons.mpr ⟨⟨L_folder, rfl, ok_L_folder⟩, List.forall_mem_cons.mpr ⟨⟨L_tree, rfl, ok_L_tree⟩, List.forall_mem_cons.mpr ⟨⟨L_names, rfl, ok_L_names⟩, List.forall_mem_cons.mpr ⟨⟨L_is_name, rfl, ok_L_is_name⟩, List.forall_mem_cons.mpr ⟨⟨L_is_node, rfl, ok_L_is_node⟩, List.forall_mem_cons.mpr ⟨⟨L_is_path, rfl, ok_L_is_path⟩, List.forall_mem_cons.mpr ⟨⟨L_is_command, rfl, ok_L_is_command⟩, List.forall_mem_cons.mpr ⟨⟨L_is_script, rfl, ok_L_is_script⟩, List.forall_mem_cons.mpr ⟨⟨L_odd, rfl, ok_L_odd⟩, List.forall_mem_cons.mpr ⟨⟨L_spoilt, rfl, ok_L_spoilt⟩, List.forall_mem_cons.mpr ⟨⟨L_listed, rfl, ok_L_listed⟩, List.forall_mem_cons.mpr ⟨⟨L_law, rfl, ok_L_law⟩, fun _ h => nomatch h⟩⟩⟩⟩⟩⟩⟩⟩⟩⟩⟩⟩⟩⟩⟩⟩⟩⟩⟩⟩⟩⟩⟩⟩⟩⟩⟩⟩⟩⟩⟩⟩⟩⟩⟩⟩⟩⟩⟩⟩⟩
theorem gl_all : ∀ p ∈ sysY.glb, glOk p.2 = true := by decide +kernel
def loose0 : List PySem.Str := ["ShellError", "InvalidScript", "InvalidTree", "InvalidPath", "LETTERS", "is_name", "is_node", "is_path", "is_folder", "need_tree", "all_nodes", "all_files", "inner_node", "is_tree", "count_nodes", "files", "at_path", "MARKS", "MOST", "are_marks", "is_good_command", "is_good_script", "need_script", "paths_of", "names_of", "is_command", "is_script", "words", "names_in", "_law_source"]
def loose1 : List PySem.Str := ["_law_draw", "_law_of", "_law_path", "_law_marks", "_law_command", "_law_script", "_law_folder", "_law_tree", "_law_names", "_law_is_name", "_law_is_node", "_law_is_path", "_law_is_command", "_law_is_script", "_law_odd", "_law_spoilt", "_law_listed"]
abbrev looseN : List PySem.Str := loose0 ++ loose1
abbrev Rw : W.OpenRow := W.OpenLaw.row PySem.Challenge.rw_intoorover_k01_values_recognized
abbrev hkL : W.Hook := hookM 6 (faOf sysY) (fnOf sysY) sysY.glb
def obL (s : W.SharedT) : AlM := obsMG 6 (faOf sysY) (fnOf sysY) sysY.glb (HandSHeadRun.getT s)
theorem obL_eq (s : W.SharedT) : obL s = hkL.obs s.abs := obsMG_eq (HandSHeadRun.getT_eq s)
set_option maxHeartbeats 0 in
theorem runL0 (w : World) : HandSHeadRun.RunEq Rw (W.view Rw.prog [51]) hkL obL 6000 looseN (w.withFollow "special-get-raises" false) := by
  intro os
  kernel_rfl
set_option maxHeartbeats 0 in
theorem runL1 (w : World) : HandSHeadRun.RunEq Rw (W.view Rw.prog [51]) hkL obL 6000 looseN (w.withFollow "special-get-raises" true) := by
  intro os
  kernel_rfl
theorem runL (w : World) : HandSHeadRun.RunEq Rw (W.view Rw.prog [51]) hkL obL 6000 looseN w := byRow2 "special-get-raises" runL0 runL1 w
abbrev lawJ : Nat := 40
theorem law_holds (hl : ∀ ns : List Int, ns.length ≤ 63 → ∃ S, callN tab 70 40 [.cel (ns.map D.int)] [] = .ok (.bl true) S) : PySem.Challenge.rw_intoorover_k01_values_recognized.Holds := by
  w_on; o_law
  refine HandSHeadRun.head_any (r := Rw) (q := W.view Rw.prog [51]) (H := hkL) (ob := obL) (M := 6000) (loose := looseN) (d := HandSHeadRun.topDef Rw.prog 51) (kwd := []) obL_eq
    (by kernel_rfl) (fun s => by kernel_rfl) runL (by kernel_rfl) (by kernel_rfl) (by kernel_rfl) (by rfl) (by first | assumption | decide +kernel) (by decide +kernel) ⟨rfl, rfl, rfl, rfl, rfl, by decide +kernel⟩ ?hw ?hc
  case hw => w_witness2
  case hc => exact law_walk (l := PySem.Challenge.rw_intoorover_k01_values_recognized) sysY 40 (sysD.getD 40 default).2 "_law_script_here" rfl (by kernel_rfl) (List.getElem_mem (l := sysD) (n := 40) (by decide)) rfl (by kernel_rfl) (by decide) bi_all (fun i d h => oks_all (i, d) h) gl_all hl
end Mp
open PySem PySem.W PySem.Calls PyProof.Rows
set_option maxRecDepth 100000 in
set_option maxHeartbeats 0 in
theorem PySem.Challenge.cw_intoorover_k01_values_recognized_holds : PySem.Challenge.rw_intoorover_k01_values_recognized.Holds := by
  exact Mp.law_holds Mp.k01_ok
