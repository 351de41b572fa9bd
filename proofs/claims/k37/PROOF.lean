import PyProof.Rows.All
import Wide.All
import OpenK.AllK
import Wide.FinOn
import KE.KStateDown
import Lean
import PyProof.ReprRoads
import HandS.ForMost
import HandS.Flow
import HandS.IsInst
import HandS.Conv
import HandS.Wide
import HandS.Deep
import HandS.Exc
import HandS.ExcOwn
import HandS.TryOnly
import HandS.TryMany
import HandS.Defaults
import HandS.Zip
import HandS.TupAny
import HandS.RaiseMore
import HandS.TupMul
import HandS.Flt
import HandS.WordsDict
import KE.GoesMore
import KE.GoesEnum
import HandS.Style
import HandS.HeadHook1
import HandS.HeadHook2
import HandS.HeadHook3
import HandS.HeadHook4
import HandS.HeadEnd
import HandS.Head0
import HandS.Head1
import HandS.Head2
import HandS.SortRule
import HandS.SetKeys
import PyProof.FitsInt
import PyProof.ReprLen
import KE.KEqDeep
import PySem.Challenge.RW_lanternserver_k37_whole_rows_in_any_orde
set_option Elab.async false
set_option linter.all false
set_option maxRecDepth 100000
set_option maxHeartbeats 4000000
/-! The small machine: plain data, a store of things that change, and what each construct makes of them. -/
namespace Mn
open PySem PySem.Spec PyProof.Rows L2

/-- plain data; ref n: the n-th thing of the store; scr: the script -/
inductive D where
  | non | bl (b : Bool) | int (i : Int) | str (x : Str) | tup (ds : List D) | lst (ds : List D) | ref (n : Nat) | scr (ds : List D)
/-- a thing of the store -/
inductive O where
  | lst (ds : List D) | dct (kvs : List (Key × D))
abbrev Store := List O
abbrev Env := List (Option D)
inductive Res (α : Type) where
  | ok (a : α) (st : Store) | exc (c : Str) (st : Store) | bad
def bnd {α β : Type} (r : Res α) (k : α → Store → Res β) : Res β :=
  match r with
  | .ok a st => k a st
  | .exc c st => .exc c st
  | .bad => .bad
@[simp] theorem bnd_ok {α β : Type} (a : α) (st : Store) (k : α → Store → Res β) : bnd (.ok a st) k = k a st := rfl
@[simp] theorem bnd_exc {α β : Type} (c : Str) (st : Store) (k : α → Store → Res β) : bnd (.exc c st) k = .exc c st := rfl
@[simp] theorem bnd_bad {α β : Type} (k : α → Store → Res β) : bnd .bad k = .bad := rfl
def ofO {α : Type} (o : Option α) (st : Store) : Res α :=
  match o with
  | some a => .ok a st
  | none => .bad
@[simp] theorem ofO_some {α : Type} (a : α) (st : Store) : ofO (some a) st = .ok a st := rfl
@[simp] theorem ofO_none {α : Type} (st : Store) : ofO (none : Option α) st = .bad := rfl
abbrev E := Env → Store → Res D

/-! ### data as the library has it -/
mutual
def D.py0 : D → Option PyData
  | .non => some .none
  | .bl b => some (.bool b)
  | .int i => some (.int i)
  | .str x => some (.str x)
  | .tup ds => (D.pys0 ds).map .tuple
  | .lst ds => (D.pys0 ds).map .list
  | .ref _ => none
  | .scr _ => none
def D.pys0 : List D → Option (List PyData)
  | [] => some []
  | d :: ds => (D.py0 d).bind fun x => (D.pys0 ds).map fun xs => x :: xs
end
mutual
def D.py (st : Store) : D → Option PyData
  | .non => some .none
  | .bl b => some (.bool b)
  | .int i => some (.int i)
  | .str x => some (.str x)
  | .tup ds => (D.pys st ds).map .tuple
  | .lst ds => (D.pys st ds).map .list
  | .ref n => match st[n]? with
    | some (.lst ds) => (D.pys0 ds).map .list
    | _ => none
  | .scr _ => none
def D.pys (st : Store) : List D → Option (List PyData)
  | [] => some []
  | d :: ds => (D.py st d).bind fun x => (D.pys st ds).map fun xs => x :: xs
end
/-- the items of a list, a tuple -/
def items? (st : Store) : D → Option (List D)
  | .tup ds => some ds
  | .lst ds => some ds
  | .scr ds => some ds
  | .ref n => match st[n]? with
    | some (.lst ds) => some ds
    | _ => none
  | _ => none
def sz : Nat := 16000000
def truth (st : Store) : D → Option Bool
  | .non => some false
  | .bl b => some b
  | .int i => some (i != 0)
  | .str x => if x.length ≤ sz then some ((x.length : Int) != 0) else none
  | .tup ds => some (!ds.isEmpty)
  | .lst ds => some (!ds.isEmpty)
  | .ref n => match st[n]? with
    | some (.lst ds) => some (!ds.isEmpty)
    | some (.dct kvs) => some (!kvs.isEmpty)
    | none => none
  | .scr ds => some (!ds.isEmpty)

/-! ### expressions -/
def eVar (i : Nat) : E := fun σ st => match σ[i]? with
  | some (some d) => .ok d st
  | _ => .bad
def eC (d : D) : E := fun _ st => .ok d st
def eBad : E := fun _ _ => .bad
def eUn (f : Store → D → Option D) (a : E) : E := fun σ st => bnd (a σ st) fun x s1 => ofO (f s1 x) s1
def eOp (f : Store → D → D → Option D) (a b : E) : E := fun σ st => bnd (a σ st) fun x s1 => bnd (b σ s1) fun y s2 => ofO (f s2 x y) s2
def eAnd (a b : E) : E := fun σ st => bnd (a σ st) fun x s1 => match truth s1 x with
  | some true => b σ s1
  | some false => .ok x s1
  | none => .bad
def eOr (a b : E) : E := fun σ st => bnd (a σ st) fun x s1 => match truth s1 x with
  | some true => .ok x s1
  | some false => b σ s1
  | none => .bad
def eNot (a : E) : E := fun σ st => bnd (a σ st) fun x s1 => match truth s1 x with
  | some b => .ok (.bl (!b)) s1
  | none => .bad
def eIf (c a b : E) : E := fun σ st => bnd (c σ st) fun x s1 => match truth s1 x with
  | some true => a σ s1
  | some false => b σ s1
  | none => .bad
/-- a op b op' c -/
def eChain (f g : Store → D → D → Option D) (a b c : E) : E := fun σ st => bnd (a σ st) fun x s1 => bnd (b σ s1) fun y s2 => match f s2 x y with
  | some (.bl true) => bnd (c σ s2) fun z s3 => ofO (g s3 y z) s3
  | some (.bl false) => .ok (.bl false) s2
  | _ => .bad
def evL : List E → Env → Store → Res (List D)
  | [], _, st => .ok [] st
  | e :: es, σ, st => bnd (e σ st) fun d s1 => bnd (evL es σ s1) fun ds s2 => .ok (d :: ds) s2
def eTup (es : List E) : E := fun σ st => bnd (evL es σ st) fun ds s1 => if ds.length ≤ sz then .ok (.tup ds) s1 else .bad
def eLst (es : List E) : E := fun σ st => bnd (evL es σ st) fun ds s1 => if ds.length ≤ sz then .ok (.lst ds) s1 else .bad
/-- a list that changes later on -/
def eLstR (es : List E) : E := fun σ st => bnd (evL es σ st) fun ds s1 => if ds.length ≤ sz then .ok (.ref s1.length) (s1 ++ [.lst ds]) else .bad
/-- a call of something that only reads -/
def eCall (f : Store → List D → Option D) (es : List E) : E := fun σ st => bnd (evL es σ st) fun ds s1 => ofO (f s1 ds) s1
/-- l.append(e) -/
def eApp (o e : E) : E := fun σ st => bnd (o σ st) fun x s1 => match x with
  | .ref n => match s1[n]? with
    | some (.lst _) => bnd (e σ s1) fun d s2 => match s2[n]? with
      | some (.lst ds) => if ds.length < sz then .ok .non (s2.set n (.lst (ds ++ [d]))) else .bad
      | _ => .bad
    | _ => .bad
  | _ => .bad
/-- {} -/
def eDict0 : E := fun _ st => .ok (.ref st.length) (st ++ [.dct []])
def keyD : D → Option Key
  | .int i => some (Sum.inl i)
  | .str k => some (Sum.inr k)
  | _ => none
def putD (kvs : List (Key × D)) (k : Key) (d : D) : List (Key × D) :=
  if (kvs.any fun kv => decide (kv.1 = k)) = true then kvs.map (fun kv => if kv.1 = k then (kv.1, d) else kv) else kvs ++ [(k, d)]
def valD (kvs : List (Key × D)) (k : Key) : Option D := (kvs.find? fun kv => decide (kv.1 = k)).map (·.2)
/-- o.setdefault(k, e) -/
def eSetD (o k e : E) : E := fun σ st => bnd (o σ st) fun x s1 => match x with
  | .ref n => match s1[n]? with
    | some (.dct _) => bnd (k σ s1) fun y s2 => bnd (e σ s2) fun d s3 => match s3[n]?, keyD y with
      | some (.dct kvs), some kk => if kvs.length < sz then (match valD kvs kk with
        | some d0 => .ok d0 s3
        | none => .ok d (s3.set n (.dct (putD kvs kk d)))) else .bad
      | _, _ => .bad
    | _ => .bad
  | _ => .bad
/-- a call of a def -/
def eFn (f : List D → Store → Res D) (es : List E) : E := fun σ st => bnd (evL es σ st) fun ds s1 => f ds s1

/-! ### ints, comparisons -/
/-- a list's items, a value's or of the store -/
def lst2? (st : Store) : D → Option (List D)
  | .lst ds => some ds
  | .ref n => match st[n]? with
    | some (.lst ds) => some ds
    | _ => none
  | _ => none
def addR : Option (List D) → Option (List D) → Option D
  | some xs, some ys => if xs.length + ys.length ≤ sz then some (.lst (xs ++ ys)) else none
  | _, _ => none
def dAdd (st : Store) : D → D → Option D
  | .int i, .int j => some (.int (i + j))
  | .tup xs, .tup ys => if xs.length + ys.length ≤ sz then some (.tup (xs ++ ys)) else none
  | .str x, .str y => if x.length + y.length ≤ sz then some (.str (x ++ y)) else none
  | .lst xs, .lst ys => if xs.length + ys.length ≤ sz then some (.lst (xs ++ ys)) else none
  | .ref n, y => addR (lst2? st (.ref n)) (lst2? st y)
  | .lst xs, .ref m => addR (some xs) (lst2? st (.ref m))
  | _, _ => none
def dAddI (_ : Store) : D → D → Option D
  | .int i, .int j => some (.int (i + j))
  | _, _ => none
def dSub (_ : Store) : D → D → Option D
  | .int i, .int j => some (.int (i - j))
  | _, _ => none
/-- ints of at most so many bits -/
def bits (i : Int) : Nat := i.natAbs.log2
def big : Int := 18446744073709551616
def dMul (_ : Store) : D → D → Option D
  | .int i, .int j => if (-big < i ∧ i < big) ∨ (-big < j ∧ j < big) then some (.int (i * j)) else none
  | .tup xs, .int k => if xs.isEmpty = false ∧ 2 ≤ k ∧ k ≤ 1000000 ∧ xs.length * k.toNat ≤ sz then some (.tup (List.replicate k.toNat xs).flatten) else if (xs.isEmpty = true ∨ k = 1) ∧ -1000000 ≤ k ∧ k ≤ 1000000 then some (.tup xs) else if xs.isEmpty = false ∧ -1000000 ≤ k ∧ k ≤ 0 then some (.tup []) else none
  | .lst xs, .int k => if 0 ≤ k ∧ k < 1000000 ∧ xs.length * k.toNat ≤ sz then some (.lst (List.replicate k.toNat xs).flatten) else none
  | _, _ => none
def dDiv (_ : Store) : D → D → Option D
  | .int i, .int j => if 0 < j ∧ j < big * big then some (.int (i / j)) else none
  | _, _ => none
def dMod (_ : Store) : D → D → Option D
  | .int i, .int j => if 0 < j then some (.int (i % j)) else none
  | _, _ => none
def dPow (_ : Store) : D → D → Option D
  | .int i, .int j => if 0 ≤ j ∧ j ≤ 1000000 ∧ -big < i ∧ i < big then some (.int (i ^ j.toNat)) else none
  | _, _ => none
def dAndB (_ : Store) : D → D → Option D
  | .int i, .int j => some (.int (Builtin.bitAnd i j))
  | _, _ => none
def dOrB (_ : Store) : D → D → Option D
  | .int i, .int j => some (.int (Builtin.bitOr i j))
  | _, _ => none
def dNeg (_ : Store) : D → Option D
  | .int i => some (.int (-i))
  | _ => none
def dLt (_ : Store) : D → D → Option D
  | .int i, .int j => some (.bl (decide (i < j)))
  | _, _ => none
def dLe (_ : Store) : D → D → Option D
  | .int i, .int j => some (.bl (decide (i ≤ j)))
  | _, _ => none
def dGt (_ : Store) : D → D → Option D
  | .int i, .int j => some (.bl (decide (j < i)))
  | _, _ => none
def dGe (_ : Store) : D → D → Option D
  | .int i, .int j => some (.bl (decide (j ≤ i)))
  | _, _ => none
/-- == of two values: by their data -/
def eqD0 (st : Store) (x y : D) : Option Bool :=
  match x.py st, y.py st with
  | some a, some b => if SeqAt.shaped a = true ∧ SeqAt.shaped b = true then some (PyData.eqv a b) else none
  | _, _ => none
def eqD (st : Store) (x y : D) : Option Bool :=
  match x, y with
  | .str a, .str b => some (decide (a = b))
  | x, y => eqD0 st x y
def dEq (st : Store) (x y : D) : Option D := (eqD st x y).map .bl
def dNe (st : Store) (x y : D) : Option D := (eqD st x y).map fun b => .bl (!b)
def isSing : D → Bool
  | .non => true
  | .bl _ => true
  | _ => false
def sameS : D → D → Bool
  | .non, .non => true
  | .bl a, .bl b => a == b
  | _, _ => false
def dIs (_ : Store) (x y : D) : Option D := if isSing y = true then some (.bl (sameS x y)) else none
def dIsNot (_ : Store) (x y : D) : Option D := if isSing y = true then some (.bl (!sameS x y)) else none
/-- x in y: y a list, a tuple -/
def inD (st : Store) (x y : D) : Option Bool :=
  match x.py st, (items? st y).bind (D.pys st) with
  | some a, some bs => if SeqAt.shaped a = true ∧ SeqAt.shaped (.list bs) = true then some (bs.any fun z => PyData.eqv z a) else none
  | _, _ => none
/-- x in y: y a dict of the store -/
def inDct (st : Store) (x y : D) : Option Bool :=
  match y with
  | .ref n => match st[n]? with
    | some (.dct kvs) => (keyD x).map fun k => kvs.any fun kv => decide (kv.1 = k)
    | _ => none
  | _ => none
def dIn (st : Store) (x y : D) : Option D := match inDct st x y with
  | some b => some (.bl b)
  | none => (inD st x y).map .bl
def dNotIn (st : Store) (x y : D) : Option D := match inDct st x y with
  | some b => some (.bl (!b))
  | none => (inD st x y).map fun b => .bl (!b)

/-! ### items, slices -/
def dItem (st : Store) (x y : D) : Option D :=
  match y with
  | .int i => match items? st x with
    | some ds => atI ds i
    | none => match x with
      | .str z => if z.length ≤ sz then (atI z.cps.toList i).map fun c => .str ⟨#[c]⟩ else none
      | .ref n => match st[n]? with
        | some (.dct kvs) => (kvs.find? fun kv => decide (kv.1 = Sum.inl i)).map (·.2)
        | _ => none
      | _ => none
  | .str k => match x with
    | .ref n => match st[n]? with
      | some (.dct kvs) => (kvs.find? fun kv => decide (kv.1 = Sum.inr k)).map (·.2)
      | _ => none
    | _ => none
  | _ => none
def cutD (xs : List D) (lo hi : Option Int) : List D := (xs.drop (HT.sIx xs.length 0 lo)).take (HT.sIx xs.length xs.length hi - HT.sIx xs.length 0 lo)
def dSlice (st : Store) (x : D) (lo hi : Option Int) : Option D :=
  match x with
  | .tup ds => some (.tup (cutD ds lo hi))
  | .str z => if z.length ≤ sz then some (.str (cutS z lo hi)) else none
  | _ => (items? st x).map fun ds => .lst (cutD ds lo hi)
def evO : Option E → Env → Store → Res (Option Int)
  | none, _, st => .ok none st
  | some e, σ, st => bnd (e σ st) fun d s1 => match d with
    | .int i => .ok (some i) s1
    | _ => .bad
def eSlice (a : E) (lo hi : Option E) : E := fun σ st => bnd (a σ st) fun x s1 => bnd (evO lo σ s1) fun l s2 => bnd (evO hi σ s2) fun h s3 => ofO (dSlice s3 x l h) s3
/-- a[::k], k = -1, of a tuple -/
def eRev (a k : E) : E := fun σ st => bnd (a σ st) fun x s1 => bnd (evO (some k) σ s1) fun l s2 => match x with
  | .tup ds => if l = some (-1) then .ok (.tup ds.reverse) s2 else .bad
  | .lst ds => if l = some (-1) then .ok (.lst ds.reverse) s2 else .bad
  | _ => .bad
def revI (st : Store) : D → Option D
  | .tup ds => some (.tup ds.reverse)
  | .lst ds => some (.lst ds.reverse)
  | _ => none

/-! ### functions of Python's own -/
def ints? : List D → Option (List Int)
  | [] => some []
  | .int i :: ds => (ints? ds).map fun is => i :: is
  | _ :: _ => none
def bools? : List D → Option (List Bool)
  | [] => some []
  | .bl b :: ds => (bools? ds).map fun bs => b :: bs
  | _ :: _ => none
def strs? : List D → Option (List Str)
  | [] => some []
  | .str b :: ds => (strs? ds).map fun bs => b :: bs
  | _ :: _ => none
def fLen (st : Store) : List D → Option D
  | [.str x] => if x.length ≤ sz then some (.int x.length) else none
  | [.ref n] => match st[n]? with
    | some (.lst ds) => some (.int ds.length)
    | some (.dct kvs) => some (.int kvs.length)
    | none => none
  | [x] => (items? st x).map fun ds => .int ds.length
  | _ => none
def fAbs (_ : Store) : List D → Option D
  | [.int i] => some (.int (if i < 0 then -i else i))
  | _ => none
def fMin (_ : Store) : List D → Option D
  | [.int i, .int j] => some (.int (if j < i then j else i))
  | _ => none
def fMax (_ : Store) : List D → Option D
  | [.int i, .int j] => some (.int (if j > i then j else i))
  | _ => none
def maxI (i : Int) (is : List Int) : Int := is.foldl (fun a b => if b > a then b else a) i
def minI (i : Int) (is : List Int) : Int := is.foldl (fun a b => if b < a then b else a) i
def fMin3 (_ : Store) : List D → Option D
  | [.int i, .int j, .int k] => some (.int (minI i [j, k]))
  | _ => none
def fMax3 (_ : Store) : List D → Option D
  | [.int i, .int j, .int k] => some (.int (maxI i [j, k]))
  | _ => none
def fInt (_ : Store) : List D → Option D
  | [.int i] => some (.int i)
  | [.bl k] => some (.int (if k then 1 else 0))
  | _ => none
def fOrd (_ : Store) : List D → Option D
  | [.str x] => if x.length = 1 then some (.int (x.cps.getD 0 0 : Nat)) else none
  | _ => none
def fStr (_ : Store) : List D → Option D
  | [.int i] => if bits i < 1920 then some (.str (toString i)) else none
  | [.str a] => some (.str a)
  | _ => none
def fTuple (st : Store) : List D → Option D
  | [x] => (items? st x).map .tup
  | _ => none
def fList (st : Store) : List D → Option D
  | [x] => (items? st x).map .lst
  | _ => none
/-- list(range(n)) -/
def rngX (lo : Int) : Nat → List D
  | 0 => []
  | n + 1 => .int lo :: rngX (lo + 1) n
def eListR (a : E) : E := fun σ st => bnd (a σ st) fun x s1 => match x with
  | .int j => if -1000000 ≤ j ∧ j ≤ 1000000 then .ok (.lst (rngX 0 j.toNat)) s1 else .bad
  | _ => .bad
/-- the list's own items alone (not a tuple's) -/
def litems? (st : Store) : D → Option (List D)
  | .tup _ => none
  | x => items? st x
/-- pairs of ints, in order -/
def prD (p : Int × Int) : D := .tup [.int p.1, .int p.2]
def prs? : List D → Option (List (Int × Int))
  | [] => some []
  | .tup [.int i, .int j] :: ds => (prs? ds).map fun ps => (i, j) :: ps
  | _ :: _ => none
def insP (p : Int × Int) : List (Int × Int) → List (Int × Int)
  | [] => [p]
  | q :: r => if p.1 < q.1 ∨ (p.1 = q.1 ∧ p.2 < q.2) then p :: q :: r else q :: insP p r
def sortP : List (Int × Int) → List (Int × Int)
  | [] => []
  | p :: r => insP p (sortP r)
def fSortP (st : Store) : List D → Option D
  | [x] => ((litems? st x).bind prs?).map fun ps => .lst ((sortP ps).map prD)
  | _ => none
def fAll (st : Store) : List D → Option D
  | [x] => ((litems? st x).bind bools?).map fun bs => .bl (bs.all id)
  | _ => none
def fAny (st : Store) : List D → Option D
  | [x] => ((litems? st x).bind bools?).map fun bs => .bl (bs.any id)
  | _ => none
def fSum (st : Store) : List D → Option D
  | [x] => ((litems? st x).bind ints?).map fun is => .int is.sum
  | _ => none
/-- max, min of a list of ints -/
def fMaxL (st : Store) : List D → Option D
  | [x] => match (litems? st x).bind ints? with
    | some (i :: is) => some (.int (maxI i is))
    | _ => none
  | _ => none
def fMinL (st : Store) : List D → Option D
  | [x] => match (litems? st x).bind ints? with
    | some (i :: is) => some (.int (minI i is))
    | _ => none
  | _ => none
/-- repr: the data's text -/
def fRepr (st : Store) : List D → Option D
  | [x] => match x.py st with
    | some d => if d.showable = true ∧ d.hasDict = false ∧ d.shown.length ≤ sz ∧ d.depth ≤ 63 then some (.str d.shown) else none
    | none => none
  | _ => none
/-- isinstance with a written class of Python's own -/
def isOf (T : String) : D → Option Bool
  | .non => some (T == "NoneType")
  | .bl _ => some (T == "bool" || T == "int")
  | .int _ => some (T == "int")
  | .str _ => some (T == "str")
  | .tup _ => some (T == "tuple")
  | .lst _ => some (T == "list")
  | .ref _ => none
  | .scr _ => none
def isOfS (st : Store) (T : String) (x : D) : Option Bool :=
  match x with
  | .ref n => match st[n]? with
    | some (.lst _) => some (T == "list")
    | some (.dct _) => some (T == "dict")
    | none => none
  | x => isOf T x
def dIsi (T : String) (st : Store) (x : D) : Option D := (isOfS st T x).map .bl

/-- isinstance with two classes -/
def dIsi2 (T U : String) (st : Store) (x : D) : Option D := match isOfS st T x, isOfS st U x with
  | some a, some b => some (.bl (a || b))
  | _, _ => none

/-! ### what is walked -/
abbrev EI := Env → Store → Res (List D)
def iSeq (a : E) : EI := fun σ st => bnd (a σ st) fun x s1 => ofO (match x with
  | .tup ds => some ds
  | .lst ds => some ds
  | .str z => some (z.cps.toList.map fun c => .str ⟨#[c]⟩)
  | _ => none) s1
def rng (lo : Int) : Nat → List D
  | 0 => []
  | n + 1 => .int lo :: rng (lo + 1) n
def lim : Int := 4611686018427387904
def iRange1 (a : E) : EI := fun σ st => bnd (a σ st) fun x s1 => match x with
  | .int j => if -lim ≤ j ∧ j < lim then .ok (rng 0 j.toNat) s1 else .bad
  | _ => .bad
def iRange2 (a b : E) : EI := fun σ st => bnd (a σ st) fun x s1 => bnd (b σ s1) fun y s2 => match x, y with
  | .int i, .int j => if -lim ≤ i ∧ i < lim ∧ -lim ≤ j ∧ j < lim then .ok (rng i (j - i).toNat) s2 else .bad
  | _, _ => .bad
def rngS (lo c : Int) : Nat → List D
  | 0 => []
  | n + 1 => .int lo :: rngS (lo + c) c n
def iRange3 (a b c : E) : EI := fun σ st => bnd (a σ st) fun x s1 => bnd (b σ s1) fun y s2 => bnd (c σ s2) fun z s3 => match x, y, z with
  | .int i, .int j, .int k => if -lim ≤ i ∧ i < lim ∧ -lim ≤ j ∧ j < lim then
      (if 0 < k ∧ k < 1000000 then .ok (rngS i k ((j - i + k - 1) / k).toNat) s3 else if k = -1 then .ok (rngS i k (i - j).toNat) s3 else .bad) else .bad
  | _, _, _ => .bad
/-- list(range(a, b, c)) -/
def eListR3 (a b c : E) : E := fun σ st => bnd (a σ st) fun x s1 => bnd (b σ s1) fun y s2 => bnd (c σ s2) fun z s3 => match x, y, z with
  | .int i, .int j, .int k => if -1000000 ≤ i ∧ i ≤ 1000000 ∧ -1000000 ≤ j ∧ j ≤ 1000000 ∧ 0 < k ∧ k < 1000000 then .ok (.lst (rngS i k ((j - i + k - 1) / k).toNat)) s3 else .bad
  | _, _, _ => .bad
def enumF (i : Nat) : List D → List D
  | [] => []
  | d :: ds => .tup [.int i, d] :: enumF (i + 1) ds
def zipD : List D → List D → List D
  | x :: xs, y :: ys => .tup [x, y] :: zipD xs ys
  | _, _ => []
def vitems? : D → Option (List D)
  | .tup ds => some ds
  | .lst ds => some ds
  | _ => none
def iEnumD (a : E) : EI := fun σ st => bnd (a σ st) fun x s1 => ofO ((vitems? x).map (enumF 0)) s1
def iZipD (a b : E) : EI := fun σ st => bnd (a σ st) fun x s1 => bnd (b σ s1) fun y s2 => match x, y with
  | .tup xs, .tup ys => .ok (zipD xs ys) s2
  | .lst xs, .lst ys => .ok (zipD xs ys) s2
  | _, _ => .bad

/-! ### targets -/
abbrev TgM := D → Env → Store → Res Env
def gN (i : Nat) : TgM := fun d σ st => .ok (σ.set i (some d)) st
/-- no exception leaves it -/
def noX {α : Type} (r : Res α) : Res α :=
  match r with
  | .exc _ _ => .bad
  | r => r
@[simp] theorem noX_ok {α : Type} (a : α) (st : Store) : noX (.ok a st) = .ok a st := rfl
def gTs : List TgM → List D → Env → Store → Res Env
  | [], [], σ, st => .ok σ st
  | g :: gs, d :: ds, σ, st => bnd (noX (g d σ st)) fun σ1 s1 => gTs gs ds σ1 s1
  | _, _, _, _ => .bad
def gT (gs : List TgM) : TgM := fun d σ st => match d with
  | .tup ds => if ds.length = gs.length then gTs gs ds σ st else .bad
  | _ => .bad
/-- o[i] = v -/
def setCell (st : Store) (n : Nat) (i : D) (v : D) : Option Store :=
  match st[n]?, i with
  | some (.lst ds), .int k => match ixN ds.length k with
    | some j => some (st.set n (.lst (ds.set j v)))
    | none => none
  | some (.dct kvs), x => (keyD x).bind fun kk => if kvs.length < sz then some (st.set n (.dct (putD kvs kk v))) else none
  | _, _ => none
def gSubD (o i : E) : TgM := fun d σ st => bnd (o σ st) fun x s1 => bnd (i σ s1) fun y s2 => match x with
  | .ref n => match setCell s2 n y d with
    | some s3 => .ok σ s3
    | none => .bad
  | _ => .bad

/-! ### comprehensions -/
def wipeE (σ : Env) : List Nat → Env
  | [] => σ
  | v :: vs => (wipeE σ vs).set v none
/-- the tests of one for -/
def tests : List E → Env → Store → Res Bool
  | [], _, st => .ok true st
  | c :: cs, σ, st => bnd (c σ st) fun x s1 => match truth s1 x with
    | some true => tests cs σ s1
    | some false => .ok false s1
    | none => .bad
def compL (tg : TgM) (cs : List E) (elt : E) (σ : Env) : List D → List D → Store → Res (List D)
  | [], acc, st => .ok acc st
  | d :: ds, acc, st => bnd (tg d σ st) fun σ1 s1 => bnd (tests cs σ1 s1) fun b s2 => match b with
    | true => bnd (elt σ1 s2) fun x s3 => if acc.length < sz then compL tg cs elt σ ds (acc ++ [x]) s3 else .bad
    | false => compL tg cs elt σ ds acc s2
def eComp (vs : List Nat) (it : EI) (tg : TgM) (cs : List E) (elt : E) : E := fun σ st => bnd (it σ st) fun ds s1 => bnd (noX (compL tg cs elt (wipeE σ vs) ds [] s1)) fun out s2 => .ok (.lst out) s2
def eCompR (vs : List Nat) (it : EI) (tg : TgM) (cs : List E) (elt : E) : E := fun σ st => bnd (it σ st) fun ds s1 => bnd (noX (compL tg cs elt (wipeE σ vs) ds [] s1)) fun out s2 => .ok (.ref s2.length) (s2 ++ [.lst out])
def compL2 (tg : TgM) (cs : List E) (vs1 : List Nat) (it1 : EI) (tg1 : TgM) (cs1 : List E) (elt : E) (σ : Env) : List D → List D → Store → Res (List D)
  | [], acc, st => .ok acc st
  | d :: ds, acc, st => bnd (tg d σ st) fun σ1 s1 => bnd (tests cs σ1 s1) fun b s2 => match b with
    | true => bnd (it1 σ1 s2) fun ds1 s3 => bnd (compL tg1 cs1 elt (wipeE σ1 vs1) ds1 acc s3) fun acc1 s4 => compL2 tg cs vs1 it1 tg1 cs1 elt σ ds acc1 s4
    | false => compL2 tg cs vs1 it1 tg1 cs1 elt σ ds acc s2
def eComp2 (vs : List Nat) (it : EI) (tg : TgM) (cs : List E) (vs1 : List Nat) (it1 : EI) (tg1 : TgM) (cs1 : List E) (elt : E) : E := fun σ st =>
  bnd (it σ st) fun ds s1 => bnd (noX (compL2 tg cs vs1 it1 tg1 cs1 elt (wipeE σ vs) ds [] s1)) fun out s2 => .ok (.lst out) s2

/-! ### statements -/
inductive SR where
  | nx (σ : Env) (st : Store) | rt (d : D) (st : Store) | bk (σ : Env) (st : Store) | ct (σ : Env) (st : Store) | exc (c : Str) (σ : Env) (st : Store) | bad
abbrev S := Env → Store → SR
def SR.andThen (r : SR) (k : Env → Store → SR) : SR :=
  match r with
  | .nx σ st => k σ st
  | r => r
/-- an expression ahead of a statement's end -/
def sbnd {α : Type} (σ : Env) (r : Res α) (k : α → Store → SR) : SR :=
  match r with
  | .ok a st => k a st
  | .exc c st => .exc c σ st
  | .bad => .bad
@[simp] theorem sbnd_ok {α : Type} (σ : Env) (a : α) (st : Store) (k : α → Store → SR) : sbnd σ (.ok a st) k = k a st := rfl
@[simp] theorem andThen_nx (σ : Env) (st : Store) (k : Env → Store → SR) : (SR.nx σ st).andThen k = k σ st := rfl
@[simp] theorem andThen_rt (d : D) (st : Store) (k : Env → Store → SR) : (SR.rt d st).andThen k = .rt d st := rfl
@[simp] theorem andThen_bk (σ : Env) (st : Store) (k : Env → Store → SR) : (SR.bk σ st).andThen k = .bk σ st := rfl
@[simp] theorem andThen_ct (σ : Env) (st : Store) (k : Env → Store → SR) : (SR.ct σ st).andThen k = .ct σ st := rfl
@[simp] theorem andThen_exc (c : Str) (σ : Env) (st : Store) (k : Env → Store → SR) : (SR.exc c σ st).andThen k = .exc c σ st := rfl
@[simp] theorem andThen_bad (k : Env → Store → SR) : SR.bad.andThen k = .bad := rfl
def sNop : S := fun σ st => .nx σ st
def sBad : S := fun _ _ => .bad
def sSeq (a b : S) : S := fun σ st => (a σ st).andThen b
def sExpr (e : E) : S := fun σ st => sbnd σ (e σ st) fun _ s1 => .nx σ s1
def sRet (e : E) : S := fun σ st => sbnd σ (e σ st) fun d s1 => .rt d s1
def sRetN : S := fun _ st => .rt .non st
def sBreak : S := fun σ st => .bk σ st
def sCont : S := fun σ st => .ct σ st
def sAsg (tg : TgM) (e : E) : S := fun σ st => sbnd σ (e σ st) fun d s1 => sbnd σ (tg d σ s1) fun σ1 s2 => .nx σ1 s2
/-- x op= e, of a name -/
def sAug (i : Nat) (f : Store → D → D → Option D) (e : E) : S := fun σ st => match σ[i]? with
  | some (some x) => sbnd σ (e σ st) fun y s1 => sbnd σ (ofO (f s1 x y) s1) fun z s2 => .nx (σ.set i (some z)) s2
  | _ => .bad
def sIf (c : E) (a b : S) : S := fun σ st => sbnd σ (c σ st) fun x s1 => match truth s1 x with
  | some true => a σ s1
  | some false => b σ s1
  | none => .bad
/-- a loop over items -/
def forL (tg : TgM) (body : S) : List D → S
  | [], σ, st => .nx σ st
  | d :: ds, σ, st => sbnd σ (tg d σ st) fun σ1 s1 => match body σ1 s1 with
    | .nx σ2 s2 => forL tg body ds σ2 s2
    | .ct σ2 s2 => forL tg body ds σ2 s2
    | .bk σ2 s2 => .nx σ2 s2
    | r => r
def sFor (it : EI) (tg : TgM) (body : S) : S := fun σ st => sbnd σ (it σ st) fun ds s1 => forL tg body ds σ s1
def whileL (c : E) (body : S) : Nat → S
  | 0, _, _ => .bad
  | n + 1, σ, st => sbnd σ (c σ st) fun x s1 => match truth s1 x with
    | some true => (match body σ s1 with
      | .nx σ2 s2 => whileL c body n σ2 s2
      | .ct σ2 s2 => whileL c body n σ2 s2
      | .bk σ2 s2 => .nx σ2 s2
      | r => r)
    | some false => .nx σ s1
    | none => .bad
theorem fuel_ex : ∃ n : Nat, n = 1000000000 := ⟨_, rfl⟩
/-- so many turns; the kernel must not count them -/
noncomputable def fuel : Nat := Classical.choose fuel_ex
theorem fuel_eq : fuel = 1000000000 := Classical.choose_spec fuel_ex
noncomputable def sWhile (c : E) (body : S) : S := whileL c body fuel
def sRaise (c : Str) : S := fun σ st => .exc c σ st
/-- a def, by its body -/
def fnM (many : Nat) (body : S) (ds : List D) (st : Store) : Res D :=
  match body (ds.map some ++ List.replicate (many - ds.length) none) st with
  | .rt d st => .ok d st
  | .nx _ st => .ok .non st
  | .exc c _ st => .exc c st
  | _ => .bad
/-- the law gives True at every script -/
def Truly (m : List D → Store → Res D) : Prop := ∀ ns : List Int, ns.length ≤ 63 → ∃ st, m [.scr (ns.map .int)] [] = .ok (.bl true) st
/-! a def that calls itself -/
/-- so deep at most -/
def recN (many : Nat) (shp : (List D → Store → Res D) → S) : Nat → List D → Store → Res D
  | 0 => fun _ _ => .bad
  | n + 1 => fnM many (shp (recN many shp n))
/-! ### a def whose own lists and dicts nobody holds any more -/
mutual
/-- no thing of the store from n on is in it -/
def lowD (n : Nat) : D → Bool
  | .tup ds => lowDs n ds
  | .lst ds => lowDs n ds
  | .scr ds => lowDs n ds
  | .ref k => decide (k < n)
  | _ => true
def lowDs (n : Nat) : List D → Bool
  | [] => true
  | d :: ds => lowD n d && lowDs n ds
end
def lowO (n : Nat) : O → Bool
  | .lst ds => lowDs n ds
  | .dct kvs => lowDs n (kvs.map (·.2))
mutual
/-- lists of the store from n on, as values -/
def sealD (n : Nat) (st : Store) : D → Option D
  | .tup ds => (sealDs n st ds).map .tup
  | .lst ds => if lowDs n ds = true then some (.lst ds) else none
  | .scr ds => if lowDs n ds = true then some (.scr ds) else none
  | .ref k => if k < n then some (.ref k) else match st[k]? with
    | some (.lst ds) => if lowDs n ds = true then some (.lst ds) else none
    | _ => none
  | d => some d
def sealDs (n : Nat) (st : Store) : List D → Option (List D)
  | [] => some []
  | d :: ds => match sealD n st d, sealDs n st ds with
    | some d', some ds' => some (d' :: ds')
    | _, _ => none
end
def sealR (n : Nat) : Res D → Res D
  | .ok d s => if (s.take n).all (lowO n) = true then (match sealD n s d with
    | some d' => .ok d' (s.take n)
    | none => .bad) else .bad
  | r => r
def sealF (m : List D → Store → Res D) : List D → Store → Res D := fun ds st => sealR st.length (m ds st)
end Mn

namespace Mn
open PySem PySem.Spec PyProof.Rows L2

/-! ### how data lies in the abstract heap -/
def FrzLe (H H' : Hp) : Prop := ∀ a o u, H a = some (.frz o u) → H' a = some (.frz o u)
theorem FrzLe.refl {H : Hp} : FrzLe H H := fun _ _ _ h => h
theorem FrzLe.trans {H H1 H2 : Hp} (x : FrzLe H H1) (y : FrzLe H1 H2) : FrzLe H H2 := fun a o u h => y a o u (x a o u h)
mutual
inductive HasD (K : PySem.W.Frag) (α Z : List Addr) (H : Hp) : V → D → Prop
  | non : HasD K α Z H .non .non
  | bl (b : Bool) : HasD K α Z H (.bl b) (.bl b)
  | int (i : Int) : HasD K α Z H (.int i) (.int i)
  | str (x : Str) : HasD K α Z H (.str x) (.str x)
  | tup {a : Addr} {xs : List V} {ds : List D} : SqT K H a xs → HasAll K α Z H xs ds → HasD K α Z H (.ref a) (.tup ds)
  | lst {a : Addr} {xs : List V} {ds : List D} : H a = some (.lst xs) → a ∉ α → a ∉ Z → HasAll K α Z H xs ds → HasD K α Z H (.ref a) (.lst ds)
  | scr {a : Addr} {xs : List V} {ds : List D} : (∀ H' : Hp, FrzLe H H' → SqL K H' a xs) → HasAll K α Z H xs ds → HasD K α Z H (.ref a) (.scr ds)
  | ref {a : Addr} {n : Nat} : α[n]? = some a → HasD K α Z H (.ref a) (.ref n)
inductive HasAll (K : PySem.W.Frag) (α Z : List Addr) (H : Hp) : List V → List D → Prop
  | nil : HasAll K α Z H [] []
  | cons {v : V} {vs : List V} {d : D} {ds : List D} : HasD K α Z H v d → HasAll K α Z H vs ds → HasAll K α Z H (v :: vs) (d :: ds)
end
/-- from one moment to a later one -/
structure Ext (α : List Addr) (H : Hp) (α' : List Addr) (H' : Hp) : Prop where
  grow : ∃ β, α' = α ++ β ∧ ∀ b ∈ β, H b = none
  live : ∀ a, H a ≠ none → H' a ≠ none
  tup : ∀ a xs, H a = some (.tup xs) → H' a = some (.tup xs)
  frz : ∀ a o u, H a = some (.frz o u) → H' a = some (.frz o u)
  lst : ∀ a xs, a ∉ α → H a = some (.lst xs) → H' a = some (.lst xs)
theorem Ext.refl {α : List Addr} {H : Hp} : Ext α H α H := ⟨⟨[], by simp, by simp⟩, fun _ h => h, fun _ _ h => h, fun _ _ _ h => h, fun _ _ _ h => h⟩
theorem Ext.get {α α' : List Addr} {H H' : Hp} (x : Ext α H α' H') {n : Nat} {a : Addr} (h : α[n]? = some a) : α'[n]? = some a := by
  obtain ⟨β, e, _⟩ := x.grow
  rw [e, List.getElem?_append_left (List.getElem?_eq_some_iff.mp h).1]
  exact h
theorem Ext.out {α α' : List Addr} {H H' : Hp} (x : Ext α H α' H') {a : Addr} (h : a ∉ α) (hl : H a ≠ none) : a ∉ α' := by
  obtain ⟨β, e, hb⟩ := x.grow
  rw [e]
  intro m
  rcases List.mem_append.mp m with m | m
  · exact h m
  · exact hl (hb a m)
theorem Ext.mem {α α' : List Addr} {H H' : Hp} (x : Ext α H α' H') {a : Addr} (h : a ∈ α) : a ∈ α' := by
  obtain ⟨β, e, hb⟩ := x.grow
  rw [e]
  exact List.mem_append_left _ h
theorem Ext.trans {α α1 α2 : List Addr} {H H1 H2 : Hp} (x : Ext α H α1 H1) (y : Ext α1 H1 α2 H2) : Ext α H α2 H2 := by
  obtain ⟨β, e, hb⟩ := x.grow
  obtain ⟨γ, e', hc⟩ := y.grow
  refine ⟨⟨β ++ γ, by rw [e', e, List.append_assoc], fun b m => ?_⟩, fun a h => y.live a (x.live a h), fun a xs h => y.tup a xs (x.tup a xs h), fun a o u h => y.frz a o u (x.frz a o u h), fun a xs n h => y.lst a xs (x.out n (by rw [h]; simp)) (x.lst a xs n h)⟩
  rcases List.mem_append.mp m with m | m
  · exact hb b m
  · cases q : H b with
    | none => rfl
    | some o => exact absurd (hc b m) (x.live b (by rw [q]; simp))
theorem rd_live {H : Hp} {a : Addr} {u : HO} (r : Rd H a u) : H a ≠ none := by
  rcases r with r | ⟨o, r⟩ <;> rw [r] <;> simp
theorem Ext.rdL {α α' : List Addr} {H H' : Hp} (x : Ext α H α' H') {a : Addr} {xs : List V} (n : a ∉ α) (r : Rd H a (.lst xs)) : Rd H' a (.lst xs) := by
  rcases r with r | ⟨o, r⟩
  · exact .inl (x.lst a xs n r)
  · exact .inr ⟨o, x.frz a o _ r⟩
theorem Ext.sqT {K : PySem.W.Frag} {α α' : List Addr} {H H' : Hp} (x : Ext α H α' H') {a : Addr} {xs : List V} (r : SqT K H a xs) : SqT K H' a xs := by
  rcases r with (r | ⟨o, r⟩) | r
  · exact .inl (.inl (x.tup a xs r))
  · exact .inl (.inr ⟨o, x.frz a o _ r⟩)
  · exact .inr r
section
variable {K : PySem.W.Frag} {α α' Z Z' : List Addr} {H H' : Hp}
mutual
theorem HasD.ext (x : Ext α H α' H') : ∀ {v : V} {d : D}, HasD K α Z H v d → HasD K α' Z H' v d
  | _, _, .non => .non
  | _, _, .bl b => .bl b
  | _, _, .int i => .int i
  | _, _, .str y => .str y
  | _, _, .tup h t => .tup (x.sqT h) (HasAll.ext x t)
  | _, _, .lst h n z t => .lst (x.lst _ _ n h) (x.out n (by rw [h]; simp)) z (HasAll.ext x t)
  | _, _, .scr h t => .scr (fun H2 y => h H2 (FrzLe.trans x.frz y)) (HasAll.ext x t)
  | _, _, .ref h => .ref (x.get h)
theorem HasAll.ext (x : Ext α H α' H') : ∀ {vs : List V} {ds : List D}, HasAll K α Z H vs ds → HasAll K α' Z H' vs ds
  | _, _, .nil => .nil
  | _, _, .cons h t => .cons (HasD.ext x h) (HasAll.ext x t)
end
mutual
/-- fewer things are kept apart -/
theorem HasD.zsub (s : ∀ a, a ∈ Z' → a ∈ Z) : ∀ {v : V} {d : D}, HasD K α Z H v d → HasD K α Z' H v d
  | _, _, .non => .non
  | _, _, .bl b => .bl b
  | _, _, .int i => .int i
  | _, _, .str y => .str y
  | _, _, .tup h t => .tup h (HasAll.zsub s t)
  | _, _, .lst h n z t => .lst h n (fun m => z (s _ m)) (HasAll.zsub s t)
  | _, _, .scr h t => .scr h (HasAll.zsub s t)
  | _, _, .ref h => .ref h
theorem HasAll.zsub (s : ∀ a, a ∈ Z' → a ∈ Z) : ∀ {vs : List V} {ds : List D}, HasAll K α Z H vs ds → HasAll K α Z' H vs ds
  | _, _, .nil => .nil
  | _, _, .cons h t => .cons (HasD.zsub s h) (HasAll.zsub s t)
end
mutual
/-- a new thing is kept apart -/
theorem HasD.zadd {p : Addr} (hp : H p = none) : ∀ {v : V} {d : D}, HasD K α Z H v d → HasD K α (p :: Z) H v d
  | _, _, .non => .non
  | _, _, .bl b => .bl b
  | _, _, .int i => .int i
  | _, _, .str y => .str y
  | _, _, .tup h t => .tup h (HasAll.zadd hp t)
  | _, _, .lst h n z t => .lst h n (fun m => by
      rcases List.mem_cons.mp m with e | m
      · subst e; rw [h] at hp; cases hp
      · exact z m) (HasAll.zadd hp t)
  | _, _, .scr h t => .scr h (HasAll.zadd hp t)
  | _, _, .ref h => .ref h
theorem HasAll.zadd {p : Addr} (hp : H p = none) : ∀ {vs : List V} {ds : List D}, HasAll K α Z H vs ds → HasAll K α (p :: Z) H vs ds
  | _, _, .nil => .nil
  | _, _, .cons h t => .cons (HasD.zadd hp h) (HasAll.zadd hp t)
end
mutual
/-- other things are kept apart: fewer, or new ones -/
theorem HasD.zgen (s : ∀ a, a ∈ Z' → a ∈ Z ∨ H a = none) : ∀ {v : V} {d : D}, HasD K α Z H v d → HasD K α Z' H v d
  | _, _, .non => .non
  | _, _, .bl b => .bl b
  | _, _, .int i => .int i
  | _, _, .str y => .str y
  | _, _, .tup h t => .tup h (HasAll.zgen s t)
  | _, _, .lst h n z t => .lst h n (fun m => (s _ m).elim z fun e => by rw [h] at e; cases e) (HasAll.zgen s t)
  | _, _, .scr h t => .scr h (HasAll.zgen s t)
  | _, _, .ref h => .ref h
theorem HasAll.zgen (s : ∀ a, a ∈ Z' → a ∈ Z ∨ H a = none) : ∀ {vs : List V} {ds : List D}, HasAll K α Z H vs ds → HasAll K α Z' H vs ds
  | _, _, .nil => .nil
  | _, _, .cons h t => .cons (HasD.zgen s h) (HasAll.zgen s t)
end
mutual
/-- what was kept apart becomes a thing of the store -/
theorem HasD.zmove {p : Addr} : ∀ {v : V} {d : D}, HasD K α (p :: Z) H v d → HasD K (α ++ [p]) Z H v d
  | _, _, .non => .non
  | _, _, .bl b => .bl b
  | _, _, .int i => .int i
  | _, _, .str y => .str y
  | _, _, .tup h t => .tup h (HasAll.zmove t)
  | _, _, .lst h n z t => .lst h (fun m => by
      rcases List.mem_append.mp m with m | m
      · exact n m
      · exact z (by simp at m; simp [m])) (fun m => z (List.mem_cons_of_mem _ m)) (HasAll.zmove t)
  | _, _, .scr h t => .scr h (HasAll.zmove t)
  | _, _, .ref h => .ref (by rw [List.getElem?_append_left (List.getElem?_eq_some_iff.mp h).1]; exact h)
theorem HasAll.zmove {p : Addr} : ∀ {vs : List V} {ds : List D}, HasAll K α (p :: Z) H vs ds → HasAll K (α ++ [p]) Z H vs ds
  | _, _, .nil => .nil
  | _, _, .cons h t => .cons (HasD.zmove h) (HasAll.zmove t)
end
mutual
/-- a kept apart list turns: nobody sees it -/
theorem HasD.turn {p : Addr} {o : HO} (hp : ∃ xs, H p = some (.lst xs)) : ∀ {v : V} {d : D}, HasD K α (p :: Z) H v d → HasD K α (p :: Z) (upd H p o) v d
  | _, _, .non => .non
  | _, _, .bl b => .bl b
  | _, _, .int i => .int i
  | _, _, .str y => .str y
  | _, _, .tup (a := a) h t => .tup (by
      obtain ⟨xs, hp⟩ := hp
      rcases h with (h | ⟨u, h⟩) | h
      · exact .inl (.inl (by rw [upd_ne (ne_of h hp (by simp))]; exact h))
      · exact .inl (.inr ⟨u, by rw [upd_ne (ne_of h hp (by simp))]; exact h⟩)
      · exact .inr h) (HasAll.turn hp t)
  | _, _, .lst (a := a) h n z t => .lst (by
      have e : a ≠ p := fun e => z (by simp [e])
      rw [upd_ne e]; exact h) n z (HasAll.turn hp t)
  | _, _, .scr h t => .scr (fun H2 y => h H2 (FrzLe.trans (by
      obtain ⟨xs, hp⟩ := hp
      intro a o u h
      rw [upd_ne (ne_of h hp (by simp))]; exact h) y)) (HasAll.turn hp t)
  | _, _, .ref h => .ref h
theorem HasAll.turn {p : Addr} {o : HO} (hp : ∃ xs, H p = some (.lst xs)) : ∀ {vs : List V} {ds : List D}, HasAll K α (p :: Z) H vs ds → HasAll K α (p :: Z) (upd H p o) vs ds
  | _, _, .nil => .nil
  | _, _, .cons h t => .cons (HasD.turn hp h) (HasAll.turn hp t)
end
theorem HasAll.length : ∀ {vs : List V} {ds : List D}, HasAll K α Z H vs ds → vs.length = ds.length
  | _, _, .nil => rfl
  | _, _, .cons _ t => by rw [List.length_cons, List.length_cons, t.length]
theorem HasAll.get : ∀ {vs : List V} {ds : List D} {i : Nat} {d : D}, HasAll K α Z H vs ds → ds[i]? = some d → ∃ v, vs[i]? = some v ∧ HasD K α Z H v d
  | _, _, _, _, .nil, e => by simp at e
  | _, _, 0, _, .cons h _, e => by simp at e; subst e; exact ⟨_, rfl, h⟩
  | _, _, i + 1, d, .cons _ t, e => by
    obtain ⟨v, e1, e2⟩ := HasAll.get (i := i) (d := d) t (by simpa using e)
    exact ⟨v, by simpa using e1, e2⟩
theorem HasAll.getV : ∀ {vs : List V} {ds : List D} {i : Nat} {v : V}, HasAll K α Z H vs ds → vs[i]? = some v → ∃ d, ds[i]? = some d ∧ HasD K α Z H v d
  | _, _, _, _, .nil, e => by simp at e
  | _, _, 0, _, .cons h _, e => by simp at e; subst e; exact ⟨_, rfl, h⟩
  | _, _, i + 1, d, .cons _ t, e => by
    obtain ⟨v, e1, e2⟩ := HasAll.getV (i := i) (v := d) t (by simpa using e)
    exact ⟨v, by simpa using e1, e2⟩
theorem HasAll.app : ∀ {vs us : List V} {ds es : List D}, HasAll K α Z H vs ds → HasAll K α Z H us es → HasAll K α Z H (vs ++ us) (ds ++ es)
  | _, _, _, _, .nil, t => t
  | _, _, _, _, .cons h r, t => .cons h (r.app t)
theorem HasAll.set : ∀ {vs : List V} {ds : List D} {v : V} {d : D} (i : Nat), HasAll K α Z H vs ds → HasD K α Z H v d → HasAll K α Z H (vs.set i v) (ds.set i d)
  | _, _, _, _, _, .nil, _ => .nil
  | _, _, _, _, 0, .cons _ t, h => .cons h t
  | _, _, _, _, i + 1, .cons q t, h => .cons q (t.set i h)
theorem HasAll.take : ∀ {vs : List V} {ds : List D} (n : Nat), HasAll K α Z H vs ds → HasAll K α Z H (vs.take n) (ds.take n)
  | _, _, 0, _ => .nil
  | _, _, _ + 1, .nil => .nil
  | _, _, n + 1, .cons h t => .cons h (t.take n)
theorem HasAll.drop : ∀ {vs : List V} {ds : List D} (n : Nat), HasAll K α Z H vs ds → HasAll K α Z H (vs.drop n) (ds.drop n)
  | _, _, 0, t => t
  | _, _, _ + 1, .nil => .nil
  | _, _, n + 1, .cons h t => t.drop n
theorem HasAll.rev {vs : List V} {ds : List D} (t : HasAll K α Z H vs ds) : HasAll K α Z H vs.reverse ds.reverse := by
  induction t using HasAll.rec (motive_1 := fun _ _ _ => True) with
  | nil => exact .nil
  | cons h t _ ih => rw [List.reverse_cons, List.reverse_cons]; exact ih.app (.cons h .nil)
  | _ => trivial
theorem HasAll.rep {vs : List V} {ds : List D} (t : HasAll K α Z H vs ds) : ∀ n : Nat, HasAll K α Z H (List.replicate n vs).flatten (List.replicate n ds).flatten
  | 0 => .nil
  | n + 1 => by rw [List.replicate_succ, List.replicate_succ, List.flatten_cons, List.flatten_cons]; exact t.app (t.rep n)
end

/-! ### the store -/
def Cell (K : PySem.W.Frag) (α Z : List Addr) (H : Hp) (a : Addr) : O → Prop
  | .lst ds => ∃ xs, H a = some (.lst xs) ∧ HasAll K α Z H xs ds
  | .dct kvs => ∃ ws, H a = some (.dK ws) ∧ ws.map (·.1) = kvs.map (·.1) ∧ HasAll K α Z H (ws.map (·.2)) (kvs.map (·.2))
structure Wd (K : PySem.W.Frag) (α Z : List Addr) (H : Hp) (st : Store) : Prop where
  len : α.length = st.length
  nd : α.Nodup
  dis : ∀ z ∈ Z, z ∉ α
  zl : ∀ z ∈ Z, ∃ xs, H z = some (.lst xs)
  cell : ∀ (n : Nat) (a : Addr) (o : O), α[n]? = some a → st[n]? = some o → Cell K α Z H a o
section
variable {K : PySem.W.Frag} {α α' Z Z' : List Addr} {H H' : Hp} {st : Store}
theorem Cell.live {a : Addr} {o : O} (c : Cell K α Z H a o) : H a ≠ none := by
  cases o with
  | lst ds => obtain ⟨xs, e, _⟩ := c; rw [e]; simp
  | dct kvs => obtain ⟨xs, e, _⟩ := c; rw [e]; simp
theorem Wd.live (w : Wd K α Z H st) {a : Addr} (h : a ∈ α) : H a ≠ none := by
  obtain ⟨n, hn, e⟩ := List.mem_iff_getElem.mp h
  have h1 : α[n]? = some a := by rw [List.getElem?_eq_getElem hn, e]
  have h2 : n < st.length := by rw [← w.len]; exact hn
  exact (w.cell n a _ h1 (List.getElem?_eq_getElem h2)).live
/-- a new address is none of the store's, none that is kept apart -/
theorem Wd.new (w : Wd K α Z H st) {p : Addr} (hp : H p = none) : p ∉ α ∧ p ∉ Z := ⟨fun m => w.live m hp, fun m => by obtain ⟨xs, e⟩ := w.zl p m; rw [hp] at e; cases e⟩
theorem Cell.ext {a : Addr} {o : O} (x : Ext α H α' H') (hs : H' a = H a) (c : Cell K α Z H a o) : Cell K α' Z H' a o := by
  cases o with
  | lst ds => obtain ⟨xs, e, h⟩ := c; exact ⟨xs, by rw [hs]; exact e, h.ext x⟩
  | dct kvs => obtain ⟨xs, e, k, h⟩ := c; exact ⟨xs, by rw [hs]; exact e, k, h.ext x⟩
/-- something new that is none of the store's -/
theorem Ext.new {p : Addr} {o : HO} (hp : H p = none) : Ext α H α (upd H p o) := by
  have ne : ∀ a, H a ≠ none → a ≠ p := fun a h e => h (by rw [e]; exact hp)
  refine ⟨⟨[], by simp, by simp⟩, fun a h => ?_, fun a xs h => ?_, fun a u v h => ?_, fun a xs _ h => ?_⟩
  · rw [upd_ne (ne a h)]; exact h
  · rw [upd_ne (ne a (by rw [h]; simp))]; exact h
  · rw [upd_ne (ne a (by rw [h]; simp))]; exact h
  · rw [upd_ne (ne a (by rw [h]; simp))]; exact h
theorem Wd.same (w : Wd K α Z H st) (x : Ext α H α H') (hs : ∀ a ∈ α, H' a = H a) : Wd K α Z H' st :=
  ⟨w.len, w.nd, w.dis, fun z m => let ⟨xs, e⟩ := w.zl z m; ⟨xs, x.lst z xs (w.dis z m) e⟩, fun n a o h1 h2 => (w.cell n a o h1 h2).ext x (hs a (List.mem_of_getElem? h1))⟩
theorem Wd.newV (w : Wd K α Z H st) {p : Addr} {o : HO} (hp : H p = none) : Wd K α Z (upd H p o) st :=
  w.same (Ext.new hp) fun a m => upd_ne fun e => w.live m (by rw [e]; exact hp)
/-- a new thing of the store -/
theorem Ext.alloc {p : Addr} {o : HO} (hp : H p = none) : Ext α H (α ++ [p]) (upd H p o) := by
  have x : Ext α H α (upd H p o) := Ext.new hp
  exact ⟨⟨[p], rfl, fun b m => by simp at m; rw [m]; exact hp⟩, x.live, x.tup, x.frz, x.lst⟩
theorem Wd.alloc (w : Wd K α Z H st) {p : Addr} {o : HO} {c : O} (hp : H p = none) (hc : Cell K (α ++ [p]) Z (upd H p o) p c) : Wd K (α ++ [p]) Z (upd H p o) (st ++ [c]) := by
  obtain ⟨n1, n2⟩ := w.new hp
  refine ⟨by simp [w.len], List.nodup_append.mpr ⟨w.nd, by simp, fun a h b hb e => ?_⟩, fun z m k => ?_, fun z m => ?_, fun n a u h1 h2 => ?_⟩
  · simp at hb; subst hb; subst e; exact n1 h
  · rcases List.mem_append.mp k with k | k
    · exact w.dis z m k
    · simp at k; subst k; exact n2 m
  · obtain ⟨xs, e⟩ := w.zl z m
    exact ⟨xs, by rw [upd_ne (fun q => n2 (by rw [← q]; exact m))]; exact e⟩
  · by_cases hn : n < α.length
    · rw [List.getElem?_append_left hn] at h1
      rw [List.getElem?_append_left (by rw [← w.len]; exact hn)] at h2
      exact (w.cell n a u h1 h2).ext (Ext.alloc hp) (upd_ne fun e => n1 (e ▸ List.mem_of_getElem? h1))
    · have hn' : n = α.length := by
        have := (List.getElem?_eq_some_iff.mp h1).1
        simp at this
        omega
      subst hn'
      simp at h1
      rw [w.len] at h2
      simp at h2
      subst h1; subst h2
      exact hc
/-- a thing of the store turns -/
theorem Ext.write {p : Addr} {o : HO} (hm : p ∈ α) (hp : Mut (H p)) : Ext α H α (upd H p o) := by
  have ne : ∀ a u, H a = some u → ¬ Mut (some u) → a ≠ p := fun a u h n e => by subst e; rw [h] at hp; exact n hp
  refine ⟨⟨[], by simp, by simp⟩, fun a h => ?_, fun a xs h => ?_, fun a u v h => ?_, fun a xs n h => ?_⟩
  · by_cases e : a = p
    · subst e; rw [upd_same]; simp
    · rw [upd_ne e]; exact h
  · rw [upd_ne (ne a _ h fun z => z)]; exact h
  · rw [upd_ne (ne a _ h fun z => z)]; exact h
  · rw [upd_ne (fun e => n (by rw [e]; exact hm))]; exact h
theorem Wd.write (w : Wd K α Z H st) {n : Nat} {p : Addr} {o : HO} {c : O} (h : α[n]? = some p) (hp : Mut (H p)) (hc : Cell K α Z (upd H p o) p c) : Wd K α Z (upd H p o) (st.set n c) := by
  have hm : p ∈ α := List.mem_of_getElem? h
  refine ⟨by simp [w.len], w.nd, w.dis, fun z m => ?_, fun k a u h1 h2 => ?_⟩
  · obtain ⟨xs, e⟩ := w.zl z m
    exact ⟨xs, by rw [upd_ne (fun q => w.dis z m (by rw [q]; exact hm))]; exact e⟩
  · by_cases e : k = n
    · subst e
      rw [h] at h1; cases h1
      rw [List.getElem?_set_self (by rw [← w.len]; exact (List.getElem?_eq_some_iff.mp h).1)] at h2
      cases h2
      exact hc
    · rw [List.getElem?_set_ne (Ne.symm e)] at h2
      refine (w.cell k a u h1 h2).ext (Ext.write hm hp) (upd_ne fun q => e ?_)
      subst q
      have l1 := (List.getElem?_eq_some_iff.mp h1)
      have l2 := (List.getElem?_eq_some_iff.mp h)
      exact (List.getElem_inj w.nd).mp (l1.2.trans l2.2.symm)
end

/-! ### slots -/
def Sl (K : PySem.W.Frag) (α Z : List Addr) (H : Hp) (σ : L2.St) (en : Env) : Prop :=
  σ.length = en.length ∧ ∀ (i : Nat) (d : D), en[i]? = some (some d) → ∃ v, σ[i]? = some (some v) ∧ HasD K α Z H v d
section
variable {K : PySem.W.Frag} {α α' Z Z' : List Addr} {H H' : Hp} {st : Store} {σ : L2.St} {en : Env}
theorem Sl.ext (x : Ext α H α' H') (s : Sl K α Z H σ en) : Sl K α' Z H' σ en := ⟨s.1, fun i d h => let ⟨v, e, q⟩ := s.2 i d h; ⟨v, e, q.ext x⟩⟩
theorem Sl.set (s : Sl K α Z H σ en) {v : V} {d : D} (i : Nat) (h : HasD K α Z H v d) : Sl K α Z H (σ.set i (some v)) (en.set i (some d)) := by
  refine ⟨by simp [s.1], fun j e q => ?_⟩
  by_cases hj : i = j
  · subst hj
    rw [List.getElem?_set] at q
    simp at q
    obtain ⟨hl, q⟩ := q
    subst q
    exact ⟨v, by rw [List.getElem?_set]; simp [s.1, hl], h⟩
  · rw [List.getElem?_set_ne hj] at q
    obtain ⟨v', e1, e2⟩ := s.2 j e q
    exact ⟨v', by rw [List.getElem?_set_ne hj]; exact e1, e2⟩
theorem Sl.unset (s : Sl K α Z H σ en) (i : Nat) : Sl K α Z H (σ.set i none) (en.set i none) := by
  refine ⟨by simp [s.1], fun j e q => ?_⟩
  by_cases hj : i = j
  · subst hj
    rw [List.getElem?_set] at q
    simp at q
  · rw [List.getElem?_set_ne hj] at q
    obtain ⟨v', e1, e2⟩ := s.2 j e q
    exact ⟨v', by rw [List.getElem?_set_ne hj]; exact e1, e2⟩
theorem Sl.wipe (s : Sl K α Z H σ en) : ∀ vs : List Nat, Sl K α Z H (wipe σ vs) (wipeE en vs)
  | [] => s
  | v :: vs => (s.wipe vs).unset v
end
end Mn

namespace Mn
open PySem PySem.Spec PyProof.Rows L2

structure Gd (X : Cx) (W : WX) (k : Nat) : Prop where
  room : Room k X.A
  calm : X.calm = true
  nd : X.N.Nodup
  tk : Takes X W
  grd : X.A.guards = some []

/-- what is wanted behind a result -/
def Post {β γ : Type} (X : Cx) (W : WX) (Z : List Addr) (R : List Addr → Hp → γ → β → Prop) (α : List Addr) (H : Hp) (σ : L2.St) (Q : γ → Hp → Prop) : Res β → Prop
  | .ok b st => ∀ α' H' v, Ext α H α' H' → Wd X.K α' Z H' st → R α' H' v b → Q v H'
  | .exc c st => ∀ α' H' cls, Ext α H α' H' → Wd X.K α' Z H' st → X.mg c = some cls → W cls none σ H'
  | .bad => False
abbrev RD (X : Cx) (Z : List Addr) : List Addr → Hp → V → D → Prop := fun α H v d => HasD X.K α Z H v d
abbrev RL (X : Cx) (Z : List Addr) : List Addr → Hp → List V → List D → Prop := fun α H v d => HasAll X.K α Z H v d
def tM (X : Cx) (W : WX) (m : E) : TE := fun σ H Q => ∃ α Z en st, Wd X.K α Z H st ∧ Sl X.K α Z H σ en ∧ Post X W Z (RD X Z) α H σ Q (m en st)
def tMs (X : Cx) (W : WX) (m : Env → Store → Res (List D)) : TA := fun σ H Q => ∃ α Z en st, Wd X.K α Z H st ∧ Sl X.K α Z H σ en ∧ Post X W Z (RL X Z) α H σ Q (m en st)
/-- a test's result -/
def PostT (X : Cx) (W : WX) (Z : List Addr) (α : List Addr) (H : Hp) (σ : L2.St) (Q : Bool → Hp → Prop) : Res D → Prop
  | .ok d st => ∃ b, truth st d = some b ∧ ∀ α' H', Ext α H α' H' → Wd X.K α' Z H' st → Q b H'
  | .exc c st => ∀ α' H' cls, Ext α H α' H' → Wd X.K α' Z H' st → X.mg c = some cls → W cls none σ H'
  | .bad => False
def tT (X : Cx) (W : WX) (m : E) : TT := fun σ H Q => ∃ α Z en st, Wd X.K α Z H st ∧ Sl X.K α Z H σ en ∧ PostT X W Z α H σ Q (m en st)

section
variable {X : Cx} {W : WX} {Z α : List Addr} {H : Hp} {σ : L2.St} {st : Store} {en : Env} {β γ δ ε : Type}
theorem Post.mono {R : List Addr → Hp → γ → β → Prop} {Q Q' : γ → Hp → Prop} {r : Res β} (h : Post X W Z R α H σ Q r) (q : ∀ v H', Q v H' → Q' v H') : Post X W Z R α H σ Q' r := by
  cases r with
  | ok b s => exact fun α' H' v e w x => q v H' (h α' H' v e w x)
  | exc c s => exact h
  | bad => exact h
theorem Post.later {R : List Addr → Hp → γ → β → Prop} {Q : γ → Hp → Prop} {r : Res β} {α1 : List Addr} {H1 : Hp} (h : Post X W Z R α H σ Q r) (e1 : Ext α H α1 H1) : Post X W Z R α1 H1 σ Q r := by
  cases r with
  | ok b s => exact fun α' H' v e w x => h α' H' v (e1.trans e) w x
  | exc c s => exact fun α' H' cls e w x => h α' H' cls (e1.trans e) w x
  | bad => exact h
theorem PostT.later {Q : Bool → Hp → Prop} {r : Res D} {α1 : List Addr} {H1 : Hp} (h : PostT X W Z α H σ Q r) (e1 : Ext α H α1 H1) : PostT X W Z α1 H1 σ Q r := by
  cases r with
  | ok b s => obtain ⟨c, hc, h⟩ := h; exact ⟨c, hc, fun α' H' e w => h α' H' (e1.trans e) w⟩
  | exc c s => exact fun α' H' cls e w x => h α' H' cls (e1.trans e) w x
  | bad => exact h
/-- one result ahead of another -/
theorem Post.bnd {R : List Addr → Hp → γ → β → Prop} {R2 : List Addr → Hp → ε → δ → Prop} {Q : ε → Hp → Prop} {r : Res β} {k : β → Store → Res δ} (h : Post X W Z R2 α H σ Q (Mn.bnd r k)) :
    Post X W Z R α H σ (fun v H1 => ∃ α1 st1 b, Ext α H α1 H1 ∧ Wd X.K α1 Z H1 st1 ∧ R α1 H1 v b ∧ Post X W Z R2 α1 H1 σ Q (k b st1)) r := by
  cases r with
  | ok b s => exact fun α' H' v e w x => ⟨α', s, b, e, w, x, h.later e⟩
  | exc c s => exact h
  | bad => exact h
theorem PostT.bnd {R : List Addr → Hp → γ → β → Prop} {Q : Bool → Hp → Prop} {r : Res β} {k : β → Store → Res D} (h : PostT X W Z α H σ Q (Mn.bnd r k)) :
    Post X W Z R α H σ (fun v H1 => ∃ α1 st1 b, Ext α H α1 H1 ∧ Wd X.K α1 Z H1 st1 ∧ R α1 H1 v b ∧ PostT X W Z α1 H1 σ Q (k b st1)) r := by
  cases r with
  | ok b s => exact fun α' H' v e w x => ⟨α', s, b, e, w, x, h.later e⟩
  | exc c s => exact h
  | bad => exact h
/-- a test ahead of something -/
theorem Post.bndT {R2 : List Addr → Hp → ε → δ → Prop} {Q : ε → Hp → Prop} {r : Res D} {k : D → Store → Res δ} {g : Bool → D → Store → Res δ} (hk : ∀ d s, k d s = match truth s d with | some b => g b d s | none => .bad) (h : Post X W Z R2 α H σ Q (Mn.bnd r k)) :
    PostT X W Z α H σ (fun b H1 => ∃ α1 st1 d, Ext α H α1 H1 ∧ Wd X.K α1 Z H1 st1 ∧ truth st1 d = some b ∧ Post X W Z R2 α1 H1 σ Q (g b d st1)) r := by
  cases r with
  | ok d s =>
    have h' : Post X W Z R2 α H σ Q (k d s) := h
    rw [hk] at h'
    cases q : truth s d with
    | none => rw [q] at h'; exact h'.elim
    | some b => rw [q] at h'; exact ⟨b, q, fun α' H' e w => ⟨α', s, d, e, w, q, h'.later e⟩⟩
  | exc c s => exact h
  | bad => exact h
theorem PostT.bndT {Q : Bool → Hp → Prop} {r : Res D} {k : D → Store → Res D} {g : Bool → D → Store → Res D} (hk : ∀ d s, k d s = match truth s d with | some b => g b d s | none => .bad) (h : PostT X W Z α H σ Q (Mn.bnd r k)) :
    PostT X W Z α H σ (fun b H1 => ∃ α1 st1 d, Ext α H α1 H1 ∧ Wd X.K α1 Z H1 st1 ∧ truth st1 d = some b ∧ PostT X W Z α1 H1 σ Q (g b d st1)) r := by
  cases r with
  | ok d s =>
    have h' : PostT X W Z α H σ Q (k d s) := h
    rw [hk] at h'
    cases q : truth s d with
    | none => rw [q] at h'; exact h'.elim
    | some b => rw [q] at h'; exact ⟨b, q, fun α' H' e w => ⟨α', s, d, e, w, q, h'.later e⟩⟩
  | exc c s => exact h
  | bad => exact h
theorem PostT.mono {Q Q' : Bool → Hp → Prop} {r : Res D} (h : PostT X W Z α H σ Q r) (q : ∀ b H', Q b H' → Q' b H') : PostT X W Z α H σ Q' r := by
  cases r with
  | ok b s => obtain ⟨c, hc, h⟩ := h; exact ⟨c, hc, fun α' H' e w => q c H' (h α' H' e w)⟩
  | exc c s => exact h
  | bad => exact h

/-! ### judgements by the small machine -/
theorem PE.imp {e : Expr} {t t' : TE} (h : PE X e t) (q : ∀ σ H Q, t' σ H Q → t σ H Q) : PE X e t' := ⟨fun pins s σ H Q I x => h.run pins s σ H Q I (q σ H Q x)⟩
theorem PT.imp {e : Expr} {t t' : TT} (h : PT X e t) (q : ∀ σ H Q, t' σ H Q → t σ H Q) : PT X e t' := ⟨fun pins s σ H Q I x => h.run pins s σ H Q I (q σ H Q x)⟩
theorem PW.imp {e : Expr} {t t' : TT} (h : PW X e t) (q : ∀ σ H Q, t' σ H Q → t σ H Q) : PW X e t' := ⟨fun wh pins s σ H Q I x => h.run wh pins s σ H Q I (q σ H Q x)⟩
theorem PA.imp {es : List Expr} {t t' : TA} (h : PA X es t) (q : ∀ σ H Q, t' σ H Q → t σ H Q) : PA X es t' := ⟨fun pos pins s σ H Q I x => h.run pos pins s σ H Q I (q σ H Q x)⟩
theorem tM_of (m : E) {Q : VK} (w : Wd X.K α Z H st) (s : Sl X.K α Z H σ en) (h : Post X W Z (RD X Z) α H σ Q (m en st)) : tM X W m σ H Q := ⟨α, Z, en, st, w, s, h⟩
theorem tT_of (m : E) {Q : Bool → Hp → Prop} (w : Wd X.K α Z H st) (s : Sl X.K α Z H σ en) (h : PostT X W Z α H σ Q (m en st)) : tT X W m σ H Q := ⟨α, Z, en, st, w, s, h⟩

theorem se_bad {e : Expr} : PE X e (tM X W eBad) := ⟨fun _ _ _ _ _ _ ⟨_, _, _, _, _, _, h⟩ => h.elim⟩
theorem st_bad {e : Expr} : PT X e (tT X W eBad) := ⟨fun _ _ _ _ _ _ ⟨_, _, _, _, _, _, h⟩ => h.elim⟩
theorem se_const {e : Expr} {v : V} {d : D} (h : PE X e (tC v)) (r : ∀ α Z H, HasD X.K α Z H v d) : PE X e (tM X W (eC d)) :=
  PE.imp h fun σ H Q ⟨α, Z, en, st, w, s, q⟩ => q α H v Ext.refl w (r α Z H)
theorem se_var {i : Nat} {x : Str} {pos : Pos} (h : PE X (.Name x pos) (tVar i)) : PE X (.Name x pos) (tM X W (eVar i)) :=
  PE.imp h fun σ H Q ⟨α, Z, en, st, w, s, q⟩ => by
    unfold eVar at q
    split at q
    · rename_i d e
      obtain ⟨v, e1, e2⟩ := s.2 i d e
      exact ⟨v, e1, q α H v Ext.refl w e2⟩
    · exact q.elim
/-- an operator as the small machine has it -/
def RelOp (X : Cx) (f : Store → D → D → Option D) (r : R2) : Prop := ∀ (α Z : List Addr) (H : Hp) (st : Store) (x y : V) (a b d : D) (Q : VK), Wd X.K α Z H st → HasD X.K α Z H x a → HasD X.K α Z H y b → f st a b = some d →
  (∀ H' v, Ext α H α H' → Wd X.K α Z H' st → HasD X.K α Z H' v d → Q v H') → r x y H Q
def RelUn (X : Cx) (f : Store → D → Option D) (r : V → Hp → VK → Prop) : Prop := ∀ (α Z : List Addr) (H : Hp) (st : Store) (x : V) (a d : D) (Q : VK), Wd X.K α Z H st → HasD X.K α Z H x a → f st a = some d →
  (∀ H' v, Ext α H α H' → Wd X.K α Z H' st → HasD X.K α Z H' v d → Q v H') → r x H Q
def RelCall (X : Cx) (f : Store → List D → Option D) (r : List V → Hp → VK → Prop) : Prop := ∀ (α Z : List Addr) (H : Hp) (st : Store) (xs : List V) (as : List D) (d : D) (Q : VK), Wd X.K α Z H st → HasAll X.K α Z H xs as → f st as = some d →
  (∀ H' v, Ext α H α H' → Wd X.K α Z H' st → HasD X.K α Z H' v d → Q v H') → r xs H Q
theorem post_ofO {o : Option D} {Q : VK} (h : Post X W Z (RD X Z) α H σ Q (ofO o st)) : ∃ d, o = some d ∧ ∀ H' v, Ext α H α H' → Wd X.K α Z H' st → HasD X.K α Z H' v d → Q v H' := by
  cases o with
  | none => exact h.elim
  | some d => exact ⟨d, rfl, fun H' v e w x => h α H' v e w x⟩
theorem top_of {f : Store → D → D → Option D} {r : R2} {ma mb : E} (hf : RelOp X f r) {Q : VK} (w : Wd X.K α Z H st) (s : Sl X.K α Z H σ en) (h : Post X W Z (RD X Z) α H σ Q (eOp f ma mb en st)) : tOp r (tM X W ma) (tM X W mb) σ H Q := by
  refine tM_of ma w s (Post.mono (Post.bnd h) fun v H1 ⟨α1, st1, d, e1, w1, x1, h1⟩ => ?_)
  refine tM_of mb w1 (s.ext e1) (Post.mono (Post.bnd h1) fun u H2 ⟨α2, st2, d2, e2, w2, x2, h2⟩ => ?_)
  obtain ⟨d3, e3, q⟩ := post_ofO h2
  exact hf α2 Z H2 st2 v u d d2 d3 Q w2 (x1.ext e2) x2 e3 q
theorem se_op {a b : Expr} {pos : Pos} {op : Operator} {f : Store → D → D → Option D} {r : R2} {ma mb : E} (ho : OpR X (binaryOp op) r) (hf : RelOp X f r) (ha : PE X a (tM X W ma)) (hb : PE X b (tM X W mb)) : PE X (.BinOp a op b pos) (tM X W (eOp f ma mb)) :=
  PE.imp (pe_op ho ha hb) fun σ H Q ⟨α, Z, en, st, w, s, q⟩ => top_of hf w s q
theorem se_un {a : Expr} {pos : Pos} {op : UnaryOp} {f : Store → D → Option D} {r : V → Hp → VK → Prop} {ma : E} (ho : UnR X (unaryOp op) r) (hf : RelUn X f r) (ha : PE X a (tM X W ma)) : PE X (.UnaryOp op a pos) (tM X W (eUn f ma)) :=
  PE.imp (pe_un ho ha) fun σ H Q ⟨α, Z, en, st, w, s, q⟩ => by
    refine tM_of ma w s (Post.mono (Post.bnd q) fun v H1 ⟨α1, st1, d, e1, w1, x1, h1⟩ => ?_)
    obtain ⟨d3, e3, q⟩ := post_ofO h1
    exact hf α1 Z H1 st1 v d d3 Q w1 x1 e3 q
theorem se_cmp {a b : Expr} {pos : Pos} {op : CmpOp} {f : Store → D → D → Option D} {r : R2} {ma mb : E} (ho : OpR X (compareOp op) r) (hf : RelOp X f r) (ha : PE X a (tM X W ma)) (hb : PE X b (tM X W mb)) (hm : behindInMarks op b = false) : PE X (.Compare a [op] [b] pos) (tM X W (eOp f ma mb)) :=
  PE.imp (pe_cmpR ho ha hb hm) fun σ H Q ⟨α, Z, en, st, w, s, q⟩ => top_of hf w s q
/-- an operator that gives a truth value -/
def GivesB (f : Store → D → D → Option D) : Prop := ∀ st a b d, f st a b = some d → ∃ k, d = .bl k
theorem hasbl {K : PySem.W.Frag} {v : V} {k : Bool} (h : HasD K α Z H v (.bl k)) : v = .bl k := by cases h; rfl
theorem ttest_of {f : Store → D → D → Option D} {r : R2} {ma mb : E} (hf : RelOp X f r) (hB : GivesB f) {Q : Bool → Hp → Prop} (w : Wd X.K α Z H st) (s : Sl X.K α Z H σ en) (h : PostT X W Z α H σ Q (eOp f ma mb en st)) : tTest (tOp r (tM X W ma) (tM X W mb)) σ H Q := by
  refine tM_of ma w s (Post.mono (PostT.bnd h) fun v H1 ⟨α1, st1, d, e1, w1, x1, h1⟩ => ?_)
  refine tM_of mb w1 (s.ext e1) (Post.mono (PostT.bnd h1) fun u H2 ⟨α2, st2, d2, e2, w2, x2, h2⟩ => ?_)
  cases q : f st2 d d2 with
  | none => rw [q] at h2; exact h2.elim
  | some d3 =>
    rw [q] at h2
    obtain ⟨k, rfl⟩ := hB _ _ _ _ q
    obtain ⟨b, hb, h2⟩ := h2
    cases hb
    exact hf α2 Z H2 st2 v u d d2 _ _ w2 (x1.ext e2) x2 q fun H' v' e w' x' => ⟨k, hasbl x', h2 α2 H' e w'⟩
theorem st_cmp {a b : Expr} {pos : Pos} {op : CmpOp} {f : Store → D → D → Option D} {r : R2} {ma mb : E} (ho : OpR X (compareOp op) r) (hf : RelOp X f r) (hB : GivesB f) (ha : PE X a (tM X W ma)) (hb : PE X b (tM X W mb)) (hm : behindInMarks op b = false) : PT X (.Compare a [op] [b] pos) (tT X W (eOp f ma mb)) :=
  PT.imp (pt_cmpR ho ha hb hm) fun σ H Q ⟨α, Z, en, st, w, s, q⟩ => ttest_of hf hB w s q
theorem tchain_of {f g : Store → D → D → Option D} {r r' : R2} {ma mb mc : E} (hf : RelOp X f r) (hB : GivesB f) (hg : RelOp X g r') {Q : VK} (w : Wd X.K α Z H st) (s : Sl X.K α Z H σ en) (h : Post X W Z (RD X Z) α H σ Q (eChain f g ma mb mc en st)) :
    tChain r r' (tM X W ma) (tM X W mb) (tM X W mc) σ H Q := by
  refine tM_of ma w s (Post.mono (Post.bnd h) fun v H1 ⟨α1, st1, d, e1, w1, x1, h1⟩ => ?_)
  refine tM_of mb w1 (s.ext e1) (Post.mono (Post.bnd h1) fun u H2 ⟨α2, st2, d2, e2, w2, x2, h2⟩ => ?_)
  cases q : f st2 d d2 with
  | none => rw [q] at h2; exact h2.elim
  | some d3 =>
    rw [q] at h2
    obtain ⟨k, rfl⟩ := hB _ _ _ _ q
    refine hf α2 Z H2 st2 v u d d2 _ _ w2 (x1.ext e2) x2 q fun H' v' e w' x' => ⟨k, hasbl x', ?_⟩
    cases k with
    | false => exact h2 α2 H' _ e w' (.bl false)
    | true =>
      refine tM_of mc w' ((s.ext e1).ext (e2.trans e)) (Post.mono (Post.bnd (h2.later e)) fun z H3 ⟨α3, st3, d4, e4, w4, x4, h4⟩ => ?_)
      obtain ⟨d5, e5, q5⟩ := post_ofO h4
      exact hg α3 Z H3 st3 u z d2 d4 d5 Q w4 ((x2.ext e).ext e4) x4 e5 q5
theorem se_chain {a b c : Expr} {pos : Pos} {op op' : CmpOp} {f g : Store → D → D → Option D} {r r' : R2} {ma mb mc : E} (ho : OpR X (compareOp op) r) (hf : RelOp X f r) (hB : GivesB f) (ho' : OpR X (compareOp op') r') (hg : RelOp X g r') (ha : PE X a (tM X W ma)) (hb : PE X b (tM X W mb)) (hc : PE X c (tM X W mc))
    (hm : lastMarks [op, op'] [b, c] = false) : PE X (.Compare a [op, op'] [b, c] pos) (tM X W (eChain f g ma mb mc)) :=
  PE.imp (pe_chain ho ho' ha hb hc hm) fun σ H Q ⟨α, Z, en, st, w, s, q⟩ => tchain_of hf hB hg w s q
/-- a result that is a truth value, as a test -/
theorem PostT.toV {Q : Bool → Hp → Prop} {r : Res D} (hB : ∀ d s, r = .ok d s → ∃ k, d = .bl k) (h : PostT X W Z α H σ Q r) : Post X W Z (RD X Z) α H σ (fun x H' => ∃ k, x = .bl k ∧ Q k H') r := by
  cases r with
  | ok d s =>
    obtain ⟨k, rfl⟩ := hB d s rfl
    obtain ⟨b, hb, h⟩ := h
    cases hb
    exact fun α' H' v e w x => ⟨k, hasbl x, h α' H' e w⟩
  | exc c s => exact h
  | bad => exact h
theorem chain_bool {f g : Store → D → D → Option D} {ma mb mc : E} (hB : GivesB f) (hB' : GivesB g) {d : D} {s : Store} (h : eChain f g ma mb mc en st = .ok d s) : ∃ k, d = .bl k := by
  unfold eChain at h
  cases qa : ma en st with
  | ok x s1 =>
    rw [qa] at h
    simp only [bnd_ok] at h
    cases qb : mb en s1 with
    | ok y s2 =>
      rw [qb] at h
      simp only [bnd_ok] at h
      split at h
      · cases qc : mc en s2 with
        | ok z s3 =>
          rw [qc] at h
          simp only [bnd_ok] at h
          cases qg : g s3 y z with
          | none => rw [qg] at h; cases h
          | some d' =>
            rw [qg] at h
            obtain ⟨k, e⟩ := hB' _ _ _ _ qg
            cases h
            exact ⟨k, e⟩
        | _ => rw [qc] at h; cases h
      · cases h; exact ⟨_, rfl⟩
      · cases h
    | _ => rw [qb] at h; cases h
  | _ => rw [qa] at h; cases h
theorem st_chain {a b c : Expr} {pos : Pos} {op op' : CmpOp} {f g : Store → D → D → Option D} {r r' : R2} {ma mb mc : E} (ho : OpR X (compareOp op) r) (hf : RelOp X f r) (hB : GivesB f) (ho' : OpR X (compareOp op') r') (hg : RelOp X g r') (hB' : GivesB g) (ha : PE X a (tM X W ma)) (hb : PE X b (tM X W mb)) (hc : PE X c (tM X W mc))
    (hm : lastMarks [op, op'] [b, c] = false) : PT X (.Compare a [op, op'] [b, c] pos) (tT X W (eChain f g ma mb mc)) :=
  PT.imp (pt_chain ho ho' ha hb hc hm) fun σ H Q ⟨α, Z, en, st, w, s, q⟩ => tchain_of hf hB hg w s (q.toV fun d s' e => chain_bool hB hB' e)
/-- a value's truth -/
theorem truV {K : PySem.W.Frag} {v : V} {d : D} {b : Bool} (w : Wd K α Z H st) (h : HasD K α Z H v d) (t : truth st d = some b) : TruV K v H b := by
  have hl : sizeLine = 16777216 := sizeLine_eq
  cases h with
  | non => cases t; rfl
  | bl k => cases t; rfl
  | int i => cases t; rfl
  | str x =>
    have t' : (if x.length ≤ sz then some ((x.length : Int) != 0) else none) = some b := t
    split at t'
    · rename_i hx
      cases t'
      exact ⟨by have : x.length ≤ 16000000 := hx; omega, rfl⟩
    · cases t'
  | @tup a xs ds hs ha =>
    cases t
    exact .inr (.inl ⟨xs, hs, by cases ha <;> rfl⟩)
  | @lst a xs ds hs _ _ ha =>
    cases t
    exact .inl ⟨xs, .inl (.inl hs), by cases ha <;> rfl⟩
  | @scr a xs ds hs ha =>
    cases t
    exact .inl ⟨xs, hs H FrzLe.refl, by cases ha <;> rfl⟩
  | @ref a n hn =>
    have t' : (match st[n]? with | some (.lst ds) => some (!ds.isEmpty) | some (.dct kvs) => some (!kvs.isEmpty) | none => none) = some b := t
    split at t'
    · rename_i ds e
      cases t'
      obtain ⟨xs, e1, ha⟩ := w.cell n a _ hn e
      exact .inl ⟨xs, .inl (.inl e1), by cases ha <;> rfl⟩
    · rename_i kvs e
      cases t'
      obtain ⟨ws, e1, hk, ha⟩ := w.cell n a _ hn e
      refine .inr (.inr ⟨ws, e1, ?_⟩)
      have := congrArg List.length hk
      simp at this
      cases ws <;> cases kvs <;> simp_all
    · cases t'
theorem post_tru {m : E} {Q : Bool → Hp → Prop} (w : Wd X.K α Z H st) (s : Sl X.K α Z H σ en) (h : PostT X W Z α H σ Q (m en st)) : tM X W m σ H fun x H' => ∃ k, TruV X.K x H' k ∧ Q k H' := by
  refine tM_of m w s ?_
  cases q : m en st with
  | ok d s' =>
    rw [q] at h
    obtain ⟨b, hb, h⟩ := h
    exact fun α' H' v e w' x => ⟨b, truV w' x hb, h α' H' e w'⟩
  | exc c s' => rw [q] at h; exact h
  | bad => rw [q] at h; exact h
theorem st_val {e : Expr} {m : E} (h : PE X e (tM X W m)) (he : ∀ whole, isTrue e X.env whole = (do let v ← whole; standAt e.pos; holding [v] (truthy v))) : PT X e (tT X W m) :=
  PT.imp (pt_truth h he) fun σ H Q ⟨α, Z, en, st, w, s, q⟩ => post_tru w s q
/-- and, or, not, if -/
theorem eand_k {b : E} (x : D) (s1 : Store) : (match truth s1 x with | some true => b en s1 | some false => Res.ok x s1 | none => Res.bad) = match truth s1 x with | some k => (if k = true then b en s1 else Res.ok x s1) | none => Res.bad := by
  cases truth s1 x with
  | none => rfl
  | some k => cases k <;> rfl
theorem eor_k {b : E} (x : D) (s1 : Store) : (match truth s1 x with | some true => Res.ok x s1 | some false => b en s1 | none => Res.bad) = match truth s1 x with | some k => (if k = true then Res.ok x s1 else b en s1) | none => Res.bad := by
  cases truth s1 x with
  | none => rfl
  | some k => cases k <;> rfl
theorem eif_k {a b : E} (x : D) (s1 : Store) : (match truth s1 x with | some true => a en s1 | some false => b en s1 | none => Res.bad) = match truth s1 x with | some k => (if k = true then a en s1 else b en s1) | none => Res.bad := by
  cases truth s1 x with
  | none => rfl
  | some k => cases k <;> rfl
theorem se_one {a : Expr} {pos : Pos} {op : BoolOp} {ma : E} (ha : PE X a (tM X W ma)) : PE X (.BoolOp op [a] pos) (tM X W ma) := pe_one ha
theorem se_and {a b : Expr} {rest : List Expr} {pos : Pos} {ma mb : E} (ha : PE X a (tM X W ma)) (hb : PE X (.BoolOp .And (b :: rest) pos) (tM X W mb)) : PE X (.BoolOp .And (a :: b :: rest) pos) (tM X W (eAnd ma mb)) :=
  PE.imp (pe_andT ha hb) fun σ H Q ⟨α, Z, en, st, w, s, q⟩ => by
    refine tM_of ma w s (Post.mono (Post.bnd q) fun v H1 ⟨α1, st1, d, e1, w1, x1, h1⟩ => ?_)
    have h1 : Post X W Z (RD X Z) α1 H1 σ Q (match truth st1 d with | some k => (if k = true then mb en st1 else Res.ok d st1) | none => Res.bad) := by rw [← eand_k]; exact h1
    cases t : truth st1 d with
    | none => rw [t] at h1; exact h1.elim
    | some k =>
      rw [t] at h1
      refine ⟨k, truV w1 x1 t, ?_⟩
      cases k with
      | true => exact tM_of mb w1 (s.ext e1) h1
      | false => exact h1 α1 H1 v Ext.refl w1 x1
theorem se_or {a b : Expr} {rest : List Expr} {pos : Pos} {ma mb : E} (ha : PE X a (tM X W ma)) (hb : PE X (.BoolOp .Or (b :: rest) pos) (tM X W mb)) : PE X (.BoolOp .Or (a :: b :: rest) pos) (tM X W (eOr ma mb)) :=
  PE.imp (pe_orT ha hb) fun σ H Q ⟨α, Z, en, st, w, s, q⟩ => by
    refine tM_of ma w s (Post.mono (Post.bnd q) fun v H1 ⟨α1, st1, d, e1, w1, x1, h1⟩ => ?_)
    have h1 : Post X W Z (RD X Z) α1 H1 σ Q (match truth st1 d with | some k => (if k = true then Res.ok d st1 else mb en st1) | none => Res.bad) := by rw [← eor_k]; exact h1
    cases t : truth st1 d with
    | none => rw [t] at h1; exact h1.elim
    | some k =>
      rw [t] at h1
      refine ⟨k, truV w1 x1 t, ?_⟩
      cases k with
      | true => exact h1 α1 H1 v Ext.refl w1 x1
      | false => exact tM_of mb w1 (s.ext e1) h1
theorem se_not {a : Expr} {pos : Pos} {ma : E} (ha : PE X a (tM X W ma)) : PE X (.UnaryOp .Not a pos) (tM X W (eNot ma)) :=
  PE.imp (pe_notT ha) fun σ H Q ⟨α, Z, en, st, w, s, q⟩ => by
    refine tM_of ma w s (Post.mono (Post.bnd q) fun v H1 ⟨α1, st1, d, e1, w1, x1, h1⟩ => ?_)
    cases t : truth st1 d with
    | none => rw [t] at h1; exact h1.elim
    | some k =>
      rw [t] at h1
      exact ⟨k, truV w1 x1 t, h1 α1 H1 _ Ext.refl w1 (.bl _)⟩
theorem se_if {c a b : Expr} {pos : Pos} {mc ma mb : E} (hc : PT X c (tT X W mc)) (ha : PE X a (tM X W ma)) (hb : PE X b (tM X W mb)) : PE X (.IfExp c a b pos) (tM X W (eIf mc ma mb)) :=
  PE.imp (pe_ifExp hc ha hb) fun σ H Q ⟨α, Z, en, st, w, s, q⟩ => by
    refine tT_of mc w s (PostT.mono (Post.bndT (g := fun k _ s1 => if k = true then ma en s1 else mb en s1) (fun d s1 => eif_k d s1) q) fun k H1 ⟨α1, st1, d, e1, w1, x1, h1⟩ => ?_)
    cases k with
    | true => exact tM_of ma w1 (s.ext e1) h1
    | false => exact tM_of mb w1 (s.ext e1) h1
theorem sw_one_and {a : Expr} {pos : Pos} {ma : E} (ha : PT X a (tT X W ma)) : PW X (.BoolOp .And [a] pos) (tT X W ma) := pw_and1 ha
theorem sw_one_or {a : Expr} {pos : Pos} {ma : E} (ha : PT X a (tT X W ma)) : PW X (.BoolOp .Or [a] pos) (tT X W ma) := pw_or1 ha
theorem sw_and {a b : Expr} {rest : List Expr} {pos : Pos} {ma mb : E} (ha : PT X a (tT X W ma)) (hb : PW X (.BoolOp .And (b :: rest) pos) (tT X W mb)) : PW X (.BoolOp .And (a :: b :: rest) pos) (tT X W (eAnd ma mb)) :=
  PW.imp (pw_and ha hb) fun σ H Q ⟨α, Z, en, st, w, s, q⟩ => by
    refine tT_of ma w s (PostT.mono (PostT.bndT (g := fun k x s1 => if k = true then mb en s1 else Res.ok x s1) (fun d s1 => eand_k d s1) q) fun k H1 ⟨α1, st1, d, e1, w1, x1, h1⟩ => ?_)
    cases k with
    | true => exact tT_of mb w1 (s.ext e1) h1
    | false =>
      obtain ⟨b, hb, h1⟩ := h1
      rw [x1] at hb
      cases hb
      exact h1 α1 H1 Ext.refl w1
theorem sw_or {a b : Expr} {rest : List Expr} {pos : Pos} {ma mb : E} (ha : PT X a (tT X W ma)) (hb : PW X (.BoolOp .Or (b :: rest) pos) (tT X W mb)) : PW X (.BoolOp .Or (a :: b :: rest) pos) (tT X W (eOr ma mb)) :=
  PW.imp (pw_or ha hb) fun σ H Q ⟨α, Z, en, st, w, s, q⟩ => by
    refine tT_of ma w s (PostT.mono (PostT.bndT (g := fun k x s1 => if k = true then Res.ok x s1 else mb en s1) (fun d s1 => eor_k d s1) q) fun k H1 ⟨α1, st1, d, e1, w1, x1, h1⟩ => ?_)
    cases k with
    | false => exact tT_of mb w1 (s.ext e1) h1
    | true =>
      obtain ⟨b, hb, h1⟩ := h1
      rw [x1] at hb
      cases hb
      exact h1 α1 H1 Ext.refl w1
theorem st_not {a : Expr} {pos : Pos} {ma : E} (ha : PT X a (tT X W ma)) : PT X (.UnaryOp .Not a pos) (tT X W (eNot ma)) :=
  PT.imp (pt_not ha) fun σ H Q ⟨α, Z, en, st, w, s, q⟩ => by
    refine tT_of ma w s (PostT.mono (PostT.bndT (g := fun k x s1 => Res.ok (.bl (!k)) s1) (fun d s1 => rfl) q) fun k H1 ⟨α1, st1, d, e1, w1, x1, h1⟩ => ?_)
    obtain ⟨b, hb, h1⟩ := h1
    cases hb
    exact h1 α1 H1 Ext.refl w1
/-- argument lists -/
theorem sa_nil : PA X [] (tMs X W (evL [])) := PA.imp pa_nil fun σ H Q ⟨α, Z, en, st, w, s, q⟩ => q α H [] Ext.refl w .nil
theorem sa_cons {e : Expr} {es : List Expr} {m : E} {ms : List E} (ha : PE X e (tM X W m)) (hr : PA X es (tMs X W (evL ms))) (hs : starEach (e :: es) X.env = (false, eval e X.env) :: starEach es X.env) : PA X (e :: es) (tMs X W (evL (m :: ms))) :=
  PA.imp (pa_cons ha hr hs) fun σ H Q ⟨α, Z, en, st, w, s, q⟩ => by
    refine tM_of m w s (Post.mono (Post.bnd (R := RD X Z) q) fun v H1 ⟨α1, st1, d, e1, w1, x1, h1⟩ => ?_)
    refine ⟨α1, Z, en, st1, w1, s.ext e1, Post.mono (Post.bnd (R := RL X Z) h1) fun vs H2 ⟨α2, st2, ds, e2, w2, x2, h2⟩ => ?_⟩
    exact h2 α2 H2 (v :: vs) Ext.refl w2 (.cons (x1.ext e2) x2)
theorem sz_le {n : Nat} (h : n ≤ sz) : n ≤ sizeLine := by
  have hl : sizeLine = 16777216 := sizeLine_eq
  have : n ≤ 16000000 := h
  omega
theorem se_tup {es : List Expr} {k : Nat} {pos : Pos} {ms : List E} (h : PA X es (tMs X W (evL ms))) : PE X (.Tuple es k pos) (tM X W (eTup ms)) :=
  PE.imp (pe_tup h) fun σ H Q ⟨α, Z, en, st, w, s, q⟩ => by
    refine ⟨α, Z, en, st, w, s, Post.mono (Post.bnd (R := RL X Z) q) fun vs H1 ⟨α1, st1, ds, e1, w1, x1, h1⟩ => ?_⟩
    split at h1
    · rename_i hz
      exact ⟨sz_le (by rw [x1.length]; exact hz), fun p hp => h1 α1 _ _ (Ext.new hp) (w1.newV hp) (.tup (.inl (.inl upd_same)) (x1.ext (Ext.new hp)))⟩
    · exact h1.elim
theorem se_lst {es : List Expr} {pos : Pos} {ms : List E} (h : PA X es (tMs X W (evL ms))) : PE X (.List es pos) (tM X W (eLst ms)) :=
  PE.imp (pe_lst h) fun σ H Q ⟨α, Z, en, st, w, s, q⟩ => by
    refine ⟨α, Z, en, st, w, s, Post.mono (Post.bnd (R := RL X Z) q) fun vs H1 ⟨α1, st1, ds, e1, w1, x1, h1⟩ => ?_⟩
    split at h1
    · rename_i hz
      refine ⟨sz_le (by rw [x1.length]; exact hz), fun p hp => h1 α1 _ _ (Ext.new hp) (w1.newV hp) (.lst upd_same (w1.new hp).1 (w1.new hp).2 (x1.ext (Ext.new hp)))⟩
    · exact h1.elim
theorem se_lstR {es : List Expr} {pos : Pos} {ms : List E} (h : PA X es (tMs X W (evL ms))) : PE X (.List es pos) (tM X W (eLstR ms)) :=
  PE.imp (pe_lst h) fun σ H Q ⟨α, Z, en, st, w, s, q⟩ => by
    refine ⟨α, Z, en, st, w, s, Post.mono (Post.bnd (R := RL X Z) q) fun vs H1 ⟨α1, st1, ds, e1, w1, x1, h1⟩ => ?_⟩
    split at h1
    · rename_i hz
      refine ⟨sz_le (by rw [x1.length]; exact hz), fun p hp => h1 (α1 ++ [p]) _ _ (Ext.alloc hp) (w1.alloc hp ⟨vs, upd_same, x1.ext (Ext.alloc hp)⟩) (.ref ?_)⟩
      rw [← w1.len]
      simp
    · exact h1.elim
/-- a call of a built-in thing -/
theorem tcb_of {f : Store → List D → Option D} {r : List V → Hp → VK → Prop} {ms : List E} (hf : RelCall X f r) {Q : VK} (w : Wd X.K α Z H st) (s : Sl X.K α Z H σ en) (h : Post X W Z (RD X Z) α H σ Q (eCall f ms en st)) : tCB r (tMs X W (evL ms)) σ H Q := by
  refine ⟨α, Z, en, st, w, s, Post.mono (Post.bnd (R := RL X Z) h) fun vs H1 ⟨α1, st1, ds, e1, w1, x1, h1⟩ => ?_⟩
  obtain ⟨d3, e3, q⟩ := post_ofO h1
  exact hf α1 Z H1 st1 vs ds d3 Q w1 x1 e3 q
end
end Mn

namespace Mn
open PySem PySem.Spec PyProof.Rows L2

section
variable {X : Cx} {W : WX} {Z α : List Addr} {H : Hp} {st : Store} {K : PySem.W.Frag}
theorem rel_ii {f : Store → D → D → Option D} {C : Int → Int → Prop} {g : Int → Int → V} {g' : Int → Int → D} (hf : ∀ st a b d, f st a b = some d → ∃ i j, a = .int i ∧ b = .int j ∧ C i j ∧ d = g' i j) (hg : ∀ i j α Z H, HasD X.K α Z H (g i j) (g' i j)) : RelOp X f (rI C g) := by
  intro α Z H st x y a b d Q w hx hy e q
  obtain ⟨i, j, rfl, rfl, c, rfl⟩ := hf st a b d e
  cases hx; cases hy
  exact ⟨i, j, rfl, rfl, c, q H _ Ext.refl w (hg i j α Z H)⟩
theorem rel_ii0 {f : Store → D → D → Option D} {g : Int → Int → V} {g' : Int → Int → D} (hf : ∀ st a b d, f st a b = some d → ∃ i j, a = .int i ∧ b = .int j ∧ d = g' i j) (hg : ∀ i j α Z H, HasD X.K α Z H (g i j) (g' i j)) : RelOp X f (rI0 g) := by
  intro α Z H st x y a b d Q w hx hy e q
  obtain ⟨i, j, rfl, rfl, rfl⟩ := hf st a b d e
  cases hx; cases hy
  exact ⟨i, j, rfl, rfl, q H _ Ext.refl w (hg i j α Z H)⟩
theorem ii_lt : ∀ st a b d, dLt st a b = some d → ∃ i j, a = .int i ∧ b = .int j ∧ d = .bl (decide (i < j)) := by
  intro st a b d e
  cases a <;> cases b <;> first | (cases e; exact ⟨_, _, rfl, rfl, rfl⟩) | cases e
theorem ii_le : ∀ st a b d, dLe st a b = some d → ∃ i j, a = .int i ∧ b = .int j ∧ d = .bl (decide (i ≤ j)) := by
  intro st a b d e
  cases a <;> cases b <;> first | (cases e; exact ⟨_, _, rfl, rfl, rfl⟩) | cases e
theorem ii_gt : ∀ st a b d, dGt st a b = some d → ∃ i j, a = .int i ∧ b = .int j ∧ d = .bl (decide (j < i)) := by
  intro st a b d e
  cases a <;> cases b <;> first | (cases e; exact ⟨_, _, rfl, rfl, rfl⟩) | cases e
theorem ii_ge : ∀ st a b d, dGe st a b = some d → ∃ i j, a = .int i ∧ b = .int j ∧ d = .bl (decide (j ≤ i)) := by
  intro st a b d e
  cases a <;> cases b <;> first | (cases e; exact ⟨_, _, rfl, rfl, rfl⟩) | cases e
theorem rel_lt : RelOp X dLt (rI0 fun i j => .bl (decide (i < j))) := rel_ii0 (g' := fun i j => .bl (decide (i < j))) ii_lt fun _ _ _ _ _ => .bl _
theorem rel_le : RelOp X dLe (rI0 fun i j => .bl (decide (i ≤ j))) := rel_ii0 (g' := fun i j => .bl (decide (i ≤ j))) ii_le fun _ _ _ _ _ => .bl _
theorem rel_gt : RelOp X dGt (rI0 fun i j => .bl (decide (j < i))) := rel_ii0 (g' := fun i j => .bl (decide (j < i))) ii_gt fun _ _ _ _ _ => .bl _
theorem rel_ge : RelOp X dGe (rI0 fun i j => .bl (decide (j ≤ i))) := rel_ii0 (g' := fun i j => .bl (decide (j ≤ i))) ii_ge fun _ _ _ _ _ => .bl _
theorem gb_lt : GivesB dLt := fun st a b d e => let ⟨_, _, _, _, h⟩ := ii_lt st a b d e; ⟨_, h⟩
theorem gb_le : GivesB dLe := fun st a b d e => let ⟨_, _, _, _, h⟩ := ii_le st a b d e; ⟨_, h⟩
theorem gb_gt : GivesB dGt := fun st a b d e => let ⟨_, _, _, _, h⟩ := ii_gt st a b d e; ⟨_, h⟩
theorem gb_ge : GivesB dGe := fun st a b d e => let ⟨_, _, _, _, h⟩ := ii_ge st a b d e; ⟨_, h⟩
theorem rel_sub : RelOp X dSub (rI0 fun i j => .int (i - j)) := rel_ii0 (g' := fun i j => .int (i - j)) (by
  intro st a b d e
  cases a <;> cases b <;> first | (cases e; exact ⟨_, _, rfl, rfl, rfl⟩) | cases e) fun _ _ _ _ _ => .int _
theorem rel_band : RelOp X dAndB (rI0 fun i j => .int (Builtin.bitAnd i j)) := rel_ii0 (g' := fun i j => .int (Builtin.bitAnd i j)) (by
  intro st a b d e
  cases a <;> cases b <;> first | (cases e; exact ⟨_, _, rfl, rfl, rfl⟩) | cases e) fun _ _ _ _ _ => .int _
theorem rel_bor : RelOp X dOrB (rI0 fun i j => .int (Builtin.bitOr i j)) := rel_ii0 (g' := fun i j => .int (Builtin.bitOr i j)) (by
  intro st a b d e
  cases a <;> cases b <;> first | (cases e; exact ⟨_, _, rfl, rfl, rfl⟩) | cases e) fun _ _ _ _ _ => .int _
theorem rel_div : RelOp X dDiv (rI CDivW fun i j => .int (i / j)) := rel_ii (g' := fun i j => .int (i / j)) (by
  intro st a b d e
  cases a with
  | int i => cases b with
    | int j =>
      have e' : (if 0 < j ∧ j < big * big then some (D.int (i / j)) else none) = some d := e
      split at e'
      · rename_i h
        cases e'
        refine ⟨i, j, rfl, rfl, wide_div (b := 128) h.1 ?_ (by decide) (by decide), rfl⟩
        have h2 : j < 340282366920938463463374607431768211456 := h.2
        have : (2 : Nat) ^ 128 = 340282366920938463463374607431768211456 := by decide
        rw [this]
        omega
      · cases e'
    | _ => cases e
  | _ => cases e) fun _ _ _ _ _ => .int _
theorem rel_mod : RelOp X dMod (rI (fun _ j => 0 < j) fun i j => .int (i % j)) := rel_ii (g' := fun i j => .int (i % j)) (by
  intro st a b d e
  cases a with
  | int i => cases b with
    | int j =>
      have e' : (if 0 < j then some (D.int (i % j)) else none) = some d := e
      split at e'
      · rename_i h
        cases e'
        exact ⟨i, j, rfl, rfl, h, rfl⟩
      · cases e'
    | _ => cases e
  | _ => cases e) fun _ _ _ _ _ => .int _
theorem rel_pow : RelOp X dPow (rI CPow fun i j => .int (i ^ j.toNat)) := rel_ii (g' := fun i j => .int (i ^ j.toNat)) (by
  intro st a b d e
  cases a with
  | int i => cases b with
    | int j =>
      have e' : (if 0 ≤ j ∧ j ≤ 1000000 ∧ -big < i ∧ i < big then some (D.int (i ^ j.toNat)) else none) = some d := e
      split at e'
      · rename_i h
        cases e'
        refine ⟨i, j, rfl, rfl, ⟨h.1, h.2.1, ?_⟩, rfl⟩
        have h2 : -18446744073709551616 < i := h.2.2.1
        have h3 : i < 18446744073709551616 := h.2.2.2
        have : (2 : Nat) ^ 64 = 18446744073709551616 := by decide
        rw [this]
        omega
      · cases e'
    | _ => cases e
  | _ => cases e) fun _ _ _ _ _ => .int _
theorem rel_neg : RelUn X dNeg (rU fun i => .int (-i)) := by
  intro α Z H st x a d Q w hx e q
  cases a with
  | int i => cases e; cases hx; exact ⟨i, rfl, q H _ Ext.refl w (.int _)⟩
  | _ => cases e
/-! ### + and * of rows -/
def rPlusX (K : PySem.W.Frag) : R2 := fun x y H Q => ((rI0 fun i j => .int (i + j)) x y H Q) ∨ (rCatA K x y H Q ∨ ((∃ i j, x = .str i ∧ y = .str j ∧ i.length + j.length ≤ sizeLine ∧ Q (.str (i ++ j)) H) ∨ rCat x y H Q))
theorem op_plusX : OpR X (binaryOp .Add) (rPlusX X.K) := OpR.or op_add (OpR.or op_catA (OpR.or op_add_str op_cat))
theorem HasAll.nilD {vs : List V} {ds : List D} (h : HasAll K α Z H vs ds) : vs = [] ↔ ds = [] := by
  cases h <;> simp
theorem lst2_v {v : V} {d : D} {ds : List D} (w : Wd K α Z H st) (h : HasD K α Z H v d) (e : lst2? st d = some ds) : ∃ a xs, v = .ref a ∧ H a = some (.lst xs) ∧ HasAll K α Z H xs ds := by
  cases h with
  | @lst a xs _ s _ _ t => cases e; exact ⟨a, xs, rfl, s, t⟩
  | @ref a n hn =>
    have e' : (match st[n]? with | some (.lst ds) => some ds | _ => none) = some ds := e
    split at e'
    · rename_i ds' e2
      cases e'
      obtain ⟨xs, e1, ha⟩ := w.cell n a _ hn e2
      exact ⟨a, xs, rfl, e1, ha⟩
    · cases e'
  | _ => cases e
theorem addR_ok {x y : V} {a b d : D} {Q : VK} {oa : Option (List D)} (w : Wd X.K α Z H st) (hx : HasD X.K α Z H x a) (hy : HasD X.K α Z H y b) (ea : oa = lst2? st a) (e : addR oa (lst2? st b) = some d) (q : ∀ H' v, Ext α H α H' → Wd X.K α Z H' st → HasD X.K α Z H' v d → Q v H') : rPlusX X.K x y H Q := by
  subst ea
  cases e1 : lst2? st a with
  | none => rw [e1] at e; cases e
  | some xs => cases e2 : lst2? st b with
    | none => rw [e1, e2] at e; cases e
    | some ys =>
      rw [e1, e2] at e
      have e' : (if xs.length + ys.length ≤ sz then some (D.lst (xs ++ ys)) else none) = some d := e
      split at e'
      · rename_i hz
        cases e'
        obtain ⟨a1, vs, rfl, s1, h1⟩ := lst2_v w hx e1
        obtain ⟨a2, us, rfl, s2, h2⟩ := lst2_v w hy e2
        exact .inr (.inr (.inr ⟨a1, a2, vs, us, rfl, rfl, s1, s2, sz_le (by rw [h1.length, h2.length]; exact hz), fun p hp =>
              q _ _ (Ext.new hp) (w.newV hp) (.lst upd_same (w.new hp).1 (w.new hp).2 ((h1.app h2).ext (Ext.new hp)))⟩))
      · cases e'
theorem rel_plus : RelOp X dAdd (rPlusX X.K) := by
  intro α Z H st x y a b d Q w hx hy e q
  cases a with
  | int i => cases b with
    | int j => cases e; cases hx; cases hy; exact .inl ⟨i, j, rfl, rfl, q H _ Ext.refl w (.int _)⟩
    | _ => cases e
  | str x' => cases b with
    | str y' =>
      have e' : (if x'.length + y'.length ≤ sz then some (D.str (x' ++ y')) else none) = some d := e
      split at e'
      · rename_i hz
        cases e'; cases hx; cases hy
        exact .inr (.inr (.inl ⟨x', y', rfl, rfl, sz_le hz, q H _ Ext.refl w (.str _)⟩))
      · cases e'
    | _ => cases e
  | tup xs => cases b with
    | tup ys =>
      have e' : (if xs.length + ys.length ≤ sz then some (D.tup (xs ++ ys)) else none) = some d := e
      split at e'
      · rename_i hz
        cases e'
        cases hx with
        | @tup a1 vs _ s1 h1 => cases hy with
          | @tup a2 us _ s2 h2 =>
            refine .inr (.inl ⟨a1, a2, vs, us, rfl, rfl, s1, s2, sz_le (by rw [h1.length, h2.length]; exact hz), fun z => ?_, fun z1 z2 => ?_, fun z1 z2 p hp => ?_⟩)
            · have := h1.nilD.mp z
              subst this
              exact q H _ Ext.refl w (.tup s2 h2)
            · have := h2.nilD.mp z2
              subst this
              exact q H _ Ext.refl w (by rw [List.append_nil]; exact .tup s1 h1)
            · exact q _ _ (Ext.new hp) (w.newV hp) (.tup (.inl (.inl upd_same)) ((h1.app h2).ext (Ext.new hp)))
      · cases e'
    | _ => cases e
  | lst xs => cases b with
    | lst ys =>
      have e' : (if xs.length + ys.length ≤ sz then some (D.lst (xs ++ ys)) else none) = some d := e
      split at e'
      · rename_i hz
        cases e'
        cases hx with
        | @lst a1 vs _ s1 n1 z1 h1 => cases hy with
          | @lst a2 us _ s2 n2 z2 h2 =>
            exact .inr (.inr (.inr ⟨a1, a2, vs, us, rfl, rfl, s1, s2, sz_le (by rw [h1.length, h2.length]; exact hz), fun p hp =>
              q _ _ (Ext.new hp) (w.newV hp) (.lst upd_same (w.new hp).1 (w.new hp).2 ((h1.app h2).ext (Ext.new hp)))⟩))
      · cases e'
    | ref m => exact addR_ok w hx hy rfl e q
    | _ => cases e
  | ref n => exact addR_ok w hx hy rfl e q
  | _ => cases e
/-! ### data as the library has it -/
mutual
theorem dp0 : ∀ {v : V} {d : D} {p : PyData}, HasD K α Z H v d → d.py0 = some p → Dp K H v p
  | _, _, _, .non, e => by cases e; exact .non
  | _, _, _, .bl b, e => by cases e; exact .bl b
  | _, _, _, .int i, e => by cases e; exact .int i
  | _, _, _, .str x, e => by cases e; exact .str x
  | _, .tup ds, p, .tup s h, e => by
    have e' : (D.pys0 ds).map PyData.tuple = some p := by rw [← e, D.py0]
    cases q : D.pys0 ds with
    | none => rw [q] at e'; cases e'
    | some ps => rw [q] at e'; cases e'; exact .tup s (dps0 h q)
  | _, .lst ds, p, .lst s _ _ h, e => by
    have e' : (D.pys0 ds).map PyData.list = some p := by rw [← e, D.py0]
    cases q : D.pys0 ds with
    | none => rw [q] at e'; cases e'
    | some ps => rw [q] at e'; cases e'; exact .lst (.inl (.inl s)) (dps0 h q)
  | _, .ref n, p, .ref _, e => by rw [D.py0] at e; cases e
  | _, .scr n, p, .scr _ _, e => by rw [D.py0] at e; cases e
theorem dps0 : ∀ {vs : List V} {ds : List D} {ps : List PyData}, HasAll K α Z H vs ds → D.pys0 ds = some ps → DpAll K H vs ps
  | _, _, _, .nil, e => by rw [D.pys0] at e; cases e; exact .nil
  | _, d :: ds, ps, .cons h t, e => by
    rw [D.pys0] at e
    cases q : D.py0 d with
    | none => rw [q] at e; cases e
    | some p =>
      rw [q] at e
      cases q2 : D.pys0 ds with
      | none => rw [q2] at e; cases e
      | some ps' => rw [q2] at e; cases e; exact .cons (dp0 h q) (dps0 t q2)
end
mutual
theorem dp (w : Wd K α Z H st) : ∀ {v : V} {d : D} {p : PyData}, HasD K α Z H v d → d.py st = some p → Dp K H v p
  | _, _, _, .non, e => by rw [D.py] at e; cases e; exact .non
  | _, _, _, .bl b, e => by rw [D.py] at e; cases e; exact .bl b
  | _, _, _, .int i, e => by rw [D.py] at e; cases e; exact .int i
  | _, _, _, .str x, e => by rw [D.py] at e; cases e; exact .str x
  | _, .tup ds, p, .tup s h, e => by
    rw [D.py] at e
    cases q : D.pys st ds with
    | none => rw [q] at e; cases e
    | some ps => rw [q] at e; cases e; exact .tup s (dps w h q)
  | _, .lst ds, p, .lst s _ _ h, e => by
    rw [D.py] at e
    cases q : D.pys st ds with
    | none => rw [q] at e; cases e
    | some ps => rw [q] at e; cases e; exact .lst (.inl (.inl s)) (dps w h q)
  | _, .ref n, p, .ref (a := a) hn, e => by
    rw [D.py] at e
    split at e
    · rename_i ds e2
      obtain ⟨xs, e1, ha⟩ := w.cell n a _ hn e2
      cases q : D.pys0 ds with
      | none => rw [q] at e; cases e
      | some ps => rw [q] at e; cases e; exact .lst (.inl (.inl e1)) (dps0 ha q)
    · cases e
  | _, .scr n, p, .scr _ _, e => by rw [D.py] at e; cases e
theorem dps (w : Wd K α Z H st) : ∀ {vs : List V} {ds : List D} {ps : List PyData}, HasAll K α Z H vs ds → D.pys st ds = some ps → DpAll K H vs ps
  | _, _, _, .nil, e => by rw [D.pys] at e; cases e; exact .nil
  | _, d :: ds, ps, .cons h t, e => by
    rw [D.pys] at e
    cases q : D.py st d with
    | none => rw [q] at e; cases e
    | some p =>
      rw [q] at e
      cases q2 : D.pys st ds with
      | none => rw [q2] at e; cases e
      | some ps' => rw [q2] at e; cases e; exact .cons (dp w h q) (dps w t q2)
end
theorem eqD0_some {x y : D} {b : Bool} (e : eqD0 st x y = some b) : ∃ p q, x.py st = some p ∧ y.py st = some q ∧ SeqAt.shaped p = true ∧ SeqAt.shaped q = true ∧ b = PyData.eqv p q := by
  unfold eqD0 at e
  split at e
  · rename_i p q e1 e2
    split at e
    · rename_i h
      cases e
      exact ⟨p, q, e1, e2, h.1, h.2, rfl⟩
    · cases e
  · cases e
theorem eqD_some {x y : D} {b : Bool} (e : eqD st x y = some b) : (∃ u v, x = .str u ∧ y = .str v ∧ b = decide (u = v)) ∨ ∃ p q, x.py st = some p ∧ y.py st = some q ∧ SeqAt.shaped p = true ∧ SeqAt.shaped q = true ∧ b = PyData.eqv p q := by
  unfold eqD at e
  split at e
  · cases e; exact .inl ⟨_, _, rfl, rfl, rfl⟩
  · exact .inr (eqD0_some e)
def rEqS (K : PySem.W.Frag) : R2 := fun x y H Q => (∃ u v, x = .str u ∧ y = .str v ∧ Q (.bl (decide (u = v))) H) ∨ rEqD K x y H Q
def rNeS (K : PySem.W.Frag) : R2 := fun x y H Q => (∃ u v, x = .str u ∧ y = .str v ∧ Q (.bl (!decide (u = v))) H) ∨ rNeD K x y H Q
theorem dec_str {u v : Str} : decide (V.str u = V.str v) = decide (u = v) := by
  rw [Bool.eq_iff_iff]
  simp
theorem op_eqS {X : Cx} (hu : X.A.units + 64 < cLine) : OpR X (compareOp .Eq) (rEqS X.K) := by
  intro pins s σ H x y v u Q I rx ry h
  rcases h with ⟨a, b, rfl, rfl, q⟩ | h
  · exact op_eq pins s σ H _ _ v u Q I rx ry ⟨rfl, by rw [dec_str]; exact q⟩
  · exact op_eqD hu pins s σ H x y v u Q I rx ry h
theorem op_neS {X : Cx} (hu : X.A.units + 64 < cLine) : OpR X (compareOp .NotEq) (rNeS X.K) := by
  intro pins s σ H x y v u Q I rx ry h
  rcases h with ⟨a, b, rfl, rfl, q⟩ | h
  · exact op_ne pins s σ H _ _ v u Q I rx ry ⟨rfl, by rw [dec_str]; exact q⟩
  · exact op_neD hu pins s σ H x y v u Q I rx ry h
theorem rel_eq : RelOp X dEq (rEqS X.K) := by
  intro α Z H st x y a b d Q w hx hy e q
  unfold dEq at e
  cases h : eqD st a b with
  | none => rw [h] at e; cases e
  | some k =>
    rw [h] at e
    cases e
    rcases eqD_some h with ⟨u, v, rfl, rfl, rfl⟩ | ⟨p, r, e1, e2, s1, s2, rfl⟩
    · cases hx; cases hy
      exact .inl ⟨_, _, rfl, rfl, q H _ Ext.refl w (.bl _)⟩
    · exact .inr ⟨p, r, dp w hx e1, dp w hy e2, s1, s2, q H _ Ext.refl w (.bl _)⟩
theorem rel_ne : RelOp X dNe (rNeS X.K) := by
  intro α Z H st x y a b d Q w hx hy e q
  unfold dNe at e
  cases h : eqD st a b with
  | none => rw [h] at e; cases e
  | some k =>
    rw [h] at e
    cases e
    rcases eqD_some h with ⟨u, v, rfl, rfl, rfl⟩ | ⟨p, r, e1, e2, s1, s2, rfl⟩
    · cases hx; cases hy
      exact .inl ⟨_, _, rfl, rfl, q H _ Ext.refl w (.bl _)⟩
    · exact .inr ⟨p, r, dp w hx e1, dp w hy e2, s1, s2, q H _ Ext.refl w (.bl _)⟩
theorem gb_eq : GivesB dEq := fun st a b d e => by
  unfold dEq at e
  cases h : eqD st a b with
  | none => rw [h] at e; cases e
  | some k => rw [h] at e; cases e; exact ⟨_, rfl⟩
theorem gb_ne : GivesB dNe := fun st a b d e => by
  unfold dNe at e
  cases h : eqD st a b with
  | none => rw [h] at e; cases e
  | some k => rw [h] at e; cases e; exact ⟨_, rfl⟩
/-! ### is -/
def sing : V → Bool
  | .non => true
  | .bl _ => true
  | _ => false
def sameV : V → V → Bool
  | .non, .non => true
  | .bl a, .bl b => a == b
  | _, _ => false
def rIs1 : R2 := fun x y H Q => sing y = true ∧ Q (.bl (sameV x y)) H
def rIs0 : R2 := fun x y H Q => sing y = true ∧ Q (.bl (!sameV x y)) H
theorem is_val {x y : V} {v u : Value} (hs : sing y = true) (hx : RelV x v) (hy : RelV y u) : plainIs v u = true ∧ (v == u) = sameV x y := by
  cases y with
  | non =>
    cases (show u = Value.none from hy)
    cases x with
    | non => cases (show v = Value.none from hx); exact ⟨rfl, rfl⟩
    | bl b => cases (show v = Value.bool b from hx); exact ⟨rfl, rfl⟩
    | int i => obtain ⟨t, rfl⟩ := hx; exact ⟨rfl, rfl⟩
    | str i => obtain ⟨t, rfl⟩ := hx; exact ⟨rfl, rfl⟩
    | byt i => obtain ⟨t, rfl⟩ := hx; exact ⟨rfl, rfl⟩
    | flt i => obtain ⟨t, rfl⟩ := hx; exact ⟨rfl, rfl⟩
    | ref a => cases (show v = Value.ref a from hx); exact ⟨rfl, rfl⟩
    | ty a => cases (show v = Value.type a from hx); exact ⟨rfl, rfl⟩
  | bl c =>
    cases (show u = Value.bool c from hy)
    cases x with
    | non => cases (show v = Value.none from hx); exact ⟨rfl, rfl⟩
    | bl b =>
      cases (show v = Value.bool b from hx)
      refine ⟨rfl, ?_⟩
      cases b <;> cases c <;> rfl
    | int i => obtain ⟨t, rfl⟩ := hx; exact ⟨rfl, rfl⟩
    | str i => obtain ⟨t, rfl⟩ := hx; exact ⟨rfl, rfl⟩
    | byt i => obtain ⟨t, rfl⟩ := hx; exact ⟨rfl, rfl⟩
    | flt i => obtain ⟨t, rfl⟩ := hx; exact ⟨rfl, rfl⟩
    | ref a => cases (show v = Value.ref a from hx); exact ⟨rfl, rfl⟩
    | ty a => cases (show v = Value.type a from hx); exact ⟨rfl, rfl⟩
  | _ => cases hs
theorem op_is1 : OpR X (compareOp .Is) rIs1 := by
  intro pins s σ H x y v u Q I rx ry h
  obtain ⟨hs, q⟩ := h
  obtain ⟨h1, h2⟩ := is_val hs rx ry
  exact wpAny_is_plain h1 ⟨.bl _, H, I, rfl, by rw [h2]; exact q⟩
theorem op_is0 : OpR X (compareOp .IsNot) rIs0 := by
  intro pins s σ H x y v u Q I rx ry h
  obtain ⟨hs, q⟩ := h
  obtain ⟨h1, h2⟩ := is_val hs rx ry
  exact wpAny_isNot_plain h1 ⟨.bl _, H, I, rfl, by rw [h2]; exact q⟩
theorem same_val {x y : V} {a b : D} (hs : isSing b = true) (hx : HasD K α Z H x a) (hy : HasD K α Z H y b) : sing y = true ∧ sameV x y = sameS a b := by
  cases hy with
  | non => cases hx <;> exact ⟨rfl, rfl⟩
  | bl c => cases hx <;> exact ⟨rfl, rfl⟩
  | _ => cases hs
theorem rel_is : RelOp X dIs rIs1 := by
  intro α Z H st x y a b d Q w hx hy e q
  unfold dIs at e
  split at e
  · rename_i hs
    cases e
    obtain ⟨h1, h2⟩ := same_val hs hx hy
    exact ⟨h1, by rw [h2]; exact q H _ Ext.refl w (.bl _)⟩
  · cases e
theorem rel_isn : RelOp X dIsNot rIs0 := by
  intro α Z H st x y a b d Q w hx hy e q
  unfold dIsNot at e
  split at e
  · rename_i hs
    cases e
    obtain ⟨h1, h2⟩ := same_val hs hx hy
    exact ⟨h1, by rw [h2]; exact q H _ Ext.refl w (.bl _)⟩
  · cases e
theorem gb_is : GivesB dIs := fun st a b d e => by
  unfold dIs at e
  split at e
  · cases e; exact ⟨_, rfl⟩
  · cases e
theorem gb_isn : GivesB dIsNot := fun st a b d e => by
  unfold dIsNot at e
  split at e
  · cases e; exact ⟨_, rfl⟩
  · cases e
/-! ### items -/
theorem items_v {v : V} {d : D} {ds : List D} (w : Wd K α Z H st) (h : HasD K α Z H v d) (e : items? st d = some ds) : ∃ a xs, v = .ref a ∧ (SqL K H a xs ∨ SqT K H a xs) ∧ HasAll K α Z H xs ds := by
  cases h with
  | @tup a xs _ s t => cases e; exact ⟨a, xs, rfl, .inr s, t⟩
  | @lst a xs _ s _ _ t => cases e; exact ⟨a, xs, rfl, .inl (.inl (.inl s)), t⟩
  | @scr a xs _ s t => cases e; exact ⟨a, xs, rfl, .inl (s H FrzLe.refl), t⟩
  | @ref a n hn =>
    have e' : (match st[n]? with | some (.lst ds) => some ds | _ => none) = some ds := e
    split at e'
    · rename_i ds' e2
      cases e'
      obtain ⟨xs, e1, ha⟩ := w.cell n a _ hn e2
      exact ⟨a, xs, rfl, .inl (.inl (.inl e1)), ha⟩
    · cases e'
  | _ => cases e
theorem atI_all {xs : List V} {ds : List D} {i : Int} {d : D} (h : HasAll K α Z H xs ds) (e : atI ds i = some d) : ∃ v, atI xs i = some v ∧ HasD K α Z H v d := by
  unfold atI at e ⊢
  rw [h.length]
  cases q : ixN ds.length i with
  | none => rw [q] at e; cases e
  | some j =>
    rw [q] at e
    exact h.get e
theorem find_has : ∀ {ws : List (Key × V)} {kvs : List (Key × D)} {k : Key} {d : D}, ws.map (·.1) = kvs.map (·.1) → HasAll K α Z H (ws.map (·.2)) (kvs.map (·.2)) → (kvs.find? fun kv => decide (kv.1 = k)).map (·.2) = some d → ∃ v, valV ws k = some v ∧ HasD K α Z H v d
  | [], [], k, d, _, _, e => by simp at e
  | [], _ :: _, _, _, hk, _, _ => by simp at hk
  | _ :: _, [], _, _, hk, _, _ => by simp at hk
  | (k1, v1) :: ws, (k2, d2) :: kvs, k, d, hk, h, e => by
    simp only [List.map_cons, List.cons.injEq] at hk
    obtain ⟨rfl, hk⟩ := hk
    cases h with
    | cons h1 h2 =>
      by_cases q : k1 = k
      · have e1 : (List.find? (fun kv : Key × D => decide (kv.1 = k)) ((k1, d2) :: kvs)) = some (k1, d2) := by simp [List.find?_cons, q]
        rw [e1] at e
        cases e
        exact ⟨v1, by unfold valV; simp [List.find?_cons, q], h1⟩
      · have e1 : (List.find? (fun kv : Key × D => decide (kv.1 = k)) ((k1, d2) :: kvs)) = List.find? (fun kv : Key × D => decide (kv.1 = k)) kvs := by simp [List.find?_cons, q]
        rw [e1] at e
        obtain ⟨v, e2, e3⟩ := find_has hk h2 e
        exact ⟨v, by unfold valV at e2 ⊢; simp [List.find?_cons, q]; simpa using e2, e3⟩
def rIxX (K : PySem.W.Frag) : R2 := fun x y H Q => rIx K x y H Q
theorem rel_ix {x y : V} {a b d : D} {Q : VK} (w : Wd K α Z H st) (hx : HasD K α Z H x a) (hy : HasD K α Z H y b) (e : dItem st a b = some d) (q : ∀ v, HasD K α Z H v d → Q v H) :
    rIx K x y H Q ∨ ∃ p v, x = .ref p ∧ DGet H p y (some v) ∧ Q v H := by
  unfold dItem at e
  cases b with
  | int i =>
    cases hy
    simp only at e
    split at e
    · rename_i ds e1
      obtain ⟨p, xs, rfl, hs, ha⟩ := items_v w hx e1
      obtain ⟨v, e2, e3⟩ := atI_all ha e
      rcases hs with hs | hs
      · exact .inl (.inl ⟨p, xs, i, v, rfl, rfl, hs, e2, q v e3⟩)
      · exact .inl (.inr (.inl ⟨p, xs, i, v, rfl, rfl, hs, e2, q v e3⟩))
    · rename_i e1
      cases hx with
      | str z =>
        simp only at e
        split at e
        · rename_i hz
          cases h : atI z.cps.toList i with
          | none => rw [h] at e; cases e
          | some c => rw [h] at e; cases e; exact .inl (.inr (.inr ⟨z, i, c, rfl, rfl, sz_le hz, h, q _ (.str _)⟩))
        · cases e
      | @ref p n hn =>
        simp only at e
        split at e
        · rename_i kvs e2
          obtain ⟨ws, e3, hk, ha⟩ := w.cell n p _ hn e2
          obtain ⟨v, e4, e5⟩ := find_has hk ha e
          exact .inr ⟨p, v, rfl, by rw [← e4]; exact DGet.k (k := Sum.inl i) e3, q v e5⟩
        · cases e
      | _ => cases e
  | str k =>
    cases hy
    cases hx with
    | @ref p n hn =>
      simp only at e
      split at e
      · rename_i kvs e2
        obtain ⟨ws, e3, hk, ha⟩ := w.cell n p _ hn e2
        obtain ⟨v, e4, e5⟩ := find_has hk ha e
        exact .inr ⟨p, v, rfl, by rw [← e4]; exact DGet.k (k := Sum.inr k) e3, q v e5⟩
      · cases e
    | _ => cases e
  | _ => cases e
end
end Mn

namespace Mn
open PySem PySem.Spec PyProof.Rows L2
section
variable {prog : Program} {w : World} {A : Around} {E : Value → Shared → Prop} {s : Shared}
theorem adjust_rev (n : Nat) : Builtin.Slice.sliceAdjust none none (-1) (n : Int) = ((n : Int) - 1, -1) := by
  unfold Builtin.Slice.sliceAdjust
  simp
theorem places_rev (n : Nat) : Builtin.Slice.slicePlaces ((n : Int) - 1) (-1) (-1) = n := by
  unfold Builtin.Slice.slicePlaces
  simp
  split <;> omega
theorem applied_rev {sl : Addr} {vk : Value} {n : Nat} {Q : Int × Int × Nat → Shared → Prop} (hs : s.heap.IsSliceOf sl .none .none vk) (pk : IsPart vk (some (-1)))
    (h : Q ((n : Int) - 1, -1, n) s) : wpAny (model prog w) A (Builtin.Slice.sliceApplied (.ref sl) (pure (n : Int))) Q E s := by
  obtain ⟨os, hos, hcs, hds⟩ := id hs
  unfold Builtin.Slice.sliceApplied Builtin.Slice.sliceFields
  refine wpAny_bind (wpAny_bind (wpAny_field hos hds (x := .none) rfl (wpAny_bind (wpAny_field hos hds (x := .none) rfl (wpAny_bind (wpAny_field hos hds (x := vk) rfl (wpAny_pure ?_)))))))
  refine wpAny_bind (HT.slicePart_ pk ?_)
  show wpAny _ _ (if ((-1 : Int) == 0) = true then _ else _) _ _ s
  rw [if_neg (by decide)]
  refine wpAny_bind (HT.slicePart_ .none (wpAny_bind (HT.slicePart_ .none (wpAny_bind (wpAny_pure ?_)))))
  show wpAny _ _ (match Builtin.Slice.sliceAdjust none none (-1) (n : Int) with | (lo, hi) => pure (lo, (-1 : Int), Builtin.Slice.slicePlaces lo hi (-1))) _ _ s
  rw [adjust_rev n]
  show wpAny _ _ (pure ((n : Int) - 1, (-1 : Int), Builtin.Slice.slicePlaces ((n : Int) - 1) (-1) (-1))) _ _ s
  rw [places_rev]
  exact wpAny_pure h
theorem fm_congr {α β : Type} {f g : α → Option β} : ∀ {l : List α}, (∀ a ∈ l, f a = g a) → l.filterMap f = l.filterMap g
  | [], _ => rfl
  | a :: l, h => by rw [List.filterMap_cons, List.filterMap_cons, h a List.mem_cons_self, fm_congr fun b m => h b (List.mem_cons_of_mem _ m)]
theorem pick_rev (xs : Array Value) : ((List.range xs.size).filterMap fun (m : Nat) => xs[(((xs.size : Nat) : Int) - 1 + (m : Int) * -1).toNat]?).toArray = xs.toList.reverse.toArray := by
  have e : (List.range xs.size).filterMap (fun (m : Nat) => xs[(((xs.size : Nat) : Int) - 1 + (m : Int) * -1).toNat]?) = ((List.range xs.size).map fun k => xs.size - 1 - k).filterMap (xs[·]?) := by
    rw [List.filterMap_map]
    refine fm_congr fun m hm => ?_
    have := List.mem_range.mp hm
    have e : (((xs.size : Nat) : Int) - 1 + (m : Int) * -1).toNat = xs.size - 1 - m := by omega
    rw [e]
    rfl
  rw [e, PySem.W.krv_range, List.filterMap_reverse, PySem.W.krv_all]
theorem getItem_tuple_rev {t sl : Addr} {items : Array Value} {vk : Value} {Q : Value → Shared → Prop} (ht : IsTup s.heap t items) (hs : s.heap.IsSliceOf sl .none .none vk) (pk : IsPart vk (some (-1)))
    (h : Q (.ref s.heap.objs.size) { s with heap := s.heap.push { cls := .type "tuple", data := .seq items.toList.reverse.toArray } })
    (hsz : items.size ≤ sizeLine) : wpAny (model prog w) A (getItem (.ref t) (.ref sl)) Q E s := by
  have htake : sizeOk (.seq items.toList.reverse.toArray) := by
    show items.toList.reverse.toArray.size ≤ sizeLine
    rw [List.size_toArray, List.length_reverse, Array.length_toList]
    exact hsz
  obtain ⟨os, hos, hcs, hds⟩ := id hs
  have hTs : s.TypeIs (.ref sl) "slice" := ⟨os, hos, hcs⟩
  unfold getItem
  try with_reducible refine wpAny_holding ?_
  first | refine wpAny_bind (wpAny_pure ?_) | skip
  refine wpAny_bind (wpAny_sequenceKey ht.typeIs (by decide) ?_)
  refine wpAny_bind (wpAny_callSpecial?_slot (name := Str.ofString "__getitem__") ht.typeIs PyProof.Rows.slot_tuple_getitem
    (wpAny_call_entry PyProof.Rows.slot_tuple_getitem ht.typeIs entry_tuple_getitem ?_ (args_tuple_getitem _ _)))
  show wpAny _ _ (Builtin.Tuple.tupleItemsOf (.ref t) >>= _) _ _ s
  refine wpAny_bind (tupleItemsOf_ ht ?_)
  refine wpAny_bind (wpAny_typeOf hTs ?_)
  rw [if_pos (by decide)]
  refine wpAny_bind (applied_rev hs pk ?_)
  have hno : ¬ (((((items.size : Nat) : Int) - 1) == 0 && (-1 : Int) == 1 && items.size == items.size) = true) := by
    simp
  show wpAny _ _ (if ((((items.size : Nat) : Int) - 1) == 0 && (-1 : Int) == 1 && items.size == items.size) = true then _ else _) _ _ s
  rw [if_neg hno, pick_rev]
  first
    | exact wpAny_bind (m := Builtin.Tuple.tupleExact _) (wpAny_newObj_type (wpAny_pure ⟨_, rfl, wpAny_pure h⟩) htake)
    | exact wpAny_bind (m := Builtin.Tuple.tupleExact _) (wpAny_newObj_type (wpAny_bind (wpAny_pure (wpAny_pure ⟨_, rfl, wpAny_pure h⟩))) htake)
    | exact wpAny_bind (wpAny_bind (m := Builtin.Tuple.tupleExact _) (wpAny_newObj_type (wpAny_pure (wpAny_pure ⟨_, rfl, wpAny_pure h⟩)) htake))
    | exact wpAny_bind (wpAny_bind (m := Builtin.Tuple.tupleExact _) (wpAny_newObj_type (wpAny_pure ⟨_, rfl, wpAny_pure h⟩) htake))
end
def tRevS (K : PySem.W.Frag) (te : TE) (tk : TO) : TE := fun σ H Q => te σ H fun x H1 => tk σ H1 fun k H2 => ∃ a xs, k = some (-1) ∧ x = .ref a ∧ ((SqT K H2 a xs ∧ ∀ p, H2 p = none → Q (.ref p) (upd H2 p (.tup xs.reverse))) ∨ (SqL K H2 a xs ∧ ∀ p, H2 p = none → Q (.ref p) (upd H2 p (.lst xs.reverse))))
theorem pe_revS {X : Cx} {e k : Expr} {te : TE} {tk : TO} {p2 pos : Pos} (he : PE X e te) (hk : PO X (some k) tk) : PE X (.Subscript e (.Slice none none (some k) p2) pos) (tRevS X.K te tk) := by
  refine ⟨fun pins s σ H Q I h => ?_⟩
  refine Subscript_ (thn (he.run pins s σ H _ I h) fun v s1 ⟨x, H1, I1, r1, q1⟩ => ?_)
  refine wpAny_Slice ?_
  rw [evalPart_none]
  refine wpAny_pure (wpAny_pure ?_)
  refine thn (hk.run pins s1 σ H1 _ I1 q1) fun vk s2 ⟨o, H2, I2, pk, q2⟩ => ?_
  obtain ⟨a, xs, rfl, rfl, hx⟩ := q2
  obtain rfl : v = Value.ref a := r1
  have I4 : Inv X pins σ H2 { s2 with heap := s2.heap.push { cls := .type "slice", data := .fields #[.none, .none, vk] } } := I2.kept (t' := s2.toks) fun b ob q => Heap.get?_push_of_some _ q
  rcases hx with ⟨hx, q⟩ | ⟨hx, q⟩
  rotate_left
  · obtain ⟨its, r, ht, hz⟩ := I4.list hx
    show wpAny (model X.prog X.w) X.A (subscriptTail e (.Slice none none (some k) p2) (.ref a) (.ref s2.heap.objs.size)) (EP X pins σ Q) X.xe { s2 with heap := s2.heap.push { cls := .type "slice", data := .fields #[.none, .none, vk] } }
    refine tail_any (ops := [.ref a, .ref s2.heap.objs.size]) ht.isList.typeIs slot_list_getitem.lookup (wpAny_getItem_list_slice ht.isList (Heap.IsSliceOf.new ..) .none .none pk (by simp) ?_ (by rw [List.size_toArray, ← r.length]; exact hz)) (by with_unfolding_all rfl)
    rw [PySem.W.krv_pick]
    refine ⟨.ref _, _, I4.laid (o := .lst xs.reverse) (fun b ob q => Heap.get?_push_of_some _ q) (Nat.le_refl _) ?_, rfl, q _ (I4.hok.fresh (Nat.le_refl _))⟩
    exact ⟨by rw [List.length_reverse]; exact hz, _, 0, r.reverse, Heap.get?_push_size _ rfl⟩
  obtain ⟨its, r, ht, hz⟩ := I4.tuple hx
  show wpAny (model X.prog X.w) X.A (subscriptTail e (.Slice none none (some k) p2) (.ref a) (.ref s2.heap.objs.size)) (EP X pins σ Q) X.xe { s2 with heap := s2.heap.push { cls := .type "slice", data := .fields #[.none, .none, vk] } }
  refine tail_any (ops := [.ref a, .ref s2.heap.objs.size]) ht.typeIs PyProof.Rows.slot_tuple_getitem.lookup (getItem_tuple_rev ht (Heap.IsSliceOf.new ..) pk ?_ (by rw [List.size_toArray, ← r.length]; exact hz)) (by with_unfolding_all rfl)
  refine ⟨.ref _, _, I4.laid (o := .tup xs.reverse) (fun b ob q => Heap.get?_push_of_some _ q) (Nat.le_refl _) ?_, rfl, q _ (I4.hok.fresh (Nat.le_refl _))⟩
  refine ⟨?_, _, r.reverse, ?_⟩
  · show xs.reverse.length ≤ sizeLine
    rw [List.length_reverse]
    exact hz
  · exact IsTup.new _ _

section
variable {X : Cx} {W : WX} {Z α : List Addr} {H : Hp} {st : Store} {K : PySem.W.Frag} {k : Nat} {σ : L2.St} {en : Env}
/-! ### subscripts -/
theorem tailD {prog : Program} {w : World} {A : Around} {E : Value → Shared → Prop} {s : Shared} {value slice : Expr} {o i : Value} {Q : Value → Shared → Prop} (hT : s.TypeIs o "dict") (hs : subscripted slice false o i = operate [o, i] (getItem o i))
    (h : wpAny (model prog w) A (getItem o i) Q E s) : wpAny (model prog w) A (subscriptTail value slice o i) Q E s := by
  unfold subscriptTail
  refine wpAny_bind ?_
  rw [getitemInPython_of_ne hT.not_modules]
  refine wpAny_bind (wpAny_specialOf hT PySem.F.slot_dict_getitem.lookup ?_)
  have fin : wpAny (model prog w) A (subscripted slice false o i) (fun r s₃ => wpAny (model prog w) A (letTemporaryGo value o r >>= fun _ => pure r) Q E s₃) E s := by
    rw [hs]
    exact wpAny_operating (wpAny_mono h (fun r s₃ h₃ => wpAny_bind (wpAny_letTemporaryGo (wpAny_pure h₃))) fun _ _ x => x)
  first
    | exact wpAny_pure (wpAny_bind fin)
    | exact wpAny_bind (wpAny_pure (wpAny_bind fin))
    | exact wpAny_bind fin
def rItem (K : PySem.W.Frag) : R2 := fun x y H Q => rIx K x y H Q ∨ ∃ p v, x = .ref p ∧ DGet H p y (some v) ∧ Q v H
theorem ix_any (hu : X.A.units + 1 < cLine) : IxR X (rItem X.K) := by
  intro value slice pins s σ H x y v u Q I rx ry h hs
  rcases h with h | ⟨p, z, rfl, g, q⟩
  · exact ix_seq value slice pins s σ H x y v u Q I rx ry h hs
  · obtain rfl : v = Value.ref p := rx
    exact tailD (dict_typeIs I g) hs (d_getItem hu I g ry fun w' s3 I3 rw' => ⟨z, H, I3, rw', q⟩)
theorem rel_item : RelOp X dItem (rItem X.K) := by
  intro α Z H st x y a b d Q w hx hy e q
  exact rel_ix w hx hy e fun v hv => q H v Ext.refl w hv
theorem se_sub {a b : Expr} {pos : Pos} {ma mb : E} (g : Gd X W k) (ha : PE X a (tM X W ma)) (hb : PE X b (tM X W mb)) (hs : PlainIx b) : PE X (.Subscript a b pos) (tM X W (eOp dItem ma mb)) :=
  PE.imp (pe_ix (ix_any (by have := g.room.units; omega)) ha hb hs) fun σ H Q ⟨α, Z, en, st, w, s, q⟩ => top_of rel_item w s q
/-! ### slices -/
def rSlX (K : PySem.W.Frag) : V → Option Int → Option Int → Hp → VK → Prop := fun x lo hi H Q => rSlA K x lo hi H Q ∨ (rSlL K x lo hi H Q ∨ rSlS x lo hi H Q)
theorem sl_any : SlR X (rSlX X.K) := SlR.or sl_tupA (SlR.or sl_list sl_str)
theorem HasAll.cut {vs : List V} {ds : List D} (h : HasAll K α Z H vs ds) (lo hi : Option Int) : HasAll K α Z H (cutV vs lo hi) (cutD ds lo hi) := by
  unfold cutV cutD
  rw [h.length]
  exact (h.drop _).take _
theorem cut_all {ds : List D} {lo hi : Option Int} (h : HT.sIx ds.length 0 lo = 0 ∧ HT.sIx ds.length ds.length hi = ds.length) : cutD ds lo hi = ds := by
  unfold cutD
  rw [h.1, h.2]
  simp
theorem slice_v {x : V} {a d : D} {lo hi : Option Int} {Q : VK} (w : Wd K α Z H st) (hx : HasD K α Z H x a) (e : dSlice st a lo hi = some d)
    (q : ∀ H' v, Ext α H α H' → Wd K α Z H' st → HasD K α Z H' v d → Q v H') : rSlX K x lo hi H Q := by
  have sq : ∀ {p : Addr} {xs : List V} {ds : List D}, SqL K H p xs → HasAll K α Z H xs ds → x = .ref p → d = .lst (cutD ds lo hi) → rSlX K x lo hi H Q := by
    intro p xs ds hs h e1 e2
    subst e1; subst e2
    exact .inr (.inl ⟨p, xs, rfl, hs, fun r hr => q _ _ (Ext.new hr) (w.newV hr) (.lst upd_same (w.new hr).1 (w.new hr).2 ((h.cut lo hi).ext (Ext.new hr)))⟩)
  cases hx with
  | @tup p xs ds s h =>
    have e' : some (D.tup (cutD ds lo hi)) = some d := e
    cases e'
    refine .inl ⟨p, xs, rfl, s, fun hw => ?_, fun _ r hr => q _ _ (Ext.new hr) (w.newV hr) (.tup (.inl (.inl upd_same)) ((h.cut lo hi).ext (Ext.new hr)))⟩
    rw [h.length] at hw
    exact q H _ Ext.refl w (by rw [cut_all hw]; exact .tup s h)
  | str z =>
    have e' : (if z.length ≤ sz then some (D.str (cutS z lo hi)) else none) = some d := e
    split at e'
    · rename_i hz
      cases e'
      exact .inr (.inr ⟨z, rfl, sz_le hz, q H _ Ext.refl w (.str _)⟩)
    · cases e'
  | @lst p xs ds s n z h => cases e; exact sq (.inl (.inl s)) h rfl rfl
  | @scr p xs ds s h => cases e; exact sq (s H FrzLe.refl) h rfl rfl
  | @ref p n hn =>
    have e' : (match st[n]? with | some (.lst ds) => some ds | _ => none).map (fun ds => D.lst (cutD ds lo hi)) = some d := e
    split at e'
    · rename_i ds e2
      cases e'
      obtain ⟨xs, e1, ha⟩ := w.cell n p _ hn e2
      exact sq (.inl (.inl e1)) ha rfl rfl
    · cases e'
  | _ => cases e
def tMo (X : Cx) (W : WX) (m : Env → Store → Res (Option Int)) : TO := fun σ H Q => ∃ α Z en st, Wd X.K α Z H st ∧ Sl X.K α Z H σ en ∧ Post X W Z (fun _ _ v d => v = d) α H σ Q (m en st)
structure PO.imp_ : Prop where
theorem so_imp {e : Option Expr} {t t' : TO} (h : PO X e t) (q : ∀ σ H Q, t' σ H Q → t σ H Q) : PO X e t' := ⟨fun pins s σ H Q I x => h.run pins s σ H Q I (q σ H Q x)⟩
theorem so_none : PO X none (tMo X W (evO none)) := so_imp po_none fun σ H Q ⟨α, Z, en, st, w, s, q⟩ => q α H none Ext.refl w rfl
theorem so_some {e : Expr} {m : E} (h : PE X e (tM X W m)) : PO X (some e) (tMo X W (evO (some m))) := so_imp (po_some h) fun σ H Q ⟨α, Z, en, st, w, s, q⟩ => by
  refine tM_of m w s (Post.mono (Post.bnd (R := RD X Z) q) fun v H1 ⟨α1, st1, d, e1, w1, x1, h1⟩ => ?_)
  cases d with
  | int i => cases x1; exact ⟨i, rfl, h1 α1 H1 (some i) Ext.refl w1 rfl⟩
  | _ => exact h1.elim
theorem se_slice {a : Expr} {lo hi : Option Expr} {p pos : Pos} {ma : E} {ml mh : Option E} (ha : PE X a (tM X W ma)) (hl : PO X lo (tMo X W (evO ml))) (hh : PO X hi (tMo X W (evO mh))) : PE X (.Subscript a (.Slice lo hi none p) pos) (tM X W (eSlice ma ml mh)) :=
  PE.imp (pe_slice sl_any ha hl hh) fun σ H Q ⟨α, Z, en, st, w, s, q⟩ => by
    refine tM_of ma w s (Post.mono (Post.bnd (R := RD X Z) q) fun v H1 ⟨α1, st1, d, e1, w1, x1, h1⟩ => ?_)
    refine ⟨α1, Z, en, st1, w1, s.ext e1, Post.mono (Post.bnd (R := fun _ _ v d => v = d) h1) fun l H2 ⟨α2, st2, d2, e2, w2, x2, h2⟩ => ?_⟩
    subst x2
    refine ⟨α2, Z, en, st2, w2, (s.ext e1).ext e2, Post.mono (Post.bnd (R := fun _ _ v d => v = d) h2) fun u H3 ⟨α3, st3, d3, e3, w3, x3, h3⟩ => ?_⟩
    subst x3
    obtain ⟨d4, e4, q4⟩ := post_ofO h3
    exact slice_v w3 ((x1.ext e2).ext e3) e4 q4
theorem se_rev {a k : Expr} {p pos : Pos} {ma mk : E} (ha : PE X a (tM X W ma)) (hk : PO X (some k) (tMo X W (evO (some mk)))) : PE X (.Subscript a (.Slice none none (some k) p) pos) (tM X W (eRev ma mk)) :=
  PE.imp (pe_revS ha hk) fun σ H Q ⟨α, Z, en, st, w, s, q⟩ => by
    refine tM_of ma w s (Post.mono (Post.bnd (R := RD X Z) q) fun v H1 ⟨α1, st1, d, e1, w1, x1, h1⟩ => ?_)
    refine ⟨α1, Z, en, st1, w1, s.ext e1, Post.mono (Post.bnd (R := fun _ _ v d => v = d) h1) fun l H2 ⟨α2, st2, d2, e2, w2, x2, h2⟩ => ?_⟩
    subst x2
    cases x1 with
    | @tup b xs ds hs hx =>
      simp only at h2
      split at h2
      · rename_i hl
        exact ⟨b, xs, hl, rfl, .inl ⟨e2.sqT hs, fun r hr => h2 α2 _ _ (Ext.new hr) (w2.newV hr) (.tup (.inl (.inl upd_same)) ((hx.ext e2).rev.ext (Ext.new hr)))⟩⟩
      · exact h2.elim
    | @lst b xs ds hs hn hzz hx =>
      simp only at h2
      split at h2
      · rename_i hl
        exact ⟨b, xs, hl, rfl, .inr ⟨.inl (.inl (e2.lst _ _ hn hs)), fun r hr => h2 α2 _ _ (Ext.new hr) (w2.newV hr) (.lst upd_same (w2.new hr).1 (w2.new hr).2 ((hx.ext e2).rev.ext (Ext.new hr)))⟩⟩
      · exact h2.elim
    | _ => exact h2.elim
/-! ### functions of Python's own -/
theorem all1 {vs : List V} {d : D} (h : HasAll K α Z H vs [d]) : ∃ v, vs = [v] ∧ HasD K α Z H v d := by
  cases h with
  | cons h1 t => cases t; exact ⟨_, rfl, h1⟩
theorem all2 {vs : List V} {a b : D} (h : HasAll K α Z H vs [a, b]) : ∃ u v, vs = [u, v] ∧ HasD K α Z H u a ∧ HasD K α Z H v b := by
  cases h with
  | cons h1 t => cases t with
    | cons h2 t => cases t; exact ⟨_, _, rfl, h1, h2⟩
def rLenX (K : PySem.W.Frag) : List V → Hp → VK → Prop := fun xs H Q => (∃ x n, xs = [x] ∧ LenV K x H n ∧ Q (.int n) H) ∨ ∃ a kvs, xs = [V.ref a] ∧ H a = some (.dK kvs) ∧ Q (.int kvs.length) H
theorem call_lenX : CallR X (.builtin "len") (rLenX X.K) := CallR.or call_len call_lenD
theorem len_items {x : D} {d : D} (h : (items? st x).map (fun ds => D.int ds.length) = some d) : ∃ ds, items? st x = some ds ∧ d = .int ds.length := by
  cases q : items? st x with
  | none => rw [q] at h; cases h
  | some ds => rw [q] at h; cases h; exact ⟨ds, rfl, rfl⟩
theorem rel_len : RelCall X fLen (rLenX X.K) := by
  intro α Z H st xs as d Q w h e q
  have lit : ∀ x ds, as = [x] → items? st x = some ds → d = .int ds.length → rLenX X.K xs H Q := by
    intro x ds e1 e2 e3
    subst e1; subst e3
    obtain ⟨v, rfl, hv⟩ := all1 h
    obtain ⟨a, xs, rfl, hs, ha⟩ := items_v w hv e2
    refine .inl ⟨_, ds.length, rfl, ?_, q H _ Ext.refl w (.int _)⟩
    rcases hs with hs | hs
    · exact .inl ⟨xs, hs, ha.length.symm⟩
    · exact .inr ⟨xs, hs, ha.length.symm⟩
  match as, e with
  | [.str z], e =>
    have e' : (if z.length ≤ sz then some (D.int z.length) else none) = some d := e
    split at e'
    · rename_i hz
      cases e'
      obtain ⟨v, rfl, hv⟩ := all1 h
      cases hv
      exact .inl ⟨_, z.length, rfl, ⟨sz_le hz, rfl⟩, q H _ Ext.refl w (.int _)⟩
    · cases e'
  | [.ref n], e =>
    have e' : (match st[n]? with | some (.lst ds) => some (D.int ds.length) | some (.dct kvs) => some (D.int kvs.length) | none => none) = some d := e
    obtain ⟨v, rfl, hv⟩ := all1 h
    cases hv with
    | @ref p _ hn =>
      split at e'
      · rename_i ds e2
        exact lit (.ref n) ds rfl (by show (match st[n]? with | some (.lst ds) => some ds | _ => none) = some ds; rw [e2]) (by cases e'; rfl)
      · rename_i kvs e2
        cases e'
        obtain ⟨ws, e3, hk, ha⟩ := w.cell n p _ hn e2
        have := congrArg List.length hk
        simp only [List.length_map] at this
        exact .inr ⟨p, ws, rfl, e3, by rw [this]; exact q H _ Ext.refl w (.int _)⟩
      · cases e'
  | [.tup ds], e => exact lit (.tup ds) ds rfl rfl (by cases e; rfl)
  | [.lst ds], e => exact lit (.lst ds) ds rfl rfl (by cases e; rfl)
  | [.scr ds], e => exact lit (.scr ds) ds rfl rfl (by cases e; rfl)
  | [.non], e => cases e
  | [.bl _], e => cases e
  | [.int _], e => cases e
  | [], e => cases e
  | a :: b :: c, e => exact nomatch (show none = some d by rw [← e]; cases a <;> rfl)
theorem rel_abs : RelCall X fAbs (fun xs H Q => ∃ i, xs = [.int i] ∧ Q (.int (if i < 0 then -i else i)) H) := by
  intro α Z H st xs as d Q w h e q
  match as, e with
  | [.int i], e =>
    cases e
    obtain ⟨v, rfl, hv⟩ := all1 h
    cases hv
    exact ⟨i, rfl, q H _ Ext.refl w (.int _)⟩
theorem rel_min : RelCall X fMin (fun xs H Q => ∃ i j, xs = [.int i, .int j] ∧ Q (.int (if j < i then j else i)) H) := by
  intro α Z H st xs as d Q w h e q
  match as, e with
  | [.int i, .int j], e =>
    cases e
    obtain ⟨u, v, rfl, hu, hv⟩ := all2 h
    cases hu; cases hv
    exact ⟨i, j, rfl, q H _ Ext.refl w (.int _)⟩
theorem rel_max : RelCall X fMax (fun xs H Q => ∃ i j, xs = [.int i, .int j] ∧ Q (.int (if j > i then j else i)) H) := by
  intro α Z H st xs as d Q w h e q
  match as, e with
  | [.int i, .int j], e =>
    cases e
    obtain ⟨u, v, rfl, hu, hv⟩ := all2 h
    cases hu; cases hv
    exact ⟨i, j, rfl, q H _ Ext.refl w (.int _)⟩
theorem rel_int : RelCall X fInt (fun xs H Q => (∃ i, xs = [.int i] ∧ Q (.int i) H) ∨ ∃ k, xs = [.bl k] ∧ Q (.int (if k then 1 else 0)) H) := by
  intro α Z H st xs as d Q w h e q
  match as, e with
  | [.int i], e =>
    cases e
    obtain ⟨v, rfl, hv⟩ := all1 h
    cases hv
    exact .inl ⟨i, rfl, q H _ Ext.refl w (.int _)⟩
  | [.bl i], e =>
    cases e
    obtain ⟨v, rfl, hv⟩ := all1 h
    cases hv
    exact .inr ⟨i, rfl, q H _ Ext.refl w (.int _)⟩
theorem rel_ord : RelCall X fOrd (fun xs H Q => ∃ x, xs = [.str x] ∧ x.length = 1 ∧ Q (.int (x.cps.getD 0 0 : Nat)) H) := by
  intro α Z H st xs as d Q w h e q
  match as, e with
  | [.str i], e =>
    have e' : (if i.length = 1 then some (D.int (i.cps.getD 0 0 : Nat)) else none) = some d := e
    split at e'
    · rename_i hz
      cases e'
      obtain ⟨v, rfl, hv⟩ := all1 h
      cases hv
      exact ⟨i, rfl, hz, q H _ Ext.refl w (.int _)⟩
    · cases e'
theorem rel_str : RelCall X fStr (fun xs H Q => (∃ i, xs = [.int i] ∧ i.natAbs.log2 < 1920 ∧ Q (.str (toString i)) H) ∨ ∃ a, xs = [.str a] ∧ Q (.str a) H) := by
  intro α Z H st xs as d Q w h e q
  match as, e with
  | [.int i], e =>
    have e' : (if bits i < 1920 then some (D.str (toString i)) else none) = some d := e
    split at e'
    · rename_i hz
      cases e'
      obtain ⟨v, rfl, hv⟩ := all1 h
      cases hv
      exact .inl ⟨i, rfl, hz, q H _ Ext.refl w (.str _)⟩
    · cases e'
  | [.str i], e =>
    cases e
    obtain ⟨v, rfl, hv⟩ := all1 h
    cases hv
    exact .inr ⟨i, rfl, q H _ Ext.refl w (.str _)⟩
theorem map_some {β γ : Type} {o : Option β} {f : β → γ} {d : γ} (h : o.map f = some d) : ∃ b, o = some b ∧ d = f b := by
  cases o with
  | none => cases h
  | some b => cases h; exact ⟨b, rfl, rfl⟩
theorem rel_tuple : RelCall X fTuple (fun xs H Q => ∃ p ys, xs = [.ref p] ∧ ((SqL X.K H p ys ∧ ∀ l, H l = none → Q (.ref l) (upd H l (.tup ys))) ∨ (SqT X.K H p ys ∧ Q (.ref p) H))) := by
  intro α Z H st xs as d Q w h e q
  match as, e with
  | [x], e =>
    obtain ⟨ds, e1, rfl⟩ := map_some e
    obtain ⟨v, rfl, hv⟩ := all1 h
    obtain ⟨a, xs, rfl, hs, ha⟩ := items_v w hv e1
    rcases hs with hs | hs
    · exact ⟨a, xs, rfl, .inl ⟨hs, fun p hp => q _ _ (Ext.new hp) (w.newV hp) (.tup (.inl (.inl upd_same)) (ha.ext (Ext.new hp)))⟩⟩
    · exact ⟨a, xs, rfl, .inr ⟨hs, q H _ Ext.refl w (.tup hs ha)⟩⟩
theorem rel_list : RelCall X fList (fun xs H Q => ∃ p ys, xs = [.ref p] ∧ (SqL X.K H p ys ∨ SqT X.K H p ys) ∧ ∀ l, H l = none → Q (.ref l) (upd H l (.lst ys))) := by
  intro α Z H st xs as d Q w h e q
  match as, e with
  | [x], e =>
    obtain ⟨ds, e1, rfl⟩ := map_some e
    obtain ⟨v, rfl, hv⟩ := all1 h
    obtain ⟨a, xs, rfl, hs, ha⟩ := items_v w hv e1
    exact ⟨a, xs, rfl, hs, fun p hp => q _ _ (Ext.new hp) (w.newV hp) (.lst upd_same (w.new hp).1 (w.new hp).2 (ha.ext (Ext.new hp)))⟩
theorem litems_v {v : V} {d : D} {ds : List D} (w : Wd K α Z H st) (h : HasD K α Z H v d) (e : litems? st d = some ds) : ∃ a xs, v = .ref a ∧ SqL K H a xs ∧ HasAll K α Z H xs ds := by
  cases h with
  | @tup a xs _ s t => cases e
  | @lst a xs _ s _ _ t => cases e; exact ⟨a, xs, rfl, .inl (.inl s), t⟩
  | @scr a xs _ s t => cases e; exact ⟨a, xs, rfl, s H FrzLe.refl, t⟩
  | @ref a n hn =>
    have e' : (match st[n]? with | some (.lst ds) => some ds | _ => none) = some ds := e
    split at e'
    · rename_i ds' e2
      cases e'
      obtain ⟨xs, e1, ha⟩ := w.cell n a _ hn e2
      exact ⟨a, xs, rfl, .inl (.inl e1), ha⟩
    · cases e'
  | _ => cases e
theorem bools_v : ∀ {vs : List V} {ds : List D} {bs : List Bool}, HasAll K α Z H vs ds → bools? ds = some bs → vs = bs.map V.bl
  | _, _, _, .nil, e => by cases e; rfl
  | _, d :: ds, bs, .cons h t, e => by
    cases h with
    | bl b =>
      have e' : (bools? ds).map (fun bs => b :: bs) = some bs := e
      obtain ⟨cs, e1, rfl⟩ := map_some e'
      rw [List.map_cons, bools_v t e1]
    | _ => cases e
theorem ints_v : ∀ {vs : List V} {ds : List D} {bs : List Int}, HasAll K α Z H vs ds → ints? ds = some bs → vs = bs.map V.int
  | _, _, _, .nil, e => by cases e; rfl
  | _, d :: ds, bs, .cons h t, e => by
    cases h with
    | int b =>
      have e' : (ints? ds).map (fun bs => b :: bs) = some bs := e
      obtain ⟨cs, e1, rfl⟩ := map_some e'
      rw [List.map_cons, ints_v t e1]
    | _ => cases e
theorem strs_v : ∀ {vs : List V} {ds : List D} {bs : List Str}, HasAll K α Z H vs ds → strs? ds = some bs → vs = bs.map V.str
  | _, _, _, .nil, e => by cases e; rfl
  | _, d :: ds, bs, .cons h t, e => by
    cases h with
    | str b =>
      have e' : (strs? ds).map (fun bs => b :: bs) = some bs := e
      obtain ⟨cs, e1, rfl⟩ := map_some e'
      rw [List.map_cons, strs_v t e1]
    | _ => cases e
theorem bind_some {β γ : Type} {o : Option β} {f : β → Option γ} {d : γ} (h : o.bind f = some d) : ∃ b, o = some b ∧ f b = some d := by
  cases o with
  | none => cases h
  | some b => exact ⟨b, rfl, h⟩
theorem rel_all : RelCall X fAll (rAll X.K) := by
  intro α Z H st xs as d Q w h e q
  match as, e with
  | [x], e =>
    obtain ⟨bs, e1, rfl⟩ := map_some e
    obtain ⟨ds, e2, e3⟩ := bind_some e1
    obtain ⟨v, rfl, hv⟩ := all1 h
    obtain ⟨a, xs, rfl, hs, ha⟩ := litems_v w hv e2
    have := bools_v ha e3
    subst this
    exact ⟨a, bs, rfl, hs, q H _ Ext.refl w (.bl _)⟩
theorem rel_any : RelCall X fAny (rAny X.K) := by
  intro α Z H st xs as d Q w h e q
  match as, e with
  | [x], e =>
    obtain ⟨bs, e1, rfl⟩ := map_some e
    obtain ⟨ds, e2, e3⟩ := bind_some e1
    obtain ⟨v, rfl, hv⟩ := all1 h
    obtain ⟨a, xs, rfl, hs, ha⟩ := litems_v w hv e2
    have := bools_v ha e3
    subst this
    exact ⟨a, bs, rfl, hs, q H _ Ext.refl w (.bl _)⟩
theorem rel_sum : RelCall X fSum (rSum X.K) := by
  intro α Z H st xs as d Q w h e q
  match as, e with
  | [x], e =>
    obtain ⟨bs, e1, rfl⟩ := map_some e
    obtain ⟨ds, e2, e3⟩ := bind_some e1
    obtain ⟨v, rfl, hv⟩ := all1 h
    obtain ⟨a, xs, rfl, hs, ha⟩ := litems_v w hv e2
    have := ints_v ha e3
    subst this
    exact ⟨a, bs, rfl, hs, q H _ Ext.refl w (.int _)⟩
theorem maxI_all : ∀ {is : List Int} {i : Int}, maxI i is ∈ i :: is ∧ ∀ y ∈ i :: is, y ≤ maxI i is
  | [], i => ⟨by simp [maxI], fun y m => by simp at m; subst m; exact Int.le_refl _⟩
  | j :: is, i => by
    obtain ⟨z, hz⟩ : ∃ z, z = if j > i then j else i := ⟨_, rfl⟩
    have hf : i ≤ z ∧ j ≤ z ∧ (z = i ∨ z = j) := by rw [hz]; split <;> omega
    have e : maxI i (j :: is) = maxI z is := by rw [hz]; rfl
    obtain ⟨h1, h2⟩ := maxI_all (is := is) (i := z)
    rw [e]
    have hk := h2 _ List.mem_cons_self
    refine ⟨?_, fun y m => ?_⟩
    · rcases List.mem_cons.mp h1 with h | h
      · rw [h]; rcases hf.2.2 with h | h <;> rw [h] <;> simp
      · simp [h]
    · rcases List.mem_cons.mp m with rfl | m
      · omega
      · rcases List.mem_cons.mp m with rfl | m
        · omega
        · exact h2 y (List.mem_cons_of_mem _ m)
theorem minI_all : ∀ {is : List Int} {i : Int}, minI i is ∈ i :: is ∧ ∀ y ∈ i :: is, minI i is ≤ y
  | [], i => ⟨by simp [minI], fun y m => by simp at m; subst m; exact Int.le_refl _⟩
  | j :: is, i => by
    obtain ⟨z, hz⟩ : ∃ z, z = if j < i then j else i := ⟨_, rfl⟩
    have hf : z ≤ i ∧ z ≤ j ∧ (z = i ∨ z = j) := by rw [hz]; split <;> omega
    have e : minI i (j :: is) = minI z is := by rw [hz]; rfl
    obtain ⟨h1, h2⟩ := minI_all (is := is) (i := z)
    rw [e]
    have hk := h2 _ List.mem_cons_self
    refine ⟨?_, fun y m => ?_⟩
    · rcases List.mem_cons.mp h1 with h | h
      · rw [h]; rcases hf.2.2 with h | h <;> rw [h] <;> simp
      · simp [h]
    · rcases List.mem_cons.mp m with rfl | m
      · omega
      · rcases List.mem_cons.mp m with rfl | m
        · omega
        · exact h2 y (List.mem_cons_of_mem _ m)
theorem rel_maxL : RelCall X fMaxL (rMax X.K) := by
  intro α Z H st xs as d Q w h e q
  match as, e with
  | [x], e =>
    have e' : (match (litems? st x).bind ints? with | some (i :: is) => some (D.int (maxI i is)) | _ => none) = some d := e
    split at e'
    · rename_i i is e1
      cases e'
      obtain ⟨ds, e2, e3⟩ := bind_some e1
      obtain ⟨v, rfl, hv⟩ := all1 h
      obtain ⟨a, xs, rfl, hs, ha⟩ := litems_v w hv e2
      have := ints_v ha e3
      subst this
      refine ⟨a, i :: is, rfl, hs, by simp, fun m m1 m2 => ?_⟩
      obtain ⟨k1, k2⟩ := maxI_all (is := is) (i := i)
      have : m = maxI i is := Int.le_antisymm (k2 m m1) (m2 _ k1)
      subst this
      exact q H _ Ext.refl w (.int _)
    · cases e'
theorem rel_minL : RelCall X fMinL (rMin X.K) := by
  intro α Z H st xs as d Q w h e q
  match as, e with
  | [x], e =>
    have e' : (match (litems? st x).bind ints? with | some (i :: is) => some (D.int (minI i is)) | _ => none) = some d := e
    split at e'
    · rename_i i is e1
      cases e'
      obtain ⟨ds, e2, e3⟩ := bind_some e1
      obtain ⟨v, rfl, hv⟩ := all1 h
      obtain ⟨a, xs, rfl, hs, ha⟩ := litems_v w hv e2
      have := ints_v ha e3
      subst this
      refine ⟨a, i :: is, rfl, hs, by simp, fun m m1 m2 => ?_⟩
      obtain ⟨k1, k2⟩ := minI_all (is := is) (i := i)
      have : m = minI i is := Int.le_antisymm (m2 _ k1) (k2 m m1)
      subst this
      exact q H _ Ext.refl w (.int _)
    · cases e'
theorem all3a {vs : List V} {a b c : D} (h : HasAll K α Z H vs [a, b, c]) : ∃ u v w, vs = [u, v, w] ∧ HasD K α Z H u a ∧ HasD K α Z H v b ∧ HasD K α Z H w c := by
  match vs, h with
  | [u, v, w], .cons h1 (.cons h2 (.cons h3 .nil)) => exact ⟨u, v, w, rfl, h1, h2, h3⟩
theorem rel_max3 : RelCall X fMax3 (rNuC3 nuMax3) := by
  intro α Z H st xs as d Q w h e q
  match as, e with
  | [.int i, .int j, .int k], e =>
    cases e
    obtain ⟨u, v, z, rfl, hu, hv, hz⟩ := all3a h
    cases hu; cases hv; cases hz
    refine ⟨_, _, _, .int (maxI i [j, k]), rfl, ?_, q H _ Ext.refl w (.int _)⟩
    show (nuMax2 (.int i) (.int j)).bind _ = _
    by_cases h1 : i < j <;> by_cases h2 : j < k <;> by_cases h3 : i < k <;> simp [nuMax2, nuLt, nuCB, maxI, h1, h2, h3]
theorem rel_min3 : RelCall X fMin3 (rNuC3 nuMin3) := by
  intro α Z H st xs as d Q w h e q
  match as, e with
  | [.int i, .int j, .int k], e =>
    cases e
    obtain ⟨u, v, z, rfl, hu, hv, hz⟩ := all3a h
    cases hu; cases hv; cases hz
    refine ⟨_, _, _, .int (minI i [j, k]), rfl, ?_, q H _ Ext.refl w (.int _)⟩
    show (nuMin2 (.int i) (.int j)).bind _ = _
    by_cases h1 : j < i <;> by_cases h2 : k < j <;> by_cases h3 : k < i <;> simp [nuMin2, nuLt, nuCB, minI, h1, h2, h3]
/-! ### repr -/
def rReprX (K : PySem.W.Frag) : List V → Hp → VK → Prop := fun xs H Q => ∃ x d, xs = [x] ∧ Dp K H x d ∧ d.showable = true ∧ d.hasDict = false ∧ d.shown.length ≤ sizeLine ∧ d.depth ≤ 63 ∧ Q (.str d.shown) H
theorem shown_int (i : Int) : (PyData.int i).shown = ((toString i : String) : Str) := by rw [PyData.shown]
theorem call_reprX (g : Gd X W k) : CallR X (.builtin "repr") (rReprX X.K) := by
  intro pins s σ H xs us Q I r h
  obtain ⟨x, d, rfl, hd, h1, h2, h3, h4, q⟩ := h
  obtain ⟨u, rfl, ru⟩ := vals1 r
  have hu := g.room.units
  have leaf : ∀ {a : Addr}, u = .ref a → wpAny (model X.prog X.w) X.A (call (.builtin "repr") [u]) (EP X pins σ Q) X.xe s := by
    intro a e
    subst e
    obtain ⟨as, rd⟩ := Dp.reads I d x _ hd ru
    exact repr_of_reads' rd h1 (fun z => by rw [h2] at z; cases z) g.grd (by omega) (fun _ _ z => z) (fun h' u tk hk => ⟨.str d.shown, H, I.kept (t' := tk) hk, ⟨u, rfl⟩, q⟩) h3
  cases hd with
  | non =>
    cases ru
    have e : PyData.none.shown = ("None" : Str) := by rw [PyData.shown]
    rw [e] at q
    exact PySem.P.repr_of_none ⟨.str "None", H, I.tok _, ⟨_, rfl⟩, q⟩
  | bl b =>
    cases ru
    have e : (PyData.bool b).shown = (if b then Str.ofString "True" else Str.ofString "False") := by rw [PyData.shown]
    rw [e] at q
    exact PySem.P.repr_of_bool ⟨.str _, H, I.tok _, ⟨_, rfl⟩, q⟩
  | int i =>
    obtain ⟨t, rfl⟩ := ru
    have e : (PyData.int i).shown = ((toString i : String) : Str) := shown_int i
    rw [e] at q
    have h5 : i.natAbs.log2 < 1920 := by
      have := h1
      rw [PyData.showable] at this
      simpa using this
    exact PySem.P.repr_of_int h5 ⟨.str _, H, I.tok _, ⟨_, rfl⟩, q⟩
  | str y =>
    obtain ⟨t, rfl⟩ := ru
    have e : (PyData.str y).shown = PySem.reprText y := by rw [PyData.shown]
    rw [e] at q h3
    exact PySem.P.repr_of_str ⟨.str _, H, I.tok _, ⟨_, rfl⟩, q⟩ h3
  | lst hs ha => cases (show u = _ from ru); exact leaf rfl
  | tup hs ha => cases (show u = _ from ru); exact leaf rfl
theorem rel_repr : RelCall X fRepr (rReprX X.K) := by
  intro α Z H st xs as d Q w h e q
  match as, e with
  | [x], e =>
    obtain ⟨v, rfl, hv⟩ := all1 h
    have e' : (match x.py st with | some d => if d.showable = true ∧ d.hasDict = false ∧ d.shown.length ≤ sz ∧ d.depth ≤ 63 then some (D.str d.shown) else none | none => none) = some d := e
    split at e'
    · rename_i p e1
      split at e'
      · rename_i hc
        cases e'
        exact ⟨v, p, rfl, dp w hv e1, hc.1, hc.2.1, sz_le hc.2.2.1, hc.2.2.2, q H _ Ext.refl w (.str _)⟩
      · cases e'
    · cases e'
/-! ### isinstance -/
def tys : List String := ["int", "bool", "str", "tuple", "list", "dict"]
def kOk (a : String) : Bool := tys.all fun T => decide (kitB a T = some (T == a || (a == "bool" && T == "int")))
theorem tyx_of {v : V} {d : D} {T : String} {b : Bool} (w : Wd K α Z H st) (h : HasD K α Z H v d) (e : isOfS st T d = some b) (hT : tys.contains T = true) : ∃ t, TyX K H v t ∧ PySem.W.kitOne K t (.type T) = some b := by
  have fin : ∀ (a : String), kOk a = true → b = (T == a || (a == "bool" && T == "int")) → PySem.W.kitOne K (.type a) (.type T) = some b := by
    intro a h1 h2
    have h3 := List.all_eq_true.mp h1 T (by simpa using hT)
    exact kit_ty (by rw [of_decide_eq_true h3, h2])
  cases h with
  | non => cases e; exact ⟨_, .base .non, fin _ (by decide +kernel) (by simp)⟩
  | bl k => cases e; exact ⟨_, .base (.bl k), fin _ (by decide +kernel) (by simp)⟩
  | int k => cases e; exact ⟨_, .base (.int k), fin _ (by decide +kernel) (by simp)⟩
  | str k => cases e; exact ⟨_, .base (.str k), fin _ (by decide +kernel) (by simp)⟩
  | tup s t =>
    cases e
    refine ⟨.type "tuple", ?_, fin _ (by decide +kernel) (by simp)⟩
    rcases s with (s | ⟨o, s⟩) | ⟨o, its, n, h1, h2, _⟩
    · exact .base (.tup s)
    · exact .fTuple s
    · exact .kTuple h1 h2
  | lst s _ _ t => cases e; exact ⟨_, .base (.lst s), fin _ (by decide +kernel) (by simp)⟩
  | scr s t => cases e
  | @ref a n hn =>
    have e' : (match st[n]? with | some (.lst _) => some (T == "list") | some (.dct _) => some (T == "dict") | none => none) = some b := e
    split at e'
    · rename_i ds e2
      cases e'
      obtain ⟨xs, e1, ha⟩ := w.cell n a _ hn e2
      exact ⟨_, .base (.lst e1), fin _ (by decide +kernel) (by simp)⟩
    · rename_i ds e2
      cases e'
      obtain ⟨xs, e1, _, ha⟩ := w.cell n a _ hn e2
      exact ⟨_, .base (.dK e1), fin _ (by decide +kernel) (by simp)⟩
    · cases e'
/-- one type for all classes -/
theorem tyx_all {v : V} {d : D} (w : Wd K α Z H st) (h : HasD K α Z H v d) (hd : (isOfS st "int" d).isSome = true) : ∃ t, TyX K H v t ∧ ∀ (T : String) (b : Bool), isOfS st T d = some b → tys.contains T = true → PySem.W.kitOne K t (.type T) = some b := by
  have fin : ∀ {T : String} {b : Bool} (a : String), kOk a = true → b = (T == a || (a == "bool" && T == "int")) → tys.contains T = true → PySem.W.kitOne K (.type a) (.type T) = some b := by
    intro T b a h1 h2 hT
    have h3 := List.all_eq_true.mp h1 T (by simpa using hT)
    exact kit_ty (by rw [of_decide_eq_true h3, h2])
  cases h with
  | non => exact ⟨_, .base .non, fun T b e hT => by cases e; exact fin _ (by decide +kernel) (by simp) hT⟩
  | bl k => exact ⟨_, .base (.bl k), fun T b e hT => by cases e; exact fin _ (by decide +kernel) (by simp) hT⟩
  | int k => exact ⟨_, .base (.int k), fun T b e hT => by cases e; exact fin _ (by decide +kernel) (by simp) hT⟩
  | str k => exact ⟨_, .base (.str k), fun T b e hT => by cases e; exact fin _ (by decide +kernel) (by simp) hT⟩
  | tup s t =>
    refine ⟨.type "tuple", ?_, fun T b e hT => by cases e; exact fin _ (by decide +kernel) (by simp) hT⟩
    rcases s with (s | ⟨o, s⟩) | ⟨o, its, n, h1, h2, _⟩
    · exact .base (.tup s)
    · exact .fTuple s
    · exact .kTuple h1 h2
  | lst s _ _ t => exact ⟨_, .base (.lst s), fun T b e hT => by cases e; exact fin _ (by decide +kernel) (by simp) hT⟩
  | scr s t => cases hd
  | @ref a n hn =>
    have hd' : (match st[n]? with | some (.lst _) => some (("int" : String) == "list") | some (.dct _) => some (("int" : String) == "dict") | none => none).isSome = true := hd
    split at hd'
    · rename_i ds e2
      obtain ⟨xs, e1, ha⟩ := w.cell n a _ hn e2
      refine ⟨_, .base (.lst e1), fun T b e hT => ?_⟩
      have e' : (match st[n]? with | some (.lst _) => some (T == "list") | some (.dct _) => some (T == "dict") | none => none) = some b := e
      rw [e2] at e'
      cases e'
      exact fin _ (by decide +kernel) (by simp) hT
    · rename_i ds e2
      obtain ⟨xs, e1, _, ha⟩ := w.cell n a _ hn e2
      refine ⟨_, .base (.dK e1), fun T b e hT => ?_⟩
      have e' : (match st[n]? with | some (.lst _) => some (T == "list") | some (.dct _) => some (T == "dict") | none => none) = some b := e
      rw [e2] at e'
      cases e'
      exact fin _ (by decide +kernel) (by simp) hT
    · cases hd'
end
end Mn

namespace Mn
open PySem PySem.Spec PyProof.Rows L2

section
variable {X : Cx} {W : WX} {Z α : List Addr} {H : Hp} {st : Store} {K : PySem.W.Frag} {k : Nat} {σ : L2.St} {en : Env}
/-! ### isinstance, in -/
theorem se_isi {a : Expr} {ma : E} {T : Str} {T' : String} {p p2 p3 pos : Pos} (ha : PE X a (tM X W ma)) (hg : Gl X "isinstance") (hm : X.mg "isinstance" = none) (hT : Gl X T) (hmT : X.mg T = none) (hv : bootBuiltins T = some (.type T')) (hn : T ≠ "__name__") (hd : (T == ("__debug__" : Str)) = false) (ht : tys.contains T' = true)
    (hs : starEach [a, .Name T p2] X.env = (false, eval a X.env) :: starEach [.Name T p2] X.env) (hv1 : bootBuiltins "isinstance" = some (.builtin "isinstance"))
    (hpl : (backTo pos (starEach [.Name T p2] X.env)).any (·.1) = false) :
    PE X (.Call (.Name "isinstance" p) [a, .Name T p2] [] pos) (tM X W (eUn (dIsi T') ma)) :=
  PE.imp (pe_callB call_isi hg hm hv1 (pa_cons ha (pa_cons (pe_bltn (v := .ty T') hT hmT hv rfl hn hd) pa_nil) hs) (by decide) (by decide) hs hpl) fun σ H Q ⟨α, Z, en, st, w, s, q⟩ => by
    refine tM_of ma w s (Post.mono (Post.bnd (R := RD X Z) q) fun v H1 ⟨α1, st1, d, e1, w1, x1, h1⟩ => ?_)
    obtain ⟨d2, e2, q2⟩ := post_ofO h1
    obtain ⟨b, e3, rfl⟩ := map_some e2
    obtain ⟨t, ty, hk⟩ := tyx_of w1 x1 e3 ht
    exact ⟨v, .ty T', t, .type T', b, rfl, .ty T', ty, hk, q2 H1 _ Ext.refl w1 (.bl _)⟩
theorem isOf_some {st : Store} {T U : String} {d : D} {b : Bool} (e : isOfS st T d = some b) : (isOfS st U d).isSome = true := by
  cases d with
  | ref n =>
    have e' : (match st[n]? with | some (.lst _) => some (T == "list") | some (.dct _) => some (T == "dict") | none => none) = some b := e
    show (match st[n]? with | some (.lst _) => some (U == "list") | some (.dct _) => some (U == "dict") | none => none).isSome = true
    split at e' <;> rename_i e2 <;> first | (rw [e2]; done) | (simp [e2]; done) | cases e'
  | scr ds => cases e
  | _ => rfl
theorem se_isi2 {a : Expr} {ma : E} {T U : Str} {T' U' : String} {p p2 p3 p4 pos : Pos} {k : Nat} (ha : PE X a (tM X W ma)) (hg : Gl X "isinstance") (hm : X.mg "isinstance" = none) (hT : Gl X T) (hmT : X.mg T = none) (hv' : bootBuiltins T = some (.type T')) (hn : T ≠ "__name__") (hd : (T == ("__debug__" : Str)) = false) (ht : tys.contains T' = true)
    (hU : Gl X U) (hmU : X.mg U = none) (hvU : bootBuiltins U = some (.type U')) (hnU : U ≠ "__name__") (hdU : (U == ("__debug__" : Str)) = false) (htU : tys.contains U' = true)
    (hs : starEach [a, .Tuple [.Name T p2, .Name U p4] k p3] X.env = (false, eval a X.env) :: starEach [.Tuple [.Name T p2, .Name U p4] k p3] X.env) (hv1 : bootBuiltins "isinstance" = some (.builtin "isinstance"))
    (hpl : (backTo pos (starEach [.Tuple [.Name T p2, .Name U p4] k p3] X.env)).any (·.1) = false) :
    PE X (.Call (.Name "isinstance" p) [a, .Tuple [.Name T p2, .Name U p4] k p3] [] pos) (tM X W (eUn (dIsi2 T' U') ma)) :=
  PE.imp (pe_callB call_isiT hg hm hv1 (pa_cons ha (pa_cons (pe_tup (pa_cons (pe_bltn (v := .ty T') hT hmT hv' rfl hn hd) (pa_cons (pe_bltn (v := .ty U') hU hmU hvU rfl hnU hdU) pa_nil))) pa_nil) hs) (by decide) (by decide) hs hpl) fun σ H Q ⟨α, Z, en, st, w, s, q⟩ => by
    refine tM_of ma w s (Post.mono (Post.bnd (R := RD X Z) q) fun v H1 ⟨α1, st1, d, e1, w1, x1, h1⟩ => ?_)
    obtain ⟨d2, e2, q2⟩ := post_ofO h1
    have e2' : (match isOfS st1 T' d, isOfS st1 U' d with | some a, some b => some (D.bl (a || b)) | _, _ => none) = some d2 := e2
    split at e2'
    · rename_i a b ea eb
      cases e2'
      refine ⟨sz_le (show [V.ty T', V.ty U'].length ≤ sz from Nat.le_of_ble_eq_true rfl), fun p hp => ?_⟩
      have w2 := w1.newV (o := .tup [.ty T', .ty U']) hp
      have x2 := x1.ext (Ext.new (o := .tup [.ty T', .ty U']) hp)
      obtain ⟨t, ty, hk⟩ := tyx_all w2 x2 (isOf_some ea)
      exact ⟨v, p, [.ty T', .ty U'], t, [.type T', .type U'], a || b, rfl, upd_same, .cons (.ty T') (.cons (.ty U') .nil), ty,
        kitAny_cons (hk T' a ea ht) (fun h => kitAny_cons (hk U' b eb htU) (fun h2 => by rw [h, h2]; rfl) (fun h2 => by rw [h, h2]; rfl)) (fun h => by rw [h]; rfl), q2 _ _ (Ext.new hp) w2 (.bl _)⟩
    · cases e2'
def rInT (K : PySem.W.Frag) : R2 := fun x y H Q => ∃ d ds, Dp K H x d ∧ Dp K H y (.tuple ds) ∧ SeqAt.shaped d = true ∧ SeqAt.shaped (.list ds) = true ∧ Q (.bl (ds.any fun z => PyData.eqv z d)) H
def rNInT (K : PySem.W.Frag) : R2 := fun x y H Q => ∃ d ds, Dp K H x d ∧ Dp K H y (.tuple ds) ∧ SeqAt.shaped d = true ∧ SeqAt.shaped (.list ds) = true ∧ Q (.bl (!ds.any fun z => PyData.eqv z d)) H
theorem op_inT (hu : X.A.units + 65 < cLine) : OpR X (compareOp .In) (rInT X.K) := by
  intro pins s σ H x y v u Q I rx ry ⟨d, ds, hd, he, sd, se, q⟩
  obtain ⟨as, r1⟩ := Dp.reads I d x v hd rx
  obtain ⟨bs, r2⟩ := Dp.reads I (.tuple ds) y u he ry
  exact SeqAt.in_tuple_reads r2 r1 (SeqAt.canLay_of_shaped se) (SeqAt.canLay_of_shaped sd) (room_in_shaped sd hu) ⟨.bl _, H, I, rfl, q⟩
theorem op_nInT (hu : X.A.units + 65 < cLine) : OpR X (compareOp .NotIn) (rNInT X.K) := by
  intro pins s σ H x y v u Q I rx ry ⟨d, ds, hd, he, sd, se, q⟩
  obtain ⟨as, r1⟩ := Dp.reads I d x v hd rx
  obtain ⟨bs, r2⟩ := Dp.reads I (.tuple ds) y u he ry
  exact SeqAt.notIn_tuple_reads r2 r1 (SeqAt.canLay_of_shaped se) (SeqAt.canLay_of_shaped sd) (room_in_shaped sd hu) ⟨.bl _, H, I, rfl, q⟩
def rInX (K : PySem.W.Frag) : R2 := fun x y H Q => rInD K x y H Q ∨ rInT K x y H Q
def rNInX (K : PySem.W.Frag) : R2 := fun x y H Q => rNotInD K x y H Q ∨ rNInT K x y H Q
theorem op_inX (hu : X.A.units + 65 < cLine) : OpR X (compareOp .In) (rInX X.K) := OpR.or (op_inD hu) (op_inT hu)
theorem op_nInX (hu : X.A.units + 65 < cLine) : OpR X (compareOp .NotIn) (rNInX X.K) := OpR.or (op_notInD hu) (op_nInT hu)
theorem in_some {x y : D} {b : Bool} (e : inD st x y = some b) : ∃ p ds qs, x.py st = some p ∧ items? st y = some ds ∧ D.pys st ds = some qs ∧ SeqAt.shaped p = true ∧ SeqAt.shaped (.list qs) = true ∧ b = qs.any fun z => PyData.eqv z p := by
  unfold inD at e
  split at e
  · rename_i p qs e1 e2
    obtain ⟨ds, e3, e4⟩ := bind_some e2
    split at e
    · rename_i h
      cases e
      exact ⟨p, ds, qs, e1, e3, e4, h.1, h.2, rfl⟩
    · cases e
  · cases e
/-- x in d, d a dict -/
def rInK : R2 := fun x y H Q => ∃ a o, y = .ref a ∧ DGet H a x o ∧ Q (.bl o.isSome) H
def rNInK : R2 := fun x y H Q => ∃ a o, y = .ref a ∧ DGet H a x o ∧ Q (.bl (!o.isSome)) H
theorem op_inK (hu : X.A.units + 1 < cLine) : OpR X (compareOp .In) rInK := by
  intro pins s σ H x y v u Q I rx ry ⟨a, o, e, g, q⟩
  subst e
  cases ry
  exact d_in hu I g rx fun s' I' => ⟨.bl _, H, I', rfl, q⟩
theorem op_nInK (hu : X.A.units + 1 < cLine) : OpR X (compareOp .NotIn) rNInK := by
  intro pins s σ H x y v u Q I rx ry ⟨a, o, e, g, q⟩
  subst e
  cases ry
  exact d_notIn hu I g rx fun s' I' => ⟨.bl _, H, I', rfl, q⟩
def rInY (K : PySem.W.Frag) : R2 := fun x y H Q => rInX K x y H Q ∨ rInK x y H Q
def rNInY (K : PySem.W.Frag) : R2 := fun x y H Q => rNInX K x y H Q ∨ rNInK x y H Q
theorem op_inY (hu : X.A.units + 65 < cLine) : OpR X (compareOp .In) (rInY X.K) := OpR.or (op_inX hu) (op_inK (by omega))
theorem op_nInY (hu : X.A.units + 65 < cLine) : OpR X (compareOp .NotIn) (rNInY X.K) := OpR.or (op_nInX hu) (op_nInK (by omega))
theorem keyD_v {v : V} {d : D} {k : Key} (h : HasD K α Z H v d) (e : keyD d = some k) : v = kV k := by
  cases h with
  | int i => cases e; rfl
  | str x => cases e; rfl
  | _ => cases e
theorem any_keys {ws : List (Key × V)} {kvs : List (Key × D)} (e : ws.map (·.1) = kvs.map (·.1)) (k : Key) : (ws.any fun kv => decide (kv.1 = k)) = (kvs.any fun kv => decide (kv.1 = k)) := by
  have h1 : (ws.any fun kv => decide (kv.1 = k)) = ((ws.map (·.1)).any fun x => decide (x = k)) := by rw [List.any_map]; rfl
  have h2 : (kvs.any fun kv => decide (kv.1 = k)) = ((kvs.map (·.1)).any fun x => decide (x = k)) := by rw [List.any_map]; rfl
  rw [h1, h2, e]
theorem inDct_v {x y : V} {a b : D} {c : Bool} (w : Wd K α Z H st) (hx : HasD K α Z H x a) (hy : HasD K α Z H y b) (e : inDct st a b = some c) : ∃ l o, y = .ref l ∧ DGet H l x o ∧ o.isSome = c := by
  unfold inDct at e
  split at e
  · rename_i n
    split at e
    · rename_i kvs e2
      cases hy with
      | @ref l _ hn =>
        cases hk : keyD a with
        | none => rw [hk] at e; cases e
        | some k =>
          rw [hk] at e
          cases e
          obtain ⟨ws, c1, c2, c3⟩ := w.cell n l _ hn e2
          have hv := keyD_v hx hk
          subst hv
          refine ⟨l, valV ws k, rfl, DGet.k c1, ?_⟩
          rw [← valV_any, any_keys c2]
    · cases e
  · cases e
theorem rel_in : RelOp X dIn (rInY X.K) := by
  intro α Z H st x y a b d Q w hx hy e q
  have e0 : (match inDct st a b with | some b => some (D.bl b) | none => (inD st a b).map .bl) = some d := e
  split at e0
  · rename_i c ec
    cases e0
    obtain ⟨l, o, rfl, g, rfl⟩ := inDct_v w hx hy ec
    exact .inr ⟨l, o, rfl, g, q H _ Ext.refl w (.bl _)⟩
  obtain ⟨c, e1, rfl⟩ := map_some e0
  obtain ⟨p, ds, qs, e2, e3, e4, s1, s2, rfl⟩ := in_some e1
  obtain ⟨l, xs, rfl, hs, ha⟩ := items_v w hy e3
  rcases hs with hs | hs
  · exact .inl (.inl ⟨p, qs, dp w hx e2, .lst hs (dps w ha e4), s1, s2, q H _ Ext.refl w (.bl _)⟩)
  · exact .inl (.inr ⟨p, qs, dp w hx e2, .tup hs (dps w ha e4), s1, s2, q H _ Ext.refl w (.bl _)⟩)
theorem rel_nin : RelOp X dNotIn (rNInY X.K) := by
  intro α Z H st x y a b d Q w hx hy e q
  have e0 : (match inDct st a b with | some b => some (D.bl (!b)) | none => (inD st a b).map fun b => .bl (!b)) = some d := e
  split at e0
  · rename_i c ec
    cases e0
    obtain ⟨l, o, rfl, g, rfl⟩ := inDct_v w hx hy ec
    exact .inr ⟨l, o, rfl, g, q H _ Ext.refl w (.bl _)⟩
  obtain ⟨c, e1, rfl⟩ := map_some e0
  obtain ⟨p, ds, qs, e2, e3, e4, s1, s2, rfl⟩ := in_some e1
  obtain ⟨l, xs, rfl, hs, ha⟩ := items_v w hy e3
  rcases hs with hs | hs
  · exact .inl (.inl ⟨p, qs, dp w hx e2, .lst hs (dps w ha e4), s1, s2, q H _ Ext.refl w (.bl _)⟩)
  · exact .inl (.inr ⟨p, qs, dp w hx e2, .tup hs (dps w ha e4), s1, s2, q H _ Ext.refl w (.bl _)⟩)
theorem gb_in : GivesB dIn := fun st a b d e => by
  have e0 : (match inDct st a b with | some b => some (D.bl b) | none => (inD st a b).map .bl) = some d := e
  split at e0
  · cases e0; exact ⟨_, rfl⟩
  · let ⟨_, _, h⟩ := map_some e0; exact ⟨_, h⟩
theorem gb_nin : GivesB dNotIn := fun st a b d e => by
  have e0 : (match inDct st a b with | some b => some (D.bl (!b)) | none => (inD st a b).map fun b => .bl (!b)) = some d := e
  split at e0
  · cases e0; exact ⟨_, rfl⟩
  · let ⟨_, _, h⟩ := map_some e0; exact ⟨_, h⟩

/-! ### what is walked -/
/-- the iterator gives ds, one by one, from this moment on -/
def ItOk (K : PySem.W.Frag) (Z : List Addr) (α1 : List Addr) (H1 : Hp) (J : It) (ds : List D) : Prop :=
  ∀ Z' : List Addr, (∀ z, z ∈ Z' → z ∈ Z ∨ H1 z = none) → ∀ α H, Ext α1 H1 α H → (∀ a, a ∈ α ∨ a ∈ Z' → H a ≠ none) → ∀ i : Nat, (∀ d, ds[i]? = some d → J.go i H ∧ ∀ x H', J.yld i H x H' → Ext α H α H' ∧ (∀ a, a ∈ α ∨ a ∈ Z' → H' a = H a) ∧ HasD K α Z' H' x d) ∧ (ds[i]? = none → J.stop i H)
def tI (X : Cx) (W : WX) (m : EI) : TI := fun σ H R => ∃ α Z en st, Wd X.K α Z H st ∧ Sl X.K α Z H σ en ∧ Post X W Z (fun α H J ds => ItOk X.K Z α H J ds) α H σ R (m en st)
theorem PI.imp {tg e : Expr} {t t' : TI} (h : PI X tg e t) (q : ∀ σ H R, t' σ H R → t σ H R) : PI X tg e t' := ⟨fun pins s σ H R I x => h.run pins s σ H R I (q σ H R x)⟩
theorem sq_later {K : PySem.W.Frag} {α1 α : List Addr} {H1 H : Hp} {a : Addr} {xs : List V} (n : a ∉ α1) (s : H1 a = some (.lst xs)) (x : Ext α1 H1 α H) : SqL K H a xs := .inl (.inl (x.lst a xs n s))
theorem itl_ok {a : Addr} {xs : List V} {ds : List D} (hs : ∀ α1 H1, Ext α H α1 H1 → SqL K H1 a xs) (h : HasAll K α Z H xs ds) : ItOk K Z α H (Itl K a) ds := by
  intro Z' hz α1 H1 x lv i
  have h := HasAll.zgen hz h
  refine ⟨fun d e => ?_, fun e => ?_⟩
  · obtain ⟨v, e1, e2⟩ := h.get e
    refine ⟨⟨xs, v, hs α1 H1 x, e1⟩, fun y H' ⟨h1, h2⟩ => ?_⟩
    subst h1
    have := h2 xs (hs α1 _ x)
    rw [e1] at this
    cases this
    exact ⟨Ext.refl, fun _ _ => rfl, e2.ext x⟩
  · exact ⟨xs, hs α1 H1 x, by rw [h.length]; exact List.getElem?_eq_none_iff.mp e⟩
theorem itt_ok {a : Addr} {xs : List V} {ds : List D} (hs : SqT K H a xs) (h : HasAll K α Z H xs ds) : ItOk K Z α H (Itt K a) ds := by
  intro Z' hz α1 H1 x lv i
  have h := HasAll.zgen hz h
  refine ⟨fun d e => ?_, fun e => ?_⟩
  · obtain ⟨v, e1, e2⟩ := h.get e
    refine ⟨⟨xs, v, x.sqT hs, e1⟩, fun y H' ⟨h1, h2⟩ => ?_⟩
    subst h1
    have := h2 xs (x.sqT hs)
    rw [e1] at this
    cases this
    exact ⟨Ext.refl, fun _ _ => rfl, e2.ext x⟩
  · exact ⟨xs, x.sqT hs, by rw [h.length]; exact List.getElem?_eq_none_iff.mp e⟩
theorem its_ok (z : Str) : ItOk K Z α H (Its z) (z.cps.toList.map fun c => .str ⟨#[c]⟩) := by
  intro Z' hz α1 H1 x lv i
  refine ⟨fun d e => ?_, fun e => ?_⟩
  · rw [List.getElem?_map, Array.getElem?_toList] at e
    obtain ⟨c, e1, rfl⟩ := map_some e
    refine ⟨(Array.getElem?_eq_some_iff.mp e1).1, fun y H' ⟨h1, c', h2, h3⟩ => ?_⟩
    subst h1
    rw [e1] at h2
    cases h2
    subst h3
    exact ⟨Ext.refl, fun _ _ => rfl, .str _⟩
  · rw [List.getElem?_map, Array.getElem?_toList] at e
    show z.cps.size ≤ i
    cases q : z.cps[i]? with
    | none => exact Array.getElem?_eq_none_iff.mp q
    | some c => rw [q] at e; cases e
theorem rng_get : ∀ (n : Nat) (lo : Int) (i : Nat), (rng lo n)[i]? = if i < n then some (.int (lo + i)) else none
  | 0, lo, i => by simp [rng]
  | n + 1, lo, 0 => by simp [rng]
  | n + 1, lo, i + 1 => by
    rw [rng, List.getElem?_cons_succ, rng_get n]
    by_cases h : i < n
    · rw [if_pos h, if_pos (by omega)]
      have : lo + 1 + (i : Int) = lo + ((i + 1 : Nat) : Int) := by omega
      rw [this]
    · rw [if_neg h, if_neg (by omega)]
theorem itr_ok (lo : Int) (n : Nat) : ItOk K Z α H (Itr lo n) (rng lo n) := by
  intro Z' hz α1 H1 x lv i
  rw [rng_get]
  refine ⟨fun d e => ?_, fun e => ?_⟩
  · split at e
    · rename_i h
      cases e
      refine ⟨h, fun y H' ⟨h1, h2⟩ => ?_⟩
      subst h1; subst h2
      exact ⟨Ext.refl, fun _ _ => rfl, .int _⟩
    · cases e
  · split at e
    · cases e
    · rename_i h
      show n ≤ i
      omega
theorem rngS_get : ∀ (n : Nat) (lo c : Int) (i : Nat), (rngS lo c n)[i]? = if i < n then some (.int (lo + (i : Nat) * c)) else none
  | 0, lo, c, i => by simp [rngS]
  | n + 1, lo, c, 0 => by simp [rngS]
  | n + 1, lo, c, i + 1 => by
    rw [rngS, List.getElem?_cons_succ, rngS_get n]
    by_cases h : i < n
    · rw [if_pos h, if_pos (by omega)]
      have : lo + c + (i : Int) * c = lo + ((i + 1 : Nat) : Int) * c := by
        have : ((i + 1 : Nat) : Int) * c = (i : Int) * c + c := by rw [Int.natCast_succ, Int.add_mul, Int.one_mul]
        rw [this]
        omega
      rw [this]
    · rw [if_neg h, if_neg (by omega)]
theorem itc_ok (lo c : Int) (n : Nat) : ItOk K Z α H (Itc lo c n) (rngS lo c n) := by
  intro Z' hz α1 H1 x lv i
  rw [rngS_get]
  refine ⟨fun d e => ?_, fun e => ?_⟩
  · split at e
    · rename_i h
      cases e
      refine ⟨h, fun y H' ⟨h1, h2⟩ => ?_⟩
      subst h1; subst h2
      exact ⟨Ext.refl, fun _ _ => rfl, .int _⟩
    · cases e
  · split at e
    · cases e
    · rename_i h
      show n ≤ i
      omega
/-- a written thing that is walked: a list, a tuple, a text -/
def iSeqV (K : PySem.W.Frag) (te : TE) : TI := fun σ H R => te σ H fun x H1 => (∃ a, x = .ref a ∧ ((∃ xs, SqL K H1 a xs) ∧ R (Itl K a) H1 ∨ (∃ xs, SqT K H1 a xs) ∧ R (Itt K a) H1)) ∨ ∃ z, x = .str z ∧ R (Its z) H1
theorem pi_seqV {tg l : Expr} {tl : TE} (hl : PE X l tl) : PI X tg l (iSeqV X.K tl) := by
  refine ⟨fun pins s σ H R I h => thn (hl.run pins s σ H _ I h) fun v s1 ⟨x, H1, I1, r1, q1⟩ => ?_⟩
  rcases q1 with ⟨a, rfl, ⟨hs, q⟩ | ⟨hs, q⟩⟩ | ⟨z, rfl, q⟩
  · cases r1
    obtain ⟨xs, hq⟩ := hs
    obtain ⟨its, rv, p, hz⟩ := I1.list hq
    exact wpAny_pyIter_list p.isList (pi_one (tk := s1.toks) I1 _ (turn_list a _) ⟨_, Heap.get?_push_size _ rfl, rfl, rfl⟩ q)
  · cases r1
    obtain ⟨xs, hq⟩ := hs
    obtain ⟨its, rv, p, hz⟩ := I1.tuple hq
    exact wpAny_pyIter_tuple (items := its.toArray) p (pi_one (tk := s1.toks) I1 _ (turn_tuple a _) ⟨_, Heap.get?_push_size _ rfl, rfl, rfl⟩ q)
  · obtain ⟨t, rfl⟩ := r1
    cases ha : z.cps.all (· < 128) with
    | false => exact wpAny_pyIter_wide ha (pi_one (tk := s1.toks) I1 _ (turn_str _ z t "str_iterator" (.inr rfl)) ⟨_, Heap.get?_push_size _ rfl, rfl, rfl⟩ q)
    | true => exact wpAny_pyIter_ascii ha (pi_one (tk := s1.toks) I1 _ (turn_str _ z t "str_ascii_iterator" (.inl rfl)) ⟨_, Heap.get?_push_size _ rfl, rfl, rfl⟩ q)
theorem list_uniq {X : Cx} {pins : List (Addr × Obj)} {s : Shared} (I : Inv X pins σ H s) {a : Addr} {xs ys : List V} (h : SqL X.K H a ys) (h' : SqL X.K H a xs) : ys = xs := I.list_inj h h'
theorem si_seq {tg l : Expr} {m : E} (hl : PE X l (tM X W m)) : PI X tg l (tI X W (iSeq m)) :=
  PI.imp (pi_seqV hl) fun σ H R ⟨α, Z, en, st, w, s, q⟩ => by
    refine tM_of m w s (Post.mono (Post.bnd (R := RD X Z) q) fun v H1 ⟨α1, st1, d, e1, w1, x1, h1⟩ => ?_)
    have fin : ∀ {o : Option (List D)} {J : It} {ds : List D}, o = some ds → Post X W Z (fun α H J ds => ItOk X.K Z α H J ds) α1 H1 σ R (ofO o st1) → ItOk X.K Z α1 H1 J ds → R J H1 := by
      intro o J ds e h2 h3
      subst e
      exact h2 α1 H1 J Ext.refl w1 h3
    cases x1 with
    | @tup a xs ds hs ha => exact .inl ⟨a, rfl, .inr ⟨⟨xs, hs⟩, fin rfl h1 (itt_ok hs ha)⟩⟩
    | @lst a xs ds hs n z ha =>
      refine .inl ⟨a, rfl, .inl ⟨⟨xs, .inl (.inl hs)⟩, fin rfl h1 (itl_ok (xs := xs) (fun α2 H2 x => sq_later n hs x) ha)⟩⟩
    | str z => exact .inr ⟨z, rfl, fin rfl h1 (its_ok z)⟩
    | scr hs ha => exact h1.elim
    | ref hn => exact h1.elim
    | non => exact h1.elim
    | bl b => exact h1.elim
    | int i => exact h1.elim
/-- one, two, three arguments -/
theorem tms1 {m : E} {Q : List V → Hp → Prop} (w : Wd X.K α Z H st) (s : Sl X.K α Z H σ en) {β : Type} {γ : Type} {R : List Addr → Hp → γ → β → Prop} {Q' : γ → Hp → Prop} {k : D → Store → Res β} (h : Post X W Z R α H σ Q' (bnd (m en st) k))
    (q : ∀ v H1 α1 st1 d, Ext α H α1 H1 → Wd X.K α1 Z H1 st1 → HasD X.K α1 Z H1 v d → Post X W Z R α1 H1 σ Q' (k d st1) → Q [v] H1) : tMs X W (evL [m]) σ H Q := by
  refine ⟨α, Z, en, st, w, s, ?_⟩
  show Post X W Z (RL X Z) α H σ Q (bnd (m en st) fun d s1 => bnd (evL [] en s1) fun ds s2 => .ok (d :: ds) s2)
  cases r : m en st with
  | ok d s1 =>
    rw [r] at h
    intro α' H' v e w' x
    cases x with
    | cons x1 t =>
      cases t
      exact q _ H' α' s1 d e w' x1 (Post.later h e)
  | exc c s1 => rw [r] at h; exact h
  | bad => rw [r] at h; exact h
theorem tms2 {m m2 : E} {Q : List V → Hp → Prop} (w : Wd X.K α Z H st) (s : Sl X.K α Z H σ en) {β : Type} {γ : Type} {R : List Addr → Hp → γ → β → Prop} {Q' : γ → Hp → Prop} {k : D → D → Store → Res β} (h : Post X W Z R α H σ Q' (bnd (m en st) fun d s1 => bnd (m2 en s1) fun d2 s2 => k d d2 s2))
    (q : ∀ v v2 H1 α1 st1 d d2, Ext α H α1 H1 → Wd X.K α1 Z H1 st1 → HasD X.K α1 Z H1 v d → HasD X.K α1 Z H1 v2 d2 → Post X W Z R α1 H1 σ Q' (k d d2 st1) → Q [v, v2] H1) : tMs X W (evL [m, m2]) σ H Q := by
  refine ⟨α, Z, en, st, w, s, ?_⟩
  show Post X W Z (RL X Z) α H σ Q (bnd (m en st) fun d s1 => bnd (bnd (m2 en s1) fun d2 s2 => bnd (.ok [] s2) fun ds s3 => .ok (d2 :: ds) s3) fun ds s2 => .ok (d :: ds) s2)
  cases r : m en st with
  | ok d s1 =>
    rw [r] at h
    simp only [bnd_ok] at h ⊢
    cases r2 : m2 en s1 with
    | ok d2 s2 =>
      rw [r2] at h
      intro α' H' v e w' x
      cases x with
      | cons x1 t =>
        cases t with
        | cons x2 t =>
          cases t
          exact q _ _ H' α' s2 d d2 e w' x1 x2 (Post.later h e)
    | exc c s1 => rw [r2] at h; exact h
    | bad => rw [r2] at h; exact h
  | exc c s1 => rw [r] at h; exact h
  | bad => rw [r] at h; exact h
theorem tms3 {m m2 m3 : E} {Q : List V → Hp → Prop} (w : Wd X.K α Z H st) (s : Sl X.K α Z H σ en) {β : Type} {γ : Type} {R : List Addr → Hp → γ → β → Prop} {Q' : γ → Hp → Prop} {k : D → D → D → Store → Res β} (h : Post X W Z R α H σ Q' (bnd (m en st) fun d s1 => bnd (m2 en s1) fun d2 s2 => bnd (m3 en s2) fun d3 s3 => k d d2 d3 s3))
    (q : ∀ v v2 v3 H1 α1 st1 d d2 d3, Ext α H α1 H1 → Wd X.K α1 Z H1 st1 → HasD X.K α1 Z H1 v d → HasD X.K α1 Z H1 v2 d2 → HasD X.K α1 Z H1 v3 d3 → Post X W Z R α1 H1 σ Q' (k d d2 d3 st1) → Q [v, v2, v3] H1) : tMs X W (evL [m, m2, m3]) σ H Q := by
  refine ⟨α, Z, en, st, w, s, ?_⟩
  show Post X W Z (RL X Z) α H σ Q (bnd (m en st) fun d s1 => bnd (bnd (m2 en s1) fun d2 s2 => bnd (bnd (m3 en s2) fun d3 s3 => bnd (.ok [] s3) fun ds s4 => .ok (d3 :: ds) s4) fun ds s3 => .ok (d2 :: ds) s3) fun ds s2 => .ok (d :: ds) s2)
  cases r : m en st with
  | ok d s1 =>
    rw [r] at h
    simp only [bnd_ok] at h ⊢
    cases r2 : m2 en s1 with
    | ok d2 s2 =>
      rw [r2] at h
      simp only [bnd_ok] at h ⊢
      cases r3 : m3 en s2 with
      | ok d3 s3 =>
        rw [r3] at h
        intro α' H' v e w' x
        cases x with
        | cons x1 t =>
          cases t with
          | cons x2 t =>
            cases t with
            | cons x3 t =>
              cases t
              exact q _ _ _ H' α' s3 d d2 d3 e w' x1 x2 x3 (Post.later h e)
      | exc c s1 => rw [r3] at h; exact h
      | bad => rw [r3] at h; exact h
    | exc c s1 => rw [r2] at h; exact h
    | bad => rw [r2] at h; exact h
  | exc c s1 => rw [r] at h; exact h
  | bad => rw [r] at h; exact h
theorem lim_eq : lim = 2 ^ 62 := by decide
theorem rg_all : ∀ {n : Nat} {lo : Int}, HasAll K α Z H ((List.range n).map fun i => V.int (lo + (i : Nat))) (rngX lo n)
  | 0, _ => .nil
  | n + 1, lo => by
    rw [List.range_succ_eq_map, List.map_cons, List.map_map, rngX]
    refine .cons (by rw [show lo + ((0 : Nat) : Int) = lo by omega]; exact .int _) ?_
    have := rg_all (n := n) (lo := lo + 1)
    have e : ((fun i : Nat => V.int (lo + (i : Nat))) ∘ Nat.succ) = fun i : Nat => V.int (lo + 1 + (i : Nat)) := by
      funext i
      show V.int _ = V.int _
      congr 1
      push_cast
      omega
    rw [e]
    exact this
theorem se_listR {a : Expr} {ma : E} {p p2 pos pos2 : Pos} (hc : X.calm = true) (hg : Gl X "list") (hm : X.mg "list" = none) (hg2 : Gl X "range") (hm2 : X.mg "range" = none) (ha : PE X a (tM X W ma)) (na : starEach [a] X.env = (false, eval a X.env) :: starEach [] X.env) : PE X (.Call (.Name "list" p) [.Call (.Name "range" p2) [a] [] pos2] [] pos) (tM X W (eListR ma)) :=
  PE.imp (pe_listRg hc hg hm (prg_1 hg2 hm2 ha na)) fun σ H Q ⟨α, Z, en, st, w, s, q⟩ => by
    refine tM_of ma w s (Post.mono (Post.bnd (R := RD X Z) q) fun v H1 ⟨α1, st1, d, e1, w1, x1, h1⟩ => ?_)
    cases x1 with
    | int j =>
      simp only at h1
      split at h1
      · rename_i h
        refine ⟨j, rfl, ⟨by decide, by decide, by omega, by omega, by omega⟩, fun p hp => h1 α1 _ _ (Ext.new hp) (w1.newV hp) (.lst upd_same (w1.new hp).1 (w1.new hp).2 ?_)⟩
        have := rg_all (n := j.toNat) (lo := 0) (K := X.K) (α := α1) (Z := Z) (H := upd H1 p (.lst (rgV 0 j)))
        unfold rgV
        rw [show (j - 0).toNat = j.toNat by omega]
        unfold rgV at this
        rw [show (j - 0).toNat = j.toNat by omega] at this
        exact this
      · exact h1.elim
    | _ => exact h1.elim
theorem si_range1 {tg a : Expr} {p pos : Pos} {m : E} (hg : Gl X "range") (hm : X.mg "range" = none) (ha : PA X [a] (tMs X W (evL [m]))) (hs : starEach [a] X.env = [(false, eval a X.env)]) : PI X tg (.Call (.Name "range" p) [a] [] pos) (tI X W (iRange1 m)) :=
  PI.imp (pi_range1 hg hm ha hs) fun σ H R ⟨α, Z, en, st, w, s, q⟩ => by
    refine tms1 w s q fun v H1 α1 st1 d e1 w1 x1 h1 => ?_
    cases x1 with
    | int j =>
      simp only at h1
      split at h1
      · rename_i h
        rw [lim_eq] at h
        exact ⟨j, rfl, h.1, h.2, h1 α1 H1 _ Ext.refl w1 (itr_ok 0 j.toNat)⟩
      · exact h1.elim
    | _ => exact h1.elim
theorem si_range2 {tg a b : Expr} {p pos : Pos} {m m2 : E} (hg : Gl X "range") (hm : X.mg "range" = none) (ha : PA X [a, b] (tMs X W (evL [m, m2]))) (hs : starEach [a, b] X.env = [(false, eval a X.env), (false, eval b X.env)]) (hs2 : starEach [b] X.env = [(false, eval b X.env)]) :
    PI X tg (.Call (.Name "range" p) [a, b] [] pos) (tI X W (iRange2 m m2)) :=
  PI.imp (pi_range2 hg hm ha hs hs2) fun σ H R ⟨α, Z, en, st, w, s, q⟩ => by
    refine tms2 w s q fun v v2 H1 α1 st1 d d2 e1 w1 x1 x2 h1 => ?_
    cases x1 with
    | int i => cases x2 with
      | int j =>
        simp only at h1
        split at h1
        · rename_i h
          rw [lim_eq] at h
          exact ⟨i, j, rfl, h, h1 α1 H1 _ Ext.refl w1 (itr_ok i (j - i).toNat)⟩
        · exact h1.elim
      | _ => exact h1.elim
    | _ => exact h1.elim
/-! ### range with a step -/
theorem rg_pos {i j c : Int} (ha : -(2 ^ 62) ≤ i) (ha' : i < 2 ^ 62) (hb : -(2 ^ 62) ≤ j) (hb' : j < 2 ^ 62) (hc : 0 < c) (hc' : c < 1000000) : RgC i j c ((j - i + c - 1) / c).toNat := by
  have hs : Builtin.Range.rangeSize i j c = (((j - i + c - 1) / c).toNat : Int) := by
    unfold Builtin.Range.rangeSize
    rw [if_pos hc]
    by_cases h : i < j
    · rw [if_pos h]
      have e1 : j - i + c - 1 = (j - i - 1) + c * 1 := by omega
      have e2 : (j - i + c - 1) / c = (j - i - 1) / c + 1 := by rw [e1, Int.add_mul_ediv_left _ _ (by omega)]
      have e3 : 0 ≤ (j - i - 1) / c := Int.ediv_nonneg (by omega) (by omega)
      omega
    · rw [if_neg h]
      have e3 : (j - i + c - 1) / c ≤ 0 := by
        have : (j - i + c - 1) / c < 1 := Int.ediv_lt_of_lt_mul hc (by omega)
        omega
      omega
  have hs2 : Builtin.Range.rangeSize i j c ≤ 2 ^ 63 - 1 := by
    unfold Builtin.Range.rangeSize
    rw [if_pos hc]
    split
    · have := Int.ediv_le_self c (show (0 : Int) ≤ j - i - 1 by omega)
      omega
    · omega
  refine ⟨by omega, by omega, ?_, hs⟩
  have hs3 : 0 ≤ Builtin.Range.rangeSize i j c := by rw [hs]; omega
  unfold Builtin.Range.small
  simp only [Builtin.Range.rangeFitsLong, Bool.and_eq_true, Bool.or_eq_true, decide_eq_true_eq, beq_iff_eq, show ((c : Int) > 0) from hc, if_true]
  exact ⟨⟨⟨⟨⟨by omega, by omega⟩, by omega, by omega⟩, by omega, by omega⟩, by omega, by omega⟩, .inr ⟨by omega, by omega⟩⟩
theorem si_range3 {tg a b c : Expr} {p pos : Pos} {m m2 m3 : E} (hg : Gl X "range") (hm : X.mg "range" = none) (ha : PA X [a, b, c] (tMs X W (evL [m, m2, m3]))) (hs : starEach [a, b, c] X.env = (false, eval a X.env) :: starEach [b, c] X.env) (hpl : (backTo pos (starEach [b, c] X.env)).any (·.1) = false) :
    PI X tg (.Call (.Name "range" p) [a, b, c] [] pos) (tI X W (iRange3 m m2 m3)) :=
  PI.imp (pi_range3 hg hm ha hs hpl) fun σ H R ⟨α, Z, en, st, w, s, q⟩ => by
    refine tms3 w s q fun v v2 v3 H1 α1 st1 d d2 d3 e1 w1 x1 x2 x3 h1 => ?_
    cases x1 with
    | int i => cases x2 with
      | int j => cases x3 with
        | int k =>
          simp only at h1
          split at h1
          · rename_i h
            rw [lim_eq] at h
            split at h1
            · rename_i hk
              exact ⟨i, j, k, _, rfl, rg_pos h.1 h.2.1 h.2.2.1 h.2.2.2 hk.1 hk.2, h1 α1 H1 _ Ext.refl w1 (itc_ok i k _)⟩
            · split at h1
              · rename_i hk
                subst hk
                exact ⟨i, j, -1, _, rfl, RgC.neg h.1 h.2.1 h.2.2.1 h.2.2.2, h1 α1 H1 _ Ext.refl w1 (itc_ok i (-1) _)⟩
              · exact h1.elim
          · exact h1.elim
        | _ => exact h1.elim
      | _ => exact h1.elim
    | _ => exact h1.elim
/-! ### list(range(a, b, c)) -/
theorem prg_3 {a b c : Expr} {ta : TA} {p pos : Pos} {pins : List (Addr × Obj)} {s : Shared} {Q : List V → Hp → Prop} (hg : Gl X "range") (hm : X.mg "range" = none) (ha : PA X [a, b, c] ta)
    (hs : starEach [a, b, c] X.env = (false, eval a X.env) :: starEach [b, c] X.env) (hpl : (backTo pos (starEach [b, c] X.env)).any (·.1) = false) (I : Inv X pins σ H s)
    (h : ta σ H fun vs H1 => ∃ (i j k : Int) (n : Nat), vs = [.int i, .int j, .int k] ∧ RgC i j k n ∧ Q ((List.range n).map fun m => V.int (i + (m : Nat) * k)) H1 ∧ n ≤ 16777216) :
    wpAny (model X.prog X.w) X.A (eval (.Call (.Name "range" p) [a, b, c] [] pos) X.env) (fun x s' => ∃ r i j k t u v n H', x = .ref r ∧ IsRange s'.heap r i j k t u v ∧ Inv X pins σ H' s' ∧ RgC i j k n ∧ Q ((List.range n).map fun m => V.int (i + (m : Nat) * k)) H' ∧ n ≤ 16777216) X.xe s := by
  refine Call_ (ld_blt I hg hm boot_range (PyProof.Rows.callWith_type1 (thn (ha.run pos pins s σ H _ I h) fun us s1 ⟨vs, H1, I1, r1, q1⟩ => ?_) hs hpl))
  obtain ⟨i, j, k, n, e, ⟨c0, c1, c2, c3⟩, q, hn⟩ := q1
  subst e
  cases r1 with
  | cons r rr =>
    cases rr with
    | cons r' rr =>
      cases rr with
      | cons r'' rr =>
        cases rr
        obtain ⟨t, rfl⟩ := r
        obtain ⟨t', rfl⟩ := r'
        obtain ⟨t'', rfl⟩ := r''
        refine call_range_3 c0 ?_ (.inl (PyProof.noPylong_small c1))
        exact ⟨_, i, j, k, _, _, _, n, H1, rfl, IsRange.new _ _ _ _ _ _ _, I1.kept (t' := s1.toks) fun b o e => Heap.get?_push_of_some _ e, ⟨c0, c1, c2, c3⟩, q, hn⟩
def tLR3 (ta : TA) : TE := fun σ H Q => ta σ H fun vs H1 => ∃ (i j k : Int) (n : Nat), vs = [.int i, .int j, .int k] ∧ RgC i j k n ∧ (∀ q, H1 q = none → Q (.ref q) (upd H1 q (.lst ((List.range n).map fun m => V.int (i + (m : Nat) * k))))) ∧ n ≤ 16777216
theorem pe_listRg3 {a b c : Expr} {ta : TA} {p p2 pos pos2 : Pos} (hc : X.calm = true) (hg : Gl X "list") (hm : X.mg "list" = none) (hg2 : Gl X "range") (hm2 : X.mg "range" = none) (ha : PA X [a, b, c] ta)
    (hs : starEach [a, b, c] X.env = (false, eval a X.env) :: starEach [b, c] X.env) (hpl : (backTo pos2 (starEach [b, c] X.env)).any (·.1) = false) :
    PE X (.Call (.Name "list" p) [.Call (.Name "range" p2) [a, b, c] [] pos2] [] pos) (tLR3 ta) := by
  refine ⟨fun pins s σ H Q I h => ?_⟩
  have na : starEach [Expr.Call (.Name "range" p2) [a, b, c] [] pos2] X.env = (false, eval (.Call (.Name "range" p2) [a, b, c] [] pos2) X.env) :: starEach [] X.env := by rfl
  refine Call_ (ld_blt I hg hm boot_list (PyProof.Rows.callWith_type1 (args_cons (thn (prg_3 (Q := fun vs H1 => ∀ q, H1 q = none → Q (.ref q) (upd H1 q (.lst vs))) hg2 hm2 ha hs hpl I h) fun x s1 ⟨r, i, j, k, t, u, v, n, H1, ex, hr, I1, ok, q, hn⟩ => args_nil ?_) na) na))
  subst ex
  obtain ⟨c0, c1, c2, c3⟩ := ok
  refine call_list_range (n := n) (I1.ok.hd hc) hr c2 c3 (by omega) fun h' tk acc c' hk e' hi => ?_
  have hlen : acc.toList.length = n := by rw [Array.length_toList]; exact hi.1
  have vals : Vals ((List.range n).map fun m => V.int (i + (m : Nat) * k)) acc.toList := by
    rw [← hlen]
    refine vals_of_get acc.toList _ fun j u hj => ?_
    obtain ⟨t, rfl⟩ := hi.2 j u (by rw [← hj, Array.getElem?_toList])
    exact ⟨t, rfl⟩
  refine ⟨.ref s1.heap.objs.size, upd H1 s1.heap.objs.size (.lst ((List.range n).map fun m => V.int (i + (m : Nat) * k))), I1.laid hk (Nat.le_refl _) (show ObjOk X.prog X.w _ _ _ (.lst ((List.range n).map fun m => V.int (i + (m : Nat) * k))) from ⟨?_, acc.toList, c', vals, ?_⟩), rfl, q _ (I1.hok.fresh (Nat.le_refl _))⟩
  · rw [List.length_map, List.length_range, sizeLine_eq]; omega
  · rw [Array.toArray_toList]; exact e'
theorem rgS_all {c : Int} : ∀ {n : Nat} {lo : Int}, HasAll K α Z H ((List.range n).map fun i => V.int (lo + (i : Nat) * c)) (rngS lo c n)
  | 0, _ => .nil
  | n + 1, lo => by
    rw [List.range_succ_eq_map, List.map_cons, List.map_map, rngS]
    refine .cons (by rw [show lo + ((0 : Nat) : Int) * c = lo by simp]; exact .int _) ?_
    have := rgS_all (c := c) (n := n) (lo := lo + c)
    have e : ((fun i : Nat => V.int (lo + (i : Nat) * c)) ∘ Nat.succ) = fun i : Nat => V.int (lo + c + (i : Nat) * c) := by
      funext i
      show V.int _ = V.int _
      congr 1
      have : ((i + 1 : Nat) : Int) * c = (i : Int) * c + c := by rw [Int.natCast_succ, Int.add_mul, Int.one_mul]
      rw [Nat.succ_eq_add_one, this]
      omega
    rw [e]
    exact this
theorem se_listR3 {a b c : Expr} {m m2 m3 : E} {p p2 pos pos2 : Pos} (hc : X.calm = true) (hg : Gl X "list") (hm : X.mg "list" = none) (hg2 : Gl X "range") (hm2 : X.mg "range" = none) (ha : PA X [a, b, c] (tMs X W (evL [m, m2, m3])))
    (hs : starEach [a, b, c] X.env = (false, eval a X.env) :: starEach [b, c] X.env) (hpl : (backTo pos2 (starEach [b, c] X.env)).any (·.1) = false) :
    PE X (.Call (.Name "list" p) [.Call (.Name "range" p2) [a, b, c] [] pos2] [] pos) (tM X W (eListR3 m m2 m3)) :=
  PE.imp (pe_listRg3 hc hg hm hg2 hm2 ha hs hpl) fun σ H Q ⟨α, Z, en, st, w, s, q⟩ => by
    refine tms3 (R := RD X Z) w s q fun v v2 v3 H1 α1 st1 d d2 d3 e1 w1 x1 x2 x3 h1 => ?_
    cases x1 with
    | int i => cases x2 with
      | int j => cases x3 with
        | int k =>
          simp only at h1
          split at h1
          · rename_i h
            obtain ⟨b1, b2, b3, b4, b5, b6⟩ := h
            refine ⟨i, j, k, _, rfl, rg_pos (by omega) (by omega) (by omega) (by omega) b5 b6, fun p hp => h1 α1 _ _ (Ext.new hp) (w1.newV hp) (.lst upd_same (w1.new hp).1 (w1.new hp).2 rgS_all), ?_⟩
            rcases Int.lt_or_le (j - i + k - 1) 0 with z | z
            · have := Int.ediv_neg_of_neg_of_pos z b5
              omega
            · have := Int.ediv_le_self k z
              omega
          · exact h1.elim
        | _ => exact h1.elim
      | _ => exact h1.elim
    | _ => exact h1.elim
/-! ### enumerate over a list, a tuple -/
def IteT (K : PySem.W.Frag) (a : Addr) (n : Nat) : It :=
  ⟨fun i H => ∃ (xs : List V) (x : V), SqT K H a xs ∧ xs.length = n ∧ xs[i]? = some x, fun i H v H' => ∃ T x, v = .ref T ∧ H T = none ∧ H' = upd H T (.tup [.int (i : Nat), x]) ∧ ∀ xs, SqT K H a xs → xs[i]? = some x, fun i H => ∃ xs : List V, SqT K H a xs ∧ xs.length = n ∧ n ≤ i⟩
theorem enum_ne {h : Heap} {e a it : Addr} {c : Int} {old : Value} {items : Array Value} (he : IsEnum h e it c old) (hp : h.IsTuple a items) : a ≠ e := by
  intro q
  subst q
  obtain ⟨o, h1, h2, _⟩ := hp
  have h3 := he
  unfold IsEnum at h3
  rw [h1] at h3
  cases h3
  injection (show Value.type "enumerate" = Value.type "tuple" from h2) with z
  exact absurd z (by decide)
theorem turn_enumT {P : Program} {w : World} {K : PySem.W.Frag} {elts : List Expr} {kk : Nat} {tpos : Pos} (a e it : Addr) (n : Nat) :
    Turn P w K (.Tuple elts kk tpos) (IteT K a n) [e, it] e (fun i h => (∃ old, IsEnum h e it ((i : Nat) : Int) old) ∧ h.IsTupleIter it a i ∧ e ≠ it ∧ a ≠ it ∧ i ≤ n) where
  mem := by simp
  obj := fun i h st b hb => by
    obtain ⟨⟨old, he⟩, ⟨o, ho, hc, hd⟩, _⟩ := st
    have e' : b = e ∨ b = it := by simpa using hb
    rcases e' with z | z
    · rw [z]; exact ⟨_, he, fun v q => nomatch q⟩
    · rw [z]; exact ⟨o, ho, fun v q => by rw [hd] at q; cases q⟩
  keep := fun i h h' st k => let ⟨⟨old, he⟩, hi, hne⟩ := st; ⟨⟨old, k e (by simp) _ he⟩, hi.at fun o q => k it (by simp) o q, hne⟩
  item := by
    intro X hP hw hK hc i pins s σ H E I hf st hg
    subst hP hw hK
    obtain ⟨⟨old, he⟩, hit, hne, hai, hin⟩ := st
    obtain ⟨xs, x, hq, hxn, hx⟩ := hg
    obtain ⟨its, rv, p, hz⟩ := I.tuple hq
    obtain ⟨u, hu, ru⟩ := rv.get hx
    have hp : s.heap.IsTuple a its.toArray := p
    have hae := enum_ne he hp
    have hel : e < s.heap.objs.size := Heap.lt_size he
    have hil : it < s.heap.objs.size := by obtain ⟨_, q, _⟩ := hit; exact Heap.lt_size q
    have hlt : i < its.toArray.size := by rw [List.size_toArray]; exact (List.getElem?_eq_some_iff.mp hu).1
    refine wpAny_pyNext_enum_itemC (Draws.tuple (A := X.A.in1) (I.ok.hd hc) it a hai its.toArray) he ⟨hit, hp⟩ hlt hne (by simp [hne]; exact fun z => hae z.symm) fun x' h' tk hP ho hst' hT hsz hk => ?_
    have ex : x' = u := by
      have h1 : its.toArray[i]? = some x' := hP
      have h2 : its.toArray[i]? = some u := by simpa using hu
      rw [h2] at h1
      exact (Option.some.inj h1).symm
    subst ex
    refine ⟨_, rfl, wpAny_letOwnedTupleGo_enum (s := { s with heap := h', toks := tk + 1 }) ho fun h'' he' sb => ?_⟩
    have hT2 : h''.get? s.heap.objs.size = some { cls := .type "tuple", data := .seq #[.int i tk, x'] } := (sb.2 _ (Nat.ne_of_gt hel)).trans hT
    have new : ObjOk X.prog X.w (upd H s.heap.objs.size (.tup [.int (i : Nat), x])) h'' s.heap.objs.size (.tup [.int (i : Nat), x]) :=
      ⟨by show 2 ≤ sizeLine; decide, [.int i tk, x'], .cons ⟨_, rfl⟩ (.cons ru .nil), ⟨_, hT2, rfl, _, rfl⟩⟩
    have I1 : Inv X pins σ (upd H s.heap.objs.size (.tup [.int (i : Nat), x])) { s with heap := h'', toks := tk + 1 } :=
      I.turnedNew (ch := [e, it]) (fun b ob hb q => (sb.2 b (fun z => hb (by simp [z]))).trans (hk b ob (fun z => hb (by simp [z])) (fun z => hb (by simp [z])) q)) hf (Nat.le_refl _) new
    refine ⟨.ref s.heap.objs.size, _, I1, rfl, ⟨_, x, rfl, I.hok.fresh (Nat.le_refl _), rfl, fun ys hy => by rw [I.tuple_inj hy hq]; exact hx⟩, ⟨⟨x', ?_⟩, hst'.1.at fun o q => (sb.2 it (Ne.symm hne)).trans q, hne, hai, ?_⟩, fun b hb => ?_⟩
    rotate_left
    · have := (List.getElem?_eq_some_iff.mp hx).1; omega
    rotate_right
    · have e1 : ((i + 1 : Nat) : Int) = (i : Int) + 1 := by omega
      rw [e1]; exact he'
    · have hb' : b < s.heap.objs.size := by
        have e' : b = e ∨ b = it := by simpa using hb
        rcases e' with z | z
        · rw [z]; exact hel
        · rw [z]; exact hil
      rw [upd_ne (Nat.ne_of_lt hb')]
      exact (hf b hb).1
  done := by
    intro X hP hw hK hc i pins s σ H E I hf st hg
    subst hP hw hK
    obtain ⟨⟨old, he⟩, hit, hne, hai, hin⟩ := st
    obtain ⟨xs, hq, hxn, hx⟩ := hg
    obtain ⟨its, rv, p, hz⟩ := I.tuple hq
    obtain ⟨f0, f1, f2, f3, f4, f5⟩ := hf it (by simp)
    have hl := rv.length
    have hp : s.heap.IsTuple a its.toArray := p
    have hi : i = its.toArray.size := by rw [List.size_toArray]; omega
    subst hi
    exact wpAny_pyNext_enum_endD (Draws.tuple (A := X.A.in1) (I.ok.hd hc) it a hai its.toArray) he ⟨hit, hp⟩ fun h' eb => ⟨rfl, I.turned (t' := s.toks) (fun b o hb q => eb b o hb q) f0 f1 f3 f4 f5⟩
  self := fun A i s Q E st h => let ⟨⟨_, he⟩, _⟩ := st; wpAny_pyIter_enum he h
theorem enum_get : ∀ (ds : List D) (k i : Nat), (enumF k ds)[i]? = (ds[i]?).map fun d => .tup [.int ((k + i : Nat) : Int), d]
  | [], k, i => by simp [enumF]
  | d :: ds, k, 0 => by simp [enumF]
  | d :: ds, k, i + 1 => by
    rw [enumF, List.getElem?_cons_succ, List.getElem?_cons_succ, enum_get ds]
    have : k + 1 + i = k + (i + 1) := by omega
    rw [this]
theorem pair_ok {α1 Z' : List Addr} {H1 H' : Hp} {T : Addr} {x y : V} {c d : D} (lv : ∀ a, a ∈ α1 ∨ a ∈ Z' → H1 a ≠ none) (hT : H1 T = none) (e : H' = upd H1 T (.tup [x, y])) (hx : HasD K α1 Z' H1 x c) (hy : HasD K α1 Z' H1 y d) :
    Ext α1 H1 α1 H' ∧ (∀ a, a ∈ α1 ∨ a ∈ Z' → H' a = H1 a) ∧ HasD K α1 Z' H' (.ref T) (.tup [c, d]) := by
  subst e
  exact ⟨Ext.new hT, fun b hb => upd_ne fun z => lv b hb (by rw [z]; exact hT), .tup (.inl (.inl upd_same)) (.cons (hx.ext (Ext.new hT)) (.cons (hy.ext (Ext.new hT)) .nil))⟩
theorem ite_ok {a : Addr} {xs : List V} {ds : List D} (hs : ∀ α1 H1, Ext α H α1 H1 → SqL K H1 a xs) (h : HasAll K α Z H xs ds) : ItOk K Z α H (Ite K a) (enumF 0 ds) := by
  intro Z' hz α1 H1 x lv i
  have h := HasAll.zgen hz h
  rw [enum_get]
  refine ⟨fun d e => ?_, fun e => ?_⟩
  · obtain ⟨d', e', rfl⟩ := map_some e
    obtain ⟨v, e1, e2⟩ := h.get e'
    refine ⟨⟨xs, v, hs α1 H1 x, e1⟩, fun y H' ⟨T, x', h1, h2, h3, h4⟩ => ?_⟩
    subst h1
    have := h4 xs (hs α1 _ x)
    rw [e1] at this
    cases this
    rw [Nat.zero_add]
    exact pair_ok lv h2 h3 (.int _) (e2.ext x)
  · cases q : ds[i]? with
    | some d => rw [q] at e; cases e
    | none => exact ⟨xs, hs α1 H1 x, by rw [h.length]; exact List.getElem?_eq_none_iff.mp q⟩
theorem iteT_ok {a : Addr} {xs : List V} {ds : List D} (hs : SqT K H a xs) (h : HasAll K α Z H xs ds) : ItOk K Z α H (IteT K a xs.length) (enumF 0 ds) := by
  intro Z' hz α1 H1 x lv i
  have h := HasAll.zgen hz h
  rw [enum_get]
  refine ⟨fun d e => ?_, fun e => ?_⟩
  · obtain ⟨d', e', rfl⟩ := map_some e
    obtain ⟨v, e1, e2⟩ := h.get e'
    refine ⟨⟨xs, v, x.sqT hs, rfl, e1⟩, fun y H' ⟨T, x', h1, h2, h3, h4⟩ => ?_⟩
    subst h1
    have := h4 xs (x.sqT hs)
    rw [e1] at this
    cases this
    rw [Nat.zero_add]
    exact pair_ok lv h2 h3 (.int _) (e2.ext x)
  · cases q : ds[i]? with
    | some d => rw [q] at e; cases e
    | none => exact ⟨xs, x.sqT hs, rfl, by rw [h.length]; exact List.getElem?_eq_none_iff.mp q⟩
theorem zip_get : ∀ (xs ys : List D) (i : Nat), (zipD xs ys)[i]? = (xs[i]?).bind fun x => (ys[i]?).map fun y => .tup [x, y]
  | [], ys, i => by simp [zipD]
  | x :: xs, [], i => by
    rw [zipD]
    · cases h : (x :: xs)[i]? <;> simp
    · intros; simp_all
  | x :: xs, y :: ys, 0 => by simp [zipD]
  | x :: xs, y :: ys, i + 1 => by rw [zipD, List.getElem?_cons_succ, List.getElem?_cons_succ, List.getElem?_cons_succ, zip_get xs ys]
theorem itz_ok {a b : Addr} {xs ys : List V} {ds es : List D} (hs : ∀ α1 H1, Ext α H α1 H1 → SqL K H1 a xs) (hs2 : ∀ α1 H1, Ext α H α1 H1 → SqL K H1 b ys) (h : HasAll K α Z H xs ds) (k : HasAll K α Z H ys es) : ItOk K Z α H (Itz K a b) (zipD ds es) := by
  intro Z' hz α1 H1 x lv i
  have h := HasAll.zgen hz h
  have k := HasAll.zgen hz k
  rw [zip_get]
  refine ⟨fun d e => ?_, fun e => ?_⟩
  · cases q : ds[i]? with
    | none => rw [q] at e; cases e
    | some d1 =>
      rw [q] at e
      cases q2 : es[i]? with
      | none => rw [q2] at e; cases e
      | some d2 =>
        rw [q2] at e
        cases e
        obtain ⟨v, e1, e2⟩ := h.get q
        obtain ⟨u, f1, f2⟩ := k.get q2
        refine ⟨⟨xs, ys, v, u, hs α1 H1 x, hs2 α1 H1 x, e1, f1⟩, fun y H' ⟨T, x', y', h1, h2, h3, h4, h5⟩ => ?_⟩
        subst h1
        have t1 := h4 xs (hs α1 _ x)
        have t2 := h5 ys (hs2 α1 _ x)
        rw [e1] at t1
        rw [f1] at t2
        cases t1
        cases t2
        exact pair_ok lv h2 h3 (e2.ext x) (f2.ext x)
  · refine ⟨xs, ys, hs α1 H1 x, hs2 α1 H1 x, ?_⟩
    cases q : ds[i]? with
    | none => exact .inl (by rw [h.length]; exact List.getElem?_eq_none_iff.mp q)
    | some d1 =>
      rw [q] at e
      cases q2 : es[i]? with
      | none => exact .inr (by rw [k.length]; exact List.getElem?_eq_none_iff.mp q2)
      | some d2 => rw [q2] at e; cases e
theorem itzT_ok {a b : Addr} {xs ys : List V} {ds es : List D} (hs : SqT K H a xs) (hs2 : SqT K H b ys) (h : HasAll K α Z H xs ds) (k : HasAll K α Z H ys es) : ItOk K Z α H (RZ.ItzT K a b) (zipD ds es) := by
  intro Z' hz α1 H1 x lv i
  have h := HasAll.zgen hz h
  have k := HasAll.zgen hz k
  rw [zip_get]
  refine ⟨fun d e => ?_, fun e => ?_⟩
  · cases q : ds[i]? with
    | none => rw [q] at e; cases e
    | some d1 =>
      rw [q] at e
      cases q2 : es[i]? with
      | none => rw [q2] at e; cases e
      | some d2 =>
        rw [q2] at e
        cases e
        obtain ⟨v, e1, e2⟩ := h.get q
        obtain ⟨u, f1, f2⟩ := k.get q2
        refine ⟨⟨xs, ys, v, u, x.sqT hs, x.sqT hs2, e1, f1⟩, fun y H' ⟨T, x', y', h1, h2, h3, h4, h5⟩ => ?_⟩
        subst h1
        have t1 := h4 xs (x.sqT hs)
        have t2 := h5 ys (x.sqT hs2)
        rw [e1] at t1
        rw [f1] at t2
        cases t1
        cases t2
        exact pair_ok lv h2 h3 (e2.ext x) (f2.ext x)
  · refine ⟨xs, ys, x.sqT hs, x.sqT hs2, ?_⟩
    cases q : ds[i]? with
    | none => exact .inl (by rw [h.length]; exact List.getElem?_eq_none_iff.mp q)
    | some d1 =>
      rw [q] at e
      cases q2 : es[i]? with
      | none => exact .inr (by rw [k.length]; exact List.getElem?_eq_none_iff.mp q2)
      | some d2 => rw [q2] at e; cases e
/-! the calls -/
theorem meets_enum1 {v : Value} {o : Obj} {B : Heap → Prop} (hB : Begins v o B) :
    Meets (Builtin.«enumerate.__new__» ⟨[.type "enumerate", v], []⟩) (fun _ R s => B s.heap ∧
      R (.ok (.ret (.ref (s.heap.push o).objs.size))) { s with heap := (s.heap.push o).push { cls := .type "enumerate", data := .fields #[.none, .bool false, .ref s.heap.objs.size, rawInt 0, .none, .none] } }) :=
  .of_wp fun prog w A R s h => by
    obtain ⟨hp, g, d, tk, os⟩ := s; obtain ⟨h1, h⟩ := h
    have hsub := sub_enumerate
    have q1 : ∀ {A' : Around} {E : Value → Shared → Prop} {Q : Value → Shared → Prop}, Q (.ref hp.objs.size) ⟨hp.push o, g, d, tk, os⟩ → wpAny (model prog w) A' (pyIter v) Q E ⟨hp, g, d, tk, os⟩ :=
      fun q => hB.iter prog w _ _ ⟨hp, g, d, tk, os⟩ _ h1 q
    wp_walk using q1
    refine wpAny_stack_any fun st => wpAny_pure ?_
    split
    · rename_i c _ _ _ _ _
      cases (c == Value.type "enumerate")
      · wp_walk using q1
        exact ⟨_, rfl, h⟩
      · wp_walk using q1
        exact ⟨_, rfl, h⟩
    · wp_walk using q1
      exact ⟨_, rfl, h⟩
theorem call_enum1 {prog : Program} {w : World} {A : Around} {E : Value → Shared → Prop} {s : Shared} {v : Value} {o : Obj} {B : Heap → Prop} {Q : Value → Shared → Prop} (hB : Begins v o B) (h1 : B s.heap)
    (h : ∀ h', IsEnum h' (s.heap.objs.size + 1) s.heap.objs.size 0 .none → h'.get? s.heap.objs.size = some o → h'.objs.size = s.heap.objs.size + 2 →
      (∀ b o, s.heap.get? b = some o → h'.get? b = some o) → Q (.ref (s.heap.objs.size + 1)) { s with heap := h' }) :
    wpAny (model prog w) A (call (.type "enumerate") [v]) Q E s := by
  refine callType_new F.called_enumerate (by decide) (F.typeCall_enumerate_1 _) (F.newCall_enumerate_1 _) (fun obj => F.args_object_init_2 obj _) F.entry_enumerate_new
    (meets_enum1 hB) ⟨h1, ?_⟩
  have hz : (s.heap.push o).objs.size = s.heap.objs.size + 1 := Heap.size_push ..
  show _ ∧ _
  rw [hz]
  have he : IsEnum ((s.heap.push o).push { cls := .type "enumerate", data := .fields #[.none, .bool false, .ref s.heap.objs.size, rawInt 0, .none, .none] }) (s.heap.objs.size + 1) s.heap.objs.size 0 .none := by
    have := Heap.get?_push_size (s.heap.push o) (o := { cls := .type "enumerate", data := .fields #[.none, .bool false, .ref s.heap.objs.size, rawInt 0, .none, .none] }) rfl
    rw [hz] at this; exact this
  refine ⟨⟨_, he, rfl⟩, h _ he (Heap.get?_push_of_some _ (Heap.get?_push_size _ hB.free)) (by rw [Heap.size_push, hz]) fun b o x => Heap.get?_push_of_some _ (Heap.get?_push_of_some _ x)⟩
def iEnumA (K : PySem.W.Frag) (ta : TA) : TI := fun σ H R => ta σ H fun vs H1 => ∃ a xs, vs = [.ref a] ∧ (SqL K H1 a xs ∧ R (Ite K a) H1 ∨ SqT K H1 a xs ∧ R (IteT K a xs.length) H1)
theorem pi_enumA {e : Expr} {ta : TA} {p pos tpos : Pos} {elts : List Expr} {kk : Nat} (hg : Gl X "enumerate") (hm : X.mg "enumerate" = none) (ha : PA X [e] ta) (hs : starEach [e] X.env = [(false, eval e X.env)]) :
    PI X (.Tuple elts kk tpos) (.Call (.Name "enumerate" p) [e] [] pos) (iEnumA X.K ta) := by
  refine ⟨fun pins s σ H R I h => ?_⟩
  refine Call_ (ld_blt I hg hm boot_enumerate (PyProof.Rows.callWith_type1 (thn (ha.run pos pins s σ H _ I h) fun us s1 ⟨vs, H1, I1, r1, q1⟩ => ?_) hs rfl))
  obtain ⟨a, xs, ex, q⟩ := q1
  subst ex
  cases r1 with
  | cons r rr =>
    cases rr
    cases r
    rcases q with ⟨hq, q⟩ | ⟨hq, q⟩
    · obtain ⟨its, rv, p', hz⟩ := I1.list hq
      refine call_enumerate_list p'.isList fun h' he hit hsz hk => wpAny_pyIter_enum he ?_
      have I2 : Inv X pins σ H1 { s1 with heap := h' } := I1.kept (t' := s1.toks) hk
      refine ⟨s1.heap.objs.size + 1, [s1.heap.objs.size + 1, s1.heap.objs.size], _, _, H1, rfl, I2, turn_enum a (s1.heap.objs.size + 1) s1.heap.objs.size, ⟨⟨.none, he⟩, hit, Nat.succ_ne_self _⟩, fun b hb => ?_, q⟩
      have e' : b = s1.heap.objs.size + 1 ∨ b = s1.heap.objs.size := by simpa using hb
      have hle : s1.heap.objs.size ≤ b := by
        rcases e' with z | z
        · rw [z]; exact Nat.le_add_right _ _
        · rw [z]; exact Nat.le_refl _
      exact I1.fpOk hle (I1.hok.fresh hle)
    · obtain ⟨its, rv, p', hz⟩ := I1.tuple hq
      have hp : s1.heap.IsTuple a its.toArray := p'
      have ha' : a < s1.heap.objs.size := by obtain ⟨o, z, _⟩ := hp; exact Heap.lt_size z
      refine call_enum1 (begins_tuple a its.toArray) hp fun h' he hit hsz hk => wpAny_pyIter_enum he ?_
      have I2 : Inv X pins σ H1 { s1 with heap := h' } := I1.kept (t' := s1.toks) hk
      refine ⟨s1.heap.objs.size + 1, [s1.heap.objs.size + 1, s1.heap.objs.size], _, _, H1, rfl, I2, turn_enumT a (s1.heap.objs.size + 1) s1.heap.objs.size xs.length, ⟨⟨.none, he⟩, ⟨_, hit, rfl, rfl⟩, Nat.succ_ne_self _, Nat.ne_of_lt ha', Nat.zero_le _⟩, fun b hb => ?_, q⟩
      have e' : b = s1.heap.objs.size + 1 ∨ b = s1.heap.objs.size := by simpa using hb
      have hle : s1.heap.objs.size ≤ b := by
        rcases e' with z | z
        · rw [z]; exact Nat.le_add_right _ _
        · rw [z]; exact Nat.le_refl _
      exact I1.fpOk hle (I1.hok.fresh hle)
theorem si_enum {e : Expr} {p pos tpos : Pos} {elts : List Expr} {kk : Nat} {m : E} (hg : Gl X "enumerate") (hm : X.mg "enumerate" = none) (ha : PA X [e] (tMs X W (evL [m]))) (hs : starEach [e] X.env = [(false, eval e X.env)]) :
    PI X (.Tuple elts kk tpos) (.Call (.Name "enumerate" p) [e] [] pos) (tI X W (iEnumD m)) :=
  PI.imp (pi_enumA hg hm ha hs) fun σ H R ⟨α, Z, en, st, w, s, q⟩ => by
    refine tms1 w s q fun v H1 α1 st1 d e1 w1 x1 h1 => ?_
    cases x1 with
    | @tup a xs ds hs ha => exact ⟨a, xs, rfl, .inr ⟨hs, h1 α1 H1 _ Ext.refl w1 (iteT_ok hs ha)⟩⟩
    | @lst a xs ds hs n z ha => exact ⟨a, xs, rfl, .inl ⟨.inl (.inl hs), h1 α1 H1 _ Ext.refl w1 (ite_ok (fun α2 H2 x => sq_later n hs x) ha)⟩⟩
    | _ => exact h1.elim
theorem si_zip {e e2 : Expr} {p pos tpos : Pos} {elts : List Expr} {kk : Nat} {m m2 : E} (hg : Gl X "zip") (hm : X.mg "zip" = none) (ha : PA X [e, e2] (tMs X W (evL [m, m2]))) (hs : starEach [e, e2] X.env = (false, eval e X.env) :: starEach [e2] X.env) (hpl : (backTo pos (starEach [e2] X.env)).any (·.1) = false) :
    PI X (.Tuple elts kk tpos) (.Call (.Name "zip" p) [e, e2] [] pos) (tI X W (iZipD m m2)) :=
  PI.imp (RZ.pi_zipA hg hm ha hs hpl) fun σ H R ⟨α, Z, en, st, w, s, q⟩ => by
    refine tms2 w s q fun v v2 H1 α1 st1 d d2 e1 w1 x1 x2 h1 => ?_
    cases x1 with
    | @tup a xs ds hs ha => cases x2 with
      | @tup b ys es hs2 ha2 => exact ⟨a, b, xs, ys, rfl, .inr ⟨hs, hs2, h1 α1 H1 _ Ext.refl w1 (itzT_ok hs hs2 ha ha2)⟩⟩
      | _ => exact h1.elim
    | @lst a xs ds hs n z ha => cases x2 with
      | @lst b ys es hs2 n2 z2 ha2 => exact ⟨a, b, xs, ys, rfl, .inl ⟨.inl (.inl hs), .inl (.inl hs2), h1 α1 H1 _ Ext.refl w1 (itz_ok (fun α2 H2 x => sq_later n hs x) (fun α2 H2 x => sq_later n2 hs2 x) ha ha2)⟩⟩
      | _ => exact h1.elim
    | _ => exact h1.elim
end
end Mn

namespace Mn
open PySem PySem.Spec PyProof.Rows L2

section
variable {X : Cx} {W : WX} {Z α : List Addr} {H : Hp} {st : Store} {K : PySem.W.Frag} {k : Nat} {σ : L2.St} {en : Env}
/-! ### targets -/
/-- but for the slots js all stands as it stood -/
def Off (js : List Nat) (σ σ' : L2.St) : Prop := σ'.length = σ.length ∧ ∀ i : Nat, i ∉ js → σ'[i]? = σ[i]?
theorem Off.refl {js : List Nat} : Off js σ σ := ⟨rfl, fun _ _ => rfl⟩
theorem Off.trans {js : List Nat} {σ1 σ2 : L2.St} (a : Off js σ σ1) (b : Off js σ1 σ2) : Off js σ σ2 := ⟨b.1.trans a.1, fun i h => (b.2 i h).trans (a.2 i h)⟩
theorem Off.mono {js ks : List Nat} {σ1 : L2.St} (a : Off js σ σ1) (h : ∀ i, i ∈ js → i ∈ ks) : Off ks σ σ1 := ⟨a.1, fun i n => a.2 i fun m => n (h i m)⟩
theorem Off.set {i : Nat} {v : Option V} : Off [i] σ (σ.set i v) := ⟨by simp, fun j h => by rw [List.getElem?_set_ne (by intro e; subst e; exact h (by simp))]⟩
theorem wipe_get (vs : List Nat) : ∀ i : Nat, (wipe σ vs)[i]? = if i ∈ vs then (if i < σ.length then some none else none) else σ[i]? := by
  induction vs with
  | nil => intro i; simp [wipe]
  | cons v vs ih =>
    intro i
    unfold wipe
    by_cases h : v = i
    · subst h
      rw [List.getElem?_set]
      simp [wipe_length]
    · rw [List.getElem?_set_ne h, ih]
      have : (i ∈ v :: vs) ↔ i ∈ vs := by simp [Ne.symm h]
      simp [this]
theorem Off.wipe {vs : List Nat} {σ1 : L2.St} (a : Off vs (wipe σ vs) σ1) : L2.wipe σ1 vs = L2.wipe σ vs := by
  apply List.ext_getElem?
  intro i
  rw [wipe_get, wipe_get]
  have hl : σ1.length = σ.length := by rw [a.1, wipe_length]
  by_cases h : i ∈ vs
  · rw [if_pos h, if_pos h, hl]
  · rw [if_neg h, if_neg h, a.2 i h, wipe_get, if_neg h]
def tG (X : Cx) (W : WX) (js : List Nat) (g : TgM) : TG := fun v σ H Q => ∃ α Z en st d, Wd X.K α Z H st ∧ Sl X.K α Z H σ en ∧ HasD X.K α Z H v d ∧ Post X W Z (fun α H σ' en' => Sl X.K α Z H σ' en' ∧ Off js σ σ') α H σ Q (g d en st)
def tGs (X : Cx) (W : WX) (js : List Nat) (g : List D → Env → Store → Res Env) : TGs := fun vs σ H Q => ∃ α Z en st ds, Wd X.K α Z H st ∧ Sl X.K α Z H σ en ∧ HasAll X.K α Z H vs ds ∧ Post X W Z (fun α H σ' en' => Sl X.K α Z H σ' en' ∧ Off js σ σ') α H σ Q (g ds en st)
theorem PG.imp {tg : Expr} {t t' : TG} (h : PG X tg t) (q : ∀ v σ H Q, t' v σ H Q → t v σ H Q) : PG X tg t' := ⟨fun pins s σ H v u Q I r x => h.run pins s σ H v u Q I r (q v σ H Q x)⟩
theorem PGs.imp {tg : List Expr} {t t' : TGs} (h : PGs X tg t) (q : ∀ v σ H Q, t' v σ H Q → t v σ H Q) : PGs X tg t' := ⟨fun pins s σ H v u Q I r x => h.run pins s σ H v u Q I r (q v σ H Q x)⟩
theorem sg_name {i : Nat} {x : Str} {pos : Pos} (h : PG X (.Name x pos) (gName i)) : PG X (.Name x pos) (tG X W [i] (gN i)) :=
  PG.imp h fun v σ H Q ⟨α, Z, en, st, d, w, s, x, q⟩ => q α H _ Ext.refl w ⟨s.set i x, Off.set⟩
theorem sgs_nil : PGs X [] (tGs X W [] (gTs [])) :=
  PGs.imp pgs_nil fun vs σ H Q ⟨α, Z, en, st, ds, w, s, x, q⟩ => by
    cases x with
    | nil => exact ⟨rfl, q α H σ Ext.refl w ⟨s, Off.refl⟩⟩
    | cons _ _ => exact q.elim
theorem Post.slots {β γ : Type} {R : List Addr → Hp → γ → β → Prop} {Q : γ → Hp → Prop} {r : Res β} {σ1 : L2.St} (h : Post X W Z R α H σ Q r) (hx : ∀ c s, r ≠ .exc c s) : Post X W Z R α H σ1 Q r := by
  cases r with
  | ok b s => exact h
  | exc c s => exact absurd rfl (hx c s)
  | bad => exact h
theorem gts_noexc : ∀ (gs : List TgM) (ds : List D) (en : Env) (st : Store) (c : Str) (s : Store), gTs gs ds en st ≠ .exc c s
  | [], [], _, _, _, _, h => by cases h
  | [], _ :: _, _, _, _, _, h => by cases h
  | _ :: _, [], _, _, _, _, h => by cases h
  | g :: gs, d :: ds, en, st, c, s, h => by
    have h' : bnd (noX (g d en st)) (fun σ1 s1 => gTs gs ds σ1 s1) = .exc c s := h
    cases r : g d en st with
    | ok a b => rw [r] at h'; exact gts_noexc gs ds a b c s h'
    | exc c' s' => rw [r] at h'; cases h'
    | bad => rw [r] at h'; cases h'
theorem Post.ofNo {β γ : Type} {R : List Addr → Hp → γ → β → Prop} {Q : γ → Hp → Prop} {r : Res β} (h : Post X W Z R α H σ Q (noX r)) : Post X W Z R α H σ Q r := by
  cases r with
  | ok b s => exact h
  | exc c s => exact h.elim
  | bad => exact h
theorem sgs_cons {e : Expr} {es : List Expr} {js ks : List Nat} {g : TgM} {gs : List TgM} (h1 : PG X e (tG X W js g)) (h2 : PGs X es (tGs X W ks (gTs gs)))
    (hs : (assignEach (e :: es) X.env).map (·.2) = assign e X.env :: (assignEach es X.env).map (·.2)) : PGs X (e :: es) (tGs X W (js ++ ks) (gTs (g :: gs))) :=
  PGs.imp (pgs_cons h1 h2 hs) fun vs σ H Q ⟨α, Z, en, st, ds, w, s, x, q⟩ => by
    cases x with
    | nil => exact q.elim
    | @cons v vs d ds x1 xr =>
      refine ⟨v, vs, rfl, α, Z, en, st, d, w, s, x1, Post.ofNo (Post.mono (Post.bnd (R := fun α H σ' en' => Sl X.K α Z H σ' en' ∧ Off js σ σ') q) fun σ1 H1 ⟨α1, st1, en1, e1, w1, ⟨s1, o1⟩, h1⟩ => ?_)⟩
      refine ⟨α1, Z, en1, st1, ds, w1, s1, xr.ext e1, ?_⟩
      have h1 := Post.slots (σ1 := σ1) h1 (gts_noexc gs ds en1 st1)
      cases r : gTs gs ds en1 st1 with
      | ok b s' =>
        rw [r] at h1
        exact fun α' H' σ' e w' x => h1 α' H' σ' e w' ⟨x.1, (o1.mono (fun i m => List.mem_append_left _ m)).trans (x.2.mono fun i m => List.mem_append_right _ m)⟩
      | exc c s' => exact absurd r (gts_noexc _ _ _ _ _ _)
      | bad => rw [r] at h1; exact h1
theorem sg_tup {es : List Expr} {k : Nat} {pos : Pos} {js : List Nat} {gs : List TgM} (hc : X.calm = true) (h : PGs X es (tGs X W js (gTs gs))) (hl : es.length = gs.length) (hn : (assignEach es X.env).length = es.length) (hst : (assignEach es X.env).findIdx? (·.1) = none) :
    PG X (.Tuple es k pos) (tG X W js (gT gs)) :=
  PG.imp (pg_tup hc h hn hst) fun v σ H Q ⟨α, Z, en, st, d, w, s, x, q⟩ => by
    cases x with
    | @tup a xs ds hs ha =>
      have q' : Post X W Z (fun α H σ' en' => Sl X.K α Z H σ' en' ∧ Off js σ σ') α H σ Q (if ds.length = gs.length then gTs gs ds en st else .bad) := q
      split at q'
      · rename_i hz
        exact ⟨a, xs, rfl, hs, by rw [ha.length, hl, hz], α, Z, en, st, ds, w, s, ha, q'⟩
      · exact q'.elim
    | _ => exact q.elim
theorem PSet.or {t1 t2 : TSet} (h1 : PSet X t1) (h2 : PSet X t2) : PSet X (fun o i v H Q => t1 o i v H Q ∨ t2 o i v H Q) :=
  fun pins s σ H o i v ov iv u Q I ro ri r q => q.elim (h1 pins s σ H o i v ov iv u Q I ro ri r) (h2 pins s σ H o i v ov iv u Q I ro ri r)
def rSetK : TSet := fun o i v H Q => ∃ a H', o = .ref a ∧ DPut H a i v H' ∧ Q H'
theorem set_dict (hu : X.A.units + 1 < cLine) : PSet X rSetK := by
  intro pins s σ H o i v ov iv u Q I ro ri rv ⟨a, H', e, g, q⟩
  subst e
  cases ro
  exact d_setItem hu I g ri rv fun s' I' => ⟨H', I', q⟩
theorem put_map {k : Key} {x : V} {d : D} (hx : HasD K α Z H x d) : ∀ {ws : List (Key × V)} {kvs : List (Key × D)}, ws.map (·.1) = kvs.map (·.1) → HasAll K α Z H (ws.map (·.2)) (kvs.map (·.2)) →
    (ws.map fun kv => if kv.1 = k then (kv.1, x) else kv).map (·.1) = (kvs.map fun kv => if kv.1 = k then (kv.1, d) else kv).map (·.1) ∧ HasAll K α Z H ((ws.map fun kv => if kv.1 = k then (kv.1, x) else kv).map (·.2)) ((kvs.map fun kv => if kv.1 = k then (kv.1, d) else kv).map (·.2))
  | [], [], _, _ => ⟨rfl, .nil⟩
  | (a, v) :: ws, (b, e) :: kvs, hk, hv => by
    obtain ⟨h1, h2⟩ := List.cons.inj hk
    have h1 : a = b := h1
    subst h1
    cases hv with
    | cons p q =>
      obtain ⟨i1, i2⟩ := put_map (k := k) hx h2 q
      simp only [List.map_cons]
      by_cases c : a = k
      · rw [if_pos c, if_pos c, i1]
        exact ⟨rfl, .cons hx i2⟩
      · rw [if_neg c, if_neg c, i1]
        exact ⟨rfl, .cons p i2⟩
  | [], _ :: _, hk, _ => by cases hk
  | _ :: _, [], hk, _ => by cases hk
theorem put_rel {ws : List (Key × V)} {kvs : List (Key × D)} {k : Key} {x : V} {d : D} (e : ws.map (·.1) = kvs.map (·.1)) (h : HasAll K α Z H (ws.map (·.2)) (kvs.map (·.2))) (hx : HasD K α Z H x d) :
    (putK ws k x).map (·.1) = (putD kvs k d).map (·.1) ∧ HasAll K α Z H ((putK ws k x).map (·.2)) ((putD kvs k d).map (·.2)) := by
  unfold putK putD
  rw [any_keys e]
  split
  · exact put_map hx e h
  · rw [List.map_append, List.map_append, List.map_append, List.map_append, e]
    exact ⟨rfl, h.app (.cons hx .nil)⟩
theorem val_rel {k : Key} : ∀ {ws : List (Key × V)} {kvs : List (Key × D)}, ws.map (·.1) = kvs.map (·.1) → HasAll K α Z H (ws.map (·.2)) (kvs.map (·.2)) →
    (∀ d, valD kvs k = some d → ∃ v, valV ws k = some v ∧ HasD K α Z H v d) ∧ (valD kvs k = none → valV ws k = none)
  | [], [], _, _ => ⟨fun _ h => (by cases h), fun _ => rfl⟩
  | (a, v) :: ws, (b, e) :: kvs, hk, hv => by
    obtain ⟨h1, h2⟩ := List.cons.inj hk
    have h1 : a = b := h1
    subst h1
    cases hv with
    | cons p q =>
      have ih := val_rel (k := k) h2 q
      by_cases c : a = k
      · have e1 : valD ((a, e) :: kvs) k = some e := by simp [valD, c]
        have e2 : valV ((a, v) :: ws) k = some v := valV_pos c
        rw [e1, e2]
        exact ⟨fun d hd => by cases hd; exact ⟨v, rfl, p⟩, fun z => nomatch z⟩
      · have e1 : valD ((a, e) :: kvs) k = valD kvs k := by simp [valD, List.find?_cons, c]
        rw [e1, valV_neg c]
        exact ih
  | [], _ :: _, hk, _ => by cases hk
  | _ :: _, [], hk, _ => by cases hk
theorem len_keys {ws : List (Key × V)} {kvs : List (Key × D)} (e : ws.map (·.1) = kvs.map (·.1)) : ws.length = kvs.length := by
  have := congrArg List.length e
  simpa using this
theorem sg_sub {o i : Expr} {pos : Pos} {mo mi : E} (hu : X.A.units + 1 < cLine) (ho : PE X o (tM X W mo)) (hi : PE X i (tM X W mi))
    (ha : ∀ v, assign (.Subscript o i pos) X.env v = (do
      let ov ← holding [v] (eval o X.env)
      let iv ← holding [v, ov] (eval i X.env)
      standAt pos
      holding [v, ov, iv] (setItem ov iv v)
      release [v, ov, iv] [])) : PG X (.Subscript o i pos) (tG X W [] (gSubD mo mi)) :=
  PG.imp (pg_sub ho hi (PSet.or set_list (set_dict hu)) ha) fun v σ H Q ⟨α, Z, en, st, d, w, s, x, q⟩ => by
    refine tM_of mo w s (Post.mono (Post.bnd (R := RD X Z) q) fun v1 H1 ⟨α1, st1, d1, e1, w1, x1, h1⟩ => ?_)
    refine tM_of mi w1 (s.ext e1) (Post.mono (Post.bnd (R := RD X Z) h1) fun v2 H2 ⟨α2, st2, d2, e2, w2, x2, h2⟩ => ?_)
    cases x1 with
    | @ref a n hn =>
      have h3 : Post X W Z (fun α H σ' en' => Sl X.K α Z H σ' en' ∧ Off [] σ σ') α2 H2 σ Q (match setCell st2 n d2 d with | some s3 => .ok en s3 | none => .bad) := h2
      split at h3
      · rename_i s3 e3
        unfold setCell at e3
        split at e3
        · rename_i ds kk e4
          split at e3
          · rename_i j e5
            cases e3
            cases x2
            have hn2 := e2.get hn
            obtain ⟨xs, c1, c2⟩ := w2.cell n a _ hn2 e4
            have mu : Mut (H2 a) := by rw [c1]; trivial
            refine .inl ⟨a, xs, kk, j, rfl, rfl, c1, by rw [c2.length]; exact e5, ?_⟩
            have ew : Ext α2 H2 α2 (upd H2 a (.lst (xs.set j v))) := Ext.write (List.mem_of_getElem? hn2) mu
            have xd := ((x.ext e1).ext e2).ext ew
            exact h3 α2 _ σ ew (w2.write hn2 mu ⟨_, upd_same, (c2.ext ew).set j xd⟩) ⟨((s.ext e1).ext e2).ext ew, Off.refl⟩
          · cases e3
        · rename_i xq xz i2 kvs e4
          cases hk : keyD xq with
          | none => rw [hk] at e3; cases e3
          | some kk =>
            rw [hk] at e3
            have e3' : (if kvs.length < sz then some (st2.set n (.dct (putD kvs kk d))) else none) = some s3 := e3
            split at e3'
            · rename_i hz
              cases e3'
              have hn2 := e2.get hn
              obtain ⟨ws, c1, c2, c3⟩ := w2.cell n a _ hn2 e4
              have mu : Mut (H2 a) := by rw [c1]; trivial
              have ev := keyD_v x2 hk
              subst ev
              refine .inr ⟨a, _, rfl, DPut.k c1 (by rw [len_keys c2]; have hl : sizeLine = 16777216 := sizeLine_eq; have : kvs.length < 16000000 := hz; omega), ?_⟩
              have ew : Ext α2 H2 α2 (upd H2 a (.dK (putK ws kk v))) := Ext.write (List.mem_of_getElem? hn2) mu
              have xd := ((x.ext e1).ext e2)
              obtain ⟨r1, r2⟩ := put_rel (k := kk) c2 c3 xd
              exact h3 α2 _ σ ew (w2.write hn2 mu ⟨_, upd_same, r1, r2.ext ew⟩) ⟨((s.ext e1).ext e2).ext ew, Off.refl⟩
            · cases e3'
        · cases e3
      · exact h3.elim
    | _ => exact h2.elim
/-! ### the tests of one for -/
def tTs (X : Cx) (W : WX) (cs : List E) : TT := fun σ H Q => ∃ α Z en st, Wd X.K α Z H st ∧ Sl X.K α Z H σ en ∧ Post X W Z (fun _ _ v b => v = b) α H σ Q (tests cs en st)
theorem sts_nil : PTs X [] (tTs X W []) := ⟨fun pins s σ H Q I ⟨α, Z, en, st, w, sl, q⟩ => pts_nil.run pins s σ H Q I (q α H true Ext.refl w rfl)⟩
theorem sts_one {c : Expr} {m : E} (h : PT X c (tT X W m)) : PTs X [c] (tTs X W [m]) := ⟨fun pins s σ H Q I ⟨α, Z, en, st, w, sl, q⟩ => (pts_one h).run pins s σ H Q I (by
    refine tT_of m w sl ?_
    have q' : Post X W Z (fun _ _ v b => v = b) α H σ Q (bnd (m en st) fun x s1 => match truth s1 x with | some true => .ok true s1 | some false => .ok false s1 | none => .bad) := q
    refine PostT.mono (Post.bndT (g := fun k _ s1 => Res.ok k s1) (fun d s1 => ?_) q') fun b H1 ⟨α1, st1, d, e1, w1, x1, h1⟩ => h1 α1 H1 b Ext.refl w1 rfl
    cases truth s1 d with
    | none => rfl
    | some k => cases k <;> rfl)⟩
/-! ### list comprehensions -/
theorem Ext.turnP {p : Addr} {o : HO} {α0 : List Addr} {H0 : Hp} (x : Ext α0 H0 α H) (hp : ∃ xs, H p = some (.lst xs)) (h0 : H0 p = none) : Ext α0 H0 α (upd H p o) := by
  obtain ⟨zs, hp⟩ := hp
  refine ⟨x.grow, fun a h => ?_, fun a xs h => ?_, fun a u v h => ?_, fun a xs n h => ?_⟩
  · by_cases e : a = p
    · subst e; rw [upd_same]; simp
    · rw [upd_ne e]; exact x.live a h
  · rw [upd_ne (fun e => by subst e; rw [h0] at h; cases h)]; exact x.tup a xs h
  · rw [upd_ne (fun e => by subst e; rw [h0] at h; cases h)]; exact x.frz a u v h
  · rw [upd_ne (fun e => by subst e; rw [h0] at h; cases h)]; exact x.lst a xs n h
/-- the list that a comprehension makes, kept apart -/
theorem Wd.keep {p : Addr} {zs : List V} (w : Wd K α Z H st) (hp : H p = none) : Wd K α (p :: Z) (upd H p (.lst zs)) st := by
  obtain ⟨n1, n2⟩ := w.new hp
  have w1 := w.newV (o := .lst zs) hp
  refine ⟨w.len, w.nd, fun z m => ?_, fun z m => ?_, fun n a o h1 h2 => ?_⟩
  · rcases List.mem_cons.mp m with e | m
    · subst e; exact n1
    · exact w.dis z m
  · rcases List.mem_cons.mp m with e | m
    · subst e; exact ⟨zs, upd_same⟩
    · exact w1.zl z m
  · have c := w.cell n a o h1 h2
    cases o with
    | lst ds => obtain ⟨xs, e, h⟩ := c; exact ⟨xs, by rw [upd_ne (fun q => by subst q; rw [hp] at e; cases e)]; exact e, (h.zadd hp).ext (Ext.new hp)⟩
    | dct kvs => obtain ⟨xs, e, k, h⟩ := c; exact ⟨xs, by rw [upd_ne (fun q => by subst q; rw [hp] at e; cases e)]; exact e, k, (h.zadd hp).ext (Ext.new hp)⟩
theorem Wd.turnK {p : Addr} {zs : List V} (w : Wd K α (p :: Z) H st) : Wd K α (p :: Z) (upd H p (.lst zs)) st := by
  have hp := w.zl p (by simp)
  have np := w.dis p (by simp)
  refine ⟨w.len, w.nd, w.dis, fun z m => ?_, fun n a o h1 h2 => ?_⟩
  · by_cases e : z = p
    · subst e; exact ⟨zs, upd_same⟩
    · rw [upd_ne e]; exact w.zl z m
  · have ne : a ≠ p := fun e => np (e ▸ List.mem_of_getElem? h1)
    have c := w.cell n a o h1 h2
    cases o with
    | lst ds => obtain ⟨xs, e, h⟩ := c; exact ⟨xs, by rw [upd_ne ne]; exact e, h.turn hp⟩
    | dct kvs => obtain ⟨xs, e, k, h⟩ := c; exact ⟨xs, by rw [upd_ne ne]; exact e, k, h.turn hp⟩
theorem Wd.unkeep {p : Addr} (w : Wd K α (p :: Z) H st) : Wd K α Z H st :=
  ⟨w.len, w.nd, fun z m => w.dis z (List.mem_cons_of_mem _ m), fun z m => w.zl z (List.mem_cons_of_mem _ m), fun n a o h1 h2 => by
    have c := w.cell n a o h1 h2
    cases o with
    | lst ds => obtain ⟨xs, e, h⟩ := c; exact ⟨xs, e, h.zsub fun a m => List.mem_cons_of_mem _ m⟩
    | dct kvs => obtain ⟨xs, e, k, h⟩ := c; exact ⟨xs, e, k, h.zsub fun a m => List.mem_cons_of_mem _ m⟩⟩
/-- the kept apart list joins the store -/
theorem Wd.join {p : Addr} {zs : List V} {ds : List D} (w : Wd K α (p :: Z) H st) (nz : p ∉ Z) (hp : H p = some (.lst zs)) (h : HasAll K α (p :: Z) H zs ds) : Wd K (α ++ [p]) Z H (st ++ [.lst ds]) := by
  have np := w.dis p (by simp)
  refine ⟨by simp [w.len], List.nodup_append.mpr ⟨w.nd, by simp, fun a ha b hb e => ?_⟩, fun z m k => ?_, fun z m => w.zl z (List.mem_cons_of_mem _ m), fun n a u h1 h2 => ?_⟩
  · simp at hb; subst hb; subst e; exact np ha
  · rcases List.mem_append.mp k with k | k
    · exact w.dis z (List.mem_cons_of_mem _ m) k
    · simp at k; subst k; exact nz m
  · by_cases hn : n < α.length
    · rw [List.getElem?_append_left hn] at h1
      rw [List.getElem?_append_left (by rw [← w.len]; exact hn)] at h2
      have c := w.cell n a u h1 h2
      cases u with
      | lst ds => obtain ⟨xs, e, h⟩ := c; exact ⟨xs, e, h.zmove⟩
      | dct kvs => obtain ⟨xs, e, k, h⟩ := c; exact ⟨xs, e, k, h.zmove⟩
    · have hn' : n = α.length := by
        have := (List.getElem?_eq_some_iff.mp h1).1
        simp at this
        omega
      subst hn'
      simp at h1
      rw [w.len] at h2
      simp at h2
      subst h1; subst h2
      exact ⟨zs, hp, h.zmove⟩
theorem Sl.zadd {p : Addr} (s : Sl K α Z H σ en) (hp : H p = none) : Sl K α (p :: Z) H σ en := ⟨s.1, fun i d h => let ⟨v, e, q⟩ := s.2 i d h; ⟨v, e, q.zadd hp⟩⟩
abbrev W0 : WX := fun _ _ _ _ => False
/-- what is wanted of the loop's result -/
def CEnd (X : Cx) (Z : List Addr) (p : Addr) (α1 : List Addr) (H1 : Hp) (Q : Hp → Prop) (out : List D) (st : Store) : Prop := ∀ α' H' zs, Ext α1 H1 α' H' → Wd X.K α' (p :: Z) H' st → H' p = some (.lst zs) → HasAll X.K α' (p :: Z) H' zs out → Q H'
def CPost (X : Cx) (Z : List Addr) (p : Addr) (α1 : List Addr) (H1 : Hp) (Q : Hp → Prop) : Res (List D) → Prop
  | .ok out st => CEnd X Z p α1 H1 Q out st
  | _ => False
theorem bad_or {β γ : Type} {r : Res β} {k : β → Store → Res γ} {P : Res γ → Prop} (hx : ∀ c s, ¬ P (.exc c s)) (hb : ¬ P .bad) (h : P (bnd r k)) : ∃ b s, r = .ok b s ∧ P (k b s) := by
  cases r with
  | ok b s => exact ⟨b, s, rfl, h⟩
  | exc c s => exact absurd h (hx c s)
  | bad => exact absurd h hb
theorem lc_core2 {g : TG} {tt : TT} {te : TE} {vs js : List Nat} {tg : TgM} {cs : List E} {elt : E} {J : It} {α1 : List Addr} {H1 : Hp} {p : Addr} {Q : Hp → Prop} {Xb : Cx} (hK : Xb.K = X.K) (hjs : ∀ i, i ∈ js → i ∈ vs)
    (hg : ∀ v σ H Q, tG Xb W0 js tg v σ H Q → g v σ H Q) (ht : ∀ σ H Q, tTs Xb W0 cs σ H Q → tt σ H Q) (he : ∀ σ H Q, tM Xb W0 elt σ H Q → te σ H Q) (ds : List D) (w : Wd X.K α1 Z H1 st) (s : Sl X.K α1 Z H1 σ en) (hJ : ItOk X.K Z α1 H1 J ds) (hp : H1 p = none)
    (q : CPost X Z p α1 H1 Q (compL tg cs elt (wipeE en vs) ds [] st)) : ∃ W : Nat → Nat → Hp → Prop, (∃ m, W 0 m (upd H1 p (.lst []))) ∧ ∀ i m H, W i m H →
    (J.stop i H ∧ Q H) ∨ (J.go i H ∧ ∃ Nx : Hp → Prop, (∀ H', Nx H' → ∃ m', m' < m ∧ W (i + 1) m' H') ∧ ∀ x H', J.yld i H x H' → g x (wipe σ vs) H' fun σ2 H2 => wipe σ2 vs = wipe σ vs ∧ tt σ2 H2 fun b H3 =>
      if b = true then te σ2 H3 fun y H4 => ∃ acc, H4 p = some (.lst acc) ∧ acc.length < sizeLine ∧ Nx (upd H4 p (.lst (acc ++ [y]))) else Nx H3) := by
  refine ⟨fun i m H => m = ds.length - i ∧ i ≤ ds.length ∧ ∃ α2 st2 acc zs, Ext α1 H1 α2 H ∧ Wd X.K α2 (p :: Z) H st2 ∧ H p = some (.lst zs) ∧ HasAll X.K α2 (p :: Z) H zs acc ∧ CPost X Z p α1 H1 Q (compL tg cs elt (wipeE en vs) (ds.drop i) acc st2),
    ⟨ds.length, by simp, Nat.zero_le _, α1, st, [], [], Ext.new hp, w.keep hp, upd_same, .nil, q⟩, ?_⟩
  rintro i m H ⟨rfl, hi, α2, st2, acc, zs, x2, w2, p2, a2, q2⟩
  obtain ⟨go, stop⟩ := hJ (p :: Z) (fun z m => (List.mem_cons.mp m).elim (fun e => .inr (by rw [e]; exact hp)) .inl) α2 H x2 (fun a m => m.elim w2.live fun z => by obtain ⟨xs, e⟩ := w2.zl a z; rw [e]; simp) i
  by_cases hlt : i < ds.length
  · have e1 : ds[i]? = some ds[i] := List.getElem?_eq_getElem hlt
    have e2 : ds.drop i = ds[i] :: ds.drop (i + 1) := (List.drop_eq_getElem_cons hlt)
    rw [e2] at q2
    obtain ⟨g1, y1⟩ := go _ e1
    refine .inr ⟨g1, fun H' => ∃ α3 st3 acc zs, Ext α1 H1 α3 H' ∧ Wd X.K α3 (p :: Z) H' st3 ∧ H' p = some (.lst zs) ∧ HasAll X.K α3 (p :: Z) H' zs acc ∧ CPost X Z p α1 H1 Q (compL tg cs elt (wipeE en vs) (ds.drop (i + 1)) acc st3), fun H' h => ⟨_, by omega, rfl, hlt, h⟩, fun x H' hy => ?_⟩
    obtain ⟨x3, same, hx⟩ := y1 x H' hy
    have w3 : Wd X.K α2 (p :: Z) H' st2 := w2.same x3 fun a m => same a (.inl m)
    have p3 : H' p = some (.lst zs) := by rw [same p (.inr (by simp))]; exact p2
    have a3 := a2.ext x3
    have x13 := x2.trans x3
    have s3 : Sl X.K α2 (p :: Z) H' (wipe σ vs) (wipeE en vs) := ((s.zadd hp).wipe vs).ext x13
    have kq : CPost X Z p α1 H1 Q (bnd (tg ds[i] (wipeE en vs) st2) fun σ1 s1 => bnd (tests cs σ1 s1) fun b s2 => match b with
      | true => bnd (elt σ1 s2) fun x s3 => if acc.length < sz then compL tg cs elt (wipeE en vs) (ds.drop (i + 1)) (acc ++ [x]) s3 else .bad
      | false => compL tg cs elt (wipeE en vs) (ds.drop (i + 1)) acc s2) := q2
    obtain ⟨en1, st3, r1, kq⟩ := bad_or (fun _ _ h => h) (fun h => h) kq
    refine hg x (wipe σ vs) H' _ ⟨α2, p :: Z, _, st2, _, hK ▸ w3, hK ▸ s3, hK ▸ hx, ?_⟩
    rw [r1]
    intro α4 H4 σ4 x4 w4 ⟨s4, o4⟩
    refine ⟨(o4.mono hjs).wipe, ?_⟩
    have p4 : H4 p = some (.lst zs) := x4.lst p zs (w3.dis p (by simp)) p3
    have a4 := a3.ext x4
    obtain ⟨b, st5, r2, kq⟩ := bad_or (fun _ _ h => h) (fun h => h) kq
    refine ht σ4 H4 _ ⟨α4, p :: Z, en1, st3, w4, s4, ?_⟩
    rw [r2]
    intro α5 H5 b' x5 w5 e5
    subst e5
    have p5 : H5 p = some (.lst zs) := x5.lst p zs ((hK ▸ w4 : Wd X.K α4 (p :: Z) H4 st3).dis p (by simp)) p4
    have a5 := a4.ext x5
    have x15 := (x13.trans x4).trans x5
    cases b' with
    | false => exact ⟨α5, st5, acc, zs, x15, hK ▸ w5, p5, a5, kq⟩
    | true =>
      have kq : CPost X Z p α1 H1 Q (bnd (elt en1 st5) fun x s3 => if acc.length < sz then compL tg cs elt (wipeE en vs) (ds.drop (i + 1)) (acc ++ [x]) s3 else .bad) := kq
      obtain ⟨d6, st6, r3, kq⟩ := bad_or (fun _ _ h => h) (fun h => h) kq
      split at kq
      · rename_i hsz
        refine he σ4 H5 _ ⟨α5, p :: Z, en1, st5, w5, s4.ext x5, ?_⟩
        rw [r3]
        intro α6 H6 y x6 w6 h6
        have w6' : Wd X.K α6 (p :: Z) H6 st6 := hK ▸ w6
        have h6' : HasD X.K α6 (p :: Z) H6 y d6 := hK ▸ h6
        have p6 : H6 p = some (.lst zs) := x6.lst p zs ((hK ▸ w5 : Wd X.K α5 (p :: Z) H5 st5).dis p (by simp)) p5
        have a6 := a5.ext x6
        refine ⟨zs, p6, ?_, α6, st6, acc ++ [d6], zs ++ [y], (x15.trans x6).turnP ⟨zs, p6⟩ hp, w6'.turnK, upd_same, (a6.app (.cons h6' .nil)).turn ⟨zs, p6⟩, kq⟩
        rw [a6.length]
        have hl : sizeLine = 16777216 := sizeLine_eq
        have : acc.length < 16000000 := hsz
        omega
      · exact kq.elim
  · have hn : ds.drop i = [] := List.drop_eq_nil_of_le (by omega)
    rw [hn] at q2
    exact .inl ⟨stop (List.getElem?_eq_none_iff.mpr (by omega)), q2 α2 H zs x2 w2 p2 a2⟩
end
end Mn

namespace Mn
open PySem PySem.Spec PyProof.Rows L2

section
variable {X : Cx} {W : WX} {Z α : List Addr} {H : Hp} {st : Store} {K : PySem.W.Frag} {k : Nat} {σ : L2.St} {en : Env}
theorem CPost.of {Q : VK} {R : List D → Store → Res D} {r : Res (List D)} {p : Addr} (h : Post X W Z (RD X Z) α H σ Q (bnd (noX r) R))
    (f : ∀ out s α' H' zs, Ext α H α' H' → Wd X.K α' (p :: Z) H' s → H' p = some (.lst zs) → HasAll X.K α' (p :: Z) H' zs out → Post X W Z (RD X Z) α H σ Q (R out s) → Q (.ref p) H') : CPost X Z p α H (fun H' => Q (.ref p) H') r := by
  cases r with
  | ok out s => exact fun α' H' zs e w x a => f out s α' H' zs e w x a h
  | exc c s => exact h.elim
  | bad => exact h.elim
section
variable {elt tg iter : Expr} {ifs : List Expr} {scope : Scope} {own : List (Str × Nat)} {pos : Pos} {it : EI} {mtg : TgM} {cs : List E} {me : E} {js : List Nat}
theorem se_comp (hc : X.calm = true) (hN : X.N.Nodup) (hi : PI X tg iter (tI X W it)) (ok : BlkOk X.N X.env.scope scope own) (hjs : ∀ i, i ∈ js → i ∈ own.map (·.2))
    (hg : ∀ (s : Shared) (H : Hp) (C : Addr) (cl : List (Str × Addr)) (fp : List Addr), PG (X.blk s H scope (compEnvC scope cl C X.env) fp) tg (tG X W0 js mtg)) (ht : ∀ (s : Shared) (H : Hp) (C : Addr) (cl : List (Str × Addr)) (fp : List Addr), PTs (X.blk s H scope (compEnvC scope cl C X.env) fp) ifs (tTs X W0 cs))
    (he : ∀ (s : Shared) (H : Hp) (C : Addr) (cl : List (Str × Addr)) (fp : List Addr), PE (X.blk s H scope (compEnvC scope cl C X.env) fp) elt (tM X W0 me)) (hs : ∀ x, foldedSetIterable iter X.env x = pure x) :
    PE X (.ListComp elt [⟨tg, iter, ifs, 0⟩] scope pos) (tM X W (eComp (own.map (·.2)) it mtg cs me)) :=
  PE.imp (pe_lc hc hN hi ok hg ht he hs) fun σ H Q ⟨α, Z, en, st, w, s, q⟩ => by
    refine ⟨α, Z, en, st, w, s, Post.mono (Post.bnd (R := fun α H J ds => ItOk X.K Z α H J ds) q) fun J H1 ⟨α1, st1, ds, e1, w1, x1, h1⟩ => fun p hp => ?_⟩
    refine lc_core2 (Q := fun H' => Q (.ref p) H') (Xb := X) rfl hjs (fun _ _ _ _ h => h) (fun _ _ _ h => h) (fun _ _ _ h => h) ds w1 (s.ext e1) x1 hp (CPost.of h1 fun out s' α' H' zs e w' x a h2 => ?_)
    exact h2 α' H' _ e w'.unkeep (.lst x (w'.dis p (by simp)) (w1.new hp).2 (a.zsub fun a m => List.mem_cons_of_mem _ m))
theorem se_compR (hc : X.calm = true) (hN : X.N.Nodup) (hi : PI X tg iter (tI X W it)) (ok : BlkOk X.N X.env.scope scope own) (hjs : ∀ i, i ∈ js → i ∈ own.map (·.2))
    (hg : ∀ (s : Shared) (H : Hp) (C : Addr) (cl : List (Str × Addr)) (fp : List Addr), PG (X.blk s H scope (compEnvC scope cl C X.env) fp) tg (tG X W0 js mtg)) (ht : ∀ (s : Shared) (H : Hp) (C : Addr) (cl : List (Str × Addr)) (fp : List Addr), PTs (X.blk s H scope (compEnvC scope cl C X.env) fp) ifs (tTs X W0 cs))
    (he : ∀ (s : Shared) (H : Hp) (C : Addr) (cl : List (Str × Addr)) (fp : List Addr), PE (X.blk s H scope (compEnvC scope cl C X.env) fp) elt (tM X W0 me)) (hs : ∀ x, foldedSetIterable iter X.env x = pure x) :
    PE X (.ListComp elt [⟨tg, iter, ifs, 0⟩] scope pos) (tM X W (eCompR (own.map (·.2)) it mtg cs me)) :=
  PE.imp (pe_lc hc hN hi ok hg ht he hs) fun σ H Q ⟨α, Z, en, st, w, s, q⟩ => by
    refine ⟨α, Z, en, st, w, s, Post.mono (Post.bnd (R := fun α H J ds => ItOk X.K Z α H J ds) q) fun J H1 ⟨α1, st1, ds, e1, w1, x1, h1⟩ => fun p hp => ?_⟩
    refine lc_core2 (Q := fun H' => Q (.ref p) H') (Xb := X) rfl hjs (fun _ _ _ _ h => h) (fun _ _ _ h => h) (fun _ _ _ h => h) ds w1 (s.ext e1) x1 hp (CPost.of h1 fun out s' α' H' zs e w' x a h2 => ?_)
    refine h2 (α' ++ [p]) H' _ ⟨?_, e.live, e.tup, e.frz, e.lst⟩ (w'.join (w1.new hp).2 x a) (.ref ?_)
    · obtain ⟨β, eb, hb⟩ := e.grow
      refine ⟨β ++ [p], by rw [eb, List.append_assoc], fun b m => ?_⟩
      rcases List.mem_append.mp m with m | m
      · exact hb b m
      · simp at m; subst m; exact hp
    · rw [← w'.len]; simp
end
/-! ### statements -/
def PostS (X : Cx) (W : WX) (Z : List Addr) (α : List Addr) (H : Hp) (D : Ends) : SR → Prop
  | .nx en st => ∀ α' H' σ', Ext α H α' H' → Wd X.K α' Z H' st → Sl X.K α' Z H' σ' en → D.nx σ' H'
  | .rt d st => ∀ α' H' v, Ext α H α' H' → Wd X.K α' Z H' st → HasD X.K α' Z H' v d → D.rt v H'
  | .bk en st => ∀ α' H' σ', Ext α H α' H' → Wd X.K α' Z H' st → Sl X.K α' Z H' σ' en → D.bk σ' H'
  | .ct en st => ∀ α' H' σ', Ext α H α' H' → Wd X.K α' Z H' st → Sl X.K α' Z H' σ' en → D.ct σ' H'
  | .exc c en st => ∀ α' H' σ' cls, Ext α H α' H' → Wd X.K α' Z H' st → Sl X.K α' Z H' σ' en → X.mg c = some cls → W cls none σ' H'
  | .bad => False
def tS (X : Cx) (W : WX) (m : S) : TS := fun D σ H => ∃ α Z en st, Wd X.K α Z H st ∧ Sl X.K α Z H σ en ∧ PostS X W Z α H D (m en st)
theorem PS.imp {e : Stmt} {t t' : TS} (h : PS X e t) (q : ∀ D σ H, t' D σ H → t D σ H) : PS X e t' := ⟨fun pins s σ H D I x => h.run pins s σ H D I (q D σ H x)⟩
theorem PSs.imp {e : List Stmt} {t t' : TS} (h : PSs X e t) (q : ∀ D σ H, t' D σ H → t D σ H) : PSs X e t' := ⟨fun pins s σ H D I x => h.run pins s σ H D I (q D σ H x)⟩
theorem tS_of (m : S) {D : Ends} (w : Wd X.K α Z H st) (s : Sl X.K α Z H σ en) (h : PostS X W Z α H D (m en st)) : tS X W m D σ H := ⟨α, Z, en, st, w, s, h⟩
theorem PostS.later {D : Ends} {r : SR} {α1 : List Addr} {H1 : Hp} (h : PostS X W Z α H D r) (e1 : Ext α H α1 H1) : PostS X W Z α1 H1 D r := by
  cases r with
  | nx b s => exact fun α' H' v e w x => h α' H' v (e1.trans e) w x
  | rt b s => exact fun α' H' v e w x => h α' H' v (e1.trans e) w x
  | bk b s => exact fun α' H' v e w x => h α' H' v (e1.trans e) w x
  | ct b s => exact fun α' H' v e w x => h α' H' v (e1.trans e) w x
  | exc c b s => exact fun α' H' σ' cls e w x => h α' H' σ' cls (e1.trans e) w x
  | bad => exact h
/-- an expression ahead of the rest of a statement -/
theorem PostS.sbnd {β γ : Type} {R : List Addr → Hp → γ → β → Prop} {D : Ends} {r : Res β} {k : β → Store → SR} (s : Sl X.K α Z H σ en) (h : PostS X W Z α H D (Mn.sbnd en r k)) :
    Post X W Z R α H σ (fun v H1 => ∃ α1 st1 b, Ext α H α1 H1 ∧ Wd X.K α1 Z H1 st1 ∧ R α1 H1 v b ∧ PostS X W Z α1 H1 D (k b st1)) r := by
  cases r with
  | ok b st' => exact fun α' H' v e w x => ⟨α', st', b, e, w, x, h.later e⟩
  | exc c st' => exact fun α' H' cls e w x => h α' H' σ cls e w (s.ext e) x
  | bad => exact h
theorem PostS.sbndT {D : Ends} {r : Res Mn.D} {k : Mn.D → Store → SR} {g : Bool → Store → SR} (hk : ∀ d s, k d s = match truth s d with | some b => g b s | none => .bad) (s : Sl X.K α Z H σ en) (h : PostS X W Z α H D (Mn.sbnd en r k)) :
    PostT X W Z α H σ (fun b H1 => ∃ α1 st1, Ext α H α1 H1 ∧ Wd X.K α1 Z H1 st1 ∧ PostS X W Z α1 H1 D (g b st1)) r := by
  cases r with
  | ok d st' =>
    have h' : PostS X W Z α H D (k d st') := h
    rw [hk] at h'
    cases q : truth st' d with
    | none => rw [q] at h'; exact h'.elim
    | some b => rw [q] at h'; exact ⟨b, q, fun α' H' e w => ⟨α', st', e, w, h'.later e⟩⟩
  | exc c st' => exact fun α' H' cls e w x => h α' H' σ cls e w (s.ext e) x
  | bad => exact h
theorem ss_bad {e : Stmt} : PS X e (tS X W sBad) := ⟨fun _ _ _ _ _ _ ⟨_, _, _, _, _, _, h⟩ => h.elim⟩
theorem sss_nil : PSs X [] (tS X W sNop) := PSs.imp pss_nil fun D σ H ⟨α, Z, en, st, w, s, q⟩ => q α H σ Ext.refl w s
theorem sss_cons {e : Stmt} {es : List Stmt} {m ms : S} (h1 : PS X e (tS X W m)) (h2 : PSs X es (tS X W ms)) : PSs X (e :: es) (tS X W (sSeq m ms)) :=
  PSs.imp (pss_cons h1 h2) fun D σ H ⟨α, Z, en, st, w, s, q⟩ => by
    refine ⟨α, Z, en, st, w, s, ?_⟩
    have q' : PostS X W Z α H D ((m en st).andThen ms) := q
    cases r : m en st with
    | nx en1 st1 => rw [r] at q'; exact fun α' H' σ' e w' s' => ⟨α', Z, en1, st1, w', s', PostS.later (h := q') e⟩
    | rt d st1 => rw [r] at q'; exact q'
    | bk d st1 => rw [r] at q'; exact q'
    | ct d st1 => rw [r] at q'; exact q'
    | exc c en1 st1 => rw [r] at q'; exact q'
    | bad => rw [r] at q'; exact q'
theorem ss_pass {pos : Pos} : PS X (.Pass pos) (tS X W sNop) := PS.imp ps_pass fun D σ H ⟨α, Z, en, st, w, s, q⟩ => q α H σ Ext.refl w s
theorem ss_break {pos : Pos} : PS X (.Break pos) (tS X W sBreak) := PS.imp ps_break fun D σ H ⟨α, Z, en, st, w, s, q⟩ => q α H σ Ext.refl w s
theorem ss_cont {pos : Pos} : PS X (.Continue pos) (tS X W sCont) := PS.imp ps_continue fun D σ H ⟨α, Z, en, st, w, s, q⟩ => q α H σ Ext.refl w s
theorem ss_retN {pos : Pos} : PS X (.Return none pos) (tS X W sRetN) := PS.imp ps_retN fun D σ H ⟨α, Z, en, st, w, s, q⟩ => q α H .non Ext.refl w .non
theorem ss_ret {e : Expr} {pos : Pos} {m : E} (h : PE X e (tM X W m)) : PS X (.Return (some e) pos) (tS X W (sRet m)) :=
  PS.imp (ps_ret h) fun D σ H ⟨α, Z, en, st, w, s, q⟩ => tM_of m w s (Post.mono (PostS.sbnd (R := RD X Z) s q) fun v H1 ⟨α1, st1, d, e1, w1, x1, h1⟩ => h1 α1 H1 v Ext.refl w1 x1)
theorem ss_expr {e : Expr} {pos : Pos} {m : E} (h : PE X e (tM X W m)) (hs : swapsWith e none pos.line X.env = pure false) : PS X (.Expr e pos) (tS X W (sExpr m)) :=
  PS.imp (ps_expr h hs) fun D σ H ⟨α, Z, en, st, w, s, q⟩ => tM_of m w s (Post.mono (PostS.sbnd (R := RD X Z) s q) fun v H1 ⟨α1, st1, d, e1, w1, x1, h1⟩ => h1 α1 H1 σ Ext.refl w1 (s.ext e1))
theorem tasg_of {e : E} {js : List Nat} {g : TgM} {D : Ends} (w : Wd X.K α Z H st) (s : Sl X.K α Z H σ en) (q : PostS X W Z α H D (sAsg g e en st)) : tAsg (tM X W e) (tG X W js g) D σ H := by
  refine tM_of e w s (Post.mono (PostS.sbnd (R := RD X Z) s q) fun v H1 ⟨α1, st1, d, e1, w1, x1, h1⟩ => ?_)
  exact ⟨α1, Z, en, st1, d, w1, s.ext e1, x1, Post.mono (PostS.sbnd (R := fun α H σ' en' => Sl X.K α Z H σ' en' ∧ Off js σ σ') (s.ext e1) h1) fun σ2 H2 ⟨α2, st2, en2, e2, w2, x2, h2⟩ => h2 α2 H2 σ2 Ext.refl w2 x2.1⟩
theorem ss_asg {tg e : Expr} {pos : Pos} {m : E} {js : List Nat} {g : TgM} (he : PE X e (tM X W m)) (hg : PG X tg (tG X W js g)) (hs : swapsWithSole [tg] e pos.line X.env = pure false) (hw : swappedStores [tg] e X.env = pure none)
    (h1 : (assignEach [tg] X.env).map (·.2) = [assign tg X.env]) : PS X (.Assign [tg] e pos) (tS X W (sAsg g m)) :=
  PS.imp (ps_asg he hg hs hw h1) fun D σ H ⟨α, Z, en, st, w, s, q⟩ => tasg_of w s q
/-- an operator in place, as the plain one (of things that do not change) -/
theorem ss_aug {i : Nat} {x : Str} {e : Expr} {op : Operator} {pos pos' : Pos} {m : E} {f : Store → D → D → Option D} {r : R2} (hN : X.N.Nodup) (hi : X.N[i]? = some x) (hx : Loc X.env.scope x) (he : PE X e (tM X W m)) (ho : PIp X op r) (hf : RelOp X f r) (hfn : X.fn x = true ∨ X.env.scope.names.lookup x = some .local) :
    PS X (.AugAssign (.Name x pos') op e pos) (tS X W (sAug i f m)) :=
  PS.imp (ps_aug hN hi hx he ho hfn) fun D σ H ⟨α, Z, en, st, w, s, q⟩ => by
    unfold sAug at q
    split at q
    · rename_i a ea
      obtain ⟨v, e1, hv⟩ := s.2 i a ea
      refine ⟨v, e1, tM_of m w s (Post.mono (PostS.sbnd (R := RD X Z) s q) fun u H1 ⟨α1, st1, d, x1, w1, hu, h1⟩ => ?_)⟩
      cases z : f st1 a d with
      | none => rw [z] at h1; exact h1.elim
      | some c =>
        rw [z] at h1
        exact hf α1 Z H1 st1 v u a d c _ w1 (hv.ext x1) hu z fun H2 y x2 w2 hy => h1 α1 H2 _ x2 w2 ((((s.ext x1).ext x2)).set i hy)
    · exact q.elim
theorem ss_if {c : Expr} {a b : List Stmt} {pos : Pos} {mc : E} {ma mb : S} (hc : PT X c (tT X W mc)) (ha : PSs X a (tS X W ma)) (hb : PSs X b (tS X W mb)) : PS X (.If c a b pos) (tS X W (sIf mc ma mb)) :=
  PS.imp (ps_if hc ha hb) fun D σ H ⟨α, Z, en, st, w, s, q⟩ => by
    refine tT_of mc w s (PostT.mono (PostS.sbndT (g := fun b s1 => if b = true then ma en s1 else mb en s1) (fun d s1 => ?_) s q) fun b H1 ⟨α1, st1, e1, w1, h1⟩ => ?_)
    · show (match truth s1 d with | some true => ma en s1 | some false => mb en s1 | none => SR.bad) = _
      cases truth s1 d with
      | none => rfl
      | some b => cases b <;> rfl
    · cases b with
      | true => exact tS_of ma w1 (s.ext e1) h1
      | false => exact tS_of mb w1 (s.ext e1) h1
/-- a loop's turn -/
def loopK (next : Env → Store → SR) : SR → SR
  | .nx σ2 s2 => next σ2 s2
  | .ct σ2 s2 => next σ2 s2
  | .bk σ2 s2 => .nx σ2 s2
  | r => r
theorem PostS.loop {D : Ends} {next : Env → Store → SR} {r : SR} {N : L2.St → Hp → Prop} (h : PostS X W Z α H D (loopK next r)) (hN : ∀ en' st' α' H' σ', Ext α H α' H' → Wd X.K α' Z H' st' → Sl X.K α' Z H' σ' en' → PostS X W Z α H D (next en' st') → N σ' H') :
    PostS X W Z α H { D with nx := N, ct := N, bk := D.nx } r := by
  cases r with
  | nx en1 st1 => exact fun α' H' σ' e w s => hN en1 st1 α' H' σ' e w s h
  | ct en1 st1 => exact fun α' H' σ' e w s => hN en1 st1 α' H' σ' e w s h
  | bk en1 st1 => exact h
  | rt d st1 => exact h
  | exc c en1 st1 => exact h
  | bad => exact h
theorem forL_cons (tg : TgM) (body : S) (d : D) (ds : List D) (en : Env) (st : Store) : forL tg body (d :: ds) en st = sbnd en (tg d en st) fun σ1 s1 => loopK (forL tg body ds) (body σ1 s1) := by
  show sbnd en (tg d en st) (fun σ1 s1 => match body σ1 s1 with | .nx σ2 s2 => forL tg body ds σ2 s2 | .ct σ2 s2 => forL tg body ds σ2 s2 | .bk σ2 s2 => .nx σ2 s2 | r => r) = _
  congr 1
theorem ss_for {tg iter : Expr} {body : List Stmt} {pos : Pos} {it : EI} {g : TgM} {js : List Nat} {mb : S} (hp : PassesOwn (model X.prog X.w) X.A X.env X.xe) (hc : X.calm = true) (hi : PI X tg iter (tI X W it)) (hg : PG X tg (tG X W js g)) (hb : PSs X body (tS X W mb))
    (hs : ∀ x, foldedSetIterable iter X.env x = pure x) : PS X (.For tg iter body [] pos) (tS X W (sFor it g mb)) :=
  PS.imp (ps_for hp hc hi hg hb hs) fun D σ H ⟨α, Z, en, st, w, s, q⟩ => by
    refine ⟨α, Z, en, st, w, s, Post.mono (PostS.sbnd (R := fun α H J ds => ItOk X.K Z α H J ds) s q) fun J H1 ⟨α1, st1, ds, e1, w1, hJ, h1⟩ => ?_⟩
    refine ⟨fun i m σ H => m = ds.length - i ∧ i ≤ ds.length ∧ ∃ α2 en2 st2, Ext α1 H1 α2 H ∧ Wd X.K α2 Z H st2 ∧ Sl X.K α2 Z H σ en2 ∧ PostS X W Z α2 H D (forL g mb (ds.drop i) en2 st2), ⟨ds.length, by simp, Nat.zero_le _, α1, en, st1, Ext.refl, w1, s.ext e1, h1⟩, ?_⟩
    rintro i m σ H ⟨rfl, hi, α2, en2, st2, x2, w2, s2, q2⟩
    obtain ⟨go, stop⟩ := hJ Z (fun z m => .inl m) α2 H x2 (fun a m => m.elim w2.live fun z => by obtain ⟨xs, e⟩ := w2.zl a z; rw [e]; simp) i
    by_cases hlt : i < ds.length
    · have ed : ds[i]? = some ds[i] := List.getElem?_eq_getElem hlt
      have e2 : ds.drop i = ds[i] :: ds.drop (i + 1) := List.drop_eq_getElem_cons hlt
      rw [e2, forL_cons] at q2
      obtain ⟨g1, y1⟩ := go _ ed
      refine .inr ⟨g1, fun σ' H' => ∃ α2 en2 st2, Ext α1 H1 α2 H' ∧ Wd X.K α2 Z H' st2 ∧ Sl X.K α2 Z H' σ' en2 ∧ PostS X W Z α2 H' D (forL g mb (ds.drop (i + 1)) en2 st2), fun σ' H' h => ⟨_, by omega, rfl, hlt, h⟩, fun x H' hy => ?_⟩
      obtain ⟨x3, same, hx⟩ := y1 x H' hy
      have w3 : Wd X.K α2 Z H' st2 := w2.same x3 fun a m => same a (.inl m)
      have s3 := s2.ext x3
      refine ⟨α2, Z, en2, st2, _, w3, s3, hx, Post.mono (PostS.sbnd (R := fun α H σ' en' => Sl X.K α Z H σ' en' ∧ Off js σ σ') s3 (q2.later x3)) fun σ4 H4 ⟨α4, st4, en4, x4, w4, ⟨s4, _⟩, h4⟩ => ?_⟩
      refine tS_of mb w4 s4 (PostS.loop h4 fun en5 st5 α5 H5 σ5 x5 w5 s5 h5 => ?_)
      exact ⟨α5, en5, st5, ((x2.trans x3).trans x4).trans x5, w5, s5, h5.later x5⟩
    · have hn : ds.drop i = [] := List.drop_eq_nil_of_le (by omega)
      rw [hn] at q2
      exact .inl ⟨stop (List.getElem?_eq_none_iff.mpr (by omega)), q2 α2 H σ Ext.refl w2 s2⟩
theorem whileL_succ (c : E) (body : S) (n : Nat) (en : Env) (st : Store) : whileL c body (n + 1) en st = sbnd en (c en st) fun x s1 => match truth s1 x with | some b => (if b = true then loopK (whileL c body n) (body en s1) else .nx en s1) | none => .bad := by
  show sbnd en (c en st) (fun x s1 => match truth s1 x with | some true => (match body en s1 with | .nx σ2 s2 => whileL c body n σ2 s2 | .ct σ2 s2 => whileL c body n σ2 s2 | .bk σ2 s2 => .nx σ2 s2 | r => r) | some false => .nx en s1 | none => .bad) = _
  congr 1
  funext x s1
  cases truth s1 x with
  | none => rfl
  | some b => cases b with
    | false => rfl
    | true => cases body en s1 <;> rfl
theorem ss_while {c : Expr} {body : List Stmt} {pos : Pos} {mc : E} {mb : S} (hp : PassesOwn (model X.prog X.w) X.A X.env X.xe) (hc : PT X c (tT X W mc)) (hb : PSs X body (tS X W mb)) : PS X (.While c body [] pos) (tS X W (sWhile mc mb)) :=
  PS.imp (ps_while hp hc hb) fun D σ H ⟨α, Z, en, st, w, s, q⟩ => by
    refine ⟨fun m σ H => ∃ α en st, Wd X.K α Z H st ∧ Sl X.K α Z H σ en ∧ PostS X W Z α H D (whileL mc mb m en st), ⟨fuel, α, en, st, w, s, q⟩, ?_⟩
    rintro m σ H ⟨α, en, st, w, s, q⟩
    cases m with
    | zero => exact q.elim
    | succ n =>
      rw [whileL_succ] at q
      refine tT_of mc w s (PostT.mono (PostS.sbndT (g := fun b s1 => if b = true then loopK (whileL mc mb n) (mb en s1) else .nx en s1) (fun d s1 => rfl) s q) fun b H1 ⟨α1, st1, e1, w1, h1⟩ => ?_)
      cases b with
      | false => exact h1 α1 H1 σ Ext.refl w1 (s.ext e1)
      | true =>
        refine ⟨fun σ' H' => ∃ α en st, Wd X.K α Z H' st ∧ Sl X.K α Z H' σ' en ∧ PostS X W Z α H' D (whileL mc mb n en st), fun σ' H' h => ⟨n, by omega, h⟩, ?_⟩
        exact tS_of mb w1 (s.ext e1) (PostS.loop h1 fun en5 st5 α5 H5 σ5 x5 w5 s5 h5 => ⟨α5, en5, st5, w5, s5, h5.later x5⟩)
end
end Mn

namespace Mn
open PySem PySem.Spec PyProof.Rows L2

/-! ### defs, where nothing is being written out as a text -/
structure FnG (P : Program) (w : World) (K : PySem.W.Frag) (mg : Str → Option Value) (base : Heap) (CX : CXT) (k : Nat) (f : Addr) (fd : FuncData) (ps : List Str) (sp : Sp) : Prop where
  len : ∀ vs H Q E, sp vs H Q E → vs.length = ps.length
  run : ∀ (A : Around) (outer : List PySem.Env) (s : Shared) (H : Hp) (args : Args) (us : List Value) (vs : List V) (Q : VK) (E : XK), Room k A → A.guards = some [] → Env0 P w K mg base A outer s H → BindsTo s fd args (ps.zip us) → Vals vs us → sp vs H Q E →
    codeAny (model P w) A (.call (.ref f) args) (CR CX outer P w H s Q E) s
section
variable {X : Cx} {W : WX} {Z α : List Addr} {H : Hp} {st : Store} {K : PySem.W.Frag} {k : Nat} {σ : L2.St} {en : Env}
theorem FnG.mono {P : Program} {w : World} {K : PySem.W.Frag} {mg : Str → Option Value} {base : Heap} {CX : CXT} {j k : Nat} {f : Addr} {fd : FuncData} {ps : List Str} {sp : Sp} (F : FnG P w K mg base CX j f fd ps sp) (h : j ≤ k) : FnG P w K mg base CX k f fd ps sp :=
  ⟨F.len, fun A outer s H args us vs Q E hr => F.run A outer s H args us vs Q E (hr.mono h)⟩
/-- what a def of the small machine promises -/
def spM (K : PySem.W.Frag) (mg : Str → Option Value) (many : Nat) (m : List D → Store → Res D) : Sp := fun vs H Q E => vs.length = many ∧ ∃ α Z st ds, Wd K α Z H st ∧ HasAll K α Z H vs ds ∧
  match m ds st with
  | .ok d s => ∀ α' H' v, Ext α H α' H' → Wd K α' Z H' s → HasD K α' Z H' v d → Q v H'
  | .exc c s => ∀ α' H' cls, Ext α H α' H' → Wd K α' Z H' s → mg c = some cls → E cls none H'
  | .bad => False
theorem fn_run {pins : List (Addr × Obj)} {s : Shared} {Q : VK} {us : List Value} {vs : List V} {f : Addr} {fd : FuncData} {ps : List Str} {sp : Sp} {E : XK} (F : FnG X.prog X.w X.K X.mg X.base (L2.CX X.prog X.w) k f fd ps sp) (g : Gd X W k) (hb : Binds X.K fd ps [])
    (hx : PassesAt (L2.CX X.prog X.w) X σ E) (I : Inv X pins σ H s) (r : Vals vs us) (h : sp vs H Q E) : wpAny (model X.prog X.w) X.A (call (.ref f) us) (EP X pins σ Q) X.xe s := by
  have hl : (us ++ []).length = ps.length := by rw [List.append_nil, ← r.length]; exact F.len _ _ _ _ h
  have b := hb s us I.kIn hl
  rw [List.append_nil] at b
  refine wpAny_call (codeAny_mono (F.run X.A X.stack s H ⟨us, []⟩ us vs Q E g.room g.grd I.env0 b r h) fun r s' hq => ?_)
  match r, hq with
  | .error e, hq => exact hx pins H s e s' I hq
  | .ok (.ret u), hq => exact I.after hq
/-- what is known of a def that is called -/
structure Cal (X : Cx) (k : Nat) (x : Str) (many : Nat) (m : List D → Store → Res D) : Prop where
  ex : ∃ (f : Addr) (fd : FuncData) (ps : List Str), X.mg x = some (.ref f) ∧ PySem.W.keepIn X.K (.ref f) = true ∧ Binds X.K fd ps [] ∧ FnG X.prog X.w X.K X.mg X.base (L2.CX X.prog X.w) k f fd ps (spM X.K X.mg many m)
theorem spM_of {m : List D → Store → Res D} {many : Nat} {Q : VK} {vs : List V} {ds : List D} (w : Wd X.K α Z H st) (x : HasAll X.K α Z H vs ds) (hl : ds.length = many) (h : Post X W Z (RD X Z) α H σ Q (m ds st)) : spM X.K X.mg many m vs H Q (WE W σ) := by
  refine ⟨by rw [x.length, hl], α, Z, st, ds, w, x, ?_⟩
  cases r : m ds st with
  | ok d s => rw [r] at h; exact h
  | exc c s => rw [r] at h; exact h
  | bad => rw [r] at h; exact h
theorem evL_len : ∀ (ms : List E) (en : Env) (st : Store) (ds : List D) (s : Store), evL ms en st = .ok ds s → ds.length = ms.length
  | [], _, _, _, _, h => by cases h; rfl
  | m :: ms, en, st, ds, s, h => by
    have h' : bnd (m en st) (fun d s1 => bnd (evL ms en s1) fun ds s2 => .ok (d :: ds) s2) = .ok ds s := h
    cases r : m en st with
    | ok d s1 =>
      rw [r] at h'
      simp only [bnd_ok] at h'
      cases r2 : evL ms en s1 with
      | ok ds' s2 =>
        rw [r2] at h'
        cases h'
        rw [List.length_cons, List.length_cons, evL_len ms en s1 ds' s r2]
      | exc c s2 => rw [r2] at h'; cases h'
      | bad => rw [r2] at h'; cases h'
    | exc c s1 => rw [r] at h'; cases h'
    | bad => rw [r] at h'; cases h'
theorem post_len {Q : List V → Hp → Prop} {Q' : VK} {ms : List E} {f : List D → Store → Res D} (h : Post X W Z (RD X Z) α H σ Q' (eFn f ms en st)) (q : ∀ vs H1 α1 st1 ds, ds.length = ms.length → Ext α H α1 H1 → Wd X.K α1 Z H1 st1 → HasAll X.K α1 Z H1 vs ds → Post X W Z (RD X Z) α1 H1 σ Q' (f ds st1) → Q vs H1) :
    Post X W Z (RL X Z) α H σ Q (evL ms en st) := by
  have h' : Post X W Z (RD X Z) α H σ Q' (bnd (evL ms en st) fun ds s1 => f ds s1) := h
  cases r : evL ms en st with
  | ok ds s => rw [r] at h'; exact fun α' H' v e w x => q v H' α' s ds (evL_len _ _ _ _ _ r) e w x (Post.later h' e)
  | exc c s => rw [r] at h'; exact h'
  | bad => rw [r] at h'; exact h'
theorem se_fn {x : Str} {p pos : Pos} {e : Expr} {es : List Expr} {m : List D → Store → Res D} {ms : List E} (g : Gd X W k) (hg : Gl X x) (c : Cal X k x ms.length m) (ha : PA X (e :: es) (tMs X W (evL ms))) (hdb : (x == ("__debug__" : Str)) = false)
    (he : starEach (e :: es) X.env = (false, eval e X.env) :: starEach es X.env) (hpl : (backTo pos (starEach es X.env)).any (·.1) = false) : PE X (.Call (.Name x p) (e :: es) [] pos) (tM X W (eFn m ms)) := by
  refine ⟨fun pins s σ H Q I ⟨α, Z, en, st, w, sl, q⟩ => ?_⟩
  obtain ⟨f, fd, ps, hm, hk, hb, F⟩ := c.ex
  refine wpAny_Call_Name_kw (ld_glob I hg hm ?_ hdb)
  have arg := ha.run pos pins s σ H (fun vs H1 => spM X.K X.mg ms.length m vs H1 Q (WE W σ)) I ⟨α, Z, en, st, w, sl, post_len q fun vs H1 α1 st1 ds hl e1 w1 x1 h1 => spM_of w1 x1 hl h1⟩
  refine PySem.W.callWith_K (h₀ := X.base) I.ok.mod.kin hk (thn arg fun us s1 ⟨vs, H1, I1, r, q1⟩ => ⟨I1.kIn, ?_⟩) he hpl
  exact fn_run F g hb (passAt g.tk σ) I1 r q1
theorem se_fn0 {x : Str} {p pos : Pos} {m : List D → Store → Res D} (g : Gd X W k) (hg : Gl X x) (c : Cal X k x 0 m) (hdb : (x == ("__debug__" : Str)) = false) : PE X (.Call (.Name x p) [] [] pos) (tM X W (eFn m [])) := by
  refine ⟨fun pins s σ H Q I ⟨α, Z, en, st, w, sl, q⟩ => ?_⟩
  obtain ⟨f, fd, ps, hm, hk, hb, F⟩ := c.ex
  refine wpAny_Call_Name_kw (ld_glob I hg hm ?_ hdb)
  exact PySem.W.callWith_K0 I.kIn hk (fn_run (us := []) (vs := []) F g hb (passAt g.tk σ) I .nil (spM_of w .nil rfl q))
/-! ### name = [..] on one line -/
theorem comp_read {it : EI} {mtg : TgM} {cs : List E} {me : E} {vs js : List Nat} {Q : VK} (hjs : ∀ i, i ∈ js → i ∈ vs) (w : Wd X.K α Z H st) (s : Sl X.K α Z H σ en) (q : Post X W Z (RD X Z) α H σ Q (eComp vs it mtg cs me en st)) :
    tLc (tI X W it) (tG X W0 js mtg) (tTs X W0 cs) (tM X W0 me) vs σ H Q := by
  refine ⟨α, Z, en, st, w, s, Post.mono (Post.bnd (R := fun α H J ds => ItOk X.K Z α H J ds) q) fun J H1 ⟨α1, st1, ds, e1, w1, x1, h1⟩ => fun p hp => ?_⟩
  refine lc_core2 (Q := fun H' => Q (.ref p) H') (Xb := X) rfl hjs (fun _ _ _ _ h => h) (fun _ _ _ h => h) (fun _ _ _ h => h) ds w1 (s.ext e1) x1 hp (CPost.of h1 fun out s' α' H' zs e w' x a h2 => ?_)
  exact h2 α' H' _ e w'.unkeep (.lst x (w'.dis p (by simp)) (w1.new hp).2 (a.zsub fun a m => List.mem_cons_of_mem _ m))
theorem compR_read {it : EI} {mtg : TgM} {cs : List E} {me : E} {vs js : List Nat} {Q : VK} (hjs : ∀ i, i ∈ js → i ∈ vs) (w : Wd X.K α Z H st) (s : Sl X.K α Z H σ en) (q : Post X W Z (RD X Z) α H σ Q (eCompR vs it mtg cs me en st)) :
    tLc (tI X W it) (tG X W0 js mtg) (tTs X W0 cs) (tM X W0 me) vs σ H Q := by
  refine ⟨α, Z, en, st, w, s, Post.mono (Post.bnd (R := fun α H J ds => ItOk X.K Z α H J ds) q) fun J H1 ⟨α1, st1, ds, e1, w1, x1, h1⟩ => fun p hp => ?_⟩
  refine lc_core2 (Q := fun H' => Q (.ref p) H') (Xb := X) rfl hjs (fun _ _ _ _ h => h) (fun _ _ _ h => h) (fun _ _ _ h => h) ds w1 (s.ext e1) x1 hp (CPost.of h1 fun out s' α' H' zs e w' x a h2 => ?_)
  refine h2 (α' ++ [p]) H' _ ⟨?_, e.live, e.tup, e.frz, e.lst⟩ (w'.join (w1.new hp).2 x a) (.ref ?_)
  · obtain ⟨β, eb, hb⟩ := e.grow
    refine ⟨β ++ [p], by rw [eb, List.append_assoc], fun b m => ?_⟩
    rcases List.mem_append.mp m with m | m
    · exact hb b m
    · simp at m; subst m; exact hp
  · rw [← w'.len]; simp
section
variable {elt tg iter : Expr} {ifs : List Expr} {scope : Scope} {own : List (Str × Nat)} {pos spos py : Pos} {it : EI} {mtg : TgM} {cs : List E} {me : E} {js : List Nat} {i : Nat} {y : Str}
theorem ss_setLc (md : Bool) (hc : X.calm = true) (hN : X.N.Nodup) (hy : X.N[i]? = some y) (hyl : X.env.scope.names.lookup y = some .local) (hsw : swapsWith (.ListComp elt [⟨tg, iter, ifs, 0⟩] scope pos) (some (.Name y py)) spos.line X.env = pure true)
    (hi : PI X tg iter (tI X W it)) (ok : BlkOk X.N X.env.scope scope own) (hjs : ∀ i, i ∈ js → i ∈ own.map (·.2))
    (hg : ∀ (s : Shared) (H : Hp) (C : Addr) (cl : List (Str × Addr)) (fp : List Addr), PG (X.blk s H scope (compEnvC scope cl C X.env) fp) tg (tG X W0 js mtg)) (ht : ∀ (s : Shared) (H : Hp) (C : Addr) (cl : List (Str × Addr)) (fp : List Addr), PTs (X.blk s H scope (compEnvC scope cl C X.env) fp) ifs (tTs X W0 cs))
    (he : ∀ (s : Shared) (H : Hp) (C : Addr) (cl : List (Str × Addr)) (fp : List Addr), PE (X.blk s H scope (compEnvC scope cl C X.env) fp) elt (tM X W0 me)) (hs : ∀ x, foldedSetIterable iter X.env x = pure x) :
    PS X (.Assign [.Name y py] (.ListComp elt [⟨tg, iter, ifs, 0⟩] scope pos) spos) (tS X W (sAsg (gN i) (if md then eCompR (own.map (·.2)) it mtg cs me else eComp (own.map (·.2)) it mtg cs me))) :=
  PS.imp (ps_setLc hc hN hy hyl hsw hi ok hg ht he hs) fun D σ H ⟨α, Z, en, st, w, s, q⟩ => by
    have fin : ∀ {e : E}, PostS X W Z α H D (sAsg (gN i) e en st) → Post X W Z (RD X Z) α H σ (fun x H1 => gName i x σ H1 D.nx) (e en st) := fun {e} q =>
      Post.mono (PostS.sbnd (R := RD X Z) s q) fun v H1 ⟨α1, st1, d, e1, w1, x1, h1⟩ => h1 α1 H1 _ Ext.refl w1 ((s.ext e1).set i x1)
    cases md with
    | false => exact comp_read hjs w s (fin q)
    | true => exact compR_read hjs w s (fin q)
end
/-! ### a, b = x, y -/
theorem ss_par {i j : Nat} {x y : Str} {a b : Expr} {px py pt pos : Pos} {kt k2 pt2} {m1 m2 : E} (hc : X.calm = true) (hN : X.N.Nodup) (hi : X.N[i]? = some x) (hj : X.N[j]? = some y) (hij : i ≠ j)
    (hx : X.env.scope.names.lookup x = some .local) (hy : X.env.scope.names.lookup y = some .local) (ha : PA X [a, b] (tMs X W (evL [m1, m2])))
    (hw : swappedStores [.Tuple [.Name x px, .Name y py] kt pt] (.Tuple [a, b] k2 pt2) X.env = pure (some [x, y])) (hs : swapsWithSole [.Tuple [.Name x px, .Name y py] kt pt] (.Tuple [a, b] k2 pt2) pos.line X.env = pure false) :
    PS X (.Assign [.Tuple [.Name x px, .Name y py] kt pt] (.Tuple [a, b] k2 pt2) pos) (tS X W (sAsg (gT [gN i, gN j]) (eTup [m1, m2]))) :=
  PS.imp (ps_par hc hN hi hj hij hx hy ha hw hs) fun D σ H ⟨α, Z, en, st, w, s, q⟩ => by
    refine ⟨α, Z, en, st, w, s, ?_⟩
    have q' : PostS X W Z α H D (sbnd en (bnd (evL [m1, m2] en st) fun ds s1 => if ds.length ≤ sz then .ok (.tup ds) s1 else .bad) fun d s1 => sbnd en (gT [gN i, gN j] d en s1) fun σ1 s2 => .nx σ1 s2) := q
    cases r : evL [m1, m2] en st with
    | ok ds s1 =>
      rw [r] at q'
      have hl := evL_len _ _ _ _ _ r
      match ds, hl with
      | [d1, d2], _ =>
        intro α' H' vs e w' x
        obtain ⟨v1, v2, rfl, h1, h2⟩ := all2 x
        exact ⟨v1, v2, rfl, q' α' H' _ e w' (((s.ext e).set i h1).set j h2)⟩
    | exc c s1 => rw [r] at q'; exact fun α' H' cls e w x => q' α' H' σ cls e w (s.ext e) x
    | bad => rw [r] at q'; exact q'
theorem all3 {vs : List V} {a b c : D} (h : HasAll K α Z H vs [a, b, c]) : ∃ u v w, vs = [u, v, w] ∧ HasD K α Z H u a ∧ HasD K α Z H v b ∧ HasD K α Z H w c := by
  cases h with
  | cons h1 t => cases t with
    | cons h2 t => cases t with
      | cons h3 t => cases t; exact ⟨_, _, _, rfl, h1, h2, h3⟩
theorem ss_par3 {i j l : Nat} {x y z : Str} {a b c : Expr} {px py pz pt pos : Pos} {kt k2 pt2} {m1 m2 m3 : E} (hc : X.calm = true) (hN : X.N.Nodup) (hi : X.N[i]? = some x) (hj : X.N[j]? = some y) (hl : X.N[l]? = some z) (hij : i ≠ j) (hil : i ≠ l) (hjl : j ≠ l)
    (hx : X.env.scope.names.lookup x = some .local) (hy : X.env.scope.names.lookup y = some .local) (hz : X.env.scope.names.lookup z = some .local) (ha : PA X [a, b, c] (tMs X W (evL [m1, m2, m3])))
    (hw : swappedStores [.Tuple [.Name x px, .Name y py, .Name z pz] kt pt] (.Tuple [a, b, c] k2 pt2) X.env = pure (some [x, y, z])) (hs : swapsWithSole [.Tuple [.Name x px, .Name y py, .Name z pz] kt pt] (.Tuple [a, b, c] k2 pt2) pos.line X.env = pure false) :
    PS X (.Assign [.Tuple [.Name x px, .Name y py, .Name z pz] kt pt] (.Tuple [a, b, c] k2 pt2) pos) (tS X W (sAsg (gT [gN i, gN j, gN l]) (eTup [m1, m2, m3]))) :=
  PS.imp (ps_par3 hc hN hi hj hl hij hil hjl hx hy hz ha hw hs) fun D σ H ⟨α, Z, en, st, w, s, q⟩ => by
    refine ⟨α, Z, en, st, w, s, ?_⟩
    have q' : PostS X W Z α H D (sbnd en (bnd (evL [m1, m2, m3] en st) fun ds s1 => if ds.length ≤ sz then .ok (.tup ds) s1 else .bad) fun d s1 => sbnd en (gT [gN i, gN j, gN l] d en s1) fun σ1 s2 => .nx σ1 s2) := q
    cases r : evL [m1, m2, m3] en st with
    | ok ds s1 =>
      rw [r] at q'
      have hl := evL_len _ _ _ _ _ r
      match ds, hl with
      | [d1, d2, d3], _ =>
        intro α' H' vs e w' x
        obtain ⟨v1, v2, v3, rfl, h1, h2, h3⟩ := all3 x
        exact ⟨v1, v2, v3, rfl, q' α' H' _ e w' ((((s.ext e).set i h1).set j h2).set l h3)⟩
    | exc c s1 => rw [r] at q'; exact fun α' H' cls e w x => q' α' H' σ cls e w (s.ext e) x
    | bad => rw [r] at q'; exact q'
/-- += of a name -/
theorem ip_plus : PIp X .Add (rI0 fun i j => .int (i + j)) := by
  intro pins s σ H x y v u Q I r1 r2 ⟨i, j, e1, e2, q⟩
  exact ip_add pins s σ H x y v u Q I r1 r2 ⟨i, j, e1, e2, q⟩
theorem rel_addI : RelOp X dAddI (rI0 fun i j => .int (i + j)) := rel_ii0 (g' := fun i j => .int (i + j)) (by
  intro st a b d e
  cases a <;> cases b <;> first | (cases e; exact ⟨_, _, rfl, rfl, rfl⟩) | cases e) fun _ _ _ _ _ => .int _
end
end Mn

namespace Mn
open PySem PySem.Spec PyProof.Rows L2

/-! ### from the text to the small machine -/
/-- what a module's names stand for: constants, defs; which displays change later on (by line and column) -/
structure Gls where
  con : Str → Option D
  fn : Str → Option (Nat × (List D → Store → Res D))
  md : Pos → Bool
  exc : Str → Bool
def plainArg : Expr → Bool
  | .Starred .. => false
  | _ => true
def plainIx : Expr → Bool
  | .Slice .. => false
  | _ => true
def isName : Expr → Bool
  | .Name .. => true
  | _ => false
def noSet : Expr → Bool
  | .Set .. => false
  | _ => true
def okName (x : Str) : Bool := !(x == ("__debug__" : Str)) && !(x == ("__classdict__" : Str)) && !decide (x = ("__name__" : Str))
def isVis (sc : Scope) (x : Str) : Bool := match sc.names.lookup x with
  | some .local => true
  | some .cell => true
  | some .free => true
  | _ => false
def isGlo (sc : Scope) (x : Str) : Bool := match sc.names.lookup x with
  | some .globalImplicit => true
  | _ => false
/-- a name that may be stored -/
def isSto (sc : Scope) (fc : Str → Bool) (x : Str) : Bool := match sc.names.lookup x with
  | some .local => true
  | some .cell => fc x
  | _ => false
def ixOf : List Str → Str → Option Nat
  | [], _ => none
  | y :: ys, x => if x = y then some 0 else (ixOf ys x).map (· + 1)
def binF : Operator → Option (Store → D → D → Option D)
  | .Add => some dAdd
  | .Sub => some dSub
  | .Mult => some dMul
  | .FloorDiv => some dDiv
  | .Mod => some dMod
  | .Pow => some dPow
  | .BitAnd => some dAndB
  | .BitOr => some dOrB
  | _ => none
def cmpF : CmpOp → Option (Store → D → D → Option D)
  | .Lt => some dLt
  | .LtE => some dLe
  | .Gt => some dGt
  | .GtE => some dGe
  | .Eq => some dEq
  | .NotEq => some dNe
  | .Is => some dIs
  | .IsNot => some dIsNot
  | .In => some dIn
  | .NotIn => some dNotIn
def bifs : List (Str × Nat × (Store → List D → Option D)) :=
  [("len", 1, fLen), ("abs", 1, fAbs), ("min", 2, fMin), ("max", 2, fMax), ("min", 1, fMinL), ("max", 1, fMaxL), ("min", 3, fMin3), ("max", 3, fMax3), ("int", 1, fInt), ("ord", 1, fOrd), ("str", 1, fStr), ("repr", 1, fRepr), ("tuple", 1, fTuple), ("list", 1, fList), ("all", 1, fAll), ("any", 1, fAny), ("sum", 1, fSum), ("sorted", 1, fSortP)]
def tyNames : List (Str × String) := [("int", "int"), ("bool", "bool"), ("str", "str"), ("tuple", "tuple"), ("list", "list"), ("dict", "dict")]
def bltN : List Str := ["len", "abs", "min", "max", "int", "ord", "str", "repr", "tuple", "list", "all", "any", "sum", "isinstance", "bool", "range", "enumerate", "zip", "dict", "set", "sorted"]
def find2 {β : Type} (l : List (Str × Nat × β)) (x : Str) (n : Nat) : Option β := match l with
  | [] => none
  | (y, m, b) :: r => if x = y ∧ n = m then some b else find2 r x n
def find1 {β : Type} (l : List (Str × β)) (x : Str) : Option β := match l with
  | [] => none
  | (y, b) :: r => if x = y then some b else find1 r x
def boolE (op : BoolOp) : List E → E
  | [] => eBad
  | [a] => a
  | a :: r => match op with
    | .And => eAnd a (boolE op r)
    | .Or => eOr a (boolE op r)
/-- list(range(x)): x -/
def rgArg (f : Str) : List Expr → Option Expr
  | [.Call (.Name g _) [x] [] _] => if f = ("list" : Str) ∧ g = ("range" : Str) then some x else none
  | _ => none
/-- list(range(x, y, z)): x, y, z -/
def rgArg3 (f : Str) : List Expr → Option (Expr × Expr × Expr)
  | [.Call (.Name g _) [x, y, z] [] _] => if f = ("list" : Str) ∧ g = ("range" : Str) then some (x, y, z) else none
  | _ => none
/-- what is walked -/
def denI (den : Expr → E) (G : Gls) (sc : Scope) (tg it : Expr) : EI :=
  let plain : EI := iSeq (den it)
  match it with
  | .Call (.Name f _) [a] [] _ => if plainArg a = true ∧ isVis sc f = false ∧ (G.fn f).isNone = true then
      (if f = ("range" : Str) then (if isGlo sc f = true then iRange1 (den a) else plain)
       else if f = ("enumerate" : Str) then (match tg with
         | .Tuple .. => if isGlo sc f = true then iEnumD (den a) else plain
         | _ => plain)
       else plain)
    else plain
  | .Call (.Name f _) [a, b] [] _ => if plainArg a = true ∧ plainArg b = true ∧ isVis sc f = false ∧ (G.fn f).isNone = true then
      (if f = ("range" : Str) then (if isGlo sc f = true then iRange2 (den a) (den b) else plain)
       else if f = ("zip" : Str) then (match tg with
         | .Tuple .. => if isGlo sc f = true then iZipD (den a) (den b) else plain
         | _ => plain)
       else plain)
    else plain
  | .Call (.Name f _) [a, b, c] [] _ => if plainArg a = true ∧ plainArg b = true ∧ plainArg c = true ∧ isVis sc f = false ∧ (G.fn f).isNone = true then
      (if f = ("range" : Str) then (if isGlo sc f = true then iRange3 (den a) (den b) (den c) else plain)
       else plain)
    else plain
  | _ => plain
/-- a target and its slots -/
def denG (den : Expr → E) (N : List Str) (sc : Scope) (fc : Str → Bool) : Nat → Expr → TgM
  | 0, _ => fun _ _ _ => .bad
  | n + 1, .Name x _ => if isSto sc fc x = true then (match ixOf N x with
      | some i => gN i
      | none => fun _ _ _ => .bad) else fun _ _ _ => .bad
  | n + 1, .Tuple es _ _ => if es.all plainArg = true then gT (es.map (denG den N sc fc n)) else fun _ _ _ => .bad
  | n + 1, .Subscript o i _ => if plainIx i = true then gSubD (den o) (den i) else fun _ _ _ => .bad
  | _, _ => fun _ _ _ => .bad
def jsG (N : List Str) : Nat → Expr → List Nat
  | 0, _ => []
  | n + 1, .Name x _ => match ixOf N x with
    | some i => [i]
    | none => []
  | n + 1, .Tuple es _ _ => es.flatMap (jsG N n)
  | _, _ => []
def ownOf (N : List Str) (scope : Scope) : List (Str × Nat) := scope.names.filterMap fun y => match y.2 with
  | .local => (ixOf N y.1).map fun i => (y.1, i)
  | .cell => (ixOf N y.1).map fun i => (y.1, i)
  | _ => none
/-- what may stand as a test -/
def okT : Nat → Expr → Bool
  | 0, _ => false
  | n + 1, .BoolOp _ vs _ => vs.all (okT n)
  | n + 1, .UnaryOp .Not a _ => okT n a
  | n + 1, .IfExp .. => false
  | n + 1, .Compare _ [_] [_] _ => true
  | n + 1, .Compare _ [_, _] [_, _] _ => true
  | n + 1, .Compare .. => false
  | n + 1, _ => true
def denE (G : Gls) (N : List Str) : Nat → Scope → (Str → Bool) → Expr → E
  | 0, _, _, _ => eBad
  | n + 1, sc, fc, e => match e with
    | .Constant (.int i) _ _ => eC (.int i)
    | .Constant (.bool b) _ _ => eC (.bl b)
    | .Constant .none _ _ => eC .non
    | .Constant (.str x) _ _ => eC (.str x)
    | .Name x _ => if okName x = true then
        (if isVis sc x = true then (match ixOf N x with
          | some i => eVar i
          | none => eBad)
        else if isGlo sc x = true then (match G.con x with
          | some d => eC d
          | none => eBad)
        else eBad) else eBad
    | .BinOp a op b _ => match binF op with
      | some f => eOp f (denE G N n sc fc a) (denE G N n sc fc b)
      | none => eBad
    | .UnaryOp .USub a _ => eUn dNeg (denE G N n sc fc a)
    | .UnaryOp .Not a _ => eNot (denE G N n sc fc a)
    | .BoolOp op vs _ => boolE op (vs.map (denE G N n sc fc))
    | .Compare a [op] [b] _ => match cmpF op with
      | some f => if behindInMarks op b = false then eOp f (denE G N n sc fc a) (denE G N n sc fc b) else eBad
      | none => eBad
    | .Compare a [op, op'] [b, c] _ => match cmpF op, cmpF op' with
      | some f, some g => if lastMarks [op, op'] [b, c] = false then eChain f g (denE G N n sc fc a) (denE G N n sc fc b) (denE G N n sc fc c) else eBad
      | _, _ => eBad
    | .IfExp c a b _ => if okT n c = true then eIf (denE G N n sc fc c) (denE G N n sc fc a) (denE G N n sc fc b) else eBad
    | .Tuple es _ _ => if es.all plainArg = true then eTup (es.map (denE G N n sc fc)) else eBad
    | .List es pos => if es.all plainArg = true then (if G.md pos = true then eLstR (es.map (denE G N n sc fc)) else eLst (es.map (denE G N n sc fc))) else eBad
    | .Subscript a (.Slice lo hi none _) _ => eSlice (denE G N n sc fc a) (lo.map (denE G N n sc fc)) (hi.map (denE G N n sc fc))
    | .Subscript a (.Slice none none (some k) _) _ => eRev (denE G N n sc fc a) (denE G N n sc fc k)
    | .Subscript a b _ => if plainIx b = true then eOp dItem (denE G N n sc fc a) (denE G N n sc fc b) else eBad
    | .Call (.Name f _) [] [] _ => if okName f = true ∧ isVis sc f = false ∧ isGlo sc f = true then (match G.fn f with
      | some (many, m) => if many = 0 then eFn m [] else eBad
      | none => eBad) else eBad
    | .Call (.Name f _) (a :: as) [] _ => if okName f = true ∧ isGlo sc f = true ∧ (a :: as).all plainArg = true then (match G.fn f with
      | some (many, m) => if many = (a :: as).length then eFn m ((a :: as).map (denE G N n sc fc)) else eBad
      | none => match rgArg f (a :: as) with
       | some x => if isGlo sc ("range" : Str) = true ∧ plainArg x = true then eListR (denE G N n sc fc x) else eBad
       | none => match rgArg3 f (a :: as) with
       | some (x, y, z) => if isGlo sc ("range" : Str) = true ∧ [x, y, z].all plainArg = true then eListR3 (denE G N n sc fc x) (denE G N n sc fc y) (denE G N n sc fc z) else eBad
       | none => match find2 bifs f (a :: as).length with
        | some g => eCall g ((a :: as).map (denE G N n sc fc))
        | none => if f = ("isinstance" : Str) then (match as with
          | [.Name T _] => if isGlo sc T = true then (match find1 tyNames T with
            | some T' => eUn (dIsi T') (denE G N n sc fc a)
            | none => eBad) else eBad
          | [.Tuple [.Name T _, .Name U _] _ _] => if isGlo sc T = true ∧ isGlo sc U = true then (match find1 tyNames T, find1 tyNames U with
            | some T', some U' => eUn (dIsi2 T' U') (denE G N n sc fc a)
            | _, _ => eBad) else eBad
          | _ => eBad) else eBad) else eBad
    | .Call (.Attribute o name apos) [a] [] cpos => if name = ("append" : Str) ∧ isName o = true ∧ plainArg a = true ∧ (apos.endLine == cpos.line) = true then eApp (denE G N n sc fc o) (denE G N n sc fc a) else eBad
    | .Call (.Attribute o name apos) [a, b] [] cpos => if name = ("setdefault" : Str) ∧ isName o = true ∧ plainArg a = true ∧ plainArg b = true ∧ (apos.endLine == cpos.line) = true then eSetD (denE G N n sc fc o) (denE G N n sc fc a) (denE G N n sc fc b) else eBad
    | .Dict [] [] pos => eDict0
    | .ListComp elt [⟨tg, iter, ifs, 0⟩] scope pos =>
      let sc' := relS scope sc
      let fc' : Str → Bool := fun x => scope.names.lookup x == some .cell
      let own := ownOf N scope
      if noSet iter = true ∧ blkC N sc scope own = true ∧ (jsG N 3 tg).all (fun i => (own.map (·.2)).contains i) = true ∧ ifs.length ≤ 1 ∧ ifs.all (okT n) = true then
        (if G.md pos = true then eCompR (own.map (·.2)) (denI (denE G N n sc fc) G sc tg iter) (denG (denE G N n sc' fc') N sc' fc' 3 tg) (ifs.map (denE G N n sc' fc')) (denE G N n sc' fc' elt)
         else eComp (own.map (·.2)) (denI (denE G N n sc fc) G sc tg iter) (denG (denE G N n sc' fc') N sc' fc' 3 tg) (ifs.map (denE G N n sc' fc')) (denE G N n sc' fc' elt))
      else eBad
    | _ => eBad
def denT (G : Gls) (N : List Str) (n : Nat) (sc : Scope) (fc : Str → Bool) (e : Expr) : E := if okT n e = true then denE G N n sc fc e else eBad
/-! ### what is known of the module -/
structure GOk (X : Cx) (k : Nat) (G : Gls) : Prop where
  con : ∀ x d, G.con x = some d → ∃ v u, X.mg x = some u ∧ RelV v u ∧ ∀ α Z H, HasD X.K α Z H v d
  fn : ∀ x n m, G.fn x = some (n, m) → Cal X k x n m
  blt : ∀ x ∈ bltN, X.mg x = none
  exc : ∀ x, G.exc x = true → ∃ C, X.mg x = some (.ref C) ∧ PySem.W.excIn X.K C He.veBase "ValueError.__new__" = true ∧ PySem.W.keepIn X.K (.ref C) = true ∧ PySem.W.subIn X.K (.ref C) (.type "BaseException") = some true ∧ PySem.W.typeIn X.K (.ref C) = some (.type "type")
section
variable {X : Cx} {W : WX} {k : Nat} {G : Gls} {N : List Str} {sc : Scope} {fc : Str → Bool}
theorem GOk.blk {s : Shared} {H : Hp} {scope : Scope} {C : Addr} {cl : List (Str × Addr)} {fp : List Addr} (g : GOk X k G) : GOk (X.blk s H scope (compEnvC scope cl C X.env) fp) k G :=
  ⟨g.con, fun x n m h => ⟨(g.fn x n m h).ex⟩, g.blt, g.exc⟩
theorem Gd.blk {s : Shared} {H : Hp} {scope : Scope} {C : Addr} {cl : List (Str × Addr)} {fp : List Addr} (g : Gd X W k) : Gd (X.blk s H scope (compEnvC scope cl C X.env) fp) W0 k := ⟨g.room, g.calm, g.nd, takes_none5, g.grd⟩
theorem ixOf_get : ∀ {N : List Str} {x : Str} {i : Nat}, ixOf N x = some i → N[i]? = some x
  | [], _, _, h => by cases h
  | y :: ys, x, i, h => by
    unfold ixOf at h
    split at h
    · rename_i e; cases h; rw [e]; rfl
    · obtain ⟨j, h1, rfl⟩ := map_some h
      simpa using ixOf_get h1
theorem star_cons {e : Expr} {es : List Expr} {env : PySem.Env} (h : plainArg e = true) : starEach (e :: es) env = (false, eval e env) :: starEach es env := by
  cases e <;> first | rfl | cases h
theorem star_any {env : PySem.Env} {pos : Pos} : ∀ {es : List Expr}, es.all plainArg = true → (backTo pos (starEach es env)).any (·.1) = false
  | [], _ => rfl
  | e :: es, h => by
    have h' : (plainArg e && es.all plainArg) = true := h
    obtain ⟨h1, h2⟩ := Bool.and_eq_true_iff.mp h'
    rw [star_cons h1]
    exact star_any (env := env) (pos := pos) h2
theorem tgt_cons {e : Expr} {es : List Expr} {env : PySem.Env} (h : plainArg e = true) : assignEach (e :: es) env = (false, assign e env) :: assignEach es env := by
  cases e <;> first | rfl | cases h
theorem tgt_len {env : PySem.Env} : ∀ {es : List Expr}, es.all plainArg = true → (assignEach es env).length = es.length ∧ (assignEach es env).findIdx? (·.1) = none
  | [], _ => ⟨rfl, rfl⟩
  | e :: es, h => by
    have h' : (plainArg e && es.all plainArg) = true := h
    obtain ⟨h1, h2⟩ := Bool.and_eq_true_iff.mp h'
    rw [tgt_cons h1]
    obtain ⟨a, b⟩ := tgt_len (env := env) h2
    refine ⟨by rw [List.length_cons, List.length_cons, a], ?_⟩
    rw [List.findIdx?_cons, b]
    rfl
theorem plain_ix {b : Expr} (h : plainIx b = true) : PlainIx b := by
  intro o i
  cases b <;> first | rfl | cases h
theorem no_set {e : Expr} {env : PySem.Env} (h : noSet e = true) : ∀ x, foldedSetIterable e env x = pure x := by
  intro x
  cases e <;> first | rfl | cases h
theorem vis_of {x : Str} (h : isVis sc x = true) : Vis sc x := by
  unfold isVis at h
  split at h
  · rename_i e; exact .inl e
  · rename_i e; exact .inr (.inl e)
  · rename_i e; exact .inr (.inr e)
  · cases h
theorem glo_of {x : Str} (hsc : X.env.scope = sc) (h : isGlo sc x = true) : Gl X x := by
  unfold isGlo at h
  split at h
  · rename_i e
    show X.env.scope.names.lookup x = _
    rw [hsc]; exact e
  · cases h
theorem sto_of {x : Str} (h : isSto sc fc x = true) : Loc sc x ∧ (fc x = true ∨ sc.names.lookup x = some .local) := by
  unfold isSto at h
  split at h
  · rename_i e; exact ⟨.inl e, .inr e⟩
  · rename_i e; exact ⟨.inr e, .inl h⟩
  · cases h
theorem ok_dbg {x : Str} (h : okName x = true) : (x == ("__debug__" : Str)) = false ∧ (x == ("__classdict__" : Str)) = false ∧ x ≠ ("__name__" : Str) := by
  unfold okName at h
  simp only [Bool.and_eq_true, Bool.not_eq_true', decide_eq_false_iff_not] at h
  exact ⟨h.1.1, h.1.2, h.2⟩
theorem sa_all (f : Expr → E) : ∀ {es : List Expr}, es.all plainArg = true → (∀ e ∈ es, PE X e (tM X W (f e))) → PA X es (tMs X W (evL (es.map f)))
  | [], _, _ => sa_nil
  | e :: es, h, q => by
    have h' : (plainArg e && es.all plainArg) = true := h
    obtain ⟨h1, h2⟩ := Bool.and_eq_true_iff.mp h'
    exact sa_cons (q e (by simp)) (sa_all f h2 fun x m => q x (List.mem_cons_of_mem _ m)) (star_cons h1)
end
end Mn

namespace Mn
open PySem PySem.Spec PyProof.Rows L2
section
variable {X : Cx} {W : WX} {k : Nat} {G : Gls} {N : List Str} {sc : Scope} {fc : Str → Bool}
theorem tuple_mul1 (l : Addr) (items : Array Value) (n : Nat) (dd : Option Addr) (sl : Array (Option Value)) (x : Int) (u : Tok) (c0 : (decide (x < -(2 ^ 63)) || decide (x ≥ 2 ^ 63)) = false) (c1 : (items.isEmpty || x == 1) = true) :
    Meets (Builtin.«tuple.__mul__» ⟨[.ref l, .int x u], []⟩) (fun _ R s => s.heap.get? l = some { cls := .type "tuple", dict := dd, data := .seq items n, slots := sl } ∧ R (.ok (.ret (Value.ref l))) s) :=
  .of_wp fun prog w A R s h => by
    obtain ⟨hp, g, d, tk, os⟩ := s
    obtain ⟨hl, h⟩ := h
    have f1 := AutoSeq1.idx_int
    wp_walk using wpAny_loadPart' hl
    repeat (first
      | (refine wpAny_ite_false (decide_eq_false (by rw [c0]; exact Bool.false_ne_true)) ?_; wp_walk using wpAny_loadPart' hl)
      | (refine wpAny_ite_true (decide_eq_true (by rw [c1])) ?_; wp_walk using wpAny_loadPart' hl))
    exact ⟨_, rfl, h⟩
/-- a tuple, once (or an empty one, so many times): itself -/
def rOne (K : PySem.W.Frag) : R2 := fun x y H Q => ∃ l k xs, x = .ref l ∧ y = .int k ∧ SqT K H l xs ∧ (xs = [] ∨ k = 1) ∧ -1000000 ≤ k ∧ k ≤ 1000000 ∧ Q (.ref l) H
theorem op_one {X : Cx} : OpR X (binaryOp .Mult) (rOne X.K) := by
  intro pins s σ H x y v u Q I rx ry ⟨l, k, xs, e1, e2, hT, h1, h2, h3, q⟩
  subst e1; subst e2
  cases rx
  obtain ⟨t, rfl⟩ := ry
  obtain ⟨its, r, ⟨⟨cls, dd, data, sl⟩, ho, hc, n, hd⟩, hs⟩ := I.tuple hT
  dsimp only at hc hd
  subst hc; subst hd
  have el : its.length = xs.length := r.length.symm
  have z0 : (decide (k < -(2 ^ 63)) || decide (k ≥ 2 ^ 63)) = false := by simp; omega
  have z1 : (its.toArray.isEmpty || k == 1) = true := by
    rcases h1 with h1 | h1
    · subst h1
      have : its = [] := List.eq_nil_of_length_eq_zero el
      subst this
      rfl
    · subst h1
      simp
  refine wpAny_binaryOp_repeat_ref (T := "tuple") (U := "int") (by decide) ⟨_, ho, rfl⟩ (fun s' => typeIs_int s' k t) noFill_tuple_mul PySem.F.fills_int_mul PySem.F.slot_int_rmul repeat_tuple PySem.F.slot_int_index.lookup
    (call_meets PySem.F.slot_int_rmul (typeIs_int s k t) PySem.F.entry_int_rmul (PySem.F.args_int_rmul_2 _ _) (int_rmul_tuple k t l its.toArray n dd sl) ⟨ho, rfl, ⟨_, ho, rfl⟩,
      call_meets PySem.F.slot_tuple_mul ⟨_, ho, rfl⟩ PySem.F.entry_tuple_mul (PySem.F.args_tuple_mul_2 _ _) (tuple_mul1 l its.toArray n dd sl k t z0 z1) ⟨ho, ?_⟩⟩)
  exact ⟨.ref l, H, I, rfl, q⟩
theorem tuple_mul0 (l : Addr) (items : Array Value) (n : Nat) (dd : Option Addr) (sl : Array (Option Value)) (x : Int) (u : Tok) (c0 : (decide (x < -(2 ^ 63)) || decide (x ≥ 2 ^ 63)) = false) (c1 : (items.isEmpty || x == 1) = false) (c2 : (decide (x ≤ 0) || items.isEmpty) = true) :
    Meets (Builtin.«tuple.__mul__» ⟨[.ref l, .int x u], []⟩) (fun _ R s => s.heap.get? l = some { cls := .type "tuple", dict := dd, data := .seq items n, slots := sl } ∧ R (.ok (.ret (Value.ref s.heap.objs.size))) { s with heap := s.heap.push { cls := Value.type "tuple", data := Data.seq #[] }, toks := s.toks }) :=
  .of_wp fun prog w A R s h => by
    obtain ⟨hp, g, d, tk, os⟩ := s
    obtain ⟨hl, h⟩ := h
    have f1 := AutoSeq1.idx_int
    wp_walk using wpAny_loadPart' hl
    repeat (first
      | (refine wpAny_ite_false (decide_eq_false (by rw [c0]; exact Bool.false_ne_true)) ?_; wp_walk using wpAny_loadPart' hl)
      | (refine wpAny_ite_false (decide_eq_false (by rw [c1]; exact Bool.false_ne_true)) ?_; wp_walk using wpAny_loadPart' hl)
      | (refine wpAny_ite_true (decide_eq_true (by rw [c2])) ?_; wp_walk using wpAny_loadPart' hl))
    exact ⟨_, rfl, h⟩
/-- a tuple, no times: a new empty one -/
def rNone (K : PySem.W.Frag) : R2 := fun x y H Q => ∃ l k xs, x = .ref l ∧ y = .int k ∧ SqT K H l xs ∧ xs ≠ [] ∧ -1000000 ≤ k ∧ k ≤ 0 ∧ ∀ p, H p = none → Q (.ref p) (upd H p (.tup []))
theorem op_none {X : Cx} : OpR X (binaryOp .Mult) (rNone X.K) := by
  intro pins s σ H x y v u Q I rx ry ⟨l, k, xs, e1, e2, hT, hne, h2, h3, q⟩
  subst e1; subst e2
  cases rx
  obtain ⟨t, rfl⟩ := ry
  obtain ⟨its, r, ⟨⟨cls, dd, data, sl⟩, ho, hc, n, hd⟩, hs⟩ := I.tuple hT
  dsimp only at hc hd
  subst hc; subst hd
  have el : its.length = xs.length := r.length.symm
  have z0 : (decide (k < -(2 ^ 63)) || decide (k ≥ 2 ^ 63)) = false := by simp; omega
  have ei : its.toArray.isEmpty = false := by
    cases its with
    | nil => exact absurd (List.eq_nil_of_length_eq_zero el.symm) hne
    | cons a b => rfl
  have z1 : (its.toArray.isEmpty || k == 1) = false := by
    rw [ei]
    simp; omega
  have z2 : (decide (k ≤ 0) || its.toArray.isEmpty) = true := by
    rw [ei]
    simp; omega
  refine wpAny_binaryOp_repeat_ref (T := "tuple") (U := "int") (by decide) ⟨_, ho, rfl⟩ (fun s' => typeIs_int s' k t) noFill_tuple_mul PySem.F.fills_int_mul PySem.F.slot_int_rmul repeat_tuple PySem.F.slot_int_index.lookup
    (call_meets PySem.F.slot_int_rmul (typeIs_int s k t) PySem.F.entry_int_rmul (PySem.F.args_int_rmul_2 _ _) (int_rmul_tuple k t l its.toArray n dd sl) ⟨ho, rfl, ⟨_, ho, rfl⟩,
      call_meets PySem.F.slot_tuple_mul ⟨_, ho, rfl⟩ PySem.F.entry_tuple_mul (PySem.F.args_tuple_mul_2 _ _) (tuple_mul0 l its.toArray n dd sl k t z0 z1 z2) ⟨ho, ?_⟩⟩)
  exact ⟨.ref s.heap.objs.size, _, I.laid (t' := s.toks) (o := .tup []) (fun b ob q => Heap.get?_push_of_some _ q) (Nat.le_refl _) ⟨Nat.zero_le _, [], .nil, IsTup.new _ _⟩, rfl, q _ (I.hok.fresh (Nat.le_refl _))⟩
/-- a tuple, so many times -/
def rTim (K : PySem.W.Frag) : R2 := fun x y H Q => ∃ l k xs, x = .ref l ∧ y = .int k ∧ SqT K H l xs ∧ xs ≠ [] ∧ 2 ≤ k ∧ k ≤ 1000000 ∧ xs.length * k.toNat ≤ 16000000 ∧ ∀ p, H p = none → Q (.ref p) (upd H p (.tup (List.replicate k.toNat xs).flatten))
theorem op_tim : OpR X (binaryOp .Mult) (rTim X.K) := by
  intro pins s σ H x y v u Q I rx ry ⟨l, k, xs, e1, e2, hT, hne, h1, h2, hz, q⟩
  subst e1; subst e2
  cases rx
  obtain ⟨t, rfl⟩ := ry
  obtain ⟨its, r, ⟨⟨cls, dd, data, sl⟩, ho, hc, n, hd⟩, hs⟩ := I.tuple hT
  dsimp only at hc hd
  subst hc; subst hd
  have el : its.length = xs.length := r.length.symm
  have es : its.toArray.size = xs.length := by rw [List.size_toArray, el]
  have ei : its.toArray.isEmpty = false := by
    cases its with
    | nil => exact absurd (List.eq_nil_of_length_eq_zero el.symm) hne
    | cons a b => rfl
  have hk : k = ((k.toNat : Nat) : Int) := by omega
  have em : ((its.toArray.size : Nat) : Int) * k ≤ 16000000 := by
    rw [es, hk, ← Int.natCast_mul]
    omega
  have fl : (List.replicate k.toNat its).flatten.length ≤ sizeLine := by
    rw [PyProof.Rows.lm_len_rep_flat, el, sizeLine_eq, Nat.mul_comm]
    omega
  have fl2 : (List.replicate k.toNat xs).flatten.length ≤ sizeLine := by
    rw [PyProof.Rows.lm_len_rep_flat, sizeLine_eq, Nat.mul_comm]
    omega
  have z0 : (decide (k < -(2 ^ 63)) || decide (k ≥ 2 ^ 63)) = false := by simp; omega
  have z1 : (its.toArray.isEmpty || k == 1) = false := by
    rw [ei]
    simp; omega
  have z2 : (decide (k ≤ 0) || its.toArray.isEmpty) = false := by
    rw [ei]
    simp; omega
  have z4 : Builtin.Tuple.tupleTooMany (((its.toArray.size : Nat) : Int) * k) = false := by
    unfold Builtin.Tuple.tupleTooMany
    rw [sizeLine_eq]
    exact decide_eq_false (by omega)
  refine wpAny_binaryOp_repeat_ref (T := "tuple") (U := "int") (by decide) ⟨_, ho, rfl⟩ (fun s' => typeIs_int s' k t) noFill_tuple_mul PySem.F.fills_int_mul PySem.F.slot_int_rmul repeat_tuple PySem.F.slot_int_index.lookup
    (call_meets PySem.F.slot_int_rmul (typeIs_int s k t) PySem.F.entry_int_rmul (PySem.F.args_int_rmul_2 _ _) (int_rmul_tuple k t l its.toArray n dd sl) ⟨ho, rfl, ⟨_, ho, rfl⟩,
      call_meets PySem.F.slot_tuple_mul ⟨_, ho, rfl⟩ PySem.F.entry_tuple_mul (PySem.F.args_tuple_mul_2 _ _) (tuple_mulW l its.toArray n dd sl k t z0 z1 z2 (by omega) z4 (by rw [size_rep, List.size_toArray]; exact fl)) ⟨ho, ?_⟩⟩)
  rw [size_rep]
  exact ⟨.ref s.heap.objs.size, _, I.laid (t' := s.toks) (o := .tup (List.replicate k.toNat xs).flatten) (fun b ob q => Heap.get?_push_of_some _ q) (Nat.le_refl _) ⟨fl2, _, r.rep k.toNat, IsTup.new _ _⟩, rfl, q _ (I.hok.fresh (Nat.le_refl _))⟩
def rMulX (K : PySem.W.Frag) : R2 := fun x y H Q => (rI CMul fun i j => .int (i * j)) x y H Q ∨ (rTim K x y H Q ∨ (rRep x y H Q ∨ (rOne K x y H Q ∨ rNone K x y H Q)))
theorem op_mulX : OpR X (binaryOp .Mult) (rMulX X.K) := OpR.or op_mul (OpR.or op_tim (OpR.or op_rep (OpR.or op_one op_none)))
theorem rel_mul : RelOp X dMul (rMulX X.K) := by
  intro α Z H st x y a b d Q w hx hy e q
  cases b with
  | int j => cases a with
    | int i =>
      have e' : (if (-big < i ∧ i < big) ∨ (-big < j ∧ j < big) then some (D.int (i * j)) else none) = some d := e
      split at e'
      · rename_i h
        cases e'; cases hx; cases hy
        exact .inl ⟨i, j, rfl, rfl, h, q H _ Ext.refl w (.int _)⟩
      · cases e'
    | tup xs =>
      have e' : (if xs.isEmpty = false ∧ 2 ≤ j ∧ j ≤ 1000000 ∧ xs.length * j.toNat ≤ sz then some (D.tup (List.replicate j.toNat xs).flatten) else if (xs.isEmpty = true ∨ j = 1) ∧ -1000000 ≤ j ∧ j ≤ 1000000 then some (D.tup xs) else if xs.isEmpty = false ∧ -1000000 ≤ j ∧ j ≤ 0 then some (D.tup []) else none) = some d := e
      split at e'
      · rename_i h
        cases e'
        cases hy
        cases hx with
        | @tup p vs _ s t =>
          refine .inr (.inl ⟨p, j, vs, rfl, rfl, s, fun z => ?_, h.2.1, h.2.2.1, by rw [t.length]; exact h.2.2.2, fun r hr => q _ _ (Ext.new hr) (w.newV hr) (.tup (.inl (.inl upd_same)) ((t.rep j.toNat).ext (Ext.new hr)))⟩)
          have := t.nilD.mp z
          subst this
          cases h.1
      · split at e'
        · rename_i h
          cases e'
          cases hy
          cases hx with
          | @tup p vs _ s t =>
            refine .inr (.inr (.inr (.inl ⟨p, j, vs, rfl, rfl, s, h.1.imp (fun z => t.nilD.mpr (List.isEmpty_iff.mp z)) id, h.2.1, h.2.2, q H _ Ext.refl w (.tup s t)⟩)))
        · split at e'
          · rename_i h
            cases e'
            cases hy
            cases hx with
            | @tup p vs _ s t =>
              refine .inr (.inr (.inr (.inr ⟨p, j, vs, rfl, rfl, s, fun z => ?_, h.2.1, h.2.2, fun r hr => q _ _ (Ext.new hr) (w.newV hr) (.tup (.inl (.inl upd_same)) .nil)⟩)))
              have := t.nilD.mp z
              subst this
              cases h.1
          · cases e'
    | lst xs =>
      have e' : (if 0 ≤ j ∧ j < 1000000 ∧ xs.length * j.toNat ≤ sz then some (D.lst (List.replicate j.toNat xs).flatten) else none) = some d := e
      split at e'
      · rename_i h
        cases e'
        cases hy
        cases hx with
        | @lst p vs _ s n z t =>
          exact .inr (.inr (.inl ⟨p, j, vs, rfl, rfl, s, by omega, by omega, sz_le (by rw [t.length]; exact h.2.2), fun r hr => q _ _ (Ext.new hr) (w.newV hr) (.lst upd_same (w.new hr).1 (w.new hr).2 ((t.rep j.toNat).ext (Ext.new hr)))⟩))
      · cases e'
    | _ => cases e
  | _ => cases a <;> cases e
theorem bin_ok {op : Operator} {f : Store → D → D → Option D} {a b : Expr} {pos : Pos} {ma mb : E} (h : binF op = some f) (ha : PE X a (tM X W ma)) (hb : PE X b (tM X W mb)) : PE X (.BinOp a op b pos) (tM X W (eOp f ma mb)) := by
  cases op <;> first
    | (cases h; exact se_op op_plusX rel_plus ha hb)
    | (cases h; exact se_op op_sub rel_sub ha hb)
    | (cases h; exact se_op op_mulX rel_mul ha hb)
    | (cases h; exact se_op op_fdivW rel_div ha hb)
    | (cases h; exact se_op op_mod rel_mod ha hb)
    | (cases h; exact se_op op_pow rel_pow ha hb)
    | (cases h; exact se_op op_and rel_band ha hb)
    | (cases h; exact se_op op_or rel_bor ha hb)
    | cases h
theorem cmp_gb {op : CmpOp} {f : Store → D → D → Option D} (h : cmpF op = some f) : GivesB f := by
  cases op <;> cases h
  · exact gb_eq
  · exact gb_ne
  · exact gb_lt
  · exact gb_le
  · exact gb_gt
  · exact gb_ge
  · exact gb_is
  · exact gb_isn
  · exact gb_in
  · exact gb_nin
/-! ### sorted, of pairs of ints -/
section
open SrtO
theorem prs_some : ∀ {ds : List D} {ps : List (Int × Int)}, prs? ds = some ps → ds = ps.map prD
  | [], ps, e => by cases e; rfl
  | .tup [.int i, .int j] :: ds, ps, e => by
    have e' : ((prs? ds).map fun ps => (i, j) :: ps) = some ps := e
    cases q : prs? ds with
    | none => rw [q] at e'; cases e'
    | some qs =>
      rw [q] at e'
      cases e'
      rw [prs_some q]; rfl
theorem ins_perm {p : Int × Int} : ∀ {l : List (Int × Int)}, (insP p l).Perm (p :: l)
  | [] => .refl _
  | q :: r => by
    unfold insP
    split
    · exact .refl _
    · exact (ins_perm (l := r)).cons q |>.trans (.swap p q r)
theorem sort_perm : ∀ {l : List (Int × Int)}, (sortP l).Perm l
  | [] => .refl _
  | p :: r => ins_perm.trans ((sort_perm (l := r)).cons p)
def leP (p q : Int × Int) : Prop := p.1 < q.1 ∨ (p.1 = q.1 ∧ p.2 ≤ q.2)
theorem ins_srt {p : Int × Int} : ∀ {l : List (Int × Int)}, l.Pairwise leP → (insP p l).Pairwise leP
  | [], _ => List.pairwise_singleton _ _
  | q :: r, h => by
    obtain ⟨h1, h2⟩ := List.pairwise_cons.mp h
    unfold insP
    split
    · rename_i c
      refine List.pairwise_cons.mpr ⟨fun x m => ?_, h⟩
      rcases List.mem_cons.mp m with rfl | m
      · unfold leP; omega
      · have := h1 x m
        unfold leP at *; omega
    · rename_i c
      refine List.pairwise_cons.mpr ⟨fun x m => ?_, ins_srt h2⟩
      rcases List.mem_cons.mp (ins_perm.mem_iff.mp m) with rfl | m
      · unfold leP; omega
      · exact h1 x m
theorem sort_srt : ∀ {l : List (Int × Int)}, (sortP l).Pairwise leP
  | [] => List.Pairwise.nil
  | p :: r => ins_srt (sort_srt (l := r))
theorem srt_uniq : ∀ {l m : List (Int × Int)}, l.Pairwise leP → m.Pairwise leP → l.Perm m → l = m
  | [], m, _, _, h => h.nil_eq
  | x :: l, [], _, _, h => absurd h.length_eq (by simp)
  | x :: l, y :: m, hl, hm, h => by
    obtain ⟨l1, l2⟩ := List.pairwise_cons.mp hl
    obtain ⟨m1, m2⟩ := List.pairwise_cons.mp hm
    have hx : x ∈ y :: m := h.mem_iff.mp List.mem_cons_self
    have hy : y ∈ x :: l := h.mem_iff.mpr List.mem_cons_self
    have e : x = y := by
      rcases List.mem_cons.mp hx with e | mx
      · exact e
      · rcases List.mem_cons.mp hy with e | my
        · exact e.symm
        · have a := m1 x mx
          have b := l1 y my
          unfold leP at a b
          exact Prod.ext (by omega) (by omega)
    subst e
    rw [srt_uniq l2 m2 h.cons_inv]
def kOf (h : Heap) (u : Value) : Int × Int := match u with
  | .ref t => match h.get? t with
    | some o => match o.data with
      | .seq its _ => match its.toList with
        | [.int x _, .int y _] => (x, y)
        | _ => (0, 0)
      | _ => (0, 0)
    | none => (0, 0)
  | _ => (0, 0)
def rSortP (K : PySem.W.Frag) : List V → Hp → VK → Prop := fun vs H Q => ∃ α Z a xs ps, vs = [V.ref a] ∧ SqL K H a xs ∧ HasAll K α Z H xs (ps.map prD) ∧ ∀ ys p, HasAll K α Z H ys ((sortP ps).map prD) → H p = none → Q (.ref p) (upd H p (.lst ys))
theorem pairs_at {pins : List (Addr × Obj)} {s : Shared} {σ : L2.St} {H : Hp} {α Z : List Addr} (I : Inv X pins σ H s) : ∀ {xs : List V} {us : List Value} {ps : List (Int × Int)}, HasAll X.K α Z H xs (ps.map prD) → Vals xs us → us.map (kOf s.heap) = ps ∧ ∀ u ∈ us, (∃ t, u = .ref t) ∧ Srt.IsPair s.heap u (kOf s.heap u).1 (kOf s.heap u).2 ∧ HasD X.K α Z H (backV u) (prD (kOf s.heap u))
  | [], us, [], _, hv => by cases hv; exact ⟨rfl, fun u m => (nomatch m)⟩
  | x :: xs, us, p :: ps, hh, hv => by
    cases hv with
    | @cons _ u _ us' rx rr =>
      cases hh with
      | cons h1 h2 =>
        obtain ⟨e, f⟩ := pairs_at I h2 rr
        have hd : HasD X.K α Z H x (.tup [.int p.1, .int p.2]) := h1
        cases hd with
        | @tup t ws _ st hw =>
          cases hw with
          | cons w1 hw => cases hw with
            | cons w2 hw => cases hw with
              | nil =>
                cases w1; cases w2
                obtain rfl : u = Value.ref t := rx
                obtain ⟨its, r, ⟨o, ho, hc, n, hdt⟩, hs⟩ := I.tuple st
                have hk : kOf s.heap (.ref t) = p ∧ Srt.IsPair s.heap (.ref t) p.1 p.2 := by
                  obtain ⟨u1, u2, rfl, ri, rj⟩ := vals2 r
                  obtain ⟨t1, rfl⟩ := ri
                  obtain ⟨t2, rfl⟩ := rj
                  refine ⟨?_, t, o, t1, t2, n, rfl, ho, hc, hdt⟩
                  show (match s.heap.get? t with
                    | some o => match o.data with
                      | .seq its _ => match its.toList with
                        | [.int x _, .int y _] => (x, y)
                        | _ => (0, 0)
                      | _ => (0, 0)
                    | none => (0, 0) : Int × Int) = p
                  rw [ho]
                  dsimp only
                  rw [hdt]
                refine ⟨by rw [List.map_cons, hk.1, e], fun v m => ?_⟩
                rcases List.mem_cons.mp m with rfl | m
                · rw [hk.1]
                  exact ⟨⟨t, rfl⟩, hk.2, .tup st (.cons (.int _) (.cons (.int _) .nil))⟩
                · exact f v m
theorem all_back {K : PySem.W.Frag} {α Z : List Addr} {H : Hp} {k : Value → Int × Int} : ∀ {out : List Value}, (∀ u ∈ out, HasD K α Z H (backV u) (prD (k u))) → HasAll K α Z H (out.map backV) ((out.map k).map prD)
  | [], _ => .nil
  | u :: out, h => .cons (h u List.mem_cons_self) (all_back fun v m => h v (List.mem_cons_of_mem _ m))
theorem call_sortP : CallR X (.builtin "sorted") (rSortP X.K) := by
  intro pins s σ H vs us Q I r h
  obtain ⟨α, Z, a, xs, ps, rfl, hs, hh, q⟩ := h
  obtain ⟨its, rv, hl, hz⟩ := I.list hs
  rw [Vals.ref1 r]
  obtain ⟨e, f⟩ := pairs_at I hh rv
  refine SrtO.sorted_pairsO (k := kOf s.heap) hl.isList (by rw [← rv.length]; exact hz) (fun v hv => (f v hv).2.1) fun h' d out h1 h2 kp hd hn => ?_
  have hm : ∀ u ∈ out, u ∈ its := fun u hu => h2.perm.mem_iff.mp hu
  have hp : (out.map (kOf s.heap)).Perm ps := by rw [← e]; exact h2.perm.map _
  have hsrt : (out.map (kOf s.heap)).Pairwise leP := List.pairwise_map.mpr (h1.imp fun {x y} z => by
    have := SrtO.lexB_no.mp z
    unfold leP; omega)
  have hu : out.map (kOf s.heap) = sortP ps := srt_uniq hsrt sort_srt (hp.trans sort_perm.symm)
  obtain ⟨n, hn⟩ := hn
  refine ⟨.ref d, upd H d (.lst (out.map backV)), I.laid (t' := s.toks) kp hd ⟨?_, out, n, vals_back (fun u hu => (f u (hm u hu)).1), hn⟩, rfl, q _ d (by rw [← hu]; exact all_back fun u hu => (f u (hm u hu)).2.2) (I.hok.fresh hd)⟩
  rw [List.length_map, h2.perm.length_eq, ← rv.length]
  exact hz
theorem rel_sortP : RelCall X fSortP (rSortP X.K) := by
  intro α Z H st xs as d Q w h e q
  match as, e with
  | [x], e =>
    obtain ⟨ps, e1, rfl⟩ := map_some e
    obtain ⟨ds, e2, e3⟩ := bind_some e1
    obtain ⟨v, rfl, hv⟩ := all1 h
    obtain ⟨a, xs, rfl, hs, ha⟩ := litems_v w hv e2
    have := prs_some e3
    subst this
    exact ⟨α, Z, a, xs, ps, rfl, hs, ha, fun ys p hy hp => q _ _ (Ext.new hp) (w.newV hp) (.lst upd_same (w.new hp).1 (w.new hp).2 (hy.ext (Ext.new hp)))⟩
end
theorem room65 (g : Gd X W k) : X.A.units + 65 < cLine := by have := g.room.un; omega
theorem cmp_rel (g : Gd X W k) {op : CmpOp} {f : Store → D → D → Option D} (h : cmpF op = some f) : ∃ r, OpR X (compareOp op) r ∧ RelOp X f r := by
  cases op <;> cases h
  · exact ⟨_, op_eqS g.room.units, rel_eq⟩
  · exact ⟨_, op_neS g.room.units, rel_ne⟩
  · exact ⟨_, op_lt, rel_lt⟩
  · exact ⟨_, op_le, rel_le⟩
  · exact ⟨_, op_gt, rel_gt⟩
  · exact ⟨_, op_ge, rel_ge⟩
  · exact ⟨_, op_is1, rel_is⟩
  · exact ⟨_, op_is0, rel_isn⟩
  · exact ⟨_, op_inY (room65 g), rel_in⟩
  · exact ⟨_, op_nInY (room65 g), rel_nin⟩
theorem find2_mem {β : Type} : ∀ {l : List (Str × Nat × β)} {x : Str} {n : Nat} {b : β}, find2 l x n = some b → (x, n, b) ∈ l
  | [], _, _, _, h => by cases h
  | (y, m, c) :: r, x, n, b, h => by
    unfold find2 at h
    split at h
    · rename_i e
      obtain ⟨e, e2⟩ := e
      cases h; subst e; subst e2; simp
    · exact List.mem_cons_of_mem _ (find2_mem h)
theorem find1_mem {β : Type} : ∀ {l : List (Str × β)} {x : Str} {b : β}, find1 l x = some b → (x, b) ∈ l
  | [], _, _, h => by cases h
  | (y, c) :: r, x, b, h => by
    unfold find1 at h
    split at h
    · rename_i e; cases h; subst e; simp
    · exact List.mem_cons_of_mem _ (find1_mem h)
theorem se_blt {x : Str} {p pos : Pos} {e : Expr} {es : List Expr} {id : String} {r : List V → Hp → VK → Prop} {f : Store → List D → Option D} {ms : List E} (hc : CallR X (.builtin id) r) (hf : RelCall X f r) (hg : Gl X x) (hm : X.mg x = none) (hv : bootBuiltins x = some (.builtin id)) (ha : PA X (e :: es) (tMs X W (evL ms))) (hok : okName x = true) (hpl : (e :: es).all plainArg = true) :
    PE X (.Call (.Name x p) (e :: es) [] pos) (tM X W (eCall f ms)) := by
  have h2 : plainArg e = true ∧ es.all plainArg = true := Bool.and_eq_true_iff.mp hpl
  exact PE.imp (pe_callB hc hg hm hv ha (ok_dbg hok).2.2 (ok_dbg hok).1 (star_cons h2.1) (star_any h2.2)) fun σ H Q ⟨α, Z, en, st, w, s, q⟩ => tcb_of hf w s q
theorem se_ty {x : Str} {p pos : Pos} {e : Expr} {es : List Expr} {T : String} {r : List V → Hp → VK → Prop} {f : Store → List D → Option D} {ms : List E} (hc : CallR X (.type T) r) (hf : RelCall X f r) (hg : Gl X x) (hm : X.mg x = none) (hv : bootBuiltins x = some (.type T)) (ha : PA X (e :: es) (tMs X W (evL ms))) (hok : okName x = true) (hpl : (e :: es).all plainArg = true) :
    PE X (.Call (.Name x p) (e :: es) [] pos) (tM X W (eCall f ms)) := by
  have h2 : plainArg e = true ∧ es.all plainArg = true := Bool.and_eq_true_iff.mp hpl
  exact PE.imp (pe_callTy hc hg hm hv ha (ok_dbg hok).2.2 (ok_dbg hok).1 (star_cons h2.1) (star_any h2.2)) fun σ H Q ⟨α, Z, en, st, w, s, q⟩ => tcb_of hf w s q
theorem bif_ok (g : Gd X W k) (go : GOk X k G) {x : Str} {n : Nat} {f : Store → List D → Option D} (h : find2 bifs x n = some f) {p pos : Pos} {e : Expr} {es : List Expr} {ms : List E} (hg : Gl X x) (ha : PA X (e :: es) (tMs X W (evL ms))) (hok : okName x = true) (hpl : (e :: es).all plainArg = true) : PE X (.Call (.Name x p) (e :: es) [] pos) (tM X W (eCall f ms)) := by
  have m := find2_mem h
  have b : ∀ y, y ∈ bltN → X.mg y = none := go.blt
  simp only [bifs, List.mem_cons, List.mem_nil_iff, or_false, Prod.mk.injEq] at m
  rcases m with ⟨rfl, _, rfl⟩ | ⟨rfl, _, rfl⟩ | ⟨rfl, _, rfl⟩ | ⟨rfl, _, rfl⟩ | ⟨rfl, _, rfl⟩ | ⟨rfl, _, rfl⟩ | ⟨rfl, _, rfl⟩ | ⟨rfl, _, rfl⟩ | ⟨rfl, _, rfl⟩ | ⟨rfl, _, rfl⟩ | ⟨rfl, _, rfl⟩ | ⟨rfl, _, rfl⟩ | ⟨rfl, _, rfl⟩ | ⟨rfl, _, rfl⟩ | ⟨rfl, _, rfl⟩ | ⟨rfl, _, rfl⟩ | ⟨rfl, _, rfl⟩ | ⟨rfl, _, rfl⟩
  · exact se_blt call_lenX rel_len hg (b _ (by decide)) (by decide +kernel) ha hok hpl
  · exact se_blt call_abs rel_abs hg (b _ (by decide)) (by decide +kernel) ha hok hpl
  · exact se_blt (call_min2 g.calm) rel_min hg (b _ (by decide)) (by decide +kernel) ha hok hpl
  · exact se_blt (call_max2 g.calm) rel_max hg (b _ (by decide)) (by decide +kernel) ha hok hpl
  · exact se_blt (cr_min g.calm) rel_minL hg (b _ (by decide)) (by decide +kernel) ha hok hpl
  · exact se_blt (cr_max g.calm) rel_maxL hg (b _ (by decide)) (by decide +kernel) ha hok hpl
  · exact se_blt (call_min3Nu g.calm) rel_min3 hg (b _ (by decide)) (by decide +kernel) ha hok hpl
  · exact se_blt (call_max3Nu g.calm) rel_max3 hg (b _ (by decide)) (by decide +kernel) ha hok hpl
  · exact se_ty call_int1 rel_int hg (b _ (by decide)) (by decide +kernel) ha hok hpl
  · exact se_blt call_ord rel_ord hg (b _ (by decide)) (by decide +kernel) ha hok hpl
  · exact se_ty (CallR.or call_str_int SkE.call_str_str) rel_str hg (b _ (by decide)) (by decide +kernel) ha hok hpl
  · exact se_blt (call_reprX g) rel_repr hg (b _ (by decide)) (by decide +kernel) ha hok hpl
  · exact se_ty call_tuple_of rel_tuple hg (b _ (by decide)) (by decide +kernel) ha hok hpl
  · exact se_ty call_list_of rel_list hg (b _ (by decide)) (by decide +kernel) ha hok hpl
  · exact se_blt (cr_all g.calm) rel_all hg (b _ (by decide)) (by decide +kernel) ha hok hpl
  · exact se_blt (cr_any g.calm) rel_any hg (b _ (by decide)) (by decide +kernel) ha hok hpl
  · exact se_blt (cr_sum g.calm) rel_sum hg (b _ (by decide)) (by decide +kernel) ha hok hpl
  · exact se_blt call_sortP rel_sortP hg (b _ (by decide)) (by decide +kernel) ha hok hpl
theorem rgArg_some {f : Str} {es : List Expr} {x : Expr} (h : rgArg f es = some x) : f = ("list" : Str) ∧ ∃ p pos, es = [.Call (.Name ("range" : Str) p) [x] [] pos] := by
  unfold rgArg at h
  split at h
  · split at h
    · rename_i hc
      cases h
      obtain ⟨h1, h2⟩ := hc
      subst h1 h2
      exact ⟨rfl, _, _, rfl⟩
    · cases h
  · cases h
theorem rgArg3_some {f : Str} {es : List Expr} {x y z : Expr} (h : rgArg3 f es = some (x, y, z)) : f = ("list" : Str) ∧ ∃ p pos, es = [.Call (.Name ("range" : Str) p) [x, y, z] [] pos] := by
  unfold rgArg3 at h
  split at h
  · split at h
    · rename_i hc
      cases h
      obtain ⟨h1, h2⟩ := hc
      subst h1 h2
      exact ⟨rfl, _, _, rfl⟩
    · cases h
  · cases h
theorem ty_ok {x : Str} {T : String} (h : find1 tyNames x = some T) : bootBuiltins x = some (.type T) ∧ x ∈ bltN ∧ tys.contains T = true ∧ okName x = true := by
  have m := find1_mem h
  simp only [tyNames, List.mem_cons, List.mem_nil_iff, or_false, Prod.mk.injEq] at m
  rcases m with ⟨rfl, rfl⟩ | ⟨rfl, rfl⟩ | ⟨rfl, rfl⟩ | ⟨rfl, rfl⟩ | ⟨rfl, rfl⟩ | ⟨rfl, rfl⟩ <;> exact ⟨by decide +kernel, by decide +kernel, by decide +kernel, by decide +kernel⟩
theorem bool_ok {f : Expr → E} {op : BoolOp} {pos : Pos} : ∀ {vs : List Expr}, (∀ v ∈ vs, PE X v (tM X W (f v))) → PE X (.BoolOp op vs pos) (tM X W (boolE op (vs.map f)))
  | [], _ => se_bad
  | [a], h => se_one (h a (by simp))
  | a :: b :: r, h => by
    have ih := bool_ok (op := op) (pos := pos) (vs := b :: r) fun v m => h v (List.mem_cons_of_mem _ m)
    cases op with
    | And => exact se_and (h a (by simp)) ih
    | Or => exact se_or (h a (by simp)) ih
theorem sw_bad {e : Expr} : PW X e (tT X W eBad) := ⟨fun _ _ _ _ _ _ _ ⟨_, _, _, _, _, _, h⟩ => h.elim⟩
theorem boolT_ok {f : Expr → E} {op : BoolOp} {pos : Pos} : ∀ {vs : List Expr}, (∀ v ∈ vs, PT X v (tT X W (f v))) → PW X (.BoolOp op vs pos) (tT X W (boolE op (vs.map f)))
  | [], _ => sw_bad
  | [a], h => by
    cases op with
    | And => exact sw_one_and (h a (by simp))
    | Or => exact sw_one_or (h a (by simp))
  | a :: b :: r, h => by
    have ih := boolT_ok (op := op) (pos := pos) (vs := b :: r) fun v m => h v (List.mem_cons_of_mem _ m)
    cases op with
    | And => exact sw_and (h a (by simp)) ih
    | Or => exact sw_or (h a (by simp)) ih
end
end Mn

namespace Mn
open PySem PySem.Spec PyProof.Rows L2
section
variable {X : Cx} {W : WX} {k : Nat} {G : Gls} {N : List Str} {sc : Scope} {fc : Str → Bool}
theorem vis_not_glo {x : Str} (hsc : X.env.scope = sc) (h : isGlo sc x = true) : Gl X x := glo_of hsc h
/-- what is walked, by the parts' judgements -/
theorem denI_ok {den : Expr → E} {tg it : Expr} (go : GOk X k G) (hsc : X.env.scope = sc) (h : ∀ e, PE X e (tM X W (den e))) : PI X tg it (tI X W (denI den G sc tg it)) := by
  have plain : PI X tg it (tI X W (iSeq (den it))) := si_seq (h it)
  have rm : X.mg "range" = none := go.blt _ (by decide)
  have em : X.mg "enumerate" = none := go.blt _ (by decide)
  have zm : X.mg "zip" = none := go.blt _ (by decide)
  unfold denI
  dsimp only
  split
  · rename_i f fp a pos
    split
    · rename_i hc
      have s1 : starEach [a] X.env = [(false, eval a X.env)] := star_cons (es := []) hc.1
      split
      · rename_i hf
        subst hf
        split
        · rename_i hg
          exact si_range1 (glo_of hsc hg) rm (sa_cons (h a) sa_nil s1) s1
        · exact plain
      · split
        · rename_i hf
          subst hf
          split
          · split
            · rename_i hg
              exact si_enum (glo_of hsc hg) em (sa_cons (h a) sa_nil s1) s1
            · exact plain
          · exact plain
        · exact plain
    · exact plain
  · rename_i f fp a b pos
    split
    · rename_i hc
      have s1 : starEach [b] X.env = [(false, eval b X.env)] := star_cons (es := []) hc.2.1
      have s2 : starEach [a, b] X.env = [(false, eval a X.env), (false, eval b X.env)] := by rw [star_cons hc.1, s1]
      split
      · rename_i hf
        subst hf
        split
        · rename_i hg
          exact si_range2 (glo_of hsc hg) rm (sa_cons (h a) (sa_cons (h b) sa_nil s1) (star_cons hc.1)) s2 s1
        · exact plain
      · split
        · rename_i hf
          subst hf
          split
          · split
            · rename_i hg
              exact si_zip (glo_of hsc hg) zm (sa_cons (h a) (sa_cons (h b) sa_nil s1) (star_cons hc.1)) (star_cons hc.1) (by rw [s1]; rfl)
            · exact plain
          · exact plain
        · exact plain
    · exact plain
  · rename_i f fp a b c pos
    split
    · rename_i hc
      have s0 : starEach [c] X.env = [(false, eval c X.env)] := star_cons (es := []) hc.2.2.1
      have s1 : starEach [b, c] X.env = [(false, eval b X.env), (false, eval c X.env)] := by rw [star_cons hc.2.1, s0]
      split
      · rename_i hf
        subst hf
        split
        · rename_i hg
          exact si_range3 (glo_of hsc hg) rm (sa_cons (h a) (sa_cons (h b) (sa_cons (h c) sa_nil s0) (star_cons hc.2.1)) (star_cons hc.1)) (star_cons hc.1) (by rw [s1]; rfl)
        · exact plain
      · exact plain
    · exact plain
  · exact plain
theorem sg_bad {e : Expr} {js : List Nat} : PG X e (tG X W js fun _ _ _ => .bad) := ⟨fun _ _ _ _ _ _ _ _ _ ⟨_, _, _, _, _, _, _, _, h⟩ => h.elim⟩
theorem tG_mono {e : Expr} {g : TgM} {js ks : List Nat} (h : PG X e (tG X W js g)) (hs : ∀ i, i ∈ js → i ∈ ks) : PG X e (tG X W ks g) :=
  PG.imp h fun v σ H Q ⟨α, Z, en, st, d, w, s, x, q⟩ => ⟨α, Z, en, st, d, w, s, x, by
    cases r : g d en st with
    | ok b s' => rw [r] at q; exact fun α' H' σ' e w' x => q α' H' σ' e w' ⟨x.1, x.2.mono hs⟩
    | exc c s' => rw [r] at q; exact q
    | bad => rw [r] at q; exact q⟩
theorem sgs_all (f : Expr → TgM) (j : Expr → List Nat) : ∀ {es : List Expr}, es.all plainArg = true → (∀ e ∈ es, PG X e (tG X W (j e) (f e))) → PGs X es (tGs X W (es.flatMap j) (gTs (es.map f)))
  | [], _, _ => sgs_nil
  | e :: es, h, q => by
    have h' : (plainArg e && es.all plainArg) = true := h
    obtain ⟨h1, h2⟩ := Bool.and_eq_true_iff.mp h'
    exact sgs_cons (q e (by simp)) (sgs_all f j h2 fun x m => q x (List.mem_cons_of_mem _ m)) (by rw [tgt_cons h1]; rfl)
theorem asg_sub {o i : Expr} {pos : Pos} {env : PySem.Env} (h : plainIx i = true) : ∀ v, assign (.Subscript o i pos) env v = (do
      let ov ← holding [v] (eval o env)
      let iv ← holding [v, ov] (eval i env)
      standAt pos
      holding [v, ov, iv] (setItem ov iv v)
      release [v, ov, iv] []) := by
  intro v
  cases i <;> first | rfl | cases h
theorem denG_ok {den : Expr → E} (hu : X.A.units + 1 < cLine) (hc : X.calm = true) (hnd : X.N.Nodup) (hN : X.N = N) (hsc : X.env.scope = sc) (hfc : X.fn = fc) (h : ∀ e, PE X e (tM X W (den e))) : ∀ (n : Nat) (e : Expr), PG X e (tG X W (jsG N n e) (denG den N sc fc n e)) := by
  intro n
  induction n with
  | zero => intro e; cases e <;> exact sg_bad
  | succ n ih =>
    intro e
    cases e with
    | Name x pos =>
      show PG X (.Name x pos) (tG X W (match ixOf N x with | some i => [i] | none => []) (if isSto sc fc x = true then (match ixOf N x with | some i => gN i | none => fun _ _ _ => .bad) else fun _ _ _ => .bad))
      by_cases hs : isSto sc fc x = true
      · obtain ⟨l1, l2⟩ := sto_of hs
        rw [if_pos hs]
        cases q : ixOf N x with
        | none => exact sg_bad
        | some i => exact sg_name (pg_name hnd (by rw [hN]; exact ixOf_get q) (by rw [hsc]; exact l1) (by rw [hfc, hsc]; exact l2))
      · rw [if_neg hs]
        exact sg_bad
    | Tuple es kk pos =>
      show PG X (.Tuple es kk pos) (tG X W (es.flatMap (jsG N n)) (if es.all plainArg = true then gT (es.map (denG den N sc fc n)) else fun _ _ _ => .bad))
      split
      · rename_i hp
        obtain ⟨t1, t2⟩ := tgt_len (env := X.env) hp
        exact sg_tup hc (sgs_all _ _ hp fun e _ => ih e) (by simp) t1 t2
      · exact sg_bad
    | Subscript o i pos =>
      show PG X (.Subscript o i pos) (tG X W [] (if plainIx i = true then gSubD (den o) (den i) else fun _ _ _ => .bad))
      split
      · rename_i hp
        exact sg_sub hu (h o) (h i) (asg_sub hp)
      · exact sg_bad
    | _ => exact sg_bad
theorem rel_scope {scope : Scope} {C : Addr} {cl : List (Str × Addr)} : (compEnvC scope cl C X.env).scope = relS scope X.env.scope := rfl
end
theorem se_dict0 {X : Cx} {W : WX} {pos : Pos} : PE X (.Dict [] [] pos) (tM X W eDict0) :=
  PE.imp pe_dnewK fun σ H Q ⟨α, Z, en, st, w, s, q⟩ p hp => by
    have q' : Post X W Z (RD X Z) α H σ Q (.ok (.ref st.length) (st ++ [.dct []])) := q
    refine q' (α ++ [p]) _ _ (Ext.alloc hp) (w.alloc hp ⟨[], upd_same, rfl, .nil⟩) (.ref ?_)
    rw [← w.len]
    simp
theorem se_setd {X : Cx} {W : WX} {o a b : Expr} {apos cpos : Pos} {mo ma mb : E} (hn : isName o = true) (hp : plainArg a = true) (hp2 : plainArg b = true) (hl : (apos.endLine == cpos.line) = true) (ho : PE X o (tM X W mo)) (ha : PE X a (tM X W ma)) (hb : PE X b (tM X W mb)) : PE X (.Call (.Attribute o "setdefault" apos) [a, b] [] cpos) (tM X W (eSetD mo ma mb)) := by
  have hbase : attributeBase o "setdefault" X.env (eval o X.env) = eval o X.env := by cases o <;> first | rfl | cases hn
  have s1 : starEach [a, b] X.env = [(false, eval a X.env), (false, eval b X.env)] := by
    rw [star_cons hp, star_cons hp2]; rfl
  have m : L2.M2 X o "setdefault" apos a b cpos := ⟨hbase, by rw [s1]; rfl, hl, by rw [s1]; rfl⟩
  refine PE.imp (pe_dsetd ho ha hb m) fun σ H Q ⟨α, Z, en, st, w, s, q⟩ => ?_
  refine tM_of mo w s (Post.mono (Post.bnd (R := RD X Z) q) fun v H1 ⟨α1, st1, d, e1, w1, x1, h1⟩ => ?_)
  have s2 := s.ext e1
  cases x1 with
  | @ref p n hr =>
    have h2 : Post X W Z (RD X Z) α1 H1 σ Q (match st1[n]? with
      | some (.dct _) => bnd (ma en st1) fun y s2 => bnd (mb en s2) fun d s3 => match s3[n]?, keyD y with
        | some (.dct kvs), some kk => if kvs.length < sz then (match valD kvs kk with
          | some d0 => .ok d0 s3
          | none => .ok d (s3.set n (.dct (putD kvs kk d)))) else .bad
        | _, _ => .bad
      | _ => .bad) := h1
    split at h2
    · rename_i kvs0 e0
      obtain ⟨ws0, c0, _⟩ := w1.cell n p _ hr e0
      refine ⟨p, rfl, .inl ⟨ws0, .inl c0⟩, ?_⟩
      refine tM_of ma w1 s2 (Post.mono (Post.bnd (R := RD X Z) h2) fun v2 H2 ⟨α2, st2, d2, e2, w2, x2, h3⟩ => ?_)
      refine tM_of mb w2 (s2.ext e2) (Post.mono (Post.bnd (R := RD X Z) h3) fun v3 H3 ⟨α3, st3, d3, e3, w3, x3, h4⟩ => ?_)
      have h4 : Post X W Z (RD X Z) α3 H3 σ Q (match st3[n]?, keyD d2 with
        | some (.dct kvs), some kk => if kvs.length < sz then (match valD kvs kk with
          | some d0 => .ok d0 st3
          | none => .ok d3 (st3.set n (.dct (putD kvs kk d3)))) else .bad
        | _, _ => .bad) := h4
      split at h4
      · rename_i kvs kk e4 ek
        have hr3 := e3.get (e2.get hr)
        obtain ⟨ws, c1, c2, c3⟩ := w3.cell n p _ hr3 e4
        have ev := keyD_v (x2.ext e3) ek
        obtain ⟨v1, v0⟩ := val_rel (k := kk) c2 c3
        have hlen := len_keys c2
        have hsl : sizeLine = 16777216 := sizeLine_eq
        split at h4
        · rename_i hz
          have hz' : kvs.length < 16000000 := hz
          cases hv : valD kvs kk with
          | some d0 =>
            rw [hv] at h4
            obtain ⟨x, ex, hx⟩ := v1 d0 hv
            have h5 : Post X W Z (RD X Z) α3 H3 σ Q (.ok d0 st3) := h4
            exact ⟨ws, kk, c1, keyD_v x2 ek, by omega, fun v e => by rw [ex] at e; cases e; exact h5 α3 H3 x Ext.refl w3 hx, fun e => by rw [ex] at e; cases e⟩
          | none =>
            rw [hv] at h4
            have h5 : Post X W Z (RD X Z) α3 H3 σ Q (.ok d3 (st3.set n (.dct (putD kvs kk d3)))) := h4
            have mu : Mut (H3 p) := by rw [c1]; trivial
            have ew : Ext α3 H3 α3 (upd H3 p (.dK (putK ws kk v3))) := Ext.write (List.mem_of_getElem? hr3) mu
            obtain ⟨r1, r2⟩ := put_rel (k := kk) c2 c3 x3
            exact ⟨ws, kk, c1, keyD_v x2 ek, by omega, fun v e => (by rw [v0 hv] at e; cases e), fun _ => h5 α3 _ v3 ew (w3.write hr3 mu ⟨_, upd_same, r1, r2.ext ew⟩) (x3.ext ew)⟩
        · exact h4.elim
      · exact h4.elim
    · exact h2.elim
  | _ => exact h1.elim
theorem se_app {X : Cx} {W : WX} {o a : Expr} {apos cpos : Pos} {mo ma : E} (hn : isName o = true) (hp : plainArg a = true) (hl : (apos.endLine == cpos.line) = true) (ho : PE X o (tM X W mo)) (ha : PE X a (tM X W ma)) : PE X (.Call (.Attribute o "append" apos) [a] [] cpos) (tM X W (eApp mo ma)) := by
  have hb : attributeBase o "append" X.env (eval o X.env) = eval o X.env := by cases o <;> first | rfl | cases hn
  have s1 : starEach [a] X.env = (false, eval a X.env) :: starEach [] X.env := star_cons hp
  have hf : ((backTo cpos (starEach [a] X.env)).all (fun x => !x.1) && (backToKw cpos (keywordEach [] X.env)).all (fun x => x.1.isSome) && decide (([a] : List Expr).length + ([] : List Keyword).length + (if ([] : List Keyword).isEmpty then 0 else 1) < 30)) = true := by rw [s1]; rfl
  refine PE.imp (pe_bm PySem.F.plainAttrs_list PySem.F.slot_list_append PySem.F.type_list_append mt_append ho (sa_cons ha sa_nil s1) hb hf hl s1 rfl) fun σ H Q ⟨α, Z, en, st, w, s, q⟩ => ?_
  refine tM_of mo w s (Post.mono (Post.bnd (R := RD X Z) q) fun v H1 ⟨α1, st1, d, e1, w1, x1, h1⟩ => ?_)
  have s2 := s.ext e1
  cases x1 with
  | @ref p n hr =>
    have h2 : Post X W Z (RD X Z) α1 H1 σ Q (match st1[n]? with
      | some (.lst _) => bnd (ma en st1) fun d s2 => match s2[n]? with
        | some (.lst ds) => if ds.length < sz then .ok .non (s2.set n (.lst (ds ++ [d]))) else .bad
        | _ => .bad
      | _ => .bad) := h1
    split at h2
    · rename_i ds0 e0
      obtain ⟨xs0, c0, _⟩ := w1.cell n p _ hr e0
      refine ⟨.inl ⟨rfl, xs0, .inl (.inl c0)⟩, tms1 w1 s2 h2 fun v H2 α2 st2 d x2 w2 hv h3 => ?_⟩
      split at h3
      · rename_i ds e3
        split at h3
        · rename_i hz
          have hr2 := x2.get hr
          obtain ⟨xs, c1, c2⟩ := w2.cell n p _ hr2 e3
          have mu : Mut (H2 p) := by rw [c1]; trivial
          have ew : Ext α2 H2 α2 (upd H2 p (.lst (xs ++ [v]))) := Ext.write (List.mem_of_getElem? hr2) mu
          refine ⟨p, xs, v, rfl, rfl, c1, ?_, h3 α2 _ .non ew (w2.write hr2 mu ⟨_, upd_same, (c2.ext ew).app (.cons (hv.ext ew) .nil)⟩) .non⟩
          rw [c2.length]
          have hl : sizeLine = 16777216 := sizeLine_eq
          have : ds.length < 16000000 := hz
          omega
        · exact h3.elim
      · exact h3.elim
    · exact h2.elim
  | _ => exact h1.elim
theorem okT_plain {n : Nat} {e : Expr} {env : PySem.Env} (h : okT (n + 1) e = true) : (∃ op vs p, e = .BoolOp op vs p) ∨ (∃ a p, e = .UnaryOp .Not a p) ∨ (∃ a op b p, e = .Compare a [op] [b] p) ∨ (∃ a op op' b c p, e = .Compare a [op, op'] [b, c] p) ∨ ∀ whole, isTrue e env whole = (do let v ← whole; standAt e.pos; holding [v] (truthy v)) := by
  cases e with
  | BoolOp op vs p => exact .inl ⟨op, vs, p, rfl⟩
  | UnaryOp op a p => cases op with
    | Not => exact .inr (.inl ⟨a, p, rfl⟩)
    | _ => exact .inr (.inr (.inr (.inr fun _ => rfl)))
  | Compare a ops cs p =>
    match ops, cs, h with
    | [op], [b], _ => exact .inr (.inr (.inl ⟨a, op, b, p, rfl⟩))
    | [op, op'], [b, c], _ => exact .inr (.inr (.inr (.inl ⟨a, op, op', b, c, p, rfl⟩)))
  | IfExp => cases h
  | _ => exact .inr (.inr (.inr (.inr fun _ => rfl)))
section
variable {G : Gls} {N : List Str}
/-- a comprehension's parts, by the judgements within its block -/
structure CParts (X : Cx) (W : WX) (G : Gls) (N : List Str) (n : Nat) (sc : Scope) (fc : Str → Bool) (elt tg iter : Expr) (ifs : List Expr) (scope : Scope) : Prop where
  hi : PI X tg iter (tI X W (denI (denE G N n sc fc) G sc tg iter))
  bo : BlkOk X.N X.env.scope scope (ownOf N scope)
  js : ∀ i, i ∈ jsG N 3 tg → i ∈ (ownOf N scope).map (·.2)
  tgt : ∀ (s : Shared) (H : Hp) (C : Addr) (cl : List (Str × Addr)) (fp : List Addr), PG (X.blk s H scope (compEnvC scope cl C X.env) fp) tg (tG X W0 (jsG N 3 tg) (denG (denE G N n (relS scope sc) (fun x => scope.names.lookup x == some .cell)) N (relS scope sc) (fun x => scope.names.lookup x == some .cell) 3 tg))
  tests : ∀ (s : Shared) (H : Hp) (C : Addr) (cl : List (Str × Addr)) (fp : List Addr), PTs (X.blk s H scope (compEnvC scope cl C X.env) fp) ifs (tTs X W0 (ifs.map (denE G N n (relS scope sc) (fun x => scope.names.lookup x == some .cell))))
  elt_ : ∀ (s : Shared) (H : Hp) (C : Addr) (cl : List (Str × Addr)) (fp : List Addr), PE (X.blk s H scope (compEnvC scope cl C X.env) fp) elt (tM X W0 (denE G N n (relS scope sc) (fun x => scope.names.lookup x == some .cell) elt))
  hs : ∀ x, foldedSetIterable iter X.env x = pure x
theorem comp_parts {n : Nat} {X : Cx} {W : WX} {k : Nat} {sc : Scope} {fc : Str → Bool} (ih : ∀ (X : Cx) (W : WX) (k : Nat) (sc : Scope) (fc : Str → Bool), Gd X W k → GOk X k G → X.N = N → X.env.scope = sc → X.fn = fc →
    ∀ e, PE X e (tM X W (denE G N n sc fc e)) ∧ (okT n e = true → PT X e (tT X W (denE G N n sc fc e)))) (g : Gd X W k) (go : GOk X k G) (hN : X.N = N) (hsc : X.env.scope = sc) (hfc : X.fn = fc) {elt tg iter : Expr} {ifs : List Expr} {scope : Scope}
    (hc : noSet iter = true ∧ blkC N sc scope (ownOf N scope) = true ∧ (jsG N 3 tg).all (fun i => ((ownOf N scope).map (·.2)).contains i) = true ∧ ifs.length ≤ 1 ∧ ifs.all (okT n) = true) : CParts X W G N n sc fc elt tg iter ifs scope := by
  obtain ⟨h1, h2, h3, h4, h5⟩ := hc
  have inner : ∀ (s : Shared) (H : Hp) (C : Addr) (cl : List (Str × Addr)) (fp : List Addr) (e : Expr), PE (X.blk s H scope (compEnvC scope cl C X.env) fp) e (tM X W0 (denE G N n (relS scope sc) (fun x => scope.names.lookup x == some .cell) e)) ∧
      (okT n e = true → PT (X.blk s H scope (compEnvC scope cl C X.env) fp) e (tT X W0 (denE G N n (relS scope sc) (fun x => scope.names.lookup x == some .cell) e))) :=
    fun s H C cl fp e => ih (X.blk s H scope (compEnvC scope cl C X.env) fp) W0 k (relS scope sc) _ g.blk go.blk hN (by rw [← hsc]; rfl) rfl e
  have ihE : ∀ e, PE X e (tM X W (denE G N n sc fc e)) := fun e => (ih X W k sc fc g go hN hsc hfc e).1
  exact {
    hi := denI_ok go hsc ihE
    bo := blkOk_by (by rw [hN, hsc]; exact h2)
    js := fun i m => by
      have := List.all_eq_true.mp h3 i m
      simpa using this
    tgt := fun s H C cl fp => denG_ok (X := X.blk s H scope (compEnvC scope cl C X.env) fp) (W := W0) (show X.A.units + 1 < cLine from by have := room65 g; omega) g.calm g.nd hN (by rw [← hsc]; rfl) rfl (fun e => (inner s H C cl fp e).1) 3 tg
    tests := by
      intro s H C cl fp
      match ifs, h4, h5 with
      | [], _, _ => exact sts_nil (W := W0)
      | [c], _, h5 => exact sts_one ((inner s H C cl fp c).2 (by simpa using h5))
      | _ :: _ :: _, h4, _ => exact absurd h4 (by simp)
    elt_ := fun s H C cl fp => (inner s H C cl fp elt).1
    hs := no_set h1 }
/-- THE RULE for expressions -/
theorem denE_ok : ∀ (n : Nat) (X : Cx) (W : WX) (k : Nat) (sc : Scope) (fc : Str → Bool), Gd X W k → GOk X k G → X.N = N → X.env.scope = sc → X.fn = fc →
    ∀ e, PE X e (tM X W (denE G N n sc fc e)) ∧ (okT n e = true → PT X e (tT X W (denE G N n sc fc e))) := by
  intro n
  induction n with
  | zero => intro X W k sc fc g go hN hsc hfc e; exact ⟨se_bad, fun _ => st_bad⟩
  | succ n ih =>
    intro X W k sc fc g go hN hsc hfc e
    have ihE : ∀ e, PE X e (tM X W (denE G N n sc fc e)) := fun e => (ih X W k sc fc g go hN hsc hfc e).1
    have ihT : ∀ e, okT n e = true → PT X e (tT X W (denE G N n sc fc e)) := fun e => (ih X W k sc fc g go hN hsc hfc e).2
    have main : PE X e (tM X W (denE G N (n + 1) sc fc e)) := by
      unfold denE
      split
      · exact se_const pe_int fun _ _ _ => .int _
      · exact se_const pe_bl fun _ _ _ => .bl _
      · exact se_const pe_non fun _ _ _ => .non
      · exact se_const pe_str fun _ _ _ => .str _
      · -- a name
        rename_i x pos
        split
        · rename_i hok
          split
          · rename_i hv
            split
            · rename_i i hi
              exact se_var (pe_var (by rw [hN]; exact ixOf_get hi) (by rw [hsc]; exact vis_of hv) (ok_dbg hok).1 (ok_dbg hok).2.1)
            · exact se_bad
          · split
            · rename_i hg
              split
              · rename_i d hd
                obtain ⟨v, u, e1, e2, e3⟩ := go.con x d hd
                exact se_const (pe_glob (glo_of hsc hg) e1 e2 (ok_dbg hok).1) e3
              · exact se_bad
            · exact se_bad
        · exact se_bad
      · rename_i a op b pos
        split
        · rename_i f hf; exact bin_ok hf (ihE a) (ihE b)
        · exact se_bad
      · exact se_un un_neg rel_neg (ihE _)
      · exact se_not (ihE _)
      · exact bool_ok fun v _ => ihE v
      · rename_i a op b pos
        split
        · rename_i f hf
          split
          · rename_i hb
            obtain ⟨r, h1, h2⟩ := cmp_rel g hf
            exact se_cmp h1 h2 (ihE a) (ihE b) hb
          · exact se_bad
        · exact se_bad
      · rename_i a op op' b c pos
        split
        · rename_i f f' hf hf'
          split
          · rename_i hb
            obtain ⟨r, h1, h2⟩ := cmp_rel g hf
            obtain ⟨r', h1', h2'⟩ := cmp_rel g hf'
            exact se_chain h1 h2 (cmp_gb hf) h1' h2' (ihE a) (ihE b) (ihE c) hb
          · exact se_bad
        · exact se_bad
      · split
        · rename_i hc; exact se_if (ihT _ hc) (ihE _) (ihE _)
        · exact se_bad
      · split
        · rename_i hp; exact se_tup (sa_all _ hp fun e _ => ihE e)
        · exact se_bad
      · split
        · rename_i hp
          split
          · exact se_lstR (sa_all _ hp fun e _ => ihE e)
          · exact se_lst (sa_all _ hp fun e _ => ihE e)
        · exact se_bad
      · rename_i a lo hi p pos
        refine se_slice (ihE a) ?_ ?_
        · cases lo with
          | none => exact so_none
          | some e => exact so_some (ihE e)
        · cases hi with
          | none => exact so_none
          | some e => exact so_some (ihE e)
      · exact se_rev (ihE _) (so_some (ihE _))
      · split
        · rename_i hp; exact se_sub g (ihE _) (ihE _) (plain_ix hp)
        · exact se_bad
      · -- f()
        rename_i f fp pos
        split
        · rename_i hc
          split
          · rename_i many m hm
            split
            · rename_i h0; subst h0; exact se_fn0 g (glo_of hsc hc.2.2) (go.fn _ _ _ hm) (ok_dbg hc.1).1
            · exact se_bad
          · exact se_bad
        · exact se_bad
      · -- f(a, ..)
        rename_i f fp a as pos
        split
        · rename_i hc
          obtain ⟨hok, hg, hp⟩ := hc
          have hp2 : plainArg a = true ∧ as.all plainArg = true := Bool.and_eq_true_iff.mp hp
          have args : PA X (a :: as) (tMs X W (evL ((a :: as).map (denE G N n sc fc)))) := sa_all _ hp fun e _ => ihE e
          split
          · rename_i many m hm
            split
            · rename_i h0
              subst h0
              exact se_fn (ms := (a :: as).map (denE G N n sc fc)) g (glo_of hsc hg) (by rw [List.length_map]; exact go.fn _ _ _ hm) args (ok_dbg hok).1 (star_cons hp2.1) (star_any hp2.2)
            · exact se_bad
          · split
            · rename_i x hx
              split
              · rename_i hr
                obtain ⟨hf1, p2, pos2, hes⟩ := rgArg_some hx
                injection hes with h1 h2
                subst hf1 h1 h2
                exact se_listR g.calm (glo_of hsc hg) (go.blt _ (by decide)) (glo_of hsc hr.1) (go.blt _ (by decide)) (ihE x) (star_cons hr.2)
              · exact se_bad
            split
            · rename_i x y z hx
              split
              · rename_i hr
                obtain ⟨hf1, p2, pos2, hes⟩ := rgArg3_some hx
                injection hes with h1 h2
                subst hf1 h1 h2
                have hr2 : plainArg x = true ∧ [y, z].all plainArg = true := Bool.and_eq_true_iff.mp hr.2
                exact se_listR3 g.calm (glo_of hsc hg) (go.blt _ (by decide)) (glo_of hsc hr.1) (go.blt _ (by decide)) (sa_all _ hr.2 fun e _ => ihE e) (star_cons hr2.1) (star_any hr2.2)
              · exact se_bad
            split
            · rename_i f' hf; exact bif_ok g go hf (glo_of hsc hg) args hok hp
            · split
              · rename_i hi
                subst hi
                split
                · rename_i T p2
                  split
                  · rename_i hT
                    split
                    · rename_i T' ht
                      obtain ⟨t1, t2, t3, t4⟩ := ty_ok ht
                      exact se_isi (p3 := pos) (ihE a) (glo_of hsc hg) (go.blt _ (by decide)) (glo_of hsc hT) (go.blt _ t2) t1 (ok_dbg t4).2.2 (ok_dbg t4).1 t3 (star_cons hp2.1) (by decide +kernel) (star_any hp2.2)
                    · exact se_bad
                  · exact se_bad
                · rename_i T p2 U p4 k3 p5 hrg hrg3 hfind
                  split
                  · rename_i hT
                    split
                    · rename_i T' U' ht hu
                      obtain ⟨t1, t2, t3, t4⟩ := ty_ok ht
                      obtain ⟨u1, u2, u3, u4⟩ := ty_ok hu
                      exact se_isi2 (p3 := p5) (ihE a) (glo_of hsc hg) (go.blt _ (by decide)) (glo_of hsc hT.1) (go.blt _ t2) t1 (ok_dbg t4).2.2 (ok_dbg t4).1 t3 (glo_of hsc hT.2) (go.blt _ u2) u1 (ok_dbg u4).2.2 (ok_dbg u4).1 u3 (star_cons hp2.1) (by decide +kernel) (star_any hp2.2)
                    · exact se_bad
                  · exact se_bad
                · exact se_bad
              · exact se_bad
        · exact se_bad
      · -- l.append(a)
        rename_i o name apos a cpos
        split
        · rename_i hc
          obtain ⟨h1, h2, h3, h4⟩ := hc
          subst h1
          exact se_app h2 h3 h4 (ihE o) (ihE a)
        · exact se_bad
      · -- d.setdefault(a, b)
        rename_i o name apos a b cpos
        split
        · rename_i hc
          obtain ⟨h1, h2, h3, h4, h5⟩ := hc
          subst h1
          exact se_setd h2 h3 h4 h5 (ihE o) (ihE a) (ihE b)
        · exact se_bad
      · exact se_dict0
      · -- a comprehension
        rename_i elt tg iter ifs scope pos
        dsimp only
        split
        · rename_i hc
          have P := comp_parts (elt := elt) ih g go hN hsc hfc hc
          split
          · exact se_compR g.calm g.nd P.hi P.bo P.js P.tgt P.tests P.elt_ P.hs
          · exact se_comp g.calm g.nd P.hi P.bo P.js P.tgt P.tests P.elt_ P.hs
        · exact se_bad
      · exact se_bad
    refine ⟨main, fun ht => ?_⟩
    rcases okT_plain (env := X.env) ht with ⟨op, vs, p, rfl⟩ | ⟨a, p, rfl⟩ | ⟨a, op, b, p, rfl⟩ | ⟨a, op, op', b, c, p, rfl⟩ | he
    · exact (boolT_ok fun v m => ihT v (List.all_eq_true.mp (show vs.all (okT n) = true from ht) v m)).pt
    · exact st_not (ihT a ht)
    · show PT X _ (tT X W (match cmpF op with | some f => if behindInMarks op b = false then eOp f (denE G N n sc fc a) (denE G N n sc fc b) else eBad | none => eBad))
      split
      · rename_i f hf
        split
        · rename_i hb
          obtain ⟨r, h1, h2⟩ := cmp_rel g hf
          exact st_cmp h1 h2 (cmp_gb hf) (ihE a) (ihE b) hb
        · exact st_bad
      · exact st_bad
    · show PT X _ (tT X W (match cmpF op, cmpF op' with | some f, some g => if lastMarks [op, op'] [b, c] = false then eChain f g (denE G N n sc fc a) (denE G N n sc fc b) (denE G N n sc fc c) else eBad | _, _ => eBad))
      split
      · rename_i f f' hf hf'
        split
        · rename_i hb
          obtain ⟨r, h1, h2⟩ := cmp_rel g hf
          obtain ⟨r', h1', h2'⟩ := cmp_rel g hf'
          exact st_chain h1 h2 (cmp_gb hf) h1' h2' (cmp_gb hf') (ihE a) (ihE b) (ihE c) hb
        · exact st_bad
      · exact st_bad
    · exact st_val main he
end
end Mn

namespace Mn
open PySem PySem.Spec PyProof.Rows L2

/-! ### stores in the written order, or turned round -/
def starred : Expr → Bool
  | .Starred .. => true
  | _ => false
/-- swappedStores by the scope: none where it is not served -/
def swN (sc : Scope) (ts vs : List Expr) : Option (Option (List Str)) :=
  if (!(ts.length == 2 || ts.length == 3) || vs.length != ts.length) = true then some none
  else if vs.any starred = true then some none
  else
    let line := (ts.head?.map (·.pos.line)).getD 0
    let names := ts.filterMap fun
      | .Name id pos => if sc.names.lookup id == some .local && pos.line == line then some id else none
      | _ => none
    if (names.length != ts.length || names.eraseDups.length != names.length) = true then some none
    else if vs.all (foldedForSure 8) = true then some none
    else if vs.all (constantsAlone 8) = true then none
    else some (some names)
section
variable {X : Cx} {W : WX} {k : Nat} {G : Gls} {N : List Str} {sc : Scope} {fc : Str → Bool}
theorem block_fn (ok : X.Ok) : X.env.blockKind = .function := by
  unfold PySem.Env.blockKind
  rw [ok.kind]
  rfl
theorem block_fn' {env : PySem.Env} (h : env.scope.kind = .function) : env.blockKind = .function := by
  unfold PySem.Env.blockKind
  rw [h]
  rfl
theorem swN_ok {env : PySem.Env} (hk : env.scope.kind = .function) {ts vs : List Expr} {k1 k2 : Nat} {p1 p2 : Pos} {r : Option (List Str)} (h : swN env.scope ts vs = some r) : swappedStores [.Tuple ts k1 p1] (.Tuple vs k2 p2) env = pure r := by
  have hb := block_fn' hk
  unfold swN at h
  unfold swappedStores
  dsimp only at h ⊢
  split at h
  · rename_i h1
    cases h
    have : (!(ts.length == 2 || ts.length == 3) || vs.length != ts.length || env.blockKind != .function) = true := by rw [h1]; rfl
    rw [if_pos this]
  · rename_i h1
    have h1' : ¬ ((!(ts.length == 2 || ts.length == 3) || vs.length != ts.length || env.blockKind != .function) = true) := by
      rw [hb]
      simp only [Bool.not_eq_true] at h1
      rw [h1]
      decide
    rw [if_neg h1']
    have es : (fun (x : Expr) => match x with | .Starred .. => true | _ => false) = starred := by funext x; cases x <;> rfl
    split at h
    · rename_i h2
      cases h
      have h2' : (vs.any fun (x : Expr) => match x with | .Starred .. => true | _ => false) = true := by rw [es]; exact h2
      exact if_pos h2'
    · rename_i h2
      have h2' : ¬ ((vs.any fun (x : Expr) => match x with | .Starred .. => true | _ => false) = true) := by rw [es]; exact h2
      refine (if_neg h2').trans ?_
      split at h
      · rename_i h3; cases h; exact if_pos h3
      · rename_i h3
        refine (if_neg h3).trans ?_
        split at h
        · rename_i h4; cases h; exact if_pos h4
        · rename_i h4
          refine (if_neg h4).trans ?_
          split at h
          · cases h
          · rename_i h5; cases h; exact if_neg h5
def noComp : Expr → Bool
  | .ListComp .. => false
  | .SetComp .. => false
  | .DictComp .. => false
  | _ => true
theorem swaps_no {e : Expr} {t : Option Expr} {l : Nat} {env : PySem.Env} (h : noComp e = true) : swapsWith e t l env = pure false := by
  cases e <;> first | rfl | cases h
def noTup : Expr → Bool
  | .Tuple .. => false
  | .List .. => false
  | _ => true
theorem swst_no {t e : Expr} {env : PySem.Env} (h : noTup t = true) : swappedStores [t] e env = pure none := by
  cases t <;> first | rfl | cases h
theorem swst_no2 {t e : Expr} {env : PySem.Env} (h : noTup e = true) : swappedStores [t] e env = pure none := by
  cases e <;> first | (cases t <;> rfl) | cases h
/-- name = [..]: used at once -/
def swC (sc : Scope) (y : Str) (py : Pos) (scope : Scope) (cpos : Pos) : Bool := (sc.names.lookup y == some .local) && py.line == cpos.line && !(scope.names.any fun (n, k) => n == y && (k == .local || k == .cell))
theorem swC_ok {env : PySem.Env} (hk : env.scope.kind = .function) {elt : Expr} {gs : List Comprehension} {scope : Scope} {pos py : Pos} {y : Str} {l : Nat} : swapsWith (.ListComp elt gs scope pos) (some (.Name y py)) l env = pure (swC env.scope y py scope pos) := by
  have hb := block_fn' hk
  unfold swapsWith swC
  dsimp only
  rw [hb]
  rfl
/-- an assignment that is served -/
def isLcl (N : List Str) (sc : Scope) (x : Str) : Bool := decide (sc.names.lookup x = some .local) && (ixOf N x).isSome
def okAsg (N : List Str) (sc : Scope) (tg e : Expr) : Bool := match tg, e with
  | .Name y py, .ListComp _ [⟨_, _, _, 0⟩] scope cpos => !(swC sc y py scope cpos) || isLcl N sc y
  | .Tuple ts _ _, .Tuple vs _ _ => (match swN sc ts vs with
    | some none => true
    | some (some names) => (match ts, vs with
      | [.Name x _, .Name y _], [a, b] => decide (names = [x, y]) && isLcl N sc x && isLcl N sc y && decide (x ≠ y) && plainArg a && plainArg b
      | [.Name x _, .Name y _, .Name z _], [a, b, c] => decide (names = [x, y, z]) && isLcl N sc x && isLcl N sc y && isLcl N sc z && decide (x ≠ y) && decide (x ≠ z) && decide (y ≠ z) && plainArg a && plainArg b && plainArg c
      | _, _ => false)
    | none => false)
  | .Name .., e => noComp e
  | .Subscript .., e => noComp e
  | .Tuple .., e => noComp e && noTup e
  | _, _ => false
noncomputable def denS (G : Gls) (N : List Str) (sc : Scope) (fc : Str → Bool) : Nat → Stmt → S
  | 0, _ => sBad
  | n + 1, s => match s with
    | .Assign [tg] e _ => if okAsg N sc tg e = true then sAsg (denG (denE G N 40 sc fc) N sc fc 3 tg) (denE G N 40 sc fc e) else sBad
    | .AugAssign (.Name x _) .Add e _ => if isSto sc fc x = true then (match ixOf N x with
      | some i => sAug i dAddI (denE G N 40 sc fc e)
      | none => sBad) else sBad
    | .If c a b _ => if okT 40 c = true then sIf (denE G N 40 sc fc c) (a.foldr (fun s r => sSeq (denS G N sc fc n s) r) sNop) (b.foldr (fun s r => sSeq (denS G N sc fc n s) r) sNop) else sBad
    | .For tg it body [] _ => if noSet it = true then sFor (denI (denE G N 40 sc fc) G sc tg it) (denG (denE G N 40 sc fc) N sc fc 3 tg) (body.foldr (fun s r => sSeq (denS G N sc fc n s) r) sNop) else sBad
    | .While c body [] _ => if okT 40 c = true then sWhile (denE G N 40 sc fc c) (body.foldr (fun s r => sSeq (denS G N sc fc n s) r) sNop) else sBad
    | .Return (some e) _ => sRet (denE G N 40 sc fc e)
    | .Return none _ => sRetN
    | .Expr e _ => if noComp e = true then sExpr (denE G N 40 sc fc e) else sBad
    | .Pass _ => sNop
    | .Break _ => sBreak
    | .Continue _ => sCont
    | .Raise (some (.Call (.Name x _) [.Constant (.str _) _ _] [] _)) none _ => if isGlo sc x = true ∧ G.exc x = true ∧ okName x = true then sRaise x else sBad
    | _ => sBad
noncomputable def denB (G : Gls) (N : List Str) (sc : Scope) (fc : Str → Bool) (body : List Stmt) : S := body.foldr (fun s r => sSeq (denS G N sc fc 20 s) r) sNop
theorem ixOf_inj : ∀ {N : List Str} {x y : Str} {i : Nat}, ixOf N x = some i → ixOf N y = some i → x = y := fun {N x y i} h1 h2 => Option.some.inj ((ixOf_get h1).symm.trans (ixOf_get h2))
theorem body_ok {f : Stmt → S} : ∀ {b : List Stmt}, (∀ s ∈ b, PS X s (tS X W (f s))) → PSs X b (tS X W (b.foldr (fun s r => sSeq (f s) r) sNop))
  | [], _ => sss_nil
  | s :: r, h => sss_cons (h s (by simp)) (body_ok fun s m => h s (List.mem_cons_of_mem _ m))
theorem asg_plain {tg e : Expr} {pos : Pos} {m : E} {js : List Nat} {g : TgM} (he : PE X e (tM X W m)) (hg : PG X tg (tG X W js g)) (hs : swapsWith e (some tg) pos.line X.env = pure false) (hw : swappedStores [tg] e X.env = pure none) (hp : plainArg tg = true) : PS X (.Assign [tg] e pos) (tS X W (sAsg g m)) :=
  ss_asg he hg hs hw (by rw [tgt_cons hp]; rfl)
theorem raise_ok (g : Gd X W k) (go : GOk X k G) {x : Str} (hg : Gl X x) (he : G.exc x = true) (hok : okName x = true) {m : Str} {j : Nat} {p p2 pos pos' : Pos} : PS X (.Raise (some (.Call (.Name x p) [.Constant (.str m) j p2] [] pos)) none pos') (tS X W (sRaise x)) := by
  obtain ⟨C, e1, e2, e3, e4, e5⟩ := go.exc x he
  exact PS.imp (ps_raise g.calm g.tk (pmk_own PySem.F.excBase_ValueError e2 e1 e3 (raises_own e4 e5) hg (ok_dbg hok).1)) fun D σ H ⟨α, Z, en, st, w, s, q⟩ => q α H σ _ Ext.refl w s e1
theorem lcl_of {x : Str} (h : isLcl N sc x = true) : sc.names.lookup x = some .local ∧ ∃ i, ixOf N x = some i := by
  obtain ⟨h1, h2⟩ := Bool.and_eq_true_iff.mp h
  exact ⟨of_decide_eq_true h1, Option.isSome_iff_exists.mp h2⟩
theorem sto_lcl {x : Str} (h : sc.names.lookup x = some .local) : isSto sc fc x = true := by
  unfold isSto
  rw [h]
theorem denG_name {den : Expr → E} {n : Nat} {x : Str} {p : Pos} {i : Nat} (h : sc.names.lookup x = some .local) (hi : ixOf N x = some i) : denG den N sc fc (n + 1) (.Name x p) = gN i := by
  show (if isSto sc fc x = true then (match ixOf N x with | some i => gN i | none => fun _ _ _ => .bad) else fun _ _ _ => .bad) = gN i
  rw [if_pos (sto_lcl h), hi]
theorem ix_ne {x y : Str} {i j : Nat} (h1 : ixOf N x = some i) (h2 : ixOf N y = some j) (hn : x ≠ y) : i ≠ j := by
  intro e
  subst e
  exact hn (ixOf_inj h1 h2)
theorem sasg_bad {g : TgM} {st : Stmt} : PS X st (tS X W (sAsg g eBad)) := ⟨fun _ _ _ _ _ _ ⟨_, _, _, _, _, _, h⟩ => h.elim⟩
section
variable {n : Nat} {elt ctg iter : Expr} {ifs : List Expr} {scope : Scope} {cpos : Pos}
theorem if_pos_comp (hc : noSet iter = true ∧ blkC N sc scope (ownOf N scope) = true ∧ (jsG N 3 ctg).all (fun i => ((ownOf N scope).map (·.2)).contains i) = true ∧ ifs.length ≤ 1 ∧ ifs.all (okT n) = true) :
    denE G N (n + 1) sc fc (.ListComp elt [⟨ctg, iter, ifs, 0⟩] scope cpos) = (if G.md cpos = true then
      eCompR ((ownOf N scope).map (·.2)) (denI (denE G N n sc fc) G sc ctg iter) (denG (denE G N n (relS scope sc) fun x => scope.names.lookup x == some .cell) N (relS scope sc) (fun x => scope.names.lookup x == some .cell) 3 ctg) (ifs.map (denE G N n (relS scope sc) fun x => scope.names.lookup x == some .cell)) (denE G N n (relS scope sc) (fun x => scope.names.lookup x == some .cell) elt)
      else eComp ((ownOf N scope).map (·.2)) (denI (denE G N n sc fc) G sc ctg iter) (denG (denE G N n (relS scope sc) fun x => scope.names.lookup x == some .cell) N (relS scope sc) (fun x => scope.names.lookup x == some .cell) 3 ctg) (ifs.map (denE G N n (relS scope sc) fun x => scope.names.lookup x == some .cell)) (denE G N n (relS scope sc) (fun x => scope.names.lookup x == some .cell) elt)) := if_pos hc
theorem if_neg_comp (hc : ¬ (noSet iter = true ∧ blkC N sc scope (ownOf N scope) = true ∧ (jsG N 3 ctg).all (fun i => ((ownOf N scope).map (·.2)).contains i) = true ∧ ifs.length ≤ 1 ∧ ifs.all (okT n) = true)) :
    denE G N (n + 1) sc fc (.ListComp elt [⟨ctg, iter, ifs, 0⟩] scope cpos) = eBad := if_neg hc
end
theorem asg_ok (g : Gd X W k) (go : GOk X k G) (hk : X.env.scope.kind = .function) (hN : X.N = N) (hsc : X.env.scope = sc) (hfc : X.fn = fc) (n : Nat) {tg e : Expr} {pos : Pos} (ha : okAsg N sc tg e = true)
    (hE : ∀ e, PE X e (tM X W (denE G N (n + 1) sc fc e))) (hG : ∀ e, PG X e (tG X W (jsG N 3 e) (denG (denE G N (n + 1) sc fc) N sc fc 3 e))) : PS X (.Assign [tg] e pos) (tS X W (sAsg (denG (denE G N (n + 1) sc fc) N sc fc 3 tg) (denE G N (n + 1) sc fc e))) := by
  subst hsc
  unfold okAsg at ha
  split at ha
  · rename_i y py elt ctg iter ifs scope cpos
    have sw := swC_ok (elt := elt) (gs := [⟨ctg, iter, ifs, 0⟩]) (scope := scope) (pos := cpos) (py := py) (y := y) (l := pos.line) hk
    cases q : swC X.env.scope y py scope cpos with
    | false =>
      rw [q] at sw
      exact asg_plain (hE _) (hG _) sw (swst_no rfl) rfl
    | true =>
      rw [q] at sw ha
      obtain ⟨l1, i, l2⟩ := lcl_of (show isLcl N X.env.scope y = true from ha)
      rw [denG_name (n := 2) l1 l2]
      by_cases hc : noSet iter = true ∧ blkC N X.env.scope scope (ownOf N scope) = true ∧ (jsG N 3 ctg).all (fun i => ((ownOf N scope).map (·.2)).contains i) = true ∧ ifs.length ≤ 1 ∧ ifs.all (okT n) = true
      · have P := comp_parts (elt := elt) (denE_ok (G := G) (N := N) n) g go hN rfl hfc hc
        have ee := ss_setLc (G.md cpos) g.calm g.nd (by rw [hN]; exact ixOf_get l2) l1 sw P.hi P.bo P.js P.tgt P.tests P.elt_ P.hs
        exact PS.imp ee fun D σ H h => by rw [if_pos_comp hc] at h; exact h
      · rw [if_neg_comp hc]
        exact sasg_bad
  · rename_i ts k1 p1 vs k2 p2
    split at ha
    · rename_i hw
      exact asg_plain (hE _) (hG _) (swaps_no rfl) (swN_ok hk hw) rfl
    · rename_i names hw
      split at ha
      · rename_i x px y py a b
        simp only [Bool.and_eq_true, decide_eq_true_eq] at ha
        obtain ⟨⟨⟨⟨⟨e1, e2⟩, e3⟩, e4⟩, e5⟩, e6⟩ := ha
        subst e1
        obtain ⟨l1, i, i1⟩ := lcl_of e2
        obtain ⟨l2, j, j1⟩ := lcl_of e3
        have eg : denG (denE G N (n + 1) X.env.scope fc) N X.env.scope fc 3 (.Tuple [.Name x px, .Name y py] k1 p1) = gT [gN i, gN j] := by
          show (if (([.Name x px, .Name y py] : List Expr).all plainArg = true) then gT [denG (denE G N (n + 1) X.env.scope fc) N X.env.scope fc 2 (.Name x px), denG (denE G N (n + 1) X.env.scope fc) N X.env.scope fc 2 (.Name y py)] else fun _ _ _ => .bad) = _
          rw [denG_name (n := 1) l1 i1, denG_name (n := 1) l2 j1]
          exact if_pos rfl
        have s2 : starEach [b] X.env = (false, eval b X.env) :: starEach [] X.env := star_cons e6
        have s1 : starEach [a, b] X.env = (false, eval a X.env) :: starEach [b] X.env := star_cons e5
        have ee : denE G N (n + 1) X.env.scope fc (.Tuple [a, b] k2 p2) = eTup [denE G N n X.env.scope fc a, denE G N n X.env.scope fc b] := by
          show (if (([a, b] : List Expr).all plainArg = true) then eTup [denE G N n X.env.scope fc a, denE G N n X.env.scope fc b] else eBad) = _
          exact if_pos (by simp [e5, e6])
        rw [eg, ee]
        have hn := fun e => (denE_ok n X W k X.env.scope fc g go hN rfl hfc e).1
        exact ss_par g.calm g.nd (by rw [hN]; exact ixOf_get i1) (by rw [hN]; exact ixOf_get j1) (ix_ne i1 j1 e4) l1 l2 (sa_cons (hn a) (sa_cons (hn b) sa_nil s2) s1) (swN_ok hk hw) rfl
      · rename_i x px y py z pz a b c
        simp only [Bool.and_eq_true, decide_eq_true_eq] at ha
        obtain ⟨⟨⟨⟨⟨⟨⟨⟨⟨e1, e2⟩, e3⟩, e4⟩, e5⟩, e6⟩, e7⟩, e8⟩, e9⟩, e10⟩ := ha
        subst e1
        obtain ⟨l1, i, i1⟩ := lcl_of e2
        obtain ⟨l2, j, j1⟩ := lcl_of e3
        obtain ⟨l3, l, r1⟩ := lcl_of e4
        have eg : denG (denE G N (n + 1) X.env.scope fc) N X.env.scope fc 3 (.Tuple [.Name x px, .Name y py, .Name z pz] k1 p1) = gT [gN i, gN j, gN l] := by
          show (if (([.Name x px, .Name y py, .Name z pz] : List Expr).all plainArg = true) then gT [denG (denE G N (n + 1) X.env.scope fc) N X.env.scope fc 2 (.Name x px), denG (denE G N (n + 1) X.env.scope fc) N X.env.scope fc 2 (.Name y py), denG (denE G N (n + 1) X.env.scope fc) N X.env.scope fc 2 (.Name z pz)] else fun _ _ _ => .bad) = _
          rw [denG_name (n := 1) l1 i1, denG_name (n := 1) l2 j1, denG_name (n := 1) l3 r1]
          exact if_pos rfl
        have s3 : starEach [c] X.env = (false, eval c X.env) :: starEach [] X.env := star_cons e10
        have s2 : starEach [b, c] X.env = (false, eval b X.env) :: starEach [c] X.env := star_cons e9
        have s1 : starEach [a, b, c] X.env = (false, eval a X.env) :: starEach [b, c] X.env := star_cons e8
        have ee : denE G N (n + 1) X.env.scope fc (.Tuple [a, b, c] k2 p2) = eTup [denE G N n X.env.scope fc a, denE G N n X.env.scope fc b, denE G N n X.env.scope fc c] := by
          show (if (([a, b, c] : List Expr).all plainArg = true) then eTup [denE G N n X.env.scope fc a, denE G N n X.env.scope fc b, denE G N n X.env.scope fc c] else eBad) = _
          exact if_pos (by simp [e8, e9, e10])
        rw [eg, ee]
        have hn := fun e => (denE_ok n X W k X.env.scope fc g go hN rfl hfc e).1
        exact ss_par3 g.calm g.nd (by rw [hN]; exact ixOf_get i1) (by rw [hN]; exact ixOf_get j1) (by rw [hN]; exact ixOf_get r1) (ix_ne i1 j1 e5) (ix_ne i1 r1 e6) (ix_ne j1 r1 e7) l1 l2 l3 (sa_cons (hn a) (sa_cons (hn b) (sa_cons (hn c) sa_nil s3) s2) s1) (swN_ok hk hw) rfl
      · cases ha
    · cases ha
  · exact asg_plain (hE _) (hG _) (swaps_no ha) (swst_no rfl) rfl
  · exact asg_plain (hE _) (hG _) (swaps_no ha) (swst_no rfl) rfl
  · obtain ⟨h1, h2⟩ := Bool.and_eq_true_iff.mp ha
    exact asg_plain (hE _) (hG _) (swaps_no h1) (swst_no2 h2) rfl
  · cases ha
/-- THE RULE for statements -/
theorem denS_ok (g : Gd X W k) (go : GOk X k G) (po : PassesOwn (model X.prog X.w) X.A X.env X.xe) (hk : X.env.scope.kind = .function) (hN : X.N = N) (hsc : X.env.scope = sc) (hfc : X.fn = fc) : ∀ (n : Nat) (s : Stmt), PS X s (tS X W (denS G N sc fc n s)) := by
  have hE : ∀ e, PE X e (tM X W (denE G N 40 sc fc e)) := fun e => (denE_ok 40 X W k sc fc g go hN hsc hfc e).1
  have hT : ∀ e, okT 40 e = true → PT X e (tT X W (denE G N 40 sc fc e)) := fun e => (denE_ok 40 X W k sc fc g go hN hsc hfc e).2
  have hG : ∀ e, PG X e (tG X W (jsG N 3 e) (denG (denE G N 40 sc fc) N sc fc 3 e)) := fun e => denG_ok (by have := room65 g; omega) g.calm g.nd hN hsc hfc hE 3 e
  intro n
  induction n with
  | zero => intro s; exact ss_bad
  | succ n ih =>
    intro s
    unfold denS
    split
    · rename_i tg e pos
      split
      · rename_i ha
        exact asg_ok g go hk hN hsc hfc 39 ha hE hG
      · exact ss_bad
    · rename_i x p e pos
      split
      · rename_i hs
        obtain ⟨l1, l2⟩ := sto_of hs
        split
        · rename_i i hi
          exact ss_aug g.nd (by rw [hN]; exact ixOf_get hi) (by rw [hsc]; exact l1) (hE e) ip_plus rel_addI (by rw [hfc, hsc]; exact l2)
        · exact ss_bad
      · exact ss_bad
    · split
      · rename_i hc; exact ss_if (hT _ hc) (body_ok fun s _ => ih s) (body_ok fun s _ => ih s)
      · exact ss_bad
    · rename_i tg it body pos
      split
      · rename_i hc; exact ss_for po g.calm (denI_ok go hsc hE) (hG tg) (body_ok fun s _ => ih s) (no_set hc)
      · exact ss_bad
    · split
      · rename_i hc; exact ss_while po (hT _ hc) (body_ok fun s _ => ih s)
      · exact ss_bad
    · exact ss_ret (hE _)
    · exact ss_retN
    · split
      · rename_i hc; exact ss_expr (hE _) (swaps_no hc)
      · exact ss_bad
    · exact ss_pass
    · exact ss_break
    · exact ss_cont
    · split
      · rename_i hc; exact raise_ok g go (glo_of hsc hc.1) hc.2.1 hc.2.2
      · exact ss_bad
    · exact ss_bad
end
end Mn

namespace Mn
open PySem PySem.Spec PyProof.Rows L2

/-! ### a def, by its text -/
/-- what is known of a def, apart from a context -/
structure CalK (P : Program) (w : World) (K : PySem.W.Frag) (mg : Str → Option Value) (base : Heap) (k : Nat) (x : Str) (many : Nat) (m : List D → Store → Res D) : Prop where
  ex : ∃ (f : Addr) (fd : FuncData) (ps : List Str), mg x = some (.ref f) ∧ PySem.W.keepIn K (.ref f) = true ∧ Binds K fd ps [] ∧ FnG P w K mg base (L2.CX P w) k f fd ps (spM K mg many m)
theorem CalK.mono {P : Program} {w : World} {K : PySem.W.Frag} {mg : Str → Option Value} {base : Heap} {j k : Nat} {x : Str} {many : Nat} {m : List D → Store → Res D} (c : CalK P w K mg base j x many m) (h : j ≤ k) : CalK P w K mg base k x many m :=
  let ⟨f, fd, ps, h1, h2, h3, h4⟩ := c.ex
  ⟨f, fd, ps, h1, h2, h3, h4.mono h⟩
/-- the module's own facts -/
structure MK (K : PySem.W.Frag) (mg : Str → Option Value) (con : Str → Option D) (exc : Str → Bool) : Prop where
  con : ∀ x d, con x = some d → ∃ v u, mg x = some u ∧ RelV v u ∧ ∀ α Z H, HasD K α Z H v d
  blt : ∀ x ∈ bltN, mg x = none
  exc : ∀ x, exc x = true → ∃ C, mg x = some (.ref C) ∧ PySem.W.excIn K C He.veBase "ValueError.__new__" = true ∧ PySem.W.keepIn K (.ref C) = true ∧ PySem.W.subIn K (.ref C) (.type "BaseException") = some true ∧ PySem.W.typeIn K (.ref C) = some (.type "type")
def fsC (N P : List Str) (sc : Scope) : Bool := (match sc.kind with | .function => true | _ => false) && !sc.isCoroutine && !sc.isGenerator && decide N.Nodup && decide (N.take P.length = P) &&
  (P.all fun x => decide (sc.names.lookup x = some .local) || decide (sc.names.lookup x = some .cell)) && (sc.names.all fun y => !(y.2 == .free))
theorem fs_of {N P : List Str} {sc : Scope} (h : fsC N P sc = true) : FnScope N P sc := by
  unfold fsC at h
  simp only [Bool.and_eq_true, Bool.not_eq_true', decide_eq_true_eq, List.all_eq_true, Bool.or_eq_true] at h
  obtain ⟨⟨⟨⟨⟨⟨h1, h2⟩, h3⟩, h4⟩, h5⟩, h6⟩, h7⟩ := h
  refine ⟨?_, h2, h3, h4, h5, h6, fun y m e => ?_⟩
  · split at h1
    · assumption
    · cases h1
  · have := h7 y m
    rw [e] at this
    cases this
theorem def_fn {P : Program} {w : World} {K : PySem.W.Frag} {mg : Str → Option Value} {base : Heap} {k : Nat} {x qual : Str} {params : Arguments} {body : List Stmt} {scope : Scope} {f : Addr} {fd : FuncData} {N ps : List Str} {G : Gls} {many : Nat} {m : S}
    (F : FunD K x qual params body scope [] [] f fd) (hs : fsC N ps scope = true) (hb : Binds K fd ps []) (hM : MK K mg G.con G.exc) (hn : ps.length = many) (hG : ∀ y n g, G.fn y = some (n, g) → CalK P w K mg base k y n g) (hm : denB G N scope (fun _ => true) body = m) :
    FnG P w K mg base (L2.CX P w) (k + 1) f fd ps (spM K mg many (fnM N.length m)) := by
  obtain ⟨oc, od, dV, kV, doc, pm, an, cdv, ct, osl, rfl, lk, hcd, _, _⟩ := F.ex
  have S := fs_of hs
  have len : ∀ vs H Q E, spM K mg many (fnM N.length m) vs H Q E → vs.length = ps.length := fun vs H Q E h => h.1.trans hn.symm
  refine ⟨len, fun A outer s H args us vs Q E hr hgd e0 hbd r hsp => ?_⟩
  have hl := len _ _ _ _ hsp
  have KX : K.In s.heap := e0.mod.kin.keeps fun b o e => (e0.bs b o e).1
  have lim : s.heap.NoLimit := e0.mod.nolimit.keeps fun b o e => (e0.bs b o e).1
  have hkind : ∀ y ∈ ps.zip us, scope.names.lookup y.1 = some .local ∨ (scope.names.lookup y.1 = some .cell ∧ ((cellsFrom (s.heap.objs.size + 1) scope.names []).lookup y.1).isSome = true) := fun ⟨n, v⟩ hy =>
    (S.par n (List.of_mem_zip hy).1).elim .inl fun q => .inr ⟨q, PySem.W.cellsFrom_some _ _ _ (.inl q)⟩
  refine codeAny_call_function hr.depth (KX _ _ lk) rfl S.co S.gen rfl (PySem.W.codeRec_of KX hcd) (hbd _ _ _ _ (wpAny_newFunctionEnv_cells S.kind hkind fun env he s1 ic => ?_))
  subst he
  refine ⟨lim.keeps ic.toInCall.keep, codeAny_func ?_⟩
  have I : Inv (cxOf (L2.CX P w) P w K mg base N qual scope f cdv A outer s H E) [] (start N vs) H s1 := inv_start S hr.hd e0 hl r ic
  have g : Gd (cxOf (L2.CX P w) P w K mg base N qual scope f cdv A outer s H E) (fun cls d _ H => E cls d H) k := ⟨hr.deeper _, rfl, S.nd, takes_of rfl rfl rfl rfl, hgd⟩
  have go : GOk (cxOf (L2.CX P w) P w K mg base N qual scope f cdv A outer s H E) k G := ⟨hM.con, fun y n gg h => ⟨(hG y n gg h).ex⟩, hM.blt, hM.exc⟩
  have B : PSs (cxOf (L2.CX P w) P w K mg base N qual scope f cdv A outer s H E) body (tS (cxOf (L2.CX P w) P w K mg base N qual scope f cdv A outer s H E) (fun cls d _ H => E cls d H) m) := by
    rw [← hm]
    exact body_ok fun st _ => denS_ok g go (passes_of rfl) S.kind rfl rfl rfl 20 st
  obtain ⟨hvl, α, Z, st, ds, wd, hall, hres⟩ := hsp
  have hstart : Sl K α Z H (start N vs) (ds.map some ++ List.replicate (N.length - ds.length) none) := by
    refine ⟨?_, fun i d e => ?_⟩
    · unfold L2.start
      simp only [List.length_append, List.length_map, List.length_replicate, hall.length]
    · by_cases hi : i < ds.length
      · rw [List.getElem?_append_left (by simpa using hi), List.getElem?_map] at e
        cases q : ds[i]? with
        | none => rw [q] at e; cases e
        | some d' =>
          rw [q] at e
          cases e
          obtain ⟨v, hv1, hv2⟩ := hall.get q
          refine ⟨v, ?_, hv2⟩
          unfold L2.start
          rw [List.getElem?_append_left (by rw [List.length_map, hall.length]; exact hi), List.getElem?_map, hv1]
          rfl
      · rw [List.getElem?_append_right (by simp; omega), List.getElem?_replicate] at e
        split at e <;> cases e
  have reading : tS (cxOf (L2.CX P w) P w K mg base N qual scope f cdv A outer s H E) (fun cls d _ H => E cls d H) m { nx := fun _ H' => Q .non H', rt := Q } (start N vs) H := by
    refine ⟨α, Z, _, st, wd, hstart, ?_⟩
    unfold fnM at hres
    cases q : m (ds.map some ++ List.replicate (N.length - ds.length) none) st with
    | rt d s' => rw [q] at hres; exact hres
    | nx en s' => rw [q] at hres; exact fun α' H' σ' e w' _ => hres α' H' .non e w' .non
    | exc c en s' => rw [q] at hres; exact fun α' H' σ' cls e w' _ hc => hres α' H' cls e w' hc
    | bk en s' => rw [q] at hres; exact hres.elim
    | ct en s' => rw [q] at hres; exact hres.elim
    | bad => rw [q] at hres; exact hres.elim
  refine wpAny_mono (B.run [] s1 (start N vs) H _ I reading) (fun fl s' h => ?_) fun e s' h => h
  match fl, h with
  | .ret u, ⟨v, σ', H', J, rv, q⟩ => exact ⟨v, H', J.os, J.bare, J.base, J.hok, rv, q⟩
  | .next, ⟨σ', H', J, q⟩ => exact ⟨.non, H', J.os, J.bare, J.base, J.hok, rfl, q⟩
  | .brk, ⟨_, _, _, q⟩ => exact q.elim
  | .cont, ⟨_, _, _, q⟩ => exact q.elim
theorem def_ok {P : Program} {w : World} {K : PySem.W.Frag} {mg : Str → Option Value} {base : Heap} {k : Nat} {x qual : Str} {params : Arguments} {body : List Stmt} {scope : Scope} {f : Addr} {fd : FuncData} {N ps : List Str} {G : Gls} {many : Nat} {m : S}
    (F : FunD K x qual params body scope [] [] f fd) (hs : fsC N ps scope = true) (hb : Binds K fd ps []) (hmg : mg x = some (.ref f)) (hM : MK K mg G.con G.exc) (hn : ps.length = many) (hG : ∀ y n g, G.fn y = some (n, g) → CalK P w K mg base k y n g) (hm : denB G N scope (fun _ => true) body = m) :
    CalK P w K mg base (k + 1) x many (fnM N.length m) :=
  ⟨f, fd, ps, hmg, F.kp, hb, def_fn F hs hb hM hn hG hm⟩
/-! ### a def whose own things nobody holds any more -/
section
variable {K : PySem.W.Frag} {α β Z : List Addr} {H : Hp}
mutual
theorem low_has : ∀ {v : V} {d : D}, HasD K (α ++ β) Z H v d → lowD α.length d = true → HasD K α Z H v d
  | _, _, .non, _ => .non
  | _, _, .bl b, _ => .bl b
  | _, _, .int i, _ => .int i
  | _, _, .str x, _ => .str x
  | _, .tup ds, .tup s h, e => .tup s (low_all h (by rw [lowD] at e; exact e))
  | _, .lst ds, .lst s n z h, e => .lst s (fun q => n (List.mem_append_left _ q)) z (low_all h (by rw [lowD] at e; exact e))
  | _, .scr ds, .scr s h, e => .scr s (low_all h (by rw [lowD] at e; exact e))
  | _, .ref n, .ref h, e => .ref (by
      rw [lowD] at e
      rw [List.getElem?_append_left (of_decide_eq_true e)] at h
      exact h)
theorem low_all : ∀ {vs : List V} {ds : List D}, HasAll K (α ++ β) Z H vs ds → lowDs α.length ds = true → HasAll K α Z H vs ds
  | _, _, .nil, _ => .nil
  | _, _, .cons h r, e => by
    rw [lowDs, Bool.and_eq_true] at e
    exact .cons (low_has h e.1) (low_all r e.2)
end
theorem low_cell {a : Addr} {o : O} (c : Cell K (α ++ β) Z H a o) (e : lowO α.length o = true) : Cell K α Z H a o := by
  cases o with
  | lst ds => obtain ⟨xs, h1, h2⟩ := c; exact ⟨xs, h1, low_all h2 e⟩
  | dct kvs => obtain ⟨ws, h1, h2, h3⟩ := c; exact ⟨ws, h1, h2, low_all h3 e⟩
theorem wd_take {st : Store} (w : Wd K (α ++ β) Z H st) (e : (st.take α.length).all (lowO α.length) = true) : Wd K α Z H (st.take α.length) := by
  have hl := w.len
  rw [List.length_append] at hl
  refine ⟨by rw [List.length_take]; omega, (List.nodup_append.mp w.nd).1, fun z m k => w.dis z m (List.mem_append_left _ k), w.zl, fun n a o h1 h2 => ?_⟩
  have hn : n < α.length := (List.getElem?_eq_some_iff.mp h1).1
  rw [List.getElem?_take_of_lt hn] at h2
  refine low_cell (w.cell n a o (by rw [List.getElem?_append_left hn]; exact h1) h2) ?_
  refine List.all_eq_true.mp e o ?_
  rw [List.mem_iff_getElem?]
  exact ⟨n, by rw [List.getElem?_take_of_lt hn]; exact h2⟩
mutual
theorem seal_has {st : Store} (w : Wd K (α ++ β) Z H st) : ∀ {v : V} {d d' : D}, HasD K (α ++ β) Z H v d → sealD α.length st d = some d' → HasD K α Z H v d'
  | _, _, _, .non, e => by cases e; exact .non
  | _, _, _, .bl b, e => by cases e; exact .bl b
  | _, _, _, .int i, e => by cases e; exact .int i
  | _, _, _, .str x, e => by cases e; exact .str x
  | _, .tup ds, d', .tup s h, e => by
    have e' : (sealDs α.length st ds).map D.tup = some d' := by rw [sealD] at e; exact e
    cases q : sealDs α.length st ds with
    | none => rw [q] at e'; cases e'
    | some ds' => rw [q] at e'; cases e'; exact .tup s (seal_all w h q)
  | _, .lst ds, _, .lst s n z h, e => by
    rw [sealD] at e
    split at e
    · rename_i hl; cases e; exact .lst s (fun q => n (List.mem_append_left _ q)) z (low_all h hl)
    · cases e
  | _, .scr ds, _, .scr s h, e => by
    rw [sealD] at e
    split at e
    · rename_i hl; cases e; exact .scr s (low_all h hl)
    · cases e
  | _, .ref k, _, @HasD.ref _ _ _ _ a _ h, e => by
    rw [sealD] at e
    split at e
    · rename_i hk
      cases e
      rw [List.getElem?_append_left hk] at h
      exact .ref h
    · rename_i hk
      split at e
      · rename_i ds e2
        split at e
        · rename_i hl
          cases e
          obtain ⟨xs, c1, c2⟩ := w.cell k a _ h e2
          have ha : a ∈ β := by
            rw [List.getElem?_append_right (by omega)] at h
            exact List.mem_of_getElem? h
          refine .lst c1 (fun q => ?_) (fun q => ?_) (low_all c2 hl)
          · exact (List.nodup_append.mp w.nd).2.2 a q a ha rfl
          · exact w.dis a q (List.mem_append_right _ ha)
        · cases e
      · cases e
theorem seal_all {st : Store} (w : Wd K (α ++ β) Z H st) : ∀ {vs : List V} {ds ds' : List D}, HasAll K (α ++ β) Z H vs ds → sealDs α.length st ds = some ds' → HasAll K α Z H vs ds'
  | _, _, _, .nil, e => by cases e; exact .nil
  | _, d :: ds, _, .cons h r, e => by
    rw [sealDs] at e
    split at e
    · rename_i d' ds' e1 e2
      cases e
      exact .cons (seal_has w h e1) (seal_all w r e2)
    · cases e
end
end
theorem sp_seal {K : PySem.W.Frag} {mg : Str → Option Value} {many : Nat} {m : List D → Store → Res D} {vs : List V} {H : Hp} {Q : VK} {E : XK} (h : spM K mg many (sealF m) vs H Q E) : spM K mg many m vs H Q E := by
  obtain ⟨hl, α, Z, st, ds, wd, hall, hres⟩ := h
  refine ⟨hl, α, Z, st, ds, wd, hall, ?_⟩
  unfold sealF at hres
  cases q : m ds st with
  | bad => rw [q] at hres; exact hres
  | exc c s' => rw [q] at hres; exact hres
  | ok d s' =>
    rw [q] at hres
    intro α' H' v ex w' hv
    obtain ⟨β, rfl, hb⟩ := ex.grow
    have hres : (match (if (s'.take st.length).all (lowO st.length) = true then (match sealD st.length s' d with
      | some d' => .ok d' (s'.take st.length)
      | none => .bad) else .bad : Res D) with
      | .ok d s => ∀ α' H' v, Ext α H α' H' → Wd K α' Z H' s → HasD K α' Z H' v d → Q v H'
      | .exc c s => ∀ α' H' cls, Ext α H α' H' → Wd K α' Z H' s → mg c = some cls → E cls none H'
      | .bad => False) := hres
    rw [← wd.len] at hres
    split at hres
    · rename_i d2 s2 eq
      split at eq
      · rename_i hlow
        cases hd : sealD α.length s' d with
        | none => rw [hd] at eq; cases eq
        | some d' =>
          rw [hd] at eq
          cases eq
          exact hres α H' v ⟨⟨[], by simp, by simp⟩, ex.live, ex.tup, ex.frz, ex.lst⟩ (wd_take w' hlow) (seal_has w' hv hd)
      · cases eq
    · rename_i eq
      split at eq
      · cases hd : sealD α.length s' d with
        | none => rw [hd] at eq; cases eq
        | some d' => rw [hd] at eq; cases eq
      · cases eq
    · exact hres.elim
theorem CalK.seal {P : Program} {w : World} {K : PySem.W.Frag} {mg : Str → Option Value} {base : Heap} {k : Nat} {x : Str} {many : Nat} {m : List D → Store → Res D} (c : CalK P w K mg base k x many m) : CalK P w K mg base k x many (sealF m) := by
  obtain ⟨f, fd, ps, h1, h2, h3, h4⟩ := c.ex
  exact ⟨f, fd, ps, h1, h2, h3, ⟨fun vs H Q E h => h4.len vs H Q E (sp_seal h), fun A outer s H args us vs Q E hr hgd e0 hbd r hsp => h4.run A outer s H args us vs Q E hr hgd e0 hbd r (sp_seal hsp)⟩⟩
/-! ### the law's own call -/
/-- the script's list, as the small machine has it -/
theorem ints_all {K : PySem.W.Frag} {H : Hp} : ∀ ns : List Int, HasAll K [] [] H (ns.map V.int) (ns.map D.int)
  | [] => .nil
  | n :: ns => .cons (.int n) (ints_all ns)
theorem scr_has {K : PySem.W.Frag} {H : Hp} {a : Addr} {ns : List Int} (hO : Only H) (hS : SqL K H a (ns.map V.int)) : HasD K [] [] H (.ref a) (.scr (ns.map D.int)) := by
  refine .scr (fun H' y => ?_) (ints_all ns)
  rcases hS with (h | ⟨o, h⟩) | h
  · rcases hO a with z | ⟨o, xs, z⟩ <;> rw [h] at z <;> cases z
  · exact .inl (.inr ⟨o, y a o _ h⟩)
  · exact .inr h
theorem wd_nil {K : PySem.W.Frag} {H : Hp} : Wd K [] [] H [] := ⟨rfl, List.nodup_nil, fun _ h => (by cases h), fun _ h => (by cases h), fun n a o h => (by cases h)⟩
theorem law_sp {K : PySem.W.Frag} {mg : Str → Option Value} {m : List D → Store → Res D} (hT : Truly m) {H : Hp} {a : Addr} {ns : List Int} (hl : ns.length ≤ 63) (hO : Only H) (hS : SqL K H a (ns.map V.int)) : spM K mg 1 m [.ref a] H (fun v _ => v = .bl true) fun _ _ _ => False := by
  obtain ⟨st, e⟩ := hT ns hl
  refine ⟨rfl, [], [], [], [.scr (ns.map .int)], wd_nil, .cons (scr_has hO hS) .nil, ?_⟩
  rw [e]
  intro α' H' v _ _ h
  cases h
  rfl
/-- THE HEAD, for such a def: as the layer's own, run at the caller alone -/
theorem law_run {P : Program} {w : World} {K : PySem.W.Frag} {mg mb : Str → Option Value} {k : Nat} {fa a : Addr} {fd : FuncData} {x : Str} {sp : Sp} {s₁ : Shared} {vs : List Value} {ns : List Int}
    (KX : K.In s₁.heap) (hns : s₁.heap.Ns mainGlobals mg) (hb : s₁.heap.Ns builtinsNs mb) (hbb : ∀ x : Str, x ≠ "__name__" → mb x = bootBuiltins x) (hlim : s₁.heap.NoLimit) (hg : s₁.gens = #[])
    (ha : s₁.heap.get? a = some { cls := .type "list", data := .seq vs.toArray }) (hi : IntsAre vs ns) (hl : ns.length ≤ 63) (hr : Room k callerA)
    (F : ∀ base : Heap, K.In base → base.Ns mainGlobals mg → FnG P w K mg base (L2.CX P w) k fa fd [x] sp) (hbind : ∀ (s : Shared) (u : Value), BindsTo s fd ⟨[u], []⟩ [(x, u)])
    (hsp : ∀ H : Hp, Only H → SqL K H a (ns.map V.int) → sp [.ref a] H (fun v _ => v = .bl true) fun _ _ _ => False) :
    codeAny (model P w) callerA (.call (.ref fa) ⟨[.ref a], []⟩) (fun r s' => r = .ok (.ret (.bool true)) ∧ OldK s₁.heap s'.heap ∧ s'.os = s₁.os ∧ AllBare s'.gens) s₁ := by
  have rv := vals_ints hi
  have lenV := hi.length
  have sl : sizeLine = 16777216 := sizeLine_eq
  have core : ∀ H : Hp, Only H → SqL K H a (ns.map V.int) → HOk P w H s₁.heap → (∀ b, H b ≠ none → b = a) → (H a ≠ none → K.lookup a = none) →
      codeAny (model P w) callerA (.call (.ref fa) ⟨[.ref a], []⟩) (fun r s' => r = .ok (.ret (.bool true)) ∧ OldK s₁.heap s'.heap ∧ s'.os = s₁.os ∧ AllBare s'.gens) s₁ := by
    intro H hO hS hok hA hK
    have one : ∀ {b : Addr} {o : Obj} {es : Array DictEntry} {ep : Nat}, s₁.heap.get? b = some o → o.data = .dict es ep → H b = none := fun {b o es ep} e d => by
      rcases Option.eq_none_or_eq_some (H b) with q | ⟨u, q⟩
      · exact q
      · exfalso
        have eb := hA b (by rw [q]; simp)
        rw [eb, ha] at e
        cases e
        cases d
    have ns_ : ∀ {b : Addr} {m : Str → Option Value}, s₁.heap.Ns b m → (hidT s₁.heap H).Ns b m := fun {b m} ⟨o, es, ep, e, d, r⟩ => ⟨o, es, ep, hidT_get e (one e d), d, r⟩
    have kin : K.In (hidT s₁.heap H) := fun b o e => hidT_get (KX b o e) (by
      rcases Option.eq_none_or_eq_some (H b) with q | ⟨u, q⟩
      · exact q
      · exfalso
        have eb := hA b (by rw [q]; simp)
        rw [eb] at e q
        rw [hK (by rw [q]; simp)] at e
        cases e)
    have md : Mod K mg (hidT s₁.heap H) := ⟨kin, ns_ hns, ⟨mb, ns_ hb, hbb⟩, let ⟨mc, h1, h2⟩ := hlim; ⟨mc, ns_ h1, h2⟩⟩
    have e0 : Env0 P w K mg (hidT s₁.heap H) callerA [] s₁ H := ⟨rfl, md, fun b o e => of_hidT e, Nat.le_of_eq (hidT_size _ _), trivial, fun b hb => (by cases hb), hok, .of_eq hg⟩
    refine codeAny_mono ((F _ kin (ns_ hns)).run callerA [] s₁ H ⟨[.ref a], []⟩ [.ref a] [.ref a] _ _ hr rfl e0 (hbind s₁ (.ref a)) (.cons rfl .nil) (hsp H hO hS)) fun r s' h => ?_
    match r, h with
    | .error e, h =>
      obtain ⟨_, _, _, _, _, _, _, _, _, _, _, _, w0⟩ := h
      exact w0.elim
    | .ok (.ret u), ⟨v, H', os, bare, un, hok', r', q⟩ =>
      have q' : v = .bl true := q
      subst q'
      cases (show u = Value.bool true from r')
      refine ⟨rfl, OldK.of_keep fun b o e => ?_, os, bare⟩
      rcases hO b with q | ⟨ob, xs, q⟩
      · exact un.keep b o e q (fun z => by cases z) (fun z => by cases z)
      · obtain ⟨e1, _⟩ := hok b _ q
        obtain ⟨e2, _⟩ := hok' b _ (un.frzs b ob _ q)
        rw [e] at e1
        cases e1
        exact e2
  cases hk : K.lookup a with
  | some o =>
    have e := KX a o hk
    rw [ha] at e
    cases e
    exact core (fun _ => none) (fun _ => .inl rfl) (.inr ⟨_, vs.toArray, _, hk, rfl, rfl, rfl, by rw [List.size_toArray, lenV]; omega, by simpa using rv⟩) (fun b u z => by cases z) (fun b z => absurd rfl z) fun z => absurd rfl z
  | none =>
    have ea : ∀ b : Addr, (if b = a then some (HO.frz { cls := .type "list", data := .seq vs.toArray } (.lst (ns.map V.int))) else none) ≠ none → b = a := fun b z => by
      by_cases hb : b = a
      · exact hb
      · rw [if_neg hb] at z; exact absurd rfl z
    refine core (fun b => if b = a then some (.frz { cls := .type "list", data := .seq vs.toArray } (.lst (ns.map V.int))) else none) (fun b => ?_) (.inl (.inr ⟨_, if_pos rfl⟩)) (fun b u z => ?_) ea fun _ => hk
    · by_cases hb : b = a
      · exact .inr ⟨_, _, if_pos hb⟩
      · exact .inl (if_neg hb)
    · have hb : b = a := ea b fun q => by have z' := q.symm.trans z; cases z'
      subst hb
      have z' := (if_pos rfl).symm.trans z
      cases z'
      exact ⟨ha, by rw [List.length_map]; omega, vs, _, rv, ha⟩
theorem walk_run {l : PySem.W.OpenLaw} {k : Nat} {q : Program} {loose : List Str} {XP : (Str → Option Value) → Heap → Prop} {YP : World → Heap → Prop} {d : DefRec} {x : Str}
    (hn : l.most = some 63) (hdf : d.params.defaults = []) (hr : Room k callerA)
    (F : ∀ (w : World) (mg : Str → Option Value) (fa : Addr) (h : Heap), YP w h → h.Ns mainGlobals mg → mg d.name = some (.ref fa) →
      ∃ (K : PySem.W.Frag) (fd : FuncData) (m : List D → Store → Res D), K.In h ∧ (∀ (s : Shared) (u : Value), BindsTo s fd ⟨[u], []⟩ [(x, u)]) ∧ Truly m ∧ ∀ base : Heap, K.In base → base.Ns mainGlobals mg → FnG l.prog w K mg base (L2.CX l.prog w) k fa fd [x] (spM K mg 1 m)) :
    PySem.W.WalkO q loose XP YP l.row.toRowW d [] (fun f vs => PySem.call f vs) := by
  refine Att.attach_call hn hdf fun w s₀ s₁ mg mb fa o pm cd doc a vs ns G Y ho hd hcd hmg hobj hints hlen hg => ?_
  obtain ⟨K, fd, m, KX, hb, hT, hF⟩ := F w mg fa _ Y G.T.g hmg
  exact law_run KX G.T.g G.T.b G.T.builtins G.T.nolimit hg hobj hints hlen hr hF hb fun H hO hS => law_sp hT hlen hO hS
end Mn

namespace Mn
open PySem PySem.Spec PyProof.Rows L2

/-! ### a module's constants, by a look at K -/
mutual
def valB (K : PySem.W.Frag) : D → Value → Bool
  | .non, .none => true
  | .bl b, .bool c => b == c
  | .int i, .int j _ => decide (i = j)
  | .str x, .str y _ => decide (x = y)
  | .tup ds, .ref a => (match K.lookup a with
    | some ⟨.type c, _, .seq its _, _⟩ => decide (c = "tuple") && (decide (its.size ≤ sizeLine) && valsB K ds its.toList)
    | _ => false)
  | .scr ds, .ref a => (match K.lookup a with
    | some ⟨.type c, none, .seq its _, _⟩ => decide (c = "list") && (decide (its.size ≤ sizeLine) && valsB K ds its.toList)
    | _ => false)
  | _, _ => false
def valsB (K : PySem.W.Frag) : List D → List Value → Bool
  | [], [] => true
  | d :: ds, u :: us => valB K d u && valsB K ds us
  | _, _ => false
end
mutual
theorem valB_ok {K : PySem.W.Frag} : ∀ (d : D) (u : Value), valB K d u = true → ∃ v, RelV v u ∧ ∀ α Z H, HasD K α Z H v d := by
  intro d u h
  cases d with
  | non => cases u <;> first | exact ⟨.non, rfl, fun _ _ _ => .non⟩ | cases h
  | bl b =>
    cases u with
    | bool c =>
      have e : b = c := by
        have h1 : (b == c) = true := h
        exact eq_of_beq h1
      rw [e]
      exact ⟨.bl c, rfl, fun _ _ _ => .bl c⟩
    | _ => cases h
  | int i =>
    cases u with
    | int j t =>
      have e : i = j := of_decide_eq_true h
      rw [e]
      exact ⟨.int j, ⟨t, rfl⟩, fun _ _ _ => .int j⟩
    | _ => cases h
  | str x =>
    cases u with
    | str y t =>
      have e : x = y := of_decide_eq_true h
      rw [e]
      exact ⟨.str y, ⟨t, rfl⟩, fun _ _ _ => .str y⟩
    | _ => cases h
  | tup ds =>
    cases u with
    | ref a =>
      cases q : K.lookup a with
      | none =>
        unfold valB at h
        rw [q] at h
        cases h
      | some o =>
        obtain ⟨oc, od, dt, osl⟩ := o
        unfold valB at h
        rw [q] at h
        cases oc with
        | type c =>
          cases dt with
          | seq its n =>
            obtain ⟨h1, h2⟩ := He.ba (show (decide (c = "tuple") && (decide (its.size ≤ sizeLine) && valsB K ds its.toList)) = true from h)
            obtain ⟨h3, h4⟩ := He.ba h2
            obtain ⟨vs, r, hv⟩ := valsB_ok ds its.toList h4
            exact ⟨.ref a, rfl, fun α Z H => .tup (.inr ⟨_, its, n, q, congrArg Value.type (of_decide_eq_true h1), rfl, of_decide_eq_true h3, r⟩) (hv α Z H)⟩
          | _ => cases h
        | _ => cases dt <;> cases h
    | _ => cases h
  | scr ds =>
    cases u with
    | ref a =>
      cases q : K.lookup a with
      | none =>
        unfold valB at h
        rw [q] at h
        cases h
      | some o =>
        obtain ⟨oc, od, dt, osl⟩ := o
        unfold valB at h
        rw [q] at h
        cases oc with
        | type c =>
          cases od with
          | some z => cases dt <;> cases h
          | none =>
            cases dt with
            | seq its n =>
              obtain ⟨h1, h2⟩ := He.ba (show (decide (c = "list") && (decide (its.size ≤ sizeLine) && valsB K ds its.toList)) = true from h)
              obtain ⟨h3, h4⟩ := He.ba h2
              obtain ⟨vs, r, hv⟩ := valsB_ok ds its.toList h4
              exact ⟨.ref a, rfl, fun α Z H => .scr (fun H' _ => .inr ⟨_, its, n, q, congrArg Value.type (of_decide_eq_true h1), rfl, rfl, of_decide_eq_true h3, r⟩) (hv α Z H)⟩
            | _ => cases h
        | _ => cases od <;> cases dt <;> cases h
    | _ => cases h
  | lst ds => cases u <;> cases h
  | ref n => cases u <;> cases h
theorem valsB_ok {K : PySem.W.Frag} : ∀ (ds : List D) (us : List Value), valsB K ds us = true → ∃ vs, Vals vs us ∧ ∀ α Z H, HasAll K α Z H vs ds
  | [], [], _ => ⟨[], .nil, fun _ _ _ => .nil⟩
  | [], _ :: _, h => by cases h
  | _ :: _, [], h => by cases h
  | d :: ds, u :: us, h => by
    obtain ⟨h1, h2⟩ := He.ba (show (valB K d u && valsB K ds us) = true from h)
    obtain ⟨v, r, hv⟩ := valB_ok d u h1
    obtain ⟨vs, r', hv'⟩ := valsB_ok ds us h2
    exact ⟨v :: vs, .cons r r', fun α Z H => .cons (hv α Z H) (hv' α Z H)⟩
end
def conB (K : PySem.W.Frag) (p : Str × D) : Bool := match PySem.W.nsIn K mainGlobals p.1 with
  | some (some u) => valB K p.2 u
  | _ => false
theorem conB_ok {K : PySem.W.Frag} {h : Heap} {mg : Str → Option Value} (X : K.In h) (G : h.Ns mainGlobals mg) {p : Str × D} (c : conB K p = true) : ∃ v u, mg p.1 = some u ∧ RelV v u ∧ ∀ α Z H, HasD K α Z H v p.2 := by
  unfold conB at c
  split at c
  · rename_i u e
    obtain ⟨v, r, hv⟩ := valB_ok _ _ c
    exact ⟨v, u, PySem.W.mg_of X G e, r, hv⟩
  · cases c
/-! ### all facts of a module -/
/-- what the head looks at: constants, own errors -/
def exB (cs : List (Str × D)) (K : PySem.W.Frag) : Bool := cs.all (conB K)
theorem find1_in {β : Type} : ∀ {l : List (Str × β)} {x : Str} {b : β}, find1 l x = some b → (x, b) ∈ l
  | [], _, _, h => by cases h
  | (y, c) :: r, x, b, h => by
    unfold find1 at h
    split at h
    · rename_i e; cases h; rw [e]; exact List.mem_cons_self
    · exact List.mem_cons_of_mem _ (find1_in h)
/-- the module of a law, as its head tells it -/
structure ModK (K : PySem.W.Frag) (mg : Str → Option Value) (cs : List (Str × D)) (es : List Str) : Prop where
  con : ∀ p ∈ cs, ∃ v u, mg p.1 = some u ∧ RelV v u ∧ ∀ α Z H, HasD K α Z H v p.2
  blt : ∀ x ∈ bltN, mg x = none
  exc : ∀ x ∈ es, ∃ C, mg x = some (.ref C) ∧ PySem.W.excIn K C He.veBase "ValueError.__new__" = true ∧ PySem.W.keepIn K (.ref C) = true ∧ PySem.W.subIn K (.ref C) (.type "BaseException") = some true ∧ PySem.W.typeIn K (.ref C) = some (.type "type")
theorem ModK.mk_ {K : PySem.W.Frag} {mg : Str → Option Value} {cs cl : List (Str × D)} {es : List Str} {ex : Str → Bool} (c : ModK K mg cs es) (h1 : ∀ p ∈ cl, p ∈ cs) (h2 : ∀ x, ex x = true → x ∈ es) : MK K mg (find1 cl) ex :=
  ⟨fun x d e => c.con (x, d) (h1 _ (find1_in e)), c.blt, fun x e => c.exc x (h2 x e)⟩
/-- the defs that a def calls -/
def CalL (P : Program) (w : World) (K : PySem.W.Frag) (mg : Str → Option Value) (base : Heap) (k : Nat) (l : List (Str × Nat × (List D → Store → Res D))) : Prop := ∀ p ∈ l, CalK P w K mg base k p.1 p.2.1 p.2.2
theorem CalL.nil {P : Program} {w : World} {K : PySem.W.Frag} {mg : Str → Option Value} {base : Heap} {k : Nat} : CalL P w K mg base k [] := fun _ h => nomatch h
theorem CalL.cons {P : Program} {w : World} {K : PySem.W.Frag} {mg : Str → Option Value} {base : Heap} {j k many : Nat} {x : Str} {m : List D → Store → Res D} {l : List (Str × Nat × (List D → Store → Res D))} (c : CalK P w K mg base j x many m) (h : j ≤ k) (r : CalL P w K mg base k l) : CalL P w K mg base k ((x, many, m) :: l) := fun p hp => by
  rcases List.mem_cons.mp hp with e | e
  · rw [e]; exact c.mono h
  · exact r p e
theorem CalL.find {P : Program} {w : World} {K : PySem.W.Frag} {mg : Str → Option Value} {base : Heap} {k : Nat} {l : List (Str × Nat × (List D → Store → Res D))} (c : CalL P w K mg base k l) : ∀ y n g, find1 l y = some (n, g) → CalK P w K mg base k y n g := fun _ _ _ e => c _ (find1_in e)
/-- a def of the top, by its text: what the head tells, and what it means -/
abbrev FnP (K : PySem.W.Frag) (x : Str) (st : Stmt) (f : Addr) (fd : FuncData) : Prop := FunD K x x (defArgs st) (defBody st) (defScope st) [] [] f fd
abbrev defD (x : Str) (st : Stmt) : He.DefD := ⟨(x, none), x, x, defArgs st, defBody st, defScope st, [], []⟩
def excL (es : List Str) (x : Str) : Bool := es.any fun y => decide (x = y)
theorem excL_ok {es : List Str} {x : Str} (h : excL es x = true) : x ∈ es := by
  obtain ⟨y, m, e⟩ := List.any_eq_true.mp h
  rw [of_decide_eq_true e]
  exact m
def freeF : List He.Fa := bltN.map He.Fa.free
/-- what the head is asked: the defs' names, own errors -/
def faOf (gl es : List Str) : List He.Fa := (gl.map He.Fa.glo ++ freeF) ++ (es.map He.Fa.exc ++ es.map He.Fa.glo)
/-- all that the head tells -/
structure HeadK (K : PySem.W.Frag) (h : Heap) (mg : Str → Option Value) (gl es : List Str) (fn : List He.DefD) (cs : List (Str × D)) : Prop where
  X : K.In h
  G : h.Ns mainGlobals mg
  c : He.SaysD (faOf gl es) fn K
  M : ModK K mg cs es
theorem headK_of {K : PySem.W.Frag} {h : Heap} {mg : Str → Option Value} {gl es : List Str} {fn : List He.DefD} {cs : List (Str × D)} (X : K.In h) (GN : h.Ns mainGlobals mg) (c : He.SaysD (faOf gl es) fn K) (hx : exB cs K = true) : HeadK K h mg gl es fn cs := by
  refine ⟨X, GN, c, fun p hp => conB_ok X GN (List.all_eq_true.mp hx p hp), fun x m => He.free_ok X GN (c.facts ?_), fun x m => ?_⟩
  · exact List.mem_append_left _ (List.mem_append_right _ (List.mem_map_of_mem m))
  · have e1 : He.Fa.exc x ∈ faOf gl es := List.mem_append_right _ (List.mem_append_left _ (List.mem_map_of_mem m))
    have e2 : He.Fa.glo x ∈ faOf gl es := List.mem_append_right _ (List.mem_append_right _ (List.mem_map_of_mem m))
    obtain ⟨h1, h2, h3, h4⟩ := He.exc_ok (c.facts e1)
    exact ⟨_, He.glo_ok X GN (c.facts e2), h1, h2, h3, h4⟩
section
variable {P : Program} {w : World} {K : PySem.W.Frag} {mg : Str → Option Value} {base h : Heap} {k many : Nat} {x : Str} {st : Stmt} {N ps : List Str} {m : S} {cs : List (Str × D)} {gl es : List Str} {fl : List (Str × Nat × (List D → Store → Res D))} {fn : List He.DefD} {md : Pos → Bool} {a : Addr}
theorem HeadK.glo (H : HeadK K h mg gl es fn cs) (j : Nat) (hj : gl[j]? = some x) : mg x = some (.ref (He.fAd K (x, none))) :=
  He.glo_ok H.X H.G (H.c.facts (List.mem_append_left _ (List.mem_append_left _ (List.mem_map_of_mem (List.mem_of_getElem? hj)))))
/-- a def of the top, by its text -/
theorem HeadK.ok (H : HeadK K h mg gl es fn cs) (j : Nat) (hi : fn[j]? = some (defD x st)) (hj : gl[j]? = some x) (hs : fsC N ps (defScope st) = true)
    (hb : ∀ f fd, FnP K x st f fd → Binds K fd ps []) (hn : ps.length = many) (C : CalL P w K mg base k fl)
    (hm : denB ⟨find1 cs, find1 fl, md, excL es⟩ N (defScope st) (fun _ => true) (defBody st) = m) : CalK P w K mg base (k + 1) x many (fnM N.length m) := by
  obtain ⟨fd, F⟩ := H.c.defs (List.mem_of_getElem? hi)
  exact def_ok F hs (hb _ _ F) (H.glo j hj) (H.M.mk_ (fun _ h => h) fun _ h => excL_ok h) hn C.find hm
theorem HeadK.law (H : HeadK K h mg gl es fn cs) (hx : mg x = some (.ref a)) (j : Nat) (hi : fn[j]? = some (defD x st)) (hj : gl[j]? = some x) (hs : fsC N ps (defScope st) = true)
    (hb : ∀ f fd, FnP K x st f fd → Binds K fd ps []) (hn : ps.length = many) (C : ∀ base : Heap, K.In base → base.Ns mainGlobals mg → CalL P w K mg base k fl)
    (hm : denB ⟨find1 cs, find1 fl, md, excL es⟩ N (defScope st) (fun _ => true) (defBody st) = m) : ∃ fd, FnP K x st a fd ∧ ∀ base : Heap, K.In base → base.Ns mainGlobals mg → FnG P w K mg base (L2.CX P w) (k + 1) a fd ps (spM K mg many (fnM N.length m)) := by
  obtain ⟨fd, F⟩ := H.c.defs (List.mem_of_getElem? hi)
  have ea := hx.symm.trans (H.glo j hj)
  cases ea
  exact ⟨fd, F, fun base X' GN' => def_fn F hs (hb _ _ F) (H.M.mk_ (fun _ h => h) fun _ h => excL_ok h) hn (C base X' GN').find hm⟩
end
/-! ### a def that calls itself -/
section
variable {P : Program} {w : World} {K : PySem.W.Frag} {mg : Str → Option Value} {base h : Heap} {k many : Nat} {x : Str} {st : Stmt} {N ps : List Str} {cs : List (Str × D)} {gl es : List Str} {fl : List (Str × Nat × (List D → Store → Res D))} {fn : List He.DefD} {md : Pos → Bool}
theorem HeadK.none (H : HeadK K h mg gl es fn cs) (j : Nat) (hi : fn[j]? = some (defD x st)) (hj : gl[j]? = some x)
    (hb : ∀ f fd, FnP K x st f fd → Binds K fd ps []) (hn : ps.length = many) : CalK P w K mg base k x many (fun _ _ => .bad) := by
  obtain ⟨fd, F⟩ := H.c.defs (List.mem_of_getElem? hi)
  have bad : ∀ vs H Q E, ¬ spM K mg many (fun _ _ => .bad) vs H Q E := fun vs H Q E ⟨_, _, _, _, _, _, _, z⟩ => z
  exact ⟨_, fd, ps, H.glo j hj, F.kp, hb _ _ F, fun vs H Q E z => (bad _ _ _ _ z).elim, fun A outer s H args us vs Q E hr hgd e0 hbd r z => (bad _ _ _ _ z).elim⟩
theorem HeadK.again (H : HeadK K h mg gl es fn cs) (j : Nat) (hi : fn[j]? = some (defD x st)) (hj : gl[j]? = some x) (hs : fsC N ps (defScope st) = true)
    (hb : ∀ f fd, FnP K x st f fd → Binds K fd ps []) (hn : ps.length = many) (C : CalL P w K mg base k fl) (shp : (List D → Store → Res D) → S)
    (hm : ∀ g, denB ⟨find1 cs, find1 ((x, many, g) :: fl), md, excL es⟩ N (defScope st) (fun _ => true) (defBody st) = shp g) : ∀ n, CalK P w K mg base (k + n) x many (recN N.length shp n)
  | 0 => H.none j hi hj hb hn
  | n + 1 => by
    have ih := HeadK.again H j hi hj hs hb hn C shp hm n
    exact H.ok (k := k + n) (many := many) j hi hj hs hb hn (CalL.cons ih (Nat.le_refl _) fun p hp => (C p hp).mono (Nat.le_add_right _ _)) (hm _)
end
/-- the head's hook -/
abbrev hookN (gl es : List Str) (fn : List He.DefD) (cs : List (Str × D)) : PySem.W.Hook := He.hookX 4 (faOf gl es) fn [] [] (exB cs)
def obN (gl es : List Str) (fn : List He.DefD) (cs : List (Str × D)) (s : PySem.W.SharedT) : He.AlX := He.obsX 4 (faOf gl es) fn [] [] (exB cs) (HandSHeadRun.getT s)
theorem obN_eq (gl es : List Str) (fn : List He.DefD) (cs : List (Str × D)) (s : PySem.W.SharedT) : obN gl es fn cs s = (hookN gl es fn cs).obs s.abs := He.obsX_eq (HandSHeadRun.getT_eq s)
end Mn

namespace Mn
open PySem PySem.Spec PyProof.Rows L2

/-! ### steps without lambdas: for simp -/
section
variable {σ : Env} {s st : Store} {x y z d : D} {ds out : List D}
theorem eC_s : eC d σ s = .ok d s := rfl
def kUn (f : Store → D → Option D) (r : Res D) : Res D := bnd r fun x s1 => ofO (f s1 x) s1
theorem eUn_s {f : Store → D → Option D} {a : E} : eUn f a σ s = kUn f (a σ s) := rfl
theorem kUn_s {f : Store → D → Option D} : kUn f (.ok x s) = ofO (f s x) s := rfl
def kOp (f : Store → D → D → Option D) (b : E) (σ : Env) (r : Res D) : Res D := bnd r fun x s1 => bnd (b σ s1) fun y s2 => ofO (f s2 x y) s2
def kOp2 (f : Store → D → D → Option D) (x : D) (r : Res D) : Res D := bnd r fun y s2 => ofO (f s2 x y) s2
theorem eOp_s {f : Store → D → D → Option D} {a b : E} : eOp f a b σ s = kOp f b σ (a σ s) := rfl
theorem kOp_s {f : Store → D → D → Option D} {b : E} : kOp f b σ (.ok x s) = kOp2 f x (b σ s) := rfl
theorem kOp2_s {f : Store → D → D → Option D} : kOp2 f x (.ok y s) = ofO (f s x y) s := rfl
theorem ofO_s {α : Type} {a : α} : ofO (some a) s = .ok a s := rfl
def kAnd (b : E) (σ : Env) (r : Res D) : Res D := bnd r fun x s1 => match truth s1 x with
  | some true => b σ s1
  | some false => .ok x s1
  | none => .bad
theorem eAnd_s {a b : E} : eAnd a b σ s = kAnd b σ (a σ s) := rfl
theorem kAnd_s {b : E} {c : Bool} : kAnd b σ (.ok (.bl c) s) = if c = true then b σ s else .ok (.bl false) s := by cases c <;> rfl
def kOr (b : E) (σ : Env) (r : Res D) : Res D := bnd r fun x s1 => match truth s1 x with
  | some true => .ok x s1
  | some false => b σ s1
  | none => .bad
theorem eOr_s {a b : E} : eOr a b σ s = kOr b σ (a σ s) := rfl
theorem kOr_s {b : E} {c : Bool} : kOr b σ (.ok (.bl c) s) = if c = true then .ok (.bl true) s else b σ s := by cases c <;> rfl
def kNot (r : Res D) : Res D := bnd r fun x s1 => match truth s1 x with
  | some b => .ok (.bl (!b)) s1
  | none => .bad
theorem eNot_s {a : E} : eNot a σ s = kNot (a σ s) := rfl
theorem kNot_s {c : Bool} : kNot (.ok (.bl c) s) = .ok (.bl (!c)) s := rfl
def kIf (a b : E) (σ : Env) (r : Res D) : Res D := bnd r fun x s1 => match truth s1 x with
  | some true => a σ s1
  | some false => b σ s1
  | none => .bad
theorem eIf_s {c a b : E} : eIf c a b σ s = kIf a b σ (c σ s) := rfl
theorem kIf_s {a b : E} {c : Bool} : kIf a b σ (.ok (.bl c) s) = if c = true then a σ s else b σ s := by cases c <;> rfl
theorem kIf_i {a b : E} {i : Int} : kIf a b σ (.ok (.int i) s) = if i ≠ 0 then a σ s else b σ s := by
  by_cases h : i = 0
  · subst h; rfl
  · have : truth s (.int i) = some true := by
      show some (i != 0) = some true
      rw [bne_iff_ne.mpr h]
    show (match truth s (.int i) with | some true => a σ s | some false => b σ s | none => .bad) = _
    rw [this, if_pos h]
def kCh (f g : Store → D → D → Option D) (b c : E) (σ : Env) (r : Res D) : Res D := bnd r fun x s1 => bnd (b σ s1) fun y s2 => match f s2 x y with
  | some (.bl true) => bnd (c σ s2) fun z s3 => ofO (g s3 y z) s3
  | some (.bl false) => .ok (.bl false) s2
  | _ => .bad
def kCh2 (f g : Store → D → D → Option D) (x : D) (c : E) (σ : Env) (r : Res D) : Res D := bnd r fun y s2 => match f s2 x y with
  | some (.bl true) => bnd (c σ s2) fun z s3 => ofO (g s3 y z) s3
  | some (.bl false) => .ok (.bl false) s2
  | _ => .bad
def kCh3 (g : Store → D → D → Option D) (y : D) (c : E) (σ : Env) (r : Res D) : Res D := bnd r fun x s2 => match x with
  | .bl true => bnd (c σ s2) fun z s3 => ofO (g s3 y z) s3
  | .bl false => .ok (.bl false) s2
  | _ => .bad
theorem eChain_s {f g : Store → D → D → Option D} {a b c : E} : eChain f g a b c σ s = kCh f g b c σ (a σ s) := rfl
theorem kCh_s {f g : Store → D → D → Option D} {b c : E} : kCh f g b c σ (.ok x s) = kCh2 f g x c σ (b σ s) := rfl
theorem kCh2_s {f g : Store → D → D → Option D} {c : E} : kCh2 f g x c σ (.ok y s) = kCh3 g y c σ (ofO (f s x y) s) := by
  show (match f s x y with | some (.bl true) => _ | some (.bl false) => _ | _ => _) = _
  cases h : f s x y with
  | none => rfl
  | some v => rcases v with _ | b | _ | _ | _ | _ | _ | _ <;> first | rfl | (cases b <;> rfl)
theorem kCh3_s {g : Store → D → D → Option D} {c : E} {b : Bool} : kCh3 g y c σ (.ok (.bl b) s) = if b = true then kOp2 g y (c σ s) else .ok (.bl false) s := by cases b <;> rfl
def kL (es : List E) (σ : Env) (r : Res D) : Res (List D) := bnd r fun d s1 => bnd (evL es σ s1) fun ds s2 => .ok (d :: ds) s2
def kL2 (d : D) (r : Res (List D)) : Res (List D) := bnd r fun ds s2 => .ok (d :: ds) s2
theorem evL_0 : evL [] σ s = .ok [] s := rfl
theorem evL_s {e : E} {es : List E} : evL (e :: es) σ s = kL es σ (e σ s) := rfl
theorem kL_s {es : List E} : kL es σ (.ok d s) = kL2 d (evL es σ s) := rfl
theorem kL2_s : kL2 d (.ok ds s) = .ok (d :: ds) s := rfl
def kTup (r : Res (List D)) : Res D := bnd r fun ds s1 => if ds.length ≤ sz then .ok (.tup ds) s1 else .bad
def kLst (r : Res (List D)) : Res D := bnd r fun ds s1 => if ds.length ≤ sz then .ok (.lst ds) s1 else .bad
def kLstR (r : Res (List D)) : Res D := bnd r fun ds s1 => if ds.length ≤ sz then .ok (.ref s1.length) (s1 ++ [.lst ds]) else .bad
theorem eTup_s {es : List E} : eTup es σ s = kTup (evL es σ s) := rfl
theorem eLst_s {es : List E} : eLst es σ s = kLst (evL es σ s) := rfl
theorem eLstR_s {es : List E} : eLstR es σ s = kLstR (evL es σ s) := rfl
theorem kTup_s : kTup (.ok ds s) = if ds.length ≤ sz then .ok (.tup ds) s else .bad := rfl
theorem kLst_s : kLst (.ok ds s) = if ds.length ≤ sz then .ok (.lst ds) s else .bad := rfl
theorem kLstR_s : kLstR (.ok ds s) = if ds.length ≤ sz then .ok (.ref s.length) (s ++ [.lst ds]) else .bad := rfl
def kCall (f : Store → List D → Option D) (r : Res (List D)) : Res D := bnd r fun ds s1 => ofO (f s1 ds) s1
theorem eCall_s {f : Store → List D → Option D} {es : List E} : eCall f es σ s = kCall f (evL es σ s) := rfl
theorem kCall_s {f : Store → List D → Option D} : kCall f (.ok ds s) = ofO (f s ds) s := rfl
def kFn (f : List D → Store → Res D) (r : Res (List D)) : Res D := bnd r fun ds s1 => f ds s1
theorem eFn_s {f : List D → Store → Res D} {es : List E} : eFn f es σ s = kFn f (evL es σ s) := rfl
theorem kFn_s {f : List D → Store → Res D} : kFn f (.ok ds s) = f ds s := rfl
def kO (r : Res D) : Res (Option Int) := bnd r fun d s1 => match d with
  | .int i => .ok (some i) s1
  | _ => .bad
theorem evO_0 : evO none σ s = .ok none s := rfl
theorem evO_s {e : E} : evO (some e) σ s = kO (e σ s) := rfl
theorem kO_s {i : Int} : kO (.ok (.int i) s) = .ok (some i) s := rfl
def kSl (lo hi : Option E) (σ : Env) (r : Res D) : Res D := bnd r fun x s1 => bnd (evO lo σ s1) fun l s2 => bnd (evO hi σ s2) fun h s3 => ofO (dSlice s3 x l h) s3
def kSl2 (x : D) (hi : Option E) (σ : Env) (r : Res (Option Int)) : Res D := bnd r fun l s2 => bnd (evO hi σ s2) fun h s3 => ofO (dSlice s3 x l h) s3
def kSl3 (x : D) (l : Option Int) (r : Res (Option Int)) : Res D := bnd r fun h s3 => ofO (dSlice s3 x l h) s3
theorem eSlice_s {a : E} {lo hi : Option E} : eSlice a lo hi σ s = kSl lo hi σ (a σ s) := rfl
theorem kSl_s {lo hi : Option E} : kSl lo hi σ (.ok x s) = kSl2 x hi σ (evO lo σ s) := rfl
theorem kSl2_s {hi : Option E} {l : Option Int} : kSl2 x hi σ (.ok l s) = kSl3 x l (evO hi σ s) := rfl
theorem kSl3_s {l h : Option Int} : kSl3 x l (.ok h s) = ofO (dSlice s x l h) s := rfl
def kRv (k : E) (σ : Env) (r : Res D) : Res D := bnd r fun x s1 => bnd (evO (some k) σ s1) fun l s2 => match x with
  | .tup ds => if l = some (-1) then .ok (.tup ds.reverse) s2 else .bad
  | .lst ds => if l = some (-1) then .ok (.lst ds.reverse) s2 else .bad
  | _ => .bad
def kRv2 (x : D) (r : Res (Option Int)) : Res D := bnd r fun l s2 => match x with
  | .tup ds => if l = some (-1) then .ok (.tup ds.reverse) s2 else .bad
  | .lst ds => if l = some (-1) then .ok (.lst ds.reverse) s2 else .bad
  | _ => .bad
theorem eRev_s {a k : E} : eRev a k σ s = kRv k σ (a σ s) := rfl
theorem kRv_s {k : E} : kRv k σ (.ok x s) = kRv2 x (evO (some k) σ s) := rfl
theorem kRv2_s : kRv2 (.tup ds) (.ok (some (-1)) s) = .ok (.tup ds.reverse) s := rfl
theorem kRv2_l : kRv2 (.lst ds) (.ok (some (-1)) s) = .ok (.lst ds.reverse) s := rfl
/-! what is walked -/
def kSeq (r : Res D) : Res (List D) := bnd r fun x s1 => ofO (match x with
  | .tup ds => some ds
  | .lst ds => some ds
  | .str z => some (z.cps.toList.map fun c => .str ⟨#[c]⟩)
  | _ => none) s1
theorem iSeq_s {a : E} : iSeq a σ s = kSeq (a σ s) := rfl
theorem kSeq_t : kSeq (.ok (.tup ds) s) = .ok ds s := rfl
theorem kSeq_l : kSeq (.ok (.lst ds) s) = .ok ds s := rfl
def kRa (r : Res D) : Res (List D) := bnd r fun x s1 => match x with
  | .int j => if -lim ≤ j ∧ j < lim then .ok (rng 0 j.toNat) s1 else .bad
  | _ => .bad
theorem iRange1_s {a : E} : iRange1 a σ s = kRa (a σ s) := rfl
theorem kRa_s {j : Int} : kRa (.ok (.int j) s) = if -lim ≤ j ∧ j < lim then .ok (rng 0 j.toNat) s else .bad := rfl
theorem kRa_n {n : Nat} (h : (n : Int) < lim) : kRa (.ok (.int (n : Int)) s) = .ok (rng 0 n) s := by
  have : -lim ≤ (n : Int) ∧ (n : Int) < lim := ⟨by unfold lim; omega, h⟩
  rw [kRa_s, if_pos this, Int.toNat_natCast]
def kRb (b : E) (σ : Env) (r : Res D) : Res (List D) := bnd r fun x s1 => bnd (b σ s1) fun y s2 => match x, y with
  | .int i, .int j => if -lim ≤ i ∧ i < lim ∧ -lim ≤ j ∧ j < lim then .ok (rng i (j - i).toNat) s2 else .bad
  | _, _ => .bad
def kRb2 (x : D) (r : Res D) : Res (List D) := bnd r fun y s2 => match x, y with
  | .int i, .int j => if -lim ≤ i ∧ i < lim ∧ -lim ≤ j ∧ j < lim then .ok (rng i (j - i).toNat) s2 else .bad
  | _, _ => .bad
theorem iRange2_s {a b : E} : iRange2 a b σ s = kRb b σ (a σ s) := rfl
theorem kRb_s {b : E} : kRb b σ (.ok x s) = kRb2 x (b σ s) := rfl
theorem kRb2_s {i j : Int} : kRb2 (.int i) (.ok (.int j) s) = if -lim ≤ i ∧ i < lim ∧ -lim ≤ j ∧ j < lim then .ok (rng i (j - i).toNat) s else .bad := rfl
def kEnum (r : Res D) : Res (List D) := bnd r fun x s1 => ofO ((vitems? x).map (enumF 0)) s1
theorem iEnum_s {a : E} : iEnumD a σ s = kEnum (a σ s) := rfl
theorem kEnum_t : kEnum (.ok (.tup ds) s) = .ok (enumF 0 ds) s := rfl
theorem kEnum_l : kEnum (.ok (.lst ds) s) = .ok (enumF 0 ds) s := rfl
def kRc (b c : E) (σ : Env) (r : Res D) : Res (List D) := bnd r fun x s1 => bnd (b σ s1) fun y s2 => bnd (c σ s2) fun z s3 => match x, y, z with
  | .int i, .int j, .int k => if -lim ≤ i ∧ i < lim ∧ -lim ≤ j ∧ j < lim then
      (if 0 < k ∧ k < 1000000 then .ok (rngS i k ((j - i + k - 1) / k).toNat) s3 else if k = -1 then .ok (rngS i k (i - j).toNat) s3 else .bad) else .bad
  | _, _, _ => .bad
def kRc2 (x : D) (c : E) (σ : Env) (r : Res D) : Res (List D) := bnd r fun y s2 => bnd (c σ s2) fun z s3 => match x, y, z with
  | .int i, .int j, .int k => if -lim ≤ i ∧ i < lim ∧ -lim ≤ j ∧ j < lim then
      (if 0 < k ∧ k < 1000000 then .ok (rngS i k ((j - i + k - 1) / k).toNat) s3 else if k = -1 then .ok (rngS i k (i - j).toNat) s3 else .bad) else .bad
  | _, _, _ => .bad
def kRc3 (x y : D) (r : Res D) : Res (List D) := bnd r fun z s3 => match x, y, z with
  | .int i, .int j, .int k => if -lim ≤ i ∧ i < lim ∧ -lim ≤ j ∧ j < lim then
      (if 0 < k ∧ k < 1000000 then .ok (rngS i k ((j - i + k - 1) / k).toNat) s3 else if k = -1 then .ok (rngS i k (i - j).toNat) s3 else .bad) else .bad
  | _, _, _ => .bad
theorem iRange3_s {a b c : E} : iRange3 a b c σ s = kRc b c σ (a σ s) := rfl
theorem kRc_s {b c : E} : kRc b c σ (.ok x s) = kRc2 x c σ (b σ s) := rfl
theorem kRc2_s {c : E} : kRc2 x c σ (.ok y s) = kRc3 x y (c σ s) := rfl
theorem kRc3_s {i j k : Int} : kRc3 (.int i) (.int j) (.ok (.int k) s) = if -lim ≤ i ∧ i < lim ∧ -lim ≤ j ∧ j < lim then
      (if 0 < k ∧ k < 1000000 then .ok (rngS i k ((j - i + k - 1) / k).toNat) s else if k = -1 then .ok (rngS i k (i - j).toNat) s else .bad) else .bad := rfl
theorem kRc3_2 {n : Nat} (h : n ≤ 1000000) : kRc3 (.int 0) (.int (n : Int)) (.ok (.int 2) s) = .ok (rngS 0 2 ((n + 1) / 2)) s := by
  have h1 : -lim ≤ 0 ∧ (0 : Int) < lim ∧ -lim ≤ (n : Int) ∧ (n : Int) < lim := by unfold lim; omega
  have h2 : (((n : Int) - 0 + 2 - 1) / 2).toNat = (n + 1) / 2 := by omega
  rw [kRc3_s, if_pos h1, if_pos (by decide), h2]
/-! comprehensions -/
def kCm (vs : List Nat) (tg : TgM) (cs : List E) (elt : E) (σ : Env) (r : Res (List D)) : Res D := bnd r fun ds s1 => bnd (noX (compL tg cs elt (wipeE σ vs) ds [] s1)) fun out s2 => .ok (.lst out) s2
def kCm2 (r : Res (List D)) : Res D := bnd (noX r) fun out s2 => .ok (.lst out) s2
theorem eComp_s {vs : List Nat} {it : EI} {tg : TgM} {cs : List E} {elt : E} : eComp vs it tg cs elt σ s = kCm vs tg cs elt σ (it σ s) := rfl
theorem kCm_s {vs : List Nat} {tg : TgM} {cs : List E} {elt : E} : kCm vs tg cs elt σ (.ok ds s) = kCm2 (compL tg cs elt (wipeE σ vs) ds [] s) := rfl
theorem kCm2_s : kCm2 (.ok out s) = .ok (.lst out) s := rfl
def kCmR (vs : List Nat) (tg : TgM) (cs : List E) (elt : E) (σ : Env) (r : Res (List D)) : Res D := bnd r fun ds s1 => bnd (noX (compL tg cs elt (wipeE σ vs) ds [] s1)) fun out s2 => .ok (.ref s2.length) (s2 ++ [.lst out])
def kCmR2 (r : Res (List D)) : Res D := bnd (noX r) fun out s2 => .ok (.ref s2.length) (s2 ++ [.lst out])
theorem eCompR_s {vs : List Nat} {it : EI} {tg : TgM} {cs : List E} {elt : E} : eCompR vs it tg cs elt σ s = kCmR vs tg cs elt σ (it σ s) := rfl
theorem kCmR_s {vs : List Nat} {tg : TgM} {cs : List E} {elt : E} : kCmR vs tg cs elt σ (.ok ds s) = kCmR2 (compL tg cs elt (wipeE σ vs) ds [] s) := rfl
theorem kCmR2_s : kCmR2 (.ok out s) = .ok (.ref s.length) (s ++ [.lst out]) := rfl
/-- a comprehension without tests, of something that leaves the store alone -/
theorem comp_map {tg : TgM} {elt : E} {σ : Env} {s : Store} {f : D → D} : ∀ {ds acc : List D}, (∀ d ∈ ds, ∃ σ1, tg d σ s = .ok σ1 s ∧ elt σ1 s = .ok (f d) s) → acc.length + ds.length ≤ sz → compL tg [] elt σ ds acc s = .ok (acc ++ ds.map f) s
  | [], acc, _, _ => by rw [List.map_nil, List.append_nil]; rfl
  | d :: ds, acc, h, hl => by
    obtain ⟨σ1, e1, e2⟩ := h d List.mem_cons_self
    have hl' : acc.length + (ds.length + 1) ≤ sz := hl
    show bnd (tg d σ s) _ = _
    rw [e1]
    show bnd (elt σ1 s) _ = _
    rw [e2]
    show (if acc.length < sz then compL tg [] elt σ ds (acc ++ [f d]) s else .bad) = _
    rw [if_pos (by omega), comp_map (fun d m => h d (List.mem_cons_of_mem _ m)) (by simp; omega)]
    simp
/-- .. with one test -/
theorem comp_filter {tg : TgM} {c elt : E} {σ : Env} {s : Store} {p : D → Bool} {f : D → D} : ∀ {ds acc : List D}, (∀ d ∈ ds, ∃ σ1, tg d σ s = .ok σ1 s ∧ c σ1 s = .ok (.bl (p d)) s ∧ (p d = true → elt σ1 s = .ok (f d) s)) → acc.length + ds.length ≤ sz → compL tg [c] elt σ ds acc s = .ok (acc ++ (ds.filter p).map f) s
  | [], acc, _, _ => by rw [List.filter_nil, List.map_nil, List.append_nil]; rfl
  | d :: ds, acc, h, hl => by
    obtain ⟨σ1, e1, e2, e3⟩ := h d List.mem_cons_self
    have hl' : acc.length + (ds.length + 1) ≤ sz := hl
    show bnd (tg d σ s) _ = _
    rw [e1]
    show bnd (bnd (c σ1 s) _) _ = _
    rw [e2]
    cases q : p d with
    | true =>
      show bnd (elt σ1 s) _ = _
      rw [e3 q]
      show (if acc.length < sz then compL tg [c] elt σ ds (acc ++ [f d]) s else .bad) = _
      rw [if_pos (by omega), comp_filter (fun d m => h d (List.mem_cons_of_mem _ m)) (by simp; omega)]
      simp [q]
    | false =>
      show compL tg [c] elt σ ds acc s = _
      rw [comp_filter (fun d m => h d (List.mem_cons_of_mem _ m)) (by omega)]
      simp [q]
/-- one step of a comprehension -/
def kCo (tg : TgM) (cs : List E) (elt : E) (σ : Env) (ds acc : List D) (r : Res Env) : Res (List D) := bnd r fun σ1 s1 => bnd (tests cs σ1 s1) fun b s2 => match b with
    | true => bnd (elt σ1 s2) fun x s3 => if acc.length < sz then compL tg cs elt σ ds (acc ++ [x]) s3 else .bad
    | false => compL tg cs elt σ ds acc s2
def kCo2 (tg : TgM) (cs : List E) (elt : E) (σ : Env) (ds acc : List D) (σ1 : Env) (r : Res Bool) : Res (List D) := bnd r fun b s2 => match b with
    | true => bnd (elt σ1 s2) fun x s3 => if acc.length < sz then compL tg cs elt σ ds (acc ++ [x]) s3 else .bad
    | false => compL tg cs elt σ ds acc s2
def kCo3 (tg : TgM) (cs : List E) (elt : E) (σ : Env) (ds acc : List D) (r : Res D) : Res (List D) := bnd r fun x s3 => if acc.length < sz then compL tg cs elt σ ds (acc ++ [x]) s3 else .bad
theorem compL_0 {tg : TgM} {cs : List E} {elt : E} {acc : List D} : compL tg cs elt σ [] acc s = .ok acc s := rfl
theorem compL_s {tg : TgM} {cs : List E} {elt : E} {acc : List D} : compL tg cs elt σ (d :: ds) acc s = kCo tg cs elt σ ds acc (tg d σ s) := rfl
theorem kCo_s {tg : TgM} {cs : List E} {elt : E} {acc : List D} {σ1 : Env} : kCo tg cs elt σ ds acc (.ok σ1 s) = kCo2 tg cs elt σ ds acc σ1 (tests cs σ1 s) := rfl
theorem kCo2_s {tg : TgM} {cs : List E} {elt : E} {acc : List D} {σ1 : Env} {b : Bool} : kCo2 tg cs elt σ ds acc σ1 (.ok b s) = if b = true then kCo3 tg cs elt σ ds acc (elt σ1 s) else compL tg cs elt σ ds acc s := by cases b <;> rfl
theorem kCo3_s {tg : TgM} {cs : List E} {elt : E} {acc : List D} : kCo3 tg cs elt σ ds acc (.ok x s) = if acc.length < sz then compL tg cs elt σ ds (acc ++ [x]) s else .bad := rfl
def kTe (cs : List E) (σ : Env) (r : Res D) : Res Bool := bnd r fun x s1 => match truth s1 x with
    | some true => tests cs σ s1
    | some false => .ok false s1
    | none => .bad
theorem tests_0 : tests [] σ s = .ok true s := rfl
theorem tests_s {c : E} {cs : List E} : tests (c :: cs) σ s = kTe cs σ (c σ s) := rfl
theorem kTe_s {cs : List E} {c : Bool} : kTe cs σ (.ok (.bl c) s) = if c = true then tests cs σ s else .ok false s := by cases c <;> rfl
/-! targets -/
def kG (gs : List TgM) (ds : List D) (r : Res Env) : Res Env := bnd (noX r) fun σ1 s1 => gTs gs ds σ1 s1
theorem gT_s {gs : List TgM} : gT gs (.tup ds) σ s = if ds.length = gs.length then gTs gs ds σ s else .bad := rfl
theorem gTs_0 : gTs [] [] σ s = .ok σ s := rfl
theorem gTs_s {g : TgM} {gs : List TgM} : gTs (g :: gs) (d :: ds) σ s = kG gs ds (g d σ s) := rfl
theorem kG_s {gs : List TgM} : kG gs ds (.ok σ s) = gTs gs ds σ s := rfl
def kSub (i : E) (d : D) (σ : Env) (r : Res D) : Res Env := bnd r fun x s1 => bnd (i σ s1) fun y s2 => match x with
  | .ref n => match setCell s2 n y d with
    | some s3 => .ok σ s3
    | none => .bad
  | _ => .bad
def kSub2 (n : Nat) (d : D) (σ : Env) (r : Res D) : Res Env := bnd r fun y s2 => match setCell s2 n y d with
    | some s3 => .ok σ s3
    | none => .bad
def kSub3 (σ : Env) (o : Option Store) : Res Env := match o with
    | some s3 => .ok σ s3
    | none => .bad
theorem gSub_s {o i : E} : gSubD o i d σ s = kSub i d σ (o σ s) := rfl
theorem kSub_s {i : E} {n : Nat} : kSub i d σ (.ok (.ref n) s) = kSub2 n d σ (i σ s) := rfl
theorem kSub2_s {n : Nat} : kSub2 n d σ (.ok y s) = kSub3 σ (setCell s n y d) := rfl
theorem kSub3_s : kSub3 σ (some s) = .ok σ s := rfl
/-! statements -/
theorem sNop_s : sNop σ s = .nx σ s := rfl
theorem sSeq_s {a b : S} : sSeq a b σ s = (a σ s).andThen b := rfl
def kRet (σ : Env) (r : Res D) : SR := sbnd σ r fun d s1 => .rt d s1
theorem sRet_s {e : E} : sRet e σ s = kRet σ (e σ s) := rfl
theorem kRet_s : kRet σ (.ok d s) = .rt d s := rfl
theorem kRet_x {c : Str} : kRet σ (.exc c s) = .exc c σ s := rfl
theorem sRetN_s : sRetN σ s = .rt .non s := rfl
def kEx (σ : Env) (r : Res D) : SR := sbnd σ r fun _ s1 => .nx σ s1
theorem sExpr_s {e : E} : sExpr e σ s = kEx σ (e σ s) := rfl
theorem kEx_s : kEx σ (.ok d s) = .nx σ s := rfl
theorem kEx_x {c : Str} : kEx σ (.exc c s) = .exc c σ s := rfl
def kAs (tg : TgM) (σ : Env) (r : Res D) : SR := sbnd σ r fun d s1 => sbnd σ (tg d σ s1) fun σ1 s2 => .nx σ1 s2
def kAs2 (σ : Env) (r : Res Env) : SR := sbnd σ r fun σ1 s2 => .nx σ1 s2
theorem sAsg_s {tg : TgM} {e : E} : sAsg tg e σ s = kAs tg σ (e σ s) := rfl
theorem kAs_s {tg : TgM} : kAs tg σ (.ok d s) = kAs2 σ (tg d σ s) := rfl
theorem kAs_x {tg : TgM} {c : Str} : kAs tg σ (.exc c s) = .exc c σ s := rfl
theorem kAs2_s {σ1 : Env} : kAs2 σ (.ok σ1 s) = .nx σ1 s := rfl
theorem kAs2_x {c : Str} : kAs2 σ (.exc c s) = .exc c σ s := rfl
def kSIf (a b : S) (σ : Env) (r : Res D) : SR := sbnd σ r fun x s1 => match truth s1 x with
  | some true => a σ s1
  | some false => b σ s1
  | none => .bad
theorem sIf_s {c : E} {a b : S} : sIf c a b σ s = kSIf a b σ (c σ s) := rfl
theorem kSIf_s {a b : S} {c : Bool} : kSIf a b σ (.ok (.bl c) s) = if c = true then a σ s else b σ s := by cases c <;> rfl
theorem kSIf_i {a b : S} {i : Int} : kSIf a b σ (.ok (.int i) s) = if i ≠ 0 then a σ s else b σ s := by
  by_cases h : i = 0
  · subst h; rfl
  · have : truth s (.int i) = some true := by
      show some (i != 0) = some true
      rw [bne_iff_ne.mpr h]
    show (match truth s (.int i) with | some true => a σ s | some false => b σ s | none => .bad) = _
    rw [this, if_pos h]
theorem kSIf_x {a b : S} {c : Str} : kSIf a b σ (.exc c s) = .exc c σ s := rfl
def kFor (tg : TgM) (body : S) (σ : Env) (r : Res (List D)) : SR := sbnd σ r fun ds s1 => forL tg body ds σ s1
theorem sFor_s {it : EI} {tg : TgM} {body : S} : sFor it tg body σ s = kFor tg body σ (it σ s) := rfl
theorem kFor_s {tg : TgM} {body : S} : kFor tg body σ (.ok ds s) = forL tg body ds σ s := rfl
/-- one turn of a loop -/
def turn (tg : TgM) (body : S) (d : D) (σ : Env) (s : Store) : SR := sbnd σ (tg d σ s) body
theorem forL_0 {tg : TgM} {body : S} : forL tg body [] σ s = .nx σ s := rfl
def kTu (tg : TgM) (body : S) (ds : List D) (r : SR) : SR := match r with
    | .nx σ2 s2 => forL tg body ds σ2 s2
    | .ct σ2 s2 => forL tg body ds σ2 s2
    | .bk σ2 s2 => .nx σ2 s2
    | r => r
theorem forL_s {tg : TgM} {body : S} : forL tg body (d :: ds) σ s = kTu tg body ds (turn tg body d σ s) := by
  show sbnd σ (tg d σ s) _ = kTu tg body ds (sbnd σ (tg d σ s) body)
  cases tg d σ s <;> rfl
theorem kTu_n {tg : TgM} {body : S} : kTu tg body ds (.nx σ s) = forL tg body ds σ s := rfl
theorem kTu_c {tg : TgM} {body : S} : kTu tg body ds (.ct σ s) = forL tg body ds σ s := rfl
theorem kTu_b {tg : TgM} {body : S} : kTu tg body ds (.bk σ s) = .nx σ s := rfl
theorem kTu_r {tg : TgM} {body : S} : kTu tg body ds (.rt d s) = .rt d s := rfl
theorem turn_s {tg : TgM} {body : S} {σ1 : Env} {s1 : Store} (h : tg d σ s = .ok σ1 s1) : turn tg body d σ s = body σ1 s1 := by
  unfold turn; rw [h]; rfl
theorem turn_n {i : Nat} {body : S} : turn (gN i) body d σ s = body (σ.set i (some d)) s := rfl
def aft (many : Nat) (r : SR) : Res D := match r with
  | .rt d st => .ok d st
  | .nx _ st => .ok .non st
  | .exc c _ st => .exc c st
  | _ => .bad
theorem fnM_s {many : Nat} {body : S} : fnM many body ds s = aft many (body (ds.map some ++ List.replicate (many - ds.length) none) s) := by
  unfold fnM aft
  cases body (ds.map some ++ List.replicate (many - ds.length) none) s <;> rfl
theorem aft_r {n : Nat} : aft n (.rt d s) = .ok d s := rfl
theorem aft_n {n : Nat} : aft n (.nx σ s) = .ok .non s := rfl
theorem aft_x {n : Nat} {c : Str} : aft n (.exc c σ s) = .exc c s := rfl
def kAg (i : Nat) (f : Store → D → D → Option D) (x : D) (σ : Env) (r : Res D) : SR := sbnd σ r fun y s1 => sbnd σ (ofO (f s1 x y) s1) fun z s2 => .nx (σ.set i (some z)) s2
def kAg2 (i : Nat) (σ : Env) (r : Res D) : SR := sbnd σ r fun z s2 => .nx (σ.set i (some z)) s2
theorem kAg_s {i : Nat} {f : Store → D → D → Option D} : kAg i f x σ (.ok y s) = kAg2 i σ (ofO (f s x y) s) := rfl
theorem kAg2_s {i : Nat} : kAg2 i σ (.ok z s) = .nx (σ.set i (some z)) s := rfl
def kPick (i : Nat) (f : Store → D → D → Option D) (e : E) (σ : Env) (s : Store) (o : Res D) : SR := match o with
  | .ok x _ => kAg i f x σ (e σ s)
  | _ => .bad
theorem sAug_s {i : Nat} {f : Store → D → D → Option D} {e : E} : sAug i f e σ s = kPick i f e σ s (eVar i σ s) := by
  unfold sAug kPick eVar
  cases h : σ[i]? with
  | none => rfl
  | some o => cases o <;> rfl
theorem kPick_s {i : Nat} {f : Store → D → D → Option D} {e : E} : kPick i f e σ s (.ok x s) = kAg i f x σ (e σ s) := rfl
theorem addI_i {i j : Int} : dAddI s (.int i) (.int j) = some (.int (i + j)) := rfl
/-! while -/
def kWh (c : E) (body : S) (n : Nat) (σ : Env) (r : Res D) : SR := sbnd σ r fun x s1 => match truth s1 x with
    | some true => (match body σ s1 with
      | .nx σ2 s2 => whileL c body n σ2 s2
      | .ct σ2 s2 => whileL c body n σ2 s2
      | .bk σ2 s2 => .nx σ2 s2
      | r => r)
    | some false => .nx σ s1
    | none => .bad
def kWt (c : E) (body : S) (n : Nat) (r : SR) : SR := match r with
      | .nx σ2 s2 => whileL c body n σ2 s2
      | .ct σ2 s2 => whileL c body n σ2 s2
      | .bk σ2 s2 => .nx σ2 s2
      | r => r
theorem whileL_s {c : E} {body : S} {n : Nat} : whileL c body (n + 1) σ s = kWh c body n σ (c σ s) := rfl
theorem kWh_s {c : E} {body : S} {n : Nat} {b : Bool} : kWh c body n σ (.ok (.bl b) s) = if b = true then kWt c body n (body σ s) else .nx σ s := by
  cases b
  · rfl
  · show (match body σ s with | .nx σ2 s2 => _ | .ct σ2 s2 => _ | .bk σ2 s2 => _ | r => r) = kWt c body n (body σ s)
    cases body σ s <;> rfl
theorem kWt_n {c : E} {body : S} {n : Nat} : kWt c body n (.nx σ s) = whileL c body n σ s := rfl
theorem kWt_c {c : E} {body : S} {n : Nat} : kWt c body n (.ct σ s) = whileL c body n σ s := rfl
theorem kWt_b {c : E} {body : S} {n : Nat} : kWt c body n (.bk σ s) = .nx σ s := rfl
/-! a loop with an invariant: I (what is still to come) -/
theorem for_inv {tg : TgM} {body : S} {I : List D → Env → Store → Prop} : ∀ {ds : List D} {σ : Env} {s : Store}, I ds σ s → (∀ d r σ s, I (d :: r) σ s → ∃ σ' s', (turn tg body d σ s = .nx σ' s' ∨ turn tg body d σ s = .ct σ' s') ∧ I r σ' s') → ∃ σ' s', forL tg body ds σ s = .nx σ' s' ∧ I [] σ' s'
  | [], σ, s, h, _ => ⟨σ, s, rfl, h⟩
  | d :: r, σ, s, h, t => by
    obtain ⟨σ1, s1, e, h1⟩ := t d r σ s h
    obtain ⟨σ', s', e', h'⟩ := for_inv h1 t
    refine ⟨σ', s', ?_, h'⟩
    rw [forL_s]
    rcases e with e | e <;> rw [e] <;> exact e'
/-- the same, where the items do not matter, each known to be one of them -/
theorem for_keep {tg : TgM} {body : S} {J : D → Prop} {I : Env → Store → Prop} : ∀ {ds : List D} {σ : Env} {s : Store}, I σ s → (∀ d ∈ ds, J d) → (∀ d σ s, J d → I σ s → ∃ σ' s', (turn tg body d σ s = .nx σ' s' ∨ turn tg body d σ s = .ct σ' s') ∧ I σ' s') → ∃ σ' s', forL tg body ds σ s = .nx σ' s' ∧ I σ' s'
  | [], σ, s, h, _, _ => ⟨σ, s, rfl, h⟩
  | d :: r, σ, s, h, hj, t => by
    obtain ⟨σ1, s1, e, h1⟩ := t d σ s (hj d List.mem_cons_self) h
    obtain ⟨σ', s', e', h'⟩ := for_keep h1 (fun d m => hj d (List.mem_cons_of_mem _ m)) t
    refine ⟨σ', s', ?_, h'⟩
    rw [forL_s]
    rcases e with e | e <;> rw [e] <;> exact e'
end
theorem rn0 : List.replicate 0 (none : Option D) = [] := rfl
theorem rn1 : List.replicate 1 (none : Option D) = [none] := rfl
theorem rn2 : List.replicate 2 (none : Option D) = [none, none] := rfl
theorem rn3 : List.replicate 3 (none : Option D) = [none, none, none] := rfl
theorem rn4 : List.replicate 4 (none : Option D) = [none, none, none, none] := rfl
theorem rn5 : List.replicate 5 (none : Option D) = [none, none, none, none, none] := rfl
theorem rn6 : List.replicate 6 (none : Option D) = [none, none, none, none, none, none] := rfl
theorem rn7 : List.replicate 7 (none : Option D) = [none, none, none, none, none, none, none] := rfl
theorem rn8 : List.replicate 8 (none : Option D) = [none, none, none, none, none, none, none, none] := rfl
theorem rn9 : List.replicate 9 (none : Option D) = [none, none, none, none, none, none, none, none, none] := rfl
theorem rn10 : List.replicate 10 (none : Option D) = [none, none, none, none, none, none, none, none, none, none] := rfl
theorem rn11 : List.replicate 11 (none : Option D) = [none, none, none, none, none, none, none, none, none, none, none] := rfl
theorem rn12 : List.replicate 12 (none : Option D) = [none, none, none, none, none, none, none, none, none, none, none, none] := rfl
theorem rn13 : List.replicate 13 (none : Option D) = [none, none, none, none, none, none, none, none, none, none, none, none, none] := rfl
theorem rn14 : List.replicate 14 (none : Option D) = [none, none, none, none, none, none, none, none, none, none, none, none, none, none] := rfl
theorem rn15 : List.replicate 15 (none : Option D) = [none, none, none, none, none, none, none, none, none, none, none, none, none, none, none] := rfl
theorem rn16 : List.replicate 16 (none : Option D) = [none, none, none, none, none, none, none, none, none, none, none, none, none, none, none, none] := rfl
theorem rn17 : List.replicate 17 (none : Option D) = [none, none, none, none, none, none, none, none, none, none, none, none, none, none, none, none, none] := rfl
theorem rn18 : List.replicate 18 (none : Option D) = [none, none, none, none, none, none, none, none, none, none, none, none, none, none, none, none, none, none] := rfl
theorem rn19 : List.replicate 19 (none : Option D) = [none, none, none, none, none, none, none, none, none, none, none, none, none, none, none, none, none, none, none] := rfl
theorem rn20 : List.replicate 20 (none : Option D) = [none, none, none, none, none, none, none, none, none, none, none, none, none, none, none, none, none, none, none, none] := rfl
theorem rn21 : List.replicate 21 (none : Option D) = [none, none, none, none, none, none, none, none, none, none, none, none, none, none, none, none, none, none, none, none, none] := rfl
theorem rn22 : List.replicate 22 (none : Option D) = [none, none, none, none, none, none, none, none, none, none, none, none, none, none, none, none, none, none, none, none, none, none] := rfl
theorem rn23 : List.replicate 23 (none : Option D) = [none, none, none, none, none, none, none, none, none, none, none, none, none, none, none, none, none, none, none, none, none, none, none] := rfl
theorem rn24 : List.replicate 24 (none : Option D) = [none, none, none, none, none, none, none, none, none, none, none, none, none, none, none, none, none, none, none, none, none, none, none, none] := rfl
theorem rn25 : List.replicate 25 (none : Option D) = [none, none, none, none, none, none, none, none, none, none, none, none, none, none, none, none, none, none, none, none, none, none, none, none, none] := rfl
theorem rn26 : List.replicate 26 (none : Option D) = [none, none, none, none, none, none, none, none, none, none, none, none, none, none, none, none, none, none, none, none, none, none, none, none, none, none] := rfl
theorem rn27 : List.replicate 27 (none : Option D) = [none, none, none, none, none, none, none, none, none, none, none, none, none, none, none, none, none, none, none, none, none, none, none, none, none, none, none] := rfl
theorem rn28 : List.replicate 28 (none : Option D) = [none, none, none, none, none, none, none, none, none, none, none, none, none, none, none, none, none, none, none, none, none, none, none, none, none, none, none, none] := rfl
theorem rn29 : List.replicate 29 (none : Option D) = [none, none, none, none, none, none, none, none, none, none, none, none, none, none, none, none, none, none, none, none, none, none, none, none, none, none, none, none, none] := rfl
/-! ### slots -/
section
variable {d : D} {s : Store} {σ : Env} {x0 x1 x2 x3 x4 x5 x6 x7 x8 x9 x10 x11 x12 x13 x14 x15 x16 x17 x18 x19 x20 x21 x22 x23 x24 : Option D}
theorem v0 : eVar 0 (some d :: σ) s = .ok d s := rfl
theorem g0 : gN 0 d (x0 :: σ) s = .ok (some d :: σ) s := rfl
theorem w0 : List.set (x0 :: σ) 0 (some d) = (some d :: σ) := rfl
theorem u0 : List.set (x0 :: σ) 0 none = (none :: σ) := rfl
theorem v1 : eVar 1 (x0 :: some d :: σ) s = .ok d s := rfl
theorem g1 : gN 1 d (x0 :: x1 :: σ) s = .ok (x0 :: some d :: σ) s := rfl
theorem w1 : List.set (x0 :: x1 :: σ) 1 (some d) = (x0 :: some d :: σ) := rfl
theorem u1 : List.set (x0 :: x1 :: σ) 1 none = (x0 :: none :: σ) := rfl
theorem v2 : eVar 2 (x0 :: x1 :: some d :: σ) s = .ok d s := rfl
theorem g2 : gN 2 d (x0 :: x1 :: x2 :: σ) s = .ok (x0 :: x1 :: some d :: σ) s := rfl
theorem w2 : List.set (x0 :: x1 :: x2 :: σ) 2 (some d) = (x0 :: x1 :: some d :: σ) := rfl
theorem u2 : List.set (x0 :: x1 :: x2 :: σ) 2 none = (x0 :: x1 :: none :: σ) := rfl
theorem v3 : eVar 3 (x0 :: x1 :: x2 :: some d :: σ) s = .ok d s := rfl
theorem g3 : gN 3 d (x0 :: x1 :: x2 :: x3 :: σ) s = .ok (x0 :: x1 :: x2 :: some d :: σ) s := rfl
theorem w3 : List.set (x0 :: x1 :: x2 :: x3 :: σ) 3 (some d) = (x0 :: x1 :: x2 :: some d :: σ) := rfl
theorem u3 : List.set (x0 :: x1 :: x2 :: x3 :: σ) 3 none = (x0 :: x1 :: x2 :: none :: σ) := rfl
theorem v4 : eVar 4 (x0 :: x1 :: x2 :: x3 :: some d :: σ) s = .ok d s := rfl
theorem g4 : gN 4 d (x0 :: x1 :: x2 :: x3 :: x4 :: σ) s = .ok (x0 :: x1 :: x2 :: x3 :: some d :: σ) s := rfl
theorem w4 : List.set (x0 :: x1 :: x2 :: x3 :: x4 :: σ) 4 (some d) = (x0 :: x1 :: x2 :: x3 :: some d :: σ) := rfl
theorem u4 : List.set (x0 :: x1 :: x2 :: x3 :: x4 :: σ) 4 none = (x0 :: x1 :: x2 :: x3 :: none :: σ) := rfl
theorem v5 : eVar 5 (x0 :: x1 :: x2 :: x3 :: x4 :: some d :: σ) s = .ok d s := rfl
theorem g5 : gN 5 d (x0 :: x1 :: x2 :: x3 :: x4 :: x5 :: σ) s = .ok (x0 :: x1 :: x2 :: x3 :: x4 :: some d :: σ) s := rfl
theorem w5 : List.set (x0 :: x1 :: x2 :: x3 :: x4 :: x5 :: σ) 5 (some d) = (x0 :: x1 :: x2 :: x3 :: x4 :: some d :: σ) := rfl
theorem u5 : List.set (x0 :: x1 :: x2 :: x3 :: x4 :: x5 :: σ) 5 none = (x0 :: x1 :: x2 :: x3 :: x4 :: none :: σ) := rfl
theorem v6 : eVar 6 (x0 :: x1 :: x2 :: x3 :: x4 :: x5 :: some d :: σ) s = .ok d s := rfl
theorem g6 : gN 6 d (x0 :: x1 :: x2 :: x3 :: x4 :: x5 :: x6 :: σ) s = .ok (x0 :: x1 :: x2 :: x3 :: x4 :: x5 :: some d :: σ) s := rfl
theorem w6 : List.set (x0 :: x1 :: x2 :: x3 :: x4 :: x5 :: x6 :: σ) 6 (some d) = (x0 :: x1 :: x2 :: x3 :: x4 :: x5 :: some d :: σ) := rfl
theorem u6 : List.set (x0 :: x1 :: x2 :: x3 :: x4 :: x5 :: x6 :: σ) 6 none = (x0 :: x1 :: x2 :: x3 :: x4 :: x5 :: none :: σ) := rfl
theorem v7 : eVar 7 (x0 :: x1 :: x2 :: x3 :: x4 :: x5 :: x6 :: some d :: σ) s = .ok d s := rfl
theorem g7 : gN 7 d (x0 :: x1 :: x2 :: x3 :: x4 :: x5 :: x6 :: x7 :: σ) s = .ok (x0 :: x1 :: x2 :: x3 :: x4 :: x5 :: x6 :: some d :: σ) s := rfl
theorem w7 : List.set (x0 :: x1 :: x2 :: x3 :: x4 :: x5 :: x6 :: x7 :: σ) 7 (some d) = (x0 :: x1 :: x2 :: x3 :: x4 :: x5 :: x6 :: some d :: σ) := rfl
theorem u7 : List.set (x0 :: x1 :: x2 :: x3 :: x4 :: x5 :: x6 :: x7 :: σ) 7 none = (x0 :: x1 :: x2 :: x3 :: x4 :: x5 :: x6 :: none :: σ) := rfl
theorem v8 : eVar 8 (x0 :: x1 :: x2 :: x3 :: x4 :: x5 :: x6 :: x7 :: some d :: σ) s = .ok d s := rfl
theorem g8 : gN 8 d (x0 :: x1 :: x2 :: x3 :: x4 :: x5 :: x6 :: x7 :: x8 :: σ) s = .ok (x0 :: x1 :: x2 :: x3 :: x4 :: x5 :: x6 :: x7 :: some d :: σ) s := rfl
theorem w8 : List.set (x0 :: x1 :: x2 :: x3 :: x4 :: x5 :: x6 :: x7 :: x8 :: σ) 8 (some d) = (x0 :: x1 :: x2 :: x3 :: x4 :: x5 :: x6 :: x7 :: some d :: σ) := rfl
theorem u8 : List.set (x0 :: x1 :: x2 :: x3 :: x4 :: x5 :: x6 :: x7 :: x8 :: σ) 8 none = (x0 :: x1 :: x2 :: x3 :: x4 :: x5 :: x6 :: x7 :: none :: σ) := rfl
theorem v9 : eVar 9 (x0 :: x1 :: x2 :: x3 :: x4 :: x5 :: x6 :: x7 :: x8 :: some d :: σ) s = .ok d s := rfl
theorem g9 : gN 9 d (x0 :: x1 :: x2 :: x3 :: x4 :: x5 :: x6 :: x7 :: x8 :: x9 :: σ) s = .ok (x0 :: x1 :: x2 :: x3 :: x4 :: x5 :: x6 :: x7 :: x8 :: some d :: σ) s := rfl
theorem w9 : List.set (x0 :: x1 :: x2 :: x3 :: x4 :: x5 :: x6 :: x7 :: x8 :: x9 :: σ) 9 (some d) = (x0 :: x1 :: x2 :: x3 :: x4 :: x5 :: x6 :: x7 :: x8 :: some d :: σ) := rfl
theorem u9 : List.set (x0 :: x1 :: x2 :: x3 :: x4 :: x5 :: x6 :: x7 :: x8 :: x9 :: σ) 9 none = (x0 :: x1 :: x2 :: x3 :: x4 :: x5 :: x6 :: x7 :: x8 :: none :: σ) := rfl
theorem v10 : eVar 10 (x0 :: x1 :: x2 :: x3 :: x4 :: x5 :: x6 :: x7 :: x8 :: x9 :: some d :: σ) s = .ok d s := rfl
theorem g10 : gN 10 d (x0 :: x1 :: x2 :: x3 :: x4 :: x5 :: x6 :: x7 :: x8 :: x9 :: x10 :: σ) s = .ok (x0 :: x1 :: x2 :: x3 :: x4 :: x5 :: x6 :: x7 :: x8 :: x9 :: some d :: σ) s := rfl
theorem w10 : List.set (x0 :: x1 :: x2 :: x3 :: x4 :: x5 :: x6 :: x7 :: x8 :: x9 :: x10 :: σ) 10 (some d) = (x0 :: x1 :: x2 :: x3 :: x4 :: x5 :: x6 :: x7 :: x8 :: x9 :: some d :: σ) := rfl
theorem u10 : List.set (x0 :: x1 :: x2 :: x3 :: x4 :: x5 :: x6 :: x7 :: x8 :: x9 :: x10 :: σ) 10 none = (x0 :: x1 :: x2 :: x3 :: x4 :: x5 :: x6 :: x7 :: x8 :: x9 :: none :: σ) := rfl
theorem v11 : eVar 11 (x0 :: x1 :: x2 :: x3 :: x4 :: x5 :: x6 :: x7 :: x8 :: x9 :: x10 :: some d :: σ) s = .ok d s := rfl
theorem g11 : gN 11 d (x0 :: x1 :: x2 :: x3 :: x4 :: x5 :: x6 :: x7 :: x8 :: x9 :: x10 :: x11 :: σ) s = .ok (x0 :: x1 :: x2 :: x3 :: x4 :: x5 :: x6 :: x7 :: x8 :: x9 :: x10 :: some d :: σ) s := rfl
theorem w11 : List.set (x0 :: x1 :: x2 :: x3 :: x4 :: x5 :: x6 :: x7 :: x8 :: x9 :: x10 :: x11 :: σ) 11 (some d) = (x0 :: x1 :: x2 :: x3 :: x4 :: x5 :: x6 :: x7 :: x8 :: x9 :: x10 :: some d :: σ) := rfl
theorem u11 : List.set (x0 :: x1 :: x2 :: x3 :: x4 :: x5 :: x6 :: x7 :: x8 :: x9 :: x10 :: x11 :: σ) 11 none = (x0 :: x1 :: x2 :: x3 :: x4 :: x5 :: x6 :: x7 :: x8 :: x9 :: x10 :: none :: σ) := rfl
theorem v12 : eVar 12 (x0 :: x1 :: x2 :: x3 :: x4 :: x5 :: x6 :: x7 :: x8 :: x9 :: x10 :: x11 :: some d :: σ) s = .ok d s := rfl
theorem g12 : gN 12 d (x0 :: x1 :: x2 :: x3 :: x4 :: x5 :: x6 :: x7 :: x8 :: x9 :: x10 :: x11 :: x12 :: σ) s = .ok (x0 :: x1 :: x2 :: x3 :: x4 :: x5 :: x6 :: x7 :: x8 :: x9 :: x10 :: x11 :: some d :: σ) s := rfl
theorem w12 : List.set (x0 :: x1 :: x2 :: x3 :: x4 :: x5 :: x6 :: x7 :: x8 :: x9 :: x10 :: x11 :: x12 :: σ) 12 (some d) = (x0 :: x1 :: x2 :: x3 :: x4 :: x5 :: x6 :: x7 :: x8 :: x9 :: x10 :: x11 :: some d :: σ) := rfl
theorem u12 : List.set (x0 :: x1 :: x2 :: x3 :: x4 :: x5 :: x6 :: x7 :: x8 :: x9 :: x10 :: x11 :: x12 :: σ) 12 none = (x0 :: x1 :: x2 :: x3 :: x4 :: x5 :: x6 :: x7 :: x8 :: x9 :: x10 :: x11 :: none :: σ) := rfl
theorem v13 : eVar 13 (x0 :: x1 :: x2 :: x3 :: x4 :: x5 :: x6 :: x7 :: x8 :: x9 :: x10 :: x11 :: x12 :: some d :: σ) s = .ok d s := rfl
theorem g13 : gN 13 d (x0 :: x1 :: x2 :: x3 :: x4 :: x5 :: x6 :: x7 :: x8 :: x9 :: x10 :: x11 :: x12 :: x13 :: σ) s = .ok (x0 :: x1 :: x2 :: x3 :: x4 :: x5 :: x6 :: x7 :: x8 :: x9 :: x10 :: x11 :: x12 :: some d :: σ) s := rfl
theorem w13 : List.set (x0 :: x1 :: x2 :: x3 :: x4 :: x5 :: x6 :: x7 :: x8 :: x9 :: x10 :: x11 :: x12 :: x13 :: σ) 13 (some d) = (x0 :: x1 :: x2 :: x3 :: x4 :: x5 :: x6 :: x7 :: x8 :: x9 :: x10 :: x11 :: x12 :: some d :: σ) := rfl
theorem u13 : List.set (x0 :: x1 :: x2 :: x3 :: x4 :: x5 :: x6 :: x7 :: x8 :: x9 :: x10 :: x11 :: x12 :: x13 :: σ) 13 none = (x0 :: x1 :: x2 :: x3 :: x4 :: x5 :: x6 :: x7 :: x8 :: x9 :: x10 :: x11 :: x12 :: none :: σ) := rfl
theorem v14 : eVar 14 (x0 :: x1 :: x2 :: x3 :: x4 :: x5 :: x6 :: x7 :: x8 :: x9 :: x10 :: x11 :: x12 :: x13 :: some d :: σ) s = .ok d s := rfl
theorem g14 : gN 14 d (x0 :: x1 :: x2 :: x3 :: x4 :: x5 :: x6 :: x7 :: x8 :: x9 :: x10 :: x11 :: x12 :: x13 :: x14 :: σ) s = .ok (x0 :: x1 :: x2 :: x3 :: x4 :: x5 :: x6 :: x7 :: x8 :: x9 :: x10 :: x11 :: x12 :: x13 :: some d :: σ) s := rfl
theorem w14 : List.set (x0 :: x1 :: x2 :: x3 :: x4 :: x5 :: x6 :: x7 :: x8 :: x9 :: x10 :: x11 :: x12 :: x13 :: x14 :: σ) 14 (some d) = (x0 :: x1 :: x2 :: x3 :: x4 :: x5 :: x6 :: x7 :: x8 :: x9 :: x10 :: x11 :: x12 :: x13 :: some d :: σ) := rfl
theorem u14 : List.set (x0 :: x1 :: x2 :: x3 :: x4 :: x5 :: x6 :: x7 :: x8 :: x9 :: x10 :: x11 :: x12 :: x13 :: x14 :: σ) 14 none = (x0 :: x1 :: x2 :: x3 :: x4 :: x5 :: x6 :: x7 :: x8 :: x9 :: x10 :: x11 :: x12 :: x13 :: none :: σ) := rfl
theorem v15 : eVar 15 (x0 :: x1 :: x2 :: x3 :: x4 :: x5 :: x6 :: x7 :: x8 :: x9 :: x10 :: x11 :: x12 :: x13 :: x14 :: some d :: σ) s = .ok d s := rfl
theorem g15 : gN 15 d (x0 :: x1 :: x2 :: x3 :: x4 :: x5 :: x6 :: x7 :: x8 :: x9 :: x10 :: x11 :: x12 :: x13 :: x14 :: x15 :: σ) s = .ok (x0 :: x1 :: x2 :: x3 :: x4 :: x5 :: x6 :: x7 :: x8 :: x9 :: x10 :: x11 :: x12 :: x13 :: x14 :: some d :: σ) s := rfl
theorem w15 : List.set (x0 :: x1 :: x2 :: x3 :: x4 :: x5 :: x6 :: x7 :: x8 :: x9 :: x10 :: x11 :: x12 :: x13 :: x14 :: x15 :: σ) 15 (some d) = (x0 :: x1 :: x2 :: x3 :: x4 :: x5 :: x6 :: x7 :: x8 :: x9 :: x10 :: x11 :: x12 :: x13 :: x14 :: some d :: σ) := rfl
theorem u15 : List.set (x0 :: x1 :: x2 :: x3 :: x4 :: x5 :: x6 :: x7 :: x8 :: x9 :: x10 :: x11 :: x12 :: x13 :: x14 :: x15 :: σ) 15 none = (x0 :: x1 :: x2 :: x3 :: x4 :: x5 :: x6 :: x7 :: x8 :: x9 :: x10 :: x11 :: x12 :: x13 :: x14 :: none :: σ) := rfl
theorem v16 : eVar 16 (x0 :: x1 :: x2 :: x3 :: x4 :: x5 :: x6 :: x7 :: x8 :: x9 :: x10 :: x11 :: x12 :: x13 :: x14 :: x15 :: some d :: σ) s = .ok d s := rfl
theorem g16 : gN 16 d (x0 :: x1 :: x2 :: x3 :: x4 :: x5 :: x6 :: x7 :: x8 :: x9 :: x10 :: x11 :: x12 :: x13 :: x14 :: x15 :: x16 :: σ) s = .ok (x0 :: x1 :: x2 :: x3 :: x4 :: x5 :: x6 :: x7 :: x8 :: x9 :: x10 :: x11 :: x12 :: x13 :: x14 :: x15 :: some d :: σ) s := rfl
theorem w16 : List.set (x0 :: x1 :: x2 :: x3 :: x4 :: x5 :: x6 :: x7 :: x8 :: x9 :: x10 :: x11 :: x12 :: x13 :: x14 :: x15 :: x16 :: σ) 16 (some d) = (x0 :: x1 :: x2 :: x3 :: x4 :: x5 :: x6 :: x7 :: x8 :: x9 :: x10 :: x11 :: x12 :: x13 :: x14 :: x15 :: some d :: σ) := rfl
theorem u16 : List.set (x0 :: x1 :: x2 :: x3 :: x4 :: x5 :: x6 :: x7 :: x8 :: x9 :: x10 :: x11 :: x12 :: x13 :: x14 :: x15 :: x16 :: σ) 16 none = (x0 :: x1 :: x2 :: x3 :: x4 :: x5 :: x6 :: x7 :: x8 :: x9 :: x10 :: x11 :: x12 :: x13 :: x14 :: x15 :: none :: σ) := rfl
theorem v17 : eVar 17 (x0 :: x1 :: x2 :: x3 :: x4 :: x5 :: x6 :: x7 :: x8 :: x9 :: x10 :: x11 :: x12 :: x13 :: x14 :: x15 :: x16 :: some d :: σ) s = .ok d s := rfl
theorem g17 : gN 17 d (x0 :: x1 :: x2 :: x3 :: x4 :: x5 :: x6 :: x7 :: x8 :: x9 :: x10 :: x11 :: x12 :: x13 :: x14 :: x15 :: x16 :: x17 :: σ) s = .ok (x0 :: x1 :: x2 :: x3 :: x4 :: x5 :: x6 :: x7 :: x8 :: x9 :: x10 :: x11 :: x12 :: x13 :: x14 :: x15 :: x16 :: some d :: σ) s := rfl
theorem w17 : List.set (x0 :: x1 :: x2 :: x3 :: x4 :: x5 :: x6 :: x7 :: x8 :: x9 :: x10 :: x11 :: x12 :: x13 :: x14 :: x15 :: x16 :: x17 :: σ) 17 (some d) = (x0 :: x1 :: x2 :: x3 :: x4 :: x5 :: x6 :: x7 :: x8 :: x9 :: x10 :: x11 :: x12 :: x13 :: x14 :: x15 :: x16 :: some d :: σ) := rfl
theorem u17 : List.set (x0 :: x1 :: x2 :: x3 :: x4 :: x5 :: x6 :: x7 :: x8 :: x9 :: x10 :: x11 :: x12 :: x13 :: x14 :: x15 :: x16 :: x17 :: σ) 17 none = (x0 :: x1 :: x2 :: x3 :: x4 :: x5 :: x6 :: x7 :: x8 :: x9 :: x10 :: x11 :: x12 :: x13 :: x14 :: x15 :: x16 :: none :: σ) := rfl
theorem v18 : eVar 18 (x0 :: x1 :: x2 :: x3 :: x4 :: x5 :: x6 :: x7 :: x8 :: x9 :: x10 :: x11 :: x12 :: x13 :: x14 :: x15 :: x16 :: x17 :: some d :: σ) s = .ok d s := rfl
theorem g18 : gN 18 d (x0 :: x1 :: x2 :: x3 :: x4 :: x5 :: x6 :: x7 :: x8 :: x9 :: x10 :: x11 :: x12 :: x13 :: x14 :: x15 :: x16 :: x17 :: x18 :: σ) s = .ok (x0 :: x1 :: x2 :: x3 :: x4 :: x5 :: x6 :: x7 :: x8 :: x9 :: x10 :: x11 :: x12 :: x13 :: x14 :: x15 :: x16 :: x17 :: some d :: σ) s := rfl
theorem w18 : List.set (x0 :: x1 :: x2 :: x3 :: x4 :: x5 :: x6 :: x7 :: x8 :: x9 :: x10 :: x11 :: x12 :: x13 :: x14 :: x15 :: x16 :: x17 :: x18 :: σ) 18 (some d) = (x0 :: x1 :: x2 :: x3 :: x4 :: x5 :: x6 :: x7 :: x8 :: x9 :: x10 :: x11 :: x12 :: x13 :: x14 :: x15 :: x16 :: x17 :: some d :: σ) := rfl
theorem u18 : List.set (x0 :: x1 :: x2 :: x3 :: x4 :: x5 :: x6 :: x7 :: x8 :: x9 :: x10 :: x11 :: x12 :: x13 :: x14 :: x15 :: x16 :: x17 :: x18 :: σ) 18 none = (x0 :: x1 :: x2 :: x3 :: x4 :: x5 :: x6 :: x7 :: x8 :: x9 :: x10 :: x11 :: x12 :: x13 :: x14 :: x15 :: x16 :: x17 :: none :: σ) := rfl
theorem v19 : eVar 19 (x0 :: x1 :: x2 :: x3 :: x4 :: x5 :: x6 :: x7 :: x8 :: x9 :: x10 :: x11 :: x12 :: x13 :: x14 :: x15 :: x16 :: x17 :: x18 :: some d :: σ) s = .ok d s := rfl
theorem g19 : gN 19 d (x0 :: x1 :: x2 :: x3 :: x4 :: x5 :: x6 :: x7 :: x8 :: x9 :: x10 :: x11 :: x12 :: x13 :: x14 :: x15 :: x16 :: x17 :: x18 :: x19 :: σ) s = .ok (x0 :: x1 :: x2 :: x3 :: x4 :: x5 :: x6 :: x7 :: x8 :: x9 :: x10 :: x11 :: x12 :: x13 :: x14 :: x15 :: x16 :: x17 :: x18 :: some d :: σ) s := rfl
theorem w19 : List.set (x0 :: x1 :: x2 :: x3 :: x4 :: x5 :: x6 :: x7 :: x8 :: x9 :: x10 :: x11 :: x12 :: x13 :: x14 :: x15 :: x16 :: x17 :: x18 :: x19 :: σ) 19 (some d) = (x0 :: x1 :: x2 :: x3 :: x4 :: x5 :: x6 :: x7 :: x8 :: x9 :: x10 :: x11 :: x12 :: x13 :: x14 :: x15 :: x16 :: x17 :: x18 :: some d :: σ) := rfl
theorem u19 : List.set (x0 :: x1 :: x2 :: x3 :: x4 :: x5 :: x6 :: x7 :: x8 :: x9 :: x10 :: x11 :: x12 :: x13 :: x14 :: x15 :: x16 :: x17 :: x18 :: x19 :: σ) 19 none = (x0 :: x1 :: x2 :: x3 :: x4 :: x5 :: x6 :: x7 :: x8 :: x9 :: x10 :: x11 :: x12 :: x13 :: x14 :: x15 :: x16 :: x17 :: x18 :: none :: σ) := rfl
theorem v20 : eVar 20 (x0 :: x1 :: x2 :: x3 :: x4 :: x5 :: x6 :: x7 :: x8 :: x9 :: x10 :: x11 :: x12 :: x13 :: x14 :: x15 :: x16 :: x17 :: x18 :: x19 :: some d :: σ) s = .ok d s := rfl
theorem g20 : gN 20 d (x0 :: x1 :: x2 :: x3 :: x4 :: x5 :: x6 :: x7 :: x8 :: x9 :: x10 :: x11 :: x12 :: x13 :: x14 :: x15 :: x16 :: x17 :: x18 :: x19 :: x20 :: σ) s = .ok (x0 :: x1 :: x2 :: x3 :: x4 :: x5 :: x6 :: x7 :: x8 :: x9 :: x10 :: x11 :: x12 :: x13 :: x14 :: x15 :: x16 :: x17 :: x18 :: x19 :: some d :: σ) s := rfl
theorem w20 : List.set (x0 :: x1 :: x2 :: x3 :: x4 :: x5 :: x6 :: x7 :: x8 :: x9 :: x10 :: x11 :: x12 :: x13 :: x14 :: x15 :: x16 :: x17 :: x18 :: x19 :: x20 :: σ) 20 (some d) = (x0 :: x1 :: x2 :: x3 :: x4 :: x5 :: x6 :: x7 :: x8 :: x9 :: x10 :: x11 :: x12 :: x13 :: x14 :: x15 :: x16 :: x17 :: x18 :: x19 :: some d :: σ) := rfl
theorem u20 : List.set (x0 :: x1 :: x2 :: x3 :: x4 :: x5 :: x6 :: x7 :: x8 :: x9 :: x10 :: x11 :: x12 :: x13 :: x14 :: x15 :: x16 :: x17 :: x18 :: x19 :: x20 :: σ) 20 none = (x0 :: x1 :: x2 :: x3 :: x4 :: x5 :: x6 :: x7 :: x8 :: x9 :: x10 :: x11 :: x12 :: x13 :: x14 :: x15 :: x16 :: x17 :: x18 :: x19 :: none :: σ) := rfl
theorem v21 : eVar 21 (x0 :: x1 :: x2 :: x3 :: x4 :: x5 :: x6 :: x7 :: x8 :: x9 :: x10 :: x11 :: x12 :: x13 :: x14 :: x15 :: x16 :: x17 :: x18 :: x19 :: x20 :: some d :: σ) s = .ok d s := rfl
theorem g21 : gN 21 d (x0 :: x1 :: x2 :: x3 :: x4 :: x5 :: x6 :: x7 :: x8 :: x9 :: x10 :: x11 :: x12 :: x13 :: x14 :: x15 :: x16 :: x17 :: x18 :: x19 :: x20 :: x21 :: σ) s = .ok (x0 :: x1 :: x2 :: x3 :: x4 :: x5 :: x6 :: x7 :: x8 :: x9 :: x10 :: x11 :: x12 :: x13 :: x14 :: x15 :: x16 :: x17 :: x18 :: x19 :: x20 :: some d :: σ) s := rfl
theorem w21 : List.set (x0 :: x1 :: x2 :: x3 :: x4 :: x5 :: x6 :: x7 :: x8 :: x9 :: x10 :: x11 :: x12 :: x13 :: x14 :: x15 :: x16 :: x17 :: x18 :: x19 :: x20 :: x21 :: σ) 21 (some d) = (x0 :: x1 :: x2 :: x3 :: x4 :: x5 :: x6 :: x7 :: x8 :: x9 :: x10 :: x11 :: x12 :: x13 :: x14 :: x15 :: x16 :: x17 :: x18 :: x19 :: x20 :: some d :: σ) := rfl
theorem u21 : List.set (x0 :: x1 :: x2 :: x3 :: x4 :: x5 :: x6 :: x7 :: x8 :: x9 :: x10 :: x11 :: x12 :: x13 :: x14 :: x15 :: x16 :: x17 :: x18 :: x19 :: x20 :: x21 :: σ) 21 none = (x0 :: x1 :: x2 :: x3 :: x4 :: x5 :: x6 :: x7 :: x8 :: x9 :: x10 :: x11 :: x12 :: x13 :: x14 :: x15 :: x16 :: x17 :: x18 :: x19 :: x20 :: none :: σ) := rfl
theorem v22 : eVar 22 (x0 :: x1 :: x2 :: x3 :: x4 :: x5 :: x6 :: x7 :: x8 :: x9 :: x10 :: x11 :: x12 :: x13 :: x14 :: x15 :: x16 :: x17 :: x18 :: x19 :: x20 :: x21 :: some d :: σ) s = .ok d s := rfl
theorem g22 : gN 22 d (x0 :: x1 :: x2 :: x3 :: x4 :: x5 :: x6 :: x7 :: x8 :: x9 :: x10 :: x11 :: x12 :: x13 :: x14 :: x15 :: x16 :: x17 :: x18 :: x19 :: x20 :: x21 :: x22 :: σ) s = .ok (x0 :: x1 :: x2 :: x3 :: x4 :: x5 :: x6 :: x7 :: x8 :: x9 :: x10 :: x11 :: x12 :: x13 :: x14 :: x15 :: x16 :: x17 :: x18 :: x19 :: x20 :: x21 :: some d :: σ) s := rfl
theorem w22 : List.set (x0 :: x1 :: x2 :: x3 :: x4 :: x5 :: x6 :: x7 :: x8 :: x9 :: x10 :: x11 :: x12 :: x13 :: x14 :: x15 :: x16 :: x17 :: x18 :: x19 :: x20 :: x21 :: x22 :: σ) 22 (some d) = (x0 :: x1 :: x2 :: x3 :: x4 :: x5 :: x6 :: x7 :: x8 :: x9 :: x10 :: x11 :: x12 :: x13 :: x14 :: x15 :: x16 :: x17 :: x18 :: x19 :: x20 :: x21 :: some d :: σ) := rfl
theorem u22 : List.set (x0 :: x1 :: x2 :: x3 :: x4 :: x5 :: x6 :: x7 :: x8 :: x9 :: x10 :: x11 :: x12 :: x13 :: x14 :: x15 :: x16 :: x17 :: x18 :: x19 :: x20 :: x21 :: x22 :: σ) 22 none = (x0 :: x1 :: x2 :: x3 :: x4 :: x5 :: x6 :: x7 :: x8 :: x9 :: x10 :: x11 :: x12 :: x13 :: x14 :: x15 :: x16 :: x17 :: x18 :: x19 :: x20 :: x21 :: none :: σ) := rfl
theorem v23 : eVar 23 (x0 :: x1 :: x2 :: x3 :: x4 :: x5 :: x6 :: x7 :: x8 :: x9 :: x10 :: x11 :: x12 :: x13 :: x14 :: x15 :: x16 :: x17 :: x18 :: x19 :: x20 :: x21 :: x22 :: some d :: σ) s = .ok d s := rfl
theorem g23 : gN 23 d (x0 :: x1 :: x2 :: x3 :: x4 :: x5 :: x6 :: x7 :: x8 :: x9 :: x10 :: x11 :: x12 :: x13 :: x14 :: x15 :: x16 :: x17 :: x18 :: x19 :: x20 :: x21 :: x22 :: x23 :: σ) s = .ok (x0 :: x1 :: x2 :: x3 :: x4 :: x5 :: x6 :: x7 :: x8 :: x9 :: x10 :: x11 :: x12 :: x13 :: x14 :: x15 :: x16 :: x17 :: x18 :: x19 :: x20 :: x21 :: x22 :: some d :: σ) s := rfl
theorem w23 : List.set (x0 :: x1 :: x2 :: x3 :: x4 :: x5 :: x6 :: x7 :: x8 :: x9 :: x10 :: x11 :: x12 :: x13 :: x14 :: x15 :: x16 :: x17 :: x18 :: x19 :: x20 :: x21 :: x22 :: x23 :: σ) 23 (some d) = (x0 :: x1 :: x2 :: x3 :: x4 :: x5 :: x6 :: x7 :: x8 :: x9 :: x10 :: x11 :: x12 :: x13 :: x14 :: x15 :: x16 :: x17 :: x18 :: x19 :: x20 :: x21 :: x22 :: some d :: σ) := rfl
theorem u23 : List.set (x0 :: x1 :: x2 :: x3 :: x4 :: x5 :: x6 :: x7 :: x8 :: x9 :: x10 :: x11 :: x12 :: x13 :: x14 :: x15 :: x16 :: x17 :: x18 :: x19 :: x20 :: x21 :: x22 :: x23 :: σ) 23 none = (x0 :: x1 :: x2 :: x3 :: x4 :: x5 :: x6 :: x7 :: x8 :: x9 :: x10 :: x11 :: x12 :: x13 :: x14 :: x15 :: x16 :: x17 :: x18 :: x19 :: x20 :: x21 :: x22 :: none :: σ) := rfl
theorem v24 : eVar 24 (x0 :: x1 :: x2 :: x3 :: x4 :: x5 :: x6 :: x7 :: x8 :: x9 :: x10 :: x11 :: x12 :: x13 :: x14 :: x15 :: x16 :: x17 :: x18 :: x19 :: x20 :: x21 :: x22 :: x23 :: some d :: σ) s = .ok d s := rfl
theorem g24 : gN 24 d (x0 :: x1 :: x2 :: x3 :: x4 :: x5 :: x6 :: x7 :: x8 :: x9 :: x10 :: x11 :: x12 :: x13 :: x14 :: x15 :: x16 :: x17 :: x18 :: x19 :: x20 :: x21 :: x22 :: x23 :: x24 :: σ) s = .ok (x0 :: x1 :: x2 :: x3 :: x4 :: x5 :: x6 :: x7 :: x8 :: x9 :: x10 :: x11 :: x12 :: x13 :: x14 :: x15 :: x16 :: x17 :: x18 :: x19 :: x20 :: x21 :: x22 :: x23 :: some d :: σ) s := rfl
theorem w24 : List.set (x0 :: x1 :: x2 :: x3 :: x4 :: x5 :: x6 :: x7 :: x8 :: x9 :: x10 :: x11 :: x12 :: x13 :: x14 :: x15 :: x16 :: x17 :: x18 :: x19 :: x20 :: x21 :: x22 :: x23 :: x24 :: σ) 24 (some d) = (x0 :: x1 :: x2 :: x3 :: x4 :: x5 :: x6 :: x7 :: x8 :: x9 :: x10 :: x11 :: x12 :: x13 :: x14 :: x15 :: x16 :: x17 :: x18 :: x19 :: x20 :: x21 :: x22 :: x23 :: some d :: σ) := rfl
theorem u24 : List.set (x0 :: x1 :: x2 :: x3 :: x4 :: x5 :: x6 :: x7 :: x8 :: x9 :: x10 :: x11 :: x12 :: x13 :: x14 :: x15 :: x16 :: x17 :: x18 :: x19 :: x20 :: x21 :: x22 :: x23 :: x24 :: σ) 24 none = (x0 :: x1 :: x2 :: x3 :: x4 :: x5 :: x6 :: x7 :: x8 :: x9 :: x10 :: x11 :: x12 :: x13 :: x14 :: x15 :: x16 :: x17 :: x18 :: x19 :: x20 :: x21 :: x22 :: x23 :: none :: σ) := rfl
end
/-! ### values -/
section
variable {s : Store} {i j k : Int} {a b : Bool} {ds xs ys : List D}
theorem add_i : dAdd s (.int i) (.int j) = some (.int (i + j)) := rfl
theorem sub_i : dSub s (.int i) (.int j) = some (.int (i - j)) := rfl
theorem mul_i : dMul s (.int i) (.int j) = if (-big < i ∧ i < big) ∨ (-big < j ∧ j < big) then some (.int (i * j)) else none := rfl
theorem mul_r (h : (-big < j ∧ j < big)) : dMul s (.int i) (.int j) = some (.int (i * j)) := by rw [mul_i, if_pos (.inr h)]
theorem mul_l (h : (-big < i ∧ i < big)) : dMul s (.int i) (.int j) = some (.int (i * j)) := by rw [mul_i, if_pos (.inl h)]
theorem div_i (h : 0 < j ∧ j < big * big) : dDiv s (.int i) (.int j) = some (.int (i / j)) := if_pos h
theorem mod_i (h : 0 < j) : dMod s (.int i) (.int j) = some (.int (i % j)) := if_pos h
theorem pow_i : dPow s (.int i) (.int j) = if 0 ≤ j ∧ j ≤ 1000000 ∧ -big < i ∧ i < big then some (.int (i ^ j.toNat)) else none := rfl
theorem neg_i : dNeg s (.int i) = some (.int (-i)) := rfl
theorem lt_i : dLt s (.int i) (.int j) = some (.bl (decide (i < j))) := rfl
theorem le_i : dLe s (.int i) (.int j) = some (.bl (decide (i ≤ j))) := rfl
theorem gt_i : dGt s (.int i) (.int j) = some (.bl (decide (j < i))) := rfl
theorem ge_i : dGe s (.int i) (.int j) = some (.bl (decide (j ≤ i))) := rfl
theorem eqv_int {i j : Int} : PyData.eqv (.int i) (.int j) = decide (i = j) := by
  have : PyData.eqv (.int i) (.int j) = (i == j) := by simp [PyData.eqv]
  rw [this]
  by_cases h : i = j <;> simp [h]
theorem eq_i : dEq s (.int i) (.int j) = some (.bl (decide (i = j))) := by
  show (if SeqAt.shaped (.int i) = true ∧ SeqAt.shaped (.int j) = true then some (PyData.eqv (.int i) (.int j)) else none).map D.bl = _
  rw [if_pos ⟨rfl, rfl⟩, eqv_int]; rfl
theorem ne_i : dNe s (.int i) (.int j) = some (.bl (!decide (i = j))) := by
  show (if SeqAt.shaped (.int i) = true ∧ SeqAt.shaped (.int j) = true then some (PyData.eqv (.int i) (.int j)) else none).map (fun b => D.bl (!b)) = _
  rw [if_pos ⟨rfl, rfl⟩, eqv_int]; rfl
theorem eq_s {u v : Str} : dEq s (.str u) (.str v) = some (.bl (decide (u = v))) := rfl
theorem ne_s {u v : Str} : dNe s (.str u) (.str v) = some (.bl (!decide (u = v))) := rfl
theorem isi_ii : dIsi "int" s (.int i) = some (.bl true) := rfl
theorem isi_bi : dIsi "bool" s (.int i) = some (.bl false) := rfl
theorem isi_ti : dIsi "tuple" s (.int i) = some (.bl false) := rfl
theorem isi_tt : dIsi "tuple" s (.tup ds) = some (.bl true) := rfl
theorem isi_it : dIsi "int" s (.tup ds) = some (.bl false) := rfl
theorem isi_bt : dIsi "bool" s (.tup ds) = some (.bl false) := rfl
theorem abs_i : fAbs s [.int i] = some (.int (if i < 0 then -i else i)) := rfl
theorem min_i : fMin s [.int i, .int j] = some (.int (if j < i then j else i)) := rfl
theorem max_i : fMax s [.int i, .int j] = some (.int (if j > i then j else i)) := rfl
theorem int_i : fInt s [.int i] = some (.int i) := rfl
theorem len_t : fLen s [.tup ds] = some (.int ds.length) := rfl
theorem len_l : fLen s [.lst ds] = some (.int ds.length) := rfl
theorem item_t : dItem s (.tup ds) (.int i) = atI ds i := rfl
theorem item_l : dItem s (.lst ds) (.int i) = atI ds i := rfl
theorem list_l : fList s [.lst ds] = some (.lst ds) := rfl
theorem list_t : fList s [.tup ds] = some (.lst ds) := rfl
theorem list_s : fList s [.scr ds] = some (.lst ds) := rfl
theorem tup_l : fTuple s [.lst ds] = some (.tup ds) := rfl
theorem tup_t : fTuple s [.tup ds] = some (.tup ds) := rfl
theorem addL : dAdd s (.lst xs) (.lst ys) = if xs.length + ys.length ≤ sz then some (.lst (xs ++ ys)) else none := rfl
theorem mulL : dMul s (.lst xs) (.int k) = if 0 ≤ k ∧ k < 1000000 ∧ xs.length * k.toNat ≤ sz then some (.lst (List.replicate k.toNat xs).flatten) else none := rfl
theorem addT : dAdd s (.tup xs) (.tup ys) = if xs.length + ys.length ≤ sz then some (.tup (xs ++ ys)) else none := rfl
end
end Mn

namespace Mn
open PySem PySem.Spec PyProof.Rows L2

/-! ### the cup of draws -/
structure Cup where
  a : Int
  b : Int
  ha : 0 ≤ a
  hb : 0 ≤ b
  hb2 : b < 4294967296
def cupS (c : Cup) : Store := [.lst [.int c.a, .int c.b]]
theorem cup_get (c : Cup) : (cupS c)[0]? = some (.lst [.int c.a, .int c.b]) := rfl
theorem cup_a (c : Cup) : dItem (cupS c) (.ref 0) (.int 0) = some (.int c.a) := rfl
theorem cup_b (c : Cup) : dItem (cupS c) (.ref 0) (.int 1) = some (.int c.b) := rfl
theorem cup_item {a b : Int} : dItem [.lst [.int a, .int b]] (.ref 0) (.int 0) = some (.int a) := rfl
theorem cup_item1 {a b : Int} : dItem [.lst [.int a, .int b]] (.ref 0) (.int 1) = some (.int b) := rfl
theorem cup_set {a b x : Int} : setCell [.lst [.int a, .int b]] 0 (.int 0) (.int x) = some [.lst [.int x, .int b]] := rfl
theorem cup_set1 {a b x : Int} : setCell [.lst [.int a, .int b]] 0 (.int 1) (.int x) = some [.lst [.int a, .int x]] := rfl
/-- f is a roll of the cup -/
def Rolls (f : List D → Store → Res D) : Prop := ∀ (c : Cup) (m : Int), 0 < m → m < big * big → ∃ (r : Int) (c' : Cup), 0 ≤ r ∧ r < m ∧ f [.ref 0, .int m] (cupS c) = .ok (.int r) (cupS c')
section
variable {f : List D → Store → Res D}
open Classical in
noncomputable def rollV (f : List D → Store → Res D) (c : Cup) (m : Int) : Int := if h : ∃ (r : Int) (c' : Cup), 0 ≤ r ∧ r < m ∧ f [.ref 0, .int m] (cupS c) = .ok (.int r) (cupS c') then h.choose else 0
open Classical in
noncomputable def rollC (f : List D → Store → Res D) (c : Cup) (m : Int) : Cup := if h : ∃ (r : Int) (c' : Cup), 0 ≤ r ∧ r < m ∧ f [.ref 0, .int m] (cupS c) = .ok (.int r) (cupS c') then h.choose_spec.choose else c
theorem roll_all (R : Rolls f) {c : Cup} {m : Int} (h0 : 0 < m) (h1 : m < big * big) : 0 ≤ rollV f c m ∧ rollV f c m < m ∧ f [.ref 0, .int m] (cupS c) = .ok (.int (rollV f c m)) (cupS (rollC f c m)) := by
  have h := R c m h0 h1
  unfold rollV rollC
  rw [dif_pos h, dif_pos h]
  exact h.choose_spec.choose_spec
theorem roll_eq (R : Rolls f) {c : Cup} {m : Int} (h0 : 0 < m) (h1 : m < big * big) : f [.ref 0, .int m] (cupS c) = .ok (.int (rollV f c m)) (cupS (rollC f c m)) := (roll_all R h0 h1).2.2
theorem roll_lo (R : Rolls f) {c : Cup} {m : Int} (h0 : 0 < m) (h1 : m < big * big) : 0 ≤ rollV f c m := (roll_all R h0 h1).1
theorem roll_hi (R : Rolls f) {c : Cup} {m : Int} (h0 : 0 < m) (h1 : m < big * big) : rollV f c m < m := (roll_all R h0 h1).2.1
theorem big_lit {m : Int} (h : m ≤ 1000000000000000000000000) : m < big * big := by unfold big; omega
/-- f picks one of things, by the roll g -/
def Picks (g f : List D → Store → Res D) : Prop := ∀ (c : Cup) (ds : List D), 0 < ds.length → ds.length ≤ 1000000000 → f [.ref 0, .lst ds] (cupS c) = .ok (ds.getD (rollV g c ds.length).toNat .non) (cupS (rollC g c ds.length))
noncomputable def pick {α : Type} (g : List D → Store → Res D) (c : Cup) (ds : List α) (z : α) : α := ds.getD (rollV g c ds.length).toNat z
theorem pick_mem {α : Type} {g : List D → Store → Res D} (R : Rolls g) {c : Cup} {ds : List α} {z : α} (h0 : 0 < ds.length) (h1 : ds.length ≤ 1000000000) : pick g c ds z ∈ ds := by
  have h2 : (0 : Int) < ds.length := by omega
  have h3 : (ds.length : Int) < big * big := by unfold big; omega
  have a := roll_lo R (c := c) h2 h3
  have b := roll_hi R (c := c) h2 h3
  have hl : (rollV g c ds.length).toNat < ds.length := by omega
  unfold pick
  rw [List.getD_eq_getElem?_getD, List.getElem?_eq_getElem hl]
  exact List.getElem_mem hl
theorem pick_int {g f : List D → Store → Res D} (R : Rolls g) (P : Picks g f) {c : Cup} {is : List Int} (h0 : 0 < is.length) (h1 : is.length ≤ 1000000000) : f [.ref 0, .lst (is.map .int)] (cupS c) = .ok (.int (pick g c is 0)) (cupS (rollC g c is.length)) := by
  have e := P c (is.map .int) (by simpa using h0) (by simpa using h1)
  rw [e, List.length_map]
  unfold pick
  rw [List.getD_eq_getElem?_getD, List.getD_eq_getElem?_getD, List.getElem?_map]
  have h2 : (0 : Int) < is.length := by omega
  have h3 : (is.length : Int) < big * big := by unfold big; omega
  have a := roll_lo R (c := c) h2 h3
  have b := roll_hi R (c := c) h2 h3
  have hl : (rollV g c is.length).toNat < is.length := by omega
  rw [List.getElem?_eq_getElem hl]
  rfl
end
theorem p1 {g f : List D → Store → Res D} (R : Rolls g) (P : Picks g f) {c : Cup} {a0 : Int} : f [.ref 0, .lst [.int a0]] (cupS c) = .ok (.int (pick g c [a0] 0)) (cupS (rollC g c 1)) := pick_int R P (c := c) (is := [a0]) (Nat.le_of_ble_eq_true rfl) (Nat.le_of_ble_eq_true rfl)
theorem p2 {g f : List D → Store → Res D} (R : Rolls g) (P : Picks g f) {c : Cup} {a0 a1 : Int} : f [.ref 0, .lst [.int a0, .int a1]] (cupS c) = .ok (.int (pick g c [a0, a1] 0)) (cupS (rollC g c 2)) := pick_int R P (c := c) (is := [a0, a1]) (Nat.le_of_ble_eq_true rfl) (Nat.le_of_ble_eq_true rfl)
theorem p3 {g f : List D → Store → Res D} (R : Rolls g) (P : Picks g f) {c : Cup} {a0 a1 a2 : Int} : f [.ref 0, .lst [.int a0, .int a1, .int a2]] (cupS c) = .ok (.int (pick g c [a0, a1, a2] 0)) (cupS (rollC g c 3)) := pick_int R P (c := c) (is := [a0, a1, a2]) (Nat.le_of_ble_eq_true rfl) (Nat.le_of_ble_eq_true rfl)
theorem p4 {g f : List D → Store → Res D} (R : Rolls g) (P : Picks g f) {c : Cup} {a0 a1 a2 a3 : Int} : f [.ref 0, .lst [.int a0, .int a1, .int a2, .int a3]] (cupS c) = .ok (.int (pick g c [a0, a1, a2, a3] 0)) (cupS (rollC g c 4)) := pick_int R P (c := c) (is := [a0, a1, a2, a3]) (Nat.le_of_ble_eq_true rfl) (Nat.le_of_ble_eq_true rfl)
theorem p5 {g f : List D → Store → Res D} (R : Rolls g) (P : Picks g f) {c : Cup} {a0 a1 a2 a3 a4 : Int} : f [.ref 0, .lst [.int a0, .int a1, .int a2, .int a3, .int a4]] (cupS c) = .ok (.int (pick g c [a0, a1, a2, a3, a4] 0)) (cupS (rollC g c 5)) := pick_int R P (c := c) (is := [a0, a1, a2, a3, a4]) (Nat.le_of_ble_eq_true rfl) (Nat.le_of_ble_eq_true rfl)
theorem p6 {g f : List D → Store → Res D} (R : Rolls g) (P : Picks g f) {c : Cup} {a0 a1 a2 a3 a4 a5 : Int} : f [.ref 0, .lst [.int a0, .int a1, .int a2, .int a3, .int a4, .int a5]] (cupS c) = .ok (.int (pick g c [a0, a1, a2, a3, a4, a5] 0)) (cupS (rollC g c 6)) := pick_int R P (c := c) (is := [a0, a1, a2, a3, a4, a5]) (Nat.le_of_ble_eq_true rfl) (Nat.le_of_ble_eq_true rfl)
theorem p7 {g f : List D → Store → Res D} (R : Rolls g) (P : Picks g f) {c : Cup} {a0 a1 a2 a3 a4 a5 a6 : Int} : f [.ref 0, .lst [.int a0, .int a1, .int a2, .int a3, .int a4, .int a5, .int a6]] (cupS c) = .ok (.int (pick g c [a0, a1, a2, a3, a4, a5, a6] 0)) (cupS (rollC g c 7)) := pick_int R P (c := c) (is := [a0, a1, a2, a3, a4, a5, a6]) (Nat.le_of_ble_eq_true rfl) (Nat.le_of_ble_eq_true rfl)
theorem p8 {g f : List D → Store → Res D} (R : Rolls g) (P : Picks g f) {c : Cup} {a0 a1 a2 a3 a4 a5 a6 a7 : Int} : f [.ref 0, .lst [.int a0, .int a1, .int a2, .int a3, .int a4, .int a5, .int a6, .int a7]] (cupS c) = .ok (.int (pick g c [a0, a1, a2, a3, a4, a5, a6, a7] 0)) (cupS (rollC g c 8)) := pick_int R P (c := c) (is := [a0, a1, a2, a3, a4, a5, a6, a7]) (Nat.le_of_ble_eq_true rfl) (Nat.le_of_ble_eq_true rfl)
theorem p9 {g f : List D → Store → Res D} (R : Rolls g) (P : Picks g f) {c : Cup} {a0 a1 a2 a3 a4 a5 a6 a7 a8 : Int} : f [.ref 0, .lst [.int a0, .int a1, .int a2, .int a3, .int a4, .int a5, .int a6, .int a7, .int a8]] (cupS c) = .ok (.int (pick g c [a0, a1, a2, a3, a4, a5, a6, a7, a8] 0)) (cupS (rollC g c 9)) := pick_int R P (c := c) (is := [a0, a1, a2, a3, a4, a5, a6, a7, a8]) (Nat.le_of_ble_eq_true rfl) (Nat.le_of_ble_eq_true rfl)
theorem p10 {g f : List D → Store → Res D} (R : Rolls g) (P : Picks g f) {c : Cup} {a0 a1 a2 a3 a4 a5 a6 a7 a8 a9 : Int} : f [.ref 0, .lst [.int a0, .int a1, .int a2, .int a3, .int a4, .int a5, .int a6, .int a7, .int a8, .int a9]] (cupS c) = .ok (.int (pick g c [a0, a1, a2, a3, a4, a5, a6, a7, a8, a9] 0)) (cupS (rollC g c 10)) := pick_int R P (c := c) (is := [a0, a1, a2, a3, a4, a5, a6, a7, a8, a9]) (Nat.le_of_ble_eq_true rfl) (Nat.le_of_ble_eq_true rfl)
theorem p11 {g f : List D → Store → Res D} (R : Rolls g) (P : Picks g f) {c : Cup} {a0 a1 a2 a3 a4 a5 a6 a7 a8 a9 a10 : Int} : f [.ref 0, .lst [.int a0, .int a1, .int a2, .int a3, .int a4, .int a5, .int a6, .int a7, .int a8, .int a9, .int a10]] (cupS c) = .ok (.int (pick g c [a0, a1, a2, a3, a4, a5, a6, a7, a8, a9, a10] 0)) (cupS (rollC g c 11)) := pick_int R P (c := c) (is := [a0, a1, a2, a3, a4, a5, a6, a7, a8, a9, a10]) (Nat.le_of_ble_eq_true rfl) (Nat.le_of_ble_eq_true rfl)
theorem p12 {g f : List D → Store → Res D} (R : Rolls g) (P : Picks g f) {c : Cup} {a0 a1 a2 a3 a4 a5 a6 a7 a8 a9 a10 a11 : Int} : f [.ref 0, .lst [.int a0, .int a1, .int a2, .int a3, .int a4, .int a5, .int a6, .int a7, .int a8, .int a9, .int a10, .int a11]] (cupS c) = .ok (.int (pick g c [a0, a1, a2, a3, a4, a5, a6, a7, a8, a9, a10, a11] 0)) (cupS (rollC g c 12)) := pick_int R P (c := c) (is := [a0, a1, a2, a3, a4, a5, a6, a7, a8, a9, a10, a11]) (Nat.le_of_ble_eq_true rfl) (Nat.le_of_ble_eq_true rfl)
theorem p13 {g f : List D → Store → Res D} (R : Rolls g) (P : Picks g f) {c : Cup} {a0 a1 a2 a3 a4 a5 a6 a7 a8 a9 a10 a11 a12 : Int} : f [.ref 0, .lst [.int a0, .int a1, .int a2, .int a3, .int a4, .int a5, .int a6, .int a7, .int a8, .int a9, .int a10, .int a11, .int a12]] (cupS c) = .ok (.int (pick g c [a0, a1, a2, a3, a4, a5, a6, a7, a8, a9, a10, a11, a12] 0)) (cupS (rollC g c 13)) := pick_int R P (c := c) (is := [a0, a1, a2, a3, a4, a5, a6, a7, a8, a9, a10, a11, a12]) (Nat.le_of_ble_eq_true rfl) (Nat.le_of_ble_eq_true rfl)
theorem p14 {g f : List D → Store → Res D} (R : Rolls g) (P : Picks g f) {c : Cup} {a0 a1 a2 a3 a4 a5 a6 a7 a8 a9 a10 a11 a12 a13 : Int} : f [.ref 0, .lst [.int a0, .int a1, .int a2, .int a3, .int a4, .int a5, .int a6, .int a7, .int a8, .int a9, .int a10, .int a11, .int a12, .int a13]] (cupS c) = .ok (.int (pick g c [a0, a1, a2, a3, a4, a5, a6, a7, a8, a9, a10, a11, a12, a13] 0)) (cupS (rollC g c 14)) := pick_int R P (c := c) (is := [a0, a1, a2, a3, a4, a5, a6, a7, a8, a9, a10, a11, a12, a13]) (Nat.le_of_ble_eq_true rfl) (Nat.le_of_ble_eq_true rfl)
/-! two ways that meet -/
theorem ite_i {p : Prop} [Decidable p] {x y : Int} {s : Store} : (if p then Res.ok (D.int x) s else Res.ok (D.int y) s) = Res.ok (D.int (if p then x else y)) s := by split <;> rfl
theorem ite_b {p q : Prop} [Decidable p] [Decidable q] {s : Store} : (if p then Res.ok (D.bl (decide q)) s else Res.ok (D.bl false) s) = Res.ok (D.bl (decide (p ∧ q))) s := by
  by_cases h : p <;> simp [h]
theorem ite_o {p q : Prop} [Decidable p] [Decidable q] {s : Store} : (if p then Res.ok (D.bl true) s else Res.ok (D.bl (decide q)) s) = Res.ok (D.bl (decide (p ∨ q))) s := by
  by_cases h : p <;> simp [h]
/-! ### repr -/
mutual
def D.pyd : D → PyData
  | .non => .none
  | .bl b => .bool b
  | .int i => .int i
  | .str x => .str x
  | .tup ds => .tuple (D.pyds ds)
  | .lst ds => .list (D.pyds ds)
  | .ref _ => .none
  | .scr _ => .none
def D.pyds : List D → List PyData
  | [] => []
  | d :: ds => D.pyd d :: D.pyds ds
end
/-- a short text -/
def StrOK (x : Str) : Prop := (PyData.str x).shown.length ≤ 70 ∧ (PyData.str x).canLay0 = true
def hug : Int := 340282366920938463463374607431768211456
mutual
/-- plain, small ints -/
def D.okR : D → Prop
  | .non => True
  | .bl _ => True
  | .int i => -hug < i ∧ i < hug
  | .str x => StrOK x
  | .tup ds => D.okRs ds
  | .lst ds => D.okRs ds
  | .ref _ => False
  | .scr _ => False
def D.okRs : List D → Prop
  | [] => True
  | d :: ds => D.okR d ∧ D.okRs ds
end
mutual
def D.mass : D → Nat
  | .tup ds => D.masss ds + 3
  | .lst ds => D.masss ds + 3
  | _ => 140
def D.masss : List D → Nat
  | [] => 0
  | d :: ds => D.mass d + 2 + D.masss ds
end
mutual
def D.dep : D → Nat
  | .tup ds => D.deps ds + 1
  | .lst ds => D.deps ds + 1
  | _ => 0
def D.deps : List D → Nat
  | [] => 0
  | d :: ds => max (D.dep d) (D.deps ds)
end
theorem small_log {i : Int} (h : -hug < i ∧ i < hug) : i.natAbs.log2 < 128 := by
  by_cases h0 : i.natAbs = 0
  · rw [h0]; decide
  · rw [Nat.log2_lt h0]
    unfold hug at h
    omega
theorem small_txt {i : Int} (h : -hug < i ∧ i < hug) : (PySem.Str.ofString (toString i)).length ≤ 140 := by
  have h1 := int_text_length_le (k := 128) (by decide) (small_log h)
  rw [PySem.ofString_length]
  omega
mutual
theorem py_ok (s : Store) : ∀ d : D, d.okR → d.py s = some d.pyd ∧ d.pyd.showable = true ∧ d.pyd.hasDict = false ∧ d.pyd.shown.length ≤ d.mass ∧ d.pyd.depth = d.dep ∧ d.pyd.canLay0 = true
  | .non, _ => ⟨rfl, rfl, by simp [D.pyd, PyData.hasDict], (by decide +kernel), rfl, rfl⟩
  | .bl b, _ => ⟨rfl, rfl, by simp [D.pyd, PyData.hasDict], (by cases b <;> decide +kernel), rfl, rfl⟩
  | .int i, h => ⟨rfl, by
      have := small_log h
      simp [D.pyd, PyData.showable]
      omega, by simp [D.pyd, PyData.hasDict], small_txt h, rfl, rfl⟩
  | .str _, h => ⟨rfl, rfl, by simp [D.pyd, PyData.hasDict], Nat.le_trans h.1 (Nat.le_of_ble_eq_true rfl : (70 : Nat) ≤ 140), rfl, h.2⟩
  | .ref _, h => h.elim
  | .scr _, h => h.elim
  | .tup ds, h => by
    obtain ⟨e1, e2, e3, e4, e5, e6⟩ := pys_ok s ds h
    refine ⟨?_, ?_, ?_, ?_, ?_, ?_⟩
    · rw [D.py, e1]; rfl
    · simpa [D.pyd, PyData.showable] using e2
    · simpa [D.pyd, PyData.hasDict] using e3
    · have h2 := tupleText_len_le (PyData.shownAll (D.pyds ds))
      show (PyData.shown (.tuple (D.pyds ds))).length ≤ _
      rw [PyData.shown]
      unfold D.mass
      omega
    · show PyData.depth (.tuple (D.pyds ds)) = _
      rw [PyData.depth, e5, D.dep]
    · simpa [D.pyd, PyData.canLay0] using e6
  | .lst ds, h => by
    obtain ⟨e1, e2, e3, e4, e5, e6⟩ := pys_ok s ds h
    refine ⟨?_, ?_, ?_, ?_, ?_, ?_⟩
    · rw [D.py, e1]; rfl
    · simpa [D.pyd, PyData.showable] using e2
    · simpa [D.pyd, PyData.hasDict] using e3
    · have h2 := listText_len_le (PyData.shownAll (D.pyds ds))
      show (PyData.shown (.list (D.pyds ds))).length ≤ _
      rw [PyData.shown]
      unfold D.mass
      omega
    · show PyData.depth (.list (D.pyds ds)) = _
      rw [PyData.depth, e5, D.dep]
    · simpa [D.pyd, PyData.canLay0] using e6
theorem pys_ok (s : Store) : ∀ ds : List D, D.okRs ds → D.pys s ds = some (D.pyds ds) ∧ PyData.showableAll (D.pyds ds) = true ∧ PyData.hasDictAll (D.pyds ds) = false ∧ ((PyData.shownAll (D.pyds ds)).map (·.length)).sum + 2 * (PyData.shownAll (D.pyds ds)).length ≤ D.masss ds ∧ PyData.depthAll (D.pyds ds) = D.deps ds ∧ PyData.canLayAll0 (D.pyds ds) = true
  | [], _ => ⟨rfl, rfl, by simp [D.pyds, PyData.hasDictAll], by simp [D.pyds, PyData.shownAll], rfl, rfl⟩
  | d :: ds, h => by
    obtain ⟨h1, h2⟩ : D.okR d ∧ D.okRs ds := h
    obtain ⟨e1, e2, e3, e4, e5, e6⟩ := py_ok s d h1
    obtain ⟨f1, f2, f3, f4, f5, f6⟩ := pys_ok s ds h2
    refine ⟨?_, ?_, ?_, ?_, ?_, ?_⟩
    · rw [D.pys, e1, f1]; rfl
    · simp [D.pyds, PyData.showableAll, e2, f2]
    · simp [D.pyds, PyData.hasDictAll, e3, f3]
    · simp only [D.pyds, PyData.shownAll, List.map_cons, List.sum_cons, List.length_cons, D.masss]
      omega
    · rw [D.pyds, PyData.depthAll, e5, f5, D.deps]
    · simp [D.pyds, PyData.canLayAll0, e6, f6]
end
theorem repr_ok {s : Store} {d : D} (h : d.okR) (hm : d.mass ≤ sz) (hd : d.dep ≤ 63) : fRepr s [d] = some (.str d.pyd.shown) := by
  obtain ⟨e1, e2, e3, e4, e5, e6⟩ := py_ok s d h
  unfold fRepr
  dsimp only
  rw [e1]
  dsimp only
  rw [if_pos ⟨e2, e3, by omega, by omega⟩]
/-- == of two equal things -/
theorem eq_ok {s : Store} {d : D} (h : d.okR) (hd : d.dep ≤ 63) : dEq s d d = some (.bl true) := by
  obtain ⟨e1, e2, e3, e4, e5, e6⟩ := py_ok s d h
  have hs : SeqAt.shaped d.pyd = true := by
    show (d.pyd.canLay0 && decide (d.pyd.depth ≤ 64)) = true
    rw [e6, e5, decide_eq_true (by omega : d.dep ≤ 64)]
    rfl
  have he : eqD0 s d d = some true := by
    unfold eqD0
    rw [e1]
    dsimp only
    rw [if_pos ⟨hs, hs⟩, SeqAt.eqv_refl _ e6]
  unfold dEq eqD
  cases d with
  | str x =>
    show some (D.bl (decide (x = x))) = _
    rw [decide_eq_true rfl]
  | _ => dsimp only; rw [he]; rfl
theorem ne_ok {s : Store} {d : D} (h : d.okR) (hd : d.dep ≤ 63) : dNe s d d = some (.bl false) := by
  have := eq_ok (s := s) h hd
  unfold dEq at this
  unfold dNe
  cases q : eqD s d d with
  | none => rw [q] at this; cases this
  | some b => rw [q] at this; cases this; rfl
end Mn

namespace Mn
open PySem PySem.Spec PyProof.Rows L2

/-! ### places, slices -/
theorem six_pos {n d : Nat} {i : Int} (h : 0 ≤ i) : HT.sIx n d (some i) = min i.toNat n := by
  have : i = (i.toNat : Int) := by omega
  rw [this, HT.sIx_nat, Int.toNat_natCast]
theorem cut_to {xs : List D} {i : Int} (h : 0 ≤ i) : cutD xs none (some i) = xs.take i.toNat := by
  unfold cutD
  rw [HT.sIx_none, six_pos h, List.drop_zero, Nat.sub_zero, List.take_eq_take_iff]
  omega
theorem cut_from {xs : List D} {i : Int} (h : 0 ≤ i) : cutD xs (some i) none = xs.drop i.toNat := by
  unfold cutD
  rw [HT.sIx_none, six_pos h]
  by_cases q : i.toNat ≤ xs.length
  · rw [Nat.min_eq_left q, List.take_of_length_le (by rw [List.length_drop]; omega)]
  · rw [Nat.min_eq_right (by omega), List.drop_of_length_le (Nat.le_refl _), List.drop_of_length_le (by omega), List.take_nil]
theorem cut_mid {xs : List D} {i j : Int} (h : 0 ≤ i) (h' : 0 ≤ j) : cutD xs (some i) (some j) = (xs.drop i.toNat).take (j.toNat - i.toNat) := by
  unfold cutD
  rw [six_pos h, six_pos h']
  by_cases q : i.toNat ≤ xs.length
  · rw [Nat.min_eq_left q, List.take_eq_take_iff, List.length_drop]
    omega
  · rw [Nat.min_eq_right (a := i.toNat) (by omega), List.drop_of_length_le (Nat.le_refl _), List.drop_of_length_le (by omega), List.take_nil, List.take_nil]
theorem sl_to {s : Store} {xs : List D} {i : Int} (h : 0 ≤ i) : dSlice s (.tup xs) none (some i) = some (.tup (xs.take i.toNat)) := by show some (D.tup (cutD xs none (some i))) = _; rw [cut_to h]
theorem sl_from {s : Store} {xs : List D} {i : Int} (h : 0 ≤ i) : dSlice s (.tup xs) (some i) none = some (.tup (xs.drop i.toNat)) := by show some (D.tup (cutD xs (some i) none)) = _; rw [cut_from h]
theorem sl_mid {s : Store} {xs : List D} {i j : Int} (h : 0 ≤ i) (h' : 0 ≤ j) : dSlice s (.tup xs) (some i) (some j) = some (.tup ((xs.drop i.toNat).take (j.toNat - i.toNat))) := by show some (D.tup (cutD xs (some i) (some j))) = _; rw [cut_mid h h']
theorem sl_toL {s : Store} {xs : List D} {i : Int} (h : 0 ≤ i) : dSlice s (.lst xs) none (some i) = some (.lst (xs.take i.toNat)) := by show some (D.lst (cutD xs none (some i))) = _; rw [cut_to h]
theorem at_nat {α : Type} {xs : List α} {n : Nat} {x : α} (h : xs[n]? = some x) : atI xs (n : Int) = some x := by
  have hl := (List.getElem?_eq_some_iff.mp h).1
  unfold atI ixN
  rw [if_pos (by omega), if_pos (by omega), Int.toNat_natCast]
  exact h
theorem at_int {xs : List Int} {i : Int} (h : 0 ≤ i) (h' : i < xs.length) : atI (xs.map D.int) i = some (.int (xs.getD i.toNat 0)) := by
  have e : i = (i.toNat : Int) := by omega
  have hl : i.toNat < xs.length := by omega
  have q := at_nat (xs := xs.map D.int) (n := i.toNat) (x := .int (xs.getD i.toNat 0)) (by rw [List.getElem?_map, List.getElem?_eq_getElem hl, List.getD_eq_getElem?_getD, List.getElem?_eq_getElem hl]; rfl)
  rw [← e] at q
  exact q
theorem map_take_int {xs : List Int} {n : Nat} : (xs.map D.int).take n = (xs.take n).map D.int := by rw [List.map_take]
theorem map_drop_int {xs : List Int} {n : Nat} : (xs.map D.int).drop n = (xs.drop n).map D.int := by rw [List.map_drop]
theorem map_app_int {xs ys : List Int} : xs.map D.int ++ ys.map D.int = (xs ++ ys).map D.int := by rw [List.map_append]
theorem one_int {x : Int} : [D.int x] = [x].map D.int := rfl
theorem two_int {x y : Int} : [D.int x, D.int y] = [x, y].map D.int := rfl
/-! ### octets -/
def Oct (os : List Int) : Prop := ∀ x ∈ os, 0 ≤ x ∧ x ≤ 255
theorem Oct.app {xs ys : List Int} (h : Oct xs) (k : Oct ys) : Oct (xs ++ ys) := fun x m => (List.mem_append.mp m).elim (h x) (k x)
theorem Oct.take {xs : List Int} (h : Oct xs) (n : Nat) : Oct (xs.take n) := fun x m => h x (List.mem_of_mem_take m)
theorem Oct.drop {xs : List Int} (h : Oct xs) (n : Nat) : Oct (xs.drop n) := fun x m => h x (List.mem_of_mem_drop m)
theorem Oct.cons {x : Int} {xs : List Int} (h : 0 ≤ x ∧ x ≤ 255) (k : Oct xs) : Oct (x :: xs) := fun y m => (List.mem_cons.mp m).elim (fun e => by rw [e]; exact h) (k y)
theorem Oct.nil : Oct [] := fun _ m => nomatch m
theorem Oct.get {xs : List Int} (h : Oct xs) {n : Nat} : 0 ≤ xs.getD n 0 ∧ xs.getD n 0 ≤ 255 := by
  rw [List.getD_eq_getElem?_getD]
  cases q : xs[n]? with
  | none => exact ⟨by decide, by decide⟩
  | some v => exact h v (List.mem_of_getElem? q)
theorem bools_map {α : Type} {f : α → Bool} : ∀ {xs : List α}, bools? (xs.map fun x => D.bl (f x)) = some (xs.map f)
  | [] => rfl
  | x :: xs => by
    show (bools? (xs.map fun x => D.bl (f x))).map (fun bs => f x :: bs) = _
    rw [bools_map]; rfl
theorem all_map {α : Type} {s : Store} {f : α → Bool} {xs : List α} : fAll s [.lst (xs.map fun x => D.bl (f x))] = some (.bl (xs.all f)) := by
  show ((bools? (xs.map fun x => D.bl (f x))).map fun bs => D.bl (bs.all id)) = _
  rw [bools_map]
  simp
theorem all_rep {s : Store} {n : Nat} : fAll s [.lst (List.replicate n (.bl true))] = some (.bl true) := by
  have := all_map (s := s) (f := fun _ : Nat => true) (xs := List.replicate n 0)
  rw [List.map_replicate] at this
  rw [this]
  simp
theorem map_const_of {α : Type} {xs : List α} {f : α → D} {b : D} (h : ∀ x ∈ xs, f x = b) : xs.map f = List.replicate xs.length b := by
  rw [List.eq_replicate_iff]
  exact ⟨by simp, fun y m => by obtain ⟨x, hx, e⟩ := List.mem_map.mp m; rw [← e]; exact h x hx⟩
theorem addO {xs ys : List Int} (h : xs.length + ys.length ≤ 16000000) (s : Store) : dAdd s (.tup (xs.map .int)) (.tup (ys.map .int)) = some (.tup ((xs ++ ys).map .int)) := by
  rw [addT, if_pos (by rw [List.length_map, List.length_map]; exact h), List.map_append]
theorem slO_to {xs : List Int} {i : Int} (h : 0 ≤ i) (s : Store) : dSlice s (.tup (xs.map .int)) none (some i) = some (.tup ((xs.take i.toNat).map .int)) := by rw [sl_to h, List.map_take]
theorem slO_from {xs : List Int} {i : Int} (h : 0 ≤ i) (s : Store) : dSlice s (.tup (xs.map .int)) (some i) none = some (.tup ((xs.drop i.toNat).map .int)) := by rw [sl_from h, List.map_drop]
theorem slO_mid {xs : List Int} {i j : Int} (h : 0 ≤ i) (h' : 0 ≤ j) (s : Store) : dSlice s (.tup (xs.map .int)) (some i) (some j) = some (.tup (((xs.drop i.toNat).take (j.toNat - i.toNat)).map .int)) := by rw [sl_mid h h', List.map_take, List.map_drop]
theorem okRs_oct : ∀ {os : List Int}, Oct os → D.okRs (os.map D.int)
  | [], _ => trivial
  | x :: os, h => ⟨by have := h x List.mem_cons_self; show _ ∧ _; unfold hug; omega, okRs_oct fun y m => h y (List.mem_cons_of_mem _ m)⟩
theorem mass_oct : ∀ {os : List Int}, D.masss (os.map D.int) = 142 * os.length
  | [] => rfl
  | x :: os => by
    rw [List.map_cons, D.masss, mass_oct, List.length_cons]
    show 140 + 2 + _ = _
    omega
theorem dep_oct : ∀ {os : List Int}, D.deps (os.map D.int) = 0
  | [] => rfl
  | x :: os => by rw [List.map_cons, D.deps, dep_oct]; rfl
theorem repr_oct {s : Store} {os : List Int} (h : Oct os) (hl : os.length ≤ 100000) : fRepr s [.tup (os.map D.int)] = some (.str (D.tup (os.map D.int)).pyd.shown) :=
  repr_ok (okRs_oct h) (by rw [D.mass, mass_oct]; unfold sz; omega) (by rw [D.dep, dep_oct]; decide)
theorem eq_oct {s : Store} {os : List Int} (h : Oct os) : dEq s (.tup (os.map D.int)) (.tup (os.map D.int)) = some (.bl true) := eq_ok (okRs_oct h) (by rw [D.dep, dep_oct]; decide)
theorem ne_oct {s : Store} {os : List Int} (h : Oct os) : dNe s (.tup (os.map D.int)) (.tup (os.map D.int)) = some (.bl false) := ne_ok (okRs_oct h) (by rw [D.dep, dep_oct]; decide)
/-! ### sums of pairs -/
def prs : Bool → List Int → Int
  | _, [] => 0
  | hi, x :: xs => (if hi = true then x * 256 else x) + prs (!hi) xs
def odd (n : Nat) : Bool := n % 2 == 1
theorem prs_app : ∀ (b : Bool) (xs ys : List Int), prs b (xs ++ ys) = prs b xs + prs (b != odd xs.length) ys
  | b, [], ys => by cases b <;> simp [prs, odd]
  | b, x :: xs, ys => by
    rw [List.cons_append, prs, prs, prs_app (!b) xs ys, List.length_cons]
    have : ((!b) != odd xs.length) = (b != odd (xs.length + 1)) := by
      unfold odd
      rcases Nat.mod_two_eq_zero_or_one xs.length with h | h
      · have h2 : (xs.length + 1) % 2 = 1 := by omega
        rw [h, h2]; cases b <;> rfl
      · have h2 : (xs.length + 1) % 2 = 0 := by omega
        rw [h, h2]; cases b <;> rfl
    rw [this]
    omega
theorem prs_even {b : Bool} {xs ys : List Int} (h : xs.length % 2 = 0) : prs b (xs ++ ys) = prs b xs + prs b ys := by
  rw [prs_app]
  have : (b != odd xs.length) = b := by unfold odd; rw [h]; cases b <;> rfl
  rw [this]
theorem prs_nn {b : Bool} : ∀ {xs : List Int}, Oct xs → 0 ≤ prs b xs ∧ prs b xs ≤ 65280 * xs.length
  | [], _ => ⟨Int.le_refl _, by simp [prs]⟩
  | x :: xs, h => by
    have h1 := h x List.mem_cons_self
    have h2 := prs_nn (b := !b) (xs := xs) fun y m => h y (List.mem_cons_of_mem _ m)
    rw [prs, List.length_cons]
    split <;> omega
/-- what is left -/
def red (n : Int) : Int := if n ≤ 0 then n else (n - 1) % 65535 + 1
theorem red_add {a w : Int} (ha : 0 ≤ a) (hw : 0 ≤ w) : red (red a + w) = red (a + w) := by
  have h0 : ∀ n : Int, (n ≤ 0 ∧ red n = n) ∨ (0 < n ∧ red n = (n - 1) % 65535 + 1) := fun n => by
    by_cases h : n ≤ 0
    · exact .inl ⟨h, if_pos h⟩
    · exact .inr ⟨by omega, if_neg h⟩
  rcases h0 a with ⟨_, e1⟩ | ⟨_, e1⟩ <;> rcases h0 (red a + w) with ⟨_, e2⟩ | ⟨_, e2⟩ <;> rcases h0 (a + w) with ⟨_, e3⟩ | ⟨_, e3⟩ <;> omega
theorem red_step {a w : Int} (ha : 0 ≤ a) (hw : 0 ≤ w ∧ w ≤ 65535) : (if 65535 < red a + w then red a + w - 65535 else red a + w) = red (a + w) := by
  have h0 : ∀ n : Int, (n ≤ 0 ∧ red n = n) ∨ (0 < n ∧ red n = (n - 1) % 65535 + 1) := fun n => by
    by_cases h : n ≤ 0
    · exact .inl ⟨h, if_pos h⟩
    · exact .inr ⟨by omega, if_neg h⟩
  rcases h0 a with ⟨_, e1⟩ | ⟨_, e1⟩ <;> rcases h0 (a + w) with ⟨_, e3⟩ | ⟨_, e3⟩ <;> split <;> omega
theorem red_lo {n : Int} (h : 0 ≤ n) : 0 ≤ red n ∧ red n ≤ 65535 := by unfold red; split <;> omega
theorem pyds_int : ∀ {xs : List Int}, D.pyds (xs.map D.int) = xs.map PyData.int
  | [] => rfl
  | x :: xs => by rw [List.map_cons, D.pyds, pyds_int]; rfl
theorem eqD_octs {s : Store} {xs ys : List Int} (hx : Oct xs) (hy : Oct ys) : eqD s (.tup (xs.map D.int)) (.tup (ys.map D.int)) = some (decide (xs = ys)) := by
  obtain ⟨e1, e2, e3, e4, e5, e6⟩ := py_ok s (.tup (xs.map D.int)) (okRs_oct hx)
  obtain ⟨f1, f2, f3, f4, f5, f6⟩ := py_ok s (.tup (ys.map D.int)) (okRs_oct hy)
  have hs : ∀ {d : D}, d.pyd.canLay0 = true → d.pyd.depth = d.dep → d.dep ≤ 64 → SeqAt.shaped d.pyd = true := fun {d} h1 h2 h3 => by
    show (d.pyd.canLay0 && decide (d.pyd.depth ≤ 64)) = true
    rw [h1, h2, decide_eq_true h3]
    rfl
  show eqD0 s _ _ = _
  unfold eqD0
  rw [e1, f1]
  dsimp only
  rw [if_pos ⟨hs e6 e5 (by rw [D.dep, dep_oct]; decide), hs f6 f5 (by rw [D.dep, dep_oct]; decide)⟩]
  have : PyData.eqv (D.tup (xs.map D.int)).pyd (D.tup (ys.map D.int)).pyd = PyData.eqvAll (xs.map PyData.int) (ys.map PyData.int) := by
    show PyData.eqv (.tuple (D.pyds (xs.map D.int))) (.tuple (D.pyds (ys.map D.int))) = _
    rw [pyds_int, pyds_int]
    simp [PyData.eqv]
  rw [this, PySem.W.ked_eqvAll]
theorem eq_octs {s : Store} {xs ys : List Int} (hx : Oct xs) (hy : Oct ys) : dEq s (.tup (xs.map D.int)) (.tup (ys.map D.int)) = some (.bl (decide (xs = ys))) := by
  unfold dEq
  rw [eqD_octs hx hy]; rfl
theorem ne_octs {s : Store} {xs ys : List Int} (hx : Oct xs) (hy : Oct ys) : dNe s (.tup (xs.map D.int)) (.tup (ys.map D.int)) = some (.bl (!decide (xs = ys))) := by
  unfold dNe
  rw [eqD_octs hx hy]; rfl
theorem red_both {a b : Int} (ha : 0 ≤ a) (hb : 0 ≤ b) : (if 65535 < red a + red b then red a + red b - 65535 else red a + red b) = red (a + b) := by
  have h := fun n : Int => show (n ≤ 0 ∧ red n = n) ∨ (0 < n ∧ red n = (n - 1) % 65535 + 1) by
    by_cases h : n ≤ 0
    · exact .inl ⟨h, if_pos h⟩
    · exact .inr ⟨by omega, if_neg h⟩
  rcases h a with ⟨_, e1⟩ | ⟨_, e1⟩ <;> rcases h b with ⟨_, e2⟩ | ⟨_, e2⟩ <;> rcases h (a + b) with ⟨_, e3⟩ | ⟨_, e3⟩ <;> split <;> omega
theorem red_mul {q : Int} (h : 0 ≤ q) : red (q + (65535 - red q)) = 65535 := by
  unfold red
  split <;> split <;> omega
theorem red_off {q δ : Int} (h : 0 ≤ q + δ) (hq : red q = 65535) (h0 : δ ≠ 0) (h1 : -65280 ≤ δ) (h2 : δ ≤ 65280) : red (q + δ) ≠ 65535 := by
  unfold red at *
  split at hq <;> split <;> omega
/-! ### values of any kind: what the checks tell -/
/-- a value that is no thing of the store (at its top) -/
def plainD : D → Bool
  | .ref _ => false
  | .scr _ => false
  | _ => true
def wholeD (lo hi : Int) : D → Bool
  | .int i => decide (lo ≤ i) && decide (i ≤ hi)
  | _ => false
def tupD (lo hi : Int) : D → Bool
  | .tup ds => decide (lo ≤ (ds.length : Int)) && decide ((ds.length : Int) ≤ hi)
  | _ => false
def octsD (hi : Int) : D → Bool
  | .tup ds => decide ((ds.length : Int) ≤ hi) && ds.all (wholeD 0 255)
  | _ => false
theorem ite_bb {p : Prop} [Decidable p] {q : Bool} {s : Store} : (if p then Res.ok (D.bl q) s else Res.ok (D.bl false) s) = Res.ok (D.bl (decide p && q)) s := by
  by_cases h : p <;> simp [h]
end Mn

namespace Mn
open PySem PySem.Spec PyProof.Rows L2
theorem isi_bb {s : Store} {b : Bool} : dIsi "bool" s (.bl b) = some (.bl true) := rfl
theorem isi_ss {s : Store} {x : Str} : dIsi "str" s (.str x) = some (.bl true) := rfl
/-! ### values with nothing of the store in them -/
mutual
def D.fin : D → Prop
  | .ref _ => False
  | .scr _ => False
  | .tup ds => ds.length ≤ 16000000 ∧ D.fins ds
  | .lst ds => ds.length ≤ 16000000 ∧ D.fins ds
  | .str x => StrOK x
  | _ => True
def D.fins : List D → Prop
  | [] => True
  | d :: ds => D.fin d ∧ D.fins ds
end
theorem fins_mem : ∀ {ds : List D}, D.fins ds → ∀ x ∈ ds, x.fin
  | d :: ds, h, x, m => by
    have h : D.fin d ∧ D.fins ds := h
    rcases List.mem_cons.mp m with e | m
    · rw [e]; exact h.1
    · exact fins_mem h.2 x m
theorem fins_of : ∀ {ds : List D}, (∀ x ∈ ds, x.fin) → D.fins ds
  | [], _ => trivial
  | d :: ds, h => ⟨h d List.mem_cons_self, fins_of fun x m => h x (List.mem_cons_of_mem _ m)⟩
theorem fin_plain {d : D} (h : d.fin) : plainD d = true := by
  cases d with
  | ref n => exact h.elim
  | scr n => exact h.elim
  | _ => rfl
theorem fin_tup {d : D} (h : d.fin) : ∀ ds, d = .tup ds → (∀ x ∈ ds, plainD x = true) ∧ ds.length ≤ 16000000 := by
  rintro ds rfl
  have h : ds.length ≤ 16000000 ∧ D.fins ds := h
  exact ⟨fun x m => fin_plain (fins_mem h.2 x m), h.1⟩
theorem fin_oct {os : List Int} (h : os.length ≤ 16000000) : (D.tup (os.map .int)).fin := ⟨by simpa using h, fins_of fun x m => by obtain ⟨i, _, rfl⟩ := List.mem_map.mp m; trivial⟩
theorem fin_octL {os : List Int} (h : os.length ≤ 16000000) : (D.lst (os.map .int)).fin := ⟨by simpa using h, fins_of fun x m => by obtain ⟨i, _, rfl⟩ := List.mem_map.mp m; trivial⟩
theorem octsD_oct {os : List Int} {hi : Int} (ho : Oct os) (h : (os.length : Int) ≤ hi) : octsD hi (.tup (os.map .int)) = true := by
  show (decide (((os.map D.int).length : Int) ≤ hi) && (os.map D.int).all (wholeD 0 255)) = true
  rw [List.length_map, decide_eq_true h, Bool.true_and, List.all_eq_true]
  intro x m
  obtain ⟨i, hi, rfl⟩ := List.mem_map.mp m
  have := ho i hi
  show (decide (0 ≤ i) && decide (i ≤ 255)) = true
  rw [decide_eq_true this.1, decide_eq_true this.2]; rfl
theorem octsD_fin {d : D} {hi : Int} (h : octsD hi d = true) : ∃ os : List Int, d = .tup (os.map .int) ∧ Oct os ∧ (os.length : Int) ≤ hi := by
  cases d with
  | tup ds =>
    have h : (decide ((ds.length : Int) ≤ hi) && ds.all (wholeD 0 255)) = true := h
    rw [Bool.and_eq_true, decide_eq_true_eq, List.all_eq_true] at h
    obtain ⟨h1, h2⟩ := h
    have : ∀ ds : List D, (∀ x ∈ ds, wholeD 0 255 x = true) → ∃ os : List Int, ds = os.map .int ∧ Oct os := by
      intro ds
      induction ds with
      | nil => exact fun _ => ⟨[], rfl, Oct.nil⟩
      | cons d ds ih =>
        intro h
        obtain ⟨os, e, ho⟩ := ih fun x m => h x (List.mem_cons_of_mem _ m)
        have hd := h d List.mem_cons_self
        cases d with
        | int i =>
          have hd : (decide (0 ≤ i) && decide (i ≤ 255)) = true := hd
          rw [Bool.and_eq_true, decide_eq_true_eq, decide_eq_true_eq] at hd
          exact ⟨i :: os, by rw [e]; rfl, Oct.cons hd ho⟩
        | _ => cases hd
    obtain ⟨os, e, ho⟩ := this ds h2
    subst e
    exact ⟨os, rfl, ho, by simpa using h1⟩
  | _ => cases h
theorem tupD_n {lo hi : Int} {ds : List D} : tupD lo hi (.tup ds) = (decide (lo ≤ (ds.length : Int)) && decide ((ds.length : Int) ≤ hi)) := rfl
theorem tupD_no2 {d : D} (h : ∀ a b, d ≠ .tup [a, b]) : tupD 2 2 d = false := by
  cases d with
  | tup ds =>
    rw [tupD_n]
    match ds, h with
    | [], _ => rfl
    | [a], _ => rfl
    | [a, b], h => exact (h a b rfl).elim
    | a :: b :: c :: r, _ => rw [Bool.and_eq_false_iff]; right; rw [decide_eq_false_iff_not]; simp only [List.length_cons]; omega
  | _ => rfl
theorem tupD_no4 {d : D} (h : ∀ a b c e, d ≠ .tup [a, b, c, e]) : tupD 4 4 d = false := by
  cases d with
  | tup ds =>
    rw [tupD_n]
    match ds, h with
    | [], _ => rfl
    | [a], _ => rfl
    | [a, b], _ => rfl
    | [a, b, c], _ => rfl
    | [a, b, c, e], h => exact (h a b c e rfl).elim
    | a :: b :: c :: e :: f :: r, _ => rw [Bool.and_eq_false_iff]; right; rw [decide_eq_false_iff_not]; simp only [List.length_cons]; omega
  | _ => rfl
theorem tupD_no5 {d : D} (h : ∀ a b c e f, d ≠ .tup [a, b, c, e, f]) : tupD 5 5 d = false := by
  cases d with
  | tup ds =>
    rw [tupD_n]
    match ds, h with
    | [], _ => rfl
    | [a], _ => rfl
    | [a, b], _ => rfl
    | [a, b, c], _ => rfl
    | [a, b, c, e], _ => rfl
    | [a, b, c, e, f], h => exact (h a b c e f rfl).elim
    | a :: b :: c :: e :: f :: g :: r, _ => rw [Bool.and_eq_false_iff]; right; rw [decide_eq_false_iff_not]; simp only [List.length_cons]; omega
  | _ => rfl
theorem tupD_no6 {d : D} (h : ∀ a b c e f g, d ≠ .tup [a, b, c, e, f, g]) : tupD 6 6 d = false := by
  cases d with
  | tup ds =>
    rw [tupD_n]
    match ds, h with
    | [], _ => rfl
    | [a], _ => rfl
    | [a, b], _ => rfl
    | [a, b, c], _ => rfl
    | [a, b, c, e], _ => rfl
    | [a, b, c, e, f], _ => rfl
    | [a, b, c, e, f, g], h => exact (h a b c e f g rfl).elim
    | a :: b :: c :: e :: f :: g :: i :: r, _ => rw [Bool.and_eq_false_iff]; right; rw [decide_eq_false_iff_not]; simp only [List.length_cons]; omega
  | _ => rfl
theorem shaped_ok {d : D} (h : d.okR) (hd : d.dep ≤ 63) : SeqAt.shaped d.pyd = true := by
  obtain ⟨e1, e2, e3, e4, e5, e6⟩ := py_ok [] d h
  show (d.pyd.canLay0 && decide (d.pyd.depth ≤ 64)) = true
  rw [e6, e5, decide_eq_true (by omega : d.dep ≤ 64)]
  rfl
theorem eqD_ok {s : Store} {x y : D} (hx : x.okR) (hy : y.okR) (dx : x.dep ≤ 63) (dy : y.dep ≤ 63) : eqD s x y = some (PyData.eqv x.pyd y.pyd) := by
  have e1 := (py_ok s x hx).1
  have e2 := (py_ok s y hy).1
  have he : eqD0 s x y = some (PyData.eqv x.pyd y.pyd) := by
    unfold eqD0
    rw [e1, e2]
    dsimp only
    rw [if_pos ⟨shaped_ok hx dx, shaped_ok hy dy⟩]
  unfold eqD
  cases x with
  | str a =>
    cases y with
    | str b =>
      show some (decide (a = b)) = some (PyData.eqv (.str a) (.str b))
      simp only [PyData.eqv]
      by_cases h : a = b
      · subst h; simp
      · rw [decide_eq_false h]; congr 1; symm; simpa using h
    | _ => exact he
  | _ => exact he
/-- == () -/
theorem eq_nilT {s : Store} {ds : List D} (h : D.okRs ds) (hd : D.deps ds ≤ 60) : dEq s (.tup ds) (.tup []) = some (.bl ds.isEmpty) := by
  unfold dEq
  rw [eqD_ok (x := .tup ds) (y := .tup []) h trivial (by rw [D.dep]; omega) (by decide)]
  cases ds with
  | nil => rfl
  | cons d ds => simp [D.pyd, D.pyds, PyData.eqv, PyData.eqvAll]
theorem ne_nilT {s : Store} {ds : List D} (h : D.okRs ds) (hd : D.deps ds ≤ 60) : dNe s (.tup ds) (.tup []) = some (.bl (!ds.isEmpty)) := by
  unfold dNe
  rw [eqD_ok (x := .tup ds) (y := .tup []) h trivial (by rw [D.dep]; omega) (by decide)]
  cases ds with
  | nil => rfl
  | cons d ds => simp [D.pyd, D.pyds, PyData.eqv, PyData.eqvAll]
theorem eq_nilL {s : Store} {ds : List D} (h : D.okRs ds) (hd : D.deps ds ≤ 60) : dEq s (.lst ds) (.lst []) = some (.bl ds.isEmpty) := by
  unfold dEq
  rw [eqD_ok (x := .lst ds) (y := .lst []) h trivial (by rw [D.dep]; omega) (by decide)]
  cases ds with
  | nil => rfl
  | cons d ds => simp [D.pyd, D.pyds, PyData.eqv, PyData.eqvAll]
theorem ne_nilL {s : Store} {ds : List D} (h : D.okRs ds) (hd : D.deps ds ≤ 60) : dNe s (.lst ds) (.lst []) = some (.bl (!ds.isEmpty)) := by
  unfold dNe
  rw [eqD_ok (x := .lst ds) (y := .lst []) h trivial (by rw [D.dep]; omega) (by decide)]
  cases ds with
  | nil => rfl
  | cons d ds => simp [D.pyd, D.pyds, PyData.eqv, PyData.eqvAll]
theorem is_bl {s : Store} {a b : Bool} : dIs s (.bl a) (.bl b) = some (.bl (a == b)) := rfl
theorem isn_bl {s : Store} {a b : Bool} : dIsNot s (.bl a) (.bl b) = some (.bl (!(a == b))) := rfl
/-- texts of two equal Booleans -/
theorem repr_b {s : Store} {b : Bool} : fRepr s [.bl b] = some (.str (D.bl b).pyd.shown) := repr_ok trivial (Nat.le_of_ble_eq_true rfl) (Nat.le_of_ble_eq_true rfl)
theorem repr_n {s : Store} : fRepr s [.non] = some (.str D.non.pyd.shown) := repr_ok trivial (Nat.le_of_ble_eq_true rfl) (Nat.le_of_ble_eq_true rfl)
theorem repr_i {s : Store} {x : Int} (h : -hug < x ∧ x < hug) : fRepr s [.int x] = some (.str (D.int x).pyd.shown) := repr_ok h (Nat.le_of_ble_eq_true rfl) (Nat.le_of_ble_eq_true rfl)
theorem ne_self {s : Store} {x : Str} : dNe s (.str x) (.str x) = some (.bl false) := by
  show some (D.bl (!decide (x = x))) = _
  rw [decide_eq_true rfl]; rfl
theorem rng_eq : ∀ {n : Nat} {lo : Int}, rng lo n = (List.range n).map fun k => D.int (lo + (k : Nat))
  | 0, _ => rfl
  | n + 1, lo => by
    rw [rng, rng_eq, List.range_succ_eq_map, List.map_cons, List.map_map]
    congr 1
    · simp
    · apply List.map_congr_left
      intro k _
      show D.int _ = D.int _
      congr 1
      push_cast
      omega
theorem rng_len : ∀ {n : Nat} {lo : Int}, (rng lo n).length = n
  | 0, _ => rfl
  | n + 1, lo => by rw [rng, List.length_cons, rng_len]
theorem rng_at : ∀ {n : Nat} {lo : Int} {d : D}, d ∈ rng lo n → ∃ i : Int, d = .int i ∧ lo ≤ i ∧ i < lo + n
  | n + 1, lo, d, h => by
    rcases List.mem_cons.mp (show d ∈ .int lo :: rng (lo + 1) n from h) with e | h
    · exact ⟨lo, e, by omega, by omega⟩
    · obtain ⟨i, e, h1, h2⟩ := rng_at h
      exact ⟨i, e, by omega, by omega⟩
  | 0, lo, d, h => nomatch h
/-- octets by a rule: seed * 7 + 13 * place + 5 -/
def ocs (seed : Int) (n : Nat) : List Int := (List.range n).map fun k => (seed * 7 + (k : Nat) * 13 + 5) % 256
theorem ocs_len {seed : Int} {n : Nat} : (ocs seed n).length = n := by simp [ocs]
theorem ocs_oct {seed : Int} {n : Nat} : Oct (ocs seed n) := fun x m => by
  obtain ⟨k, _, rfl⟩ := List.mem_map.mp m
  omega
/-- a pick of a row, as simp takes it -/
theorem pick_all {g f : List D → Store → Res D} (P : Picks g f) (c : Cup) (ds : List D) (h0 : 0 < ds.length) (h1 : ds.length ≤ 100000) : f [.ref 0, .lst ds] (cupS c) = .ok (pick g c ds .non) (cupS (rollC g c ds.length)) := P c ds h0 (by omega)
theorem pick_of {g : List D → Store → Res D} (R : Rolls g) {P : D → Prop} {c : Cup} {ds : List D} (h0 : 0 < ds.length) (h1 : ds.length ≤ 1000000000) (h : ∀ x ∈ ds, P x) : P (pick g c ds .non) := h _ (pick_mem R h0 h1)
theorem fins_ints {os : List Int} : D.fins (os.map .int) := fins_of fun x m => by obtain ⟨i, _, rfl⟩ := List.mem_map.mp m; trivial
theorem fins_rep {d : D} {n : Nat} (h : d.fin) : D.fins (List.replicate n d) := fins_of fun x m => by rw [List.eq_of_mem_replicate m]; exact h
/-- a text in a row of texts -/
theorem in_strs {s : Store} {x : Str} {as : List Str} (hx : StrOK x) (ha : ∀ a ∈ as, StrOK a) (hl : as.length ≤ 1000) : dIn s (.str x) (.tup (as.map .str)) = some (.bl (as.any fun a => a == x)) ∧ dNotIn s (.str x) (.tup (as.map .str)) = some (.bl (!(as.any fun a => a == x))) := by
  have h1 : D.pys s (as.map .str) = some (as.map PyData.str) := by
    clear ha hl
    induction as with
    | nil => rfl
    | cons a as ih => rw [List.map_cons, D.pys, ih]; rfl
  have h2 : ∀ {as : List Str}, (∀ a ∈ as, StrOK a) → PyData.canLayAll0 (as.map PyData.str) = true ∧ PyData.depthAll (as.map PyData.str) = 0 := by
    intro as
    induction as with
    | nil => exact fun _ => ⟨rfl, rfl⟩
    | cons a as ih =>
      intro h
      have i := ih fun b m => h b (List.mem_cons_of_mem _ m)
      refine ⟨?_, ?_⟩
      · rw [List.map_cons, PyData.canLayAll0, i.1, (h a List.mem_cons_self).2]; rfl
      · rw [List.map_cons, PyData.depthAll, i.2]; rfl
  have h3 : SeqAt.shaped (.str x) = true := by
    show ((PyData.str x).canLay0 && _) = true
    rw [hx.2]; rfl
  have h4 : SeqAt.shaped (.list (as.map PyData.str)) = true := by
    show (PyData.canLayAll0 (as.map PyData.str) && decide (PyData.depth (.list (as.map PyData.str)) ≤ 64)) = true
    rw [(h2 ha).1, PyData.depth, (h2 ha).2]; rfl
  have h5 : inD s (.str x) (.tup (as.map .str)) = some (as.any fun a => a == x) := by
    show (match some (PyData.str x), (some (as.map D.str)).bind (D.pys s) with
      | some a, some bs => if SeqAt.shaped a = true ∧ SeqAt.shaped (.list bs) = true then some (bs.any fun z => PyData.eqv z a) else none
      | _, _ => none) = _
    rw [show (some (as.map D.str)).bind (D.pys s) = some (as.map PyData.str) from h1]
    dsimp only
    rw [if_pos ⟨h3, h4⟩, List.any_map]
    congr 2
  unfold dIn dNotIn
  rw [h5]
  exact ⟨rfl, rfl⟩
theorem kOr_i {σ : Mn.Env} {s : Store} {b : E} {i : Int} : kOr b σ (.ok (.int i) s) = if i = 0 then b σ s else Res.ok (.int i) s := by
  by_cases h : i = 0
  · subst h; rfl
  · have : truth s (.int i) = some true := by
      show some (i != 0) = some true
      rw [bne_iff_ne.mpr h]
    show (match truth s (D.int i) with | some true => Res.ok (D.int i) s | some false => b σ s | none => .bad) = _
    rw [this, if_neg h]
theorem kOr_n {σ : Mn.Env} {s : Store} {b : E} : kOr b σ (.ok .non s) = b σ s := rfl
theorem maxL_2 {s : Store} {i j : Int} : fMaxL s [.lst [.int i, .int j]] = some (.int (if j > i then j else i)) := rfl
theorem maxL_1 {s : Store} {i : Int} : fMaxL s [.lst [.int i]] = some (.int i) := rfl
theorem maxL_3 {s : Store} {i j k : Int} : fMaxL s [.lst [.int i, .int j, .int k]] = some (.int (maxI i [j, k])) := rfl
theorem minL_2 {s : Store} {i j : Int} : fMinL s [.lst [.int i, .int j]] = some (.int (if j < i then j else i)) := rfl
theorem isN_i {s : Store} {i : Int} : dIs s (.int i) .non = some (.bl false) := rfl
theorem isN_n {s : Store} : dIs s .non .non = some (.bl true) := rfl
theorem isN_t {s : Store} {ds : List D} : dIs s (.tup ds) .non = some (.bl false) := rfl
theorem isnN_i {s : Store} {i : Int} : dIsNot s (.int i) .non = some (.bl true) := rfl
theorem isnN_n {s : Store} : dIsNot s .non .non = some (.bl false) := rfl
theorem isnN_t {s : Store} {ds : List D} : dIsNot s (.tup ds) .non = some (.bl true) := rfl
theorem minI_2 {s : Store} {i j : Int} : fMin s [.int i, .int j] = some (.int (if j < i then j else i)) := rfl
theorem pick_ofI {g : List D → Store → Res D} (R : Rolls g) {P : Int → Prop} {c : Cup} {is : List Int} (h0 : 0 < is.length) (h1 : is.length ≤ 1000000000) (h : ∀ x ∈ is, P x) : P (pick g c is 0) := h _ (pick_mem R h0 h1)
theorem maxI_all2 (i j : Int) : (maxI 0 [i, j] = 0 ∨ maxI 0 [i, j] = i ∨ maxI 0 [i, j] = j) ∧ 0 ≤ maxI 0 [i, j] := by
  show ((if j > (if i > 0 then i else 0) then j else (if i > 0 then i else 0)) = 0 ∨ _) ∧ 0 ≤ (if j > (if i > 0 then i else 0) then j else (if i > 0 then i else 0))
  show ((if j > (if i > 0 then i else 0) then j else (if i > 0 then i else 0)) = 0 ∨ (if j > (if i > 0 then i else 0) then j else (if i > 0 then i else 0)) = i ∨ (if j > (if i > 0 then i else 0) then j else (if i > 0 then i else 0)) = j) ∧ 0 ≤ (if j > (if i > 0 then i else 0) then j else (if i > 0 then i else 0))
  split <;> split <;> omega
end Mn

namespace Wk37
open PySem PySem.Spec PyProof.Rows L2 Mn
abbrev top (i : Nat) : Stmt := PySem.Challenge.pw_lanternserver_k37_whole_rows_in_any_orde.main.body.getD i (.Pass ⟨0, 0, 0, 0⟩)
def cs : List (Str × D) := [("ROUND", (.int (4294967296))), ("HALF", (.int (2147483648))), ("MOST", (.int (300))), ("PIECES", (.int (6)))]
def es : List Str := ["InvalidNumber"]
def gl : List Str := [("_law_cup" : Str), ("_law_roll" : Str), ("_law_some" : Str), ("_law_start" : Str), ("_law_octets" : Str), ("fresh_goods" : Str), ("is_whole" : Str), ("need_whole" : Str), ("need_ring" : Str), ("ring_gap" : Str), ("room_of" : Str), ("that_count" : Str), ("place_of_first" : Str), ("ring_plus" : Str), ("in_order" : Str), ("with_pieces" : Str), ("goods_behind" : Str), ("_law_number" : Str), ("_law_backwards" : Str), ("taken_from" : Str), ("_law_written_right" : Str), ("is_at_end" : Str), ("law" : Str)]
/-! _law_cup -/
abbrev s_law_cup : Stmt := top 25
def N_law_cup : List Str := ["script", "cell"]
noncomputable def S_law_cup_1 : S := (sAsg (gN 1) (eCall fAbs [(eOp dItem (eOp dAdd (eCall fList [(eVar 0)]) (eLst [(eC (.int 0))])) (eC (.int 0)))]))  -- 70
noncomputable def S_law_cup_2 : S := (sRet (eLstR [(eIf (eOp dGe (eVar 1) (eOp dPow (eC (.int 10)) (eC (.int 18)))) (eOp dDiv (eVar 1) (eC (.int 61))) (eC (.int 0))), (eOp dAdd (eOp dMod (eCall fInt [(eOp dAdd (eOp dMul (eVar 1) (eC (.int 331))) (eC (.int 3307)))]) (eC (.int 2077503019))) (eC (.int 223)))]))  -- 71
noncomputable def sh_law_cup : S := (sSeq S_law_cup_1 ( sSeq S_law_cup_2 (sNop)))
noncomputable def f_law_cup : List D → Store → Res D := fnM 2 sh_law_cup
def md_law_cup (p : Pos) : Bool := (p.line == 71 && p.col == 11)
noncomputable abbrev FL_law_cup : List (Str × Nat × (List D → Store → Res D)) := []
theorem den_law_cup : denB ⟨find1 cs, find1 FL_law_cup, md_law_cup, excL es⟩ N_law_cup (defScope s_law_cup) (fun _ => true) (defBody s_law_cup) = sh_law_cup := by kernel_rfl
theorem fs_law_cup : fsC N_law_cup ["script"] (defScope s_law_cup) = true := by kernel_rfl
/-! _law_roll -/
abbrev s_law_roll : Stmt := top 26
def N_law_roll : List Str := ["cup", "many", "deep", "found"]
noncomputable def S_law_roll_2 : S := (sAsg (gN 3) (eOp dMod (eCall fInt [(eOp dItem (eVar 0) (eC (.int 0)))]) (eVar 1)))  -- 74
noncomputable def S_law_roll_3 : S := (sAsg (gSubD (eVar 0) (eC (.int 0))) (eOp dDiv (eOp dItem (eVar 0) (eC (.int 0))) (eVar 1)))  -- 75
noncomputable def S_law_roll_4 : S := (sRet (eVar 3))  -- 76
noncomputable def B_law_roll_1 : S := (sSeq S_law_roll_2 ( sSeq S_law_roll_3 ( sSeq S_law_roll_4 (sNop))))
noncomputable def S_law_roll_1 : S := (sIf (eOp dGt (eOp dItem (eVar 0) (eC (.int 0))) (eC (.int 0))) B_law_roll_1 sNop)  -- 73
noncomputable def S_law_roll_5 : S := (sAsg (gSubD (eVar 0) (eC (.int 1))) (eOp dMod (eCall fInt [(eOp dAdd (eOp dMul (eOp dItem (eVar 0) (eC (.int 1))) (eC (.int 31147))) (eC (.int 8087)))]) (eC (.int 2147483309))))  -- 77
noncomputable def S_law_roll_6 : S := (sAsg (gN 2) (eOp dMod (eCall fInt [(eOp dMul (eOp dItem (eVar 0) (eC (.int 1))) (eOp dAdd (eOp dItem (eVar 0) (eC (.int 1))) (eC (.int 271))))]) (eC (.int 2147483587))))  -- 78
noncomputable def S_law_roll_7 : S := (sRet (eOp dMod (eCall fInt [(eOp dDiv (eVar 2) (eC (.int 863)))]) (eVar 1)))  -- 79
noncomputable def sh_law_roll : S := (sSeq S_law_roll_1 ( sSeq S_law_roll_5 ( sSeq S_law_roll_6 ( sSeq S_law_roll_7 (sNop)))))
noncomputable def f_law_roll : List D → Store → Res D := fnM 4 sh_law_roll
def md_law_roll (p : Pos) : Bool := false
noncomputable abbrev FL_law_roll : List (Str × Nat × (List D → Store → Res D)) := []
theorem den_law_roll : denB ⟨find1 cs, find1 FL_law_roll, md_law_roll, excL es⟩ N_law_roll (defScope s_law_roll) (fun _ => true) (defBody s_law_roll) = sh_law_roll := by kernel_rfl
theorem fs_law_roll : fsC N_law_roll ["cup", "many"] (defScope s_law_roll) = true := by kernel_rfl
/-! _law_some -/
abbrev s_law_some : Stmt := top 27
def N_law_some : List Str := ["cup", "things"]
noncomputable def S_law_some_1 : S := (sRet (eOp dItem (eVar 1) (eFn f_law_roll [(eVar 0), (eCall fLen [(eVar 1)])])))  -- 81
noncomputable def sh_law_some : S := (sSeq S_law_some_1 (sNop))
noncomputable def f_law_some : List D → Store → Res D := fnM 2 sh_law_some
def md_law_some (p : Pos) : Bool := false
noncomputable abbrev FL_law_some : List (Str × Nat × (List D → Store → Res D)) := [("_law_roll", 2, f_law_roll)]
theorem den_law_some : denB ⟨find1 cs, find1 FL_law_some, md_law_some, excL es⟩ N_law_some (defScope s_law_some) (fun _ => true) (defBody s_law_some) = sh_law_some := by kernel_rfl
theorem fs_law_some : fsC N_law_some ["cup", "things"] (defScope s_law_some) = true := by kernel_rfl
/-! _law_start -/
abbrev s_law_start : Stmt := top 30
def N_law_start : List Str := ["cup"]
noncomputable def S_law_start_1 : S := (sRet (eFn f_law_some [(eVar 0), (eLst [(eC (.int 0)), (eOp dSub (eOp dPow (eC (.int 2)) (eC (.int 32))) (eC (.int 1))), (eOp dSub (eOp dPow (eC (.int 2)) (eC (.int 32))) (eC (.int 20))), (eOp dSub (eOp dPow (eC (.int 2)) (eC (.int 31))) (eC (.int 7))), (eC (.int 4294967096)), (eFn f_law_roll [(eVar 0), (eOp dPow (eC (.int 2)) (eC (.int 32)))])])]))  -- 87
noncomputable def sh_law_start : S := (sSeq S_law_start_1 (sNop))
noncomputable def f_law_start : List D → Store → Res D := fnM 1 sh_law_start
def md_law_start (p : Pos) : Bool := false
noncomputable abbrev FL_law_start : List (Str × Nat × (List D → Store → Res D)) := [("_law_some", 2, f_law_some), ("_law_roll", 2, f_law_roll)]
theorem den_law_start : denB ⟨find1 cs, find1 FL_law_start, md_law_start, excL es⟩ N_law_start (defScope s_law_start) (fun _ => true) (defBody s_law_start) = sh_law_start := by kernel_rfl
theorem fs_law_start : fsC N_law_start ["cup"] (defScope s_law_start) = true := by kernel_rfl
/-! _law_octets -/
abbrev s_law_octets : Stmt := top 29
def N_law_octets : List Str := ["seed", "many", "k"]
noncomputable def S_law_octets_1 : S := (sRet (eCall fTuple [(eComp [2] (iRange1 (eVar 1)) (gN 2) [] (eOp dMod (eCall fInt [(eOp dAdd (eOp dAdd (eOp dMul (eVar 0) (eC (.int 7))) (eOp dMul (eVar 2) (eC (.int 13)))) (eC (.int 5)))]) (eC (.int 256))))]))  -- 85
noncomputable def sh_law_octets : S := (sSeq S_law_octets_1 (sNop))
noncomputable def f_law_octets : List D → Store → Res D := fnM 3 sh_law_octets
def md_law_octets (p : Pos) : Bool := false
noncomputable abbrev FL_law_octets : List (Str × Nat × (List D → Store → Res D)) := []
theorem den_law_octets : denB ⟨find1 cs, find1 FL_law_octets, md_law_octets, excL es⟩ N_law_octets (defScope s_law_octets) (fun _ => true) (defBody s_law_octets) = sh_law_octets := by kernel_rfl
theorem fs_law_octets : fsC N_law_octets ["seed", "many"] (defScope s_law_octets) = true := by kernel_rfl
/-! fresh_goods -/
abbrev s_fresh_goods : Stmt := top 15
def N_fresh_goods : List Str := ["rcv"]
noncomputable def S_fresh_goods_1 : S := (sRet (eTup [(eVar 0), (eTup []), (eTup []), (eC (.bl false))]))  -- 29
noncomputable def sh_fresh_goods : S := (sSeq S_fresh_goods_1 (sNop))
noncomputable def f_fresh_goods : List D → Store → Res D := fnM 1 sh_fresh_goods
def md_fresh_goods (p : Pos) : Bool := false
noncomputable abbrev FL_fresh_goods : List (Str × Nat × (List D → Store → Res D)) := []
theorem den_fresh_goods : denB ⟨find1 cs, find1 FL_fresh_goods, md_fresh_goods, excL es⟩ N_fresh_goods (defScope s_fresh_goods) (fun _ => true) (defBody s_fresh_goods) = sh_fresh_goods := by kernel_rfl
theorem fs_fresh_goods : fsC N_fresh_goods ["rcv"] (defScope s_fresh_goods) = true := by kernel_rfl
/-! is_whole -/
abbrev s_is_whole : Stmt := top 4
def N_is_whole : List Str := ["value", "low", "high"]
noncomputable def S_is_whole_1 : S := (sRet (eAnd (eUn (dIsi "int") (eVar 0)) (eAnd (eNot (eUn (dIsi "bool") (eVar 0))) (eChain dLe dLe (eVar 1) (eVar 0) (eVar 2)))))  -- 8
noncomputable def sh_is_whole : S := (sSeq S_is_whole_1 (sNop))
noncomputable def f_is_whole : List D → Store → Res D := fnM 3 sh_is_whole
def md_is_whole (p : Pos) : Bool := false
noncomputable abbrev FL_is_whole : List (Str × Nat × (List D → Store → Res D)) := []
theorem den_is_whole : denB ⟨find1 cs, find1 FL_is_whole, md_is_whole, excL es⟩ N_is_whole (defScope s_is_whole) (fun _ => true) (defBody s_is_whole) = sh_is_whole := by kernel_rfl
theorem fs_is_whole : fsC N_is_whole ["value", "low", "high"] (defScope s_is_whole) = true := by kernel_rfl
/-! need_whole -/
abbrev s_need_whole : Stmt := top 5
def N_need_whole : List Str := ["value", "low", "high"]
noncomputable def S_need_whole_2 : S := (sRaise "InvalidNumber")  -- 11
noncomputable def B_need_whole_1 : S := (sSeq S_need_whole_2 (sNop))
noncomputable def S_need_whole_1 : S := (sIf (eNot (eFn f_is_whole [(eVar 0), (eVar 1), (eVar 2)])) B_need_whole_1 sNop)  -- 10
noncomputable def sh_need_whole : S := (sSeq S_need_whole_1 (sNop))
noncomputable def f_need_whole : List D → Store → Res D := fnM 3 sh_need_whole
def md_need_whole (p : Pos) : Bool := false
noncomputable abbrev FL_need_whole : List (Str × Nat × (List D → Store → Res D)) := [("is_whole", 3, f_is_whole)]
theorem den_need_whole : denB ⟨find1 cs, find1 FL_need_whole, md_need_whole, excL es⟩ N_need_whole (defScope s_need_whole) (fun _ => true) (defBody s_need_whole) = sh_need_whole := by kernel_rfl
theorem fs_need_whole : fsC N_need_whole ["value", "low", "high"] (defScope s_need_whole) = true := by kernel_rfl
/-! need_ring -/
abbrev s_need_ring : Stmt := top 9
def N_need_ring : List Str := ["value"]
noncomputable def S_need_ring_1 : S := (sExpr (eFn f_need_whole [(eVar 0), (eC (.int 0)), (eOp dSub (eC (.int (4294967296))) (eC (.int 1)))]))  -- 16
noncomputable def sh_need_ring : S := (sSeq S_need_ring_1 (sNop))
noncomputable def f_need_ring : List D → Store → Res D := fnM 1 sh_need_ring
def md_need_ring (p : Pos) : Bool := false
noncomputable abbrev FL_need_ring : List (Str × Nat × (List D → Store → Res D)) := [("need_whole", 3, f_need_whole)]
theorem den_need_ring : denB ⟨find1 cs, find1 FL_need_ring, md_need_ring, excL es⟩ N_need_ring (defScope s_need_ring) (fun _ => true) (defBody s_need_ring) = sh_need_ring := by kernel_rfl
theorem fs_need_ring : fsC N_need_ring ["value"] (defScope s_need_ring) = true := by kernel_rfl
/-! ring_gap -/
abbrev s_ring_gap : Stmt := top 11
def N_ring_gap : List Str := ["one", "other"]
noncomputable def S_ring_gap_1 : S := (sExpr (eFn f_need_ring [(eVar 0)]))  -- 22
noncomputable def S_ring_gap_2 : S := (sExpr (eFn f_need_ring [(eVar 1)]))  -- 23
noncomputable def S_ring_gap_3 : S := (sRet (eOp dSub (eOp dMod (eOp dAdd (eOp dSub (eVar 1) (eVar 0)) (eC (.int (2147483648)))) (eC (.int (4294967296)))) (eC (.int (2147483648)))))  -- 24
noncomputable def sh_ring_gap : S := (sSeq S_ring_gap_1 ( sSeq S_ring_gap_2 ( sSeq S_ring_gap_3 (sNop))))
noncomputable def f_ring_gap : List D → Store → Res D := fnM 2 sh_ring_gap
def md_ring_gap (p : Pos) : Bool := false
noncomputable abbrev FL_ring_gap : List (Str × Nat × (List D → Store → Res D)) := [("need_ring", 1, f_need_ring)]
theorem den_ring_gap : denB ⟨find1 cs, find1 FL_ring_gap, md_ring_gap, excL es⟩ N_ring_gap (defScope s_ring_gap) (fun _ => true) (defBody s_ring_gap) = sh_ring_gap := by kernel_rfl
theorem fs_ring_gap : fsC N_ring_gap ["one", "other"] (defScope s_ring_gap) = true := by kernel_rfl
/-! room_of -/
abbrev s_room_of : Stmt := top 16
def N_room_of : List Str := ["goods"]
noncomputable def S_room_of_1 : S := (sRet (eOp dSub (eC (.int (300))) (eCall fLen [(eOp dItem (eVar 0) (eC (.int 1)))])))  -- 31
noncomputable def sh_room_of : S := (sSeq S_room_of_1 (sNop))
noncomputable def f_room_of : List D → Store → Res D := fnM 1 sh_room_of
def md_room_of (p : Pos) : Bool := false
noncomputable abbrev FL_room_of : List (Str × Nat × (List D → Store → Res D)) := []
theorem den_room_of : denB ⟨find1 cs, find1 FL_room_of, md_room_of, excL es⟩ N_room_of (defScope s_room_of) (fun _ => true) (defBody s_room_of) = sh_room_of := by kernel_rfl
theorem fs_room_of : fsC N_room_of ["goods"] (defScope s_room_of) = true := by kernel_rfl
/-! that_count -/
abbrev s_that_count : Stmt := top 17
def N_that_count : List Str := ["goods", "seq", "octets", "gap", "start"]
noncomputable def S_that_count_1 : S := (sAsg (gN 3) (eFn f_ring_gap [(eOp dItem (eVar 0) (eC (.int 0))), (eVar 1)]))  -- 33
noncomputable def S_that_count_2 : S := (sAsg (gN 4) (eCall fMax [(eC (.int 0)), (eUn dNeg (eVar 3))]))  -- 34
noncomputable def S_that_count_3 : S := (sRet (eSlice (eVar 2) (some (eVar 4)) (some (eCall fMax [(eVar 4), (eOp dSub (eFn f_room_of [(eVar 0)]) (eVar 3))]))))  -- 35
noncomputable def sh_that_count : S := (sSeq S_that_count_1 ( sSeq S_that_count_2 ( sSeq S_that_count_3 (sNop))))
noncomputable def f_that_count : List D → Store → Res D := fnM 5 sh_that_count
def md_that_count (p : Pos) : Bool := false
noncomputable abbrev FL_that_count : List (Str × Nat × (List D → Store → Res D)) := [("ring_gap", 2, f_ring_gap), ("room_of", 1, f_room_of)]
theorem den_that_count : denB ⟨find1 cs, find1 FL_that_count, md_that_count, excL es⟩ N_that_count (defScope s_that_count) (fun _ => true) (defBody s_that_count) = sh_that_count := by kernel_rfl
theorem fs_that_count : fsC N_that_count ["goods", "seq", "octets"] (defScope s_that_count) = true := by kernel_rfl
/-! place_of_first -/
abbrev s_place_of_first : Stmt := top 19
def N_place_of_first : List Str := ["goods", "gaps", "turns", "at", "pair", "seq", "octets"]
noncomputable def S_place_of_first_1 : S := (sAsg (gN 1) (eComp [3, 5, 6] (iEnumD (eOp dItem (eVar 0) (eC (.int 2)))) (gT [(gN 3), (gT [(gN 5), (gN 6)])]) [] (eTup [(eFn f_ring_gap [(eOp dItem (eVar 0) (eC (.int 0))), (eVar 5)]), (eVar 3)])))  -- 40
noncomputable def S_place_of_first_2 : S := (sAsg (gN 2) (eCall fSortP [(eComp [4] (iSeq (eVar 1)) (gN 4) [(eOp dLe (eOp dItem (eVar 4) (eC (.int 0))) (eC (.int 0)))] (eVar 4))]))  -- 41
noncomputable def S_place_of_first_3 : S := (sRet (eIf (eOp dNe (eVar 2) (eLst [])) (eOp dItem (eOp dItem (eVar 2) (eC (.int 0))) (eC (.int 1))) (eC .non)))  -- 42
noncomputable def sh_place_of_first : S := (sSeq S_place_of_first_1 ( sSeq S_place_of_first_2 ( sSeq S_place_of_first_3 (sNop))))
noncomputable def f_place_of_first : List D → Store → Res D := fnM 7 sh_place_of_first
def md_place_of_first (p : Pos) : Bool := false
noncomputable abbrev FL_place_of_first : List (Str × Nat × (List D → Store → Res D)) := [("ring_gap", 2, f_ring_gap)]
theorem den_place_of_first : denB ⟨find1 cs, find1 FL_place_of_first, md_place_of_first, excL es⟩ N_place_of_first (defScope s_place_of_first) (fun _ => true) (defBody s_place_of_first) = sh_place_of_first := by kernel_rfl
theorem fs_place_of_first : fsC N_place_of_first ["goods"] (defScope s_place_of_first) = true := by kernel_rfl
/-! ring_plus -/
abbrev s_ring_plus : Stmt := top 10
def N_ring_plus : List Str := ["one", "many"]
noncomputable def S_ring_plus_1 : S := (sExpr (eFn f_need_ring [(eVar 0)]))  -- 18
noncomputable def S_ring_plus_2 : S := (sExpr (eFn f_need_whole [(eVar 1), (eUn dNeg (eC (.int (4294967296)))), (eC (.int (4294967296)))]))  -- 19
noncomputable def S_ring_plus_3 : S := (sRet (eOp dMod (eOp dAdd (eVar 0) (eVar 1)) (eC (.int (4294967296)))))  -- 20
noncomputable def sh_ring_plus : S := (sSeq S_ring_plus_1 ( sSeq S_ring_plus_2 ( sSeq S_ring_plus_3 (sNop))))
noncomputable def f_ring_plus : List D → Store → Res D := fnM 2 sh_ring_plus
def md_ring_plus (p : Pos) : Bool := false
noncomputable abbrev FL_ring_plus : List (Str × Nat × (List D → Store → Res D)) := [("need_ring", 1, f_need_ring), ("need_whole", 3, f_need_whole)]
theorem den_ring_plus : denB ⟨find1 cs, find1 FL_ring_plus, md_ring_plus, excL es⟩ N_ring_plus (defScope s_ring_plus) (fun _ => true) (defBody s_ring_plus) = sh_ring_plus := by kernel_rfl
theorem fs_ring_plus : fsC N_ring_plus ["one", "many"] (defScope s_ring_plus) = true := by kernel_rfl
/-! in_order -/
abbrev s_in_order : Stmt := top 18
def N_in_order : List Str := ["goods", "octets", "rcv", "waiting", "pieces", "is_ended"]
noncomputable def S_in_order_1 : S := (sAsg (gT [(gN 2), (gN 3), (gN 4), (gN 5)]) (eVar 0))  -- 37
noncomputable def S_in_order_2 : S := (sRet (eTup [(eFn f_ring_plus [(eVar 2), (eCall fLen [(eVar 1)])]), (eOp dAdd (eVar 3) (eVar 1)), (eVar 4), (eVar 5)]))  -- 38
noncomputable def sh_in_order : S := (sSeq S_in_order_1 ( sSeq S_in_order_2 (sNop)))
noncomputable def f_in_order : List D → Store → Res D := fnM 6 sh_in_order
def md_in_order (p : Pos) : Bool := false
noncomputable abbrev FL_in_order : List (Str × Nat × (List D → Store → Res D)) := [("ring_plus", 2, f_ring_plus)]
theorem den_in_order : denB ⟨find1 cs, find1 FL_in_order, md_in_order, excL es⟩ N_in_order (defScope s_in_order) (fun _ => true) (defBody s_in_order) = sh_in_order := by kernel_rfl
theorem fs_in_order : fsC N_in_order ["goods", "octets"] (defScope s_in_order) = true := by kernel_rfl
/-! with_pieces -/
abbrev s_with_pieces : Stmt := top 20
def N_with_pieces : List Str := ["goods", "at", "rcv", "waiting", "pieces", "is_ended", "seq", "octets"]
noncomputable def S_with_pieces_1 : S := (sAsg (gN 1) (eFn f_place_of_first [(eVar 0)]))  -- 44
noncomputable def S_with_pieces_3 : S := (sAsg (gT [(gN 2), (gN 3), (gN 4), (gN 5)]) (eVar 0))  -- 46
noncomputable def S_with_pieces_4 : S := (sAsg (gT [(gN 6), (gN 7)]) (eOp dItem (eVar 4) (eVar 1)))  -- 47
noncomputable def S_with_pieces_5 : S := (sAsg (gN 0) (eFn f_in_order [(eTup [(eVar 2), (eVar 3), (eOp dAdd (eSlice (eVar 4) none (some (eVar 1))) (eSlice (eVar 4) (some (eOp dAdd (eVar 1) (eC (.int 1)))) none)), (eVar 5)]), (eFn f_that_count [(eVar 0), (eVar 6), (eVar 7)])]))  -- 48
noncomputable def S_with_pieces_6 : S := (sAsg (gN 1) (eFn f_place_of_first [(eVar 0)]))  -- 49
noncomputable def B_with_pieces_2 : S := (sSeq S_with_pieces_3 ( sSeq S_with_pieces_4 ( sSeq S_with_pieces_5 ( sSeq S_with_pieces_6 (sNop)))))
noncomputable def S_with_pieces_2 : S := (sWhile (eOp dIsNot (eVar 1) (eC .non)) B_with_pieces_2)  -- 45
noncomputable def S_with_pieces_7 : S := (sRet (eVar 0))  -- 50
noncomputable def sh_with_pieces : S := (sSeq S_with_pieces_1 ( sSeq S_with_pieces_2 ( sSeq S_with_pieces_7 (sNop))))
noncomputable def f_with_pieces : List D → Store → Res D := fnM 8 sh_with_pieces
def md_with_pieces (p : Pos) : Bool := false
noncomputable abbrev FL_with_pieces : List (Str × Nat × (List D → Store → Res D)) := [("place_of_first", 1, f_place_of_first), ("in_order", 2, f_in_order), ("that_count", 3, f_that_count)]
theorem den_with_pieces : denB ⟨find1 cs, find1 FL_with_pieces, md_with_pieces, excL es⟩ N_with_pieces (defScope s_with_pieces) (fun _ => true) (defBody s_with_pieces) = sh_with_pieces := by kernel_rfl
theorem fs_with_pieces : fsC N_with_pieces ["goods"] (defScope s_with_pieces) = true := by kernel_rfl
/-! goods_behind -/
abbrev s_goods_behind : Stmt := top 21
def N_goods_behind : List Str := ["goods", "seq", "octets", "is_last", "rcv", "waiting", "pieces", "is_ended", "later", "some"]
noncomputable def S_goods_behind_1 : S := (sAsg (gT [(gN 4), (gN 5), (gN 6), (gN 7)]) (eVar 0))  -- 52
noncomputable def S_goods_behind_3 : S := (sRet (eVar 0))  -- 54
noncomputable def B_goods_behind_2 : S := (sSeq S_goods_behind_3 (sNop))
noncomputable def S_goods_behind_2 : S := (sIf (eVar 7) B_goods_behind_2 sNop)  -- 53
noncomputable def S_goods_behind_4 : S := (sAsg (gT [(gN 8), (gN 9)]) (eTup [(eVar 0), (eFn f_that_count [(eVar 0), (eVar 1), (eVar 2)])]))  -- 55
noncomputable def S_goods_behind_6 : S := (sAsg (gN 8) (eFn f_with_pieces [(eFn f_in_order [(eVar 0), (eVar 9)])]))  -- 57
noncomputable def B_goods_behind_5 : S := (sSeq S_goods_behind_6 (sNop))
noncomputable def S_goods_behind_8 : S := (sAsg (gN 8) (eTup [(eVar 4), (eVar 5), (eOp dAdd (eVar 6) (eTup [(eTup [(eVar 1), (eVar 9)])])), (eVar 7)]))  -- 59
noncomputable def B_goods_behind_7 : S := (sSeq S_goods_behind_8 (sNop))
noncomputable def S_goods_behind_7 : S := (sIf (eAnd (eOp dNe (eVar 9) (eTup [])) (eOp dLt (eCall fLen [(eVar 6)]) (eC (.int (6))))) B_goods_behind_7 sNop)  -- 58
noncomputable def C_goods_behind_5 : S := (sSeq S_goods_behind_7 (sNop))
noncomputable def S_goods_behind_5 : S := (sIf (eOp dLe (eFn f_ring_gap [(eVar 4), (eVar 1)]) (eC (.int 0))) B_goods_behind_5 C_goods_behind_5)  -- 56
noncomputable def S_goods_behind_10 : S := (sRet (eTup [(eFn f_ring_plus [(eOp dItem (eVar 8) (eC (.int 0))), (eC (.int 1))]), (eOp dItem (eVar 8) (eC (.int 1))), (eTup []), (eC (.bl true))]))  -- 61
noncomputable def B_goods_behind_9 : S := (sSeq S_goods_behind_10 (sNop))
noncomputable def S_goods_behind_9 : S := (sIf (eAnd (eVar 3) (eOp dEq (eFn f_ring_plus [(eVar 1), (eCall fLen [(eVar 2)])]) (eOp dItem (eVar 8) (eC (.int 0))))) B_goods_behind_9 sNop)  -- 60
noncomputable def S_goods_behind_11 : S := (sRet (eVar 8))  -- 62
noncomputable def sh_goods_behind : S := (sSeq S_goods_behind_1 ( sSeq S_goods_behind_2 ( sSeq S_goods_behind_4 ( sSeq S_goods_behind_5 ( sSeq S_goods_behind_9 ( sSeq S_goods_behind_11 (sNop)))))))
noncomputable def f_goods_behind : List D → Store → Res D := fnM 10 sh_goods_behind
def md_goods_behind (p : Pos) : Bool := false
noncomputable abbrev FL_goods_behind : List (Str × Nat × (List D → Store → Res D)) := [("that_count", 3, f_that_count), ("ring_gap", 2, f_ring_gap), ("with_pieces", 1, f_with_pieces), ("in_order", 2, f_in_order), ("ring_plus", 2, f_ring_plus)]
theorem den_goods_behind : denB ⟨find1 cs, find1 FL_goods_behind, md_goods_behind, excL es⟩ N_goods_behind (defScope s_goods_behind) (fun _ => true) (defBody s_goods_behind) = sh_goods_behind := by kernel_rfl
theorem fs_goods_behind : fsC N_goods_behind ["goods", "seq", "octets", "is_last"] (defScope s_goods_behind) = true := by kernel_rfl
/-! _law_number -/
abbrev s_law_number : Stmt := top 28
def N_law_number : List Str := ["start", "place"]
noncomputable def S_law_number_1 : S := (sRet (eOp dMod (eCall fInt [(eOp dAdd (eVar 0) (eVar 1))]) (eOp dPow (eC (.int 2)) (eC (.int 32)))))  -- 83
noncomputable def sh_law_number : S := (sSeq S_law_number_1 (sNop))
noncomputable def f_law_number : List D → Store → Res D := fnM 2 sh_law_number
def md_law_number (p : Pos) : Bool := false
noncomputable abbrev FL_law_number : List (Str × Nat × (List D → Store → Res D)) := []
theorem den_law_number : denB ⟨find1 cs, find1 FL_law_number, md_law_number, excL es⟩ N_law_number (defScope s_law_number) (fun _ => true) (defBody s_law_number) = sh_law_number := by kernel_rfl
theorem fs_law_number : fsC N_law_number ["start", "place"] (defScope s_law_number) = true := by kernel_rfl
/-! _law_backwards -/
abbrev s_law_backwards : Stmt := top 31
def N_law_backwards : List Str := ["start", "row", "at", "goods", "many", "behind"]
noncomputable def S_law_backwards_1 : S := (sAsg (gT [(gN 4), (gN 3)]) (eTup [(eCall fLen [(eVar 1)]), (eFn f_fresh_goods [(eVar 0)])]))  -- 89
noncomputable def S_law_backwards_3 : S := (sAsg (gN 5) (eCall fMin [(eVar 4), (eOp dAdd (eVar 2) (eC (.int 47)))]))  -- 91
noncomputable def S_law_backwards_5 : S := (sRet (eC (.bl false)))  -- 93
noncomputable def B_law_backwards_4 : S := (sSeq S_law_backwards_5 (sNop))
noncomputable def S_law_backwards_4 : S := (sIf (eOp dNe (eOp dItem (eVar 3) (eC (.int 1))) (eTup [])) B_law_backwards_4 sNop)  -- 92
noncomputable def S_law_backwards_6 : S := (sAsg (gN 3) (eFn f_goods_behind [(eVar 3), (eFn f_law_number [(eVar 0), (eVar 2)]), (eSlice (eVar 1) (some (eVar 2)) (some (eVar 5))), (eOp dEq (eVar 5) (eVar 4))]))  -- 94
noncomputable def B_law_backwards_2 : S := (sSeq S_law_backwards_3 ( sSeq S_law_backwards_4 ( sSeq S_law_backwards_6 (sNop))))
noncomputable def S_law_backwards_2 : S := (sFor (iSeq (eRev (eListR3 (eC (.int 0)) (eVar 4) (eC (.int 47))) (eUn dNeg (eC (.int 1))))) (gN 2) B_law_backwards_2)  -- 90
noncomputable def S_law_backwards_8 : S := (sRet (eC (.bl false)))  -- 96
noncomputable def B_law_backwards_7 : S := (sSeq S_law_backwards_8 (sNop))
noncomputable def S_law_backwards_7 : S := (sIf (eOr (eOp dNe (eCall fRepr [(eOp dItem (eVar 3) (eC (.int 1)))]) (eCall fRepr [(eVar 1)])) (eOr (eOp dNe (eOp dItem (eVar 3) (eC (.int 2))) (eTup [])) (eOp dNe (eCall fRepr [(eOp dItem (eVar 3) (eC (.int 3)))]) (eCall fRepr [(eChain dLt dLt (eC (.int 0)) (eVar 4) (eC (.int 48)))])))) B_law_backwards_7 sNop)  -- 95
noncomputable def S_law_backwards_9 : S := (sAsg (gN 3) (eFn f_goods_behind [(eVar 3), (eFn f_law_number [(eVar 0), (eVar 4)]), (eTup []), (eC (.bl true))]))  -- 97
noncomputable def S_law_backwards_10 : S := (sRet (eOp dEq (eCall fRepr [(eVar 3)]) (eCall fRepr [(eTup [(eFn f_law_number [(eVar 0), (eOp dAdd (eVar 4) (eC (.int 1)))]), (eVar 1), (eTup []), (eC (.bl true))])])))  -- 98
noncomputable def sh_law_backwards : S := (sSeq S_law_backwards_1 ( sSeq S_law_backwards_2 ( sSeq S_law_backwards_7 ( sSeq S_law_backwards_9 ( sSeq S_law_backwards_10 (sNop))))))
noncomputable def f_law_backwards : List D → Store → Res D := fnM 6 sh_law_backwards
def md_law_backwards (p : Pos) : Bool := false
noncomputable abbrev FL_law_backwards : List (Str × Nat × (List D → Store → Res D)) := [("goods_behind", 4, f_goods_behind), ("fresh_goods", 1, f_fresh_goods), ("_law_number", 2, f_law_number)]
theorem den_law_backwards : denB ⟨find1 cs, find1 FL_law_backwards, md_law_backwards, excL es⟩ N_law_backwards (defScope s_law_backwards) (fun _ => true) (defBody s_law_backwards) = sh_law_backwards := by kernel_rfl
theorem fs_law_backwards : fsC N_law_backwards ["start", "row"] (defScope s_law_backwards) = true := by kernel_rfl
/-! taken_from -/
abbrev s_taken_from : Stmt := top 22
def N_taken_from : List Str := ["goods", "many", "rcv", "waiting", "pieces", "is_ended"]
noncomputable def S_taken_from_1 : S := (sAsg (gT [(gN 2), (gN 3), (gN 4), (gN 5)]) (eVar 0))  -- 64
noncomputable def S_taken_from_2 : S := (sRet (eTup [(eTup [(eVar 2), (eSlice (eVar 3) (some (eVar 1)) none), (eVar 4), (eVar 5)]), (eSlice (eVar 3) none (some (eVar 1)))]))  -- 65
noncomputable def sh_taken_from : S := (sSeq S_taken_from_1 ( sSeq S_taken_from_2 (sNop)))
noncomputable def f_taken_from : List D → Store → Res D := fnM 6 sh_taken_from
def md_taken_from (p : Pos) : Bool := false
noncomputable abbrev FL_taken_from : List (Str × Nat × (List D → Store → Res D)) := []
theorem den_taken_from : denB ⟨find1 cs, find1 FL_taken_from, md_taken_from, excL es⟩ N_taken_from (defScope s_taken_from) (fun _ => true) (defBody s_taken_from) = sh_taken_from := by kernel_rfl
theorem fs_taken_from : fsC N_taken_from ["goods", "many"] (defScope s_taken_from) = true := by kernel_rfl
/-! _law_written_right -/
abbrev s_law_written_right : Stmt := top 32
def N_law_written_right : List Str := ["at", "row", "full", "goods", "octets"]
noncomputable def S_law_written_right_1 : S := (sAsg (gT [(gN 1), (gN 3)]) (eTup [(eFn f_law_octets [(eC (.int 5)), (eC (.int 160))]), (eFn f_fresh_goods [(eC (.int 4294967200))])]))  -- 100
noncomputable def S_law_written_right_3 : S := (sAsg (gN 3) (eFn f_goods_behind [(eVar 3), (eFn f_law_number [(eC (.int 4294967200)), (eVar 0)]), (eSlice (eVar 1) (some (eVar 0)) (some (eOp dAdd (eVar 0) (eC (.int 20))))), (eC (.bl false))]))  -- 102
noncomputable def B_law_written_right_2 : S := (sSeq S_law_written_right_3 (sNop))
noncomputable def S_law_written_right_2 : S := (sFor (iSeq (eTup [(eC (.int 140)), (eC (.int 120)), (eC (.int 100)), (eC (.int 80)), (eC (.int 60)), (eC (.int 40)), (eC (.int 20)), (eC (.int 0))])) (gN 0) B_law_written_right_2)  -- 101
noncomputable def S_law_written_right_5 : S := (sRet (eC (.bl false)))  -- 104
noncomputable def B_law_written_right_4 : S := (sSeq S_law_written_right_5 (sNop))
noncomputable def S_law_written_right_4 : S := (sIf (eOr (eOp dNe (eCall fRepr [(eOp dItem (eVar 3) (eC (.int 1)))]) (eCall fRepr [(eSlice (eVar 1) none (some (eC (.int 20))))])) (eOr (eOp dNe (eCall fLen [(eOp dItem (eVar 3) (eC (.int 2)))]) (eC (.int 6))) (eOp dNe (eOp dItem (eVar 3) (eC (.int 0))) (eC (.int 4294967220))))) B_law_written_right_4 sNop)  -- 103
noncomputable def S_law_written_right_7 : S := (sRet (eC (.bl false)))  -- 106
noncomputable def B_law_written_right_6 : S := (sSeq S_law_written_right_7 (sNop))
noncomputable def S_law_written_right_6 : S := (sIf (eOp dNe (eCall fRepr [(eFn f_goods_behind [(eVar 3), (eC (.int 4294967220)), (eSlice (eVar 1) (some (eC (.int 20))) (some (eC (.int 40)))), (eC (.bl false))])]) (eCall fRepr [(eTup [(eC (.int 64)), (eVar 1), (eTup []), (eC (.bl false))])])) B_law_written_right_6 sNop)  -- 105
noncomputable def S_law_written_right_8 : S := (sAsg (gN 1) (eFn f_law_octets [(eC (.int 6)), (eC (.int 320))]))  -- 107
noncomputable def S_law_written_right_9 : S := (sAsg (gN 2) (eFn f_goods_behind [(eFn f_fresh_goods [(eC (.int 9))]), (eC (.int 9)), (eSlice (eVar 1) none (some (eC (.int 310)))), (eC (.bl false))]))  -- 108
noncomputable def S_law_written_right_11 : S := (sRet (eC (.bl false)))  -- 110
noncomputable def B_law_written_right_10 : S := (sSeq S_law_written_right_11 (sNop))
noncomputable def S_law_written_right_10 : S := (sIf (eOr (eOp dNe (eCall fRepr [(eVar 2)]) (eCall fRepr [(eTup [(eC (.int 309)), (eSlice (eVar 1) none (some (eC (.int 300)))), (eTup []), (eC (.bl false))])])) (eOp dNe (eCall fRepr [(eFn f_goods_behind [(eVar 2), (eC (.int 309)), (eSlice (eVar 1) (some (eC (.int 300))) none), (eC (.bl true))])]) (eCall fRepr [(eVar 2)]))) B_law_written_right_10 sNop)  -- 109
noncomputable def S_law_written_right_12 : S := (sAsg (gT [(gN 3), (gN 4)]) (eFn f_taken_from [(eVar 2), (eC (.int 50))]))  -- 111
noncomputable def S_law_written_right_13 : S := (sRet (eAnd (eOp dEq (eCall fRepr [(eVar 4)]) (eCall fRepr [(eSlice (eVar 1) none (some (eC (.int 50))))])) (eOp dEq (eCall fRepr [(eFn f_goods_behind [(eVar 3), (eC (.int 309)), (eSlice (eVar 1) (some (eC (.int 300))) none), (eC (.bl true))])]) (eCall fRepr [(eTup [(eC (.int 330)), (eSlice (eVar 1) (some (eC (.int 50))) none), (eTup []), (eC (.bl true))])]))))  -- 112
noncomputable def sh_law_written_right : S := (sSeq S_law_written_right_1 ( sSeq S_law_written_right_2 ( sSeq S_law_written_right_4 ( sSeq S_law_written_right_6 ( sSeq S_law_written_right_8 ( sSeq S_law_written_right_9 ( sSeq S_law_written_right_10 ( sSeq S_law_written_right_12 ( sSeq S_law_written_right_13 (sNop))))))))))
noncomputable def f_law_written_right : List D → Store → Res D := fnM 5 sh_law_written_right
def md_law_written_right (p : Pos) : Bool := false
noncomputable abbrev FL_law_written_right : List (Str × Nat × (List D → Store → Res D)) := [("_law_octets", 2, f_law_octets), ("goods_behind", 4, f_goods_behind), ("taken_from", 2, f_taken_from), ("fresh_goods", 1, f_fresh_goods), ("_law_number", 2, f_law_number)]
theorem den_law_written_right : denB ⟨find1 cs, find1 FL_law_written_right, md_law_written_right, excL es⟩ N_law_written_right (defScope s_law_written_right) (fun _ => true) (defBody s_law_written_right) = sh_law_written_right := by kernel_rfl
theorem fs_law_written_right : fsC N_law_written_right [] (defScope s_law_written_right) = true := by kernel_rfl
/-! is_at_end -/
abbrev s_is_at_end : Stmt := top 23
def N_is_at_end : List Str := ["goods"]
noncomputable def S_is_at_end_1 : S := (sRet (eAnd (eOp dItem (eVar 0) (eC (.int 3))) (eOp dEq (eOp dItem (eVar 0) (eC (.int 1))) (eTup []))))  -- 67
noncomputable def sh_is_at_end : S := (sSeq S_is_at_end_1 (sNop))
noncomputable def f_is_at_end : List D → Store → Res D := fnM 1 sh_is_at_end
def md_is_at_end (p : Pos) : Bool := false
noncomputable abbrev FL_is_at_end : List (Str × Nat × (List D → Store → Res D)) := []
theorem den_is_at_end : denB ⟨find1 cs, find1 FL_is_at_end, md_is_at_end, excL es⟩ N_is_at_end (defScope s_is_at_end) (fun _ => true) (defBody s_is_at_end) = sh_is_at_end := by kernel_rfl
theorem fs_is_at_end : fsC N_is_at_end ["goods"] (defScope s_is_at_end) = true := by kernel_rfl
/-! law -/
abbrev s_law : Stmt := top 33
def N_law : List Str := ["script", "cup", "turn", "at", "start", "many", "row", "goods", "taken", "behind", "came", "octets"]
noncomputable def S_law_1 : S := (sAsg (gN 1) (eFn f_law_cup [(eVar 0)]))  -- 114
noncomputable def S_law_2 : S := (sAsg (gT [(gN 4), (gN 5)]) (eTup [(eFn f_law_start [(eVar 1)]), (eFn f_law_some [(eVar 1), (eLst [(eC (.int 0)), (eC (.int 1)), (eC (.int 40)), (eC (.int 279)), (eFn f_law_roll [(eVar 1), (eC (.int 280))])])])]))  -- 115
noncomputable def S_law_3 : S := (sAsg (gT [(gN 6), (gN 7), (gN 8)]) (eTup [(eFn f_law_octets [(eC (.int 3)), (eVar 5)]), (eFn f_fresh_goods [(eVar 4)]), (eTup [])]))  -- 116
noncomputable def S_law_5 : S := (sAsg (gN 3) (eFn f_law_roll [(eVar 1), (eOp dAdd (eVar 5) (eC (.int 1)))]))  -- 118
noncomputable def S_law_6 : S := (sAsg (gN 9) (eCall fMin [(eVar 5), (eOp dAdd (eVar 3) (eFn f_law_some [(eVar 1), (eLst [(eC (.int 0)), (eC (.int 1)), (eC (.int 4)), (eC (.int 100)), (eFn f_law_roll [(eVar 1), (eC (.int 30))])])]))]))  -- 119
noncomputable def S_law_7 : S := (sAsg (gN 7) (eFn f_goods_behind [(eVar 7), (eFn f_law_number [(eVar 4), (eVar 3)]), (eSlice (eVar 6) (some (eVar 3)) (some (eVar 9))), (eAnd (eOp dEq (eVar 9) (eVar 5)) (eOp dGt (eFn f_law_roll [(eVar 1), (eC (.int 3))]) (eC (.int 0))))]))  -- 120
noncomputable def S_law_9 : S := (sAsg (gT [(gN 7), (gN 11)]) (eFn f_taken_from [(eVar 7), (eFn f_law_some [(eVar 1), (eLst [(eC (.int 1)), (eC (.int 10)), (eC (.int 300))])])]))  -- 122
noncomputable def S_law_10 : S := (sAsg (gN 8) (eOp dAdd (eVar 8) (eVar 11)))  -- 123
noncomputable def B_law_8 : S := (sSeq S_law_9 ( sSeq S_law_10 (sNop)))
noncomputable def S_law_8 : S := (sIf (eOp dEq (eFn f_law_roll [(eVar 1), (eC (.int 3))]) (eC (.int 0))) B_law_8 sNop)  -- 121
noncomputable def S_law_11 : S := (sAsg (gN 10) (eOp dAdd (eVar 8) (eOp dItem (eVar 7) (eC (.int 1)))))  -- 124
noncomputable def S_law_13 : S := (sRet (eC (.bl false)))  -- 126
noncomputable def B_law_12 : S := (sSeq S_law_13 (sNop))
noncomputable def S_law_12 : S := (sIf (eOr (eOp dNe (eCall fRepr [(eVar 10)]) (eCall fRepr [(eSlice (eVar 6) none (some (eCall fLen [(eVar 10)])))])) (eAnd (eOp dItem (eVar 7) (eC (.int 3))) (eOp dLt (eCall fLen [(eVar 10)]) (eVar 5)))) B_law_12 sNop)  -- 125
noncomputable def S_law_15 : S := (sRet (eC (.bl false)))  -- 128
noncomputable def B_law_14 : S := (sSeq S_law_15 (sNop))
noncomputable def S_law_14 : S := (sIf (eOp dNe (eOp dItem (eVar 7) (eC (.int 0))) (eFn f_law_number [(eVar 4), (eOp dAdd (eCall fLen [(eVar 10)]) (eIf (eOp dItem (eVar 7) (eC (.int 3))) (eC (.int 1)) (eC (.int 0))))])) B_law_14 sNop)  -- 127
noncomputable def B_law_4 : S := (sSeq S_law_5 ( sSeq S_law_6 ( sSeq S_law_7 ( sSeq S_law_8 ( sSeq S_law_11 ( sSeq S_law_12 ( sSeq S_law_14 (sNop))))))))
noncomputable def S_law_4 : S := (sFor (iRange1 (eC (.int 30))) (gN 2) B_law_4)  -- 117
noncomputable def S_law_17 : S := (sAsg (gN 9) (eCall fMin [(eVar 5), (eOp dAdd (eVar 3) (eC (.int 40)))]))  -- 130
noncomputable def S_law_18 : S := (sAsg (gN 7) (eFn f_goods_behind [(eVar 7), (eFn f_law_number [(eVar 4), (eVar 3)]), (eSlice (eVar 6) (some (eVar 3)) (some (eVar 9))), (eOp dEq (eVar 9) (eVar 5))]))  -- 131
noncomputable def B_law_16 : S := (sSeq S_law_17 ( sSeq S_law_18 (sNop)))
noncomputable def S_law_16 : S := (sFor (iRange3 (eC (.int 0)) (eOp dAdd (eVar 5) (eC (.int 1))) (eC (.int 40))) (gN 3) B_law_16)  -- 129
noncomputable def S_law_20 : S := (sRet (eC (.bl false)))  -- 133
noncomputable def B_law_19 : S := (sSeq S_law_20 (sNop))
noncomputable def S_law_19 : S := (sIf (eOr (eOp dNe (eCall fRepr [(eOp dAdd (eVar 8) (eOp dItem (eVar 7) (eC (.int 1))))]) (eCall fRepr [(eVar 6)])) (eOr (eOp dIsNot (eOp dItem (eVar 7) (eC (.int 3))) (eC (.bl true))) (eOp dIsNot (eFn f_is_at_end [(eOp dItem (eFn f_taken_from [(eVar 7), (eC (.int 300))]) (eC (.int 0)))]) (eC (.bl true))))) B_law_19 sNop)  -- 132
noncomputable def S_law_21 : S := (sRet (eAnd (eFn f_law_backwards [(eVar 4), (eVar 6)]) (eFn f_law_written_right [])))  -- 134
noncomputable def sh_law : S := (sSeq S_law_1 ( sSeq S_law_2 ( sSeq S_law_3 ( sSeq S_law_4 ( sSeq S_law_16 ( sSeq S_law_19 ( sSeq S_law_21 (sNop))))))))
noncomputable def f_law : List D → Store → Res D := fnM 12 sh_law
def md_law (p : Pos) : Bool := false
noncomputable abbrev FL_law : List (Str × Nat × (List D → Store → Res D)) := [("_law_cup", 1, f_law_cup), ("_law_start", 1, f_law_start), ("_law_some", 2, f_law_some), ("_law_octets", 2, f_law_octets), ("fresh_goods", 1, f_fresh_goods), ("_law_roll", 2, f_law_roll), ("goods_behind", 4, f_goods_behind), ("_law_backwards", 2, f_law_backwards), ("_law_written_right", 0, f_law_written_right), ("_law_number", 2, f_law_number), ("taken_from", 2, f_taken_from), ("is_at_end", 1, f_is_at_end)]
theorem den_law : denB ⟨find1 cs, find1 FL_law, md_law, excL es⟩ N_law (defScope s_law) (fun _ => true) (defBody s_law) = sh_law := by kernel_rfl
theorem fs_law : fsC N_law ["script"] (defScope s_law) = true := by kernel_rfl
/-! the head -/
def fn : List He.DefD := [defD "_law_cup" s_law_cup, defD "_law_roll" s_law_roll, defD "_law_some" s_law_some, defD "_law_start" s_law_start, defD "_law_octets" s_law_octets, defD "fresh_goods" s_fresh_goods, defD "is_whole" s_is_whole, defD "need_whole" s_need_whole, defD "need_ring" s_need_ring, defD "ring_gap" s_ring_gap, defD "room_of" s_room_of, defD "that_count" s_that_count, defD "place_of_first" s_place_of_first, defD "ring_plus" s_ring_plus, defD "in_order" s_in_order, defD "with_pieces" s_with_pieces, defD "goods_behind" s_goods_behind, defD "_law_number" s_law_number, defD "_law_backwards" s_law_backwards, defD "taken_from" s_taken_from, defD "_law_written_right" s_law_written_right, defD "is_at_end" s_is_at_end, defD "law" s_law]
section
variable {P : Program} {w : World} {K : PySem.W.Frag} {mg : Str → Option Value} {base h : Heap}
theorem k_law_cup (H : HeadK K h mg gl es fn cs) : CalK P w K mg base 1 "_law_cup" 1 f_law_cup := H.ok (k := 0) 0 rfl rfl fs_law_cup (fun _ _ F => FunD.bindsN F fun _ _ _ _ _ _ us hl => match us, hl with | [_], _ => rfl) rfl CalL.nil den_law_cup
theorem k_law_roll (H : HeadK K h mg gl es fn cs) : CalK P w K mg base 1 "_law_roll" 2 f_law_roll := H.ok (k := 0) 1 rfl rfl fs_law_roll (fun _ _ F => FunD.bindsN F fun _ _ _ _ _ _ us hl => match us, hl with | [_, _], _ => rfl) rfl CalL.nil den_law_roll
theorem k_law_some (H : HeadK K h mg gl es fn cs) : CalK P w K mg base 2 "_law_some" 2 f_law_some := H.ok (k := 1) 2 rfl rfl fs_law_some (fun _ _ F => FunD.bindsN F fun _ _ _ _ _ _ us hl => match us, hl with | [_, _], _ => rfl) rfl (CalL.cons (k_law_roll H) (by decide) CalL.nil) den_law_some
theorem k_law_start (H : HeadK K h mg gl es fn cs) : CalK P w K mg base 3 "_law_start" 1 f_law_start := H.ok (k := 2) 3 rfl rfl fs_law_start (fun _ _ F => FunD.bindsN F fun _ _ _ _ _ _ us hl => match us, hl with | [_], _ => rfl) rfl (CalL.cons (k_law_some H) (by decide) (CalL.cons (k_law_roll H) (by decide) CalL.nil)) den_law_start
theorem k_law_octets (H : HeadK K h mg gl es fn cs) : CalK P w K mg base 1 "_law_octets" 2 f_law_octets := H.ok (k := 0) 4 rfl rfl fs_law_octets (fun _ _ F => FunD.bindsN F fun _ _ _ _ _ _ us hl => match us, hl with | [_, _], _ => rfl) rfl CalL.nil den_law_octets
theorem k_fresh_goods (H : HeadK K h mg gl es fn cs) : CalK P w K mg base 1 "fresh_goods" 1 f_fresh_goods := H.ok (k := 0) 5 rfl rfl fs_fresh_goods (fun _ _ F => FunD.bindsN F fun _ _ _ _ _ _ us hl => match us, hl with | [_], _ => rfl) rfl CalL.nil den_fresh_goods
theorem k_is_whole (H : HeadK K h mg gl es fn cs) : CalK P w K mg base 1 "is_whole" 3 f_is_whole := H.ok (k := 0) 6 rfl rfl fs_is_whole (fun _ _ F => FunD.bindsN F fun _ _ _ _ _ _ us hl => match us, hl with | [_, _, _], _ => rfl) rfl CalL.nil den_is_whole
theorem k_need_whole (H : HeadK K h mg gl es fn cs) : CalK P w K mg base 2 "need_whole" 3 f_need_whole := H.ok (k := 1) 7 rfl rfl fs_need_whole (fun _ _ F => FunD.bindsN F fun _ _ _ _ _ _ us hl => match us, hl with | [_, _, _], _ => rfl) rfl (CalL.cons (k_is_whole H) (by decide) CalL.nil) den_need_whole
theorem k_need_ring (H : HeadK K h mg gl es fn cs) : CalK P w K mg base 3 "need_ring" 1 f_need_ring := H.ok (k := 2) 8 rfl rfl fs_need_ring (fun _ _ F => FunD.bindsN F fun _ _ _ _ _ _ us hl => match us, hl with | [_], _ => rfl) rfl (CalL.cons (k_need_whole H) (by decide) CalL.nil) den_need_ring
theorem k_ring_gap (H : HeadK K h mg gl es fn cs) : CalK P w K mg base 4 "ring_gap" 2 f_ring_gap := H.ok (k := 3) 9 rfl rfl fs_ring_gap (fun _ _ F => FunD.bindsN F fun _ _ _ _ _ _ us hl => match us, hl with | [_, _], _ => rfl) rfl (CalL.cons (k_need_ring H) (by decide) CalL.nil) den_ring_gap
theorem k_room_of (H : HeadK K h mg gl es fn cs) : CalK P w K mg base 1 "room_of" 1 f_room_of := H.ok (k := 0) 10 rfl rfl fs_room_of (fun _ _ F => FunD.bindsN F fun _ _ _ _ _ _ us hl => match us, hl with | [_], _ => rfl) rfl CalL.nil den_room_of
theorem k_that_count (H : HeadK K h mg gl es fn cs) : CalK P w K mg base 5 "that_count" 3 f_that_count := H.ok (k := 4) 11 rfl rfl fs_that_count (fun _ _ F => FunD.bindsN F fun _ _ _ _ _ _ us hl => match us, hl with | [_, _, _], _ => rfl) rfl (CalL.cons (k_ring_gap H) (by decide) (CalL.cons (k_room_of H) (by decide) CalL.nil)) den_that_count
theorem k_place_of_first (H : HeadK K h mg gl es fn cs) : CalK P w K mg base 5 "place_of_first" 1 f_place_of_first := H.ok (k := 4) 12 rfl rfl fs_place_of_first (fun _ _ F => FunD.bindsN F fun _ _ _ _ _ _ us hl => match us, hl with | [_], _ => rfl) rfl (CalL.cons (k_ring_gap H) (by decide) CalL.nil) den_place_of_first
theorem k_ring_plus (H : HeadK K h mg gl es fn cs) : CalK P w K mg base 4 "ring_plus" 2 f_ring_plus := H.ok (k := 3) 13 rfl rfl fs_ring_plus (fun _ _ F => FunD.bindsN F fun _ _ _ _ _ _ us hl => match us, hl with | [_, _], _ => rfl) rfl (CalL.cons (k_need_ring H) (by decide) (CalL.cons (k_need_whole H) (by decide) CalL.nil)) den_ring_plus
theorem k_in_order (H : HeadK K h mg gl es fn cs) : CalK P w K mg base 5 "in_order" 2 f_in_order := H.ok (k := 4) 14 rfl rfl fs_in_order (fun _ _ F => FunD.bindsN F fun _ _ _ _ _ _ us hl => match us, hl with | [_, _], _ => rfl) rfl (CalL.cons (k_ring_plus H) (by decide) CalL.nil) den_in_order
theorem k_with_pieces (H : HeadK K h mg gl es fn cs) : CalK P w K mg base 6 "with_pieces" 1 f_with_pieces := H.ok (k := 5) 15 rfl rfl fs_with_pieces (fun _ _ F => FunD.bindsN F fun _ _ _ _ _ _ us hl => match us, hl with | [_], _ => rfl) rfl (CalL.cons (k_place_of_first H) (by decide) (CalL.cons (k_in_order H) (by decide) (CalL.cons (k_that_count H) (by decide) CalL.nil))) den_with_pieces
theorem k_goods_behind (H : HeadK K h mg gl es fn cs) : CalK P w K mg base 7 "goods_behind" 4 f_goods_behind := H.ok (k := 6) 16 rfl rfl fs_goods_behind (fun _ _ F => FunD.bindsN F fun _ _ _ _ _ _ us hl => match us, hl with | [_, _, _, _], _ => rfl) rfl (CalL.cons (k_that_count H) (by decide) (CalL.cons (k_ring_gap H) (by decide) (CalL.cons (k_with_pieces H) (by decide) (CalL.cons (k_in_order H) (by decide) (CalL.cons (k_ring_plus H) (by decide) CalL.nil))))) den_goods_behind
theorem k_law_number (H : HeadK K h mg gl es fn cs) : CalK P w K mg base 1 "_law_number" 2 f_law_number := H.ok (k := 0) 17 rfl rfl fs_law_number (fun _ _ F => FunD.bindsN F fun _ _ _ _ _ _ us hl => match us, hl with | [_, _], _ => rfl) rfl CalL.nil den_law_number
theorem k_law_backwards (H : HeadK K h mg gl es fn cs) : CalK P w K mg base 8 "_law_backwards" 2 f_law_backwards := H.ok (k := 7) 18 rfl rfl fs_law_backwards (fun _ _ F => FunD.bindsN F fun _ _ _ _ _ _ us hl => match us, hl with | [_, _], _ => rfl) rfl (CalL.cons (k_goods_behind H) (by decide) (CalL.cons (k_fresh_goods H) (by decide) (CalL.cons (k_law_number H) (by decide) CalL.nil))) den_law_backwards
theorem k_taken_from (H : HeadK K h mg gl es fn cs) : CalK P w K mg base 1 "taken_from" 2 f_taken_from := H.ok (k := 0) 19 rfl rfl fs_taken_from (fun _ _ F => FunD.bindsN F fun _ _ _ _ _ _ us hl => match us, hl with | [_, _], _ => rfl) rfl CalL.nil den_taken_from
theorem k_law_written_right (H : HeadK K h mg gl es fn cs) : CalK P w K mg base 8 "_law_written_right" 0 f_law_written_right := H.ok (k := 7) 20 rfl rfl fs_law_written_right (fun _ _ F => FunD.bindsN F fun _ _ _ _ _ _ us hl => match us, hl with | [], _ => rfl) rfl (CalL.cons (k_law_octets H) (by decide) (CalL.cons (k_goods_behind H) (by decide) (CalL.cons (k_taken_from H) (by decide) (CalL.cons (k_fresh_goods H) (by decide) (CalL.cons (k_law_number H) (by decide) CalL.nil))))) den_law_written_right
theorem k_is_at_end (H : HeadK K h mg gl es fn cs) : CalK P w K mg base 1 "is_at_end" 1 f_is_at_end := H.ok (k := 0) 21 rfl rfl fs_is_at_end (fun _ _ F => FunD.bindsN F fun _ _ _ _ _ _ us hl => match us, hl with | [_], _ => rfl) rfl CalL.nil den_is_at_end
theorem k_law (H : HeadK K h mg gl es fn cs) {a : Addr} (hx : mg ("law" : Str) = some (.ref a)) : ∃ fd, FnP K "law" s_law a fd ∧ ∀ base : Heap, K.In base → base.Ns mainGlobals mg → FnG P w K mg base (L2.CX P w) 9 a fd ["script"] (spM K mg 1 f_law) := H.law (k := 8) hx 22 rfl rfl fs_law (fun _ _ F => FunD.bindsN F fun _ _ _ _ _ _ us hl => match us, hl with | [_], _ => rfl) rfl (fun _ _ _ => (CalL.cons (k_law_cup H) (by decide) (CalL.cons (k_law_start H) (by decide) (CalL.cons (k_law_some H) (by decide) (CalL.cons (k_law_octets H) (by decide) (CalL.cons (k_fresh_goods H) (by decide) (CalL.cons (k_law_roll H) (by decide) (CalL.cons (k_goods_behind H) (by decide) (CalL.cons (k_law_backwards H) (by decide) (CalL.cons (k_law_written_right H) (by decide) (CalL.cons (k_law_number H) (by decide) (CalL.cons (k_taken_from H) (by decide) (CalL.cons (k_is_at_end H) (by decide) CalL.nil))))))))))))) den_law
end
def loose : List Str := [("LanternError" : Str), ("InvalidNumber" : Str), ("is_whole" : Str), ("need_whole" : Str), ("ROUND" : Str), ("HALF" : Str), ("need_ring" : Str), ("ring_plus" : Str), ("ring_gap" : Str), ("MOST" : Str), ("PIECES" : Str), ("fresh_goods" : Str), ("room_of" : Str), ("that_count" : Str), ("in_order" : Str), ("place_of_first" : Str), ("with_pieces" : Str), ("goods_behind" : Str), ("taken_from" : Str), ("is_at_end" : Str), ("_law_cup" : Str), ("_law_roll" : Str), ("_law_some" : Str), ("_law_number" : Str), ("_law_octets" : Str), ("_law_start" : Str), ("_law_backwards" : Str), ("_law_written_right" : Str)]
abbrev R : PySem.W.OpenRow := PySem.W.OpenLaw.row PySem.Challenge.rw_lanternserver_k37_whole_rows_in_any_orde
theorem run (w : World) : HandSHeadRun.RunEq R (PySem.W.view R.prog [33]) (hookN gl es fn cs) (obN gl es fn cs) 20000 loose w := by
  intro os
  kernel_rfl
theorem whole_ok {v lo hi : Int} {s : Store} (h : lo ≤ v ∧ v ≤ hi) : f_is_whole [.int v, .int lo, .int hi] s = .ok (.bl true) s := by
  obtain ⟨h1, h2⟩ := h
  simp -implicitDefEqProofs only [f_is_whole, sh_is_whole, S_is_whole_1, h1, h2, eC_s, eUn_s, kUn_s, eOp_s, kOp_s, kOp2_s, ofO_s, eAnd_s, kAnd_s, eOr_s, kOr_s, eNot_s, kNot_s, eIf_s, kIf_s, kIf_i, eChain_s, kCh_s, kCh2_s, kCh3_s, evL_0, evL_s, kL_s, kL2_s, eTup_s, eLst_s, eLstR_s, kTup_s, kLst_s, kLstR_s, eCall_s, kCall_s, eFn_s, kFn_s, evO_0, evO_s, kO_s, eSlice_s, kSl_s, kSl2_s, kSl3_s, iSeq_s, kSeq_t, kSeq_l, iRange1_s, kRa_s, iRange2_s, kRb_s, kRb2_s, eComp_s, kCm_s, kCm2_s, eCompR_s, kCmR_s, kCmR2_s, compL_0, compL_s, kCo_s, kCo2_s, kCo3_s, tests_0, tests_s, kTe_s, gT_s, gTs_0, gTs_s, kG_s, gSub_s, kSub_s, kSub2_s, kSub3_s, sNop_s, sSeq_s, sRet_s, kRet_s, kRet_x, sRetN_s, sExpr_s, kEx_s, kEx_x, sAsg_s, kAs_s, kAs_x, kAs2_s, kAs2_x, sIf_s, kSIf_s, kSIf_i, kSIf_x, sFor_s, kFor_s, fnM_s, aft_r, aft_n, aft_x, turn_n, andThen_nx, andThen_rt, andThen_exc, andThen_bk, andThen_ct, add_i, sub_i, mul_i, div_i, mod_i, pow_i, neg_i, lt_i, le_i, gt_i, ge_i, eq_i, ne_i, eq_s, ne_s, isi_ii, isi_bi, isi_ti, isi_tt, isi_it, isi_bt, abs_i, min_i, max_i, int_i, len_t, len_l, list_l, list_t, list_s, tup_l, tup_t, addL, addT, cup_a, cup_b, eRev_s, kRv_s, kRv2_s, kRv2_l, kAg_s, kAg2_s, kPick_s, addI_i, iRange3_s, kRc_s, kRc2_s, iEnum_s, kEnum_t, kEnum_l, ite_i, ite_b, ite_o, isi_bb, isi_ss, kOr_n, maxL_1, maxL_2, maxL_3, minL_2, isN_i, isN_n, isN_t, isnN_i, isnN_n, isnN_t, v0, v1, v2, v3, v4, v5, v6, v7, v8, v9, v10, v11, v12, v13, v14, v15, v16, v17, v18, v19, v20, v21, v22, v23, v24, g0, g1, g2, g3, g4, g5, g6, g7, g8, g9, g10, g11, g12, g13, g14, g15, g16, g17, g18, g19, g20, g21, g22, g23, g24, w0, w1, w2, w3, w4, w5, w6, w7, w8, w9, w10, w11, w12, w13, w14, w15, w16, w17, w18, w19, w20, w21, w22, w23, w24, u0, u1, u2, u3, u4, u5, u6, u7, u8, u9, u10, u11, u12, u13, u14, u15, u16, u17, u18, u19, u20, u21, u22, u23, u24, List.length_cons, List.length_nil, Nat.zero_add, Nat.reduceAdd, Nat.reduceLeDiff, Nat.reduceLT, ↓reduceIte, decide_eq_true_eq, Int.reduceLT, Int.reduceLE, Int.reduceAdd, Int.reduceSub, Int.reduceMul, Int.reduceNeg, Int.reducePow, Int.reduceToNat, Int.reduceMod, Int.reduceDiv, Int.reduceEq, sz, big, lim, and_self, and_true, true_and, or_true, true_or, or_self, Bool.not_true, Bool.not_false, Bool.not_eq_true, Bool.not_eq_true', decide_true, decide_false, Bool.false_eq_true, List.map_cons, List.map_nil, rn0, rn1, rn2, rn3, rn4, rn5, rn6, rn7, rn8, rn9, rn10, rn11, rn12, rn13, rn14, rn15, rn16, rn17, rn18, rn19, rn20, rn21, rn22, rn23, rn24, rn25, rn26, rn27, rn28, rn29, Nat.sub_self, Nat.reduceSub, List.append_nil, List.cons_append, List.nil_append, reduceCtorEq, decide_not, wipeE, rng, ne_eq, not_true_eq_false, not_false_eq_true]
theorem need_ok {v lo hi : Int} {s : Store} (h : lo ≤ v ∧ v ≤ hi) : f_need_whole [.int v, .int lo, .int hi] s = .ok .non s := by
  simp -implicitDefEqProofs only [f_need_whole, sh_need_whole, S_need_whole_2, B_need_whole_1, S_need_whole_1, whole_ok h, eC_s, eUn_s, kUn_s, eOp_s, kOp_s, kOp2_s, ofO_s, eAnd_s, kAnd_s, eOr_s, kOr_s, eNot_s, kNot_s, eIf_s, kIf_s, kIf_i, eChain_s, kCh_s, kCh2_s, kCh3_s, evL_0, evL_s, kL_s, kL2_s, eTup_s, eLst_s, eLstR_s, kTup_s, kLst_s, kLstR_s, eCall_s, kCall_s, eFn_s, kFn_s, evO_0, evO_s, kO_s, eSlice_s, kSl_s, kSl2_s, kSl3_s, iSeq_s, kSeq_t, kSeq_l, iRange1_s, kRa_s, iRange2_s, kRb_s, kRb2_s, eComp_s, kCm_s, kCm2_s, eCompR_s, kCmR_s, kCmR2_s, compL_0, compL_s, kCo_s, kCo2_s, kCo3_s, tests_0, tests_s, kTe_s, gT_s, gTs_0, gTs_s, kG_s, gSub_s, kSub_s, kSub2_s, kSub3_s, sNop_s, sSeq_s, sRet_s, kRet_s, kRet_x, sRetN_s, sExpr_s, kEx_s, kEx_x, sAsg_s, kAs_s, kAs_x, kAs2_s, kAs2_x, sIf_s, kSIf_s, kSIf_i, kSIf_x, sFor_s, kFor_s, fnM_s, aft_r, aft_n, aft_x, turn_n, andThen_nx, andThen_rt, andThen_exc, andThen_bk, andThen_ct, add_i, sub_i, mul_i, div_i, mod_i, pow_i, neg_i, lt_i, le_i, gt_i, ge_i, eq_i, ne_i, eq_s, ne_s, isi_ii, isi_bi, isi_ti, isi_tt, isi_it, isi_bt, abs_i, min_i, max_i, int_i, len_t, len_l, list_l, list_t, list_s, tup_l, tup_t, addL, addT, cup_a, cup_b, eRev_s, kRv_s, kRv2_s, kRv2_l, kAg_s, kAg2_s, kPick_s, addI_i, iRange3_s, kRc_s, kRc2_s, iEnum_s, kEnum_t, kEnum_l, ite_i, ite_b, ite_o, isi_bb, isi_ss, kOr_n, maxL_1, maxL_2, maxL_3, minL_2, isN_i, isN_n, isN_t, isnN_i, isnN_n, isnN_t, v0, v1, v2, v3, v4, v5, v6, v7, v8, v9, v10, v11, v12, v13, v14, v15, v16, v17, v18, v19, v20, v21, v22, v23, v24, g0, g1, g2, g3, g4, g5, g6, g7, g8, g9, g10, g11, g12, g13, g14, g15, g16, g17, g18, g19, g20, g21, g22, g23, g24, w0, w1, w2, w3, w4, w5, w6, w7, w8, w9, w10, w11, w12, w13, w14, w15, w16, w17, w18, w19, w20, w21, w22, w23, w24, u0, u1, u2, u3, u4, u5, u6, u7, u8, u9, u10, u11, u12, u13, u14, u15, u16, u17, u18, u19, u20, u21, u22, u23, u24, List.length_cons, List.length_nil, Nat.zero_add, Nat.reduceAdd, Nat.reduceLeDiff, Nat.reduceLT, ↓reduceIte, decide_eq_true_eq, Int.reduceLT, Int.reduceLE, Int.reduceAdd, Int.reduceSub, Int.reduceMul, Int.reduceNeg, Int.reducePow, Int.reduceToNat, Int.reduceMod, Int.reduceDiv, Int.reduceEq, sz, big, lim, and_self, and_true, true_and, or_true, true_or, or_self, Bool.not_true, Bool.not_false, Bool.not_eq_true, Bool.not_eq_true', decide_true, decide_false, Bool.false_eq_true, List.map_cons, List.map_nil, rn0, rn1, rn2, rn3, rn4, rn5, rn6, rn7, rn8, rn9, rn10, rn11, rn12, rn13, rn14, rn15, rn16, rn17, rn18, rn19, rn20, rn21, rn22, rn23, rn24, rn25, rn26, rn27, rn28, rn29, Nat.sub_self, Nat.reduceSub, List.append_nil, List.cons_append, List.nil_append, reduceCtorEq, decide_not, wipeE, rng, ne_eq, not_true_eq_false, not_false_eq_true]
theorem roll_R : Rolls f_law_roll := by
  intro c m h0 h1
  obtain ⟨a, b, ha, hb, hb2⟩ := c
  by_cases h : 0 < a
  · refine ⟨a % m, ⟨a / m, b, Int.ediv_nonneg ha (by omega), hb, hb2⟩, Int.emod_nonneg _ (by omega), Int.emod_lt_of_pos _ h0, ?_⟩
    simp -implicitDefEqProofs only [f_law_roll, sh_law_roll, S_law_roll_2, S_law_roll_3, S_law_roll_4, B_law_roll_1, S_law_roll_1, S_law_roll_5, S_law_roll_6, S_law_roll_7, cupS, cup_item, cup_set, cup_item1, cup_set1, div_i ⟨h0, h1⟩, mod_i h0, h, eC_s, eUn_s, kUn_s, eOp_s, kOp_s, kOp2_s, ofO_s, eAnd_s, kAnd_s, eOr_s, kOr_s, eNot_s, kNot_s, eIf_s, kIf_s, kIf_i, eChain_s, kCh_s, kCh2_s, kCh3_s, evL_0, evL_s, kL_s, kL2_s, eTup_s, eLst_s, eLstR_s, kTup_s, kLst_s, kLstR_s, eCall_s, kCall_s, eFn_s, kFn_s, evO_0, evO_s, kO_s, eSlice_s, kSl_s, kSl2_s, kSl3_s, iSeq_s, kSeq_t, kSeq_l, iRange1_s, kRa_s, iRange2_s, kRb_s, kRb2_s, eComp_s, kCm_s, kCm2_s, eCompR_s, kCmR_s, kCmR2_s, compL_0, compL_s, kCo_s, kCo2_s, kCo3_s, tests_0, tests_s, kTe_s, gT_s, gTs_0, gTs_s, kG_s, gSub_s, kSub_s, kSub2_s, kSub3_s, sNop_s, sSeq_s, sRet_s, kRet_s, kRet_x, sRetN_s, sExpr_s, kEx_s, kEx_x, sAsg_s, kAs_s, kAs_x, kAs2_s, kAs2_x, sIf_s, kSIf_s, kSIf_i, kSIf_x, sFor_s, kFor_s, fnM_s, aft_r, aft_n, aft_x, turn_n, andThen_nx, andThen_rt, andThen_exc, andThen_bk, andThen_ct, add_i, sub_i, mul_i, div_i, mod_i, pow_i, neg_i, lt_i, le_i, gt_i, ge_i, eq_i, ne_i, eq_s, ne_s, isi_ii, isi_bi, isi_ti, isi_tt, isi_it, isi_bt, abs_i, min_i, max_i, int_i, len_t, len_l, list_l, list_t, list_s, tup_l, tup_t, addL, addT, cup_a, cup_b, eRev_s, kRv_s, kRv2_s, kRv2_l, kAg_s, kAg2_s, kPick_s, addI_i, iRange3_s, kRc_s, kRc2_s, iEnum_s, kEnum_t, kEnum_l, ite_i, ite_b, ite_o, isi_bb, isi_ss, kOr_n, maxL_1, maxL_2, maxL_3, minL_2, isN_i, isN_n, isN_t, isnN_i, isnN_n, isnN_t, v0, v1, v2, v3, v4, v5, v6, v7, v8, v9, v10, v11, v12, v13, v14, v15, v16, v17, v18, v19, v20, v21, v22, v23, v24, g0, g1, g2, g3, g4, g5, g6, g7, g8, g9, g10, g11, g12, g13, g14, g15, g16, g17, g18, g19, g20, g21, g22, g23, g24, w0, w1, w2, w3, w4, w5, w6, w7, w8, w9, w10, w11, w12, w13, w14, w15, w16, w17, w18, w19, w20, w21, w22, w23, w24, u0, u1, u2, u3, u4, u5, u6, u7, u8, u9, u10, u11, u12, u13, u14, u15, u16, u17, u18, u19, u20, u21, u22, u23, u24, List.length_cons, List.length_nil, Nat.zero_add, Nat.reduceAdd, Nat.reduceLeDiff, Nat.reduceLT, ↓reduceIte, decide_eq_true_eq, Int.reduceLT, Int.reduceLE, Int.reduceAdd, Int.reduceSub, Int.reduceMul, Int.reduceNeg, Int.reducePow, Int.reduceToNat, Int.reduceMod, Int.reduceDiv, Int.reduceEq, sz, big, lim, and_self, and_true, true_and, or_true, true_or, or_self, Bool.not_true, Bool.not_false, Bool.not_eq_true, Bool.not_eq_true', decide_true, decide_false, Bool.false_eq_true, List.map_cons, List.map_nil, rn0, rn1, rn2, rn3, rn4, rn5, rn6, rn7, rn8, rn9, rn10, rn11, rn12, rn13, rn14, rn15, rn16, rn17, rn18, rn19, rn20, rn21, rn22, rn23, rn24, rn25, rn26, rn27, rn28, rn29, Nat.sub_self, Nat.reduceSub, List.append_nil, List.cons_append, List.nil_append, reduceCtorEq, decide_not, wipeE, rng, ne_eq, not_true_eq_false, not_false_eq_true]
  · have hb3 : b < 18446744073709551616 := by omega
    have hb4 : -18446744073709551616 < b := by omega
    have q1 : -18446744073709551616 < (b * 31147 + 8087) % 2147483309 := by omega
    have q2 : (b * 31147 + 8087) % 2147483309 < 18446744073709551616 := by omega
    refine ⟨((b * 31147 + 8087) % 2147483309 * ((b * 31147 + 8087) % 2147483309 + 271)) % 2147483587 / 863 % m, ⟨a, (b * 31147 + 8087) % 2147483309, ha, by omega, by omega⟩, Int.emod_nonneg _ (by omega), Int.emod_lt_of_pos _ h0, ?_⟩
    simp -implicitDefEqProofs only [f_law_roll, sh_law_roll, S_law_roll_2, S_law_roll_3, S_law_roll_4, B_law_roll_1, S_law_roll_1, S_law_roll_5, S_law_roll_6, S_law_roll_7, cupS, cup_item, cup_set, cup_item1, cup_set1, mod_i h0, h, hb3, hb4, q1, q2, eC_s, eUn_s, kUn_s, eOp_s, kOp_s, kOp2_s, ofO_s, eAnd_s, kAnd_s, eOr_s, kOr_s, eNot_s, kNot_s, eIf_s, kIf_s, kIf_i, eChain_s, kCh_s, kCh2_s, kCh3_s, evL_0, evL_s, kL_s, kL2_s, eTup_s, eLst_s, eLstR_s, kTup_s, kLst_s, kLstR_s, eCall_s, kCall_s, eFn_s, kFn_s, evO_0, evO_s, kO_s, eSlice_s, kSl_s, kSl2_s, kSl3_s, iSeq_s, kSeq_t, kSeq_l, iRange1_s, kRa_s, iRange2_s, kRb_s, kRb2_s, eComp_s, kCm_s, kCm2_s, eCompR_s, kCmR_s, kCmR2_s, compL_0, compL_s, kCo_s, kCo2_s, kCo3_s, tests_0, tests_s, kTe_s, gT_s, gTs_0, gTs_s, kG_s, gSub_s, kSub_s, kSub2_s, kSub3_s, sNop_s, sSeq_s, sRet_s, kRet_s, kRet_x, sRetN_s, sExpr_s, kEx_s, kEx_x, sAsg_s, kAs_s, kAs_x, kAs2_s, kAs2_x, sIf_s, kSIf_s, kSIf_i, kSIf_x, sFor_s, kFor_s, fnM_s, aft_r, aft_n, aft_x, turn_n, andThen_nx, andThen_rt, andThen_exc, andThen_bk, andThen_ct, add_i, sub_i, mul_i, div_i, mod_i, pow_i, neg_i, lt_i, le_i, gt_i, ge_i, eq_i, ne_i, eq_s, ne_s, isi_ii, isi_bi, isi_ti, isi_tt, isi_it, isi_bt, abs_i, min_i, max_i, int_i, len_t, len_l, list_l, list_t, list_s, tup_l, tup_t, addL, addT, cup_a, cup_b, eRev_s, kRv_s, kRv2_s, kRv2_l, kAg_s, kAg2_s, kPick_s, addI_i, iRange3_s, kRc_s, kRc2_s, iEnum_s, kEnum_t, kEnum_l, ite_i, ite_b, ite_o, isi_bb, isi_ss, kOr_n, maxL_1, maxL_2, maxL_3, minL_2, isN_i, isN_n, isN_t, isnN_i, isnN_n, isnN_t, v0, v1, v2, v3, v4, v5, v6, v7, v8, v9, v10, v11, v12, v13, v14, v15, v16, v17, v18, v19, v20, v21, v22, v23, v24, g0, g1, g2, g3, g4, g5, g6, g7, g8, g9, g10, g11, g12, g13, g14, g15, g16, g17, g18, g19, g20, g21, g22, g23, g24, w0, w1, w2, w3, w4, w5, w6, w7, w8, w9, w10, w11, w12, w13, w14, w15, w16, w17, w18, w19, w20, w21, w22, w23, w24, u0, u1, u2, u3, u4, u5, u6, u7, u8, u9, u10, u11, u12, u13, u14, u15, u16, u17, u18, u19, u20, u21, u22, u23, u24, List.length_cons, List.length_nil, Nat.zero_add, Nat.reduceAdd, Nat.reduceLeDiff, Nat.reduceLT, ↓reduceIte, decide_eq_true_eq, Int.reduceLT, Int.reduceLE, Int.reduceAdd, Int.reduceSub, Int.reduceMul, Int.reduceNeg, Int.reducePow, Int.reduceToNat, Int.reduceMod, Int.reduceDiv, Int.reduceEq, sz, big, lim, and_self, and_true, true_and, or_true, true_or, or_self, Bool.not_true, Bool.not_false, Bool.not_eq_true, Bool.not_eq_true', decide_true, decide_false, Bool.false_eq_true, List.map_cons, List.map_nil, rn0, rn1, rn2, rn3, rn4, rn5, rn6, rn7, rn8, rn9, rn10, rn11, rn12, rn13, rn14, rn15, rn16, rn17, rn18, rn19, rn20, rn21, rn22, rn23, rn24, rn25, rn26, rn27, rn28, rn29, Nat.sub_self, Nat.reduceSub, List.append_nil, List.cons_append, List.nil_append, reduceCtorEq, decide_not, wipeE, rng, ne_eq, not_true_eq_false, not_false_eq_true]
theorem some_P : Picks f_law_roll f_law_some := by
  intro c ds h0 h1
  have h2 : (0 : Int) < ds.length := by omega
  have h3 : (ds.length : Int) < big * big := by unfold big; omega
  have e := roll_eq roll_R (c := c) h2 h3
  have a := roll_lo roll_R (c := c) h2 h3
  have b := roll_hi roll_R (c := c) h2 h3
  have hl : (rollV f_law_roll c ds.length).toNat < ds.length := by omega
  have hi : atI ds (rollV f_law_roll c ds.length) = some (ds.getD (rollV f_law_roll c ds.length).toNat .non) := by
    unfold atI ixN
    rw [if_pos a, if_pos b, List.getD_eq_getElem?_getD]
    show ds[(rollV f_law_roll c ds.length).toNat]? = _
    rw [List.getElem?_eq_getElem hl]
    rfl
  simp -implicitDefEqProofs only [f_law_some, sh_law_some, S_law_some_1, e, item_l, hi, eC_s, eUn_s, kUn_s, eOp_s, kOp_s, kOp2_s, ofO_s, eAnd_s, kAnd_s, eOr_s, kOr_s, eNot_s, kNot_s, eIf_s, kIf_s, kIf_i, eChain_s, kCh_s, kCh2_s, kCh3_s, evL_0, evL_s, kL_s, kL2_s, eTup_s, eLst_s, eLstR_s, kTup_s, kLst_s, kLstR_s, eCall_s, kCall_s, eFn_s, kFn_s, evO_0, evO_s, kO_s, eSlice_s, kSl_s, kSl2_s, kSl3_s, iSeq_s, kSeq_t, kSeq_l, iRange1_s, kRa_s, iRange2_s, kRb_s, kRb2_s, eComp_s, kCm_s, kCm2_s, eCompR_s, kCmR_s, kCmR2_s, compL_0, compL_s, kCo_s, kCo2_s, kCo3_s, tests_0, tests_s, kTe_s, gT_s, gTs_0, gTs_s, kG_s, gSub_s, kSub_s, kSub2_s, kSub3_s, sNop_s, sSeq_s, sRet_s, kRet_s, kRet_x, sRetN_s, sExpr_s, kEx_s, kEx_x, sAsg_s, kAs_s, kAs_x, kAs2_s, kAs2_x, sIf_s, kSIf_s, kSIf_i, kSIf_x, sFor_s, kFor_s, fnM_s, aft_r, aft_n, aft_x, turn_n, andThen_nx, andThen_rt, andThen_exc, andThen_bk, andThen_ct, add_i, sub_i, mul_i, div_i, mod_i, pow_i, neg_i, lt_i, le_i, gt_i, ge_i, eq_i, ne_i, eq_s, ne_s, isi_ii, isi_bi, isi_ti, isi_tt, isi_it, isi_bt, abs_i, min_i, max_i, int_i, len_t, len_l, list_l, list_t, list_s, tup_l, tup_t, addL, addT, cup_a, cup_b, eRev_s, kRv_s, kRv2_s, kRv2_l, kAg_s, kAg2_s, kPick_s, addI_i, iRange3_s, kRc_s, kRc2_s, iEnum_s, kEnum_t, kEnum_l, ite_i, ite_b, ite_o, isi_bb, isi_ss, kOr_n, maxL_1, maxL_2, maxL_3, minL_2, isN_i, isN_n, isN_t, isnN_i, isnN_n, isnN_t, v0, v1, v2, v3, v4, v5, v6, v7, v8, v9, v10, v11, v12, v13, v14, v15, v16, v17, v18, v19, v20, v21, v22, v23, v24, g0, g1, g2, g3, g4, g5, g6, g7, g8, g9, g10, g11, g12, g13, g14, g15, g16, g17, g18, g19, g20, g21, g22, g23, g24, w0, w1, w2, w3, w4, w5, w6, w7, w8, w9, w10, w11, w12, w13, w14, w15, w16, w17, w18, w19, w20, w21, w22, w23, w24, u0, u1, u2, u3, u4, u5, u6, u7, u8, u9, u10, u11, u12, u13, u14, u15, u16, u17, u18, u19, u20, u21, u22, u23, u24, List.length_cons, List.length_nil, Nat.zero_add, Nat.reduceAdd, Nat.reduceLeDiff, Nat.reduceLT, ↓reduceIte, decide_eq_true_eq, Int.reduceLT, Int.reduceLE, Int.reduceAdd, Int.reduceSub, Int.reduceMul, Int.reduceNeg, Int.reducePow, Int.reduceToNat, Int.reduceMod, Int.reduceDiv, Int.reduceEq, sz, big, lim, and_self, and_true, true_and, or_true, true_or, or_self, Bool.not_true, Bool.not_false, Bool.not_eq_true, Bool.not_eq_true', decide_true, decide_false, Bool.false_eq_true, List.map_cons, List.map_nil, rn0, rn1, rn2, rn3, rn4, rn5, rn6, rn7, rn8, rn9, rn10, rn11, rn12, rn13, rn14, rn15, rn16, rn17, rn18, rn19, rn20, rn21, rn22, rn23, rn24, rn25, rn26, rn27, rn28, rn29, Nat.sub_self, Nat.reduceSub, List.append_nil, List.cons_append, List.nil_append, reduceCtorEq, decide_not, wipeE, rng, ne_eq, not_true_eq_false, not_false_eq_true]
theorem cup_ok {ns : List Int} (hl : ns.length ≤ 63) : ∃ c : Cup, f_law_cup [.scr (ns.map .int)] [] = .ok (.ref 0) (cupS c) := by
  have hh : ∃ n : Int, atI ((ns.map D.int) ++ [.int 0]) 0 = some (.int n) := by
    cases ns with
    | nil => exact ⟨0, rfl⟩
    | cons n r => exact ⟨n, by unfold atI ixN; rw [if_pos (by decide), if_pos (by simp; omega)]; rfl⟩
  obtain ⟨n, hn⟩ := hh
  have hl2 : (ns.map D.int).length + 1 ≤ 16000000 := by rw [List.length_map]; omega
  have hx : ∃ x : Int, 0 ≤ x ∧ (if n < 0 then -n else n) = x := by split <;> exact ⟨_, by omega, rfl⟩
  obtain ⟨x, hx0, hx⟩ := hx
  by_cases h : 1000000000000000000 ≤ x
  · refine ⟨⟨x / 61, (x * 331 + 3307) % 2077503019 + 223, by omega, by omega, by omega⟩, ?_⟩
    simp -implicitDefEqProofs only [f_law_cup, sh_law_cup, S_law_cup_1, S_law_cup_2, cupS, item_l, hn, hl2, hx, h, eC_s, eUn_s, kUn_s, eOp_s, kOp_s, kOp2_s, ofO_s, eAnd_s, kAnd_s, eOr_s, kOr_s, eNot_s, kNot_s, eIf_s, kIf_s, kIf_i, eChain_s, kCh_s, kCh2_s, kCh3_s, evL_0, evL_s, kL_s, kL2_s, eTup_s, eLst_s, eLstR_s, kTup_s, kLst_s, kLstR_s, eCall_s, kCall_s, eFn_s, kFn_s, evO_0, evO_s, kO_s, eSlice_s, kSl_s, kSl2_s, kSl3_s, iSeq_s, kSeq_t, kSeq_l, iRange1_s, kRa_s, iRange2_s, kRb_s, kRb2_s, eComp_s, kCm_s, kCm2_s, eCompR_s, kCmR_s, kCmR2_s, compL_0, compL_s, kCo_s, kCo2_s, kCo3_s, tests_0, tests_s, kTe_s, gT_s, gTs_0, gTs_s, kG_s, gSub_s, kSub_s, kSub2_s, kSub3_s, sNop_s, sSeq_s, sRet_s, kRet_s, kRet_x, sRetN_s, sExpr_s, kEx_s, kEx_x, sAsg_s, kAs_s, kAs_x, kAs2_s, kAs2_x, sIf_s, kSIf_s, kSIf_i, kSIf_x, sFor_s, kFor_s, fnM_s, aft_r, aft_n, aft_x, turn_n, andThen_nx, andThen_rt, andThen_exc, andThen_bk, andThen_ct, add_i, sub_i, mul_i, div_i, mod_i, pow_i, neg_i, lt_i, le_i, gt_i, ge_i, eq_i, ne_i, eq_s, ne_s, isi_ii, isi_bi, isi_ti, isi_tt, isi_it, isi_bt, abs_i, min_i, max_i, int_i, len_t, len_l, list_l, list_t, list_s, tup_l, tup_t, addL, addT, cup_a, cup_b, eRev_s, kRv_s, kRv2_s, kRv2_l, kAg_s, kAg2_s, kPick_s, addI_i, iRange3_s, kRc_s, kRc2_s, iEnum_s, kEnum_t, kEnum_l, ite_i, ite_b, ite_o, isi_bb, isi_ss, kOr_n, maxL_1, maxL_2, maxL_3, minL_2, isN_i, isN_n, isN_t, isnN_i, isnN_n, isnN_t, v0, v1, v2, v3, v4, v5, v6, v7, v8, v9, v10, v11, v12, v13, v14, v15, v16, v17, v18, v19, v20, v21, v22, v23, v24, g0, g1, g2, g3, g4, g5, g6, g7, g8, g9, g10, g11, g12, g13, g14, g15, g16, g17, g18, g19, g20, g21, g22, g23, g24, w0, w1, w2, w3, w4, w5, w6, w7, w8, w9, w10, w11, w12, w13, w14, w15, w16, w17, w18, w19, w20, w21, w22, w23, w24, u0, u1, u2, u3, u4, u5, u6, u7, u8, u9, u10, u11, u12, u13, u14, u15, u16, u17, u18, u19, u20, u21, u22, u23, u24, List.length_cons, List.length_nil, Nat.zero_add, Nat.reduceAdd, Nat.reduceLeDiff, Nat.reduceLT, ↓reduceIte, decide_eq_true_eq, Int.reduceLT, Int.reduceLE, Int.reduceAdd, Int.reduceSub, Int.reduceMul, Int.reduceNeg, Int.reducePow, Int.reduceToNat, Int.reduceMod, Int.reduceDiv, Int.reduceEq, sz, big, lim, and_self, and_true, true_and, or_true, true_or, or_self, Bool.not_true, Bool.not_false, Bool.not_eq_true, Bool.not_eq_true', decide_true, decide_false, Bool.false_eq_true, List.map_cons, List.map_nil, rn0, rn1, rn2, rn3, rn4, rn5, rn6, rn7, rn8, rn9, rn10, rn11, rn12, rn13, rn14, rn15, rn16, rn17, rn18, rn19, rn20, rn21, rn22, rn23, rn24, rn25, rn26, rn27, rn28, rn29, Nat.sub_self, Nat.reduceSub, List.append_nil, List.cons_append, List.nil_append, reduceCtorEq, decide_not, wipeE, rng, ne_eq, not_true_eq_false, not_false_eq_true]
  · refine ⟨⟨0, (x * 331 + 3307) % 2077503019 + 223, by omega, by omega, by omega⟩, ?_⟩
    simp -implicitDefEqProofs only [f_law_cup, sh_law_cup, S_law_cup_1, S_law_cup_2, cupS, item_l, hn, hl2, hx, h, eC_s, eUn_s, kUn_s, eOp_s, kOp_s, kOp2_s, ofO_s, eAnd_s, kAnd_s, eOr_s, kOr_s, eNot_s, kNot_s, eIf_s, kIf_s, kIf_i, eChain_s, kCh_s, kCh2_s, kCh3_s, evL_0, evL_s, kL_s, kL2_s, eTup_s, eLst_s, eLstR_s, kTup_s, kLst_s, kLstR_s, eCall_s, kCall_s, eFn_s, kFn_s, evO_0, evO_s, kO_s, eSlice_s, kSl_s, kSl2_s, kSl3_s, iSeq_s, kSeq_t, kSeq_l, iRange1_s, kRa_s, iRange2_s, kRb_s, kRb2_s, eComp_s, kCm_s, kCm2_s, eCompR_s, kCmR_s, kCmR2_s, compL_0, compL_s, kCo_s, kCo2_s, kCo3_s, tests_0, tests_s, kTe_s, gT_s, gTs_0, gTs_s, kG_s, gSub_s, kSub_s, kSub2_s, kSub3_s, sNop_s, sSeq_s, sRet_s, kRet_s, kRet_x, sRetN_s, sExpr_s, kEx_s, kEx_x, sAsg_s, kAs_s, kAs_x, kAs2_s, kAs2_x, sIf_s, kSIf_s, kSIf_i, kSIf_x, sFor_s, kFor_s, fnM_s, aft_r, aft_n, aft_x, turn_n, andThen_nx, andThen_rt, andThen_exc, andThen_bk, andThen_ct, add_i, sub_i, mul_i, div_i, mod_i, pow_i, neg_i, lt_i, le_i, gt_i, ge_i, eq_i, ne_i, eq_s, ne_s, isi_ii, isi_bi, isi_ti, isi_tt, isi_it, isi_bt, abs_i, min_i, max_i, int_i, len_t, len_l, list_l, list_t, list_s, tup_l, tup_t, addL, addT, cup_a, cup_b, eRev_s, kRv_s, kRv2_s, kRv2_l, kAg_s, kAg2_s, kPick_s, addI_i, iRange3_s, kRc_s, kRc2_s, iEnum_s, kEnum_t, kEnum_l, ite_i, ite_b, ite_o, isi_bb, isi_ss, kOr_n, maxL_1, maxL_2, maxL_3, minL_2, isN_i, isN_n, isN_t, isnN_i, isnN_n, isnN_t, v0, v1, v2, v3, v4, v5, v6, v7, v8, v9, v10, v11, v12, v13, v14, v15, v16, v17, v18, v19, v20, v21, v22, v23, v24, g0, g1, g2, g3, g4, g5, g6, g7, g8, g9, g10, g11, g12, g13, g14, g15, g16, g17, g18, g19, g20, g21, g22, g23, g24, w0, w1, w2, w3, w4, w5, w6, w7, w8, w9, w10, w11, w12, w13, w14, w15, w16, w17, w18, w19, w20, w21, w22, w23, w24, u0, u1, u2, u3, u4, u5, u6, u7, u8, u9, u10, u11, u12, u13, u14, u15, u16, u17, u18, u19, u20, u21, u22, u23, u24, List.length_cons, List.length_nil, Nat.zero_add, Nat.reduceAdd, Nat.reduceLeDiff, Nat.reduceLT, ↓reduceIte, decide_eq_true_eq, Int.reduceLT, Int.reduceLE, Int.reduceAdd, Int.reduceSub, Int.reduceMul, Int.reduceNeg, Int.reducePow, Int.reduceToNat, Int.reduceMod, Int.reduceDiv, Int.reduceEq, sz, big, lim, and_self, and_true, true_and, or_true, true_or, or_self, Bool.not_true, Bool.not_false, Bool.not_eq_true, Bool.not_eq_true', decide_true, decide_false, Bool.false_eq_true, List.map_cons, List.map_nil, rn0, rn1, rn2, rn3, rn4, rn5, rn6, rn7, rn8, rn9, rn10, rn11, rn12, rn13, rn14, rn15, rn16, rn17, rn18, rn19, rn20, rn21, rn22, rn23, rn24, rn25, rn26, rn27, rn28, rn29, Nat.sub_self, Nat.reduceSub, List.append_nil, List.cons_append, List.nil_append, reduceCtorEq, decide_not, wipeE, rng, ne_eq, not_true_eq_false, not_false_eq_true]
theorem at_0 (x : D) (r : List D) : atI (x :: r) 0 = some x := by unfold atI ixN; rw [if_pos (by decide), if_pos (by simp only [List.length_cons]; omega)]; rfl
theorem start_ok {c : Cup} : ∃ (r : Int) (c' : Cup), (0 ≤ r ∧ r ≤ 4294967295) ∧ f_law_start [.ref 0] (cupS c) = .ok (.int r) (cupS c') := by
  have er_r := roll_eq roll_R (c := c) (m := 4294967296) (by decide) (by decide)
  have el_r := roll_lo roll_R (c := c) (m := 4294967296) (by decide) (by decide)
  have eh_r := roll_hi roll_R (c := c) (m := 4294967296) (by decide) (by decide)
  generalize rollV f_law_roll c 4294967296 = r at *
  generalize rollC f_law_roll c 4294967296 = c1 at *
  have em_x := pick_mem roll_R (c := c1) (ds := ([0, 4294967295, 4294967276, 2147483641, 4294967096, r] : List Int)) (z := 0) (Nat.le_of_ble_eq_true rfl) (Nat.le_of_ble_eq_true rfl)
  have er_x := p6 roll_R some_P (c := c1) (a0 := 0) (a1 := 4294967295) (a2 := 4294967276) (a3 := 2147483641) (a4 := 4294967096) (a5 := r)
  generalize pick f_law_roll c1 ([0, 4294967295, 4294967276, 2147483641, 4294967096, r] : List Int) 0 = x at *
  generalize rollC f_law_roll c1 6 = c2 at *
  simp only [List.mem_cons, List.not_mem_nil, or_false] at em_x
  refine ⟨x, c2, by omega, ?_⟩
  simp -implicitDefEqProofs only [f_law_start, sh_law_start, S_law_start_1, er_r, er_x, eC_s, eUn_s, kUn_s, eOp_s, kOp_s, kOp2_s, ofO_s, eAnd_s, kAnd_s, eOr_s, kOr_s, eNot_s, kNot_s, eIf_s, kIf_s, kIf_i, eChain_s, kCh_s, kCh2_s, kCh3_s, evL_0, evL_s, kL_s, kL2_s, eTup_s, eLst_s, eLstR_s, kTup_s, kLst_s, kLstR_s, eCall_s, kCall_s, eFn_s, kFn_s, evO_0, evO_s, kO_s, eSlice_s, kSl_s, kSl2_s, kSl3_s, iSeq_s, kSeq_t, kSeq_l, iRange1_s, kRa_s, iRange2_s, kRb_s, kRb2_s, eComp_s, kCm_s, kCm2_s, eCompR_s, kCmR_s, kCmR2_s, compL_0, compL_s, kCo_s, kCo2_s, kCo3_s, tests_0, tests_s, kTe_s, gT_s, gTs_0, gTs_s, kG_s, gSub_s, kSub_s, kSub2_s, kSub3_s, sNop_s, sSeq_s, sRet_s, kRet_s, kRet_x, sRetN_s, sExpr_s, kEx_s, kEx_x, sAsg_s, kAs_s, kAs_x, kAs2_s, kAs2_x, sIf_s, kSIf_s, kSIf_i, kSIf_x, sFor_s, kFor_s, fnM_s, aft_r, aft_n, aft_x, turn_n, andThen_nx, andThen_rt, andThen_exc, andThen_bk, andThen_ct, add_i, sub_i, mul_i, div_i, mod_i, pow_i, neg_i, lt_i, le_i, gt_i, ge_i, eq_i, ne_i, eq_s, ne_s, isi_ii, isi_bi, isi_ti, isi_tt, isi_it, isi_bt, abs_i, min_i, max_i, int_i, len_t, len_l, list_l, list_t, list_s, tup_l, tup_t, addL, addT, cup_a, cup_b, eRev_s, kRv_s, kRv2_s, kRv2_l, kAg_s, kAg2_s, kPick_s, addI_i, iRange3_s, kRc_s, kRc2_s, iEnum_s, kEnum_t, kEnum_l, ite_i, ite_b, ite_o, isi_bb, isi_ss, kOr_n, maxL_1, maxL_2, maxL_3, minL_2, isN_i, isN_n, isN_t, isnN_i, isnN_n, isnN_t, v0, v1, v2, v3, v4, v5, v6, v7, v8, v9, v10, v11, v12, v13, v14, v15, v16, v17, v18, v19, v20, v21, v22, v23, v24, g0, g1, g2, g3, g4, g5, g6, g7, g8, g9, g10, g11, g12, g13, g14, g15, g16, g17, g18, g19, g20, g21, g22, g23, g24, w0, w1, w2, w3, w4, w5, w6, w7, w8, w9, w10, w11, w12, w13, w14, w15, w16, w17, w18, w19, w20, w21, w22, w23, w24, u0, u1, u2, u3, u4, u5, u6, u7, u8, u9, u10, u11, u12, u13, u14, u15, u16, u17, u18, u19, u20, u21, u22, u23, u24, List.length_cons, List.length_nil, Nat.zero_add, Nat.reduceAdd, Nat.reduceLeDiff, Nat.reduceLT, ↓reduceIte, decide_eq_true_eq, Int.reduceLT, Int.reduceLE, Int.reduceAdd, Int.reduceSub, Int.reduceMul, Int.reduceNeg, Int.reducePow, Int.reduceToNat, Int.reduceMod, Int.reduceDiv, Int.reduceEq, sz, big, lim, and_self, and_true, true_and, or_true, true_or, or_self, Bool.not_true, Bool.not_false, Bool.not_eq_true, Bool.not_eq_true', decide_true, decide_false, Bool.false_eq_true, List.map_cons, List.map_nil, rn0, rn1, rn2, rn3, rn4, rn5, rn6, rn7, rn8, rn9, rn10, rn11, rn12, rn13, rn14, rn15, rn16, rn17, rn18, rn19, rn20, rn21, rn22, rn23, rn24, rn25, rn26, rn27, rn28, rn29, Nat.sub_self, Nat.reduceSub, List.append_nil, List.cons_append, List.nil_append, reduceCtorEq, decide_not, wipeE, rng, ne_eq, not_true_eq_false, not_false_eq_true]
theorem number_ok {a b : Int} {s : Store} : f_law_number [.int a, .int b] s = .ok (.int ((a + b) % 4294967296)) s := by
  simp -implicitDefEqProofs only [f_law_number, sh_law_number, S_law_number_1, eC_s, eUn_s, kUn_s, eOp_s, kOp_s, kOp2_s, ofO_s, eAnd_s, kAnd_s, eOr_s, kOr_s, eNot_s, kNot_s, eIf_s, kIf_s, kIf_i, eChain_s, kCh_s, kCh2_s, kCh3_s, evL_0, evL_s, kL_s, kL2_s, eTup_s, eLst_s, eLstR_s, kTup_s, kLst_s, kLstR_s, eCall_s, kCall_s, eFn_s, kFn_s, evO_0, evO_s, kO_s, eSlice_s, kSl_s, kSl2_s, kSl3_s, iSeq_s, kSeq_t, kSeq_l, iRange1_s, kRa_s, iRange2_s, kRb_s, kRb2_s, eComp_s, kCm_s, kCm2_s, eCompR_s, kCmR_s, kCmR2_s, compL_0, compL_s, kCo_s, kCo2_s, kCo3_s, tests_0, tests_s, kTe_s, gT_s, gTs_0, gTs_s, kG_s, gSub_s, kSub_s, kSub2_s, kSub3_s, sNop_s, sSeq_s, sRet_s, kRet_s, kRet_x, sRetN_s, sExpr_s, kEx_s, kEx_x, sAsg_s, kAs_s, kAs_x, kAs2_s, kAs2_x, sIf_s, kSIf_s, kSIf_i, kSIf_x, sFor_s, kFor_s, fnM_s, aft_r, aft_n, aft_x, turn_n, andThen_nx, andThen_rt, andThen_exc, andThen_bk, andThen_ct, add_i, sub_i, mul_i, div_i, mod_i, pow_i, neg_i, lt_i, le_i, gt_i, ge_i, eq_i, ne_i, eq_s, ne_s, isi_ii, isi_bi, isi_ti, isi_tt, isi_it, isi_bt, abs_i, min_i, max_i, int_i, len_t, len_l, list_l, list_t, list_s, tup_l, tup_t, addL, addT, cup_a, cup_b, eRev_s, kRv_s, kRv2_s, kRv2_l, kAg_s, kAg2_s, kPick_s, addI_i, iRange3_s, kRc_s, kRc2_s, iEnum_s, kEnum_t, kEnum_l, ite_i, ite_b, ite_o, isi_bb, isi_ss, kOr_n, maxL_1, maxL_2, maxL_3, minL_2, isN_i, isN_n, isN_t, isnN_i, isnN_n, isnN_t, v0, v1, v2, v3, v4, v5, v6, v7, v8, v9, v10, v11, v12, v13, v14, v15, v16, v17, v18, v19, v20, v21, v22, v23, v24, g0, g1, g2, g3, g4, g5, g6, g7, g8, g9, g10, g11, g12, g13, g14, g15, g16, g17, g18, g19, g20, g21, g22, g23, g24, w0, w1, w2, w3, w4, w5, w6, w7, w8, w9, w10, w11, w12, w13, w14, w15, w16, w17, w18, w19, w20, w21, w22, w23, w24, u0, u1, u2, u3, u4, u5, u6, u7, u8, u9, u10, u11, u12, u13, u14, u15, u16, u17, u18, u19, u20, u21, u22, u23, u24, List.length_cons, List.length_nil, Nat.zero_add, Nat.reduceAdd, Nat.reduceLeDiff, Nat.reduceLT, ↓reduceIte, decide_eq_true_eq, Int.reduceLT, Int.reduceLE, Int.reduceAdd, Int.reduceSub, Int.reduceMul, Int.reduceNeg, Int.reducePow, Int.reduceToNat, Int.reduceMod, Int.reduceDiv, Int.reduceEq, sz, big, lim, and_self, and_true, true_and, or_true, true_or, or_self, Bool.not_true, Bool.not_false, Bool.not_eq_true, Bool.not_eq_true', decide_true, decide_false, Bool.false_eq_true, List.map_cons, List.map_nil, rn0, rn1, rn2, rn3, rn4, rn5, rn6, rn7, rn8, rn9, rn10, rn11, rn12, rn13, rn14, rn15, rn16, rn17, rn18, rn19, rn20, rn21, rn22, rn23, rn24, rn25, rn26, rn27, rn28, rn29, Nat.sub_self, Nat.reduceSub, List.append_nil, List.cons_append, List.nil_append, reduceCtorEq, decide_not, wipeE, rng, ne_eq, not_true_eq_false, not_false_eq_true]
theorem lawoct_ok {seed many : Int} {s : Store} (hs : -100000 ≤ seed ∧ seed ≤ 100000) (h0 : 0 ≤ many) (h1 : many ≤ 10000) : f_law_octets [.int seed, .int many] s = .ok (.tup ((ocs seed many.toNat).map .int)) s := by
  have e : compL (gN 2) [] (eOp dMod (eCall fInt [(eOp dAdd (eOp dAdd (eOp dMul (eVar 0) (eC (.int 7))) (eOp dMul (eVar 2) (eC (.int 13)))) (eC (.int 5)))]) (eC (.int 256))) [some (.int seed), some (.int many), none] (rng 0 many.toNat) [] s = .ok ((ocs seed many.toNat).map .int) s := by
    have := comp_map (tg := gN 2) (elt := (eOp dMod (eCall fInt [(eOp dAdd (eOp dAdd (eOp dMul (eVar 0) (eC (.int 7))) (eOp dMul (eVar 2) (eC (.int 13)))) (eC (.int 5)))]) (eC (.int 256)))) (σ := [some (.int seed), some (.int many), none]) (s := s) (f := fun d => match d with | .int k => .int ((seed * 7 + k * 13 + 5) % 256) | d => d) (ds := rng 0 many.toNat) (acc := []) (fun d m => by
      obtain ⟨k, rfl, k0, k1⟩ := rng_at m
      have q1 : -18446744073709551616 < seed := by omega
      have q2 : seed < 18446744073709551616 := by omega
      have q3 : -18446744073709551616 < k := by omega
      have q4 : k < 18446744073709551616 := by omega
      exact ⟨[some (.int seed), some (.int many), some (.int k)], rfl, by simp -implicitDefEqProofs only [q1, q2, q3, q4, eC_s, eUn_s, kUn_s, eOp_s, kOp_s, kOp2_s, ofO_s, eAnd_s, kAnd_s, eOr_s, kOr_s, eNot_s, kNot_s, eIf_s, kIf_s, kIf_i, eChain_s, kCh_s, kCh2_s, kCh3_s, evL_0, evL_s, kL_s, kL2_s, eTup_s, eLst_s, eLstR_s, kTup_s, kLst_s, kLstR_s, eCall_s, kCall_s, eFn_s, kFn_s, evO_0, evO_s, kO_s, eSlice_s, kSl_s, kSl2_s, kSl3_s, iSeq_s, kSeq_t, kSeq_l, iRange1_s, kRa_s, iRange2_s, kRb_s, kRb2_s, eComp_s, kCm_s, kCm2_s, eCompR_s, kCmR_s, kCmR2_s, compL_0, compL_s, kCo_s, kCo2_s, kCo3_s, tests_0, tests_s, kTe_s, gT_s, gTs_0, gTs_s, kG_s, gSub_s, kSub_s, kSub2_s, kSub3_s, sNop_s, sSeq_s, sRet_s, kRet_s, kRet_x, sRetN_s, sExpr_s, kEx_s, kEx_x, sAsg_s, kAs_s, kAs_x, kAs2_s, kAs2_x, sIf_s, kSIf_s, kSIf_i, kSIf_x, sFor_s, kFor_s, fnM_s, aft_r, aft_n, aft_x, turn_n, andThen_nx, andThen_rt, andThen_exc, andThen_bk, andThen_ct, add_i, sub_i, mul_i, div_i, mod_i, pow_i, neg_i, lt_i, le_i, gt_i, ge_i, eq_i, ne_i, eq_s, ne_s, isi_ii, isi_bi, isi_ti, isi_tt, isi_it, isi_bt, abs_i, min_i, max_i, int_i, len_t, len_l, list_l, list_t, list_s, tup_l, tup_t, addL, addT, cup_a, cup_b, eRev_s, kRv_s, kRv2_s, kRv2_l, kAg_s, kAg2_s, kPick_s, addI_i, iRange3_s, kRc_s, kRc2_s, iEnum_s, kEnum_t, kEnum_l, ite_i, ite_b, ite_o, isi_bb, isi_ss, kOr_n, maxL_1, maxL_2, maxL_3, minL_2, isN_i, isN_n, isN_t, isnN_i, isnN_n, isnN_t, v0, v1, v2, v3, v4, v5, v6, v7, v8, v9, v10, v11, v12, v13, v14, v15, v16, v17, v18, v19, v20, v21, v22, v23, v24, g0, g1, g2, g3, g4, g5, g6, g7, g8, g9, g10, g11, g12, g13, g14, g15, g16, g17, g18, g19, g20, g21, g22, g23, g24, w0, w1, w2, w3, w4, w5, w6, w7, w8, w9, w10, w11, w12, w13, w14, w15, w16, w17, w18, w19, w20, w21, w22, w23, w24, u0, u1, u2, u3, u4, u5, u6, u7, u8, u9, u10, u11, u12, u13, u14, u15, u16, u17, u18, u19, u20, u21, u22, u23, u24, List.length_cons, List.length_nil, Nat.zero_add, Nat.reduceAdd, Nat.reduceLeDiff, Nat.reduceLT, ↓reduceIte, decide_eq_true_eq, Int.reduceLT, Int.reduceLE, Int.reduceAdd, Int.reduceSub, Int.reduceMul, Int.reduceNeg, Int.reducePow, Int.reduceToNat, Int.reduceMod, Int.reduceDiv, Int.reduceEq, sz, big, lim, and_self, and_true, true_and, or_true, true_or, or_self, Bool.not_true, Bool.not_false, Bool.not_eq_true, Bool.not_eq_true', decide_true, decide_false, Bool.false_eq_true, List.map_cons, List.map_nil, rn0, rn1, rn2, rn3, rn4, rn5, rn6, rn7, rn8, rn9, rn10, rn11, rn12, rn13, rn14, rn15, rn16, rn17, rn18, rn19, rn20, rn21, rn22, rn23, rn24, rn25, rn26, rn27, rn28, rn29, Nat.sub_self, Nat.reduceSub, List.append_nil, List.cons_append, List.nil_append, reduceCtorEq, decide_not, wipeE, rng, ne_eq, not_true_eq_false, not_false_eq_true]⟩) (by rw [rng_len]; simp [sz]; omega)
    rw [this, List.nil_append, rng_eq, ocs, List.map_map, List.map_map]
    congr 1
    apply List.map_congr_left
    intro k _
    show D.int _ = D.int _
    simp
  have k1 : -4611686018427387904 ≤ many := by omega
  have k2 : many < 4611686018427387904 := by omega
  simp -implicitDefEqProofs only [f_law_octets, sh_law_octets, S_law_octets_1, k1, k2, e, eC_s, eUn_s, kUn_s, eOp_s, kOp_s, kOp2_s, ofO_s, eAnd_s, kAnd_s, eOr_s, kOr_s, eNot_s, kNot_s, eIf_s, kIf_s, kIf_i, eChain_s, kCh_s, kCh2_s, kCh3_s, evL_0, evL_s, kL_s, kL2_s, eTup_s, eLst_s, eLstR_s, kTup_s, kLst_s, kLstR_s, eCall_s, kCall_s, eFn_s, kFn_s, evO_0, evO_s, kO_s, eSlice_s, kSl_s, kSl2_s, kSl3_s, iSeq_s, kSeq_t, kSeq_l, iRange1_s, kRa_s, iRange2_s, kRb_s, kRb2_s, eComp_s, kCm_s, kCm2_s, eCompR_s, kCmR_s, kCmR2_s, compL_0, compL_s, kCo_s, kCo2_s, kCo3_s, tests_0, tests_s, kTe_s, gT_s, gTs_0, gTs_s, kG_s, gSub_s, kSub_s, kSub2_s, kSub3_s, sNop_s, sSeq_s, sRet_s, kRet_s, kRet_x, sRetN_s, sExpr_s, kEx_s, kEx_x, sAsg_s, kAs_s, kAs_x, kAs2_s, kAs2_x, sIf_s, kSIf_s, kSIf_i, kSIf_x, sFor_s, kFor_s, fnM_s, aft_r, aft_n, aft_x, turn_n, andThen_nx, andThen_rt, andThen_exc, andThen_bk, andThen_ct, add_i, sub_i, mul_i, div_i, mod_i, pow_i, neg_i, lt_i, le_i, gt_i, ge_i, eq_i, ne_i, eq_s, ne_s, isi_ii, isi_bi, isi_ti, isi_tt, isi_it, isi_bt, abs_i, min_i, max_i, int_i, len_t, len_l, list_l, list_t, list_s, tup_l, tup_t, addL, addT, cup_a, cup_b, eRev_s, kRv_s, kRv2_s, kRv2_l, kAg_s, kAg2_s, kPick_s, addI_i, iRange3_s, kRc_s, kRc2_s, iEnum_s, kEnum_t, kEnum_l, ite_i, ite_b, ite_o, isi_bb, isi_ss, kOr_n, maxL_1, maxL_2, maxL_3, minL_2, isN_i, isN_n, isN_t, isnN_i, isnN_n, isnN_t, v0, v1, v2, v3, v4, v5, v6, v7, v8, v9, v10, v11, v12, v13, v14, v15, v16, v17, v18, v19, v20, v21, v22, v23, v24, g0, g1, g2, g3, g4, g5, g6, g7, g8, g9, g10, g11, g12, g13, g14, g15, g16, g17, g18, g19, g20, g21, g22, g23, g24, w0, w1, w2, w3, w4, w5, w6, w7, w8, w9, w10, w11, w12, w13, w14, w15, w16, w17, w18, w19, w20, w21, w22, w23, w24, u0, u1, u2, u3, u4, u5, u6, u7, u8, u9, u10, u11, u12, u13, u14, u15, u16, u17, u18, u19, u20, u21, u22, u23, u24, List.length_cons, List.length_nil, Nat.zero_add, Nat.reduceAdd, Nat.reduceLeDiff, Nat.reduceLT, ↓reduceIte, decide_eq_true_eq, Int.reduceLT, Int.reduceLE, Int.reduceAdd, Int.reduceSub, Int.reduceMul, Int.reduceNeg, Int.reducePow, Int.reduceToNat, Int.reduceMod, Int.reduceDiv, Int.reduceEq, sz, big, lim, and_self, and_true, true_and, or_true, true_or, or_self, Bool.not_true, Bool.not_false, Bool.not_eq_true, Bool.not_eq_true', decide_true, decide_false, Bool.false_eq_true, List.map_cons, List.map_nil, rn0, rn1, rn2, rn3, rn4, rn5, rn6, rn7, rn8, rn9, rn10, rn11, rn12, rn13, rn14, rn15, rn16, rn17, rn18, rn19, rn20, rn21, rn22, rn23, rn24, rn25, rn26, rn27, rn28, rn29, Nat.sub_self, Nat.reduceSub, List.append_nil, List.cons_append, List.nil_append, reduceCtorEq, decide_not, wipeE, rng, ne_eq, not_true_eq_false, not_false_eq_true]
theorem gap_ok {a b : Int} {s : Store} (ha : 0 ≤ a ∧ a ≤ 4294967295) (hb : 0 ≤ b ∧ b ≤ 4294967295) : f_ring_gap [.int a, .int b] s = .ok (.int ((b - a + 2147483648) % 4294967296 - 2147483648)) s := by
  simp -implicitDefEqProofs only [f_ring_gap, sh_ring_gap, S_ring_gap_1, S_ring_gap_2, S_ring_gap_3, f_need_ring, sh_need_ring, S_need_ring_1, need_ok ha, need_ok hb, eC_s, eUn_s, kUn_s, eOp_s, kOp_s, kOp2_s, ofO_s, eAnd_s, kAnd_s, eOr_s, kOr_s, eNot_s, kNot_s, eIf_s, kIf_s, kIf_i, eChain_s, kCh_s, kCh2_s, kCh3_s, evL_0, evL_s, kL_s, kL2_s, eTup_s, eLst_s, eLstR_s, kTup_s, kLst_s, kLstR_s, eCall_s, kCall_s, eFn_s, kFn_s, evO_0, evO_s, kO_s, eSlice_s, kSl_s, kSl2_s, kSl3_s, iSeq_s, kSeq_t, kSeq_l, iRange1_s, kRa_s, iRange2_s, kRb_s, kRb2_s, eComp_s, kCm_s, kCm2_s, eCompR_s, kCmR_s, kCmR2_s, compL_0, compL_s, kCo_s, kCo2_s, kCo3_s, tests_0, tests_s, kTe_s, gT_s, gTs_0, gTs_s, kG_s, gSub_s, kSub_s, kSub2_s, kSub3_s, sNop_s, sSeq_s, sRet_s, kRet_s, kRet_x, sRetN_s, sExpr_s, kEx_s, kEx_x, sAsg_s, kAs_s, kAs_x, kAs2_s, kAs2_x, sIf_s, kSIf_s, kSIf_i, kSIf_x, sFor_s, kFor_s, fnM_s, aft_r, aft_n, aft_x, turn_n, andThen_nx, andThen_rt, andThen_exc, andThen_bk, andThen_ct, add_i, sub_i, mul_i, div_i, mod_i, pow_i, neg_i, lt_i, le_i, gt_i, ge_i, eq_i, ne_i, eq_s, ne_s, isi_ii, isi_bi, isi_ti, isi_tt, isi_it, isi_bt, abs_i, min_i, max_i, int_i, len_t, len_l, list_l, list_t, list_s, tup_l, tup_t, addL, addT, cup_a, cup_b, eRev_s, kRv_s, kRv2_s, kRv2_l, kAg_s, kAg2_s, kPick_s, addI_i, iRange3_s, kRc_s, kRc2_s, iEnum_s, kEnum_t, kEnum_l, ite_i, ite_b, ite_o, isi_bb, isi_ss, kOr_n, maxL_1, maxL_2, maxL_3, minL_2, isN_i, isN_n, isN_t, isnN_i, isnN_n, isnN_t, v0, v1, v2, v3, v4, v5, v6, v7, v8, v9, v10, v11, v12, v13, v14, v15, v16, v17, v18, v19, v20, v21, v22, v23, v24, g0, g1, g2, g3, g4, g5, g6, g7, g8, g9, g10, g11, g12, g13, g14, g15, g16, g17, g18, g19, g20, g21, g22, g23, g24, w0, w1, w2, w3, w4, w5, w6, w7, w8, w9, w10, w11, w12, w13, w14, w15, w16, w17, w18, w19, w20, w21, w22, w23, w24, u0, u1, u2, u3, u4, u5, u6, u7, u8, u9, u10, u11, u12, u13, u14, u15, u16, u17, u18, u19, u20, u21, u22, u23, u24, List.length_cons, List.length_nil, Nat.zero_add, Nat.reduceAdd, Nat.reduceLeDiff, Nat.reduceLT, ↓reduceIte, decide_eq_true_eq, Int.reduceLT, Int.reduceLE, Int.reduceAdd, Int.reduceSub, Int.reduceMul, Int.reduceNeg, Int.reducePow, Int.reduceToNat, Int.reduceMod, Int.reduceDiv, Int.reduceEq, sz, big, lim, and_self, and_true, true_and, or_true, true_or, or_self, Bool.not_true, Bool.not_false, Bool.not_eq_true, Bool.not_eq_true', decide_true, decide_false, Bool.false_eq_true, List.map_cons, List.map_nil, rn0, rn1, rn2, rn3, rn4, rn5, rn6, rn7, rn8, rn9, rn10, rn11, rn12, rn13, rn14, rn15, rn16, rn17, rn18, rn19, rn20, rn21, rn22, rn23, rn24, rn25, rn26, rn27, rn28, rn29, Nat.sub_self, Nat.reduceSub, List.append_nil, List.cons_append, List.nil_append, reduceCtorEq, decide_not, wipeE, rng, ne_eq, not_true_eq_false, not_false_eq_true]
theorem comp_idx {tg : TgM} {elt : E} {σ : Mn.Env} {s : Store} {g h : Nat → D} : ∀ {L : List Nat} {acc : List D}, (∀ k ∈ L, ∃ σ1, tg (g k) σ s = .ok σ1 s ∧ elt σ1 s = .ok (h k) s) → acc.length + L.length ≤ sz → compL tg [] elt σ (L.map g) acc s = .ok (acc ++ L.map h) s
  | [], acc, _, _ => by rw [List.map_nil, List.map_nil, List.append_nil]; rfl
  | d :: ds, acc, hh, hl => by
    obtain ⟨σ1, e1, e2⟩ := hh d List.mem_cons_self
    have hl' : acc.length + (ds.length + 1) ≤ sz := hl
    show bnd (tg (g d) σ s) _ = _
    rw [e1]
    show bnd (elt σ1 s) _ = _
    rw [e2]
    show (if acc.length < sz then compL tg [] elt σ (ds.map g) (acc ++ [h d]) s else .bad) = _
    rw [if_pos (by omega), comp_idx (fun d m => hh d (List.mem_cons_of_mem _ m)) (by simp; omega)]
    simp
theorem rngS_at : ∀ (n : Nat) (lo c : Int) (i : Nat), (rngS lo c n)[i]? = if i < n then some (.int (lo + (i : Nat) * c)) else none
  | 0, lo, c, i => by simp [rngS]
  | n + 1, lo, c, 0 => by simp [rngS]
  | n + 1, lo, c, i + 1 => by
    rw [rngS, List.getElem?_cons_succ, rngS_at n]
    by_cases h : i < n
    · rw [if_pos h, if_pos (by omega)]
      have : lo + c + (i : Int) * c = lo + ((i + 1 : Nat) : Int) * c := by
        have : ((i + 1 : Nat) : Int) * c = (i : Int) * c + c := by rw [Int.natCast_succ, Int.add_mul, Int.one_mul]
        rw [this]
        omega
      rw [this]
    · rw [if_neg h, if_neg (by omega)]
theorem rngS_eq {c : Int} {n : Nat} : rngS 0 c n = (List.range n).map fun k => D.int (((k : Nat) : Int) * c) := by
  apply List.ext_getElem?
  intro i
  rw [rngS_at, List.getElem?_map]
  by_cases h : i < n
  · rw [if_pos h, List.getElem?_range h, Int.zero_add]; rfl
  · rw [if_neg h, List.getElem?_eq_none (by simpa using h)]; rfl
theorem plus_ok {a b : Int} {s : Store} (ha : 0 ≤ a ∧ a ≤ 4294967295) (hb : -4294967296 ≤ b ∧ b ≤ 4294967296) : f_ring_plus [.int a, .int b] s = .ok (.int ((a + b) % 4294967296)) s := by
  simp -implicitDefEqProofs only [f_ring_plus, sh_ring_plus, S_ring_plus_1, S_ring_plus_2, S_ring_plus_3, f_need_ring, sh_need_ring, S_need_ring_1, need_ok ha, need_ok hb, eC_s, eUn_s, kUn_s, eOp_s, kOp_s, kOp2_s, ofO_s, eAnd_s, kAnd_s, eOr_s, kOr_s, eNot_s, kNot_s, eIf_s, kIf_s, kIf_i, eChain_s, kCh_s, kCh2_s, kCh3_s, evL_0, evL_s, kL_s, kL2_s, eTup_s, eLst_s, eLstR_s, kTup_s, kLst_s, kLstR_s, eCall_s, kCall_s, eFn_s, kFn_s, evO_0, evO_s, kO_s, eSlice_s, kSl_s, kSl2_s, kSl3_s, iSeq_s, kSeq_t, kSeq_l, iRange1_s, kRa_s, iRange2_s, kRb_s, kRb2_s, eComp_s, kCm_s, kCm2_s, eCompR_s, kCmR_s, kCmR2_s, compL_0, compL_s, kCo_s, kCo2_s, kCo3_s, tests_0, tests_s, kTe_s, gT_s, gTs_0, gTs_s, kG_s, gSub_s, kSub_s, kSub2_s, kSub3_s, sNop_s, sSeq_s, sRet_s, kRet_s, kRet_x, sRetN_s, sExpr_s, kEx_s, kEx_x, sAsg_s, kAs_s, kAs_x, kAs2_s, kAs2_x, sIf_s, kSIf_s, kSIf_i, kSIf_x, sFor_s, kFor_s, fnM_s, aft_r, aft_n, aft_x, turn_n, andThen_nx, andThen_rt, andThen_exc, andThen_bk, andThen_ct, add_i, sub_i, mul_i, div_i, mod_i, pow_i, neg_i, lt_i, le_i, gt_i, ge_i, eq_i, ne_i, eq_s, ne_s, isi_ii, isi_bi, isi_ti, isi_tt, isi_it, isi_bt, abs_i, min_i, max_i, int_i, len_t, len_l, list_l, list_t, list_s, tup_l, tup_t, addL, addT, cup_a, cup_b, eRev_s, kRv_s, kRv2_s, kRv2_l, kAg_s, kAg2_s, kPick_s, addI_i, iRange3_s, kRc_s, kRc2_s, iEnum_s, kEnum_t, kEnum_l, ite_i, ite_b, ite_o, isi_bb, isi_ss, kOr_n, maxL_1, maxL_2, maxL_3, minL_2, isN_i, isN_n, isN_t, isnN_i, isnN_n, isnN_t, v0, v1, v2, v3, v4, v5, v6, v7, v8, v9, v10, v11, v12, v13, v14, v15, v16, v17, v18, v19, v20, v21, v22, v23, v24, g0, g1, g2, g3, g4, g5, g6, g7, g8, g9, g10, g11, g12, g13, g14, g15, g16, g17, g18, g19, g20, g21, g22, g23, g24, w0, w1, w2, w3, w4, w5, w6, w7, w8, w9, w10, w11, w12, w13, w14, w15, w16, w17, w18, w19, w20, w21, w22, w23, w24, u0, u1, u2, u3, u4, u5, u6, u7, u8, u9, u10, u11, u12, u13, u14, u15, u16, u17, u18, u19, u20, u21, u22, u23, u24, List.length_cons, List.length_nil, Nat.zero_add, Nat.reduceAdd, Nat.reduceLeDiff, Nat.reduceLT, ↓reduceIte, decide_eq_true_eq, Int.reduceLT, Int.reduceLE, Int.reduceAdd, Int.reduceSub, Int.reduceMul, Int.reduceNeg, Int.reducePow, Int.reduceToNat, Int.reduceMod, Int.reduceDiv, Int.reduceEq, sz, big, lim, and_self, and_true, true_and, or_true, true_or, or_self, Bool.not_true, Bool.not_false, Bool.not_eq_true, Bool.not_eq_true', decide_true, decide_false, Bool.false_eq_true, List.map_cons, List.map_nil, rn0, rn1, rn2, rn3, rn4, rn5, rn6, rn7, rn8, rn9, rn10, rn11, rn12, rn13, rn14, rn15, rn16, rn17, rn18, rn19, rn20, rn21, rn22, rn23, rn24, rn25, rn26, rn27, rn28, rn29, Nat.sub_self, Nat.reduceSub, List.append_nil, List.cons_append, List.nil_append, reduceCtorEq, decide_not, wipeE, rng, ne_eq, not_true_eq_false, not_false_eq_true]
/-! ### walks over lists of any kind -/
theorem comp_g {α : Type} {tg : TgM} {elt : E} {σ : Mn.Env} {s : Store} {g h : α → D} : ∀ {L : List α} {acc : List D}, (∀ k ∈ L, ∃ σ1, tg (g k) σ s = .ok σ1 s ∧ elt σ1 s = .ok (h k) s) → acc.length + L.length ≤ sz → compL tg [] elt σ (L.map g) acc s = .ok (acc ++ L.map h) s
  | [], acc, _, _ => by rw [List.map_nil, List.map_nil, List.append_nil]; rfl
  | d :: ds, acc, hh, hl => by
    obtain ⟨σ1, e1, e2⟩ := hh d List.mem_cons_self
    have hl' : acc.length + (ds.length + 1) ≤ sz := hl
    show bnd (tg (g d) σ s) _ = _
    rw [e1]
    show bnd (elt σ1 s) _ = _
    rw [e2]
    show (if acc.length < sz then compL tg [] elt σ (ds.map g) (acc ++ [h d]) s else .bad) = _
    rw [if_pos (by omega), comp_g (fun d m => hh d (List.mem_cons_of_mem _ m)) (by simp; omega)]
    simp
theorem comp_gf {α : Type} {tg : TgM} {c elt : E} {σ : Mn.Env} {s : Store} {g h : α → D} {P : α → Bool} : ∀ {L : List α} {acc : List D}, (∀ k ∈ L, ∃ σ1, tg (g k) σ s = .ok σ1 s ∧ c σ1 s = .ok (.bl (P k)) s ∧ elt σ1 s = .ok (h k) s) → acc.length + L.length ≤ sz → compL tg [c] elt σ (L.map g) acc s = .ok (acc ++ (L.filter P).map h) s
  | [], acc, _, _ => by rw [List.map_nil, List.filter_nil, List.map_nil, List.append_nil]; rfl
  | d :: ds, acc, hh, hl => by
    obtain ⟨σ1, e1, e2, e3⟩ := hh d List.mem_cons_self
    have hl' : acc.length + (ds.length + 1) ≤ sz := hl
    show bnd (tg (g d) σ s) _ = _
    rw [e1]
    show bnd (bnd (c σ1 s) _) _ = _
    rw [e2]
    cases q : P d with
    | true =>
      show bnd (elt σ1 s) _ = _
      rw [e3]
      show (if acc.length < sz then compL tg [c] elt σ (ds.map g) (acc ++ [h d]) s else .bad) = _
      rw [if_pos (by omega), comp_gf (fun d m => hh d (List.mem_cons_of_mem _ m)) (by simp; omega)]
      simp [q]
    | false =>
      show compL tg [c] elt σ (ds.map g) acc s = _
      rw [comp_gf (fun d m => hh d (List.mem_cons_of_mem _ m)) (by omega)]
      simp [q]
theorem enum_map {α : Type} {f : α → D} : ∀ {xs : List α} {k : Nat}, enumF k (xs.map f) = (xs.zipIdx k).map fun p => D.tup [.int ((p.2 : Nat) : Int), f p.1]
  | [], k => rfl
  | x :: xs, k => by
    rw [List.map_cons, enumF, List.zipIdx_cons, List.map_cons, enum_map]
theorem prs_map : ∀ {ps : List (Int × Int)}, prs? (ps.map Mn.prD) = some ps
  | [] => rfl
  | (a, b) :: ps => by
    show (prs? (ps.map Mn.prD)).map (fun ps => (a, b) :: ps) = _
    rw [prs_map]; rfl
theorem ins_mem {x p : Int × Int} : ∀ {X : List (Int × Int)}, x ∈ insP p X ↔ x = p ∨ x ∈ X
  | [] => by simp [insP]
  | q :: r => by
    rw [insP]
    split
    · simp
    · rw [List.mem_cons, ins_mem, List.mem_cons]
      exact ⟨fun h => h.elim (fun e => .inr (.inl e)) fun h => h.elim .inl fun h => .inr (.inr h), fun h => h.elim (fun e => .inr (.inl e)) fun h => h.elim .inl fun h => .inr (.inr h)⟩
theorem sort_mem {x : Int × Int} : ∀ {X : List (Int × Int)}, x ∈ sortP X ↔ x ∈ X
  | [] => Iff.rfl
  | p :: r => by rw [sortP, ins_mem, sort_mem, List.mem_cons]
theorem sort_prs {X : List (Int × Int)} {s : Store} : fSortP s [.lst (X.map Mn.prD)] = some (.lst ((sortP X).map Mn.prD)) := by
  show (prs? (X.map Mn.prD)).map _ = _
  rw [prs_map]; rfl
theorem okRs_prs : ∀ {X : List (Int × Int)}, (∀ p ∈ X, (-hug < p.1 ∧ p.1 < hug) ∧ (-hug < p.2 ∧ p.2 < hug)) → D.okRs (X.map Mn.prD)
  | [], _ => trivial
  | p :: X, h => ⟨⟨(h p List.mem_cons_self).1, (h p List.mem_cons_self).2, trivial⟩, okRs_prs fun q m => h q (List.mem_cons_of_mem _ m)⟩
theorem deps_prs : ∀ {X : List (Int × Int)}, D.deps (X.map Mn.prD) ≤ 1
  | [] => Nat.zero_le _
  | p :: X => by
    show max (Mn.prD p).dep (D.deps (X.map Mn.prD)) ≤ 1
    exact Nat.max_le.mpr ⟨Nat.le_refl _, deps_prs⟩
/-! ### goods, by places of one row -/
/-- a piece: its place, its octets -/
abbrev Pc := Nat × List Int
def num (st : Int) (p : Int) : Int := (st + p) % 4294967296
def pcD (st : Int) (p : Pc) : D := .tup [.int (num st p.1), .tup (p.2.map .int)]
/-- goods: what comes next by its place, what waits, pieces, end -/
structure Go where
  c : Nat
  w : List Int
  ps : List Pc
  e : Bool
def goD (st : Int) (g : Go) : D := .tup [.int (num st ((g.c : Int) + if g.e = true then 1 else 0)), .tup (g.w.map .int), .tup (g.ps.map (pcD st)), .bl g.e]
/-- near enough for the ring: within 1000 of it -/
structure GoOK (st : Int) (g : Go) : Prop where
  hs : 0 ≤ st ∧ st ≤ 4294967295
  hc : g.c ≤ 1000
  hw : Oct g.w ∧ g.w.length ≤ 300
  hp : ∀ p ∈ g.ps, p.1 ≤ 1000 ∧ Oct p.2 ∧ p.2.length ≤ 400
  hn : g.ps.length ≤ 6
section
variable {st : Int} {g : Go} {s : Store}
theorem goD_f (he : g.e = false) : goD st g = .tup [.int (num st g.c), .tup (g.w.map .int), .tup (g.ps.map (pcD st)), .bl false] := by
  unfold goD; rw [he]
  show D.tup [.int (num st ((g.c : Int) + 0)), _, _, _] = _
  rw [Int.add_zero]
theorem num_lo (p : Int) : 0 ≤ num st p ∧ num st p ≤ 4294967295 := by unfold num; omega
theorem gap_num {a b : Int} (h : -2000 ≤ b - a ∧ b - a ≤ 2000) : f_ring_gap [.int (num st a), .int (num st b)] s = .ok (.int (b - a)) s := by
  rw [gap_ok (num_lo a) (num_lo b)]
  have : (num st b - num st a + 2147483648) % 4294967296 - 2147483648 = b - a := by unfold num; omega
  rw [this]
theorem plus_num {a b : Int} (hb : 0 ≤ b ∧ b ≤ 2000) : f_ring_plus [.int (num st a), .int b] s = .ok (.int (num st (a + b))) s := by
  rw [plus_ok (num_lo a) (by omega)]
  have : (num st a + b) % 4294967296 = num st (a + b) := by unfold num; omega
  rw [this]
theorem numb_ok {p : Int} (h : 0 ≤ st ∧ st ≤ 4294967295) (hp : -2000 ≤ p ∧ p ≤ 2000) : f_law_number [.int st, .int p] s = .ok (.int (num st p)) s := number_ok
theorem num_eq {a b : Int} (h : -2000 ≤ b - a ∧ b - a ≤ 2000) : (num st a = num st b) ↔ a = b := by unfold num; omega
/-- what counts of octets at a place -/
def cnt (g : Go) (a : Nat) (os : List Int) : List Int := (os.drop (g.c - a)).take (300 + g.c - (g.w.length + a) - (g.c - a))
theorem count_ok {a : Nat} {os : List Int} (h : GoOK st g) (he : g.e = false) (ha : a ≤ 1000) : f_that_count [goD st g, .int (num st a), .tup (os.map .int)] s = .ok (.tup ((cnt g a os).map .int)) s := by
  have hc := h.hc
  have hw := h.hw.2
  have gp := fun s => gap_num (st := st) (a := g.c) (b := a) (s := s) (by omega)
  have i0 : ∀ s, dItem s (goD st g) (.int 0) = some (.int (num st g.c)) := fun s => by rw [goD_f he]; rfl
  have rm : ∀ s, f_room_of [goD st g] s = .ok (.int (300 - (g.w.length : Int))) s := fun s => by
    have i1 : ∀ s, dItem s (goD st g) (.int 1) = some (.tup (g.w.map .int)) := fun s => rfl
    have lw : ((g.w.map D.int).length : Int) = (g.w.length : Int) := by rw [List.length_map]
    generalize goD st g = G at *
    generalize g.w.map D.int = WM at *
    simp -implicitDefEqProofs only [f_room_of, sh_room_of, S_room_of_1, i1, lw, eC_s, eUn_s, kUn_s, eOp_s, kOp_s, kOp2_s, ofO_s, eAnd_s, kAnd_s, eOr_s, kOr_s, eNot_s, kNot_s, eIf_s, kIf_s, kIf_i, eChain_s, kCh_s, kCh2_s, kCh3_s, evL_0, evL_s, kL_s, kL2_s, eTup_s, eLst_s, eLstR_s, kTup_s, kLst_s, kLstR_s, eCall_s, kCall_s, eFn_s, kFn_s, evO_0, evO_s, kO_s, eSlice_s, kSl_s, kSl2_s, kSl3_s, iSeq_s, kSeq_t, kSeq_l, iRange1_s, kRa_s, iRange2_s, kRb_s, kRb2_s, eComp_s, kCm_s, kCm2_s, eCompR_s, kCmR_s, kCmR2_s, compL_0, compL_s, kCo_s, kCo2_s, kCo3_s, tests_0, tests_s, kTe_s, gT_s, gTs_0, gTs_s, kG_s, gSub_s, kSub_s, kSub2_s, kSub3_s, sNop_s, sSeq_s, sRet_s, kRet_s, kRet_x, sRetN_s, sExpr_s, kEx_s, kEx_x, sAsg_s, kAs_s, kAs_x, kAs2_s, kAs2_x, sIf_s, kSIf_s, kSIf_i, kSIf_x, sFor_s, kFor_s, fnM_s, aft_r, aft_n, aft_x, turn_n, andThen_nx, andThen_rt, andThen_exc, andThen_bk, andThen_ct, add_i, sub_i, mul_i, div_i, mod_i, pow_i, neg_i, lt_i, le_i, gt_i, ge_i, eq_i, ne_i, eq_s, ne_s, isi_ii, isi_bi, isi_ti, isi_tt, isi_it, isi_bt, abs_i, min_i, max_i, int_i, len_t, len_l, list_l, list_t, list_s, tup_l, tup_t, addL, addT, cup_a, cup_b, eRev_s, kRv_s, kRv2_s, kRv2_l, kAg_s, kAg2_s, kPick_s, addI_i, iRange3_s, kRc_s, kRc2_s, iEnum_s, kEnum_t, kEnum_l, ite_i, ite_b, ite_o, isi_bb, isi_ss, kOr_n, maxL_1, maxL_2, maxL_3, minL_2, isN_i, isN_n, isN_t, isnN_i, isnN_n, isnN_t, v0, v1, v2, v3, v4, v5, v6, v7, v8, v9, v10, v11, v12, v13, v14, v15, v16, v17, v18, v19, v20, v21, v22, v23, v24, g0, g1, g2, g3, g4, g5, g6, g7, g8, g9, g10, g11, g12, g13, g14, g15, g16, g17, g18, g19, g20, g21, g22, g23, g24, w0, w1, w2, w3, w4, w5, w6, w7, w8, w9, w10, w11, w12, w13, w14, w15, w16, w17, w18, w19, w20, w21, w22, w23, w24, u0, u1, u2, u3, u4, u5, u6, u7, u8, u9, u10, u11, u12, u13, u14, u15, u16, u17, u18, u19, u20, u21, u22, u23, u24, List.length_cons, List.length_nil, Nat.zero_add, Nat.reduceAdd, Nat.reduceLeDiff, Nat.reduceLT, ↓reduceIte, decide_eq_true_eq, Int.reduceLT, Int.reduceLE, Int.reduceAdd, Int.reduceSub, Int.reduceMul, Int.reduceNeg, Int.reducePow, Int.reduceToNat, Int.reduceMod, Int.reduceDiv, Int.reduceEq, sz, big, lim, and_self, and_true, true_and, or_true, true_or, or_self, Bool.not_true, Bool.not_false, Bool.not_eq_true, Bool.not_eq_true', decide_true, decide_false, Bool.false_eq_true, List.map_cons, List.map_nil, rn0, rn1, rn2, rn3, rn4, rn5, rn6, rn7, rn8, rn9, rn10, rn11, rn12, rn13, rn14, rn15, rn16, rn17, rn18, rn19, rn20, rn21, rn22, rn23, rn24, rn25, rn26, rn27, rn28, rn29, Nat.sub_self, Nat.reduceSub, List.append_nil, List.cons_append, List.nil_append, reduceCtorEq, decide_not, wipeE, rng, ne_eq, not_true_eq_false, not_false_eq_true]
  obtain ⟨x, hx⟩ : ∃ x : Int, x = ((g.c - a : Nat) : Int) := ⟨_, rfl⟩
  obtain ⟨y, hy⟩ : ∃ y, y = max x (300 - (g.w.length : Int) - ((a : Int) - g.c)) := ⟨_, rfl⟩
  have m1 : ∀ s, fMax s [.int 0, .int (-((a : Int) - g.c))] = some (.int x) := fun s => by
    rw [max_i, hx]; congr 2; split <;> omega
  have m2 : ∀ s, fMax s [.int x, .int (300 - (g.w.length : Int) - ((a : Int) - g.c))] = some (.int y) := fun s => by
    rw [max_i, hy]; congr 2; split <;> omega
  have sl : ∀ s, dSlice s (.tup (os.map .int)) (some x) (some y) = some (.tup ((cnt g a os).map .int)) := fun s => by
    rw [slO_mid (by omega) (by omega)]
    unfold cnt
    rw [show x.toNat = g.c - a by omega, show y.toNat - (g.c - a) = 300 + g.c - (g.w.length + a) - (g.c - a) by omega]
  generalize goD st g = G at *
  generalize (cnt g a os).map D.int = CM at *
  generalize os.map D.int = OM at *
  simp -implicitDefEqProofs only [f_that_count, sh_that_count, S_that_count_1, S_that_count_2, S_that_count_3, i0, gp, m1, rm, m2, sl, neg_i, eC_s, eUn_s, kUn_s, eOp_s, kOp_s, kOp2_s, ofO_s, eAnd_s, kAnd_s, eOr_s, kOr_s, eNot_s, kNot_s, eIf_s, kIf_s, kIf_i, eChain_s, kCh_s, kCh2_s, kCh3_s, evL_0, evL_s, kL_s, kL2_s, eTup_s, eLst_s, eLstR_s, kTup_s, kLst_s, kLstR_s, eCall_s, kCall_s, eFn_s, kFn_s, evO_0, evO_s, kO_s, eSlice_s, kSl_s, kSl2_s, kSl3_s, iSeq_s, kSeq_t, kSeq_l, iRange1_s, kRa_s, iRange2_s, kRb_s, kRb2_s, eComp_s, kCm_s, kCm2_s, eCompR_s, kCmR_s, kCmR2_s, compL_0, compL_s, kCo_s, kCo2_s, kCo3_s, tests_0, tests_s, kTe_s, gT_s, gTs_0, gTs_s, kG_s, gSub_s, kSub_s, kSub2_s, kSub3_s, sNop_s, sSeq_s, sRet_s, kRet_s, kRet_x, sRetN_s, sExpr_s, kEx_s, kEx_x, sAsg_s, kAs_s, kAs_x, kAs2_s, kAs2_x, sIf_s, kSIf_s, kSIf_i, kSIf_x, sFor_s, kFor_s, fnM_s, aft_r, aft_n, aft_x, turn_n, andThen_nx, andThen_rt, andThen_exc, andThen_bk, andThen_ct, add_i, sub_i, mul_i, div_i, mod_i, pow_i, neg_i, lt_i, le_i, gt_i, ge_i, eq_i, ne_i, eq_s, ne_s, isi_ii, isi_bi, isi_ti, isi_tt, isi_it, isi_bt, abs_i, min_i, max_i, int_i, len_t, len_l, list_l, list_t, list_s, tup_l, tup_t, addL, addT, cup_a, cup_b, eRev_s, kRv_s, kRv2_s, kRv2_l, kAg_s, kAg2_s, kPick_s, addI_i, iRange3_s, kRc_s, kRc2_s, iEnum_s, kEnum_t, kEnum_l, ite_i, ite_b, ite_o, isi_bb, isi_ss, kOr_n, maxL_1, maxL_2, maxL_3, minL_2, isN_i, isN_n, isN_t, isnN_i, isnN_n, isnN_t, v0, v1, v2, v3, v4, v5, v6, v7, v8, v9, v10, v11, v12, v13, v14, v15, v16, v17, v18, v19, v20, v21, v22, v23, v24, g0, g1, g2, g3, g4, g5, g6, g7, g8, g9, g10, g11, g12, g13, g14, g15, g16, g17, g18, g19, g20, g21, g22, g23, g24, w0, w1, w2, w3, w4, w5, w6, w7, w8, w9, w10, w11, w12, w13, w14, w15, w16, w17, w18, w19, w20, w21, w22, w23, w24, u0, u1, u2, u3, u4, u5, u6, u7, u8, u9, u10, u11, u12, u13, u14, u15, u16, u17, u18, u19, u20, u21, u22, u23, u24, List.length_cons, List.length_nil, Nat.zero_add, Nat.reduceAdd, Nat.reduceLeDiff, Nat.reduceLT, ↓reduceIte, decide_eq_true_eq, Int.reduceLT, Int.reduceLE, Int.reduceAdd, Int.reduceSub, Int.reduceMul, Int.reduceNeg, Int.reducePow, Int.reduceToNat, Int.reduceMod, Int.reduceDiv, Int.reduceEq, sz, big, lim, and_self, and_true, true_and, or_true, true_or, or_self, Bool.not_true, Bool.not_false, Bool.not_eq_true, Bool.not_eq_true', decide_true, decide_false, Bool.false_eq_true, List.map_cons, List.map_nil, rn0, rn1, rn2, rn3, rn4, rn5, rn6, rn7, rn8, rn9, rn10, rn11, rn12, rn13, rn14, rn15, rn16, rn17, rn18, rn19, rn20, rn21, rn22, rn23, rn24, rn25, rn26, rn27, rn28, rn29, Nat.sub_self, Nat.reduceSub, List.append_nil, List.cons_append, List.nil_append, reduceCtorEq, decide_not, wipeE, rng, ne_eq, not_true_eq_false, not_false_eq_true]
/-- behind octets that come next -/
def ord (g : Go) (os : List Int) : Go := ⟨g.c + os.length, g.w ++ os, g.ps, g.e⟩
theorem order_ok {os : List Int} (h : GoOK st g) (he : g.e = false) (ho : os.length ≤ 400) : f_in_order [goD st g, .tup (os.map .int)] s = .ok (goD st (ord g os)) s := by
  have hw := h.hw.2
  have lo : ((os.map D.int).length : Int) = (os.length : Int) := by rw [List.length_map]
  have pl := fun s => plus_num (st := st) (a := g.c) (b := (os.length : Int)) (s := s) (by omega)
  have ad := addO (xs := g.w) (ys := os) (by omega)
  have e2 : goD st (ord g os) = .tup [.int (num st ((g.c : Int) + (os.length : Int))), .tup ((g.w ++ os).map .int), .tup (g.ps.map (pcD st)), .bl false] := by
    rw [goD_f (g := ord g os) he]; unfold ord; rw [Int.natCast_add]
  rw [goD_f he, e2]
  generalize (g.w ++ os).map D.int = WO at *
  generalize g.w.map D.int = WM at *
  generalize g.ps.map (pcD st) = PM at *
  generalize os.map D.int = OM at *
  simp -implicitDefEqProofs only [f_in_order, sh_in_order, S_in_order_1, S_in_order_2, lo, pl, ad, eC_s, eUn_s, kUn_s, eOp_s, kOp_s, kOp2_s, ofO_s, eAnd_s, kAnd_s, eOr_s, kOr_s, eNot_s, kNot_s, eIf_s, kIf_s, kIf_i, eChain_s, kCh_s, kCh2_s, kCh3_s, evL_0, evL_s, kL_s, kL2_s, eTup_s, eLst_s, eLstR_s, kTup_s, kLst_s, kLstR_s, eCall_s, kCall_s, eFn_s, kFn_s, evO_0, evO_s, kO_s, eSlice_s, kSl_s, kSl2_s, kSl3_s, iSeq_s, kSeq_t, kSeq_l, iRange1_s, kRa_s, iRange2_s, kRb_s, kRb2_s, eComp_s, kCm_s, kCm2_s, eCompR_s, kCmR_s, kCmR2_s, compL_0, compL_s, kCo_s, kCo2_s, kCo3_s, tests_0, tests_s, kTe_s, gT_s, gTs_0, gTs_s, kG_s, gSub_s, kSub_s, kSub2_s, kSub3_s, sNop_s, sSeq_s, sRet_s, kRet_s, kRet_x, sRetN_s, sExpr_s, kEx_s, kEx_x, sAsg_s, kAs_s, kAs_x, kAs2_s, kAs2_x, sIf_s, kSIf_s, kSIf_i, kSIf_x, sFor_s, kFor_s, fnM_s, aft_r, aft_n, aft_x, turn_n, andThen_nx, andThen_rt, andThen_exc, andThen_bk, andThen_ct, add_i, sub_i, mul_i, div_i, mod_i, pow_i, neg_i, lt_i, le_i, gt_i, ge_i, eq_i, ne_i, eq_s, ne_s, isi_ii, isi_bi, isi_ti, isi_tt, isi_it, isi_bt, abs_i, min_i, max_i, int_i, len_t, len_l, list_l, list_t, list_s, tup_l, tup_t, cup_a, cup_b, eRev_s, kRv_s, kRv2_s, kRv2_l, kAg_s, kAg2_s, kPick_s, addI_i, iRange3_s, kRc_s, kRc2_s, iEnum_s, kEnum_t, kEnum_l, ite_i, ite_b, ite_o, isi_bb, isi_ss, kOr_n, maxL_1, maxL_2, maxL_3, minL_2, isN_i, isN_n, isN_t, isnN_i, isnN_n, isnN_t, v0, v1, v2, v3, v4, v5, v6, v7, v8, v9, v10, v11, v12, v13, v14, v15, v16, v17, v18, v19, v20, v21, v22, v23, v24, g0, g1, g2, g3, g4, g5, g6, g7, g8, g9, g10, g11, g12, g13, g14, g15, g16, g17, g18, g19, g20, g21, g22, g23, g24, w0, w1, w2, w3, w4, w5, w6, w7, w8, w9, w10, w11, w12, w13, w14, w15, w16, w17, w18, w19, w20, w21, w22, w23, w24, u0, u1, u2, u3, u4, u5, u6, u7, u8, u9, u10, u11, u12, u13, u14, u15, u16, u17, u18, u19, u20, u21, u22, u23, u24, List.length_cons, List.length_nil, Nat.zero_add, Nat.reduceAdd, Nat.reduceLeDiff, Nat.reduceLT, ↓reduceIte, decide_eq_true_eq, Int.reduceLT, Int.reduceLE, Int.reduceAdd, Int.reduceSub, Int.reduceMul, Int.reduceNeg, Int.reducePow, Int.reduceToNat, Int.reduceMod, Int.reduceDiv, Int.reduceEq, sz, big, lim, and_self, and_true, true_and, or_true, true_or, or_self, Bool.not_true, Bool.not_false, Bool.not_eq_true, Bool.not_eq_true', decide_true, decide_false, Bool.false_eq_true, List.map_cons, List.map_nil, rn0, rn1, rn2, rn3, rn4, rn5, rn6, rn7, rn8, rn9, rn10, rn11, rn12, rn13, rn14, rn15, rn16, rn17, rn18, rn19, rn20, rn21, rn22, rn23, rn24, rn25, rn26, rn27, rn28, rn29, Nat.sub_self, Nat.reduceSub, List.append_nil, List.cons_append, List.nil_append, reduceCtorEq, decide_not, wipeE, rng, ne_eq, not_true_eq_false, not_false_eq_true]
/-- the place of the piece whose turn it is -/
theorem place_ok (h : GoOK st g) (he : g.e = false) : ((∀ p ∈ g.ps, g.c < p.1) ∧ ∀ s, f_place_of_first [goD st g] s = .ok .non s) ∨ ∃ (i : Nat) (p : Pc), g.ps[i]? = some p ∧ p.1 ≤ g.c ∧ ∀ s, f_place_of_first [goD st g] s = .ok (.int (i : Int)) s := by
  have hc := h.hc
  have hn := h.hn
  have i0 : ∀ s, dItem s (goD st g) (.int 0) = some (.int (num st g.c)) := fun s => by rw [goD_f he]; rfl
  have i2 : ∀ s, dItem s (goD st g) (.int 2) = some (.tup (g.ps.map (pcD st))) := fun s => rfl
  obtain ⟨X, hX⟩ : ∃ X : List (Int × Int), X = g.ps.zipIdx.map fun q => ((q.1.1 : Int) - g.c, (q.2 : Int)) := ⟨_, rfl⟩
  have lX : X.length = g.ps.length := by rw [hX, List.length_map, List.length_zipIdx]
  have atX : ∀ x ∈ X, ∃ (i : Nat) (p : Pc), g.ps[i]? = some p ∧ x = ((p.1 : Int) - g.c, (i : Int)) := fun x m => by
    rw [hX] at m
    obtain ⟨⟨p, i⟩, m', rfl⟩ := List.mem_map.mp m
    refine ⟨i, p, ?_, rfl⟩
    have := List.mem_zipIdx_iff_getElem?.mp m'
    exact this
  have inX : ∀ (i : Nat) (p : Pc), g.ps[i]? = some p → ((p.1 : Int) - g.c, (i : Int)) ∈ X := fun i p hh => by
    rw [hX]
    exact List.mem_map.mpr ⟨(p, i), List.mem_zipIdx_iff_getElem?.mpr hh, rfl⟩
  have nearX : ∀ x ∈ X, (-hug < x.1 ∧ x.1 < hug) ∧ (-hug < x.2 ∧ x.2 < hug) := fun x m => by
    obtain ⟨i, p, hh, rfl⟩ := atX x m
    have q := (h.hp p (List.mem_of_getElem? hh)).1
    have q2 := (List.getElem?_eq_some_iff.mp hh).1
    unfold hug
    dsimp only
    omega
  have c1 : ∀ s, compL (gT [(gN 3), (gT [(gN 5), (gN 6)])]) [] (eTup [(eFn f_ring_gap [(eOp dItem (eVar 0) (eC (.int 0))), (eVar 5)]), (eVar 3)]) [some (goD st g), none, none, none, none, none, none] (enumF 0 (g.ps.map (pcD st))) [] s = .ok (X.map Mn.prD) s := fun s => by
    rw [enum_map]
    have := comp_g (tg := gT [(gN 3), (gT [(gN 5), (gN 6)])]) (elt := (eTup [(eFn f_ring_gap [(eOp dItem (eVar 0) (eC (.int 0))), (eVar 5)]), (eVar 3)])) (σ := [some (goD st g), none, none, none, none, none, none]) (s := s) (g := fun q : Pc × Nat => D.tup [.int ((q.2 : Nat) : Int), pcD st q.1]) (h := fun q : Pc × Nat => Mn.prD ((q.1.1 : Int) - g.c, (q.2 : Int))) (L := g.ps.zipIdx) (acc := []) (fun q m => by
      have mq := List.mem_zipIdx_iff_getElem?.mp m
      have qo := (h.hp q.1 (List.mem_of_getElem? mq)).1
      have gp := fun s => gap_num (st := st) (a := g.c) (b := q.1.1) (s := s) (by omega)
      refine ⟨[some (goD st g), none, none, some (.int (q.2 : Int)), none, some (.int (num st q.1.1)), some (.tup (q.1.2.map .int))], rfl, ?_⟩
      generalize goD st g = G at *
      generalize D.tup (q.1.2.map .int) = Q2 at *
      unfold Mn.prD
      simp -implicitDefEqProofs only [i0, gp, eC_s, eUn_s, kUn_s, eOp_s, kOp_s, kOp2_s, ofO_s, eAnd_s, kAnd_s, eOr_s, kOr_s, eNot_s, kNot_s, eIf_s, kIf_s, kIf_i, eChain_s, kCh_s, kCh2_s, kCh3_s, evL_0, evL_s, kL_s, kL2_s, eTup_s, eLst_s, eLstR_s, kTup_s, kLst_s, kLstR_s, eCall_s, kCall_s, eFn_s, kFn_s, evO_0, evO_s, kO_s, eSlice_s, kSl_s, kSl2_s, kSl3_s, iSeq_s, kSeq_t, kSeq_l, iRange1_s, kRa_s, iRange2_s, kRb_s, kRb2_s, eComp_s, kCm_s, kCm2_s, eCompR_s, kCmR_s, kCmR2_s, compL_0, compL_s, kCo_s, kCo2_s, kCo3_s, tests_0, tests_s, kTe_s, gT_s, gTs_0, gTs_s, kG_s, gSub_s, kSub_s, kSub2_s, kSub3_s, sNop_s, sSeq_s, sRet_s, kRet_s, kRet_x, sRetN_s, sExpr_s, kEx_s, kEx_x, sAsg_s, kAs_s, kAs_x, kAs2_s, kAs2_x, sIf_s, kSIf_s, kSIf_i, kSIf_x, sFor_s, kFor_s, fnM_s, aft_r, aft_n, aft_x, turn_n, andThen_nx, andThen_rt, andThen_exc, andThen_bk, andThen_ct, add_i, sub_i, mul_i, div_i, mod_i, pow_i, neg_i, lt_i, le_i, gt_i, ge_i, eq_i, ne_i, eq_s, ne_s, isi_ii, isi_bi, isi_ti, isi_tt, isi_it, isi_bt, abs_i, min_i, max_i, int_i, len_t, len_l, list_l, list_t, list_s, tup_l, tup_t, addL, addT, cup_a, cup_b, eRev_s, kRv_s, kRv2_s, kRv2_l, kAg_s, kAg2_s, kPick_s, addI_i, iRange3_s, kRc_s, kRc2_s, iEnum_s, kEnum_t, kEnum_l, ite_i, ite_b, ite_o, isi_bb, isi_ss, kOr_n, maxL_1, maxL_2, maxL_3, minL_2, isN_i, isN_n, isN_t, isnN_i, isnN_n, isnN_t, v0, v1, v2, v3, v4, v5, v6, v7, v8, v9, v10, v11, v12, v13, v14, v15, v16, v17, v18, v19, v20, v21, v22, v23, v24, g0, g1, g2, g3, g4, g5, g6, g7, g8, g9, g10, g11, g12, g13, g14, g15, g16, g17, g18, g19, g20, g21, g22, g23, g24, w0, w1, w2, w3, w4, w5, w6, w7, w8, w9, w10, w11, w12, w13, w14, w15, w16, w17, w18, w19, w20, w21, w22, w23, w24, u0, u1, u2, u3, u4, u5, u6, u7, u8, u9, u10, u11, u12, u13, u14, u15, u16, u17, u18, u19, u20, u21, u22, u23, u24, List.length_cons, List.length_nil, Nat.zero_add, Nat.reduceAdd, Nat.reduceLeDiff, Nat.reduceLT, ↓reduceIte, decide_eq_true_eq, Int.reduceLT, Int.reduceLE, Int.reduceAdd, Int.reduceSub, Int.reduceMul, Int.reduceNeg, Int.reducePow, Int.reduceToNat, Int.reduceMod, Int.reduceDiv, Int.reduceEq, sz, big, lim, and_self, and_true, true_and, or_true, true_or, or_self, Bool.not_true, Bool.not_false, Bool.not_eq_true, Bool.not_eq_true', decide_true, decide_false, Bool.false_eq_true, List.map_cons, List.map_nil, rn0, rn1, rn2, rn3, rn4, rn5, rn6, rn7, rn8, rn9, rn10, rn11, rn12, rn13, rn14, rn15, rn16, rn17, rn18, rn19, rn20, rn21, rn22, rn23, rn24, rn25, rn26, rn27, rn28, rn29, Nat.sub_self, Nat.reduceSub, List.append_nil, List.cons_append, List.nil_append, reduceCtorEq, decide_not, wipeE, rng, ne_eq, not_true_eq_false, not_false_eq_true]) (by rw [List.length_zipIdx]; simp [sz]; omega)
    rw [this, hX, List.map_map]; rfl
  have c2 : ∀ s, compL (gN 4) [(eOp dLe (eOp dItem (eVar 4) (eC (.int 0))) (eC (.int 0)))] (eVar 4) [some (goD st g), some (.lst (X.map Mn.prD)), none, none, none, none, none] (X.map Mn.prD) [] s = .ok ((X.filter fun x => decide (x.1 ≤ 0)).map Mn.prD) s := fun s => by
    have := comp_gf (tg := gN 4) (c := (eOp dLe (eOp dItem (eVar 4) (eC (.int 0))) (eC (.int 0)))) (elt := eVar 4) (σ := [some (goD st g), some (.lst (X.map Mn.prD)), none, none, none, none, none]) (s := s) (g := Mn.prD) (h := Mn.prD) (P := fun x => decide (x.1 ≤ 0)) (L := X) (acc := []) (fun q m => by
      refine ⟨[some (goD st g), some (.lst (X.map Mn.prD)), none, none, some (Mn.prD q), none, none], rfl, ?_, rfl⟩
      have iq : ∀ s, dItem s (Mn.prD q) (.int 0) = some (.int q.1) := fun s => rfl
      generalize Mn.prD q = PQ at *
      generalize X.map Mn.prD = XM at *
      generalize goD st g = G at *
      simp -implicitDefEqProofs only [iq, eC_s, eUn_s, kUn_s, eOp_s, kOp_s, kOp2_s, ofO_s, eAnd_s, kAnd_s, eOr_s, kOr_s, eNot_s, kNot_s, eIf_s, kIf_s, kIf_i, eChain_s, kCh_s, kCh2_s, kCh3_s, evL_0, evL_s, kL_s, kL2_s, eTup_s, eLst_s, eLstR_s, kTup_s, kLst_s, kLstR_s, eCall_s, kCall_s, eFn_s, kFn_s, evO_0, evO_s, kO_s, eSlice_s, kSl_s, kSl2_s, kSl3_s, iSeq_s, kSeq_t, kSeq_l, iRange1_s, kRa_s, iRange2_s, kRb_s, kRb2_s, eComp_s, kCm_s, kCm2_s, eCompR_s, kCmR_s, kCmR2_s, compL_0, compL_s, kCo_s, kCo2_s, kCo3_s, tests_0, tests_s, kTe_s, gT_s, gTs_0, gTs_s, kG_s, gSub_s, kSub_s, kSub2_s, kSub3_s, sNop_s, sSeq_s, sRet_s, kRet_s, kRet_x, sRetN_s, sExpr_s, kEx_s, kEx_x, sAsg_s, kAs_s, kAs_x, kAs2_s, kAs2_x, sIf_s, kSIf_s, kSIf_i, kSIf_x, sFor_s, kFor_s, fnM_s, aft_r, aft_n, aft_x, turn_n, andThen_nx, andThen_rt, andThen_exc, andThen_bk, andThen_ct, add_i, sub_i, mul_i, div_i, mod_i, pow_i, neg_i, lt_i, le_i, gt_i, ge_i, eq_i, ne_i, eq_s, ne_s, isi_ii, isi_bi, isi_ti, isi_tt, isi_it, isi_bt, abs_i, min_i, max_i, int_i, len_t, len_l, list_l, list_t, list_s, tup_l, tup_t, addL, addT, cup_a, cup_b, eRev_s, kRv_s, kRv2_s, kRv2_l, kAg_s, kAg2_s, kPick_s, addI_i, iRange3_s, kRc_s, kRc2_s, iEnum_s, kEnum_t, kEnum_l, ite_i, ite_b, ite_o, isi_bb, isi_ss, kOr_n, maxL_1, maxL_2, maxL_3, minL_2, isN_i, isN_n, isN_t, isnN_i, isnN_n, isnN_t, v0, v1, v2, v3, v4, v5, v6, v7, v8, v9, v10, v11, v12, v13, v14, v15, v16, v17, v18, v19, v20, v21, v22, v23, v24, g0, g1, g2, g3, g4, g5, g6, g7, g8, g9, g10, g11, g12, g13, g14, g15, g16, g17, g18, g19, g20, g21, g22, g23, g24, w0, w1, w2, w3, w4, w5, w6, w7, w8, w9, w10, w11, w12, w13, w14, w15, w16, w17, w18, w19, w20, w21, w22, w23, w24, u0, u1, u2, u3, u4, u5, u6, u7, u8, u9, u10, u11, u12, u13, u14, u15, u16, u17, u18, u19, u20, u21, u22, u23, u24, List.length_cons, List.length_nil, Nat.zero_add, Nat.reduceAdd, Nat.reduceLeDiff, Nat.reduceLT, ↓reduceIte, decide_eq_true_eq, Int.reduceLT, Int.reduceLE, Int.reduceAdd, Int.reduceSub, Int.reduceMul, Int.reduceNeg, Int.reducePow, Int.reduceToNat, Int.reduceMod, Int.reduceDiv, Int.reduceEq, sz, big, lim, and_self, and_true, true_and, or_true, true_or, or_self, Bool.not_true, Bool.not_false, Bool.not_eq_true, Bool.not_eq_true', decide_true, decide_false, Bool.false_eq_true, List.map_cons, List.map_nil, rn0, rn1, rn2, rn3, rn4, rn5, rn6, rn7, rn8, rn9, rn10, rn11, rn12, rn13, rn14, rn15, rn16, rn17, rn18, rn19, rn20, rn21, rn22, rn23, rn24, rn25, rn26, rn27, rn28, rn29, Nat.sub_self, Nat.reduceSub, List.append_nil, List.cons_append, List.nil_append, reduceCtorEq, decide_not, wipeE, rng, ne_eq, not_true_eq_false, not_false_eq_true]) (by simp [sz]; omega)
    rw [this, List.nil_append]
  obtain ⟨F, hF⟩ : ∃ F, F = X.filter fun x => decide (x.1 ≤ 0) := ⟨_, rfl⟩
  have so := fun s => sort_prs (X := F) (s := s)
  obtain ⟨T, hT⟩ : ∃ T, T = sortP F := ⟨_, rfl⟩
  have mT : ∀ x, x ∈ T ↔ x ∈ F := fun x => by rw [hT]; exact sort_mem
  have mF : ∀ x, x ∈ F ↔ x ∈ X ∧ x.1 ≤ 0 := fun x => by rw [hF, List.mem_filter, decide_eq_true_eq]
  have ne := fun s => ne_nilL (s := s) (ds := T.map Mn.prD) (okRs_prs fun x m => nearX x ((mF x).mp ((mT x).mp m)).1) (Nat.le_trans deps_prs (by decide))
  rw [← hF] at c2
  rw [← hT] at so
  by_cases hTT : T = []
  · refine .inl ⟨fun p m => ?_, fun s => ?_⟩
    · obtain ⟨i, hi, e⟩ := List.getElem_of_mem m
      have hh : g.ps[i]? = some p := List.getElem?_eq_some_iff.mpr ⟨hi, e⟩
      have hx := inX i p hh
      refine Nat.lt_of_not_le fun hle => ?_
      have : ((p.1 : Int) - g.c, (i : Int)) ∈ T := (mT _).mpr ((mF _).mpr ⟨hx, by dsimp only; omega⟩)
      rw [hTT] at this
      exact absurd this (List.not_mem_nil)
    · have e0 : (T.map Mn.prD).isEmpty = true := by rw [hTT]; rfl
      generalize T.map Mn.prD = TM at *
      generalize F.map Mn.prD = FM at *
      generalize X.map Mn.prD = XM at *
      generalize g.ps.map (pcD st) = PM at *
      generalize goD st g = G at *
      simp -implicitDefEqProofs only [f_place_of_first, sh_place_of_first, S_place_of_first_1, S_place_of_first_2, S_place_of_first_3, i2, c1, c2, so, ne, e0, eC_s, eUn_s, kUn_s, eOp_s, kOp_s, kOp2_s, ofO_s, eAnd_s, kAnd_s, eOr_s, kOr_s, eNot_s, kNot_s, eIf_s, kIf_s, kIf_i, eChain_s, kCh_s, kCh2_s, kCh3_s, evL_0, evL_s, kL_s, kL2_s, eTup_s, eLst_s, eLstR_s, kTup_s, kLst_s, kLstR_s, eCall_s, kCall_s, eFn_s, kFn_s, evO_0, evO_s, kO_s, eSlice_s, kSl_s, kSl2_s, kSl3_s, iSeq_s, kSeq_t, kSeq_l, iRange1_s, kRa_s, iRange2_s, kRb_s, kRb2_s, eComp_s, kCm_s, kCm2_s, eCompR_s, kCmR_s, kCmR2_s, compL_0, compL_s, kCo_s, kCo2_s, kCo3_s, tests_0, tests_s, kTe_s, gT_s, gTs_0, gTs_s, kG_s, gSub_s, kSub_s, kSub2_s, kSub3_s, sNop_s, sSeq_s, sRet_s, kRet_s, kRet_x, sRetN_s, sExpr_s, kEx_s, kEx_x, sAsg_s, kAs_s, kAs_x, kAs2_s, kAs2_x, sIf_s, kSIf_s, kSIf_i, kSIf_x, sFor_s, kFor_s, fnM_s, aft_r, aft_n, aft_x, turn_n, andThen_nx, andThen_rt, andThen_exc, andThen_bk, andThen_ct, add_i, sub_i, mul_i, div_i, mod_i, pow_i, neg_i, lt_i, le_i, gt_i, ge_i, eq_i, ne_i, eq_s, ne_s, isi_ii, isi_bi, isi_ti, isi_tt, isi_it, isi_bt, abs_i, min_i, max_i, int_i, len_t, len_l, list_l, list_t, list_s, tup_l, tup_t, addL, addT, cup_a, cup_b, eRev_s, kRv_s, kRv2_s, kRv2_l, kAg_s, kAg2_s, kPick_s, addI_i, iRange3_s, kRc_s, kRc2_s, iEnum_s, kEnum_t, kEnum_l, ite_i, ite_b, ite_o, isi_bb, isi_ss, kOr_n, maxL_1, maxL_2, maxL_3, minL_2, isN_i, isN_n, isN_t, isnN_i, isnN_n, isnN_t, v0, v1, v2, v3, v4, v5, v6, v7, v8, v9, v10, v11, v12, v13, v14, v15, v16, v17, v18, v19, v20, v21, v22, v23, v24, g0, g1, g2, g3, g4, g5, g6, g7, g8, g9, g10, g11, g12, g13, g14, g15, g16, g17, g18, g19, g20, g21, g22, g23, g24, w0, w1, w2, w3, w4, w5, w6, w7, w8, w9, w10, w11, w12, w13, w14, w15, w16, w17, w18, w19, w20, w21, w22, w23, w24, u0, u1, u2, u3, u4, u5, u6, u7, u8, u9, u10, u11, u12, u13, u14, u15, u16, u17, u18, u19, u20, u21, u22, u23, u24, List.length_cons, List.length_nil, Nat.zero_add, Nat.reduceAdd, Nat.reduceLeDiff, Nat.reduceLT, ↓reduceIte, decide_eq_true_eq, Int.reduceLT, Int.reduceLE, Int.reduceAdd, Int.reduceSub, Int.reduceMul, Int.reduceNeg, Int.reducePow, Int.reduceToNat, Int.reduceMod, Int.reduceDiv, Int.reduceEq, sz, big, lim, and_self, and_true, true_and, or_true, true_or, or_self, Bool.not_true, Bool.not_false, Bool.not_eq_true, Bool.not_eq_true', decide_true, decide_false, Bool.false_eq_true, List.map_cons, List.map_nil, rn0, rn1, rn2, rn3, rn4, rn5, rn6, rn7, rn8, rn9, rn10, rn11, rn12, rn13, rn14, rn15, rn16, rn17, rn18, rn19, rn20, rn21, rn22, rn23, rn24, rn25, rn26, rn27, rn28, rn29, Nat.sub_self, Nat.reduceSub, List.append_nil, List.cons_append, List.nil_append, reduceCtorEq, decide_not, wipeE, rng, ne_eq, not_true_eq_false, not_false_eq_true]
  · obtain ⟨y, r, hy⟩ := List.exists_cons_of_ne_nil hTT
    have my : y ∈ X ∧ y.1 ≤ 0 := (mF y).mp ((mT y).mp (by rw [hy]; exact List.mem_cons_self))
    obtain ⟨i, p, hh, ey⟩ := atX y my.1
    refine .inr ⟨i, p, hh, by have := my.2; rw [ey] at this; dsimp only at this; omega, fun s => ?_⟩
    have e0 : (T.map Mn.prD).isEmpty = false := by rw [hy]; rfl
    have e1 : ∀ s, dItem s (.lst (T.map Mn.prD)) (.int 0) = some (Mn.prD y) := fun s => by rw [hy]; exact item_l.trans (at_0 _ _)
    have e2 : ∀ s, dItem s (Mn.prD y) (.int 1) = some (.int (i : Int)) := fun s => by rw [ey]; rfl
    generalize Mn.prD y = PY at *
    generalize T.map Mn.prD = TM at *
    generalize F.map Mn.prD = FM at *
    generalize X.map Mn.prD = XM at *
    generalize g.ps.map (pcD st) = PM at *
    generalize goD st g = G at *
    simp -implicitDefEqProofs only [f_place_of_first, sh_place_of_first, S_place_of_first_1, S_place_of_first_2, S_place_of_first_3, i2, c1, c2, so, ne, e0, e1, e2, eC_s, eUn_s, kUn_s, eOp_s, kOp_s, kOp2_s, ofO_s, eAnd_s, kAnd_s, eOr_s, kOr_s, eNot_s, kNot_s, eIf_s, kIf_s, kIf_i, eChain_s, kCh_s, kCh2_s, kCh3_s, evL_0, evL_s, kL_s, kL2_s, eTup_s, eLst_s, eLstR_s, kTup_s, kLst_s, kLstR_s, eCall_s, kCall_s, eFn_s, kFn_s, evO_0, evO_s, kO_s, eSlice_s, kSl_s, kSl2_s, kSl3_s, iSeq_s, kSeq_t, kSeq_l, iRange1_s, kRa_s, iRange2_s, kRb_s, kRb2_s, eComp_s, kCm_s, kCm2_s, eCompR_s, kCmR_s, kCmR2_s, compL_0, compL_s, kCo_s, kCo2_s, kCo3_s, tests_0, tests_s, kTe_s, gT_s, gTs_0, gTs_s, kG_s, gSub_s, kSub_s, kSub2_s, kSub3_s, sNop_s, sSeq_s, sRet_s, kRet_s, kRet_x, sRetN_s, sExpr_s, kEx_s, kEx_x, sAsg_s, kAs_s, kAs_x, kAs2_s, kAs2_x, sIf_s, kSIf_s, kSIf_i, kSIf_x, sFor_s, kFor_s, fnM_s, aft_r, aft_n, aft_x, turn_n, andThen_nx, andThen_rt, andThen_exc, andThen_bk, andThen_ct, add_i, sub_i, mul_i, div_i, mod_i, pow_i, neg_i, lt_i, le_i, gt_i, ge_i, eq_i, ne_i, eq_s, ne_s, isi_ii, isi_bi, isi_ti, isi_tt, isi_it, isi_bt, abs_i, min_i, max_i, int_i, len_t, len_l, list_l, list_t, list_s, tup_l, tup_t, addL, addT, cup_a, cup_b, eRev_s, kRv_s, kRv2_s, kRv2_l, kAg_s, kAg2_s, kPick_s, addI_i, iRange3_s, kRc_s, kRc2_s, iEnum_s, kEnum_t, kEnum_l, ite_i, ite_b, ite_o, isi_bb, isi_ss, kOr_n, maxL_1, maxL_2, maxL_3, minL_2, isN_i, isN_n, isN_t, isnN_i, isnN_n, isnN_t, v0, v1, v2, v3, v4, v5, v6, v7, v8, v9, v10, v11, v12, v13, v14, v15, v16, v17, v18, v19, v20, v21, v22, v23, v24, g0, g1, g2, g3, g4, g5, g6, g7, g8, g9, g10, g11, g12, g13, g14, g15, g16, g17, g18, g19, g20, g21, g22, g23, g24, w0, w1, w2, w3, w4, w5, w6, w7, w8, w9, w10, w11, w12, w13, w14, w15, w16, w17, w18, w19, w20, w21, w22, w23, w24, u0, u1, u2, u3, u4, u5, u6, u7, u8, u9, u10, u11, u12, u13, u14, u15, u16, u17, u18, u19, u20, u21, u22, u23, u24, List.length_cons, List.length_nil, Nat.zero_add, Nat.reduceAdd, Nat.reduceLeDiff, Nat.reduceLT, ↓reduceIte, decide_eq_true_eq, Int.reduceLT, Int.reduceLE, Int.reduceAdd, Int.reduceSub, Int.reduceMul, Int.reduceNeg, Int.reducePow, Int.reduceToNat, Int.reduceMod, Int.reduceDiv, Int.reduceEq, sz, big, lim, and_self, and_true, true_and, or_true, true_or, or_self, Bool.not_true, Bool.not_false, Bool.not_eq_true, Bool.not_eq_true', decide_true, decide_false, Bool.false_eq_true, List.map_cons, List.map_nil, rn0, rn1, rn2, rn3, rn4, rn5, rn6, rn7, rn8, rn9, rn10, rn11, rn12, rn13, rn14, rn15, rn16, rn17, rn18, rn19, rn20, rn21, rn22, rn23, rn24, rn25, rn26, rn27, rn28, rn29, Nat.sub_self, Nat.reduceSub, List.append_nil, List.cons_append, List.nil_append, reduceCtorEq, decide_not, wipeE, rng, ne_eq, not_true_eq_false, not_false_eq_true]
def stepG (g : Go) (i : Nat) (p : Pc) : Go := ord ⟨g.c, g.w, g.ps.eraseIdx i, g.e⟩ (cnt g p.1 p.2)
abbrev PWC : E := (eOp dIsNot (eVar 1) (eC .non))
/-- a turn of with_pieces -/
theorem wturn {i : Nat} {p : Pc} {x1 x2 x3 x4 x5 x6 x7 : Option D} {av : D} (h : GoOK st g) (he : g.e = false) (hi : g.ps[i]? = some p) (hp : p.1 ≤ g.c) (hav : ∀ s, f_place_of_first [goD st (stepG g i p)] s = .ok av s) :
    ∃ y2 y3 y4 y5 y6 y7, B_with_pieces_2 [some (goD st g), some (.int (i : Int)), x2, x3, x4, x5, x6, x7] s = .nx [some (goD st (stepG g i p)), some av, y2, y3, y4, y5, y6, y7] s := by
  have hn := h.hn
  have hc := h.hc
  obtain ⟨hil, hie⟩ := List.getElem?_eq_some_iff.mp hi
  have qp := h.hp p (List.mem_of_getElem? hi)
  have ct := fun s => count_ok (s := s) (os := p.2) (a := p.1) h he qp.1
  have cl : (cnt g p.1 p.2).length ≤ 400 := by unfold cnt; rw [List.length_take, List.length_drop]; omega
  have h' : GoOK st ⟨g.c, g.w, g.ps.eraseIdx i, g.e⟩ := ⟨h.hs, hc, h.hw, fun q m => h.hp q (List.mem_of_mem_eraseIdx m), by have := List.length_eraseIdx_le g.ps i; show (g.ps.eraseIdx i).length ≤ 6; omega⟩
  have od := fun s => order_ok (s := s) (os := cnt g p.1 p.2) h' he cl
  rw [goD_f (g := ⟨g.c, g.w, g.ps.eraseIdx i, g.e⟩) he] at od
  have it : ∀ s, dItem s (.tup (g.ps.map (pcD st))) (.int (i : Int)) = some (.tup [.int (num st p.1), .tup (p.2.map .int)]) := fun s => by
    refine item_t.trans (at_nat ?_)
    rw [List.getElem?_map, hi]; rfl
  have sa : ∀ s, dSlice s (.tup (g.ps.map (pcD st))) none (some (i : Int)) = some (.tup ((g.ps.take i).map (pcD st))) := fun s => by
    rw [List.map_take]
    exact sl_to (by omega)
  have sb : ∀ s, dSlice s (.tup (g.ps.map (pcD st))) (some ((i : Int) + 1)) none = some (.tup ((g.ps.drop (i + 1)).map (pcD st))) := fun s => by
    rw [List.map_drop]
    exact sl_from (by omega)
  have ad : ∀ s, dAdd s (.tup ((g.ps.take i).map (pcD st))) (.tup ((g.ps.drop (i + 1)).map (pcD st))) = some (.tup ((g.ps.eraseIdx i).map (pcD st))) := fun s => by
    rw [addT, if_pos (by simp [sz]; omega), ← List.map_append, List.eraseIdx_eq_take_drop_succ]
  have gt : ∀ a b c d x0 x1 x2 x3 x4 x5 x6 x7 s, gT [(gN 2), (gN 3), (gN 4), (gN 5)] (.tup [a, b, c, d]) [x0, x1, x2, x3, x4, x5, x6, x7] s = .ok [x0, x1, some a, some b, some c, some d, x6, x7] s := fun a b c d x0 x1 x2 x3 x4 x5 x6 x7 s => rfl
  have ge := goD_f (st := st) he
  have hav' : ∀ s, f_place_of_first [goD st (ord ⟨g.c, g.w, g.ps.eraseIdx i, g.e⟩ (cnt g p.1 p.2))] s = .ok av s := hav
  refine ⟨some (.int (num st g.c)), some (.tup (g.w.map .int)), some (.tup (g.ps.map (pcD st))), some (.bl false), some (.int (num st p.1)), some (.tup (p.2.map .int)), ?_⟩
  show _ = SR.nx [some (goD st (ord ⟨g.c, g.w, g.ps.eraseIdx i, g.e⟩ (cnt g p.1 p.2))), some av, _, _, _, _, _, _] s
  have cg : ∀ s, f_that_count [.tup [.int (num st g.c), .tup (g.w.map .int), .tup (g.ps.map (pcD st)), .bl false], .int (num st p.1), .tup (p.2.map .int)] s = .ok (.tup ((cnt g p.1 p.2).map .int)) s := fun s => by rw [← ge]; exact ct s
  rw [ge]
  generalize goD st (ord ⟨g.c, g.w, g.ps.eraseIdx i, g.e⟩ (cnt g p.1 p.2)) = G2 at *
  generalize (cnt g p.1 p.2).map D.int = CM at *
  generalize g.w.map D.int = WM at *
  generalize (g.ps.take i).map (pcD st) = P1 at *
  generalize (g.ps.drop (i + 1)).map (pcD st) = P2 at *
  generalize (g.ps.eraseIdx i).map (pcD st) = P3 at *
  generalize g.ps.map (pcD st) = PM at *
  generalize p.2.map D.int = OM at *
  simp -implicitDefEqProofs only [S_with_pieces_3, S_with_pieces_4, S_with_pieces_5, S_with_pieces_6, B_with_pieces_2, it, sa, sb, ad, od, cg, hav', eC_s, eUn_s, kUn_s, eOp_s, kOp_s, kOp2_s, ofO_s, eAnd_s, kAnd_s, eOr_s, kOr_s, eNot_s, kNot_s, eIf_s, kIf_s, kIf_i, eChain_s, kCh_s, kCh2_s, kCh3_s, evL_0, evL_s, kL_s, kL2_s, eTup_s, eLst_s, eLstR_s, kTup_s, kLst_s, kLstR_s, eCall_s, kCall_s, eFn_s, kFn_s, evO_0, evO_s, kO_s, eSlice_s, kSl_s, kSl2_s, kSl3_s, iSeq_s, kSeq_t, kSeq_l, iRange1_s, kRa_s, iRange2_s, kRb_s, kRb2_s, eComp_s, kCm_s, kCm2_s, eCompR_s, kCmR_s, kCmR2_s, compL_0, compL_s, kCo_s, kCo2_s, kCo3_s, tests_0, tests_s, kTe_s, gT_s, gTs_0, gTs_s, kG_s, gSub_s, kSub_s, kSub2_s, kSub3_s, sNop_s, sSeq_s, sRet_s, kRet_s, kRet_x, sRetN_s, sExpr_s, kEx_s, kEx_x, sAsg_s, kAs_s, kAs_x, kAs2_s, kAs2_x, sIf_s, kSIf_s, kSIf_i, kSIf_x, sFor_s, kFor_s, fnM_s, aft_r, aft_n, aft_x, turn_n, andThen_nx, andThen_rt, andThen_exc, andThen_bk, andThen_ct, add_i, sub_i, mul_i, div_i, mod_i, pow_i, neg_i, lt_i, le_i, gt_i, ge_i, eq_i, ne_i, eq_s, ne_s, isi_ii, isi_bi, isi_ti, isi_tt, isi_it, isi_bt, abs_i, min_i, max_i, int_i, len_t, len_l, list_l, list_t, list_s, tup_l, tup_t, cup_a, cup_b, eRev_s, kRv_s, kRv2_s, kRv2_l, kAg_s, kAg2_s, kPick_s, addI_i, iRange3_s, kRc_s, kRc2_s, iEnum_s, kEnum_t, kEnum_l, ite_i, ite_b, ite_o, isi_bb, isi_ss, kOr_n, maxL_1, maxL_2, maxL_3, minL_2, isN_i, isN_n, isN_t, isnN_i, isnN_n, isnN_t, v0, v1, v2, v3, v4, v5, v6, v7, v8, v9, v10, v11, v12, v13, v14, v15, v16, v17, v18, v19, v20, v21, v22, v23, v24, g0, g1, g2, g3, g4, g5, g6, g7, g8, g9, g10, g11, g12, g13, g14, g15, g16, g17, g18, g19, g20, g21, g22, g23, g24, w0, w1, w2, w3, w4, w5, w6, w7, w8, w9, w10, w11, w12, w13, w14, w15, w16, w17, w18, w19, w20, w21, w22, w23, w24, u0, u1, u2, u3, u4, u5, u6, u7, u8, u9, u10, u11, u12, u13, u14, u15, u16, u17, u18, u19, u20, u21, u22, u23, u24, List.length_cons, List.length_nil, Nat.zero_add, Nat.reduceAdd, Nat.reduceLeDiff, Nat.reduceLT, ↓reduceIte, decide_eq_true_eq, Int.reduceLT, Int.reduceLE, Int.reduceAdd, Int.reduceSub, Int.reduceMul, Int.reduceNeg, Int.reducePow, Int.reduceToNat, Int.reduceMod, Int.reduceDiv, Int.reduceEq, sz, big, lim, and_self, and_true, true_and, or_true, true_or, or_self, Bool.not_true, Bool.not_false, Bool.not_eq_true, Bool.not_eq_true', decide_true, decide_false, Bool.false_eq_true, List.map_cons, List.map_nil, rn0, rn1, rn2, rn3, rn4, rn5, rn6, rn7, rn8, rn9, rn10, rn11, rn12, rn13, rn14, rn15, rn16, rn17, rn18, rn19, rn20, rn21, rn22, rn23, rn24, rn25, rn26, rn27, rn28, rn29, Nat.sub_self, Nat.reduceSub, List.append_nil, List.cons_append, List.nil_append, reduceCtorEq, decide_not, wipeE, rng, ne_eq, not_true_eq_false, not_false_eq_true]
theorem wp_loop {I : Go → Prop} (hI : ∀ g, I g → GoOK st g ∧ g.e = false) (hs : ∀ g i p, I g → g.ps[i]? = some p → p.1 ≤ g.c → I (stepG g i p)) : ∀ (n fu : Nat) (g : Go), g.ps.length ≤ n → n < fu → I g → ∃ g', I g' ∧ (∀ p ∈ g'.ps, g'.c < p.1) ∧ ((∀ p ∈ g.ps, g.c < p.1) → g' = g) ∧ ∀ s av x2 x3 x4 x5 x6 x7, f_place_of_first [goD st g] s = .ok av s → ∃ y2 y3 y4 y5 y6 y7, whileL PWC B_with_pieces_2 fu [some (goD st g), some av, x2, x3, x4, x5, x6, x7] s = .nx [some (goD st g'), some .non, y2, y3, y4, y5, y6, y7] s
  | n, 0, g, _, h, _ => absurd h (Nat.not_lt_zero _)
  | n, fu + 1, g, hl, hf, ig => by
    obtain ⟨go, he⟩ := hI g ig
    rcases place_ok go he with ⟨hno, hpl⟩ | ⟨i, p, hip, hpc, hpl⟩
    · refine ⟨g, ig, hno, fun _ => rfl, fun s av x2 x3 x4 x5 x6 x7 hav => ⟨x2, x3, x4, x5, x6, x7, ?_⟩⟩
      rw [hpl s] at hav
      obtain rfl : D.non = av := by injection hav
      rw [whileL_s]
      generalize goD st g = G at *
      generalize B_with_pieces_2 = BB at *
      simp -implicitDefEqProofs only [kWh_s, eC_s, eUn_s, kUn_s, eOp_s, kOp_s, kOp2_s, ofO_s, eAnd_s, kAnd_s, eOr_s, kOr_s, eNot_s, kNot_s, eIf_s, kIf_s, kIf_i, eChain_s, kCh_s, kCh2_s, kCh3_s, evL_0, evL_s, kL_s, kL2_s, eTup_s, eLst_s, eLstR_s, kTup_s, kLst_s, kLstR_s, eCall_s, kCall_s, eFn_s, kFn_s, evO_0, evO_s, kO_s, eSlice_s, kSl_s, kSl2_s, kSl3_s, iSeq_s, kSeq_t, kSeq_l, iRange1_s, kRa_s, iRange2_s, kRb_s, kRb2_s, eComp_s, kCm_s, kCm2_s, eCompR_s, kCmR_s, kCmR2_s, compL_0, compL_s, kCo_s, kCo2_s, kCo3_s, tests_0, tests_s, kTe_s, gT_s, gTs_0, gTs_s, kG_s, gSub_s, kSub_s, kSub2_s, kSub3_s, sNop_s, sSeq_s, sRet_s, kRet_s, kRet_x, sRetN_s, sExpr_s, kEx_s, kEx_x, sAsg_s, kAs_s, kAs_x, kAs2_s, kAs2_x, sIf_s, kSIf_s, kSIf_i, kSIf_x, sFor_s, kFor_s, fnM_s, aft_r, aft_n, aft_x, turn_n, andThen_nx, andThen_rt, andThen_exc, andThen_bk, andThen_ct, add_i, sub_i, mul_i, div_i, mod_i, pow_i, neg_i, lt_i, le_i, gt_i, ge_i, eq_i, ne_i, eq_s, ne_s, isi_ii, isi_bi, isi_ti, isi_tt, isi_it, isi_bt, abs_i, min_i, max_i, int_i, len_t, len_l, list_l, list_t, list_s, tup_l, tup_t, addL, addT, cup_a, cup_b, eRev_s, kRv_s, kRv2_s, kRv2_l, kAg_s, kAg2_s, kPick_s, addI_i, iRange3_s, kRc_s, kRc2_s, iEnum_s, kEnum_t, kEnum_l, ite_i, ite_b, ite_o, isi_bb, isi_ss, kOr_n, maxL_1, maxL_2, maxL_3, minL_2, isN_i, isN_n, isN_t, isnN_i, isnN_n, isnN_t, v0, v1, v2, v3, v4, v5, v6, v7, v8, v9, v10, v11, v12, v13, v14, v15, v16, v17, v18, v19, v20, v21, v22, v23, v24, g0, g1, g2, g3, g4, g5, g6, g7, g8, g9, g10, g11, g12, g13, g14, g15, g16, g17, g18, g19, g20, g21, g22, g23, g24, w0, w1, w2, w3, w4, w5, w6, w7, w8, w9, w10, w11, w12, w13, w14, w15, w16, w17, w18, w19, w20, w21, w22, w23, w24, u0, u1, u2, u3, u4, u5, u6, u7, u8, u9, u10, u11, u12, u13, u14, u15, u16, u17, u18, u19, u20, u21, u22, u23, u24, List.length_cons, List.length_nil, Nat.zero_add, Nat.reduceAdd, Nat.reduceLeDiff, Nat.reduceLT, ↓reduceIte, decide_eq_true_eq, Int.reduceLT, Int.reduceLE, Int.reduceAdd, Int.reduceSub, Int.reduceMul, Int.reduceNeg, Int.reducePow, Int.reduceToNat, Int.reduceMod, Int.reduceDiv, Int.reduceEq, sz, big, lim, and_self, and_true, true_and, or_true, true_or, or_self, Bool.not_true, Bool.not_false, Bool.not_eq_true, Bool.not_eq_true', decide_true, decide_false, Bool.false_eq_true, List.map_cons, List.map_nil, rn0, rn1, rn2, rn3, rn4, rn5, rn6, rn7, rn8, rn9, rn10, rn11, rn12, rn13, rn14, rn15, rn16, rn17, rn18, rn19, rn20, rn21, rn22, rn23, rn24, rn25, rn26, rn27, rn28, rn29, Nat.sub_self, Nat.reduceSub, List.append_nil, List.cons_append, List.nil_append, reduceCtorEq, decide_not, wipeE, rng, ne_eq, not_true_eq_false, not_false_eq_true]
    · have hil := (List.getElem?_eq_some_iff.mp hip).1
      have i2 := hs g i p ig hip hpc
      have l2 : (stepG g i p).ps.length + 1 ≤ g.ps.length := by
        show (g.ps.eraseIdx i).length + 1 ≤ _
        rw [List.length_eraseIdx_of_lt hil]; omega
      match n, hl with
      | 0, hl => omega
      | n + 1, hl =>
        obtain ⟨g', k1, k2, k3, k4⟩ := wp_loop hI hs n fu (stepG g i p) (by omega) (by omega) i2
        refine ⟨g', k1, k2, fun hno => absurd (hno p (List.mem_of_getElem? hip)) (by omega), fun s av x2 x3 x4 x5 x6 x7 hav => ?_⟩
        rw [hpl s] at hav
        obtain rfl : D.int (i : Int) = av := by injection hav
        obtain ⟨go2, he2⟩ := hI _ i2
        obtain ⟨av2, hav2⟩ : ∃ av2, ∀ s, f_place_of_first [goD st (stepG g i p)] s = .ok av2 s := by
          rcases place_ok go2 he2 with ⟨_, q⟩ | ⟨_, _, _, _, q⟩
          · exact ⟨_, q⟩
          · exact ⟨_, q⟩
        obtain ⟨y2, y3, y4, y5, y6, y7, e⟩ := wturn (s := s) (x1 := none) (x2 := x2) (x3 := x3) (x4 := x4) (x5 := x5) (x6 := x6) (x7 := x7) go he hip hpc hav2
        obtain ⟨z2, z3, z4, z5, z6, z7, e'⟩ := k4 s av2 y2 y3 y4 y5 y6 y7 (hav2 s)
        refine ⟨z2, z3, z4, z5, z6, z7, ?_⟩
        rw [whileL_s, ← e']
        generalize goD st g = G at *
        generalize goD st (stepG g i p) = G2 at *
        generalize B_with_pieces_2 = BB at *
        generalize hW : whileL PWC BB fu [some G2, some av2, y2, y3, y4, y5, y6, y7] s = WW at *
        simp -implicitDefEqProofs only [kWh_s, eC_s, eUn_s, kUn_s, eOp_s, kOp_s, kOp2_s, ofO_s, eAnd_s, kAnd_s, eOr_s, kOr_s, eNot_s, kNot_s, eIf_s, kIf_s, kIf_i, eChain_s, kCh_s, kCh2_s, kCh3_s, evL_0, evL_s, kL_s, kL2_s, eTup_s, eLst_s, eLstR_s, kTup_s, kLst_s, kLstR_s, eCall_s, kCall_s, eFn_s, kFn_s, evO_0, evO_s, kO_s, eSlice_s, kSl_s, kSl2_s, kSl3_s, iSeq_s, kSeq_t, kSeq_l, iRange1_s, kRa_s, iRange2_s, kRb_s, kRb2_s, eComp_s, kCm_s, kCm2_s, eCompR_s, kCmR_s, kCmR2_s, compL_0, compL_s, kCo_s, kCo2_s, kCo3_s, tests_0, tests_s, kTe_s, gT_s, gTs_0, gTs_s, kG_s, gSub_s, kSub_s, kSub2_s, kSub3_s, sNop_s, sSeq_s, sRet_s, kRet_s, kRet_x, sRetN_s, sExpr_s, kEx_s, kEx_x, sAsg_s, kAs_s, kAs_x, kAs2_s, kAs2_x, sIf_s, kSIf_s, kSIf_i, kSIf_x, sFor_s, kFor_s, fnM_s, aft_r, aft_n, aft_x, turn_n, andThen_nx, andThen_rt, andThen_exc, andThen_bk, andThen_ct, add_i, sub_i, mul_i, div_i, mod_i, pow_i, neg_i, lt_i, le_i, gt_i, ge_i, eq_i, ne_i, eq_s, ne_s, isi_ii, isi_bi, isi_ti, isi_tt, isi_it, isi_bt, abs_i, min_i, max_i, int_i, len_t, len_l, list_l, list_t, list_s, tup_l, tup_t, addL, addT, cup_a, cup_b, eRev_s, kRv_s, kRv2_s, kRv2_l, kAg_s, kAg2_s, kPick_s, addI_i, iRange3_s, kRc_s, kRc2_s, iEnum_s, kEnum_t, kEnum_l, ite_i, ite_b, ite_o, isi_bb, isi_ss, kOr_n, maxL_1, maxL_2, maxL_3, minL_2, isN_i, isN_n, isN_t, isnN_i, isnN_n, isnN_t, v0, v1, v2, v3, v4, v5, v6, v7, v8, v9, v10, v11, v12, v13, v14, v15, v16, v17, v18, v19, v20, v21, v22, v23, v24, g0, g1, g2, g3, g4, g5, g6, g7, g8, g9, g10, g11, g12, g13, g14, g15, g16, g17, g18, g19, g20, g21, g22, g23, g24, w0, w1, w2, w3, w4, w5, w6, w7, w8, w9, w10, w11, w12, w13, w14, w15, w16, w17, w18, w19, w20, w21, w22, w23, w24, u0, u1, u2, u3, u4, u5, u6, u7, u8, u9, u10, u11, u12, u13, u14, u15, u16, u17, u18, u19, u20, u21, u22, u23, u24, List.length_cons, List.length_nil, Nat.zero_add, Nat.reduceAdd, Nat.reduceLeDiff, Nat.reduceLT, ↓reduceIte, decide_eq_true_eq, Int.reduceLT, Int.reduceLE, Int.reduceAdd, Int.reduceSub, Int.reduceMul, Int.reduceNeg, Int.reducePow, Int.reduceToNat, Int.reduceMod, Int.reduceDiv, Int.reduceEq, sz, big, lim, and_self, and_true, true_and, or_true, true_or, or_self, Bool.not_true, Bool.not_false, Bool.not_eq_true, Bool.not_eq_true', decide_true, decide_false, Bool.false_eq_true, List.map_cons, List.map_nil, rn0, rn1, rn2, rn3, rn4, rn5, rn6, rn7, rn8, rn9, rn10, rn11, rn12, rn13, rn14, rn15, rn16, rn17, rn18, rn19, rn20, rn21, rn22, rn23, rn24, rn25, rn26, rn27, rn28, rn29, Nat.sub_self, Nat.reduceSub, List.append_nil, List.cons_append, List.nil_append, reduceCtorEq, decide_not, wipeE, rng, ne_eq, not_true_eq_false, not_false_eq_true]
        rw [e, kWt_n, hW]
theorem wp_ok {I : Go → Prop} (hI : ∀ g, I g → GoOK st g ∧ g.e = false) (hs : ∀ g i p, I g → g.ps[i]? = some p → p.1 ≤ g.c → I (stepG g i p)) (ig : I g) : ∃ g', I g' ∧ (∀ p ∈ g'.ps, g'.c < p.1) ∧ ((∀ p ∈ g.ps, g.c < p.1) → g' = g) ∧ ∀ s, f_with_pieces [goD st g] s = .ok (goD st g') s := by
  obtain ⟨go, he⟩ := hI g ig
  obtain ⟨g', k1, k2, k3, k4⟩ := wp_loop hI hs g.ps.length fuel g (Nat.le_refl _) (by have := go.hn; rw [fuel_eq]; omega) ig
  refine ⟨g', k1, k2, k3, fun s => ?_⟩
  obtain ⟨av, hav⟩ : ∃ av, ∀ s, f_place_of_first [goD st g] s = .ok av s := by
    rcases place_ok go he with ⟨_, q⟩ | ⟨_, _, _, _, q⟩
    · exact ⟨_, q⟩
    · exact ⟨_, q⟩
  obtain ⟨y2, y3, y4, y5, y6, y7, e⟩ := k4 s av none none none none none none (hav s)
  have e' : S_with_pieces_2 [some (goD st g), some av, none, none, none, none, none, none] s = _ := e
  generalize goD st g = G at *
  generalize goD st g' = G2 at *
  simp -implicitDefEqProofs only [f_with_pieces, sh_with_pieces, S_with_pieces_1, S_with_pieces_7, hav, e', eC_s, eUn_s, kUn_s, eOp_s, kOp_s, kOp2_s, ofO_s, eAnd_s, kAnd_s, eOr_s, kOr_s, eNot_s, kNot_s, eIf_s, kIf_s, kIf_i, eChain_s, kCh_s, kCh2_s, kCh3_s, evL_0, evL_s, kL_s, kL2_s, eTup_s, eLst_s, eLstR_s, kTup_s, kLst_s, kLstR_s, eCall_s, kCall_s, eFn_s, kFn_s, evO_0, evO_s, kO_s, eSlice_s, kSl_s, kSl2_s, kSl3_s, iSeq_s, kSeq_t, kSeq_l, iRange1_s, kRa_s, iRange2_s, kRb_s, kRb2_s, eComp_s, kCm_s, kCm2_s, eCompR_s, kCmR_s, kCmR2_s, compL_0, compL_s, kCo_s, kCo2_s, kCo3_s, tests_0, tests_s, kTe_s, gT_s, gTs_0, gTs_s, kG_s, gSub_s, kSub_s, kSub2_s, kSub3_s, sNop_s, sSeq_s, sRet_s, kRet_s, kRet_x, sRetN_s, sExpr_s, kEx_s, kEx_x, sAsg_s, kAs_s, kAs_x, kAs2_s, kAs2_x, sIf_s, kSIf_s, kSIf_i, kSIf_x, sFor_s, kFor_s, fnM_s, aft_r, aft_n, aft_x, turn_n, andThen_nx, andThen_rt, andThen_exc, andThen_bk, andThen_ct, add_i, sub_i, mul_i, div_i, mod_i, pow_i, neg_i, lt_i, le_i, gt_i, ge_i, eq_i, ne_i, eq_s, ne_s, isi_ii, isi_bi, isi_ti, isi_tt, isi_it, isi_bt, abs_i, min_i, max_i, int_i, len_t, len_l, list_l, list_t, list_s, tup_l, tup_t, addL, addT, cup_a, cup_b, eRev_s, kRv_s, kRv2_s, kRv2_l, kAg_s, kAg2_s, kPick_s, addI_i, iRange3_s, kRc_s, kRc2_s, iEnum_s, kEnum_t, kEnum_l, ite_i, ite_b, ite_o, isi_bb, isi_ss, kOr_n, maxL_1, maxL_2, maxL_3, minL_2, isN_i, isN_n, isN_t, isnN_i, isnN_n, isnN_t, v0, v1, v2, v3, v4, v5, v6, v7, v8, v9, v10, v11, v12, v13, v14, v15, v16, v17, v18, v19, v20, v21, v22, v23, v24, g0, g1, g2, g3, g4, g5, g6, g7, g8, g9, g10, g11, g12, g13, g14, g15, g16, g17, g18, g19, g20, g21, g22, g23, g24, w0, w1, w2, w3, w4, w5, w6, w7, w8, w9, w10, w11, w12, w13, w14, w15, w16, w17, w18, w19, w20, w21, w22, w23, w24, u0, u1, u2, u3, u4, u5, u6, u7, u8, u9, u10, u11, u12, u13, u14, u15, u16, u17, u18, u19, u20, u21, u22, u23, u24, List.length_cons, List.length_nil, Nat.zero_add, Nat.reduceAdd, Nat.reduceLeDiff, Nat.reduceLT, ↓reduceIte, decide_eq_true_eq, Int.reduceLT, Int.reduceLE, Int.reduceAdd, Int.reduceSub, Int.reduceMul, Int.reduceNeg, Int.reducePow, Int.reduceToNat, Int.reduceMod, Int.reduceDiv, Int.reduceEq, sz, big, lim, and_self, and_true, true_and, or_true, true_or, or_self, Bool.not_true, Bool.not_false, Bool.not_eq_true, Bool.not_eq_true', decide_true, decide_false, Bool.false_eq_true, List.map_cons, List.map_nil, rn0, rn1, rn2, rn3, rn4, rn5, rn6, rn7, rn8, rn9, rn10, rn11, rn12, rn13, rn14, rn15, rn16, rn17, rn18, rn19, rn20, rn21, rn22, rn23, rn24, rn25, rn26, rn27, rn28, rn29, Nat.sub_self, Nat.reduceSub, List.append_nil, List.cons_append, List.nil_append, reduceCtorEq, decide_not, wipeE, rng, ne_eq, not_true_eq_false, not_false_eq_true]
/-! goods_behind -/
theorem beh_end {da db dl : D} (he : g.e = true) : f_goods_behind [goD st g, da, db, dl] s = .ok (goD st g) s := by
  have ge : ∃ a b c, goD st g = .tup [a, b, c, .bl true] := ⟨_, _, _, by unfold goD; rw [he]⟩
  obtain ⟨a, b, c, ge⟩ := ge
  rw [ge]
  simp -implicitDefEqProofs only [f_goods_behind, sh_goods_behind, S_goods_behind_1, S_goods_behind_3, B_goods_behind_2, S_goods_behind_2, S_goods_behind_4, S_goods_behind_6, B_goods_behind_5, S_goods_behind_8, B_goods_behind_7, S_goods_behind_7, C_goods_behind_5, S_goods_behind_5, S_goods_behind_10, B_goods_behind_9, S_goods_behind_9, S_goods_behind_11, eC_s, eUn_s, kUn_s, eOp_s, kOp_s, kOp2_s, ofO_s, eAnd_s, kAnd_s, eOr_s, kOr_s, eNot_s, kNot_s, eIf_s, kIf_s, kIf_i, eChain_s, kCh_s, kCh2_s, kCh3_s, evL_0, evL_s, kL_s, kL2_s, eTup_s, eLst_s, eLstR_s, kTup_s, kLst_s, kLstR_s, eCall_s, kCall_s, eFn_s, kFn_s, evO_0, evO_s, kO_s, eSlice_s, kSl_s, kSl2_s, kSl3_s, iSeq_s, kSeq_t, kSeq_l, iRange1_s, kRa_s, iRange2_s, kRb_s, kRb2_s, eComp_s, kCm_s, kCm2_s, eCompR_s, kCmR_s, kCmR2_s, compL_0, compL_s, kCo_s, kCo2_s, kCo3_s, tests_0, tests_s, kTe_s, gT_s, gTs_0, gTs_s, kG_s, gSub_s, kSub_s, kSub2_s, kSub3_s, sNop_s, sSeq_s, sRet_s, kRet_s, kRet_x, sRetN_s, sExpr_s, kEx_s, kEx_x, sAsg_s, kAs_s, kAs_x, kAs2_s, kAs2_x, sIf_s, kSIf_s, kSIf_i, kSIf_x, sFor_s, kFor_s, fnM_s, aft_r, aft_n, aft_x, turn_n, andThen_nx, andThen_rt, andThen_exc, andThen_bk, andThen_ct, add_i, sub_i, mul_i, div_i, mod_i, pow_i, neg_i, lt_i, le_i, gt_i, ge_i, eq_i, ne_i, eq_s, ne_s, isi_ii, isi_bi, isi_ti, isi_tt, isi_it, isi_bt, abs_i, min_i, max_i, int_i, len_t, len_l, list_l, list_t, list_s, tup_l, tup_t, addL, addT, cup_a, cup_b, eRev_s, kRv_s, kRv2_s, kRv2_l, kAg_s, kAg2_s, kPick_s, addI_i, iRange3_s, kRc_s, kRc2_s, iEnum_s, kEnum_t, kEnum_l, ite_i, ite_b, ite_o, isi_bb, isi_ss, kOr_n, maxL_1, maxL_2, maxL_3, minL_2, isN_i, isN_n, isN_t, isnN_i, isnN_n, isnN_t, v0, v1, v2, v3, v4, v5, v6, v7, v8, v9, v10, v11, v12, v13, v14, v15, v16, v17, v18, v19, v20, v21, v22, v23, v24, g0, g1, g2, g3, g4, g5, g6, g7, g8, g9, g10, g11, g12, g13, g14, g15, g16, g17, g18, g19, g20, g21, g22, g23, g24, w0, w1, w2, w3, w4, w5, w6, w7, w8, w9, w10, w11, w12, w13, w14, w15, w16, w17, w18, w19, w20, w21, w22, w23, w24, u0, u1, u2, u3, u4, u5, u6, u7, u8, u9, u10, u11, u12, u13, u14, u15, u16, u17, u18, u19, u20, u21, u22, u23, u24, List.length_cons, List.length_nil, Nat.zero_add, Nat.reduceAdd, Nat.reduceLeDiff, Nat.reduceLT, ↓reduceIte, decide_eq_true_eq, Int.reduceLT, Int.reduceLE, Int.reduceAdd, Int.reduceSub, Int.reduceMul, Int.reduceNeg, Int.reducePow, Int.reduceToNat, Int.reduceMod, Int.reduceDiv, Int.reduceEq, sz, big, lim, and_self, and_true, true_and, or_true, true_or, or_self, Bool.not_true, Bool.not_false, Bool.not_eq_true, Bool.not_eq_true', decide_true, decide_false, Bool.false_eq_true, List.map_cons, List.map_nil, rn0, rn1, rn2, rn3, rn4, rn5, rn6, rn7, rn8, rn9, rn10, rn11, rn12, rn13, rn14, rn15, rn16, rn17, rn18, rn19, rn20, rn21, rn22, rn23, rn24, rn25, rn26, rn27, rn28, rn29, Nat.sub_self, Nat.reduceSub, List.append_nil, List.cons_append, List.nil_append, reduceCtorEq, decide_not, wipeE, rng, ne_eq, not_true_eq_false, not_false_eq_true]
theorem beh_le {a : Nat} {os : List Int} {last : Bool} {g' : Go} (h : GoOK st g) (he : g.e = false) (ha : a ≤ g.c) (ho : os.length ≤ 400) (hwp : ∀ s, f_with_pieces [goD st (ord g (cnt g a os))] s = .ok (goD st g') s) (he' : g'.e = false) (hc' : g'.c ≤ 1000) :
    f_goods_behind [goD st g, .int (num st a), .tup (os.map .int), .bl last] s = .ok (goD st (if last = true ∧ a + os.length = g'.c then ⟨g'.c, g'.w, [], true⟩ else g')) s := by
  have hc := h.hc
  have ct := fun s => count_ok (s := s) (os := os) (a := a) h he (by omega)
  have cl : (cnt g a os).length ≤ 400 := by unfold cnt; rw [List.length_take, List.length_drop]; omega
  have od := fun s => order_ok (s := s) (os := cnt g a os) h he cl
  have gp := fun s => gap_num (st := st) (a := g.c) (b := a) (s := s) (by omega)
  have lo : ((os.map D.int).length : Int) = (os.length : Int) := by rw [List.length_map]
  have pl := fun s => plus_num (st := st) (a := a) (b := (os.length : Int)) (s := s) (by omega)
  have p1 := fun s => plus_num (st := st) (a := g'.c) (b := 1) (s := s) (by omega)
  have i0 : ∀ s, dItem s (goD st g') (.int 0) = some (.int (num st g'.c)) := fun s => by rw [goD_f he']; rfl
  have i1 : ∀ s, dItem s (goD st g') (.int 1) = some (.tup (g'.w.map .int)) := fun s => rfl
  have le : ((a : Int) - g.c ≤ 0) := by omega
  have ne := num_eq (st := st) (a := (a : Int) + (os.length : Int)) (b := g'.c) (by omega)
  have ge := goD_f (st := st) he
  have gf : ∀ s, f_that_count [.tup [.int (num st g.c), .tup (g.w.map .int), .tup (g.ps.map (pcD st)), .bl false], .int (num st a), .tup (os.map .int)] s = .ok (.tup ((cnt g a os).map .int)) s := fun s => by rw [← ge]; exact ct s
  rw [ge] at od
  have e9 : goD st ⟨g'.c, g'.w, [], true⟩ = .tup [.int (num st ((g'.c : Int) + 1)), .tup (g'.w.map .int), .tup [], .bl true] := rfl
  rw [ge]
  by_cases hl : last = true ∧ a + os.length = g'.c
  · rw [if_pos hl, e9]
    have hq : num st ((a : Int) + (os.length : Int)) = num st g'.c := ne.mpr (by omega)
    have hl1 := hl.1
    subst hl1
    generalize goD st (ord g (cnt g a os)) = G2 at *
    generalize goD st g' = G3 at *
    generalize (cnt g a os).map D.int = CM at *
    generalize g.w.map D.int = WM at *
    generalize g'.w.map D.int = WM' at *
    generalize g.ps.map (pcD st) = PM at *
    generalize os.map D.int = OM at *
    simp -implicitDefEqProofs only [f_goods_behind, sh_goods_behind, S_goods_behind_1, S_goods_behind_3, B_goods_behind_2, S_goods_behind_2, S_goods_behind_4, S_goods_behind_6, B_goods_behind_5, S_goods_behind_8, B_goods_behind_7, S_goods_behind_7, C_goods_behind_5, S_goods_behind_5, S_goods_behind_10, B_goods_behind_9, S_goods_behind_9, S_goods_behind_11, gf, od, gp, le, hwp, lo, pl, p1, i0, i1, hq, eC_s, eUn_s, kUn_s, eOp_s, kOp_s, kOp2_s, ofO_s, eAnd_s, kAnd_s, eOr_s, kOr_s, eNot_s, kNot_s, eIf_s, kIf_s, kIf_i, eChain_s, kCh_s, kCh2_s, kCh3_s, evL_0, evL_s, kL_s, kL2_s, eTup_s, eLst_s, eLstR_s, kTup_s, kLst_s, kLstR_s, eCall_s, kCall_s, eFn_s, kFn_s, evO_0, evO_s, kO_s, eSlice_s, kSl_s, kSl2_s, kSl3_s, iSeq_s, kSeq_t, kSeq_l, iRange1_s, kRa_s, iRange2_s, kRb_s, kRb2_s, eComp_s, kCm_s, kCm2_s, eCompR_s, kCmR_s, kCmR2_s, compL_0, compL_s, kCo_s, kCo2_s, kCo3_s, tests_0, tests_s, kTe_s, gT_s, gTs_0, gTs_s, kG_s, gSub_s, kSub_s, kSub2_s, kSub3_s, sNop_s, sSeq_s, sRet_s, kRet_s, kRet_x, sRetN_s, sExpr_s, kEx_s, kEx_x, sAsg_s, kAs_s, kAs_x, kAs2_s, kAs2_x, sIf_s, kSIf_s, kSIf_i, kSIf_x, sFor_s, kFor_s, fnM_s, aft_r, aft_n, aft_x, turn_n, andThen_nx, andThen_rt, andThen_exc, andThen_bk, andThen_ct, add_i, sub_i, mul_i, div_i, mod_i, pow_i, neg_i, lt_i, le_i, gt_i, ge_i, eq_i, ne_i, eq_s, ne_s, isi_ii, isi_bi, isi_ti, isi_tt, isi_it, isi_bt, abs_i, min_i, max_i, int_i, len_t, len_l, list_l, list_t, list_s, tup_l, tup_t, cup_a, cup_b, eRev_s, kRv_s, kRv2_s, kRv2_l, kAg_s, kAg2_s, kPick_s, addI_i, iRange3_s, kRc_s, kRc2_s, iEnum_s, kEnum_t, kEnum_l, ite_i, ite_b, ite_o, isi_bb, isi_ss, kOr_n, maxL_1, maxL_2, maxL_3, minL_2, isN_i, isN_n, isN_t, isnN_i, isnN_n, isnN_t, v0, v1, v2, v3, v4, v5, v6, v7, v8, v9, v10, v11, v12, v13, v14, v15, v16, v17, v18, v19, v20, v21, v22, v23, v24, g0, g1, g2, g3, g4, g5, g6, g7, g8, g9, g10, g11, g12, g13, g14, g15, g16, g17, g18, g19, g20, g21, g22, g23, g24, w0, w1, w2, w3, w4, w5, w6, w7, w8, w9, w10, w11, w12, w13, w14, w15, w16, w17, w18, w19, w20, w21, w22, w23, w24, u0, u1, u2, u3, u4, u5, u6, u7, u8, u9, u10, u11, u12, u13, u14, u15, u16, u17, u18, u19, u20, u21, u22, u23, u24, List.length_cons, List.length_nil, Nat.zero_add, Nat.reduceAdd, Nat.reduceLeDiff, Nat.reduceLT, ↓reduceIte, decide_eq_true_eq, Int.reduceLT, Int.reduceLE, Int.reduceAdd, Int.reduceSub, Int.reduceMul, Int.reduceNeg, Int.reducePow, Int.reduceToNat, Int.reduceMod, Int.reduceDiv, Int.reduceEq, sz, big, lim, and_self, and_true, true_and, or_true, true_or, or_self, Bool.not_true, Bool.not_false, Bool.not_eq_true, Bool.not_eq_true', decide_true, decide_false, Bool.false_eq_true, List.map_cons, List.map_nil, rn0, rn1, rn2, rn3, rn4, rn5, rn6, rn7, rn8, rn9, rn10, rn11, rn12, rn13, rn14, rn15, rn16, rn17, rn18, rn19, rn20, rn21, rn22, rn23, rn24, rn25, rn26, rn27, rn28, rn29, Nat.sub_self, Nat.reduceSub, List.append_nil, List.cons_append, List.nil_append, reduceCtorEq, decide_not, wipeE, rng, ne_eq, not_true_eq_false, not_false_eq_true]
  · rw [if_neg hl]
    cases last with
    | false =>
      generalize goD st (ord g (cnt g a os)) = G2 at *
      generalize goD st g' = G3 at *
      generalize (cnt g a os).map D.int = CM at *
      generalize g.w.map D.int = WM at *
      generalize g.ps.map (pcD st) = PM at *
      generalize os.map D.int = OM at *
      simp -implicitDefEqProofs only [f_goods_behind, sh_goods_behind, S_goods_behind_1, S_goods_behind_3, B_goods_behind_2, S_goods_behind_2, S_goods_behind_4, S_goods_behind_6, B_goods_behind_5, S_goods_behind_8, B_goods_behind_7, S_goods_behind_7, C_goods_behind_5, S_goods_behind_5, S_goods_behind_10, B_goods_behind_9, S_goods_behind_9, S_goods_behind_11, gf, od, gp, le, hwp, eC_s, eUn_s, kUn_s, eOp_s, kOp_s, kOp2_s, ofO_s, eAnd_s, kAnd_s, eOr_s, kOr_s, eNot_s, kNot_s, eIf_s, kIf_s, kIf_i, eChain_s, kCh_s, kCh2_s, kCh3_s, evL_0, evL_s, kL_s, kL2_s, eTup_s, eLst_s, eLstR_s, kTup_s, kLst_s, kLstR_s, eCall_s, kCall_s, eFn_s, kFn_s, evO_0, evO_s, kO_s, eSlice_s, kSl_s, kSl2_s, kSl3_s, iSeq_s, kSeq_t, kSeq_l, iRange1_s, kRa_s, iRange2_s, kRb_s, kRb2_s, eComp_s, kCm_s, kCm2_s, eCompR_s, kCmR_s, kCmR2_s, compL_0, compL_s, kCo_s, kCo2_s, kCo3_s, tests_0, tests_s, kTe_s, gT_s, gTs_0, gTs_s, kG_s, gSub_s, kSub_s, kSub2_s, kSub3_s, sNop_s, sSeq_s, sRet_s, kRet_s, kRet_x, sRetN_s, sExpr_s, kEx_s, kEx_x, sAsg_s, kAs_s, kAs_x, kAs2_s, kAs2_x, sIf_s, kSIf_s, kSIf_i, kSIf_x, sFor_s, kFor_s, fnM_s, aft_r, aft_n, aft_x, turn_n, andThen_nx, andThen_rt, andThen_exc, andThen_bk, andThen_ct, add_i, sub_i, mul_i, div_i, mod_i, pow_i, neg_i, lt_i, le_i, gt_i, ge_i, eq_i, ne_i, eq_s, ne_s, isi_ii, isi_bi, isi_ti, isi_tt, isi_it, isi_bt, abs_i, min_i, max_i, int_i, len_t, len_l, list_l, list_t, list_s, tup_l, tup_t, cup_a, cup_b, eRev_s, kRv_s, kRv2_s, kRv2_l, kAg_s, kAg2_s, kPick_s, addI_i, iRange3_s, kRc_s, kRc2_s, iEnum_s, kEnum_t, kEnum_l, ite_i, ite_b, ite_o, isi_bb, isi_ss, kOr_n, maxL_1, maxL_2, maxL_3, minL_2, isN_i, isN_n, isN_t, isnN_i, isnN_n, isnN_t, v0, v1, v2, v3, v4, v5, v6, v7, v8, v9, v10, v11, v12, v13, v14, v15, v16, v17, v18, v19, v20, v21, v22, v23, v24, g0, g1, g2, g3, g4, g5, g6, g7, g8, g9, g10, g11, g12, g13, g14, g15, g16, g17, g18, g19, g20, g21, g22, g23, g24, w0, w1, w2, w3, w4, w5, w6, w7, w8, w9, w10, w11, w12, w13, w14, w15, w16, w17, w18, w19, w20, w21, w22, w23, w24, u0, u1, u2, u3, u4, u5, u6, u7, u8, u9, u10, u11, u12, u13, u14, u15, u16, u17, u18, u19, u20, u21, u22, u23, u24, List.length_cons, List.length_nil, Nat.zero_add, Nat.reduceAdd, Nat.reduceLeDiff, Nat.reduceLT, ↓reduceIte, decide_eq_true_eq, Int.reduceLT, Int.reduceLE, Int.reduceAdd, Int.reduceSub, Int.reduceMul, Int.reduceNeg, Int.reducePow, Int.reduceToNat, Int.reduceMod, Int.reduceDiv, Int.reduceEq, sz, big, lim, and_self, and_true, true_and, or_true, true_or, or_self, Bool.not_true, Bool.not_false, Bool.not_eq_true, Bool.not_eq_true', decide_true, decide_false, Bool.false_eq_true, List.map_cons, List.map_nil, rn0, rn1, rn2, rn3, rn4, rn5, rn6, rn7, rn8, rn9, rn10, rn11, rn12, rn13, rn14, rn15, rn16, rn17, rn18, rn19, rn20, rn21, rn22, rn23, rn24, rn25, rn26, rn27, rn28, rn29, Nat.sub_self, Nat.reduceSub, List.append_nil, List.cons_append, List.nil_append, reduceCtorEq, decide_not, wipeE, rng, ne_eq, not_true_eq_false, not_false_eq_true]
    | true =>
      have hq : ¬ num st ((a : Int) + (os.length : Int)) = num st g'.c := fun q => hl ⟨rfl, by have := ne.mp q; omega⟩
      generalize goD st (ord g (cnt g a os)) = G2 at *
      generalize goD st g' = G3 at *
      generalize (cnt g a os).map D.int = CM at *
      generalize g.w.map D.int = WM at *
      generalize g.ps.map (pcD st) = PM at *
      generalize os.map D.int = OM at *
      simp -implicitDefEqProofs only [f_goods_behind, sh_goods_behind, S_goods_behind_1, S_goods_behind_3, B_goods_behind_2, S_goods_behind_2, S_goods_behind_4, S_goods_behind_6, B_goods_behind_5, S_goods_behind_8, B_goods_behind_7, S_goods_behind_7, C_goods_behind_5, S_goods_behind_5, S_goods_behind_10, B_goods_behind_9, S_goods_behind_9, S_goods_behind_11, gf, od, gp, le, hwp, lo, pl, i0, hq, eC_s, eUn_s, kUn_s, eOp_s, kOp_s, kOp2_s, ofO_s, eAnd_s, kAnd_s, eOr_s, kOr_s, eNot_s, kNot_s, eIf_s, kIf_s, kIf_i, eChain_s, kCh_s, kCh2_s, kCh3_s, evL_0, evL_s, kL_s, kL2_s, eTup_s, eLst_s, eLstR_s, kTup_s, kLst_s, kLstR_s, eCall_s, kCall_s, eFn_s, kFn_s, evO_0, evO_s, kO_s, eSlice_s, kSl_s, kSl2_s, kSl3_s, iSeq_s, kSeq_t, kSeq_l, iRange1_s, kRa_s, iRange2_s, kRb_s, kRb2_s, eComp_s, kCm_s, kCm2_s, eCompR_s, kCmR_s, kCmR2_s, compL_0, compL_s, kCo_s, kCo2_s, kCo3_s, tests_0, tests_s, kTe_s, gT_s, gTs_0, gTs_s, kG_s, gSub_s, kSub_s, kSub2_s, kSub3_s, sNop_s, sSeq_s, sRet_s, kRet_s, kRet_x, sRetN_s, sExpr_s, kEx_s, kEx_x, sAsg_s, kAs_s, kAs_x, kAs2_s, kAs2_x, sIf_s, kSIf_s, kSIf_i, kSIf_x, sFor_s, kFor_s, fnM_s, aft_r, aft_n, aft_x, turn_n, andThen_nx, andThen_rt, andThen_exc, andThen_bk, andThen_ct, add_i, sub_i, mul_i, div_i, mod_i, pow_i, neg_i, lt_i, le_i, gt_i, ge_i, eq_i, ne_i, eq_s, ne_s, isi_ii, isi_bi, isi_ti, isi_tt, isi_it, isi_bt, abs_i, min_i, max_i, int_i, len_t, len_l, list_l, list_t, list_s, tup_l, tup_t, cup_a, cup_b, eRev_s, kRv_s, kRv2_s, kRv2_l, kAg_s, kAg2_s, kPick_s, addI_i, iRange3_s, kRc_s, kRc2_s, iEnum_s, kEnum_t, kEnum_l, ite_i, ite_b, ite_o, isi_bb, isi_ss, kOr_n, maxL_1, maxL_2, maxL_3, minL_2, isN_i, isN_n, isN_t, isnN_i, isnN_n, isnN_t, v0, v1, v2, v3, v4, v5, v6, v7, v8, v9, v10, v11, v12, v13, v14, v15, v16, v17, v18, v19, v20, v21, v22, v23, v24, g0, g1, g2, g3, g4, g5, g6, g7, g8, g9, g10, g11, g12, g13, g14, g15, g16, g17, g18, g19, g20, g21, g22, g23, g24, w0, w1, w2, w3, w4, w5, w6, w7, w8, w9, w10, w11, w12, w13, w14, w15, w16, w17, w18, w19, w20, w21, w22, w23, w24, u0, u1, u2, u3, u4, u5, u6, u7, u8, u9, u10, u11, u12, u13, u14, u15, u16, u17, u18, u19, u20, u21, u22, u23, u24, List.length_cons, List.length_nil, Nat.zero_add, Nat.reduceAdd, Nat.reduceLeDiff, Nat.reduceLT, ↓reduceIte, decide_eq_true_eq, Int.reduceLT, Int.reduceLE, Int.reduceAdd, Int.reduceSub, Int.reduceMul, Int.reduceNeg, Int.reducePow, Int.reduceToNat, Int.reduceMod, Int.reduceDiv, Int.reduceEq, sz, big, lim, and_self, and_true, true_and, or_true, true_or, or_self, Bool.not_true, Bool.not_false, Bool.not_eq_true, Bool.not_eq_true', decide_true, decide_false, Bool.false_eq_true, List.map_cons, List.map_nil, rn0, rn1, rn2, rn3, rn4, rn5, rn6, rn7, rn8, rn9, rn10, rn11, rn12, rn13, rn14, rn15, rn16, rn17, rn18, rn19, rn20, rn21, rn22, rn23, rn24, rn25, rn26, rn27, rn28, rn29, Nat.sub_self, Nat.reduceSub, List.append_nil, List.cons_append, List.nil_append, reduceCtorEq, decide_not, wipeE, rng, ne_eq, not_true_eq_false, not_false_eq_true]
theorem beh_gt {a : Nat} {os : List Int} {last : Bool} (h : GoOK st g) (he : g.e = false) (ha : g.c < a) (ha' : a ≤ 1000) (ho : os.length ≤ 400) (oo : Oct os) :
    f_goods_behind [goD st g, .int (num st a), .tup (os.map .int), .bl last] s = .ok (goD st (if cnt g a os ≠ [] ∧ g.ps.length < 6 then ⟨g.c, g.w, g.ps ++ [(a, cnt g a os)], false⟩ else g)) s := by
  have hc := h.hc
  have hn := h.hn
  have ct := fun s => count_ok (s := s) (os := os) (a := a) h he (by omega)
  have oc : Oct (cnt g a os) := (oo.drop _).take _
  have gp := fun s => gap_num (st := st) (a := g.c) (b := a) (s := s) (by omega)
  have lo : ((os.map D.int).length : Int) = (os.length : Int) := by rw [List.length_map]
  have lp : ((g.ps.map (pcD st)).length : Int) = (g.ps.length : Int) := by rw [List.length_map]
  have pl := fun s => plus_num (st := st) (a := a) (b := (os.length : Int)) (s := s) (by omega)
  have le : ¬ ((a : Int) - g.c ≤ 0) := by omega
  have hq : ¬ num st ((a : Int) + (os.length : Int)) = num st g.c := fun q => by have := (num_eq (st := st) (a := (a : Int) + (os.length : Int)) (b := g.c) (by omega)).mp q; omega
  have ge := goD_f (st := st) he
  have i0 : ∀ (a b c d : D) s, dItem s (.tup [a, b, c, d]) (.int 0) = some a := fun a b c d s => rfl
  have nn := fun s => ne_nilT (s := s) (okRs_oct oc) (by rw [dep_oct]; decide)
  have gf : ∀ s, f_that_count [.tup [.int (num st g.c), .tup (g.w.map .int), .tup (g.ps.map (pcD st)), .bl false], .int (num st a), .tup (os.map .int)] s = .ok (.tup ((cnt g a os).map .int)) s := fun s => by rw [← ge]; exact ct s
  by_cases h1 : cnt g a os = []
  · rw [if_neg (fun q => q.1 h1), ge]
    have e0 : ((cnt g a os).map D.int).isEmpty = true := by rw [h1]; rfl
    generalize (cnt g a os).map D.int = CM at *
    generalize g.w.map D.int = WM at *
    generalize g.ps.map (pcD st) = PM at *
    generalize os.map D.int = OM at *
    cases last <;> simp -implicitDefEqProofs only [f_goods_behind, sh_goods_behind, S_goods_behind_1, S_goods_behind_3, B_goods_behind_2, S_goods_behind_2, S_goods_behind_4, S_goods_behind_6, B_goods_behind_5, S_goods_behind_8, B_goods_behind_7, S_goods_behind_7, C_goods_behind_5, S_goods_behind_5, S_goods_behind_10, B_goods_behind_9, S_goods_behind_9, S_goods_behind_11, gf, gp, le, nn, e0, lo, pl, i0, hq, eC_s, eUn_s, kUn_s, eOp_s, kOp_s, kOp2_s, ofO_s, eAnd_s, kAnd_s, eOr_s, kOr_s, eNot_s, kNot_s, eIf_s, kIf_s, kIf_i, eChain_s, kCh_s, kCh2_s, kCh3_s, evL_0, evL_s, kL_s, kL2_s, eTup_s, eLst_s, eLstR_s, kTup_s, kLst_s, kLstR_s, eCall_s, kCall_s, eFn_s, kFn_s, evO_0, evO_s, kO_s, eSlice_s, kSl_s, kSl2_s, kSl3_s, iSeq_s, kSeq_t, kSeq_l, iRange1_s, kRa_s, iRange2_s, kRb_s, kRb2_s, eComp_s, kCm_s, kCm2_s, eCompR_s, kCmR_s, kCmR2_s, compL_0, compL_s, kCo_s, kCo2_s, kCo3_s, tests_0, tests_s, kTe_s, gT_s, gTs_0, gTs_s, kG_s, gSub_s, kSub_s, kSub2_s, kSub3_s, sNop_s, sSeq_s, sRet_s, kRet_s, kRet_x, sRetN_s, sExpr_s, kEx_s, kEx_x, sAsg_s, kAs_s, kAs_x, kAs2_s, kAs2_x, sIf_s, kSIf_s, kSIf_i, kSIf_x, sFor_s, kFor_s, fnM_s, aft_r, aft_n, aft_x, turn_n, andThen_nx, andThen_rt, andThen_exc, andThen_bk, andThen_ct, add_i, sub_i, mul_i, div_i, mod_i, pow_i, neg_i, lt_i, le_i, gt_i, ge_i, eq_i, ne_i, eq_s, ne_s, isi_ii, isi_bi, isi_ti, isi_tt, isi_it, isi_bt, abs_i, min_i, max_i, int_i, len_t, len_l, list_l, list_t, list_s, tup_l, tup_t, cup_a, cup_b, eRev_s, kRv_s, kRv2_s, kRv2_l, kAg_s, kAg2_s, kPick_s, addI_i, iRange3_s, kRc_s, kRc2_s, iEnum_s, kEnum_t, kEnum_l, ite_i, ite_b, ite_o, isi_bb, isi_ss, kOr_n, maxL_1, maxL_2, maxL_3, minL_2, isN_i, isN_n, isN_t, isnN_i, isnN_n, isnN_t, v0, v1, v2, v3, v4, v5, v6, v7, v8, v9, v10, v11, v12, v13, v14, v15, v16, v17, v18, v19, v20, v21, v22, v23, v24, g0, g1, g2, g3, g4, g5, g6, g7, g8, g9, g10, g11, g12, g13, g14, g15, g16, g17, g18, g19, g20, g21, g22, g23, g24, w0, w1, w2, w3, w4, w5, w6, w7, w8, w9, w10, w11, w12, w13, w14, w15, w16, w17, w18, w19, w20, w21, w22, w23, w24, u0, u1, u2, u3, u4, u5, u6, u7, u8, u9, u10, u11, u12, u13, u14, u15, u16, u17, u18, u19, u20, u21, u22, u23, u24, List.length_cons, List.length_nil, Nat.zero_add, Nat.reduceAdd, Nat.reduceLeDiff, Nat.reduceLT, ↓reduceIte, decide_eq_true_eq, Int.reduceLT, Int.reduceLE, Int.reduceAdd, Int.reduceSub, Int.reduceMul, Int.reduceNeg, Int.reducePow, Int.reduceToNat, Int.reduceMod, Int.reduceDiv, Int.reduceEq, sz, big, lim, and_self, and_true, true_and, or_true, true_or, or_self, Bool.not_true, Bool.not_false, Bool.not_eq_true, Bool.not_eq_true', decide_true, decide_false, Bool.false_eq_true, List.map_cons, List.map_nil, rn0, rn1, rn2, rn3, rn4, rn5, rn6, rn7, rn8, rn9, rn10, rn11, rn12, rn13, rn14, rn15, rn16, rn17, rn18, rn19, rn20, rn21, rn22, rn23, rn24, rn25, rn26, rn27, rn28, rn29, Nat.sub_self, Nat.reduceSub, List.append_nil, List.cons_append, List.nil_append, reduceCtorEq, decide_not, wipeE, rng, ne_eq, not_true_eq_false, not_false_eq_true]
  · have e0 : ((cnt g a os).map D.int).isEmpty = false := by
      obtain ⟨y, r, hy⟩ := List.exists_cons_of_ne_nil h1
      rw [hy]; rfl
    by_cases h2 : g.ps.length < 6
    · rw [if_pos ⟨h1, h2⟩]
      have ad : ∀ s, dAdd s (.tup (g.ps.map (pcD st))) (.tup [.tup [.int (num st a), .tup ((cnt g a os).map .int)]]) = some (.tup ((g.ps ++ [(a, cnt g a os)]).map (pcD st))) := fun s => by
        rw [addT, if_pos (by simp [sz]; omega), List.map_append]; rfl
      rw [goD_f (g := ⟨g.c, g.w, g.ps ++ [(a, cnt g a os)], false⟩) rfl, ge]
      have h2' : ((g.ps.length : Int) < 6) := by omega
      generalize (g.ps ++ [(a, cnt g a os)]).map (pcD st) = P2 at *
      generalize (cnt g a os).map D.int = CM at *
      generalize g.w.map D.int = WM at *
      generalize g.ps.map (pcD st) = PM at *
      generalize os.map D.int = OM at *
      cases last <;> simp -implicitDefEqProofs only [f_goods_behind, sh_goods_behind, S_goods_behind_1, S_goods_behind_3, B_goods_behind_2, S_goods_behind_2, S_goods_behind_4, S_goods_behind_6, B_goods_behind_5, S_goods_behind_8, B_goods_behind_7, S_goods_behind_7, C_goods_behind_5, S_goods_behind_5, S_goods_behind_10, B_goods_behind_9, S_goods_behind_9, S_goods_behind_11, gf, gp, le, nn, e0, lo, lp, h2', ad, pl, i0, hq, eC_s, eUn_s, kUn_s, eOp_s, kOp_s, kOp2_s, ofO_s, eAnd_s, kAnd_s, eOr_s, kOr_s, eNot_s, kNot_s, eIf_s, kIf_s, kIf_i, eChain_s, kCh_s, kCh2_s, kCh3_s, evL_0, evL_s, kL_s, kL2_s, eTup_s, eLst_s, eLstR_s, kTup_s, kLst_s, kLstR_s, eCall_s, kCall_s, eFn_s, kFn_s, evO_0, evO_s, kO_s, eSlice_s, kSl_s, kSl2_s, kSl3_s, iSeq_s, kSeq_t, kSeq_l, iRange1_s, kRa_s, iRange2_s, kRb_s, kRb2_s, eComp_s, kCm_s, kCm2_s, eCompR_s, kCmR_s, kCmR2_s, compL_0, compL_s, kCo_s, kCo2_s, kCo3_s, tests_0, tests_s, kTe_s, gT_s, gTs_0, gTs_s, kG_s, gSub_s, kSub_s, kSub2_s, kSub3_s, sNop_s, sSeq_s, sRet_s, kRet_s, kRet_x, sRetN_s, sExpr_s, kEx_s, kEx_x, sAsg_s, kAs_s, kAs_x, kAs2_s, kAs2_x, sIf_s, kSIf_s, kSIf_i, kSIf_x, sFor_s, kFor_s, fnM_s, aft_r, aft_n, aft_x, turn_n, andThen_nx, andThen_rt, andThen_exc, andThen_bk, andThen_ct, add_i, sub_i, mul_i, div_i, mod_i, pow_i, neg_i, lt_i, le_i, gt_i, ge_i, eq_i, ne_i, eq_s, ne_s, isi_ii, isi_bi, isi_ti, isi_tt, isi_it, isi_bt, abs_i, min_i, max_i, int_i, len_t, len_l, list_l, list_t, list_s, tup_l, tup_t, cup_a, cup_b, eRev_s, kRv_s, kRv2_s, kRv2_l, kAg_s, kAg2_s, kPick_s, addI_i, iRange3_s, kRc_s, kRc2_s, iEnum_s, kEnum_t, kEnum_l, ite_i, ite_b, ite_o, isi_bb, isi_ss, kOr_n, maxL_1, maxL_2, maxL_3, minL_2, isN_i, isN_n, isN_t, isnN_i, isnN_n, isnN_t, v0, v1, v2, v3, v4, v5, v6, v7, v8, v9, v10, v11, v12, v13, v14, v15, v16, v17, v18, v19, v20, v21, v22, v23, v24, g0, g1, g2, g3, g4, g5, g6, g7, g8, g9, g10, g11, g12, g13, g14, g15, g16, g17, g18, g19, g20, g21, g22, g23, g24, w0, w1, w2, w3, w4, w5, w6, w7, w8, w9, w10, w11, w12, w13, w14, w15, w16, w17, w18, w19, w20, w21, w22, w23, w24, u0, u1, u2, u3, u4, u5, u6, u7, u8, u9, u10, u11, u12, u13, u14, u15, u16, u17, u18, u19, u20, u21, u22, u23, u24, List.length_cons, List.length_nil, Nat.zero_add, Nat.reduceAdd, Nat.reduceLeDiff, Nat.reduceLT, ↓reduceIte, decide_eq_true_eq, Int.reduceLT, Int.reduceLE, Int.reduceAdd, Int.reduceSub, Int.reduceMul, Int.reduceNeg, Int.reducePow, Int.reduceToNat, Int.reduceMod, Int.reduceDiv, Int.reduceEq, sz, big, lim, and_self, and_true, true_and, or_true, true_or, or_self, Bool.not_true, Bool.not_false, Bool.not_eq_true, Bool.not_eq_true', decide_true, decide_false, Bool.false_eq_true, List.map_cons, List.map_nil, rn0, rn1, rn2, rn3, rn4, rn5, rn6, rn7, rn8, rn9, rn10, rn11, rn12, rn13, rn14, rn15, rn16, rn17, rn18, rn19, rn20, rn21, rn22, rn23, rn24, rn25, rn26, rn27, rn28, rn29, Nat.sub_self, Nat.reduceSub, List.append_nil, List.cons_append, List.nil_append, reduceCtorEq, decide_not, wipeE, rng, ne_eq, not_true_eq_false, not_false_eq_true]
    · rw [if_neg (fun q => h2 q.2), ge]
      have h2' : ¬ ((g.ps.length : Int) < 6) := by omega
      generalize (cnt g a os).map D.int = CM at *
      generalize g.w.map D.int = WM at *
      generalize g.ps.map (pcD st) = PM at *
      generalize os.map D.int = OM at *
      cases last <;> simp -implicitDefEqProofs only [f_goods_behind, sh_goods_behind, S_goods_behind_1, S_goods_behind_3, B_goods_behind_2, S_goods_behind_2, S_goods_behind_4, S_goods_behind_6, B_goods_behind_5, S_goods_behind_8, B_goods_behind_7, S_goods_behind_7, C_goods_behind_5, S_goods_behind_5, S_goods_behind_10, B_goods_behind_9, S_goods_behind_9, S_goods_behind_11, gf, gp, le, nn, e0, lo, lp, h2', pl, i0, hq, eC_s, eUn_s, kUn_s, eOp_s, kOp_s, kOp2_s, ofO_s, eAnd_s, kAnd_s, eOr_s, kOr_s, eNot_s, kNot_s, eIf_s, kIf_s, kIf_i, eChain_s, kCh_s, kCh2_s, kCh3_s, evL_0, evL_s, kL_s, kL2_s, eTup_s, eLst_s, eLstR_s, kTup_s, kLst_s, kLstR_s, eCall_s, kCall_s, eFn_s, kFn_s, evO_0, evO_s, kO_s, eSlice_s, kSl_s, kSl2_s, kSl3_s, iSeq_s, kSeq_t, kSeq_l, iRange1_s, kRa_s, iRange2_s, kRb_s, kRb2_s, eComp_s, kCm_s, kCm2_s, eCompR_s, kCmR_s, kCmR2_s, compL_0, compL_s, kCo_s, kCo2_s, kCo3_s, tests_0, tests_s, kTe_s, gT_s, gTs_0, gTs_s, kG_s, gSub_s, kSub_s, kSub2_s, kSub3_s, sNop_s, sSeq_s, sRet_s, kRet_s, kRet_x, sRetN_s, sExpr_s, kEx_s, kEx_x, sAsg_s, kAs_s, kAs_x, kAs2_s, kAs2_x, sIf_s, kSIf_s, kSIf_i, kSIf_x, sFor_s, kFor_s, fnM_s, aft_r, aft_n, aft_x, turn_n, andThen_nx, andThen_rt, andThen_exc, andThen_bk, andThen_ct, add_i, sub_i, mul_i, div_i, mod_i, pow_i, neg_i, lt_i, le_i, gt_i, ge_i, eq_i, ne_i, eq_s, ne_s, isi_ii, isi_bi, isi_ti, isi_tt, isi_it, isi_bt, abs_i, min_i, max_i, int_i, len_t, len_l, list_l, list_t, list_s, tup_l, tup_t, cup_a, cup_b, eRev_s, kRv_s, kRv2_s, kRv2_l, kAg_s, kAg2_s, kPick_s, addI_i, iRange3_s, kRc_s, kRc2_s, iEnum_s, kEnum_t, kEnum_l, ite_i, ite_b, ite_o, isi_bb, isi_ss, kOr_n, maxL_1, maxL_2, maxL_3, minL_2, isN_i, isN_n, isN_t, isnN_i, isnN_n, isnN_t, v0, v1, v2, v3, v4, v5, v6, v7, v8, v9, v10, v11, v12, v13, v14, v15, v16, v17, v18, v19, v20, v21, v22, v23, v24, g0, g1, g2, g3, g4, g5, g6, g7, g8, g9, g10, g11, g12, g13, g14, g15, g16, g17, g18, g19, g20, g21, g22, g23, g24, w0, w1, w2, w3, w4, w5, w6, w7, w8, w9, w10, w11, w12, w13, w14, w15, w16, w17, w18, w19, w20, w21, w22, w23, w24, u0, u1, u2, u3, u4, u5, u6, u7, u8, u9, u10, u11, u12, u13, u14, u15, u16, u17, u18, u19, u20, u21, u22, u23, u24, List.length_cons, List.length_nil, Nat.zero_add, Nat.reduceAdd, Nat.reduceLeDiff, Nat.reduceLT, ↓reduceIte, decide_eq_true_eq, Int.reduceLT, Int.reduceLE, Int.reduceAdd, Int.reduceSub, Int.reduceMul, Int.reduceNeg, Int.reducePow, Int.reduceToNat, Int.reduceMod, Int.reduceDiv, Int.reduceEq, sz, big, lim, and_self, and_true, true_and, or_true, true_or, or_self, Bool.not_true, Bool.not_false, Bool.not_eq_true, Bool.not_eq_true', decide_true, decide_false, Bool.false_eq_true, List.map_cons, List.map_nil, rn0, rn1, rn2, rn3, rn4, rn5, rn6, rn7, rn8, rn9, rn10, rn11, rn12, rn13, rn14, rn15, rn16, rn17, rn18, rn19, rn20, rn21, rn22, rn23, rn24, rn25, rn26, rn27, rn28, rn29, Nat.sub_self, Nat.reduceSub, List.append_nil, List.cons_append, List.nil_append, reduceCtorEq, decide_not, wipeE, rng, ne_eq, not_true_eq_false, not_false_eq_true]
end
/-! ### of one row -/
structure RowI (row : List Int) (t : Nat) (M : List Pc) (g : Go) : Prop where
  hc : g.c ≤ row.length
  ht : t ≤ g.c
  hw : g.w = (row.drop t).take (g.c - t)
  hp : ∀ p ∈ g.ps, p.2 = (row.drop p.1).take p.2.length ∧ p.1 + p.2.length ≤ row.length
  hn : g.ps.length ≤ 6
  hm : ∀ p ∈ M, p ∈ g.ps ∨ p.1 + p.2.length ≤ g.c
  he : g.e = false
section
variable {st : Int} {g : Go} {row : List Int} {t : Nat} {M : List Pc} (hs : 0 ≤ st ∧ st ≤ 4294967295) (ho : Oct row) (hl : row.length ≤ 280)
include hs ho hl
theorem RowI.ok (h : RowI row t M g) : GoOK st g := by
  refine ⟨hs, by have := h.hc; omega, ⟨?_, ?_⟩, fun p m => ⟨?_, ?_, ?_⟩, h.hn⟩
  · rw [h.hw]; exact (ho.drop _).take _
  · rw [h.hw, List.length_take, List.length_drop]; omega
  · have := (h.hp p m).2; omega
  · rw [(h.hp p m).1]; exact (ho.drop _).take _
  · have := (h.hp p m).2; omega
omit hs ho in
theorem cnt_row {a : Nat} {os : List Int} (h : RowI row t M g) (hos : os.length + a ≤ row.length) : cnt g a os = os.drop (g.c - a) := by
  have lw : g.w.length = g.c - t := by have := h.hc; have := h.ht; rw [h.hw, List.length_take, List.length_drop]; omega
  have := h.ht
  unfold cnt
  rw [List.take_of_length_le]
  rw [List.length_drop]; omega
omit hs ho hl in
/-- w and what comes next -/
theorem join_row {c a n : Nat} (ht : t ≤ c) (ha : a ≤ c) : (row.drop t).take (c - t) ++ ((row.drop a).take n).drop (c - a) = (row.drop t).take (c + (n - (c - a)) - t) := by
  rw [List.drop_take, List.drop_drop, show a + (c - a) = t + (c - t) by omega, ← List.drop_drop, ← List.take_add, show c - t + (n - (c - a)) = c + (n - (c - a)) - t by omega]
omit hs ho in
theorem ord_row {a n : Nat} (h : RowI row t M g) (ha : a ≤ g.c) (hb : a + n ≤ row.length) : RowI row t M (ord g (cnt g a ((row.drop a).take n))) ∧ (ord g (cnt g a ((row.drop a).take n))).c = max g.c (a + n) := by
  have hc := h.hc
  have ht := h.ht
  have ln : ((row.drop a).take n).length = n := by rw [List.length_take, List.length_drop]; omega
  have ec := cnt_row hl h (a := a) (os := (row.drop a).take n) (by omega)
  have lc : (((row.drop a).take n).drop (g.c - a)).length = n - (g.c - a) := by rw [List.length_drop, ln]
  have ecc : (ord g (cnt g a ((row.drop a).take n))).c = g.c + (n - (g.c - a)) := by
    show g.c + (cnt g a ((row.drop a).take n)).length = _
    rw [ec, lc]
  refine ⟨⟨by rw [ecc]; omega, by rw [ecc]; omega, ?_, h.hp, h.hn, fun p m => (h.hm p m).elim .inl fun q => .inr (by rw [ecc]; omega), h.he⟩, by rw [ecc]; omega⟩
  rw [ecc]
  show g.w ++ cnt g a ((row.drop a).take n) = _
  rw [ec, h.hw, join_row ht ha]
omit hs ho in
theorem step_row {i : Nat} {p : Pc} (h : RowI row t M g) (hi : g.ps[i]? = some p) (hp : p.1 ≤ g.c) : RowI row t M (stepG g i p) ∧ g.c ≤ (stepG g i p).c := by
  obtain ⟨k1, k2⟩ := h.hp p (List.mem_of_getElem? hi)
  -- without the piece
  have h' : RowI row t [] ⟨g.c, g.w, g.ps.eraseIdx i, g.e⟩ := ⟨h.hc, h.ht, h.hw, fun q m => h.hp q (List.mem_of_mem_eraseIdx m), by have := List.length_eraseIdx_le g.ps i; have := h.hn; show (g.ps.eraseIdx i).length ≤ 6; omega, fun q m => absurd m List.not_mem_nil, h.he⟩
  obtain ⟨o1, o2⟩ := ord_row hl h' hp k2
  rw [← k1] at o1 o2
  have o1 : RowI row t [] (stepG g i p) := o1
  have o2 : (stepG g i p).c = max g.c (p.1 + p.2.length) := o2
  refine ⟨⟨o1.hc, o1.ht, o1.hw, o1.hp, o1.hn, fun q m => ?_, o1.he⟩, by omega⟩
  rcases h.hm q m with mq | mq
  · obtain ⟨j, hj⟩ := List.mem_iff_getElem?.mp mq
    by_cases e : j = i
    · subst e
      rw [hi] at hj
      obtain rfl : p = q := by injection hj
      exact .inr (by omega)
    · exact .inl (List.mem_eraseIdx_iff_getElem?.mpr ⟨j, e, hj⟩)
  · exact .inr (by omega)
omit hs ho hl in
theorem RowI.weak (h : RowI row t M g) : RowI row t [] g := ⟨h.hc, h.ht, h.hw, h.hp, h.hn, fun q m => absurd m List.not_mem_nil, h.he⟩
omit hs ho hl in
theorem RowI.self (h : RowI row t M g) : RowI row t g.ps g := ⟨h.hc, h.ht, h.hw, h.hp, h.hn, fun q m => .inl m, h.he⟩
/-- a segment whose turn it is -/
theorem rbeh_le {a n : Nat} (h : RowI row t M g) (ha : a ≤ g.c) (hb : a + n ≤ row.length) : ∃ g', RowI row t g.ps g' ∧ (∀ p ∈ g'.ps, g'.c < p.1) ∧ max g.c (a + n) ≤ g'.c ∧ ((∀ p ∈ g.ps, max g.c (a + n) < p.1) → g'.ps = g.ps ∧ g'.c = max g.c (a + n)) ∧
    ∀ (s : Store) (last : Bool), (last = true → a + n = row.length) → f_goods_behind [goD st g, .int (num st a), .tup (((row.drop a).take n).map .int), .bl last] s = .ok (goD st (if last = true then ⟨row.length, row.drop t, [], true⟩ else g')) s := by
  obtain ⟨o1, o2⟩ := ord_row hl h.self ha hb
  have ln : ((row.drop a).take n).length = n := by rw [List.length_take, List.length_drop]; omega
  obtain ⟨g', ⟨k1, k2⟩, k3, k4, k5⟩ := wp_ok (st := st) (I := fun g' => RowI row t g.ps g' ∧ max g.c (a + n) ≤ g'.c) (fun g' ig => ⟨ig.1.ok hs ho hl, ig.1.he⟩) (fun g' i p ig hi hp => by
    obtain ⟨q1, q2⟩ := step_row hl ig.1 hi hp
    exact ⟨q1, Nat.le_trans ig.2 q2⟩) (g := ord g (cnt g a ((row.drop a).take n))) ⟨o1, by rw [o2]; exact Nat.le_refl _⟩
  refine ⟨g', k1, k3, k2, fun hno => ?_, fun s last hlast => ?_⟩
  · have := k4 (fun p m => by rw [o2]; exact hno p m)
    rw [this]
    exact ⟨rfl, o2⟩
  · have hc' := k1.hc
    have := beh_le (s := s) (os := (row.drop a).take n) (last := last) (h.ok hs ho hl) h.he ha (by omega) k5 k1.he (by omega)
    rw [this, ln]
    cases last with
    | false => rw [if_neg (fun q => nomatch q.1), if_neg (by decide)]
    | true =>
      have hr := hlast rfl
      have ec : g'.c = row.length := by omega
      rw [if_pos ⟨rfl, by omega⟩, if_pos rfl, ec, k1.hw, ec, List.take_of_length_le (by rw [List.length_drop]; omega)]
theorem rbeh_gt {a n : Nat} (h : RowI row t M g) (ha : g.c < a) (hb : a + n ≤ row.length) (s : Store) (last : Bool) : f_goods_behind [goD st g, .int (num st a), .tup (((row.drop a).take n).map .int), .bl last] s = .ok (goD st (if n ≠ 0 ∧ g.ps.length < 6 then ⟨g.c, g.w, g.ps ++ [(a, (row.drop a).take n)], false⟩ else g)) s := by
  have ln : ((row.drop a).take n).length = n := by rw [List.length_take, List.length_drop]; omega
  have := beh_gt (s := s) (os := (row.drop a).take n) (last := last) (h.ok hs ho hl) h.he ha (by omega) (by omega) ((ho.drop _).take _)
  have ec := cnt_row hl h (a := a) (os := (row.drop a).take n) (by omega)
  rw [show g.c - a = 0 by omega, List.drop_zero] at ec
  rw [this, ec]
  by_cases hn : n = 0
  · subst hn
    rw [if_neg (fun q => q.1 rfl), if_neg (fun q => q.1 rfl)]
  · have : (row.drop a).take n ≠ [] := fun q => hn (by rw [q] at ln; exact ln.symm)
    by_cases h6 : g.ps.length < 6
    · rw [if_pos ⟨this, h6⟩, if_pos ⟨hn, h6⟩]
    · rw [if_neg (fun q => h6 q.2), if_neg (fun q => h6 q.2)]
omit hs ho hl in
theorem add_row {a n : Nat} (h : RowI row t M g) (hb : a + n ≤ row.length) (hn : g.ps.length < 6) : RowI row t [] ⟨g.c, g.w, g.ps ++ [(a, (row.drop a).take n)], false⟩ := by
  refine ⟨h.hc, h.ht, h.hw, fun p m => ?_, by show (g.ps ++ _).length ≤ 6; rw [List.length_append, List.length_singleton]; omega, fun q m => absurd m List.not_mem_nil, rfl⟩
  rcases List.mem_append.mp m with m | m
  · exact h.hp p m
  · obtain rfl := List.mem_singleton.mp m
    have ln : ((row.drop a).take n).length = n := by rw [List.length_take, List.length_drop]; omega
    dsimp only
    rw [ln]
    exact ⟨rfl, hb⟩
/-- of one row, ended or not -/
def GR (row : List Int) (t : Nat) (g : Go) : Prop := RowI row t [] g ∨ (g = ⟨row.length, row.drop t, [], true⟩ ∧ t ≤ row.length)
theorem rbeh {a n : Nat} {last : Bool} (h : GR row t g) (hb : a + n ≤ row.length) (hlast : last = true → a + n = row.length) : ∃ g', GR row t g' ∧ ∀ s, f_goods_behind [goD st g, .int (num st a), .tup (((row.drop a).take n).map .int), .bl last] s = .ok (goD st g') s := by
  rcases h with h | ⟨h, h'⟩
  · by_cases ha : a ≤ g.c
    · obtain ⟨g', k1, _, _, _, k5⟩ := rbeh_le hs ho hl h ha hb
      refine ⟨if last = true then ⟨row.length, row.drop t, [], true⟩ else g', ?_, fun s => k5 s last hlast⟩
      cases last with
      | true => exact .inr ⟨rfl, Nat.le_trans h.ht h.hc⟩
      | false => exact .inl k1.weak
    · refine ⟨_, ?_, fun s => rbeh_gt hs ho hl h (by omega) hb s last⟩
      split
      · rename_i q
        exact .inl (add_row h hb q.2)
      · exact .inl h
  · exact ⟨g, .inr ⟨h, h'⟩, fun s => beh_end (by rw [h])⟩
omit hs ho hl in
theorem GR.facts (h : GR row t g) : g.c ≤ row.length ∧ t ≤ g.c ∧ g.w = (row.drop t).take (g.c - t) ∧ (g.e = true → g.c = row.length) := by
  rcases h with h | ⟨h, h'⟩
  · exact ⟨h.hc, h.ht, h.hw, fun q => by rw [h.he] at q; exact nomatch q⟩
  · subst h
    exact ⟨Nat.le_refl _, h', (List.take_of_length_le (by rw [List.length_drop]; exact Nat.le_refl _)).symm, fun _ => rfl⟩
omit hs ho in
theorem rtake {m : Nat} (h : GR row t g) : ∃ t' g', GR row t' g' ∧ t' ≤ row.length ∧ t ≤ t' ∧ (g.e = true → g'.e = true) ∧ (t' = min (t + m) g.c) ∧ (∀ s, f_taken_from [goD st g, .int (m : Int)] s = .ok (.tup [goD st g', .tup (((row.drop t).take (t' - t)).map .int)]) s) ∧ g'.w = g.w.drop m := by
  obtain ⟨f1, f2, f3, f4⟩ := h.facts
  have lw : g.w.length = g.c - t := by rw [f3, List.length_take, List.length_drop]; omega
  have hto := slO_to (xs := g.w) (i := (m : Int)) (by omega)
  have hfr := slO_from (xs := g.w) (i := (m : Int)) (by omega)
  have eo : g.w.take (m : Int).toNat = (row.drop t).take (min (t + m) g.c - t) := by
    rw [Int.toNat_natCast, f3, List.take_take]
    congr 1; omega
  rw [eo] at hto
  rw [Int.toNat_natCast] at hfr
  refine ⟨min (t + m) g.c, ⟨g.c, g.w.drop m, g.ps, g.e⟩, ?_, by omega, by omega, fun q => q, rfl, fun s => ?_, rfl⟩
  · rcases h with h | ⟨h, h'⟩
    · refine .inl ⟨h.hc, Nat.min_le_right _ _, ?_, h.hp, h.hn, fun q m => absurd m List.not_mem_nil, h.he⟩
      show g.w.drop m = _
      rw [h.hw, List.drop_take, List.drop_drop]
      by_cases q : t + m ≤ g.c
      · rw [Nat.min_eq_left q]; congr 1; show g.c - t - m = g.c - (t + m); omega
      · rw [Nat.min_eq_right (by omega)]
        rw [show g.c - t - m = 0 by omega]
        show _ = List.take (g.c - g.c) _
        rw [Nat.sub_self]; rfl
    · subst h
      refine .inr ⟨?_, Nat.min_le_right _ _⟩
      show Go.mk _ ((row.drop t).drop m) _ _ = Go.mk _ (row.drop (min (t + m) row.length)) _ _
      rw [List.drop_drop]
      by_cases q : t + m ≤ row.length
      · rw [Nat.min_eq_left q]
      · rw [Nat.min_eq_right (by omega), List.drop_of_length_le (i := t + m) (by omega), List.drop_of_length_le (i := row.length) (Nat.le_refl _)]
  · show _ = Res.ok (D.tup [.tup [.int (num st ((g.c : Int) + if g.e = true then 1 else 0)), .tup ((g.w.drop m).map .int), .tup (g.ps.map (pcD st)), .bl g.e], _]) s
    unfold goD
    generalize (num st ((g.c : Int) + if g.e = true then 1 else 0)) = N at *
    generalize (g.w.drop m).map D.int = W2 at *
    generalize ((row.drop t).take (min (t + m) g.c - t)).map D.int = W3 at *
    generalize g.w.map D.int = WM at *
    generalize g.ps.map (pcD st) = PM at *
    simp -implicitDefEqProofs only [f_taken_from, sh_taken_from, S_taken_from_1, S_taken_from_2, hto, hfr, eC_s, eUn_s, kUn_s, eOp_s, kOp_s, kOp2_s, ofO_s, eAnd_s, kAnd_s, eOr_s, kOr_s, eNot_s, kNot_s, eIf_s, kIf_s, kIf_i, eChain_s, kCh_s, kCh2_s, kCh3_s, evL_0, evL_s, kL_s, kL2_s, eTup_s, eLst_s, eLstR_s, kTup_s, kLst_s, kLstR_s, eCall_s, kCall_s, eFn_s, kFn_s, evO_0, evO_s, kO_s, eSlice_s, kSl_s, kSl2_s, kSl3_s, iSeq_s, kSeq_t, kSeq_l, iRange1_s, kRa_s, iRange2_s, kRb_s, kRb2_s, eComp_s, kCm_s, kCm2_s, eCompR_s, kCmR_s, kCmR2_s, compL_0, compL_s, kCo_s, kCo2_s, kCo3_s, tests_0, tests_s, kTe_s, gT_s, gTs_0, gTs_s, kG_s, gSub_s, kSub_s, kSub2_s, kSub3_s, sNop_s, sSeq_s, sRet_s, kRet_s, kRet_x, sRetN_s, sExpr_s, kEx_s, kEx_x, sAsg_s, kAs_s, kAs_x, kAs2_s, kAs2_x, sIf_s, kSIf_s, kSIf_i, kSIf_x, sFor_s, kFor_s, fnM_s, aft_r, aft_n, aft_x, turn_n, andThen_nx, andThen_rt, andThen_exc, andThen_bk, andThen_ct, add_i, sub_i, mul_i, div_i, mod_i, pow_i, neg_i, lt_i, le_i, gt_i, ge_i, eq_i, ne_i, eq_s, ne_s, isi_ii, isi_bi, isi_ti, isi_tt, isi_it, isi_bt, abs_i, min_i, max_i, int_i, len_t, len_l, list_l, list_t, list_s, tup_l, tup_t, addL, addT, cup_a, cup_b, eRev_s, kRv_s, kRv2_s, kRv2_l, kAg_s, kAg2_s, kPick_s, addI_i, iRange3_s, kRc_s, kRc2_s, iEnum_s, kEnum_t, kEnum_l, ite_i, ite_b, ite_o, isi_bb, isi_ss, kOr_n, maxL_1, maxL_2, maxL_3, minL_2, isN_i, isN_n, isN_t, isnN_i, isnN_n, isnN_t, v0, v1, v2, v3, v4, v5, v6, v7, v8, v9, v10, v11, v12, v13, v14, v15, v16, v17, v18, v19, v20, v21, v22, v23, v24, g0, g1, g2, g3, g4, g5, g6, g7, g8, g9, g10, g11, g12, g13, g14, g15, g16, g17, g18, g19, g20, g21, g22, g23, g24, w0, w1, w2, w3, w4, w5, w6, w7, w8, w9, w10, w11, w12, w13, w14, w15, w16, w17, w18, w19, w20, w21, w22, w23, w24, u0, u1, u2, u3, u4, u5, u6, u7, u8, u9, u10, u11, u12, u13, u14, u15, u16, u17, u18, u19, u20, u21, u22, u23, u24, List.length_cons, List.length_nil, Nat.zero_add, Nat.reduceAdd, Nat.reduceLeDiff, Nat.reduceLT, ↓reduceIte, decide_eq_true_eq, Int.reduceLT, Int.reduceLE, Int.reduceAdd, Int.reduceSub, Int.reduceMul, Int.reduceNeg, Int.reducePow, Int.reduceToNat, Int.reduceMod, Int.reduceDiv, Int.reduceEq, sz, big, lim, and_self, and_true, true_and, or_true, true_or, or_self, Bool.not_true, Bool.not_false, Bool.not_eq_true, Bool.not_eq_true', decide_true, decide_false, Bool.false_eq_true, List.map_cons, List.map_nil, rn0, rn1, rn2, rn3, rn4, rn5, rn6, rn7, rn8, rn9, rn10, rn11, rn12, rn13, rn14, rn15, rn16, rn17, rn18, rn19, rn20, rn21, rn22, rn23, rn24, rn25, rn26, rn27, rn28, rn29, Nat.sub_self, Nat.reduceSub, List.append_nil, List.cons_append, List.nil_append, reduceCtorEq, decide_not, wipeE, rng, ne_eq, not_true_eq_false, not_false_eq_true]
end
/-! ### texts of goods -/
theorem repr_go {st p : Int} {w : List Int} {e : Bool} (hw : Oct w) (hl : w.length ≤ 400) : ∃ x : Str, ∀ s, fRepr s [.tup [.int (num st p), .tup (w.map .int), .tup [], .bl e]] = some (.str x) := by
  refine ⟨_, fun s => repr_ok ?_ ?_ ?_⟩
  · have := num_lo (st := st) p
    exact ⟨(show -hug < num st p ∧ num st p < hug by unfold hug; omega), okRs_oct hw, trivial, trivial, trivial⟩
  · show D.mass _ ≤ sz
    simp only [D.mass, D.masss, mass_oct, List.length_map, sz]
    omega
  · show D.dep _ ≤ 63
    simp only [D.dep, D.deps, dep_oct]
    decide
theorem eqSelf {s : Store} {x : Str} : dEq s (.str x) (.str x) = some (.bl true) := by
  show some (D.bl (decide (x = x))) = _
  rw [decide_eq_true rfl]
theorem fresh_ok {st : Int} {s : Store} (hs : 0 ≤ st ∧ st ≤ 4294967295) : f_fresh_goods [.int st] s = .ok (goD st ⟨0, [], [], false⟩) s := by
  have e : goD st ⟨0, [], [], false⟩ = .tup [.int st, .tup [], .tup [], .bl false] := by
    rw [goD_f rfl]
    show D.tup [.int (num st 0), _, _, _] = _
    rw [show num st 0 = st by unfold num; omega]
    rfl
  rw [e]
  simp -implicitDefEqProofs only [f_fresh_goods, sh_fresh_goods, S_fresh_goods_1, eC_s, eUn_s, kUn_s, eOp_s, kOp_s, kOp2_s, ofO_s, eAnd_s, kAnd_s, eOr_s, kOr_s, eNot_s, kNot_s, eIf_s, kIf_s, kIf_i, eChain_s, kCh_s, kCh2_s, kCh3_s, evL_0, evL_s, kL_s, kL2_s, eTup_s, eLst_s, eLstR_s, kTup_s, kLst_s, kLstR_s, eCall_s, kCall_s, eFn_s, kFn_s, evO_0, evO_s, kO_s, eSlice_s, kSl_s, kSl2_s, kSl3_s, iSeq_s, kSeq_t, kSeq_l, iRange1_s, kRa_s, iRange2_s, kRb_s, kRb2_s, eComp_s, kCm_s, kCm2_s, eCompR_s, kCmR_s, kCmR2_s, compL_0, compL_s, kCo_s, kCo2_s, kCo3_s, tests_0, tests_s, kTe_s, gT_s, gTs_0, gTs_s, kG_s, gSub_s, kSub_s, kSub2_s, kSub3_s, sNop_s, sSeq_s, sRet_s, kRet_s, kRet_x, sRetN_s, sExpr_s, kEx_s, kEx_x, sAsg_s, kAs_s, kAs_x, kAs2_s, kAs2_x, sIf_s, kSIf_s, kSIf_i, kSIf_x, sFor_s, kFor_s, fnM_s, aft_r, aft_n, aft_x, turn_n, andThen_nx, andThen_rt, andThen_exc, andThen_bk, andThen_ct, add_i, sub_i, mul_i, div_i, mod_i, pow_i, neg_i, lt_i, le_i, gt_i, ge_i, eq_i, ne_i, eq_s, ne_s, isi_ii, isi_bi, isi_ti, isi_tt, isi_it, isi_bt, abs_i, min_i, max_i, int_i, len_t, len_l, list_l, list_t, list_s, tup_l, tup_t, addL, addT, cup_a, cup_b, eRev_s, kRv_s, kRv2_s, kRv2_l, kAg_s, kAg2_s, kPick_s, addI_i, iRange3_s, kRc_s, kRc2_s, iEnum_s, kEnum_t, kEnum_l, ite_i, ite_b, ite_o, isi_bb, isi_ss, kOr_n, maxL_1, maxL_2, maxL_3, minL_2, isN_i, isN_n, isN_t, isnN_i, isnN_n, isnN_t, v0, v1, v2, v3, v4, v5, v6, v7, v8, v9, v10, v11, v12, v13, v14, v15, v16, v17, v18, v19, v20, v21, v22, v23, v24, g0, g1, g2, g3, g4, g5, g6, g7, g8, g9, g10, g11, g12, g13, g14, g15, g16, g17, g18, g19, g20, g21, g22, g23, g24, w0, w1, w2, w3, w4, w5, w6, w7, w8, w9, w10, w11, w12, w13, w14, w15, w16, w17, w18, w19, w20, w21, w22, w23, w24, u0, u1, u2, u3, u4, u5, u6, u7, u8, u9, u10, u11, u12, u13, u14, u15, u16, u17, u18, u19, u20, u21, u22, u23, u24, List.length_cons, List.length_nil, Nat.zero_add, Nat.reduceAdd, Nat.reduceLeDiff, Nat.reduceLT, ↓reduceIte, decide_eq_true_eq, Int.reduceLT, Int.reduceLE, Int.reduceAdd, Int.reduceSub, Int.reduceMul, Int.reduceNeg, Int.reducePow, Int.reduceToNat, Int.reduceMod, Int.reduceDiv, Int.reduceEq, sz, big, lim, and_self, and_true, true_and, or_true, true_or, or_self, Bool.not_true, Bool.not_false, Bool.not_eq_true, Bool.not_eq_true', decide_true, decide_false, Bool.false_eq_true, List.map_cons, List.map_nil, rn0, rn1, rn2, rn3, rn4, rn5, rn6, rn7, rn8, rn9, rn10, rn11, rn12, rn13, rn14, rn15, rn16, rn17, rn18, rn19, rn20, rn21, rn22, rn23, rn24, rn25, rn26, rn27, rn28, rn29, Nat.sub_self, Nat.reduceSub, List.append_nil, List.cons_append, List.nil_append, reduceCtorEq, decide_not, wipeE, rng, ne_eq, not_true_eq_false, not_false_eq_true]
theorem taken_ok {st : Int} {g : Go} {m : Nat} {s : Store} : f_taken_from [goD st g, .int (m : Int)] s = .ok (.tup [goD st ⟨g.c, g.w.drop m, g.ps, g.e⟩, .tup ((g.w.take m).map .int)]) s := by
  have hto := slO_to (xs := g.w) (i := (m : Int)) (by omega)
  have hfr := slO_from (xs := g.w) (i := (m : Int)) (by omega)
  rw [Int.toNat_natCast] at hto hfr
  show _ = Res.ok (D.tup [.tup [.int (num st ((g.c : Int) + if g.e = true then 1 else 0)), .tup ((g.w.drop m).map .int), .tup (g.ps.map (pcD st)), .bl g.e], _]) s
  unfold goD
  generalize (num st ((g.c : Int) + if g.e = true then 1 else 0)) = N at *
  generalize (g.w.drop m).map D.int = W2 at *
  generalize (g.w.take m).map D.int = W3 at *
  generalize g.w.map D.int = WM at *
  generalize g.ps.map (pcD st) = PM at *
  simp -implicitDefEqProofs only [f_taken_from, sh_taken_from, S_taken_from_1, S_taken_from_2, hto, hfr, eC_s, eUn_s, kUn_s, eOp_s, kOp_s, kOp2_s, ofO_s, eAnd_s, kAnd_s, eOr_s, kOr_s, eNot_s, kNot_s, eIf_s, kIf_s, kIf_i, eChain_s, kCh_s, kCh2_s, kCh3_s, evL_0, evL_s, kL_s, kL2_s, eTup_s, eLst_s, eLstR_s, kTup_s, kLst_s, kLstR_s, eCall_s, kCall_s, eFn_s, kFn_s, evO_0, evO_s, kO_s, eSlice_s, kSl_s, kSl2_s, kSl3_s, iSeq_s, kSeq_t, kSeq_l, iRange1_s, kRa_s, iRange2_s, kRb_s, kRb2_s, eComp_s, kCm_s, kCm2_s, eCompR_s, kCmR_s, kCmR2_s, compL_0, compL_s, kCo_s, kCo2_s, kCo3_s, tests_0, tests_s, kTe_s, gT_s, gTs_0, gTs_s, kG_s, gSub_s, kSub_s, kSub2_s, kSub3_s, sNop_s, sSeq_s, sRet_s, kRet_s, kRet_x, sRetN_s, sExpr_s, kEx_s, kEx_x, sAsg_s, kAs_s, kAs_x, kAs2_s, kAs2_x, sIf_s, kSIf_s, kSIf_i, kSIf_x, sFor_s, kFor_s, fnM_s, aft_r, aft_n, aft_x, turn_n, andThen_nx, andThen_rt, andThen_exc, andThen_bk, andThen_ct, add_i, sub_i, mul_i, div_i, mod_i, pow_i, neg_i, lt_i, le_i, gt_i, ge_i, eq_i, ne_i, eq_s, ne_s, isi_ii, isi_bi, isi_ti, isi_tt, isi_it, isi_bt, abs_i, min_i, max_i, int_i, len_t, len_l, list_l, list_t, list_s, tup_l, tup_t, addL, addT, cup_a, cup_b, eRev_s, kRv_s, kRv2_s, kRv2_l, kAg_s, kAg2_s, kPick_s, addI_i, iRange3_s, kRc_s, kRc2_s, iEnum_s, kEnum_t, kEnum_l, ite_i, ite_b, ite_o, isi_bb, isi_ss, kOr_n, maxL_1, maxL_2, maxL_3, minL_2, isN_i, isN_n, isN_t, isnN_i, isnN_n, isnN_t, v0, v1, v2, v3, v4, v5, v6, v7, v8, v9, v10, v11, v12, v13, v14, v15, v16, v17, v18, v19, v20, v21, v22, v23, v24, g0, g1, g2, g3, g4, g5, g6, g7, g8, g9, g10, g11, g12, g13, g14, g15, g16, g17, g18, g19, g20, g21, g22, g23, g24, w0, w1, w2, w3, w4, w5, w6, w7, w8, w9, w10, w11, w12, w13, w14, w15, w16, w17, w18, w19, w20, w21, w22, w23, w24, u0, u1, u2, u3, u4, u5, u6, u7, u8, u9, u10, u11, u12, u13, u14, u15, u16, u17, u18, u19, u20, u21, u22, u23, u24, List.length_cons, List.length_nil, Nat.zero_add, Nat.reduceAdd, Nat.reduceLeDiff, Nat.reduceLT, ↓reduceIte, decide_eq_true_eq, Int.reduceLT, Int.reduceLE, Int.reduceAdd, Int.reduceSub, Int.reduceMul, Int.reduceNeg, Int.reducePow, Int.reduceToNat, Int.reduceMod, Int.reduceDiv, Int.reduceEq, sz, big, lim, and_self, and_true, true_and, or_true, true_or, or_self, Bool.not_true, Bool.not_false, Bool.not_eq_true, Bool.not_eq_true', decide_true, decide_false, Bool.false_eq_true, List.map_cons, List.map_nil, rn0, rn1, rn2, rn3, rn4, rn5, rn6, rn7, rn8, rn9, rn10, rn11, rn12, rn13, rn14, rn15, rn16, rn17, rn18, rn19, rn20, rn21, rn22, rn23, rn24, rn25, rn26, rn27, rn28, rn29, Nat.sub_self, Nat.reduceSub, List.append_nil, List.cons_append, List.nil_append, reduceCtorEq, decide_not, wipeE, rng, ne_eq, not_true_eq_false, not_false_eq_true]
/-! ### all of a row came -/
theorem cover_row {row : List Int} {t k m : Nat} {M : List Pc} {g : Go} (hk : 0 < k) (h : RowI row t M g) (hno : ∀ p ∈ g.ps, g.c < p.1) (hc : min (m * k) row.length ≤ g.c) (hM : ∀ j, m ≤ j → j * k < row.length → ∃ p ∈ M, p.1 = j * k ∧ p.2.length = min k (row.length - j * k)) : g.c = row.length ∧ g.ps = [] := by
  have hcl := h.hc
  have e : g.c = row.length := by
    refine Nat.le_antisymm hcl (Nat.le_of_not_lt fun q => ?_)
    have d1 : m ≤ g.c / k := (Nat.le_div_iff_mul_le hk).mpr (by omega)
    have d2 : g.c / k * k ≤ g.c := Nat.div_mul_le_self _ _
    have d3 : g.c < g.c / k * k + k := by have := Nat.lt_div_mul_add hk (a := g.c); exact this
    obtain ⟨p, mp, p1, p2⟩ := hM (g.c / k) d1 (by omega)
    generalize g.c / k * k = z at *
    rcases h.hm p mp with q' | q'
    · have := hno p q'; omega
    · omega
  refine ⟨e, ?_⟩
  cases hps : g.ps with
  | nil => rfl
  | cons p r =>
    have mp : p ∈ g.ps := by rw [hps]; exact List.mem_cons_self
    have := hno p mp
    have := (h.hp p mp).2
    omega
theorem fresh_row {row : List Int} : RowI row 0 [] ⟨0, [], [], false⟩ := ⟨Nat.zero_le _, Nat.le_refl _, rfl, fun p m => absurd m List.not_mem_nil, Nat.zero_le _, fun p m => absurd m List.not_mem_nil, rfl⟩
/-! ### backwards -/
section
variable {st : Int} {row : List Int} (hs : 0 ≤ st ∧ st ≤ 4294967295) (ho : Oct row) (hl : row.length ≤ 280)
include hs ho hl
theorem bw_step {g : Go} {a b : Nat} {x2 x5 : Option D} {s : Store} {G' : D} (hw : g.w = []) (ha : a ≤ row.length) (hb : b = min row.length (a + 47)) (hg : ∀ s, f_goods_behind [goD st g, .int (num st a), .tup (((row.drop a).take (b - a)).map .int), .bl (decide (b = row.length))] s = .ok G' s) :
    turn (gN 2) B_law_backwards_2 (.int (a : Int)) [some (.int st), some (.tup (row.map .int)), x2, some (goD st g), some (.int (row.length : Int)), x5] s = .nx [some (.int st), some (.tup (row.map .int)), some (.int (a : Int)), some G', some (.int (row.length : Int)), some (.int (b : Int))] s := by
  have mn : ∀ s, fMin s [.int (row.length : Int), .int ((a : Int) + 47)] = some (.int (b : Int)) := fun s => by
    rw [min_i]; congr 2; split <;> omega
  have i1 : ∀ s, dItem s (goD st g) (.int 1) = some (.tup []) := fun s => by
    show some (D.tup (g.w.map .int)) = _
    rw [hw]; rfl
  have ne : ∀ s, dNe s (.tup []) (.tup []) = some (.bl false) := fun s => ne_nilT (ds := []) trivial (by decide)
  have nb := fun s => numb_ok (p := (a : Int)) (s := s) hs (by omega)
  have sl : ∀ s, dSlice s (.tup (row.map .int)) (some (a : Int)) (some (b : Int)) = some (.tup (((row.drop a).take (b - a)).map .int)) := fun s => by
    rw [slO_mid (by omega) (by omega), Int.toNat_natCast, Int.toNat_natCast]
  have eq : ∀ s, dEq s (.int (b : Int)) (.int (row.length : Int)) = some (.bl (decide (b = row.length))) := fun s => by
    rw [eq_i]; congr 2
    exact decide_eq_decide.mpr (by omega)
  generalize goD st g = G at *
  generalize ((row.drop a).take (b - a)).map D.int = OM at *
  generalize row.map D.int = RM at *
  generalize decide (b = row.length) = L at *
  simp -implicitDefEqProofs only [S_law_backwards_3, S_law_backwards_5, B_law_backwards_4, S_law_backwards_4, S_law_backwards_6, B_law_backwards_2, mn, i1, ne, nb, sl, eq, hg, eC_s, eUn_s, kUn_s, eOp_s, kOp_s, kOp2_s, ofO_s, eAnd_s, kAnd_s, eOr_s, kOr_s, eNot_s, kNot_s, eIf_s, kIf_s, kIf_i, eChain_s, kCh_s, kCh2_s, kCh3_s, evL_0, evL_s, kL_s, kL2_s, eTup_s, eLst_s, eLstR_s, kTup_s, kLst_s, kLstR_s, eCall_s, kCall_s, eFn_s, kFn_s, evO_0, evO_s, kO_s, eSlice_s, kSl_s, kSl2_s, kSl3_s, iSeq_s, kSeq_t, kSeq_l, iRange1_s, kRa_s, iRange2_s, kRb_s, kRb2_s, eComp_s, kCm_s, kCm2_s, eCompR_s, kCmR_s, kCmR2_s, compL_0, compL_s, kCo_s, kCo2_s, kCo3_s, tests_0, tests_s, kTe_s, gT_s, gTs_0, gTs_s, kG_s, gSub_s, kSub_s, kSub2_s, kSub3_s, sNop_s, sSeq_s, sRet_s, kRet_s, kRet_x, sRetN_s, sExpr_s, kEx_s, kEx_x, sAsg_s, kAs_s, kAs_x, kAs2_s, kAs2_x, sIf_s, kSIf_s, kSIf_i, kSIf_x, sFor_s, kFor_s, fnM_s, aft_r, aft_n, aft_x, turn_n, andThen_nx, andThen_rt, andThen_exc, andThen_bk, andThen_ct, add_i, sub_i, mul_i, div_i, mod_i, pow_i, neg_i, lt_i, le_i, gt_i, ge_i, eq_i, ne_i, eq_s, ne_s, isi_ii, isi_bi, isi_ti, isi_tt, isi_it, isi_bt, abs_i, min_i, max_i, int_i, len_t, len_l, list_l, list_t, list_s, tup_l, tup_t, cup_a, cup_b, eRev_s, kRv_s, kRv2_s, kRv2_l, kAg_s, kAg2_s, kPick_s, addI_i, iRange3_s, kRc_s, kRc2_s, iEnum_s, kEnum_t, kEnum_l, ite_i, ite_b, ite_o, isi_bb, isi_ss, kOr_n, maxL_1, maxL_2, maxL_3, minL_2, isN_i, isN_n, isN_t, isnN_i, isnN_n, isnN_t, v0, v1, v2, v3, v4, v5, v6, v7, v8, v9, v10, v11, v12, v13, v14, v15, v16, v17, v18, v19, v20, v21, v22, v23, v24, g0, g1, g2, g3, g4, g5, g6, g7, g8, g9, g10, g11, g12, g13, g14, g15, g16, g17, g18, g19, g20, g21, g22, g23, g24, w0, w1, w2, w3, w4, w5, w6, w7, w8, w9, w10, w11, w12, w13, w14, w15, w16, w17, w18, w19, w20, w21, w22, w23, w24, u0, u1, u2, u3, u4, u5, u6, u7, u8, u9, u10, u11, u12, u13, u14, u15, u16, u17, u18, u19, u20, u21, u22, u23, u24, List.length_cons, List.length_nil, Nat.zero_add, Nat.reduceAdd, Nat.reduceLeDiff, Nat.reduceLT, ↓reduceIte, decide_eq_true_eq, Int.reduceLT, Int.reduceLE, Int.reduceAdd, Int.reduceSub, Int.reduceMul, Int.reduceNeg, Int.reducePow, Int.reduceToNat, Int.reduceMod, Int.reduceDiv, Int.reduceEq, sz, big, lim, and_self, and_true, true_and, or_true, true_or, or_self, Bool.not_true, Bool.not_false, Bool.not_eq_true, Bool.not_eq_true', decide_true, decide_false, Bool.false_eq_true, List.map_cons, List.map_nil, rn0, rn1, rn2, rn3, rn4, rn5, rn6, rn7, rn8, rn9, rn10, rn11, rn12, rn13, rn14, rn15, rn16, rn17, rn18, rn19, rn20, rn21, rn22, rn23, rn24, rn25, rn26, rn27, rn28, rn29, Nat.sub_self, Nat.reduceSub, List.append_nil, List.cons_append, List.nil_append, reduceCtorEq, decide_not, wipeE, rng, ne_eq, not_true_eq_false, not_false_eq_true]
theorem bw_loop {s : Store} {n : Nat} (hn : n = (row.length + 46) / 47) : ∀ (k : Nat) (g : Go) (x2 x5 : Option D), k ≤ n → k ≠ 0 → RowI row 0 [] g → g.c = 0 → g.ps.length = n - k → (∀ j, k ≤ j → j < n → ∃ p ∈ g.ps, p.1 = j * 47 ∧ p.2.length = min 47 (row.length - j * 47)) →
    ∃ y2 y5, forL (gN 2) B_law_backwards_2 ((List.range k).reverse.map fun j : Nat => D.int ((j : Int) * 47)) [some (.int st), some (.tup (row.map .int)), x2, some (goD st g), some (.int (row.length : Int)), x5] s = .nx [some (.int st), some (.tup (row.map .int)), y2, some (goD st ⟨row.length, row, [], decide (row.length < 48)⟩), some (.int (row.length : Int)), y5] s
  | 0, _, _, _, _, h, _, _, _, _ => absurd rfl h
  | k + 1, g, x2, x5, hk, _, h, hc, hps, hM => by
    have hw : g.w = [] := by rw [h.hw, hc]; rfl
    have ka : k * 47 < row.length := by omega
    obtain ⟨b, hb⟩ : ∃ b, b = min row.length (k * 47 + 47) := ⟨_, rfl⟩
    have ex : (List.range (k + 1)).reverse.map (fun j : Nat => D.int ((j : Int) * 47)) = D.int ((k * 47 : Nat) : Int) :: (List.range k).reverse.map fun j : Nat => D.int ((j : Int) * 47) := by
      rw [List.range_succ, List.reverse_append, List.reverse_singleton, List.singleton_append, List.map_cons, Int.natCast_mul]; rfl
    rw [ex, forL_s]
    by_cases hk0 : k = 0
    · subst hk0
      obtain ⟨g', k1, k2, k3, _, k5⟩ := rbeh_le hs ho hl h (a := 0 * 47) (n := b - 0 * 47) (by omega) (by omega)
      have cv := cover_row (m := 1) (by decide : 0 < 47) k1 k2 (by omega) (fun j hj hj' => hM j hj (by omega))
      have hG : ∀ s, f_goods_behind [goD st g, .int (num st ((0 * 47 : Nat) : Int)), .tup (((row.drop (0 * 47)).take (b - 0 * 47)).map .int), .bl (decide (b = row.length))] s = .ok (goD st ⟨row.length, row, [], decide (row.length < 48)⟩) s := fun s => by
        rw [k5 s _ (fun q => by have := of_decide_eq_true q; omega)]
        by_cases q : b = row.length
        · rw [decide_eq_true q, if_pos rfl, decide_eq_true (by omega)]; rfl
        · rw [decide_eq_false q, if_neg (by decide), decide_eq_false (by omega)]
          have : g' = ⟨row.length, row, [], false⟩ := by
            obtain ⟨gc, gw, gp, ge⟩ := g'
            have e1 : gc = row.length := cv.1
            have e2 : gp = [] := cv.2
            have e3 : ge = false := k1.he
            have e4 : gw = (row.drop 0).take (gc - 0) := k1.hw
            rw [e1, List.drop_zero, Nat.sub_zero, List.take_length] at e4
            rw [e1, e2, e3, e4]
          rw [this]
      have st1 := bw_step hs ho hl (g := g) (x2 := x2) (x5 := x5) (s := s) hw (by omega) hb hG
      rw [st1]
      exact ⟨_, _, rfl⟩
    · have n0 : b - k * 47 ≠ 0 := by omega
      have l6 : g.ps.length < 6 := by omega
      have hG : ∀ s, f_goods_behind [goD st g, .int (num st ((k * 47 : Nat) : Int)), .tup (((row.drop (k * 47)).take (b - k * 47)).map .int), .bl (decide (b = row.length))] s = .ok (goD st ⟨g.c, g.w, g.ps ++ [(k * 47, (row.drop (k * 47)).take (b - k * 47))], false⟩) s := fun s => by
        rw [rbeh_gt hs ho hl h (by omega) (by omega) s, if_pos ⟨n0, l6⟩]
      have st1 := bw_step hs ho hl (g := g) (x2 := x2) (x5 := x5) (s := s) hw (by omega) hb hG
      rw [st1]
      refine bw_loop hn k _ _ _ (by omega) hk0 (add_row h (by omega) l6) hc (by show (g.ps ++ _).length = _; rw [List.length_append, List.length_singleton]; omega) fun j hj hj' => ?_
      by_cases e : j = k
      · subst e
        refine ⟨_, List.mem_append_right _ List.mem_cons_self, rfl, ?_⟩
        show ((row.drop (j * 47)).take (b - j * 47)).length = _
        rw [List.length_take, List.length_drop]; omega
      · obtain ⟨p, mp, q⟩ := hM j (by omega) hj'
        exact ⟨p, List.mem_append_left _ mp, q⟩
theorem bw_ok {s : Store} : f_law_backwards [.int st, .tup (row.map .int)] s = .ok (.bl true) s := by
  obtain ⟨n, hn⟩ : ∃ n, n = (row.length + 46) / 47 := ⟨_, rfl⟩
  obtain ⟨e, he⟩ : ∃ e, e = decide (0 < row.length ∧ row.length < 48) := ⟨_, rfl⟩
  have fr := fun s => fresh_ok (s := s) hs
  have lr : ((row.map D.int).length : Int) = (row.length : Int) := by rw [List.length_map]
  have rg : (((row.length : Int) - 0 + 47 - 1) / 47).toNat = n := by omega
  obtain ⟨y2, y5, lp⟩ : ∃ y2 y5, forL (gN 2) B_law_backwards_2 (rngS 0 47 n).reverse [some (.int st), some (.tup (row.map .int)), none, some (goD st ⟨0, [], [], false⟩), some (.int (row.length : Int)), none] s = .nx [some (.int st), some (.tup (row.map .int)), y2, some (goD st ⟨row.length, row, [], e⟩), some (.int (row.length : Int)), y5] s := by
    rw [rngS_eq, ← List.map_reverse]
    by_cases h0 : row.length = 0
    · have hr : row = [] := List.eq_nil_of_length_eq_zero h0
      have : n = 0 := by omega
      rw [this]
      refine ⟨none, none, ?_⟩
      show SR.nx _ s = _
      rw [he, hr]; rfl
    · obtain ⟨y2, y5, e'⟩ := bw_loop (s := s) hs ho hl hn n ⟨0, [], [], false⟩ none none (Nat.le_refl _) (by omega) fresh_row rfl (by show 0 = _; omega) (fun j hj hj' => absurd hj' (by omega))
      refine ⟨y2, y5, ?_⟩
      rw [he, show decide (0 < row.length ∧ row.length < 48) = decide (row.length < 48) from decide_eq_decide.mpr (by omega)]
      exact e'
  have i1 : ∀ s, dItem s (goD st ⟨row.length, row, [], e⟩) (.int 1) = some (.tup (row.map .int)) := fun s => rfl
  have i2 : ∀ s, dItem s (goD st ⟨row.length, row, [], e⟩) (.int 2) = some (.tup []) := fun s => rfl
  have i3 : ∀ s, dItem s (goD st ⟨row.length, row, [], e⟩) (.int 3) = some (.bl e) := fun s => rfl
  have ne : ∀ s, dNe s (.tup []) (.tup []) = some (.bl false) := fun s => ne_nilT (ds := []) trivial (by decide)
  have rR : ∀ s, fRepr s [.tup (row.map .int)] = some (.str (D.tup (row.map .int)).pyd.shown) := fun s => repr_oct ho (by omega)
  have rB : ∀ s (b : Bool), fRepr s [.bl b] = some (.str (D.bl b).pyd.shown) := fun s b => repr_b
  have nb := fun s => numb_ok (p := (row.length : Int)) (s := s) hs (by omega)
  have nb1 := fun s => numb_ok (p := (row.length : Int) + 1) (s := s) hs (by omega)
  have gb : ∀ s, f_goods_behind [goD st ⟨row.length, row, [], e⟩, .int (num st (row.length : Int)), .tup [], .bl true] s = .ok (.tup [.int (num st ((row.length : Int) + 1)), .tup (row.map .int), .tup [], .bl true]) s := fun s => by
    cases e with
    | true => exact beh_end rfl
    | false =>
      have ri : RowI row 0 [] ⟨row.length, row, [], false⟩ := ⟨Nat.le_refl _, Nat.zero_le _, by show row = _; rw [List.drop_zero]; show row = row.take (row.length - 0); rw [Nat.sub_zero, List.take_length], fun p m => absurd m List.not_mem_nil, Nat.zero_le _, fun p m => absurd m List.not_mem_nil, rfl⟩
      obtain ⟨g', _, _, _, _, k5⟩ := rbeh_le hs ho hl ri (a := row.length) (n := 0) (Nat.le_refl _) (by omega)
      exact k5 s true (fun _ => by omega)
  obtain ⟨x, rx⟩ := repr_go (st := st) (p := (row.length : Int) + 1) (w := row) (e := true) ho (by omega)
  have hde : decide ((0 : Int) < (row.length : Int) ∧ (row.length : Int) < 48) = e := by rw [he]; exact decide_eq_decide.mpr (by omega)
  have b1 : -1000000 ≤ (row.length : Int) ∧ (row.length : Int) ≤ 1000000 := by omega
  have er : eListR3 (eC (.int 0)) (eVar 4) (eC (.int 47)) [some (.int st), some (.tup (row.map .int)), none, some (goD st ⟨0, [], [], false⟩), some (.int (row.length : Int)), none] s = .ok (.lst (rngS 0 47 n)) s := by
    show (if (-1000000 : Int) ≤ 0 ∧ (0 : Int) ≤ 1000000 ∧ -1000000 ≤ (row.length : Int) ∧ (row.length : Int) ≤ 1000000 ∧ (0 : Int) < 47 ∧ (47 : Int) < 1000000 then Res.ok (D.lst (rngS 0 47 (((row.length : Int) - 0 + 47 - 1) / 47).toNat)) s else .bad) = _
    rw [if_pos (by omega), rg]
  generalize hRS : rngS 0 47 n = RS at *
  generalize goD st ⟨row.length, row, [], e⟩ = GE at *
  generalize goD st ⟨0, [], [], false⟩ = G0 at *
  generalize hRM : row.map D.int = RM at *
  simp -implicitDefEqProofs only [f_law_backwards, sh_law_backwards, S_law_backwards_1, S_law_backwards_2, S_law_backwards_7, B_law_backwards_7, S_law_backwards_8, S_law_backwards_9, S_law_backwards_10, lr, fr, er, lp, i1, i2, i3, ne, hde, rR, rB, ne_self, nb, nb1, gb, rx, eqSelf, eC_s, eUn_s, kUn_s, eOp_s, kOp_s, kOp2_s, ofO_s, eAnd_s, kAnd_s, eOr_s, kOr_s, eNot_s, kNot_s, eIf_s, kIf_s, kIf_i, eChain_s, kCh_s, kCh2_s, kCh3_s, evL_0, evL_s, kL_s, kL2_s, eTup_s, eLst_s, eLstR_s, kTup_s, kLst_s, kLstR_s, eCall_s, kCall_s, eFn_s, kFn_s, evO_0, evO_s, kO_s, eSlice_s, kSl_s, kSl2_s, kSl3_s, iSeq_s, kSeq_t, kSeq_l, iRange1_s, kRa_s, iRange2_s, kRb_s, kRb2_s, eComp_s, kCm_s, kCm2_s, eCompR_s, kCmR_s, kCmR2_s, compL_0, compL_s, kCo_s, kCo2_s, kCo3_s, tests_0, tests_s, kTe_s, gT_s, gTs_0, gTs_s, kG_s, gSub_s, kSub_s, kSub2_s, kSub3_s, sNop_s, sSeq_s, sRet_s, kRet_s, kRet_x, sRetN_s, sExpr_s, kEx_s, kEx_x, sAsg_s, kAs_s, kAs_x, kAs2_s, kAs2_x, sIf_s, kSIf_s, kSIf_i, kSIf_x, sFor_s, kFor_s, fnM_s, aft_r, aft_n, aft_x, turn_n, andThen_nx, andThen_rt, andThen_exc, andThen_bk, andThen_ct, add_i, sub_i, mul_i, div_i, mod_i, pow_i, neg_i, lt_i, le_i, gt_i, ge_i, eq_i, ne_i, eq_s, ne_s, isi_ii, isi_bi, isi_ti, isi_tt, isi_it, isi_bt, abs_i, min_i, max_i, int_i, len_t, len_l, list_l, list_t, list_s, tup_l, tup_t, cup_a, cup_b, eRev_s, kRv_s, kRv2_s, kRv2_l, kAg_s, kAg2_s, kPick_s, addI_i, iRange3_s, kRc_s, kRc2_s, iEnum_s, kEnum_t, kEnum_l, ite_i, ite_b, ite_o, isi_bb, isi_ss, kOr_n, maxL_1, maxL_2, maxL_3, minL_2, isN_i, isN_n, isN_t, isnN_i, isnN_n, isnN_t, v0, v1, v2, v3, v4, v5, v6, v7, v8, v9, v10, v11, v12, v13, v14, v15, v16, v17, v18, v19, v20, v21, v22, v23, v24, g0, g1, g2, g3, g4, g5, g6, g7, g8, g9, g10, g11, g12, g13, g14, g15, g16, g17, g18, g19, g20, g21, g22, g23, g24, w0, w1, w2, w3, w4, w5, w6, w7, w8, w9, w10, w11, w12, w13, w14, w15, w16, w17, w18, w19, w20, w21, w22, w23, w24, u0, u1, u2, u3, u4, u5, u6, u7, u8, u9, u10, u11, u12, u13, u14, u15, u16, u17, u18, u19, u20, u21, u22, u23, u24, List.length_cons, List.length_nil, Nat.zero_add, Nat.reduceAdd, Nat.reduceLeDiff, Nat.reduceLT, ↓reduceIte, decide_eq_true_eq, Int.reduceLT, Int.reduceLE, Int.reduceAdd, Int.reduceSub, Int.reduceMul, Int.reduceNeg, Int.reducePow, Int.reduceToNat, Int.reduceMod, Int.reduceDiv, Int.reduceEq, sz, big, lim, and_self, and_true, true_and, or_true, true_or, or_self, Bool.not_true, Bool.not_false, Bool.not_eq_true, Bool.not_eq_true', decide_true, decide_false, Bool.false_eq_true, List.map_cons, List.map_nil, rn0, rn1, rn2, rn3, rn4, rn5, rn6, rn7, rn8, rn9, rn10, rn11, rn12, rn13, rn14, rn15, rn16, rn17, rn18, rn19, rn20, rn21, rn22, rn23, rn24, rn25, rn26, rn27, rn28, rn29, Nat.sub_self, Nat.reduceSub, List.append_nil, List.cons_append, List.nil_append, reduceCtorEq, decide_not, wipeE, rng, ne_eq, not_true_eq_false, not_false_eq_true]
/-! ### written ones -/
omit hs ho hl in
theorem wp_nil {g : Go} (h : GoOK st g) (he : g.e = false) (hp : g.ps = []) (s : Store) : f_with_pieces [goD st g] s = .ok (goD st g) s := by
  obtain ⟨g', _, _, k3, k4⟩ := wp_ok (st := st) (I := fun g' => GoOK st g' ∧ g'.e = false ∧ g'.ps = []) (fun g' q => ⟨q.1, q.2.1⟩) (fun g' i p q hi _ => by rw [q.2.2] at hi; exact nomatch hi) (g := g) ⟨h, he, hp⟩
  rw [k4 s, k3 (fun p m => by rw [hp] at m; exact absurd m List.not_mem_nil)]
theorem wr_step {g : Go} {a : Nat} {x2 x4 : Option D} {x0 : Option D} {s : Store} {G' : D} (ha : a + 20 ≤ row.length) (hg : ∀ s, f_goods_behind [goD st g, .int (num st a), .tup (((row.drop a).take 20).map .int), .bl false] s = .ok G' s) (h1 : st = 4294967200) :
    turn (gN 0) B_law_written_right_2 (.int (a : Int)) [x0, some (.tup (row.map .int)), x2, some (goD st g), x4] s = .nx [some (.int (a : Int)), some (.tup (row.map .int)), x2, some G', x4] s := by
  have nb := fun s => numb_ok (p := (a : Int)) (s := s) hs (by omega)
  have sl : ∀ s, dSlice s (.tup (row.map .int)) (some (a : Int)) (some ((a : Int) + 20)) = some (.tup (((row.drop a).take 20).map .int)) := fun s => by
    rw [slO_mid (by omega) (by omega), Int.toNat_natCast, show ((a : Int) + 20).toNat - a = 20 by omega]
  subst h1
  generalize goD 4294967200 g = G at *
  generalize ((row.drop a).take 20).map D.int = OM at *
  generalize row.map D.int = RM at *
  simp -implicitDefEqProofs only [S_law_written_right_3, B_law_written_right_2, nb, sl, hg, eC_s, eUn_s, kUn_s, eOp_s, kOp_s, kOp2_s, ofO_s, eAnd_s, kAnd_s, eOr_s, kOr_s, eNot_s, kNot_s, eIf_s, kIf_s, kIf_i, eChain_s, kCh_s, kCh2_s, kCh3_s, evL_0, evL_s, kL_s, kL2_s, eTup_s, eLst_s, eLstR_s, kTup_s, kLst_s, kLstR_s, eCall_s, kCall_s, eFn_s, kFn_s, evO_0, evO_s, kO_s, eSlice_s, kSl_s, kSl2_s, kSl3_s, iSeq_s, kSeq_t, kSeq_l, iRange1_s, kRa_s, iRange2_s, kRb_s, kRb2_s, eComp_s, kCm_s, kCm2_s, eCompR_s, kCmR_s, kCmR2_s, compL_0, compL_s, kCo_s, kCo2_s, kCo3_s, tests_0, tests_s, kTe_s, gT_s, gTs_0, gTs_s, kG_s, gSub_s, kSub_s, kSub2_s, kSub3_s, sNop_s, sSeq_s, sRet_s, kRet_s, kRet_x, sRetN_s, sExpr_s, kEx_s, kEx_x, sAsg_s, kAs_s, kAs_x, kAs2_s, kAs2_x, sIf_s, kSIf_s, kSIf_i, kSIf_x, sFor_s, kFor_s, fnM_s, aft_r, aft_n, aft_x, turn_n, andThen_nx, andThen_rt, andThen_exc, andThen_bk, andThen_ct, add_i, sub_i, mul_i, div_i, mod_i, pow_i, neg_i, lt_i, le_i, gt_i, ge_i, eq_i, ne_i, eq_s, ne_s, isi_ii, isi_bi, isi_ti, isi_tt, isi_it, isi_bt, abs_i, min_i, max_i, int_i, len_t, len_l, list_l, list_t, list_s, tup_l, tup_t, cup_a, cup_b, eRev_s, kRv_s, kRv2_s, kRv2_l, kAg_s, kAg2_s, kPick_s, addI_i, iRange3_s, kRc_s, kRc2_s, iEnum_s, kEnum_t, kEnum_l, ite_i, ite_b, ite_o, isi_bb, isi_ss, kOr_n, maxL_1, maxL_2, maxL_3, minL_2, isN_i, isN_n, isN_t, isnN_i, isnN_n, isnN_t, v0, v1, v2, v3, v4, v5, v6, v7, v8, v9, v10, v11, v12, v13, v14, v15, v16, v17, v18, v19, v20, v21, v22, v23, v24, g0, g1, g2, g3, g4, g5, g6, g7, g8, g9, g10, g11, g12, g13, g14, g15, g16, g17, g18, g19, g20, g21, g22, g23, g24, w0, w1, w2, w3, w4, w5, w6, w7, w8, w9, w10, w11, w12, w13, w14, w15, w16, w17, w18, w19, w20, w21, w22, w23, w24, u0, u1, u2, u3, u4, u5, u6, u7, u8, u9, u10, u11, u12, u13, u14, u15, u16, u17, u18, u19, u20, u21, u22, u23, u24, List.length_cons, List.length_nil, Nat.zero_add, Nat.reduceAdd, Nat.reduceLeDiff, Nat.reduceLT, ↓reduceIte, decide_eq_true_eq, Int.reduceLT, Int.reduceLE, Int.reduceAdd, Int.reduceSub, Int.reduceMul, Int.reduceNeg, Int.reducePow, Int.reduceToNat, Int.reduceMod, Int.reduceDiv, Int.reduceEq, sz, big, lim, and_self, and_true, true_and, or_true, true_or, or_self, Bool.not_true, Bool.not_false, Bool.not_eq_true, Bool.not_eq_true', decide_true, decide_false, Bool.false_eq_true, List.map_cons, List.map_nil, rn0, rn1, rn2, rn3, rn4, rn5, rn6, rn7, rn8, rn9, rn10, rn11, rn12, rn13, rn14, rn15, rn16, rn17, rn18, rn19, rn20, rn21, rn22, rn23, rn24, rn25, rn26, rn27, rn28, rn29, Nat.sub_self, Nat.reduceSub, List.append_nil, List.cons_append, List.nil_append, reduceCtorEq, decide_not, wipeE, rng, ne_eq, not_true_eq_false, not_false_eq_true]
theorem wr_loop {s : Store} (h1 : st = 4294967200) (h160 : row.length = 160) : ∀ (k : Nat) (g : Go) (x0 x2 x4 : Option D), k ≤ 8 → k ≠ 0 → RowI row 0 [] g → g.c = 0 → g.ps.length = min 6 (8 - k) → (∀ p ∈ g.ps, 40 ≤ p.1) → (∀ j, k ≤ j → 2 ≤ j → j < 8 → ∃ p ∈ g.ps, p.1 = j * 20 ∧ p.2.length = min 20 (row.length - j * 20)) →
    ∃ y0 g', RowI row 0 [] g' ∧ g'.c = 20 ∧ g'.ps.length = 6 ∧ (∀ j, 2 ≤ j → j < 8 → ∃ p ∈ g'.ps, p.1 = j * 20 ∧ p.2.length = min 20 (row.length - j * 20)) ∧ forL (gN 0) B_law_written_right_2 ((List.range k).reverse.map fun j : Nat => D.int ((j : Int) * 20)) [x0, some (.tup (row.map .int)), x2, some (goD st g), x4] s = .nx [y0, some (.tup (row.map .int)), x2, some (goD st g'), x4] s
  | 0, _, _, _, _, _, h, _, _, _, _, _ => absurd rfl h
  | k + 1, g, x0, x2, x4, hk, _, h, hc, hps, h40, hM => by
    have ex : (List.range (k + 1)).reverse.map (fun j : Nat => D.int ((j : Int) * 20)) = D.int ((k * 20 : Nat) : Int) :: (List.range k).reverse.map fun j : Nat => D.int ((j : Int) * 20) := by
      rw [List.range_succ, List.reverse_append, List.reverse_singleton, List.singleton_append, List.map_cons, Int.natCast_mul]; rfl
    rw [ex, forL_s]
    by_cases hk0 : k = 0
    · subst hk0
      obtain ⟨g', k1, k2, k3, k4, k5⟩ := rbeh_le hs ho hl h (a := 0 * 20) (n := 20) (by omega) (by omega)
      obtain ⟨e1, e2⟩ := k4 fun p m => by have := h40 p m; omega
      have st1 := wr_step hs ho hl (g := g) (x0 := x0) (x2 := x2) (x4 := x4) (s := s) (a := 0 * 20) (by omega) (fun s => k5 s false (fun q => nomatch q)) h1
      rw [if_neg (by decide)] at st1
      rw [st1]
      refine ⟨_, g', k1.weak, by omega, by rw [e1, hps]; rfl, fun j hj hj' => by rw [e1]; exact hM j (by omega) hj hj', rfl⟩
    · obtain ⟨gB, hg2⟩ : ∃ gB, gB = (if 20 ≠ 0 ∧ g.ps.length < 6 then (⟨g.c, g.w, g.ps ++ [(k * 20, (row.drop (k * 20)).take 20)], false⟩ : Go) else g) := ⟨_, rfl⟩
      have st1 := wr_step hs ho hl (g := g) (x0 := x0) (x2 := x2) (x4 := x4) (s := s) (a := k * 20) (by omega) (fun s => by rw [rbeh_gt hs ho hl h (by omega) (by omega) s, ← hg2]) h1
      rw [st1]
      by_cases l6 : g.ps.length < 6
      · rw [if_pos ⟨by decide, l6⟩] at hg2
        subst hg2
        refine wr_loop h1 h160 k _ _ _ _ (by omega) hk0 (add_row h (by omega) l6) hc (by show (g.ps ++ _).length = _; rw [List.length_append, List.length_singleton]; omega) (fun p m => ?_) fun j hj h2 hj' => ?_
        · rcases List.mem_append.mp m with m | m
          · exact h40 p m
          · obtain rfl := List.mem_singleton.mp m
            show 40 ≤ k * 20
            omega
        · by_cases e : j = k
          · subst e
            refine ⟨_, List.mem_append_right _ List.mem_cons_self, rfl, ?_⟩
            show ((row.drop (j * 20)).take 20).length = _
            rw [List.length_take, List.length_drop]
          · obtain ⟨p, mp, q⟩ := hM j (by omega) h2 hj'
            exact ⟨p, List.mem_append_left _ mp, q⟩
      · rw [if_neg (fun q => l6 q.2)] at hg2
        subst hg2
        refine wr_loop h1 h160 k _ _ _ _ (by omega) hk0 h hc (by omega) h40 fun j hj h2 hj' => hM j (by omega) h2 hj'
end
theorem wr_ok {s : Store} : f_law_written_right [] s = .ok (.bl true) s := by
  obtain ⟨A, hA⟩ : ∃ A, A = ocs 5 160 := ⟨_, rfl⟩
  obtain ⟨B, hB⟩ : ∃ B, B = ocs 6 320 := ⟨_, rfl⟩
  have oA : Oct A := by rw [hA]; exact ocs_oct
  have oB : Oct B := by rw [hB]; exact ocs_oct
  have lA : A.length = 160 := by rw [hA]; exact ocs_len
  have lB : B.length = 320 := by rw [hB]; exact ocs_len
  have fA : ∀ s, f_law_octets [.int 5, .int 160] s = .ok (.tup (A.map .int)) s := fun s => by
    rw [hA]; exact lawoct_ok (by decide) (by decide) (by decide)
  have fB : ∀ s, f_law_octets [.int 6, .int 320] s = .ok (.tup (B.map .int)) s := fun s => by
    rw [hB]; exact lawoct_ok (by decide) (by decide) (by decide)
  have fr := fun s => fresh_ok (st := 4294967200) (s := s) (by decide)
  obtain ⟨y0, gA, k1, k2, k3, k4, k5⟩ := wr_loop (st := 4294967200) (s := s) (row := A) (by decide) oA (by omega) rfl lA 8 ⟨0, [], [], false⟩ none none none (Nat.le_refl _) (by decide) fresh_row rfl rfl (fun p m => absurd m List.not_mem_nil) (fun j hj h2 hj' => absurd hj' (by omega))
  have k5 : forL (gN 0) B_law_written_right_2 [.int 140, .int 120, .int 100, .int 80, .int 60, .int 40, .int 20, .int 0] [none, some (.tup (A.map .int)), none, some (goD 4294967200 ⟨0, [], [], false⟩), none] s = _ := k5
  have i0 : ∀ s, dItem s (goD 4294967200 gA) (.int 0) = some (.int 4294967220) := fun s => by
    rw [goD_f k1.he, k2]; rfl
  have i1 : ∀ s, dItem s (goD 4294967200 gA) (.int 1) = some (.tup ((A.take 20).map .int)) := fun s => by
    rw [goD_f k1.he, k1.hw, k2]; rfl
  obtain ⟨P, i2⟩ : ∃ P : List D, (∀ s, dItem s (goD 4294967200 gA) (.int 2) = some (.tup P)) ∧ ((P.length : Nat) : Int) = 6 := ⟨_, fun s => rfl, by rw [List.length_map, k3]; rfl⟩
  obtain ⟨i2, lP⟩ := i2
  have sA : ∀ s, dSlice s (.tup (A.map .int)) none (some 20) = some (.tup ((A.take 20).map .int)) := slO_to (by decide)
  have sA2 : ∀ s, dSlice s (.tup (A.map .int)) (some 20) (some 40) = some (.tup (((A.drop 20).take 20).map .int)) := slO_mid (by decide) (by decide)
  -- the seventh
  obtain ⟨gB, j1, j2, j3, _, j5⟩ := rbeh_le (st := 4294967200) (by decide) oA (by omega) k1 (a := 20) (n := 20) (by omega) (by omega)
  obtain ⟨c1, c2⟩ := cover_row (m := 2) (by decide : 0 < 20) j1 j2 (by omega) (fun j hj hj' => k4 j hj (by omega))
  have g2e : goD 4294967200 gB = .tup [.int 64, .tup (A.map .int), .tup [], .bl false] := by
    have e4 := j1.hw
    rw [List.drop_zero, c1, Nat.sub_zero, List.take_length] at e4
    rw [goD_f j1.he, c1, lA, c2, e4]; rfl
  have gb : ∀ s, f_goods_behind [goD 4294967200 gA, .int 4294967220, .tup (((A.drop 20).take 20).map .int), .bl false] s = .ok (.tup [.int 64, .tup (A.map .int), .tup [], .bl false]) s := fun s => by
    have := j5 s false (fun q => nomatch q)
    rw [if_neg (by decide), g2e] at this
    exact this
  have rA : ∀ s, fRepr s [.tup ((A.take 20).map .int)] = some (.str (D.tup ((A.take 20).map .int)).pyd.shown) := fun s => repr_oct (oA.take _) (by rw [List.length_take]; omega)
  obtain ⟨xA, rA2⟩ : ∃ x : Str, ∀ s, fRepr s [.tup [.int 64, .tup (A.map .int), .tup [], .bl false]] = some (.str x) := repr_go (st := 4294967200) (p := 160) (w := A) (e := false) oA (by omega)
  -- more than there is room for
  have o3 : Oct (B.take 300) := oB.take _
  have l3 : (B.take 300).length = 300 := by rw [List.length_take]; omega
  have h9 : (0 : Int) ≤ 9 ∧ (9 : Int) ≤ 4294967295 := by decide
  have G0 : GoOK 9 ⟨0, [], [], false⟩ := ⟨h9, Nat.le_of_ble_eq_true rfl, ⟨Oct.nil, Nat.zero_le _⟩, fun p m => absurd m List.not_mem_nil, Nat.zero_le _⟩
  have G1 : GoOK 9 ⟨300, B.take 300, [], false⟩ := ⟨h9, Nat.le_of_ble_eq_true rfl, ⟨o3, by show (B.take 300).length ≤ 300; omega⟩, fun p m => absurd m List.not_mem_nil, Nat.zero_le _⟩
  have l4 : ((B.take 300).drop 50).length = 250 := by rw [List.length_drop, l3]
  have G2 : GoOK 9 ⟨300, (B.take 300).drop 50, [], false⟩ := ⟨h9, Nat.le_of_ble_eq_true rfl, ⟨o3.drop _, by show ((B.take 300).drop 50).length ≤ 300; omega⟩, fun p m => absurd m List.not_mem_nil, Nat.zero_le _⟩
  have l5 : (B.drop 50).length = 270 := by rw [List.length_drop, lB]
  have G3 : GoOK 9 ⟨320, B.drop 50, [], false⟩ := ⟨h9, Nat.le_of_ble_eq_true rfl, ⟨oB.drop _, by show (B.drop 50).length ≤ 300; omega⟩, fun p m => absurd m List.not_mem_nil, Nat.zero_le _⟩
  have l6 : (B.drop 300).length = 20 := by rw [List.length_drop, lB]
  have e1 : ord ⟨0, [], [], false⟩ (cnt ⟨0, [], [], false⟩ 0 (B.take 310)) = ⟨300, B.take 300, [], false⟩ := by
    have : cnt ⟨0, [], [], false⟩ 0 (B.take 310) = B.take 300 := by
      show ((B.take 310).drop 0).take 300 = _
      rw [List.drop_zero, List.take_take]; rfl
    rw [this]
    unfold ord
    rw [l3, List.nil_append]
  have e2 : ord ⟨300, B.take 300, [], false⟩ (cnt ⟨300, B.take 300, [], false⟩ 300 (B.drop 300)) = ⟨300, B.take 300, [], false⟩ := by
    have : cnt ⟨300, B.take 300, [], false⟩ 300 (B.drop 300) = [] := by
      unfold cnt
      dsimp only
      rw [l3]; rfl
    rw [this]
    unfold ord
    rw [List.append_nil]; rfl
  have e3 : ord ⟨300, (B.take 300).drop 50, [], false⟩ (cnt ⟨300, (B.take 300).drop 50, [], false⟩ 300 (B.drop 300)) = ⟨320, B.drop 50, [], false⟩ := by
    have : cnt ⟨300, (B.take 300).drop 50, [], false⟩ 300 (B.drop 300) = B.drop 300 := by
      unfold cnt
      dsimp only
      rw [l4]
      show ((B.drop 300).drop 0).take 50 = _
      rw [List.drop_zero, List.take_of_length_le (by omega)]
    rw [this]
    unfold ord
    dsimp only
    rw [l6]
    have : (B.take 300).drop 50 ++ B.drop 300 = B.drop 50 := by
      have q := List.take_append_drop 300 B
      conv => rhs; rw [← q, List.drop_append_of_le_length (by omega)]
    rw [this]
  have d1 : ∀ s, f_goods_behind [goD 9 ⟨0, [], [], false⟩, .int 9, .tup ((B.take 310).map .int), .bl false] s = .ok (.tup [.int 309, .tup ((B.take 300).map .int), .tup [], .bl false]) s := fun s => by
    have := beh_le (s := s) (os := B.take 310) (a := 0) (last := false) G0 rfl (Nat.le_refl _) (by rw [List.length_take]; omega) (fun s => by rw [e1]; exact wp_nil G1 rfl rfl s) rfl (Nat.le_of_ble_eq_true rfl)
    rw [if_neg (fun q => nomatch q.1)] at this
    exact this
  have d2 : ∀ s, f_goods_behind [.tup [.int 309, .tup ((B.take 300).map .int), .tup [], .bl false], .int 309, .tup ((B.drop 300).map .int), .bl true] s = .ok (.tup [.int 309, .tup ((B.take 300).map .int), .tup [], .bl false]) s := fun s => by
    have := beh_le (s := s) (os := B.drop 300) (a := 300) (last := true) G1 rfl (Nat.le_refl _) (by omega) (fun s => by rw [e2]; exact wp_nil G1 rfl rfl s) rfl (Nat.le_of_ble_eq_true rfl)
    rw [if_neg (fun q => by have := q.2; rw [l6] at this; exact absurd (show 320 = 300 from this) (by decide))] at this
    exact this
  have d3 : ∀ s, f_goods_behind [.tup [.int 309, .tup (((B.take 300).drop 50).map .int), .tup [], .bl false], .int 309, .tup ((B.drop 300).map .int), .bl true] s = .ok (.tup [.int 330, .tup ((B.drop 50).map .int), .tup [], .bl true]) s := fun s => by
    have := beh_le (s := s) (os := B.drop 300) (a := 300) (last := true) G2 rfl (Nat.le_refl _) (by omega) (fun s => by rw [e3]; exact wp_nil G3 rfl rfl s) rfl (Nat.le_of_ble_eq_true rfl)
    rw [if_pos ⟨rfl, by rw [l6]⟩] at this
    exact this
  have tk : ∀ s, f_taken_from [.tup [.int 309, .tup ((B.take 300).map .int), .tup [], .bl false], .int 50] s = .ok (.tup [.tup [.int 309, .tup (((B.take 300).drop 50).map .int), .tup [], .bl false], .tup ((B.take 50).map .int)]) s := fun s => by
    have := taken_ok (st := 9) (g := ⟨300, B.take 300, [], false⟩) (m := 50) (s := s)
    rw [List.take_take] at this
    exact this
  have sB1 : ∀ s, dSlice s (.tup (B.map .int)) none (some 310) = some (.tup ((B.take 310).map .int)) := slO_to (by decide)
  have sB2 : ∀ s, dSlice s (.tup (B.map .int)) none (some 300) = some (.tup ((B.take 300).map .int)) := slO_to (by decide)
  have sB3 : ∀ s, dSlice s (.tup (B.map .int)) (some 300) none = some (.tup ((B.drop 300).map .int)) := slO_from (by decide)
  have sB4 : ∀ s, dSlice s (.tup (B.map .int)) none (some 50) = some (.tup ((B.take 50).map .int)) := slO_to (by decide)
  have sB5 : ∀ s, dSlice s (.tup (B.map .int)) (some 50) none = some (.tup ((B.drop 50).map .int)) := slO_from (by decide)
  have fr9 := fun s => fresh_ok (st := 9) (s := s) h9
  obtain ⟨x1, r1⟩ : ∃ x : Str, ∀ s, fRepr s [.tup [.int 309, .tup ((B.take 300).map .int), .tup [], .bl false]] = some (.str x) := repr_go (st := 9) (p := 300) (w := B.take 300) (e := false) o3 (by omega)
  obtain ⟨x2, r2⟩ : ∃ x : Str, ∀ s, fRepr s [.tup [.int 330, .tup ((B.drop 50).map .int), .tup [], .bl true]] = some (.str x) := repr_go (st := 9) (p := 321) (w := B.drop 50) (e := true) (oB.drop _) (by omega)
  have r3 : ∀ s, fRepr s [.tup ((B.take 50).map .int)] = some (.str (D.tup ((B.take 50).map .int)).pyd.shown) := fun s => repr_oct (oB.take _) (by rw [List.length_take]; omega)
  generalize goD 4294967200 gA = GA at *
  generalize goD 4294967200 ⟨0, [], [], false⟩ = GF at *
  generalize goD 9 ⟨0, [], [], false⟩ = GF9 at *
  generalize (A.take 20).map D.int = A20 at *
  generalize ((A.drop 20).take 20).map D.int = A40 at *
  generalize A.map D.int = AM at *
  generalize (B.take 310).map D.int = B1 at *
  generalize ((B.take 300).drop 50).map D.int = B6 at *
  generalize (B.take 300).map D.int = B2 at *
  generalize (B.drop 300).map D.int = B3 at *
  generalize (B.take 50).map D.int = B4 at *
  generalize (B.drop 50).map D.int = B5 at *
  generalize B.map D.int = BM at *
  generalize (D.tup A20).pyd.shown = XA at *
  generalize (D.tup B4).pyd.shown = XB at *
  simp -implicitDefEqProofs only [f_law_written_right, sh_law_written_right, S_law_written_right_1, S_law_written_right_2, S_law_written_right_4, B_law_written_right_4, S_law_written_right_5, S_law_written_right_6, B_law_written_right_6, S_law_written_right_7, S_law_written_right_8, S_law_written_right_9, S_law_written_right_10, B_law_written_right_10, S_law_written_right_11, S_law_written_right_12, S_law_written_right_13, fA, fB, fr, k5, i0, i1, i2, lP, sA, sA2, gb, rA, rA2, ne_self, eqSelf, d1, d2, d3, tk, sB1, sB2, sB3, sB4, sB5, fr9, r1, r2, r3, eC_s, eUn_s, kUn_s, eOp_s, kOp_s, kOp2_s, ofO_s, eAnd_s, kAnd_s, eOr_s, kOr_s, eNot_s, kNot_s, eIf_s, kIf_s, kIf_i, eChain_s, kCh_s, kCh2_s, kCh3_s, evL_0, evL_s, kL_s, kL2_s, eTup_s, eLst_s, eLstR_s, kTup_s, kLst_s, kLstR_s, eCall_s, kCall_s, eFn_s, kFn_s, evO_0, evO_s, kO_s, eSlice_s, kSl_s, kSl2_s, kSl3_s, iSeq_s, kSeq_t, kSeq_l, iRange1_s, kRa_s, iRange2_s, kRb_s, kRb2_s, eComp_s, kCm_s, kCm2_s, eCompR_s, kCmR_s, kCmR2_s, compL_0, compL_s, kCo_s, kCo2_s, kCo3_s, tests_0, tests_s, kTe_s, gT_s, gTs_0, gTs_s, kG_s, gSub_s, kSub_s, kSub2_s, kSub3_s, sNop_s, sSeq_s, sRet_s, kRet_s, kRet_x, sRetN_s, sExpr_s, kEx_s, kEx_x, sAsg_s, kAs_s, kAs_x, kAs2_s, kAs2_x, sIf_s, kSIf_s, kSIf_i, kSIf_x, sFor_s, kFor_s, fnM_s, aft_r, aft_n, aft_x, turn_n, andThen_nx, andThen_rt, andThen_exc, andThen_bk, andThen_ct, add_i, sub_i, mul_i, div_i, mod_i, pow_i, neg_i, lt_i, le_i, gt_i, ge_i, eq_i, ne_i, eq_s, ne_s, isi_ii, isi_bi, isi_ti, isi_tt, isi_it, isi_bt, abs_i, min_i, max_i, int_i, len_t, len_l, list_l, list_t, list_s, tup_l, tup_t, cup_a, cup_b, eRev_s, kRv_s, kRv2_s, kRv2_l, kAg_s, kAg2_s, kPick_s, addI_i, iRange3_s, kRc_s, kRc2_s, iEnum_s, kEnum_t, kEnum_l, ite_i, ite_b, ite_o, isi_bb, isi_ss, kOr_n, maxL_1, maxL_2, maxL_3, minL_2, isN_i, isN_n, isN_t, isnN_i, isnN_n, isnN_t, v0, v1, v2, v3, v4, v5, v6, v7, v8, v9, v10, v11, v12, v13, v14, v15, v16, v17, v18, v19, v20, v21, v22, v23, v24, g0, g1, g2, g3, g4, g5, g6, g7, g8, g9, g10, g11, g12, g13, g14, g15, g16, g17, g18, g19, g20, g21, g22, g23, g24, w0, w1, w2, w3, w4, w5, w6, w7, w8, w9, w10, w11, w12, w13, w14, w15, w16, w17, w18, w19, w20, w21, w22, w23, w24, u0, u1, u2, u3, u4, u5, u6, u7, u8, u9, u10, u11, u12, u13, u14, u15, u16, u17, u18, u19, u20, u21, u22, u23, u24, List.length_cons, List.length_nil, Nat.zero_add, Nat.reduceAdd, Nat.reduceLeDiff, Nat.reduceLT, ↓reduceIte, decide_eq_true_eq, Int.reduceLT, Int.reduceLE, Int.reduceAdd, Int.reduceSub, Int.reduceMul, Int.reduceNeg, Int.reducePow, Int.reduceToNat, Int.reduceMod, Int.reduceDiv, Int.reduceEq, sz, big, lim, and_self, and_true, true_and, or_true, true_or, or_self, Bool.not_true, Bool.not_false, Bool.not_eq_true, Bool.not_eq_true', decide_true, decide_false, Bool.false_eq_true, List.map_cons, List.map_nil, rn0, rn1, rn2, rn3, rn4, rn5, rn6, rn7, rn8, rn9, rn10, rn11, rn12, rn13, rn14, rn15, rn16, rn17, rn18, rn19, rn20, rn21, rn22, rn23, rn24, rn25, rn26, rn27, rn28, rn29, Nat.sub_self, Nat.reduceSub, List.append_nil, List.cons_append, List.nil_append, reduceCtorEq, decide_not, wipeE, rng, ne_eq, not_true_eq_false, not_false_eq_true]
/-! ### the law -/
theorem take_join {row : List Int} {t c : Nat} (h : t ≤ c) : row.take t ++ (row.drop t).take (c - t) = row.take c := by
  rw [← List.take_add, show t + (c - t) = c by omega]
section
variable {st : Int} {row : List Int} (hs : 0 ≤ st ∧ st ≤ 4294967295) (ho : Oct row) (hl : row.length ≤ 280)
include hs ho hl
abbrev sgL (sc : D) (st : Int) (row : List Int) (t : Nat) (g : Go) (x2 x3 x9 x10 x11 : Option D) : Mn.Env := [some sc, some (.ref 0), x2, x3, some (.int st), some (.int (row.length : Int)), some (.tup (row.map .int)), some (goD st g), some (.tup ((row.take t).map .int)), x9, x10, x11]
theorem stage1 {sc : D} {c : Cup} {t : Nat} {g : Go} {x2 x3 x9 x10 x11 : Option D} (h : GR row t g) : ∃ (g' : Go) (c' : Cup) (y3 y9 : Option D), GR row t g' ∧ (sSeq S_law_5 (sSeq S_law_6 (sSeq S_law_7 sNop))) (sgL sc st row t g x2 x3 x9 x10 x11) (cupS c) = .nx (sgL sc st row t g' x2 y3 y9 x10 x11) (cupS c') := by
  have hm_at_ : 0 < ((row.length : Int) + 1) ∧ ((row.length : Int) + 1) < big * big := by unfold big; omega
  have er_at_ := roll_eq roll_R (c := c) (m := ((row.length : Int) + 1)) hm_at_.1 hm_at_.2
  have el_at_ := roll_lo roll_R (c := c) (m := ((row.length : Int) + 1)) hm_at_.1 hm_at_.2
  have eh_at_ := roll_hi roll_R (c := c) (m := ((row.length : Int) + 1)) hm_at_.1 hm_at_.2
  generalize rollV f_law_roll c ((row.length : Int) + 1) = at_ at *
  generalize rollC f_law_roll c ((row.length : Int) + 1) = c1 at *
  have er_rb := roll_eq roll_R (c := c1) (m := 30) (by decide) (by decide)
  have el_rb := roll_lo roll_R (c := c1) (m := 30) (by decide) (by decide)
  have eh_rb := roll_hi roll_R (c := c1) (m := 30) (by decide) (by decide)
  generalize rollV f_law_roll c1 30 = rb at *
  generalize rollC f_law_roll c1 30 = c2 at *
  have em_x := pick_mem roll_R (c := c2) (ds := ([0, 1, 4, 100, rb] : List Int)) (z := 0) (Nat.le_of_ble_eq_true rfl) (Nat.le_of_ble_eq_true rfl)
  have er_x := p5 roll_R some_P (c := c2) (a0 := 0) (a1 := 1) (a2 := 4) (a3 := 100) (a4 := rb)
  generalize pick f_law_roll c2 ([0, 1, 4, 100, rb] : List Int) 0 = x at *
  generalize rollC f_law_roll c2 5 = c3 at *
  simp only [List.mem_cons, List.not_mem_nil, or_false] at em_x
  obtain ⟨a, rfl⟩ : ∃ a : Nat, at_ = (a : Int) := ⟨at_.toNat, by omega⟩
  obtain ⟨b, hb⟩ : ∃ b : Nat, (b : Int) = min (row.length : Int) ((a : Int) + x) := ⟨(min (row.length : Int) ((a : Int) + x)).toNat, by omega⟩
  have mn : ∀ s, fMin s [.int (row.length : Int), .int ((a : Int) + x)] = some (.int (b : Int)) := fun s => by
    rw [min_i]; congr 2; split <;> omega
  have nb := fun s => numb_ok (p := (a : Int)) (s := s) hs (by omega)
  have sl : ∀ s, dSlice s (.tup (row.map .int)) (some (a : Int)) (some (b : Int)) = some (.tup (((row.drop a).take (b - a)).map .int)) := fun s => by
    rw [slO_mid (by omega) (by omega), Int.toNat_natCast, Int.toNat_natCast]
  have eq : ∀ s, dEq s (.int (b : Int)) (.int (row.length : Int)) = some (.bl (decide (b = row.length))) := fun s => by
    rw [eq_i]; congr 2
    exact decide_eq_decide.mpr (by omega)
  by_cases hq : b = row.length
  · have er_rc := roll_eq roll_R (c := c3) (m := 3) (by decide) (by decide)
    have el_rc := roll_lo roll_R (c := c3) (m := 3) (by decide) (by decide)
    have eh_rc := roll_hi roll_R (c := c3) (m := 3) (by decide) (by decide)
    generalize rollV f_law_roll c3 3 = rc at *
    generalize rollC f_law_roll c3 3 = c4 at *
    obtain ⟨g', hg, e⟩ := rbeh hs ho hl (a := a) (n := b - a) (last := decide (0 < rc)) h (by omega) (fun _ => by omega)
    refine ⟨g', c4, some (.int (a : Int)), some (.int (b : Int)), hg, ?_⟩
    have gt : ∀ s, dGt s (.int rc) (.int 0) = some (.bl (decide (0 < rc))) := fun s => rfl
    have dq : decide (b = row.length) = true := decide_eq_true hq
    generalize decide (0 < rc) = L at *
    generalize decide (b = row.length) = L2 at *
    subst dq
    unfold sgL
    generalize goD st g = G at *
    generalize goD st g' = G' at *
    generalize ((row.drop a).take (b - a)).map D.int = OM at *
    generalize (row.take t).map D.int = TM at *
    generalize row.map D.int = RM at *
    simp -implicitDefEqProofs only [S_law_5, S_law_6, S_law_7, er_at_, er_rb, er_x, er_rc, mn, nb, sl, eq, gt, e, eC_s, eUn_s, kUn_s, eOp_s, kOp_s, kOp2_s, ofO_s, eAnd_s, kAnd_s, eOr_s, kOr_s, eNot_s, kNot_s, eIf_s, kIf_s, kIf_i, eChain_s, kCh_s, kCh2_s, kCh3_s, evL_0, evL_s, kL_s, kL2_s, eTup_s, eLst_s, eLstR_s, kTup_s, kLst_s, kLstR_s, eCall_s, kCall_s, eFn_s, kFn_s, evO_0, evO_s, kO_s, eSlice_s, kSl_s, kSl2_s, kSl3_s, iSeq_s, kSeq_t, kSeq_l, iRange1_s, kRa_s, iRange2_s, kRb_s, kRb2_s, eComp_s, kCm_s, kCm2_s, eCompR_s, kCmR_s, kCmR2_s, compL_0, compL_s, kCo_s, kCo2_s, kCo3_s, tests_0, tests_s, kTe_s, gT_s, gTs_0, gTs_s, kG_s, gSub_s, kSub_s, kSub2_s, kSub3_s, sNop_s, sSeq_s, sRet_s, kRet_s, kRet_x, sRetN_s, sExpr_s, kEx_s, kEx_x, sAsg_s, kAs_s, kAs_x, kAs2_s, kAs2_x, sIf_s, kSIf_s, kSIf_i, kSIf_x, sFor_s, kFor_s, fnM_s, aft_r, aft_n, aft_x, turn_n, andThen_nx, andThen_rt, andThen_exc, andThen_bk, andThen_ct, add_i, sub_i, mul_i, div_i, mod_i, pow_i, neg_i, lt_i, le_i, gt_i, ge_i, eq_i, ne_i, eq_s, ne_s, isi_ii, isi_bi, isi_ti, isi_tt, isi_it, isi_bt, abs_i, min_i, max_i, int_i, len_t, len_l, list_l, list_t, list_s, tup_l, tup_t, cup_a, cup_b, eRev_s, kRv_s, kRv2_s, kRv2_l, kAg_s, kAg2_s, kPick_s, addI_i, iRange3_s, kRc_s, kRc2_s, iEnum_s, kEnum_t, kEnum_l, ite_i, ite_b, ite_o, isi_bb, isi_ss, kOr_n, maxL_1, maxL_2, maxL_3, minL_2, isN_i, isN_n, isN_t, isnN_i, isnN_n, isnN_t, v0, v1, v2, v3, v4, v5, v6, v7, v8, v9, v10, v11, v12, v13, v14, v15, v16, v17, v18, v19, v20, v21, v22, v23, v24, g0, g1, g2, g3, g4, g5, g6, g7, g8, g9, g10, g11, g12, g13, g14, g15, g16, g17, g18, g19, g20, g21, g22, g23, g24, w0, w1, w2, w3, w4, w5, w6, w7, w8, w9, w10, w11, w12, w13, w14, w15, w16, w17, w18, w19, w20, w21, w22, w23, w24, u0, u1, u2, u3, u4, u5, u6, u7, u8, u9, u10, u11, u12, u13, u14, u15, u16, u17, u18, u19, u20, u21, u22, u23, u24, List.length_cons, List.length_nil, Nat.zero_add, Nat.reduceAdd, Nat.reduceLeDiff, Nat.reduceLT, ↓reduceIte, decide_eq_true_eq, Int.reduceLT, Int.reduceLE, Int.reduceAdd, Int.reduceSub, Int.reduceMul, Int.reduceNeg, Int.reducePow, Int.reduceToNat, Int.reduceMod, Int.reduceDiv, Int.reduceEq, sz, big, lim, and_self, and_true, true_and, or_true, true_or, or_self, Bool.not_true, Bool.not_false, Bool.not_eq_true, Bool.not_eq_true', decide_true, decide_false, Bool.false_eq_true, List.map_cons, List.map_nil, rn0, rn1, rn2, rn3, rn4, rn5, rn6, rn7, rn8, rn9, rn10, rn11, rn12, rn13, rn14, rn15, rn16, rn17, rn18, rn19, rn20, rn21, rn22, rn23, rn24, rn25, rn26, rn27, rn28, rn29, Nat.sub_self, Nat.reduceSub, List.append_nil, List.cons_append, List.nil_append, reduceCtorEq, decide_not, wipeE, rng, ne_eq, not_true_eq_false, not_false_eq_true]
  · obtain ⟨g', hg, e⟩ := rbeh hs ho hl (a := a) (n := b - a) (last := false) h (by omega) (fun q => nomatch q)
    refine ⟨g', c3, some (.int (a : Int)), some (.int (b : Int)), hg, ?_⟩
    have dq : decide (b = row.length) = false := decide_eq_false hq
    generalize decide (b = row.length) = L2 at *
    subst dq
    unfold sgL
    generalize goD st g = G at *
    generalize goD st g' = G' at *
    generalize ((row.drop a).take (b - a)).map D.int = OM at *
    generalize (row.take t).map D.int = TM at *
    generalize row.map D.int = RM at *
    simp -implicitDefEqProofs only [S_law_5, S_law_6, S_law_7, er_at_, er_rb, er_x, mn, nb, sl, eq, e, eC_s, eUn_s, kUn_s, eOp_s, kOp_s, kOp2_s, ofO_s, eAnd_s, kAnd_s, eOr_s, kOr_s, eNot_s, kNot_s, eIf_s, kIf_s, kIf_i, eChain_s, kCh_s, kCh2_s, kCh3_s, evL_0, evL_s, kL_s, kL2_s, eTup_s, eLst_s, eLstR_s, kTup_s, kLst_s, kLstR_s, eCall_s, kCall_s, eFn_s, kFn_s, evO_0, evO_s, kO_s, eSlice_s, kSl_s, kSl2_s, kSl3_s, iSeq_s, kSeq_t, kSeq_l, iRange1_s, kRa_s, iRange2_s, kRb_s, kRb2_s, eComp_s, kCm_s, kCm2_s, eCompR_s, kCmR_s, kCmR2_s, compL_0, compL_s, kCo_s, kCo2_s, kCo3_s, tests_0, tests_s, kTe_s, gT_s, gTs_0, gTs_s, kG_s, gSub_s, kSub_s, kSub2_s, kSub3_s, sNop_s, sSeq_s, sRet_s, kRet_s, kRet_x, sRetN_s, sExpr_s, kEx_s, kEx_x, sAsg_s, kAs_s, kAs_x, kAs2_s, kAs2_x, sIf_s, kSIf_s, kSIf_i, kSIf_x, sFor_s, kFor_s, fnM_s, aft_r, aft_n, aft_x, turn_n, andThen_nx, andThen_rt, andThen_exc, andThen_bk, andThen_ct, add_i, sub_i, mul_i, div_i, mod_i, pow_i, neg_i, lt_i, le_i, gt_i, ge_i, eq_i, ne_i, eq_s, ne_s, isi_ii, isi_bi, isi_ti, isi_tt, isi_it, isi_bt, abs_i, min_i, max_i, int_i, len_t, len_l, list_l, list_t, list_s, tup_l, tup_t, cup_a, cup_b, eRev_s, kRv_s, kRv2_s, kRv2_l, kAg_s, kAg2_s, kPick_s, addI_i, iRange3_s, kRc_s, kRc2_s, iEnum_s, kEnum_t, kEnum_l, ite_i, ite_b, ite_o, isi_bb, isi_ss, kOr_n, maxL_1, maxL_2, maxL_3, minL_2, isN_i, isN_n, isN_t, isnN_i, isnN_n, isnN_t, v0, v1, v2, v3, v4, v5, v6, v7, v8, v9, v10, v11, v12, v13, v14, v15, v16, v17, v18, v19, v20, v21, v22, v23, v24, g0, g1, g2, g3, g4, g5, g6, g7, g8, g9, g10, g11, g12, g13, g14, g15, g16, g17, g18, g19, g20, g21, g22, g23, g24, w0, w1, w2, w3, w4, w5, w6, w7, w8, w9, w10, w11, w12, w13, w14, w15, w16, w17, w18, w19, w20, w21, w22, w23, w24, u0, u1, u2, u3, u4, u5, u6, u7, u8, u9, u10, u11, u12, u13, u14, u15, u16, u17, u18, u19, u20, u21, u22, u23, u24, List.length_cons, List.length_nil, Nat.zero_add, Nat.reduceAdd, Nat.reduceLeDiff, Nat.reduceLT, ↓reduceIte, decide_eq_true_eq, Int.reduceLT, Int.reduceLE, Int.reduceAdd, Int.reduceSub, Int.reduceMul, Int.reduceNeg, Int.reducePow, Int.reduceToNat, Int.reduceMod, Int.reduceDiv, Int.reduceEq, sz, big, lim, and_self, and_true, true_and, or_true, true_or, or_self, Bool.not_true, Bool.not_false, Bool.not_eq_true, Bool.not_eq_true', decide_true, decide_false, Bool.false_eq_true, List.map_cons, List.map_nil, rn0, rn1, rn2, rn3, rn4, rn5, rn6, rn7, rn8, rn9, rn10, rn11, rn12, rn13, rn14, rn15, rn16, rn17, rn18, rn19, rn20, rn21, rn22, rn23, rn24, rn25, rn26, rn27, rn28, rn29, Nat.sub_self, Nat.reduceSub, List.append_nil, List.cons_append, List.nil_append, reduceCtorEq, decide_not, wipeE, rng, ne_eq, not_true_eq_false, not_false_eq_true]
theorem stage2 {sc : D} {c : Cup} {t : Nat} {g : Go} {x2 x3 x9 x10 x11 : Option D} (h : GR row t g) : ∃ (t' : Nat) (g' : Go) (c' : Cup) (y11 : Option D), GR row t' g' ∧ S_law_8 (sgL sc st row t g x2 x3 x9 x10 x11) (cupS c) = .nx (sgL sc st row t' g' x2 x3 x9 x10 y11) (cupS c') := by
  have er_rd := roll_eq roll_R (c := c) (m := 3) (by decide) (by decide)
  have el_rd := roll_lo roll_R (c := c) (m := 3) (by decide) (by decide)
  have eh_rd := roll_hi roll_R (c := c) (m := 3) (by decide) (by decide)
  generalize rollV f_law_roll c 3 = rd at *
  generalize rollC f_law_roll c 3 = c1 at *
  by_cases hq : rd = 0
  · have em_y := pick_mem roll_R (c := c1) (ds := ([1, 10, 300] : List Int)) (z := 0) (Nat.le_of_ble_eq_true rfl) (Nat.le_of_ble_eq_true rfl)
    have er_y := p3 roll_R some_P (c := c1) (a0 := 1) (a1 := 10) (a2 := 300)
    generalize pick f_law_roll c1 ([1, 10, 300] : List Int) 0 = y at *
    generalize rollC f_law_roll c1 3 = c2 at *
    simp only [List.mem_cons, List.not_mem_nil, or_false] at em_y
    obtain ⟨m, rfl⟩ : ∃ m : Nat, y = (m : Int) := ⟨y.toNat, by omega⟩
    obtain ⟨t', g', h', q1, q2, _, _, e, _⟩ := rtake (st := st) hl (m := m) h
    have ad := addO (xs := row.take t) (ys := (row.drop t).take (t' - t)) (by rw [List.length_take, List.length_take]; omega)
    rw [take_join q2] at ad
    refine ⟨t', g', c2, some (.tup (((row.drop t).take (t' - t)).map .int)), h', ?_⟩
    unfold sgL
    generalize goD st g = G at *
    generalize goD st g' = G' at *
    generalize ((row.drop t).take (t' - t)).map D.int = OM at *
    generalize (row.take t).map D.int = TM at *
    generalize (row.take t').map D.int = TM' at *
    generalize row.map D.int = RM at *
    subst hq
    simp -implicitDefEqProofs only [S_law_9, S_law_10, B_law_8, S_law_8, S_law_9, S_law_10, B_law_8, er_rd, er_y, e, ad, eC_s, eUn_s, kUn_s, eOp_s, kOp_s, kOp2_s, ofO_s, eAnd_s, kAnd_s, eOr_s, kOr_s, eNot_s, kNot_s, eIf_s, kIf_s, kIf_i, eChain_s, kCh_s, kCh2_s, kCh3_s, evL_0, evL_s, kL_s, kL2_s, eTup_s, eLst_s, eLstR_s, kTup_s, kLst_s, kLstR_s, eCall_s, kCall_s, eFn_s, kFn_s, evO_0, evO_s, kO_s, eSlice_s, kSl_s, kSl2_s, kSl3_s, iSeq_s, kSeq_t, kSeq_l, iRange1_s, kRa_s, iRange2_s, kRb_s, kRb2_s, eComp_s, kCm_s, kCm2_s, eCompR_s, kCmR_s, kCmR2_s, compL_0, compL_s, kCo_s, kCo2_s, kCo3_s, tests_0, tests_s, kTe_s, gT_s, gTs_0, gTs_s, kG_s, gSub_s, kSub_s, kSub2_s, kSub3_s, sNop_s, sSeq_s, sRet_s, kRet_s, kRet_x, sRetN_s, sExpr_s, kEx_s, kEx_x, sAsg_s, kAs_s, kAs_x, kAs2_s, kAs2_x, sIf_s, kSIf_s, kSIf_i, kSIf_x, sFor_s, kFor_s, fnM_s, aft_r, aft_n, aft_x, turn_n, andThen_nx, andThen_rt, andThen_exc, andThen_bk, andThen_ct, add_i, sub_i, mul_i, div_i, mod_i, pow_i, neg_i, lt_i, le_i, gt_i, ge_i, eq_i, ne_i, eq_s, ne_s, isi_ii, isi_bi, isi_ti, isi_tt, isi_it, isi_bt, abs_i, min_i, max_i, int_i, len_t, len_l, list_l, list_t, list_s, tup_l, tup_t, cup_a, cup_b, eRev_s, kRv_s, kRv2_s, kRv2_l, kAg_s, kAg2_s, kPick_s, addI_i, iRange3_s, kRc_s, kRc2_s, iEnum_s, kEnum_t, kEnum_l, ite_i, ite_b, ite_o, isi_bb, isi_ss, kOr_n, maxL_1, maxL_2, maxL_3, minL_2, isN_i, isN_n, isN_t, isnN_i, isnN_n, isnN_t, v0, v1, v2, v3, v4, v5, v6, v7, v8, v9, v10, v11, v12, v13, v14, v15, v16, v17, v18, v19, v20, v21, v22, v23, v24, g0, g1, g2, g3, g4, g5, g6, g7, g8, g9, g10, g11, g12, g13, g14, g15, g16, g17, g18, g19, g20, g21, g22, g23, g24, w0, w1, w2, w3, w4, w5, w6, w7, w8, w9, w10, w11, w12, w13, w14, w15, w16, w17, w18, w19, w20, w21, w22, w23, w24, u0, u1, u2, u3, u4, u5, u6, u7, u8, u9, u10, u11, u12, u13, u14, u15, u16, u17, u18, u19, u20, u21, u22, u23, u24, List.length_cons, List.length_nil, Nat.zero_add, Nat.reduceAdd, Nat.reduceLeDiff, Nat.reduceLT, ↓reduceIte, decide_eq_true_eq, Int.reduceLT, Int.reduceLE, Int.reduceAdd, Int.reduceSub, Int.reduceMul, Int.reduceNeg, Int.reducePow, Int.reduceToNat, Int.reduceMod, Int.reduceDiv, Int.reduceEq, sz, big, lim, and_self, and_true, true_and, or_true, true_or, or_self, Bool.not_true, Bool.not_false, Bool.not_eq_true, Bool.not_eq_true', decide_true, decide_false, Bool.false_eq_true, List.map_cons, List.map_nil, rn0, rn1, rn2, rn3, rn4, rn5, rn6, rn7, rn8, rn9, rn10, rn11, rn12, rn13, rn14, rn15, rn16, rn17, rn18, rn19, rn20, rn21, rn22, rn23, rn24, rn25, rn26, rn27, rn28, rn29, Nat.sub_self, Nat.reduceSub, List.append_nil, List.cons_append, List.nil_append, reduceCtorEq, decide_not, wipeE, rng, ne_eq, not_true_eq_false, not_false_eq_true]
  · refine ⟨t, g, c1, x11, h, ?_⟩
    unfold sgL
    generalize goD st g = G at *
    generalize (row.take t).map D.int = TM at *
    generalize row.map D.int = RM at *
    simp -implicitDefEqProofs only [S_law_9, S_law_10, B_law_8, S_law_8, er_rd, hq, eC_s, eUn_s, kUn_s, eOp_s, kOp_s, kOp2_s, ofO_s, eAnd_s, kAnd_s, eOr_s, kOr_s, eNot_s, kNot_s, eIf_s, kIf_s, kIf_i, eChain_s, kCh_s, kCh2_s, kCh3_s, evL_0, evL_s, kL_s, kL2_s, eTup_s, eLst_s, eLstR_s, kTup_s, kLst_s, kLstR_s, eCall_s, kCall_s, eFn_s, kFn_s, evO_0, evO_s, kO_s, eSlice_s, kSl_s, kSl2_s, kSl3_s, iSeq_s, kSeq_t, kSeq_l, iRange1_s, kRa_s, iRange2_s, kRb_s, kRb2_s, eComp_s, kCm_s, kCm2_s, eCompR_s, kCmR_s, kCmR2_s, compL_0, compL_s, kCo_s, kCo2_s, kCo3_s, tests_0, tests_s, kTe_s, gT_s, gTs_0, gTs_s, kG_s, gSub_s, kSub_s, kSub2_s, kSub3_s, sNop_s, sSeq_s, sRet_s, kRet_s, kRet_x, sRetN_s, sExpr_s, kEx_s, kEx_x, sAsg_s, kAs_s, kAs_x, kAs2_s, kAs2_x, sIf_s, kSIf_s, kSIf_i, kSIf_x, sFor_s, kFor_s, fnM_s, aft_r, aft_n, aft_x, turn_n, andThen_nx, andThen_rt, andThen_exc, andThen_bk, andThen_ct, add_i, sub_i, mul_i, div_i, mod_i, pow_i, neg_i, lt_i, le_i, gt_i, ge_i, eq_i, ne_i, eq_s, ne_s, isi_ii, isi_bi, isi_ti, isi_tt, isi_it, isi_bt, abs_i, min_i, max_i, int_i, len_t, len_l, list_l, list_t, list_s, tup_l, tup_t, cup_a, cup_b, eRev_s, kRv_s, kRv2_s, kRv2_l, kAg_s, kAg2_s, kPick_s, addI_i, iRange3_s, kRc_s, kRc2_s, iEnum_s, kEnum_t, kEnum_l, ite_i, ite_b, ite_o, isi_bb, isi_ss, kOr_n, maxL_1, maxL_2, maxL_3, minL_2, isN_i, isN_n, isN_t, isnN_i, isnN_n, isnN_t, v0, v1, v2, v3, v4, v5, v6, v7, v8, v9, v10, v11, v12, v13, v14, v15, v16, v17, v18, v19, v20, v21, v22, v23, v24, g0, g1, g2, g3, g4, g5, g6, g7, g8, g9, g10, g11, g12, g13, g14, g15, g16, g17, g18, g19, g20, g21, g22, g23, g24, w0, w1, w2, w3, w4, w5, w6, w7, w8, w9, w10, w11, w12, w13, w14, w15, w16, w17, w18, w19, w20, w21, w22, w23, w24, u0, u1, u2, u3, u4, u5, u6, u7, u8, u9, u10, u11, u12, u13, u14, u15, u16, u17, u18, u19, u20, u21, u22, u23, u24, List.length_cons, List.length_nil, Nat.zero_add, Nat.reduceAdd, Nat.reduceLeDiff, Nat.reduceLT, ↓reduceIte, decide_eq_true_eq, Int.reduceLT, Int.reduceLE, Int.reduceAdd, Int.reduceSub, Int.reduceMul, Int.reduceNeg, Int.reducePow, Int.reduceToNat, Int.reduceMod, Int.reduceDiv, Int.reduceEq, sz, big, lim, and_self, and_true, true_and, or_true, true_or, or_self, Bool.not_true, Bool.not_false, Bool.not_eq_true, Bool.not_eq_true', decide_true, decide_false, Bool.false_eq_true, List.map_cons, List.map_nil, rn0, rn1, rn2, rn3, rn4, rn5, rn6, rn7, rn8, rn9, rn10, rn11, rn12, rn13, rn14, rn15, rn16, rn17, rn18, rn19, rn20, rn21, rn22, rn23, rn24, rn25, rn26, rn27, rn28, rn29, Nat.sub_self, Nat.reduceSub, List.append_nil, List.cons_append, List.nil_append, reduceCtorEq, decide_not, wipeE, rng, ne_eq, not_true_eq_false, not_false_eq_true]
theorem stage3 {sc : D} {s : Store} {t : Nat} {g : Go} {x2 x3 x9 x10 x11 : Option D} (h : GR row t g) : ∃ (y10 : Option D), (sSeq S_law_11 (sSeq S_law_12 (sSeq S_law_14 sNop))) (sgL sc st row t g x2 x3 x9 x10 x11) s = .nx (sgL sc st row t g x2 x3 x9 y10 x11) s := by
  obtain ⟨f1, f2, f3, f4⟩ := h.facts
  have lw : g.w.length = g.c - t := by rw [f3, List.length_take, List.length_drop]; omega
  have ad := addO (xs := row.take t) (ys := g.w) (by rw [List.length_take]; omega)
  have eA : row.take t ++ g.w = row.take g.c := by rw [f3, take_join f2]
  rw [eA] at ad
  have lc : (((row.take g.c).map D.int).length : Int) = (g.c : Int) := by rw [List.length_map, List.length_take]; omega
  have i0 : ∀ s, dItem s (goD st g) (.int 0) = some (.int (num st ((g.c : Int) + if g.e = true then 1 else 0))) := fun s => rfl
  have i1 : ∀ s, dItem s (goD st g) (.int 1) = some (.tup (g.w.map .int)) := fun s => rfl
  have i3 : ∀ s, dItem s (goD st g) (.int 3) = some (.bl g.e) := fun s => rfl
  have sl : ∀ s, dSlice s (.tup (row.map .int)) none (some (g.c : Int)) = some (.tup ((row.take g.c).map .int)) := fun s => by
    rw [slO_to (by omega), Int.toNat_natCast]
  have rr : ∀ s, fRepr s [.tup ((row.take g.c).map .int)] = some (.str (D.tup ((row.take g.c).map .int)).pyd.shown) := fun s => repr_oct (ho.take _) (by rw [List.length_take]; omega)
  refine ⟨some (.tup ((row.take g.c).map .int)), ?_⟩
  unfold sgL
  cases he : g.e with
  | true =>
    have hc := f4 he
    have nb := fun s => numb_ok (p := (g.c : Int) + 1) (s := s) hs (by omega)
    have lt : ¬ (g.c : Int) < (row.length : Int) := by omega
    have i0 : ∀ s, dItem s (goD st g) (.int 0) = some (.int (num st ((g.c : Int) + 1))) := fun s => by rw [i0, he]; rfl
    rw [he] at i3
    generalize goD st g = G at *
    generalize (row.take t).map D.int = TM at *
    generalize g.w.map D.int = WM at *
    generalize (row.take g.c).map D.int = CM at *
    generalize row.map D.int = RM at *
    generalize (D.tup CM).pyd.shown = XC at *
    simp -implicitDefEqProofs only [S_law_11, S_law_12, B_law_12, S_law_13, S_law_14, B_law_14, S_law_15, ad, lc, i0, i1, i3, sl, rr, nb, lt, ne_self, eC_s, eUn_s, kUn_s, eOp_s, kOp_s, kOp2_s, ofO_s, eAnd_s, kAnd_s, eOr_s, kOr_s, eNot_s, kNot_s, eIf_s, kIf_s, kIf_i, eChain_s, kCh_s, kCh2_s, kCh3_s, evL_0, evL_s, kL_s, kL2_s, eTup_s, eLst_s, eLstR_s, kTup_s, kLst_s, kLstR_s, eCall_s, kCall_s, eFn_s, kFn_s, evO_0, evO_s, kO_s, eSlice_s, kSl_s, kSl2_s, kSl3_s, iSeq_s, kSeq_t, kSeq_l, iRange1_s, kRa_s, iRange2_s, kRb_s, kRb2_s, eComp_s, kCm_s, kCm2_s, eCompR_s, kCmR_s, kCmR2_s, compL_0, compL_s, kCo_s, kCo2_s, kCo3_s, tests_0, tests_s, kTe_s, gT_s, gTs_0, gTs_s, kG_s, gSub_s, kSub_s, kSub2_s, kSub3_s, sNop_s, sSeq_s, sRet_s, kRet_s, kRet_x, sRetN_s, sExpr_s, kEx_s, kEx_x, sAsg_s, kAs_s, kAs_x, kAs2_s, kAs2_x, sIf_s, kSIf_s, kSIf_i, kSIf_x, sFor_s, kFor_s, fnM_s, aft_r, aft_n, aft_x, turn_n, andThen_nx, andThen_rt, andThen_exc, andThen_bk, andThen_ct, add_i, sub_i, mul_i, div_i, mod_i, pow_i, neg_i, lt_i, le_i, gt_i, ge_i, eq_i, ne_i, eq_s, ne_s, isi_ii, isi_bi, isi_ti, isi_tt, isi_it, isi_bt, abs_i, min_i, max_i, int_i, len_t, len_l, list_l, list_t, list_s, tup_l, tup_t, cup_a, cup_b, eRev_s, kRv_s, kRv2_s, kRv2_l, kAg_s, kAg2_s, kPick_s, addI_i, iRange3_s, kRc_s, kRc2_s, iEnum_s, kEnum_t, kEnum_l, ite_i, ite_b, ite_o, isi_bb, isi_ss, kOr_n, maxL_1, maxL_2, maxL_3, minL_2, isN_i, isN_n, isN_t, isnN_i, isnN_n, isnN_t, v0, v1, v2, v3, v4, v5, v6, v7, v8, v9, v10, v11, v12, v13, v14, v15, v16, v17, v18, v19, v20, v21, v22, v23, v24, g0, g1, g2, g3, g4, g5, g6, g7, g8, g9, g10, g11, g12, g13, g14, g15, g16, g17, g18, g19, g20, g21, g22, g23, g24, w0, w1, w2, w3, w4, w5, w6, w7, w8, w9, w10, w11, w12, w13, w14, w15, w16, w17, w18, w19, w20, w21, w22, w23, w24, u0, u1, u2, u3, u4, u5, u6, u7, u8, u9, u10, u11, u12, u13, u14, u15, u16, u17, u18, u19, u20, u21, u22, u23, u24, List.length_cons, List.length_nil, Nat.zero_add, Nat.reduceAdd, Nat.reduceLeDiff, Nat.reduceLT, ↓reduceIte, decide_eq_true_eq, Int.reduceLT, Int.reduceLE, Int.reduceAdd, Int.reduceSub, Int.reduceMul, Int.reduceNeg, Int.reducePow, Int.reduceToNat, Int.reduceMod, Int.reduceDiv, Int.reduceEq, sz, big, lim, and_self, and_true, true_and, or_true, true_or, or_self, Bool.not_true, Bool.not_false, Bool.not_eq_true, Bool.not_eq_true', decide_true, decide_false, Bool.false_eq_true, List.map_cons, List.map_nil, rn0, rn1, rn2, rn3, rn4, rn5, rn6, rn7, rn8, rn9, rn10, rn11, rn12, rn13, rn14, rn15, rn16, rn17, rn18, rn19, rn20, rn21, rn22, rn23, rn24, rn25, rn26, rn27, rn28, rn29, Nat.sub_self, Nat.reduceSub, List.append_nil, List.cons_append, List.nil_append, reduceCtorEq, decide_not, wipeE, rng, ne_eq, not_true_eq_false, not_false_eq_true]
  | false =>
    have nb := fun s => numb_ok (p := (g.c : Int)) (s := s) hs (by omega)
    have nb0 : ∀ s, f_law_number [.int st, .int ((g.c : Int) + 0)] s = .ok (.int (num st (g.c : Int))) s := fun s => by rw [Int.add_zero]; exact nb s
    have i0 : ∀ s, dItem s (goD st g) (.int 0) = some (.int (num st (g.c : Int))) := fun s => by rw [i0, he]; show some (D.int (num st ((g.c : Int) + 0))) = _; rw [Int.add_zero]
    rw [he] at i3
    generalize goD st g = G at *
    generalize (row.take t).map D.int = TM at *
    generalize g.w.map D.int = WM at *
    generalize (row.take g.c).map D.int = CM at *
    generalize row.map D.int = RM at *
    generalize (D.tup CM).pyd.shown = XC at *
    simp -implicitDefEqProofs only [S_law_11, S_law_12, B_law_12, S_law_13, S_law_14, B_law_14, S_law_15, ad, lc, i0, i1, i3, sl, rr, nb0, ne_self, eC_s, eUn_s, kUn_s, eOp_s, kOp_s, kOp2_s, ofO_s, eAnd_s, kAnd_s, eOr_s, kOr_s, eNot_s, kNot_s, eIf_s, kIf_s, kIf_i, eChain_s, kCh_s, kCh2_s, kCh3_s, evL_0, evL_s, kL_s, kL2_s, eTup_s, eLst_s, eLstR_s, kTup_s, kLst_s, kLstR_s, eCall_s, kCall_s, eFn_s, kFn_s, evO_0, evO_s, kO_s, eSlice_s, kSl_s, kSl2_s, kSl3_s, iSeq_s, kSeq_t, kSeq_l, iRange1_s, kRa_s, iRange2_s, kRb_s, kRb2_s, eComp_s, kCm_s, kCm2_s, eCompR_s, kCmR_s, kCmR2_s, compL_0, compL_s, kCo_s, kCo2_s, kCo3_s, tests_0, tests_s, kTe_s, gT_s, gTs_0, gTs_s, kG_s, gSub_s, kSub_s, kSub2_s, kSub3_s, sNop_s, sSeq_s, sRet_s, kRet_s, kRet_x, sRetN_s, sExpr_s, kEx_s, kEx_x, sAsg_s, kAs_s, kAs_x, kAs2_s, kAs2_x, sIf_s, kSIf_s, kSIf_i, kSIf_x, sFor_s, kFor_s, fnM_s, aft_r, aft_n, aft_x, turn_n, andThen_nx, andThen_rt, andThen_exc, andThen_bk, andThen_ct, add_i, sub_i, mul_i, div_i, mod_i, pow_i, neg_i, lt_i, le_i, gt_i, ge_i, eq_i, ne_i, eq_s, ne_s, isi_ii, isi_bi, isi_ti, isi_tt, isi_it, isi_bt, abs_i, min_i, max_i, int_i, len_t, len_l, list_l, list_t, list_s, tup_l, tup_t, cup_a, cup_b, eRev_s, kRv_s, kRv2_s, kRv2_l, kAg_s, kAg2_s, kPick_s, addI_i, iRange3_s, kRc_s, kRc2_s, iEnum_s, kEnum_t, kEnum_l, ite_i, ite_b, ite_o, isi_bb, isi_ss, kOr_n, maxL_1, maxL_2, maxL_3, minL_2, isN_i, isN_n, isN_t, isnN_i, isnN_n, isnN_t, v0, v1, v2, v3, v4, v5, v6, v7, v8, v9, v10, v11, v12, v13, v14, v15, v16, v17, v18, v19, v20, v21, v22, v23, v24, g0, g1, g2, g3, g4, g5, g6, g7, g8, g9, g10, g11, g12, g13, g14, g15, g16, g17, g18, g19, g20, g21, g22, g23, g24, w0, w1, w2, w3, w4, w5, w6, w7, w8, w9, w10, w11, w12, w13, w14, w15, w16, w17, w18, w19, w20, w21, w22, w23, w24, u0, u1, u2, u3, u4, u5, u6, u7, u8, u9, u10, u11, u12, u13, u14, u15, u16, u17, u18, u19, u20, u21, u22, u23, u24, List.length_cons, List.length_nil, Nat.zero_add, Nat.reduceAdd, Nat.reduceLeDiff, Nat.reduceLT, ↓reduceIte, decide_eq_true_eq, Int.reduceLT, Int.reduceLE, Int.reduceAdd, Int.reduceSub, Int.reduceMul, Int.reduceNeg, Int.reducePow, Int.reduceToNat, Int.reduceMod, Int.reduceDiv, Int.reduceEq, sz, big, lim, and_self, and_true, true_and, or_true, true_or, or_self, Bool.not_true, Bool.not_false, Bool.not_eq_true, Bool.not_eq_true', decide_true, decide_false, Bool.false_eq_true, List.map_cons, List.map_nil, rn0, rn1, rn2, rn3, rn4, rn5, rn6, rn7, rn8, rn9, rn10, rn11, rn12, rn13, rn14, rn15, rn16, rn17, rn18, rn19, rn20, rn21, rn22, rn23, rn24, rn25, rn26, rn27, rn28, rn29, Nat.sub_self, Nat.reduceSub, List.append_nil, List.cons_append, List.nil_append, reduceCtorEq, decide_not, wipeE, rng, ne_eq, not_true_eq_false, not_false_eq_true]
theorem turn_ok {sc : D} {c : Cup} {t : Nat} {g : Go} {x2 x3 x9 x10 x11 : Option D} (h : GR row t g) : ∃ (t' : Nat) (g' : Go) (c' : Cup) (y3 y9 y10 y11 : Option D), GR row t' g' ∧ B_law_4 (sgL sc st row t g x2 x3 x9 x10 x11) (cupS c) = .nx (sgL sc st row t' g' x2 y3 y9 y10 y11) (cupS c') := by
  obtain ⟨gA, c1, y3, y9, h1, e1⟩ := stage1 hs ho hl (sc := sc) (c := c) (x2 := x2) (x3 := x3) (x9 := x9) (x10 := x10) (x11 := x11) h
  obtain ⟨t2, gB, c2, y11, h2, e2⟩ := stage2 hs ho hl (sc := sc) (c := c1) (x2 := x2) (x3 := y3) (x9 := y9) (x10 := x10) (x11 := x11) h1
  obtain ⟨y10, e3⟩ := stage3 hs ho hl (sc := sc) (s := cupS c2) (x2 := x2) (x3 := y3) (x9 := y9) (x10 := x10) (x11 := y11) h2
  refine ⟨t2, gB, c2, y3, y9, y10, y11, h2, ?_⟩
  have hB : ∀ (a b c d e f g : S) σ s, sSeq a (sSeq b (sSeq c (sSeq d (sSeq e (sSeq f (sSeq g sNop)))))) σ s = ((sSeq a (sSeq b (sSeq c sNop))) σ s).andThen (sSeq d (sSeq e (sSeq f (sSeq g sNop)))) := fun a b c d e f g σ s => by
    show (a σ s).andThen _ = ((a σ s).andThen _).andThen _
    cases a σ s with
    | nx σ1 s1 =>
      show (b σ1 s1).andThen _ = ((b σ1 s1).andThen _).andThen _
      cases b σ1 s1 with
      | nx σ2 s2 =>
        show (c σ2 s2).andThen _ = ((c σ2 s2).andThen _).andThen _
        cases c σ2 s2 <;> rfl
      | _ => rfl
    | _ => rfl
  rw [B_law_4, hB, e1]
  show sSeq S_law_8 _ _ _ = _
  show (S_law_8 _ _).andThen _ = _
  rw [e2]
  exact e3
/-- the last walk -/
theorem fin_loop {sc : D} {s : Store} {t : Nat} : ∀ (n k : Nat) (g : Go) (x2 x3 x9 x10 x11 : Option D), (k + n) = row.length / 40 + 1 → GR row t g → (g.e = true ∨ 40 * k ≤ g.c) → ∃ (g' : Go) (y3 y9 : Option D), GR row t g' ∧ (g'.e = true ∨ 40 * (k + n) ≤ g'.c) ∧ forL (gN 3) B_law_16 ((List.range' k n).map fun j : Nat => D.int ((j : Int) * 40)) (sgL sc st row t g x2 x3 x9 x10 x11) s = .nx (sgL sc st row t g' x2 y3 y9 x10 x11) s
  | 0, k, g, x2, x3, x9, x10, x11, _, h, hc => ⟨g, x3, x9, h, hc, rfl⟩
  | n + 1, k, g, x2, x3, x9, x10, x11, hk, h, hc => by
    obtain ⟨b, hb⟩ : ∃ b : Nat, b = min row.length (k * 40 + 40) := ⟨_, rfl⟩
    have ka : k * 40 ≤ row.length := by omega
    have mn : ∀ s, fMin s [.int (row.length : Int), .int (((k * 40 : Nat) : Int) + 40)] = some (.int (b : Int)) := fun s => by
      rw [min_i]; congr 2; split <;> omega
    have nb := fun s => numb_ok (p := ((k * 40 : Nat) : Int)) (s := s) hs (by omega)
    have sl : ∀ s, dSlice s (.tup (row.map .int)) (some ((k * 40 : Nat) : Int)) (some (b : Int)) = some (.tup (((row.drop (k * 40)).take (b - k * 40)).map .int)) := fun s => by
      rw [slO_mid (by omega) (by omega), Int.toNat_natCast, Int.toNat_natCast]
    have eq : ∀ s, dEq s (.int (b : Int)) (.int (row.length : Int)) = some (.bl (decide (b = row.length))) := fun s => by
      rw [eq_i]; congr 2
      exact decide_eq_decide.mpr (by omega)
    obtain ⟨g', hg, hg2, e⟩ : ∃ g', GR row t g' ∧ (g'.e = true ∨ 40 * (k + 1) ≤ g'.c) ∧ ∀ s, f_goods_behind [goD st g, .int (num st ((k * 40 : Nat) : Int)), .tup (((row.drop (k * 40)).take (b - k * 40)).map .int), .bl (decide (b = row.length))] s = .ok (goD st g') s := by
      rcases h with h | ⟨h, h'⟩
      · have hc' : 40 * k ≤ g.c := hc.elim (fun q => by rw [h.he] at q; exact nomatch q) id
        obtain ⟨g', k1, _, k3, _, k5⟩ := rbeh_le hs ho hl h (a := k * 40) (n := b - k * 40) (by omega) (by omega)
        refine ⟨if decide (b = row.length) = true then ⟨row.length, row.drop t, [], true⟩ else g', ?_, ?_, fun s => k5 s _ (fun q => by have := of_decide_eq_true q; omega)⟩
        · split
          · exact .inr ⟨rfl, Nat.le_trans h.ht h.hc⟩
          · exact .inl k1.weak
        · split
          · exact .inl rfl
          · rename_i q
            have q : ¬ b = row.length := fun q' => q (decide_eq_true q')
            exact .inr (by omega)
      · exact ⟨g, .inr ⟨h, h'⟩, .inl (by rw [h]), fun s => beh_end (by rw [h])⟩
    have st1 : turn (gN 3) B_law_16 (.int ((k * 40 : Nat) : Int)) (sgL sc st row t g x2 x3 x9 x10 x11) s = .nx (sgL sc st row t g' x2 (some (.int ((k * 40 : Nat) : Int))) (some (.int (b : Int))) x10 x11) s := by
      unfold sgL
      generalize goD st g = G at *
      generalize goD st g' = G' at *
      generalize ((row.drop (k * 40)).take (b - k * 40)).map D.int = OM at *
      generalize (row.take t).map D.int = TM at *
      generalize row.map D.int = RM at *
      generalize decide (b = row.length) = L at *
      generalize ((k * 40 : Nat) : Int) = KI at *
      simp -implicitDefEqProofs only [S_law_17, S_law_18, B_law_16, mn, nb, sl, eq, e, eC_s, eUn_s, kUn_s, eOp_s, kOp_s, kOp2_s, ofO_s, eAnd_s, kAnd_s, eOr_s, kOr_s, eNot_s, kNot_s, eIf_s, kIf_s, kIf_i, eChain_s, kCh_s, kCh2_s, kCh3_s, evL_0, evL_s, kL_s, kL2_s, eTup_s, eLst_s, eLstR_s, kTup_s, kLst_s, kLstR_s, eCall_s, kCall_s, eFn_s, kFn_s, evO_0, evO_s, kO_s, eSlice_s, kSl_s, kSl2_s, kSl3_s, iSeq_s, kSeq_t, kSeq_l, iRange1_s, kRa_s, iRange2_s, kRb_s, kRb2_s, eComp_s, kCm_s, kCm2_s, eCompR_s, kCmR_s, kCmR2_s, compL_0, compL_s, kCo_s, kCo2_s, kCo3_s, tests_0, tests_s, kTe_s, gT_s, gTs_0, gTs_s, kG_s, gSub_s, kSub_s, kSub2_s, kSub3_s, sNop_s, sSeq_s, sRet_s, kRet_s, kRet_x, sRetN_s, sExpr_s, kEx_s, kEx_x, sAsg_s, kAs_s, kAs_x, kAs2_s, kAs2_x, sIf_s, kSIf_s, kSIf_i, kSIf_x, sFor_s, kFor_s, fnM_s, aft_r, aft_n, aft_x, turn_n, andThen_nx, andThen_rt, andThen_exc, andThen_bk, andThen_ct, add_i, sub_i, mul_i, div_i, mod_i, pow_i, neg_i, lt_i, le_i, gt_i, ge_i, eq_i, ne_i, eq_s, ne_s, isi_ii, isi_bi, isi_ti, isi_tt, isi_it, isi_bt, abs_i, min_i, max_i, int_i, len_t, len_l, list_l, list_t, list_s, tup_l, tup_t, cup_a, cup_b, eRev_s, kRv_s, kRv2_s, kRv2_l, kAg_s, kAg2_s, kPick_s, addI_i, iRange3_s, kRc_s, kRc2_s, iEnum_s, kEnum_t, kEnum_l, ite_i, ite_b, ite_o, isi_bb, isi_ss, kOr_n, maxL_1, maxL_2, maxL_3, minL_2, isN_i, isN_n, isN_t, isnN_i, isnN_n, isnN_t, v0, v1, v2, v3, v4, v5, v6, v7, v8, v9, v10, v11, v12, v13, v14, v15, v16, v17, v18, v19, v20, v21, v22, v23, v24, g0, g1, g2, g3, g4, g5, g6, g7, g8, g9, g10, g11, g12, g13, g14, g15, g16, g17, g18, g19, g20, g21, g22, g23, g24, w0, w1, w2, w3, w4, w5, w6, w7, w8, w9, w10, w11, w12, w13, w14, w15, w16, w17, w18, w19, w20, w21, w22, w23, w24, u0, u1, u2, u3, u4, u5, u6, u7, u8, u9, u10, u11, u12, u13, u14, u15, u16, u17, u18, u19, u20, u21, u22, u23, u24, List.length_cons, List.length_nil, Nat.zero_add, Nat.reduceAdd, Nat.reduceLeDiff, Nat.reduceLT, ↓reduceIte, decide_eq_true_eq, Int.reduceLT, Int.reduceLE, Int.reduceAdd, Int.reduceSub, Int.reduceMul, Int.reduceNeg, Int.reducePow, Int.reduceToNat, Int.reduceMod, Int.reduceDiv, Int.reduceEq, sz, big, lim, and_self, and_true, true_and, or_true, true_or, or_self, Bool.not_true, Bool.not_false, Bool.not_eq_true, Bool.not_eq_true', decide_true, decide_false, Bool.false_eq_true, List.map_cons, List.map_nil, rn0, rn1, rn2, rn3, rn4, rn5, rn6, rn7, rn8, rn9, rn10, rn11, rn12, rn13, rn14, rn15, rn16, rn17, rn18, rn19, rn20, rn21, rn22, rn23, rn24, rn25, rn26, rn27, rn28, rn29, Nat.sub_self, Nat.reduceSub, List.append_nil, List.cons_append, List.nil_append, reduceCtorEq, decide_not, wipeE, rng, ne_eq, not_true_eq_false, not_false_eq_true]
    obtain ⟨gB, y3, y9, q1, q2, q3⟩ := fin_loop n (k + 1) g' x2 (some (.int ((k * 40 : Nat) : Int))) (some (.int (b : Int))) x10 x11 (by omega) hg hg2
    refine ⟨gB, y3, y9, q1, by rw [show k + (n + 1) = k + 1 + n by omega]; exact q2, ?_⟩
    rw [List.range'_succ, List.map_cons, forL_s, show ((k : Int) * 40) = ((k * 40 : Nat) : Int) by rw [Int.natCast_mul]; rfl, st1]
    exact q3
end
theorem rng40 : ∀ (n k : Nat), (List.range' k n).map (fun j : Nat => D.int ((j : Int) * 40)) = rngS ((k : Int) * 40) 40 n
  | 0, k => rfl
  | n + 1, k => by
    rw [List.range'_succ, List.map_cons, rng40 n, rngS]
    congr 1
    rw [show (((k + 1 : Nat) : Int) * 40) = (k : Int) * 40 + 40 by omega]
theorem rng40_0 {n : Nat} : (List.range' 0 n).map (fun j : Nat => D.int ((j : Int) * 40)) = rngS 0 40 n := rng40 n 0
theorem kRc3_40 {j : Int} {s : Store} (h0 : 0 ≤ j) (h1 : j ≤ 100000) : kRc3 (.int 0) (.int j) (.ok (.int 40) s) = .ok (rngS 0 40 ((j + 39) / 40).toNat) s := by
  have e := kRc3_s (i := 0) (j := j) (k := 40) (s := s)
  rw [e, if_pos (by unfold lim; omega), if_pos (by omega), show j - 0 + 40 - 1 = j + 39 by omega]
theorem isn_tt {s : Store} : dIsNot s (.bl true) (.bl true) = some (.bl false) := rfl
theorem truly : Mn.Truly f_law := by
  intro ns hl
  obtain ⟨c, hc⟩ := cup_ok hl
  obtain ⟨sc, hsc⟩ : ∃ sc, sc = D.scr (List.map D.int ns) := ⟨_, rfl⟩
  rw [← hsc] at hc ⊢
  obtain ⟨st, c1, hs, e1⟩ := start_ok (c := c)
  have er_ra := roll_eq roll_R (c := c1) (m := 280) (by decide) (by decide)
  have el_ra := roll_lo roll_R (c := c1) (m := 280) (by decide) (by decide)
  have eh_ra := roll_hi roll_R (c := c1) (m := 280) (by decide) (by decide)
  generalize rollV f_law_roll c1 280 = ra at *
  generalize rollC f_law_roll c1 280 = c2 at *
  have em_many := pick_mem roll_R (c := c2) (ds := ([0, 1, 40, 279, ra] : List Int)) (z := 0) (Nat.le_of_ble_eq_true rfl) (Nat.le_of_ble_eq_true rfl)
  have er_many := p5 roll_R some_P (c := c2) (a0 := 0) (a1 := 1) (a2 := 40) (a3 := 279) (a4 := ra)
  generalize pick f_law_roll c2 ([0, 1, 40, 279, ra] : List Int) 0 = many at *
  generalize rollC f_law_roll c2 5 = c3 at *
  simp only [List.mem_cons, List.not_mem_nil, or_false] at em_many
  obtain ⟨m, rfl⟩ : ∃ m : Nat, many = (m : Int) := ⟨many.toNat, by omega⟩
  have hm : m ≤ 279 := by omega
  obtain ⟨row, hrow⟩ : ∃ row, row = ocs 3 m := ⟨_, rfl⟩
  have ho : Oct row := by rw [hrow]; exact ocs_oct
  have lr : row.length = m := by rw [hrow]; exact ocs_len
  have hl2 : row.length ≤ 280 := by omega
  have fo : ∀ s, f_law_octets [.int 3, .int (m : Int)] s = .ok (.tup (row.map .int)) s := fun s => by
    rw [hrow]
    have := lawoct_ok (seed := 3) (many := (m : Int)) (s := s) (by decide) (by omega) (by omega)
    rw [Int.toNat_natCast] at this
    exact this
  have fr := fun s => fresh_ok (s := s) hs
  have Lp : ∃ σ' s', forL (gN 2) B_law_4 (rng 0 30) (sgL sc st row 0 ⟨0, [], [], false⟩ none none none none none) (cupS c3) = .nx σ' s' ∧ ∃ c' t' g' y2 y3 y9 y10 y11, GR row t' g' ∧ σ' = sgL sc st row t' g' y2 y3 y9 y10 y11 ∧ s' = cupS c' := by
    refine for_keep (J := fun _ => True) ⟨c3, 0, _, _, _, _, _, _, .inl fresh_row, rfl, rfl⟩ (fun _ _ => trivial) fun d σ s _ ⟨c, t, g, y2, y3, y9, y10, y11, hg, e1, e2⟩ => ?_
    subst e1 e2
    obtain ⟨t', g', c', z3, z9, z10, z11, hg', e⟩ := turn_ok hs ho hl2 (sc := sc) (c := c) (x2 := some d) (x3 := y3) (x9 := y9) (x10 := y10) (x11 := y11) hg
    exact ⟨_, _, .inl (turn_n.trans e), c', t', g', _, _, _, _, _, hg', rfl, rfl⟩
  obtain ⟨σ', s', e2, c4, t, g, y2, y3, y9, y10, y11, hg, rfl, rfl⟩ := Lp
  obtain ⟨g', z3, z9, hg', hge, e3⟩ := fin_loop hs ho hl2 (sc := sc) (s := cupS c4) (t := t) (row.length / 40 + 1) 0 g y2 y3 y9 y10 y11 (by omega) hg (.inr (by omega))
  have hcl := hg'.facts
  have he : g' = ⟨row.length, row.drop t, [], true⟩ ∧ t ≤ row.length := by
    rcases hg' with h | h
    · rcases hge with q | q
      · rw [h.he] at q; exact nomatch q
      · have := h.hc; omega
    · exact h
  obtain ⟨rfl, ht⟩ := he
  have tk := fun s => taken_ok (st := st) (g := ⟨row.length, row.drop t, [], true⟩) (m := 300) (s := s)
  have td : (row.drop t).drop 300 = [] := List.drop_of_length_le (by rw [List.length_drop]; omega)
  have tk : ∀ s, ∃ O : D, f_taken_from [goD st ⟨row.length, row.drop t, [], true⟩, .int 300] s = .ok (.tup [goD st ⟨row.length, [], [], true⟩, O]) s := fun s => ⟨_, by
    have q := tk s
    dsimp only at q
    rw [td] at q
    exact q⟩
  have q3 : ∀ s, dItem s (goD st ⟨row.length, [], [], true⟩) (.int 3) = some (.bl true) := fun s => rfl
  have q1 : ∀ s, dItem s (goD st ⟨row.length, [], [], true⟩) (.int 1) = some (.tup []) := fun s => rfl
  have qe : ∀ s, dEq s (.tup []) (.tup []) = some (.bl true) := fun s => eq_nilT (ds := []) trivial (by decide)
  have ae : ∀ s, f_is_at_end [goD st ⟨row.length, [], [], true⟩] s = .ok (.bl true) s := fun s => by
    generalize goD st ⟨row.length, [], [], true⟩ = GG at *
    simp -implicitDefEqProofs only [f_is_at_end, sh_is_at_end, S_is_at_end_1, q1, q3, qe, eC_s, eUn_s, kUn_s, eOp_s, kOp_s, kOp2_s, ofO_s, eAnd_s, kAnd_s, eOr_s, kOr_s, eNot_s, kNot_s, eIf_s, kIf_s, kIf_i, eChain_s, kCh_s, kCh2_s, kCh3_s, evL_0, evL_s, kL_s, kL2_s, eTup_s, eLst_s, eLstR_s, kTup_s, kLst_s, kLstR_s, eCall_s, kCall_s, eFn_s, kFn_s, evO_0, evO_s, kO_s, eSlice_s, kSl_s, kSl2_s, kSl3_s, iSeq_s, kSeq_t, kSeq_l, iRange1_s, kRa_s, iRange2_s, kRb_s, kRb2_s, eComp_s, kCm_s, kCm2_s, eCompR_s, kCmR_s, kCmR2_s, compL_0, compL_s, kCo_s, kCo2_s, kCo3_s, tests_0, tests_s, kTe_s, gT_s, gTs_0, gTs_s, kG_s, gSub_s, kSub_s, kSub2_s, kSub3_s, sNop_s, sSeq_s, sRet_s, kRet_s, kRet_x, sRetN_s, sExpr_s, kEx_s, kEx_x, sAsg_s, kAs_s, kAs_x, kAs2_s, kAs2_x, sIf_s, kSIf_s, kSIf_i, kSIf_x, sFor_s, kFor_s, fnM_s, aft_r, aft_n, aft_x, turn_n, andThen_nx, andThen_rt, andThen_exc, andThen_bk, andThen_ct, add_i, sub_i, mul_i, div_i, mod_i, pow_i, neg_i, lt_i, le_i, gt_i, ge_i, eq_i, ne_i, eq_s, ne_s, isi_ii, isi_bi, isi_ti, isi_tt, isi_it, isi_bt, abs_i, min_i, max_i, int_i, len_t, len_l, list_l, list_t, list_s, tup_l, tup_t, cup_a, cup_b, eRev_s, kRv_s, kRv2_s, kRv2_l, kAg_s, kAg2_s, kPick_s, addI_i, iRange3_s, kRc_s, kRc2_s, iEnum_s, kEnum_t, kEnum_l, ite_i, ite_b, ite_o, isi_bb, isi_ss, kOr_n, maxL_1, maxL_2, maxL_3, minL_2, isN_i, isN_n, isN_t, isnN_i, isnN_n, isnN_t, v0, v1, v2, v3, v4, v5, v6, v7, v8, v9, v10, v11, v12, v13, v14, v15, v16, v17, v18, v19, v20, v21, v22, v23, v24, g0, g1, g2, g3, g4, g5, g6, g7, g8, g9, g10, g11, g12, g13, g14, g15, g16, g17, g18, g19, g20, g21, g22, g23, g24, w0, w1, w2, w3, w4, w5, w6, w7, w8, w9, w10, w11, w12, w13, w14, w15, w16, w17, w18, w19, w20, w21, w22, w23, w24, u0, u1, u2, u3, u4, u5, u6, u7, u8, u9, u10, u11, u12, u13, u14, u15, u16, u17, u18, u19, u20, u21, u22, u23, u24, List.length_cons, List.length_nil, Nat.zero_add, Nat.reduceAdd, Nat.reduceLeDiff, Nat.reduceLT, ↓reduceIte, decide_eq_true_eq, Int.reduceLT, Int.reduceLE, Int.reduceAdd, Int.reduceSub, Int.reduceMul, Int.reduceNeg, Int.reducePow, Int.reduceToNat, Int.reduceMod, Int.reduceDiv, Int.reduceEq, sz, big, lim, and_self, and_true, true_and, or_true, true_or, or_self, Bool.not_true, Bool.not_false, Bool.not_eq_true, Bool.not_eq_true', decide_true, decide_false, Bool.false_eq_true, List.map_cons, List.map_nil, rn0, rn1, rn2, rn3, rn4, rn5, rn6, rn7, rn8, rn9, rn10, rn11, rn12, rn13, rn14, rn15, rn16, rn17, rn18, rn19, rn20, rn21, rn22, rn23, rn24, rn25, rn26, rn27, rn28, rn29, Nat.sub_self, Nat.reduceSub, List.append_nil, List.cons_append, List.nil_append, reduceCtorEq, decide_not, wipeE, rng, ne_eq, not_true_eq_false, not_false_eq_true]
  obtain ⟨O, tk⟩ : ∃ O : D, ∀ s, f_taken_from [goD st ⟨row.length, row.drop t, [], true⟩, .int 300] s = .ok (.tup [goD st ⟨row.length, [], [], true⟩, O]) s := ⟨.tup (((row.drop t).take 300).map .int), fun s => by
    have q := taken_ok (st := st) (g := ⟨row.length, row.drop t, [], true⟩) (m := 300) (s := s)
    dsimp only at q
    rw [td] at q
    exact q⟩
  have ig : ∀ s (a b : D), dItem s (.tup [a, b]) (.int 0) = some a := fun s a b => rfl
  have bw := fun s => bw_ok (s := s) hs ho hl2
  have wr := fun s => wr_ok (s := s)
  have ad := addO (xs := row.take t) (ys := row.drop t) (by rw [List.length_take, List.length_drop]; omega)
  rw [List.take_append_drop] at ad
  have i1 : ∀ s, dItem s (goD st ⟨row.length, row.drop t, [], true⟩) (.int 1) = some (.tup ((row.drop t).map .int)) := fun s => rfl
  have i3 : ∀ s, dItem s (goD st ⟨row.length, row.drop t, [], true⟩) (.int 3) = some (.bl true) := fun s => rfl
  have rr : ∀ s, fRepr s [.tup (row.map .int)] = some (.str (D.tup (row.map .int)).pyd.shown) := fun s => repr_oct ho (by omega)
  have kr : kRc3 (.int 0) (.int ((m : Int) + 1)) (.ok (.int 40) (cupS c4)) = .ok (rngS 0 40 (m / 40 + 1)) (cupS c4) := by
    rw [kRc3_40 (by omega) (by omega), show (((m : Int) + 1) + 39) / 40 = ((m / 40 + 1 : Nat) : Int) by omega, Int.toNat_natCast]
  rw [rng40_0] at e3
  have e3' := e3
  rw [lr] at e3'
  clear e3
  subst lr
  unfold sgL at e2 e3'
  obtain ⟨R30, hR⟩ : ∃ R30, R30 = rng 0 30 := ⟨_, rfl⟩
  have kr30 : ∀ s : Store, kRa (.ok (.int 30) s) = .ok R30 s := fun s => by rw [hR]; rfl
  rw [← hR] at e2
  refine ⟨cupS c4, ?_⟩
  have tz : (row.take 0).map D.int = [] := rfl
  rw [tz] at e2
  generalize goD st ⟨row.length, row.drop t, [], true⟩ = GE at *
  generalize goD st ⟨row.length, [], [], true⟩ = GEE at *
  generalize goD st ⟨0, [], [], false⟩ = G0 at *
  generalize goD st g = GG at *
  generalize (row.drop t).map D.int = DM at *
  generalize (row.take t).map D.int = TM at *
  generalize row.map D.int = RM at *
  generalize (D.tup RM).pyd.shown = XR at *
  simp -implicitDefEqProofs only [f_law, sh_law, S_law_1, S_law_2, S_law_3, S_law_4, S_law_16, S_law_19, B_law_19, S_law_20, S_law_21, hc, e1, er_ra, er_many, fo, fr, kr30, e2, kr, e3', ad, i1, i3, rr, ne_self, tk, ae, bw, wr, isn_tt, ig, eC_s, eUn_s, kUn_s, eOp_s, kOp_s, kOp2_s, ofO_s, eAnd_s, kAnd_s, eOr_s, kOr_s, eNot_s, kNot_s, eIf_s, kIf_s, kIf_i, eChain_s, kCh_s, kCh2_s, kCh3_s, evL_0, evL_s, kL_s, kL2_s, eTup_s, eLst_s, eLstR_s, kTup_s, kLst_s, kLstR_s, eCall_s, kCall_s, eFn_s, kFn_s, evO_0, evO_s, kO_s, eSlice_s, kSl_s, kSl2_s, kSl3_s, iSeq_s, kSeq_t, kSeq_l, iRange1_s, kRa_s, iRange2_s, kRb_s, kRb2_s, eComp_s, kCm_s, kCm2_s, eCompR_s, kCmR_s, kCmR2_s, compL_0, compL_s, kCo_s, kCo2_s, kCo3_s, tests_0, tests_s, kTe_s, gT_s, gTs_0, gTs_s, kG_s, gSub_s, kSub_s, kSub2_s, kSub3_s, sNop_s, sSeq_s, sRet_s, kRet_s, kRet_x, sRetN_s, sExpr_s, kEx_s, kEx_x, sAsg_s, kAs_s, kAs_x, kAs2_s, kAs2_x, sIf_s, kSIf_s, kSIf_i, kSIf_x, sFor_s, kFor_s, fnM_s, aft_r, aft_n, aft_x, turn_n, andThen_nx, andThen_rt, andThen_exc, andThen_bk, andThen_ct, add_i, sub_i, mul_i, div_i, mod_i, pow_i, neg_i, lt_i, le_i, gt_i, ge_i, eq_i, ne_i, eq_s, ne_s, isi_ii, isi_bi, isi_ti, isi_tt, isi_it, isi_bt, abs_i, min_i, max_i, int_i, len_t, len_l, list_l, list_t, list_s, tup_l, tup_t, cup_a, cup_b, eRev_s, kRv_s, kRv2_s, kRv2_l, kAg_s, kAg2_s, kPick_s, addI_i, iRange3_s, kRc_s, kRc2_s, iEnum_s, kEnum_t, kEnum_l, ite_i, ite_b, ite_o, isi_bb, isi_ss, kOr_n, maxL_1, maxL_2, maxL_3, minL_2, isN_i, isN_n, isN_t, isnN_i, isnN_n, isnN_t, v0, v1, v2, v3, v4, v5, v6, v7, v8, v9, v10, v11, v12, v13, v14, v15, v16, v17, v18, v19, v20, v21, v22, v23, v24, g0, g1, g2, g3, g4, g5, g6, g7, g8, g9, g10, g11, g12, g13, g14, g15, g16, g17, g18, g19, g20, g21, g22, g23, g24, w0, w1, w2, w3, w4, w5, w6, w7, w8, w9, w10, w11, w12, w13, w14, w15, w16, w17, w18, w19, w20, w21, w22, w23, w24, u0, u1, u2, u3, u4, u5, u6, u7, u8, u9, u10, u11, u12, u13, u14, u15, u16, u17, u18, u19, u20, u21, u22, u23, u24, List.length_cons, List.length_nil, Nat.zero_add, Nat.reduceAdd, Nat.reduceLeDiff, Nat.reduceLT, ↓reduceIte, decide_eq_true_eq, Int.reduceLT, Int.reduceLE, Int.reduceAdd, Int.reduceSub, Int.reduceMul, Int.reduceNeg, Int.reducePow, Int.reduceToNat, Int.reduceMod, Int.reduceDiv, Int.reduceEq, sz, big, lim, and_self, and_true, true_and, or_true, true_or, or_self, Bool.not_true, Bool.not_false, Bool.not_eq_true, Bool.not_eq_true', decide_true, decide_false, Bool.false_eq_true, List.map_cons, List.map_nil, rn0, rn1, rn2, rn3, rn4, rn5, rn6, rn7, rn8, rn9, rn10, rn11, rn12, rn13, rn14, rn15, rn16, rn17, rn18, rn19, rn20, rn21, rn22, rn23, rn24, rn25, rn26, rn27, rn28, rn29, Nat.sub_self, Nat.reduceSub, List.append_nil, List.cons_append, List.nil_append, reduceCtorEq, decide_not, wipeE, rng, ne_eq, not_true_eq_false, not_false_eq_true]

end Wk37
open PySem PySem.W PySem.Calls PyProof.Rows
theorem PySem.Challenge.cw_lanternserver_k37_whole_rows_in_any_orde_holds : PySem.Challenge.rw_lanternserver_k37_whole_rows_in_any_orde.Holds := by
  w_on; o_law
  refine HandSHeadRun.head_any (r := OpenLaw.row PySem.Challenge.rw_lanternserver_k37_whole_rows_in_any_orde) (q := view (OpenLaw.row PySem.Challenge.rw_lanternserver_k37_whole_rows_in_any_orde).prog [33]) (H := Mn.hookN Wk37.gl Wk37.es Wk37.fn Wk37.cs) (ob := Mn.obN Wk37.gl Wk37.es Wk37.fn Wk37.cs) (M := 20000) (loose := Wk37.loose) (d := HandSHeadRun.topDef (OpenLaw.row PySem.Challenge.rw_lanternserver_k37_whole_rows_in_any_orde).prog 33) (kwd := []) (Mn.obN_eq _ _ _ _)
    (by kernel_rfl) (fun s => by kernel_rfl) Wk37.run (by kernel_rfl) (by kernel_rfl) (by kernel_rfl) (by rfl) (by first | assumption | decide +kernel) (by decide +kernel) ⟨rfl, rfl, rfl, rfl, rfl, by decide +kernel⟩ ?hw ?hc
  case hw => w_witness2
  case hc =>
    refine Mn.walk_run (l := PySem.Challenge.rw_lanternserver_k37_whole_rows_in_any_orde) (k := 9) (x := "script") rfl (by kernel_rfl) ⟨rfl, by decide, by decide⟩ ?F
    intro w mg fa h Y G hmg0
    obtain ⟨K, KX, c⟩ := Y
    have hmg : mg ("law" : PySem.Str) = some (.ref fa) := by
      have e : (HandSHeadRun.topDef (OpenLaw.row PySem.Challenge.rw_lanternserver_k37_whole_rows_in_any_orde).prog 33).name = ("law" : PySem.Str) := by kernel_rfl
      rw [← e]
      exact hmg0
    have H := Mn.headK_of KX G c.t.d c.more
    obtain ⟨fd, F, hF⟩ := Wk37.k_law (P := (PySem.Challenge.rw_lanternserver_k37_whole_rows_in_any_orde).prog) (w := w) H hmg
    have b := L2.FunD.bindsA (ps := ["script"]) F fun _ _ _ _ _ _ us hl => match us, hl with | [_], _ => rfl
    exact ⟨K, fd, Wk37.f_law, KX, fun s v => b s [v] rfl, Wk37.truly, hF⟩
