import PyProof.Rows.All
import Wide.All
import OpenK.AllK
import Wide.FinOn
import PySem.Challenge.RW_ringstell_k94_whole_alike_places_have_th
import PyProof.EqAt
import PyProof.EqKinds
import PyProof.EqLayable
import PyProof.ReprReads
import HandS.List
import KE.KeyNested
import HandS.Lambda
import KE.KLam
import KE.KDictKeyed
import HandS.Deep
import HandS.TupAny
import HandS.Wide
import HandS.Conv
import HandS.Dict
import HandS.Style
import PyProof.P3In
import HandS.Comp
import HandS.Ends
import HandS.Nested
import HandS.SortInts
import HandS.Sort
import HandS.IsInst
import HandS.Exc
import HandS.WordsExc
import HandS.Flow
import HandS.Zip
import HandS.Iter
import KE.GoesMore
import HandS.TryOnly
import HandS.SetFor
import HandS.DictComp
import HandS.Star
import PyProof.Laws
import HandS.Head0
import HandS.Head1
import HandS.Head2
import HandS.HeadEnd
import HandS.HeadHook1
import HandS.HeadHook2
import HandS.EndTab
import HandS.NestedK
import HandS.Defaults
import PyProof.ReprLen
set_option Elab.async false
set_option linter.all false
set_option maxRecDepth 100000
/-! text OVA -/
namespace OV
open PySem (Str PyData NestedKey)
/-! The plain machine: values without addresses, a store of cells for what changes. -/

/-- values -/
inductive D where
  | non | bl (b : Bool) | int (i : Int) | str (x : Str)
  /-- a tuple, a list that will not change any more, a range -/
  | tup (ds : List D) | lst (ds : List D) | rng (lo hi : Int)
  /-- a new list of such; a new list, a new tuple with new things in it: no one else has it -/
  | new (ds : List D) | own (ds : List D) | oto (ds : List D)
  /-- a dict, a set that will not change any more -/
  | dic (kvs : List (D × D)) | set (ds : List D)
  /-- a cell of the store; a list within a cell (or a new one), looked at -/
  | ref (n : Nat) | bor (n : Option Nat) (ds : List D)
  /-- a lambda, by its place in a table, and what it has caught -/
  | clo (k : Nat) (es : List D)
  deriving Inhabited

abbrev Ce := List (Option D)
structure S where
  sl : List (Option D)
  ce : Ce

inductive Res (α : Type) where
  | ok (a : α) (s : S) | ex (c : Str) (a : D) (s : S) | no

def Res.bind {α β : Type} (r : Res α) (f : α → S → Res β) : Res β :=
  match r with
  | .ok a s => f a s
  | .ex c a s => .ex c a s
  | .no => .no
@[simp] theorem Res.bind_ok {α β : Type} (a : α) (s : S) (f : α → S → Res β) : (Res.ok a s).bind f = f a s := by rw [Res.bind]
@[simp] theorem Res.bind_ex {α β : Type} (c : Str) (a : D) (s : S) (f : α → S → Res β) : (Res.ex c a s : Res α).bind f = .ex c a s := rfl
@[simp] theorem Res.bind_no {α β : Type} (f : α → S → Res β) : (Res.no : Res α).bind f = .no := rfl

def Res.of {α : Type} (o : Option α) (s : S) : Res α := match o with
  | some a => .ok a s
  | none => .no
@[simp] theorem Res.of_some {α : Type} (a : α) (s : S) : Res.of (some a) s = .ok a s := rfl
@[simp] theorem Res.of_none {α : Type} (s : S) : (Res.of none s : Res α) = .no := rfl

/-- an outcome of a def: without slots -/
inductive FR where
  | ok (d : D) (ce : Ce) | ex (c : Str) (a : D) (ce : Ce) | no
def FR.res (r : FR) (sl : List (Option D)) : Res D := match r with
  | .ok d ce => .ok d ⟨sl, ce⟩
  | .ex c a ce => .ex c a ⟨sl, ce⟩
  | .no => .no
@[simp] theorem FR.res_ok (d : D) (ce : Ce) (sl) : (FR.ok d ce).res sl = .ok d ⟨sl, ce⟩ := rfl
@[simp] theorem FR.res_ex (c a) (ce : Ce) (sl) : (FR.ex c a ce).res sl = .ex c a ⟨sl, ce⟩ := rfl
@[simp] theorem FR.res_no (sl) : FR.no.res sl = .no := rfl

inductive BO where | add | sub | mul | fdiv | mod | pow
  deriving DecidableEq
inductive CO where | lt | le | gt | ge | eq | ne | inn | nin
  deriving DecidableEq
/-- built-in types that isinstance asks for -/
inductive Ty where | int | bool | str | list | tuple
  deriving DecidableEq
/-- built-in functions -/
inductive BF where
  | len | range1 | range2 | list | tuple | int | abs | max2 | min2 | max1 | min1 | all | any | sum | repr | sorted | str
  | isI (t : Ty) | isI2 (t u : Ty) | lenSet | lotOf
  deriving DecidableEq

mutual
/-- expressions -/
inductive C where
  | var (i : Nat) | int (i : Int) | bl (b : Bool) | non | str (x : Str)
  | bin (o : BO) (a b : C) | neg (a : C)
  | cmp (o : CO) (a b : C) | isK (k : Option Bool) (a : C) | notK (k : Option Bool) (a : C)
  | chain (o o' : CO) (a b c : C)
  | not (a : C) | and (es : Cs) | or (es : Cs) | ite (c a b : C)
  | tup (es : Cs) | otup (es : Cs) | stup (a : C) (bs : Cs)
  | lst (live : Bool) (es : Cs)
  | idx (a i : C) | sl (a : C) (lo hi : Co) | rev (a : C)
  | call (f : Str) (es : Cs) | callB (f : BF) (es : Cs)
  | comp (own : List Nat) (t : T) (it : I) (ifs : Cs) (gs : Gs)
  | dcomp (tk : Bool) (own : List Nat) (t : T) (it : I) (ifs : Cs) (k v : C)
  | pop0 (r : Nat) (p : Cs) | pop (r : Nat) (p : Cs) (a : C)
  | callL (f : Str) (e : C) (k : Nat) (js : List Nat) | callV (i : Nat) (es : Cs)
  | fz (e : C) | mv (i : Nat)
  /-- a module's number -/
  | gint (x : Str) (i : Int)
inductive Cs where
  | nil | cons (e : C) (es : Cs)
inductive Co where
  | no | so (e : C)
/-- what is walked -/
inductive I where
  | pl (c : C) | enum (c : C) | zip (a b : C)
/-- further clauses of a comprehension -/
inductive Gs where
  | el (live : Bool) (e : C) | cons (t : T) (it : I) (ifs : Cs) (gs : Gs)
/-- targets: a name (keeping what it gets alive or not), several, an item -/
inductive T where
  | nm (live : Bool) (i : Nat) | tp (ts : Ts) | ix (r : Nat) (p : Cs) (i : C)
inductive Ts where
  | nil | cons (t : T) (ts : Ts)
end

mutual
/-- statements -/
inductive St where
  | asg (t : T) (e : C)
  | par (live : Bool) (i : Nat) (live' : Bool) (j : Nat) (a b : C)
  | ex (e : C)
  | append (r : Nat) (p : Cs) (e : C) | extend (r : Nat) (p : Cs) (e : C) | remove (r : Nat) (p : Cs) (e : C)
  | iff (c : C) (a b : Ss)
  | for (t : T) (it : I) (b : Ss)
  | whl (c : C) (b : Ss)
  | ret (e : C) | retN | brk | cnt | pass
  /-- what is never reached -/
  | never
inductive Ss where
  | nil | cons (s : St) (ss : Ss)
end

/-! ### values -/
/-- what may lie in a tuple or a list: it will not change, and is no cell -/
def isV : D → Bool
  | .non | .bl _ | .int _ | .str _ | .tup _ | .lst _ | .rng _ _ | .dic _ => true
  | _ => false
mutual
/-- a new thing frozen, all the way down -/
def fzD : D → Option D
  | .new ds => some (.lst ds)
  | .own ds => match fzDs ds with
    | some es => some (.lst es)
    | none => none
  | .oto ds => match fzDs ds with
    | some es => some (.tup es)
    | none => none
  | d => if isV d then some d else none
def fzDs : List D → Option (List D)
  | [] => some []
  | d :: ds => match fzD d, fzDs ds with
    | some e, some es => some (e :: es)
    | _, _ => none
end
/-- as an item of a tuple, of a list that stays as it is -/
def itm (d : D) : Option D := fzD d
/-- as an item of a list that may change -/
def itmL : D → Option D
  | .new ds => some (.own ds)
  | .own ds => some (.own ds)
  | .oto _ | .set _ | .ref _ | .bor _ _ | .clo _ _ => none
  | d => some d
/-- as an argument, as what a name holds -/
def arg : D → Option D
  | .ref n => some (.ref n)
  | .clo k es => some (.clo k es)
  | d => fzD d
def items {α : Type} (f : α → Option D) : List α → Option (List D)
  | [] => some []
  | d :: ds => match f d, items f ds with
    | some e, some es => some (e :: es)
    | _, _ => none
def capt : Option D → Option D
  | some d => if isV d then some d else none
  | none => none
/-- an item read out of a list: a list in a list is looked at -/
def look (n : Option Nat) : D → Option D
  | .own ds => some (.bor n ds)
  | d => if isV d then some d else none
/-- the list at a cell -/
def cellL (ce : Ce) (n : Nat) : Option (List D) := match ce[n]? with
  | some (some (.own ds)) => some ds
  | _ => none
mutual
/-- as a key -/
def keyN : D → Option NestedKey
  | .non => some .none
  | .int i => some (.num i)
  | .str x => some (.text x)
  | .tup ds => match keysN ds with
    | some ks => some (.tup ks)
    | none => none
  | _ => none
def keysN : List D → Option (List NestedKey)
  | [] => some []
  | d :: ds => match keyN d, keysN ds with
    | some k, some ks => some (k :: ks)
    | _, _ => none
end
/-- the keys that a dict of this sort has: tuples, or numbers and texts -/
def keyB (tk : Bool) : D → Option NestedKey
  | .tup ds => if tk then match keysN ds with
      | some ks => if (NestedKey.tup ks).depth ≤ 8 then some (.tup ks) else none
      | none => none
    else none
  | .int i => if tk then none else some (.num i)
  | .str x => if tk then none else some (.text x)
  | _ => none
def findK : List (D × D) → NestedKey → Option D
  | [], _ => none
  | (a, d) :: r, k => if keyN a = some k then some d else findK r k
def hasK (kvs : List (D × D)) (k : NestedKey) : Bool := kvs.any fun p => decide (keyN p.1 = some k)
def lookD (kvs : List (D × D)) (k : D) : Option D := match keyB (match k with | .tup _ => true | _ => false) k with
  | some q => findK kvs q
  | none => none
def putD (tk : Bool) (kvs : List (D × D)) (k v : D) : Option (List (D × D)) := match keyB tk k with
  | some q => if hasK kvs q then some (kvs.map fun p => if keyN p.1 = some q then (p.1, v) else p) else if kvs.length < PySem.sizeLine then some (kvs ++ [(k, v)]) else none
  | none => none
/-- as a list, as a sequence -/
def seqL (ce : Ce) : D → Option (List D)
  | .lst ds | .new ds | .own ds | .bor _ ds => some ds
  | .ref n => cellL ce n
  | _ => none
def seqD (ce : Ce) : D → Option (List D)
  | .tup ds | .oto ds => some ds
  | d => seqL ce d
/-- a sequence's items, if none is to be changed -/
def seqV (ce : Ce) : D → Option (List D)
  | .lst ds | .new ds | .tup ds => some ds
  | .rng lo hi => some ((List.range (hi - lo).toNat).map fun (i : Nat) => .int (lo + i))
  | d => match seqL ce d with
    | some ds => if ds.all isV then some ds else none
    | none => none
/-- a list's items, if none is to be changed -/
def lsV (ce : Ce) : D → Option (List D)
  | .lst ds | .new ds => some ds
  | d => match seqL ce d with
    | some ds => if ds.all isV then some ds else none
    | none => none
/-- what must not change while this is looked at -/
def lkO : D → List Nat
  | .bor (some n) _ => [n]
  | _ => []
/-- .. while it is walked -/
def lkI : D → List Nat
  | .bor (some n) _ => [n]
  | .ref n => [n]
  | _ => []
/-- a tuple's things, a list's -/
def seqW (ce : Ce) : D → Option (List D)
  | .tup ds => some ds
  | d => lsV ce d
def isT : D → Bool
  | .tup _ => true
  | _ => false
mutual
/-- as data -/
def pd : D → Option PyData
  | .non => some .none
  | .bl b => some (.bool b)
  | .int i => some (.int i)
  | .str x => some (.str x)
  | .tup ds | .oto ds => match pds ds with
    | some es => some (.tuple es)
    | none => none
  | .lst ds | .new ds | .own ds | .bor _ ds => match pds ds with
    | some es => some (.list es)
    | none => none
  | _ => none
def pds : List D → Option (List PyData)
  | [] => some []
  | d :: ds => match pd d, pds ds with
    | some e, some es => some (e :: es)
    | _, _ => none
end
def pdc (ce : Ce) : D → Option PyData
  | .ref n => match cellL ce n with
    | some ds => match pds ds with
      | some es => some (.list es)
      | none => none
    | none => none
  | d => pd d

/-! ### operators -/
def mulOk (i j : Int) : Bool := decide (-(2 ^ 64) < i ∧ i < 2 ^ 64) || decide (-(2 ^ 64) < j ∧ j < 2 ^ 64) || decide (i.natAbs.log2 + j.natAbs.log2 < 1000000)
def line : Nat := PySem.sizeLine
def opBin (ce : Ce) (o : BO) (a b : D) : Option D :=
  match o, a, b with
  | .add, .int i, .int j => some (.int (i + j))
  | .sub, .int i, .int j => some (.int (i - j))
  | .mul, .int i, .int j => if mulOk i j then some (.int (i * j)) else none
  | .fdiv, .int i, .int j => if 0 < j ∧ j.natAbs.log2 < 9000 then some (.int (i / j)) else none
  | .mod, .int i, .int j => if 0 < j then some (.int (i % j)) else none
  | .pow, .int i, .int j => if 0 ≤ j ∧ j ≤ 1000000 ∧ i.natAbs < 2 ^ 64 then some (.int (i ^ j.toNat)) else none
  | .add, .tup xs, .tup ys => if xs.length + ys.length ≤ line then some (.tup (xs ++ ys)) else none
  | .add, .str x, .str y => if x.length + y.length ≤ line then some (.str (x ++ y)) else none
  | .add, a, b => match seqL ce a, seqL ce b with
    | some xs, some ys => if xs.all isV ∧ ys.all isV ∧ xs.length + ys.length ≤ line then some (.new (xs ++ ys)) else none
    | _, _ => none
  | .mul, a, .int k => match seqL ce a with
    | some xs => if xs.all isV ∧ k < 2 ^ 62 ∧ -(2 ^ 62) < k ∧ xs.length * k.toNat ≤ line then some (.new (List.replicate k.toNat xs).flatten) else none
    | none => none
  | _, _, _ => none
def eqD (ce : Ce) (a b : D) : Option Bool := match pdc ce a, pdc ce b with
  | some p, some q => if PySem.SeqAt.shaped p && PySem.SeqAt.shaped q then some (PyData.eqv p q) else none
  | _, _ => none
def inDs (x : PyData) (ys : List PyData) : Bool := ys.any fun y => PyData.eqv y x
def inD (ce : Ce) (a b : D) : Option Bool := match pdc ce a, seqD ce b with
  | some p, some ds => match pds ds with
    | some qs => if PySem.SeqAt.shaped p && qs.all PySem.SeqAt.shaped then some (inDs p qs) else none
    | none => none
  | _, _ => none
def lexLt : List Int → List Int → Bool := HT.lexLt
def intsD : List D → Option (List Int)
  | [] => some []
  | .int i :: ds => match intsD ds with
    | some is => some (i :: is)
    | none => none
  | _ :: _ => none
def blsD : List D → Option (List Bool)
  | [] => some []
  | .bl i :: ds => match blsD ds with
    | some is => some (i :: is)
    | none => none
  | _ :: _ => none
def ordD (o : CO) (a b : D) : Option Bool := match o, a, b with
  | .lt, .int i, .int j => some (decide (i < j))
  | .le, .int i, .int j => some (decide (i ≤ j))
  | .gt, .int i, .int j => some (decide (j < i))
  | .ge, .int i, .int j => some (decide (j ≤ i))
  | .lt, .tup xs, .tup ys => match intsD xs, intsD ys with
    | some is, some js => some (lexLt is js)
    | _, _ => none
  | _, _, _ => none
def opCmp (ce : Ce) (o : CO) (a b : D) : Option Bool := match o with
  | .eq => eqD ce a b
  | .ne => (eqD ce a b).map (!·)
  | .inn => inD ce a b
  | .nin => (inD ce a b).map (!·)
  | o => ordD o a b
def isK (k : Option Bool) (d : D) : Option Bool := match k, d with
  | none, .non => some true
  | none, _ => some false
  | some b, .bl c => some (decide (c = b))
  | some _, _ => none
def opIdx (ce : Ce) (a i : D) : Option D := match a, i with
  | .oto ds, .int i => L2.atI ds i
  | .tup ds, .int i => L2.atI ds i
  | .lst ds, .int i => L2.atI ds i
  | .new ds, .int i => L2.atI ds i
  | .dic kvs, k => lookD kvs k
  | .own ds, .int i => match L2.atI ds i with
    | some d => look none d
    | none => none
  | .bor n ds, .int i => match L2.atI ds i with
    | some d => look n d
    | none => none
  | .ref n, .int i => match cellL ce n with
    | some ds => match L2.atI ds i with
      | some d => look (some n) d
      | none => none
    | none => none
  | _, _ => none
def cut (xs : List D) (lo hi : Option Int) : List D := (xs.drop (HT.sIx xs.length 0 lo)).take (HT.sIx xs.length xs.length hi - HT.sIx xs.length 0 lo)
def opSl (ce : Ce) (a : D) (lo hi : Option Int) : Option D := match a with
  | .tup ds => some (.tup (cut ds lo hi))
  | .lst ds | .new ds => some (.new (cut ds lo hi))
  | a => match seqL ce a with
    | some ds => if ds.all isV then some (.new (cut ds lo hi)) else none
    | none => none
def opRev (ce : Ce) (a : D) : Option D := match a with
  | .lst ds | .new ds => some (.new ds.reverse)
  | a => match seqL ce a with
    | some ds => if ds.all isV then some (.new ds.reverse) else none
    | none => none
def hasTy (ce : Ce) (t : Ty) : D → Option Bool
  | .non => some false
  | .bl _ => some (t == .int || t == .bool)
  | .int _ => some (t == .int)
  | .str _ => some (t == .str)
  | .tup _ | .oto _ => some (t == .tuple)
  | .lst _ | .new _ | .own _ | .bor _ _ => some (t == .list)
  | .ref n => match cellL ce n with
    | some _ => some (t == .list)
    | none => none
  | _ => none
def insI (i : Int) : List Int → List Int
  | [] => [i]
  | j :: js => if i ≤ j then i :: j :: js else j :: insI i js
def srtI : List Int → List Int
  | [] => []
  | i :: is => insI i (srtI is)
def dedD (xs : List PyData) : List PyData := xs.foldl (fun acc x => if inDs x acc then acc else acc ++ [x]) []
def dedI (is : List Int) : List Int := is.foldl (fun acc x => if acc.any (· == x) then acc else acc ++ [x]) []
def rgOk (i : Int) : Bool := decide (-(2 ^ 62) ≤ i ∧ i < 2 ^ 62)
def opB (ce : Ce) (f : BF) (ds : List D) : Option D := match f, ds with
  | .len, [.str x] => if x.length ≤ line then some (.int x.length) else none
  | .len, [d] => match seqD ce d with
    | some es => some (.int es.length)
    | none => none
  | .range1, [.int j] => if rgOk j then some (.rng 0 j) else none
  | .range2, [.int i, .int j] => if rgOk i ∧ rgOk j then some (.rng i j) else none
  | .list, [d] => match seqV ce d with
    | some es => if es.length ≤ line then some (.new es) else none
    | none => none
  | .tuple, [d] => match seqV ce d with
    | some es => if es.length ≤ line then some (.tup es) else none
    | none => none
  | .int, [.int i] => some (.int i)
  | .int, [.bl b] => some (.int (if b then 1 else 0))
  | .abs, [.int i] => some (.int (if i < 0 then -i else i))
  | .max2, [.int i, .int j] => some (.int (if j > i then j else i))
  | .min2, [.int i, .int j] => some (.int (if j < i then j else i))
  | .all, [d] => match lsV ce d with
    | some es => match blsD es with
      | some bs => some (.bl (bs.all id))
      | none => none
    | none => none
  | .any, [d] => match lsV ce d with
    | some es => match blsD es with
      | some bs => some (.bl (bs.any id))
      | none => none
    | none => none
  | .sum, [d] => match lsV ce d with
    | some es => match intsD es with
      | some is => some (.int is.sum)
      | none => none
    | none => none
  | .max1, [d] => match lsV ce d with
    | some es => match intsD es with
      | some (i :: is) => some (.int (is.foldl max i))
      | _ => none
    | none => none
  | .min1, [d] => match lsV ce d with
    | some es => match intsD es with
      | some (i :: is) => some (.int (is.foldl min i))
      | _ => none
    | none => none
  | .sorted, [d] => match seqW ce d with
    | some es => match intsD es with
      | some is => some (.new ((srtI is).map .int))
      | none => none
    | none => none
  | .repr, [d] => match pdc ce d with
    | some p => if p.showable && decide (p.depth ≤ 60) && decide (p.shown.length ≤ line) then some (.str p.shown) else none
    | none => none
  | .isI t, [d] => match hasTy ce t d with
    | some b => some (.bl b)
    | none => none
  | .isI2 t u, [d] => match hasTy ce t d, hasTy ce u d with
    | some b, some c => some (.bl (b || c))
    | _, _ => none
  | .lenSet, [d] => match seqW ce d with
    | some es => match intsD es with
      | some is => if is.length ≤ 4000 then some (.int (dedI is).length) else none
      | none => none
    | none => none
  | _, _ => none

/-! ### paths in a cell -/
def atP (d : D) : List Int → Option D
  | [] => some d
  | i :: is => match d with
    | .own ds => match L2.atI ds i with
      | some e => atP e is
      | none => none
    | _ => none
def modP (f : List D → Option (List D)) : List Int → D → Option D
  | [], .own ds => match f ds with
    | some es => some (.own es)
    | none => none
  | i :: is, .own ds => match L2.ixN ds.length i with
    | some j => match ds[j]? with
      | some d => match modP f is d with
        | some e => some (.own (ds.set j e))
        | none => none
      | none => none
    | none => none
  | _, _ => none
/-- the cell that a slot holds, free to be changed -/
def root (lk : List Nat) (st : S) (r : Nat) : Option Nat := match st.sl[r]? with
  | some (some (.ref n)) => if lk.contains n then none else some n
  | _ => none
def modC (ce : Ce) (n : Nat) (p : List Int) (f : List D → Option (List D)) : Option Ce := match ce[n]? with
  | some (some d) => match modP f p d with
    | some e => some (ce.set n (some e))
    | none => none
  | _ => none

/-- whether a comprehension's items stay alive -/
def Gs.live : Gs → Bool
  | .el l _ => l
  | .cons _ _ _ gs => gs.live
def Cs.isNil : Cs → Bool
  | .nil => true
  | _ => false
def wipe (sl : List (Option D)) : List Nat → List (Option D)
  | [] => sl
  | v :: vs => (wipe sl vs).set v none
/-- a turn's end: cells that came in it go -/
def dang (n : Nat) : Option D → Option D
  | some (.ref k) => if k < n then some (.ref k) else none
  | o => o
def trim (n : Nat) (st : S) : S := if st.ce.length ≤ n then st else ⟨st.sl.map (dang n), st.ce.take n⟩

/-- an item put at a place -/
def putI (i : Int) (e : D) (ds : List D) : Option (List D) := match L2.ixN ds.length i with
  | some j => some (ds.set j e)
  | none => none
/-- the list at a path in a cell -/
def atL (ce : Ce) (n : Nat) (is : List Int) : Option (List D) := match ce[n]? with
  | some (some d) => match atP d is with
    | some (.own ds) => some ds
    | _ => none
  | _ => none

/-! ### the machine -/
structure K where
  fn : Str → List D → List Nat → Ce → FR
  la : Nat → List D → List D → List Nat → Ce → FR

/-- a walk's turns -/
def fol {α : Type} (f : D → α → S → Res α) : List D → α → S → Res α
  | [], a, st => .ok a st
  | d :: ds, a, st => (f d a st).bind fun a' st' => fol f ds a' st'
def enumD : Nat → List D → List D
  | _, [] => []
  | i, d :: ds => .tup [.int i, d] :: enumD (i + 1) ds
def zipD : List D → List D → List D
  | x :: xs, y :: ys => .tup [x, y] :: zipD xs ys
  | _, _ => []

inductive Fl where
  | nx | rt (d : D) | bk | ct

/-- several names take several things -/
def setN (live : Bool) (i : Nat) (d : D) (st : S) : Res Unit := match live, d with
  | true, .new ds => .ok () ⟨st.sl.set i (some (.ref st.ce.length)), st.ce ++ [some (.own ds)]⟩
  | true, .own ds => .ok () ⟨st.sl.set i (some (.ref st.ce.length)), st.ce ++ [some (.own ds)]⟩
  | _, d => match arg d with
    | some e => .ok () ⟨st.sl.set i (some e), st.ce⟩
    | none => .no
/-- the walk of the turns of a for -/
def folS (f : D → S → Res Fl) (n : Nat) : List D → S → Res Fl
  | [], st => .ok .nx st
  | d :: ds, st => match f d st with
    | .ok .nx st' => folS f n ds (trim n st')
    | .ok .ct st' => folS f n ds (trim n st')
    | .ok .bk st' => .ok .nx (trim n st')
    | r => r
mutual
/-- the names that a target sets -/
def T.slots : T → List Nat
  | .nm _ i => [i]
  | .tp ts => ts.slots
  | .ix _ _ _ => []
def Ts.slots : Ts → List Nat
  | .nil => []
  | .cons t ts => t.slots ++ ts.slots
end
mutual
/-- names alone that keep nothing alive -/
def T.dead : T → Bool
  | .nm l _ => !l
  | .tp ts => ts.dead
  | .ix _ _ _ => false
def Ts.dead : Ts → Bool
  | .nil => true
  | .cons t ts => t.dead && ts.dead
end
def Ts.len : Ts → Nat
  | .nil => 0
  | .cons _ ts => ts.len + 1
def Gs.slots : Gs → List Nat
  | .el _ _ => []
  | .cons t _ _ gs => t.slots ++ gs.slots
def Cs.len : Cs → Nat
  | .nil => 0
  | .cons _ cs => cs.len + 1
/-- so many turns of a while at most -/
def whN (c : S → Res Bool) (b : S → Res Fl) (n : Nat) : Nat → S → Res Fl
  | 0, _ => .no
  | k + 1, st => match c st with
    | .ok true st1 => match b st1 with
      | .ok .nx st' => whN c b n k (trim n st')
      | .ok .ct st' => whN c b n k (trim n st')
      | .ok .bk st' => .ok .nx (trim n st')
      | r => r
    | .ok false st1 => .ok .nx st1
    | .ex c a s => .ex c a s
    | .no => .no
open Classical in
noncomputable def wh (c : S → Res Bool) (b : S → Res Fl) (n : Nat) (st : S) : Res Fl :=
  if h : ∃ k, whN c b n k st ≠ .no then whN c b n (Classical.choose h) st else .no

def boolR (r : Res D) : Res Bool := r.bind fun d st => match d with
  | .bl b => .ok b st
  | _ => .no
def argsR (r : Res (List D)) : Res (List D) := r.bind fun ds st => Res.of (items arg ds) st
def intsR (r : Res (List D)) : Res (List Int) := r.bind fun ds st => Res.of (intsD ds) st

section
variable (k : K)
mutual
noncomputable def oE (lk : List Nat) : C → S → Res D
  | .var i, st => match st.sl[i]? with
    | some (some d) => .ok d st
    | _ => .no
  | .int i, st => .ok (.int i) st
  | .bl b, st => .ok (.bl b) st
  | .non, st => .ok .non st
  | .str x, st => .ok (.str x) st
  | .bin o a b, st => (oE lk a st).bind fun x st1 => (oE (lkO x ++ lk) b st1).bind fun y st2 => Res.of (opBin st2.ce o x y) st2
  | .neg a, st => (oE lk a st).bind fun x st1 => match x with
    | .int i => .ok (.int (-i)) st1
    | _ => .no
  | .cmp o a b, st => (oE lk a st).bind fun x st1 => (oE (lkO x ++ lk) b st1).bind fun y st2 => Res.of ((opCmp st2.ce o x y).map D.bl) st2
  | .isK q a, st => (oE lk a st).bind fun x st1 => Res.of ((isK q x).map D.bl) st1
  | .notK q a, st => (oE lk a st).bind fun x st1 => Res.of ((isK q x).map fun b => D.bl (!b)) st1
  | .chain o o' a b c, st => (oE lk a st).bind fun x st1 => (oE (lkO x ++ lk) b st1).bind fun y st2 => match opCmp st2.ce o x y with
    | some true => (oE (lkO y ++ lk) c st2).bind fun z st3 => Res.of ((opCmp st3.ce o' y z).map D.bl) st3
    | some false => .ok (.bl false) st2
    | none => .no
  | .not a, st => (boolR (oE lk a st)).bind fun b st1 => .ok (.bl (!b)) st1
  | .and es, st => (oAnd lk es st).bind fun b st1 => .ok (.bl b) st1
  | .or es, st => (oOr lk es st).bind fun b st1 => .ok (.bl b) st1
  | .ite c a b, st => (boolR (oE lk c st)).bind fun t st1 => match t with
    | true => oE lk a st1
    | false => oE lk b st1
  | .tup es, st => (oEs lk es st).bind fun ds st1 => match items itm ds with
    | some es => if es.length ≤ line then .ok (.tup es) st1 else .no
    | none => .no
  | .otup es, st => (oEs lk es st).bind fun ds st1 => match items itmL ds with
    | some es => if es.length ≤ line then .ok (.oto es) st1 else .no
    | none => .no
  | .stup a bs, st => (oE lk a st).bind fun x st1 => match seqW st1.ce x with
    | some es => (oEs lk bs st1).bind fun ds st2 => match items itm ds with
      | some fs => if es.length + fs.length ≤ line then .ok (.tup (es ++ fs)) st2 else .no
      | none => .no
    | none => .no
  | .lst live es, st => (oEs lk es st).bind fun ds st1 => match live with
    | true => match items itmL ds with
      | some es => if es.length ≤ line then .ok (.own es) st1 else .no
      | none => .no
    | false => match items itm ds with
      | some es => if es.length ≤ line then .ok (.new es) st1 else .no
      | none => .no
  | .idx a i, st => (oE lk a st).bind fun x st1 => (oE (lkO x ++ lk) i st1).bind fun y st2 => Res.of (opIdx st2.ce x y) st2
  | .sl a lo hi, st => (oE lk a st).bind fun x st1 => (oCo (lkO x ++ lk) lo st1).bind fun l st2 => (oCo (lkO x ++ lk) hi st2).bind fun h st3 => Res.of (opSl st3.ce x l h) st3
  | .rev a, st => (oE lk a st).bind fun x st1 => Res.of (opRev st1.ce x) st1
  | .call f es, st => (argsR (oEs lk es st)).bind fun ds st1 => (k.fn f ds lk st1.ce).res st1.sl
  | .callB f es, st => (oEs lk es st).bind fun ds st1 => Res.of (opB st1.ce f ds) st1
  | .comp own t it ifs gs, st => (oI lk it st).bind fun (ds, l) st1 =>
      (fol (fun d (acc : List D) s => (oTg (l ++ lk) t d ⟨wipe st1.sl own, s.ce⟩).bind fun _ s1 => (oAnd (l ++ lk) ifs s1).bind fun b s2 => match b with
        | true => oG (l ++ lk) gs acc s2
        | false => .ok acc s2) ds [] ⟨wipe st1.sl own, st1.ce⟩).bind fun acc st2 => .ok (if gs.live then .own acc else .new acc) ⟨st1.sl, st2.ce⟩
  | .dcomp tk own t it ifs ka va, st => (oI lk it st).bind fun (ds, l) st1 =>
      (fol (fun d (acc : List (D × D)) s => (oTg (l ++ lk) t d ⟨wipe st1.sl own, s.ce⟩).bind fun _ s1 => (oAnd (l ++ lk) ifs s1).bind fun b s2 => match b with
        | true => (oE (l ++ lk) ka s2).bind fun x s3 => match itm x with
          | some x => (oE (l ++ lk) va s3).bind fun y s4 => match itm y with
            | some y => Res.of (putD tk acc x y) s4
            | none => .no
          | none => .no
        | false => .ok acc s2) ds [] ⟨wipe st1.sl own, st1.ce⟩).bind fun acc st2 => .ok (.dic acc) ⟨st1.sl, st2.ce⟩
  | .pop0 r p, st => match root lk st r with
    | some n => (oPth (n :: lk) n p st).bind fun is st1 => match atL st1.ce n is with
      | some ds => match ds[ds.length - 1]?, modC st1.ce n is (fun ds => some ds.dropLast) with
        | some e, some ce => .ok e ⟨st1.sl, ce⟩
        | _, _ => .no
      | none => .no
    | none => .no
  | .pop r p a, st => match root lk st r with
    | some n => (oPth (n :: lk) n p st).bind fun is st1 => match atL st1.ce n is with
      | some _ => (oE (n :: lk) a st1).bind fun x st2 => match x, atL st2.ce n is with
        | .int i, some ds => match L2.ixN ds.length i with
          | some j => match ds[j]?, modC st2.ce n is (fun ds => some (ds.eraseIdx j)) with
            | some e, some ce => if rgOk i then .ok e ⟨st2.sl, ce⟩ else .no
            | _, _ => .no
          | none => .no
        | _, _ => .no
      | none => .no
    | none => .no
  | .callL f e i js, st => (oE lk e st).bind fun d st1 => match arg d, items capt (js.map fun j => (st1.sl[j]?).getD none) with
    | some d, some cs => (k.fn f [d, .clo i cs] lk st1.ce).res st1.sl
    | _, _ => .no
  | .callV i es, st => match st.sl[i]? with
    | some (some (.clo j cs)) => (argsR (oEs lk es st)).bind fun ds st1 => (k.la j cs ds lk st1.ce).res st1.sl
    | _ => .no
  | .gint _ i, st => .ok (.int i) st
  | .fz e, st => (oE lk e st).bind fun x st1 => Res.of (fzD x) st1
  | .mv i, st => match root lk st i with
    | some n => match st.ce[n]? with
      | some (some d) => .ok d ⟨st.sl.set i none, st.ce.set n none⟩
      | _ => .no
    | none => .no
noncomputable def oEs (lk : List Nat) : Cs → S → Res (List D)
  | .nil, st => .ok [] st
  | .cons e es, st => (oE lk e st).bind fun d st1 => (oEs (lkO d ++ lk) es st1).bind fun ds st2 => .ok (d :: ds) st2
/-- a path's places in a cell: the last one first in the text -/
noncomputable def oPth (lk : List Nat) (n : Nat) : Cs → S → Res (List Int)
  | .nil, st => .ok [] st
  | .cons i p, st => (oPth lk n p st).bind fun is st1 => (oE lk i st1).bind fun x st2 => match x with
    | .int j => match atL st1.ce n is, atL st1.ce n (is ++ [j]) with
      | some _, some _ => .ok (is ++ [j]) st2
      | _, _ => .no
    | _ => .no
noncomputable def oAnd (lk : List Nat) : Cs → S → Res Bool
  | .nil, st => .ok true st
  | .cons e es, st => (boolR (oE lk e st)).bind fun b st1 => match b with
    | true => oAnd lk es st1
    | false => .ok false st1
noncomputable def oOr (lk : List Nat) : Cs → S → Res Bool
  | .nil, st => .ok false st
  | .cons e es, st => (boolR (oE lk e st)).bind fun b st1 => match b with
    | true => .ok true st1
    | false => oOr lk es st1
noncomputable def oCo (lk : List Nat) : Co → S → Res (Option Int)
  | .no, st => .ok none st
  | .so e, st => (oE lk e st).bind fun d st1 => match d with
    | .int i => .ok (some i) st1
    | _ => .no
/-- the things that are walked, and what must stay as it is meanwhile -/
noncomputable def oI (lk : List Nat) : I → S → Res (List D × List Nat)
  | .pl c, st => (oE lk c st).bind fun d st1 => match seqV st1.ce d with
    | some ds => .ok (ds, lkI d) st1
    | none => .no
  | .enum c, st => (oE lk c st).bind fun d st1 => match seqW st1.ce d with
    | some ds => .ok (enumD 0 ds, lkI d) st1
    | none => .no
  | .zip a b, st => (oE lk a st).bind fun x st1 => (oE (lkO x ++ lk) b st1).bind fun y st2 => match seqW st2.ce x, seqW st2.ce y with
    | some xs, some ys => if isT x = isT y then .ok (zipD xs ys, lkI x ++ lkI y) st2 else .no
    | _, _ => .no
/-- a target of a clause: names alone -/
noncomputable def oTg (lk : List Nat) : T → D → S → Res Unit
  | .nm live i, d, st => setN live i d st
  | .tp ts, d, st => match d with
    | .tup ds | .oto ds | .lst ds | .new ds => if ds.length = ts.len then oTgs lk ts ds st else .no
    | _ => .no
  | .ix r p i, d, st => match root lk st r with
    | some n => (oPth (n :: lk) n p st).bind fun is st1 => match atL st1.ce n is with
      | some _ => (oE (n :: lk) i st1).bind fun x st2 => match x, itmL d, atL st2.ce n is with
        | .int i, some e, some _ => match modC st2.ce n is (putI i e) with
          | some ce => .ok () ⟨st2.sl, ce⟩
          | none => .no
        | _, _, _ => .no
      | none => .no
    | none => .no
noncomputable def oTgs (lk : List Nat) : Ts → List D → S → Res Unit
  | .nil, [], st => .ok () st
  | .cons t ts, d :: ds, st => (oTg lk t d st).bind fun _ st1 => oTgs lk ts ds st1
  | _, _, _ => .no
/-- behind a clause -/
noncomputable def oG (lk : List Nat) : Gs → List D → S → Res (List D)
  | .el live e, acc, st => (oE lk e st).bind fun d st1 => match (if live then itmL d else itm d) with
    | some x => if acc.length < line then .ok (acc ++ [x]) st1 else .no
    | none => .no
  | .cons t it ifs gs, acc, st => (oI lk it st).bind fun (ds, l) st1 =>
      fol (fun d (acc : List D) s => (oTg (l ++ lk) t d ⟨wipe st1.sl (t.slots ++ gs.slots), s.ce⟩).bind fun _ s1 => (oAnd (l ++ lk) ifs s1).bind fun b s2 => match b with
        | true => oG (l ++ lk) gs acc s2
        | false => .ok acc s2) ds acc st1
end

mutual
noncomputable def oS (lk : List Nat) : St → S → Res Fl
  | .asg t e, st => (oE k lk e st).bind fun d st1 => (oTg k lk t d st1).bind fun _ st2 => .ok .nx st2
  | .par l i l' j a b, st => (oE k lk a st).bind fun x st1 => (oE k (lkO x ++ lk) b st1).bind fun y st2 => (setN l' j y st2).bind fun _ st3 => (setN l i x st3).bind fun _ st4 => .ok .nx st4
  | .ex e, st => (oE k lk e st).bind fun _ st1 => .ok .nx st1
  | .append r p e, st => match root lk st r with
    | some n => (oPth k (n :: lk) n p st).bind fun is st1 => match atL st1.ce n is with
      | some _ => (oE k (if p.isNil then lk else n :: lk) e st1).bind fun d st2 => match itmL d, atL st2.ce n is with
        | some x, some _ => match modC st2.ce n is (fun ds => if ds.length < line then some (ds ++ [x]) else none) with
          | some ce => .ok .nx ⟨st2.sl, ce⟩
          | none => .no
        | _, _ => .no
      | none => .no
    | none => .no
  | .extend r p e, st => match root lk st r with
    | some n => (oPth k (n :: lk) n p st).bind fun is st1 => match atL st1.ce n is with
      | some _ => (oE k (if p.isNil then lk else n :: lk) e st1).bind fun d st2 => match d, atL st2.ce n is with
        | .new xs, some _ => match modC st2.ce n is (fun ds => if ds.length + xs.length ≤ line then some (ds ++ xs) else none) with
          | some ce => .ok .nx ⟨st2.sl, ce⟩
          | none => .no
        | _, _ => .no
      | none => .no
    | none => .no
  | .remove r p e, st => .no
  | .iff c a b, st => (boolR (oE k lk c st)).bind fun t st1 => match t with
    | true => oSs lk a st1
    | false => oSs lk b st1
  | .for t it b, st => (oI k lk it st).bind fun (ds, l) st1 => folS (fun d s => (oTg k (l ++ lk) t d s).bind fun _ s1 => oSs (l ++ lk) b s1) st1.ce.length ds st1
  | .whl c b, st => wh (fun s => boolR (oE k lk c s)) (fun s => oSs lk b s) st.ce.length st
  | .ret e, st => (oE k lk e st).bind fun d st1 => .ok (.rt d) st1
  | .retN, st => .ok (.rt .non) st
  | .brk, st => .ok .bk st
  | .cnt, st => .ok .ct st
  | .pass, st => .ok .nx st
  | .never, _ => .no
noncomputable def oSs (lk : List Nat) : Ss → S → Res Fl
  | .nil, st => .ok .nx st
  | .cons s ss, st => (oS lk s st).bind fun f st1 => match f with
    | .nx => oSs lk ss st1
    | f => .ok f st1
end
end
end OV
/-! text OVB -/
namespace OV
open PySem PySem.Spec PyProof.Rows L2
/-! How the plain machine's values lie in the heap. -/
/-- the tables of code objects that lambdas are put into: where, and under what name -/
structure LamT where
  params : Arguments
  body : Expr
  scope : Scope
  qual : Str
  /-- the names that it catches -/
  fr : List Str
class Tabled where
  T : List (Addr × Str)
  ok : Nat → LamT → Prop
  P : Program
  w : World
/-- what the cells that were caught hold, for as long as a call runs -/
class Kn where
  kn : Addr → V → Prop
/-- at a: a lambda that has caught the cells cl, its code object at c' -/
def LamO (t : LamT) (cl : List (Str × Addr)) (a c' : Addr) : HO := .ext fun h => ∃ pm ctv : Value, h.get? a = some (PySem.W.kla_obj "<lambda>" t.qual t.params t.body t.scope cl pm c' ctv)
/-- at a: just this object -/
def ExO (a : Addr) (o : Obj) : HO := .ext fun h => h.get? a = some o
def kD : Key → D
  | .inl i => .int i
  | .inr x => .str x
theorem tabs_chg {T : List (Addr × Str)} {H H' : Hp} (k : ∀ b o, H b = some o → (∀ vs, o ≠ .lst vs) → H' b = some o) (h : LamX.Tabs T H) : LamX.Tabs T H' := fun p hp => by
  obtain ⟨ps, h1, h2, h3⟩ := h p hp
  refine ⟨ps, k _ _ h1 (fun vs z => by cases z), h2, fun pos cv hc => ?_⟩
  obtain ⟨c, e1, e2⟩ := h3 pos cv hc
  exact ⟨c, e1, k _ _ e2 (fun vs z => by unfold LamX.CodeO at z; cases z)⟩
theorem tabs_upd {T : List (Addr × Str)} {H : Hp} {b : Addr} {vs : List V} {u : HO} (hb : H b = some (.lst vs)) (h : LamX.Tabs T H) : LamX.Tabs T (upd H b u) := tabs_chg (fun c o e n => by
  rw [upd_ne]
  · exact e
  · rintro rfl; rw [hb] at e; cases e; exact absurd rfl (n _)) h
variable [Tabled]

mutual
/-- a frozen thing -/
inductive RF (H : Hp) : V → D → Prop
  | non : RF H .non .non
  | bl (b : Bool) : RF H (.bl b) (.bl b)
  | int (i : Int) : RF H (.int i) (.int i)
  | str (x : Str) : RF H (.str x) (.str x)
  | tup {a : Addr} {vs : List V} {ds : List D} : H a = some (.tup vs) → RFs H vs ds → RF H (.ref a) (.tup ds)
  | lst {a : Addr} {o : Obj} {vs : List V} {ds : List D} : H a = some (.frz o (.lst vs)) → RFs H vs ds → RF H (.ref a) (.lst ds)
  | rng {a : Addr} {lo hi : Int} : H a = some (.rng lo hi) → rgOk lo = true → rgOk hi = true → RF H (.ref a) (.rng lo hi)
  | dicA {a : Addr} {o : Obj} {kv : List (Key × V)} {kvs : List (D × D)} : H a = some (.frz o (.dK kv)) → kvs.map (·.1) = kv.map (fun p => kD p.1) → RFs H (kv.map (·.2)) (kvs.map (·.2)) → RF H (.ref a) (.dic kvs)
  | dicT {a : Addr} {o : Obj} {es : Array DictEntry} {ep : Nat} {xs : List (NestedKey × Addr × Value)} {vs : List V} {kvs : List (D × D)} : H a = some (ExO a o) → o.ExactDict → o.data = .dict es ep → es.toList = xs.map (entryOfKey (nestedKind Tabled.P Tabled.w)) →
      (xs.map (·.1)).Nodup → Vals vs (xs.map (·.2.2)) → RFs H (xs.map fun x => V.ref x.2.1) (kvs.map (·.1)) → kvs.map (fun p => keyB true p.1) = xs.map (fun x => some x.1) → RFs H vs (kvs.map (·.2)) → RF H (.ref a) (.dic kvs)
inductive RFs (H : Hp) : List V → List D → Prop
  | nil : RFs H [] []
  | cons {v : V} {d : D} {vs : List V} {ds : List D} : RF H v d → RFs H vs ds → RFs H (v :: vs) (d :: ds)
end
mutual
/-- a thing that no one else has, and where it lies -/
inductive RO (H : Hp) : V → D → List Addr → Prop
  | fro {v : V} {d : D} : RF H v d → RO H v d []
  | new {a : Addr} {vs : List V} {ds : List D} : H a = some (.lst vs) → RFs H vs ds → RO H (.ref a) (.new ds) [a]
  | own {a : Addr} {vs : List V} {ds : List D} {fp : List Addr} : H a = some (.lst vs) → ROs H vs ds fp → a ∉ fp → RO H (.ref a) (.own ds) (a :: fp)
  | oto {a : Addr} {vs : List V} {ds : List D} {fp : List Addr} : H a = some (.tup vs) → ROs H vs ds fp → RO H (.ref a) (.oto ds) fp
inductive ROs (H : Hp) : List V → List D → List Addr → Prop
  | nil : ROs H [] [] []
  | cons {v : V} {d : D} {vs : List V} {ds : List D} {f g : List Addr} : RO H v d f → ROs H vs ds g → (∀ a ∈ f, a ∉ g) → ROs H (v :: vs) (d :: ds) (f ++ g)
end

/-- what never changes -/
def imm : HO → Bool
  | .tup _ => true
  | .frz _ _ => true
  | .rng _ _ => true
  | .ext _ => true
  | _ => false
def isTbl : HO → Bool
  | .tbl _ => true
  | _ => false

mutual
theorem RF.mono {H H' : Hp} (k : ∀ b o, H b = some o → imm o = true → H' b = some o) : ∀ {v : V} {d : D}, RF H v d → RF H' v d
  | _, _, .non => .non
  | _, _, .bl b => .bl b
  | _, _, .int i => .int i
  | _, _, .str x => .str x
  | _, _, .tup h r => .tup (k _ _ h rfl) (RFs.mono k r)
  | _, _, .lst h r => .lst (k _ _ h rfl) (RFs.mono k r)
  | _, _, .rng h b c => .rng (k _ _ h rfl) b c
  | _, _, .dicA h e r => .dicA (k _ _ h rfl) e (RFs.mono k r)
  | _, _, .dicT h a b c d e f g r => .dicT (k _ _ h rfl) a b c d e (RFs.mono k f) g (RFs.mono k r)
theorem RFs.mono {H H' : Hp} (k : ∀ b o, H b = some o → imm o = true → H' b = some o) : ∀ {vs : List V} {ds : List D}, RFs H vs ds → RFs H' vs ds
  | _, _, .nil => .nil
  | _, _, .cons h r => .cons (RF.mono k h) (RFs.mono k r)
end
mutual
theorem RO.mono {H H' : Hp} : ∀ {v : V} {d : D} {fp : List Addr}, RO H v d fp → (∀ b o, H b = some o → imm o = true ∨ b ∈ fp → H' b = some o) → RO H' v d fp
  | _, _, _, .fro h, k => .fro (h.mono fun b o e i => k b o e (.inl i))
  | _, _, _, .new h r, k => .new (k _ _ h (.inr (by simp))) (r.mono fun b o e i => k b o e (.inl i))
  | _, _, _, .own h r n, k => .own (k _ _ h (.inr (by simp))) (ROs.mono r fun b o e i => k b o e (i.imp id fun z => List.mem_cons_of_mem _ z)) n
  | _, _, _, .oto h r, k => .oto (k _ _ h (.inl rfl)) (ROs.mono r k)
theorem ROs.mono {H H' : Hp} : ∀ {vs : List V} {ds : List D} {fp : List Addr}, ROs H vs ds fp → (∀ b o, H b = some o → imm o = true ∨ b ∈ fp → H' b = some o) → ROs H' vs ds fp
  | _, _, _, .nil, _ => .nil
  | _, _, _, .cons h r n, k => .cons (RO.mono h fun b o e i => k b o e (i.imp id fun z => List.mem_append_left _ z)) (ROs.mono r fun b o e i => k b o e (i.imp id fun z => List.mem_append_right _ z)) n
end
mutual
/-- where it lies, lists stand -/
theorem RO.mut {H : Hp} : ∀ {v : V} {d : D} {fp : List Addr}, RO H v d fp → ∀ b ∈ fp, ∃ vs, H b = some (.lst vs)
  | _, _, _, .fro _, b, hb => absurd hb (by simp)
  | _, _, _, .new h _, b, hb => by rw [List.mem_singleton.mp hb]; exact ⟨_, h⟩
  | _, _, _, .own h r _, b, hb => by
    rcases List.mem_cons.mp hb with e | hb
    · rw [e]; exact ⟨_, h⟩
    · exact ROs.mut r b hb
  | _, _, _, .oto _ r, b, hb => ROs.mut r b hb
theorem ROs.mut {H : Hp} : ∀ {vs : List V} {ds : List D} {fp : List Addr}, ROs H vs ds fp → ∀ b ∈ fp, ∃ vs, H b = some (.lst vs)
  | _, _, _, .nil, b, hb => absurd hb (by simp)
  | _, _, _, .cons h r _, b, hb => by
    rcases List.mem_append.mp hb with hb | hb
    · exact RO.mut h b hb
    · exact ROs.mut r b hb
end
theorem RFs.length {H : Hp} : ∀ {vs : List V} {ds : List D}, RFs H vs ds → vs.length = ds.length
  | _, _, .nil => rfl
  | _, _, .cons _ r => by simp [RFs.length r]
theorem ROs.length {H : Hp} : ∀ {vs : List V} {ds : List D} {fp : List Addr}, ROs H vs ds fp → vs.length = ds.length
  | _, _, _, .nil => rfl
  | _, _, _, .cons _ r _ => by simp [ROs.length r]
theorem RF.isV {H : Hp} {v : V} {d : D} (h : RF H v d) : OV.isV d = true := by cases h <;> rfl
/-- a frozen head lies nowhere of its own -/
theorem RO.ofV {H : Hp} {v : V} {d : D} {fp : List Addr} (h : RO H v d fp) (hv : OV.isV d = true) : RF H v d ∧ fp = [] := by
  cases h with
  | fro h => exact ⟨h, rfl⟩
  | new _ _ => cases hv
  | own _ _ _ => cases hv
  | oto _ _ => cases hv
theorem RFs.toO {H : Hp} : ∀ {vs : List V} {ds : List D}, RFs H vs ds → ROs H vs ds []
  | _, _, .nil => .nil
  | _, _, .cons h r => .cons (f := []) (g := []) (.fro h) (RFs.toO r) (by simp)
theorem ROs.ofV {H : Hp} : ∀ {vs : List V} {ds : List D} {fp : List Addr}, ROs H vs ds fp → ds.all OV.isV = true → RFs H vs ds ∧ fp = []
  | _, _, _, .nil, _ => ⟨.nil, rfl⟩
  | _, _, _, .cons h r _, e => by
    simp only [List.all_cons, Bool.and_eq_true] at e
    obtain ⟨h1, e1⟩ := h.ofV e.1
    obtain ⟨h2, e2⟩ := ROs.ofV r e.2
    exact ⟨.cons h1 h2, by rw [e1, e2]; rfl⟩
theorem RFs.get {H : Hp} : ∀ {vs : List V} {ds : List D} {i : Nat} {d : D}, RFs H vs ds → ds[i]? = some d → ∃ v, vs[i]? = some v ∧ RF H v d
  | _, _, _, _, .nil, e => by simp at e
  | _, _, 0, _, .cons h _, e => by simp at e; subst e; exact ⟨_, rfl, h⟩
  | _, _, i + 1, d, .cons _ r, e => by
    obtain ⟨v, h1, h2⟩ := RFs.get (i := i) (d := d) r (by simpa using e)
    exact ⟨v, by simpa using h1, h2⟩
theorem ROs.get {H : Hp} : ∀ {vs : List V} {ds : List D} {fp : List Addr} {i : Nat} {d : D}, ROs H vs ds fp → ds[i]? = some d → ∃ v f, vs[i]? = some v ∧ RO H v d f ∧ ∀ b ∈ f, b ∈ fp
  | _, _, _, _, _, .nil, e => by simp at e
  | _, _, _, 0, _, .cons h _ _, e => by simp at e; subst e; exact ⟨_, _, rfl, h, fun b hb => List.mem_append_left _ hb⟩
  | _, _, _, i + 1, d, .cons _ r _, e => by
    obtain ⟨v, f, h1, h2, h3⟩ := ROs.get (i := i) (d := d) r (by simpa using e)
    exact ⟨v, f, by simpa using h1, h2, fun b hb => List.mem_append_right _ (h3 b hb)⟩
theorem RFs.append {H : Hp} : ∀ {vs ws : List V} {ds es : List D}, RFs H vs ds → RFs H ws es → RFs H (vs ++ ws) (ds ++ es)
  | _, _, _, _, .nil, s => s
  | _, _, _, _, .cons h r, s => .cons h (RFs.append r s)
theorem RFs.take {H : Hp} : ∀ {vs : List V} {ds : List D} (n : Nat), RFs H vs ds → RFs H (vs.take n) (ds.take n)
  | _, _, 0, _ => by simp; exact .nil
  | _, _, n + 1, .nil => .nil
  | _, _, n + 1, .cons h r => .cons h (RFs.take n r)
theorem RFs.drop {H : Hp} : ∀ {vs : List V} {ds : List D} (n : Nat), RFs H vs ds → RFs H (vs.drop n) (ds.drop n)
  | _, _, 0, r => r
  | _, _, n + 1, .nil => .nil
  | _, _, n + 1, .cons _ r => RFs.drop n r
theorem RFs.reverse {H : Hp} : ∀ {vs : List V} {ds : List D}, RFs H vs ds → RFs H vs.reverse ds.reverse
  | _, _, .nil => .nil
  | _, _, .cons h r => by
    rw [List.reverse_cons, List.reverse_cons]
    exact (RFs.reverse r).append (.cons h .nil)
theorem ROs.append {H : Hp} : ∀ {vs ws : List V} {ds es : List D} {f g : List Addr}, ROs H vs ds f → ROs H ws es g → (∀ a ∈ f, a ∉ g) → ROs H (vs ++ ws) (ds ++ es) (f ++ g)
  | _, _, _, _, _, _, .nil, s, _ => s
  | _, _, _, _, _, g, .cons (f := f1) (g := f2) h r n, s, d => by
    rw [List.append_assoc]
    refine .cons h (ROs.append r s fun a ha => d a (List.mem_append_right _ ha)) fun a ha hm => ?_
    rcases List.mem_append.mp hm with hm | hm
    · exact n a ha hm
    · exact d a (List.mem_append_left _ ha) hm

/-! ### lambdas -/
section
variable [Kn]
/-- the cells that a lambda has caught, and what they hold -/
structure CapOk (cl : List (Str × Addr)) (fr : List Str) (ws : List V) : Prop where
  len : ws.length = fr.length
  all : ∀ y c, cl.lookup y = some c → ∃ v, Kn.kn c v
  inj : ∀ x y c, cl.lookup x = some c → cl.lookup y = some c → x = y
  has : ∀ (i : Nat) (y : Str) (v : V), fr[i]? = some y → ws[i]? = some v → ∃ c, cl.lookup y = some c ∧ Kn.kn c v
inductive Cl (H : Hp) : V → D → Prop
  | mk {a c' : Addr} {k : Nat} {t : LamT} {cl : List (Str × Addr)} {ws : List V} {es : List D} : H a = some (LamO t cl a c') → H c' = some (LamX.CodeO c' t.qual) → Tabled.ok k t → CapOk cl t.fr ws → RFs H ws es → Cl H (.ref a) (.clo k es)
theorem Cl.mono {H H' : Hp} {v : V} {d : D} (h : Cl H v d) (k : ∀ b o, H b = some o → imm o = true → H' b = some o) : Cl H' v d := by
  cases h with
  | mk h b c e r => exact .mk (k _ _ h rfl) (k _ _ b rfl) c e (r.mono k)

/-! ### results -/
/-- a result: v is d; fp is where it lies, if it is new -/
inductive RR (H : Hp) (m : List Addr) (fps : List (List Addr)) : V → D → List Addr → Prop
  | tree {v : V} {d : D} {fp : List Addr} : RO H v d fp → (∀ a ∈ fp, ∀ f ∈ fps, a ∉ f) → RR H m fps v d fp
  | ref {a : Addr} {n : Nat} : m[n]? = some a → RR H m fps (.ref a) (.ref n) []
  | clo {v : V} {k : Nat} {es : List D} : Cl H v (.clo k es) → RR H m fps v (.clo k es) []
  | borN {a : Addr} {vs : List V} {ds : List D} {fp : List Addr} : H a = some (.lst vs) → ROs H vs ds fp → a ∉ fp → (∀ b ∈ a :: fp, ∀ f ∈ fps, b ∉ f) → RR H m fps (.ref a) (.bor none ds) (a :: fp)
  | borS {a : Addr} {vs : List V} {ds : List D} {fp f : List Addr} {n : Nat} : H a = some (.lst vs) → ROs H vs ds fp → a ∉ fp → fps[n]? = some f → (∀ b ∈ a :: fp, b ∈ f) → RR H m fps (.ref a) (.bor (some n) ds) []
/-- what a name holds -/
inductive RT (H : Hp) (m : List Addr) : V → D → Prop
  | fro {v : V} {d : D} : RF H v d → RT H m v d
  | ref {a : Addr} {n : Nat} : m[n]? = some a → RT H m (.ref a) (.ref n)
  | clo {v : V} {k : Nat} {es : List D} : Cl H v (.clo k es) → RT H m v (.clo k es)
theorem RT.mono {H H' : Hp} {m : List Addr} {v : V} {d : D} (h : RT H m v d) (k : ∀ b o, H b = some o → imm o = true → H' b = some o) : RT H' m v d := by
  cases h with
  | fro h => exact .fro (h.mono k)
  | ref h => exact .ref h
  | clo h => exact .clo (h.mono k)
theorem RT.res {H : Hp} {m : List Addr} {fps : List (List Addr)} {v : V} {d : D} (h : RT H m v d) : RR H m fps v d [] := by
  cases h with
  | fro h => exact .tree (.fro h) (by simp)
  | ref h => exact .ref h
  | clo h => exact .clo h

/-- the state lies in the heap: m where the cells lie, fps all that belongs to each -/
structure Rel (st : S) (m : List Addr) (fps : List (List Addr)) (σ : L2.St) (H : Hp) : Prop where
  slen : st.sl.length = σ.length
  sl : ∀ (i : Nat) (d : D), st.sl[i]? = some (some d) → ∃ v, (σ : List (Option V))[i]? = some (some v) ∧ RT H m v d
  mlen : m.length = st.ce.length
  flen : fps.length = st.ce.length
  ce : ∀ (n : Nat) (d : D), st.ce[n]? = some (some d) → ∃ a f, m[n]? = some a ∧ fps[n]? = some f ∧ RO H (.ref a) d f ∧ OV.isV d = false
  dead : ∀ (n : Nat), st.ce[n]? = some none → fps[n]? = some []
  dis : fps.Pairwise fun f g => ∀ a ∈ f, a ∉ g
  tab : LamX.Tabs Tabled.T H

theorem Rel.fmut {st : S} {m : List Addr} {fps : List (List Addr)} {σ : L2.St} {H : Hp} (R : Rel st m fps σ H) : ∀ f ∈ fps, ∀ b ∈ f, ∃ vs, H b = some (.lst vs) := fun f hf b hb => by
  obtain ⟨n, hn⟩ := List.getElem?_of_mem hf
  have hl : n < st.ce.length := by rw [← R.flen]; exact (List.getElem?_eq_some_iff.mp hn).1
  cases e : st.ce[n] with
  | none =>
    have := R.dead n (by rw [List.getElem?_eq_getElem hl, e])
    rw [hn] at this; cases this; cases hb
  | some d =>
    obtain ⟨a, f', _, h2, h3, _⟩ := R.ce n d (by rw [List.getElem?_eq_getElem hl, e])
    rw [hn] at h2; cases h2
    exact h3.mut b hb
theorem Rel.fimm {st : S} {m : List Addr} {fps : List (List Addr)} {σ : L2.St} {H : Hp} (R : Rel st m fps σ H) {b : Addr} {o : HO} (e : H b = some o) (i : imm o = true) : ∀ f ∈ fps, b ∉ f := fun f hf hb => by
  obtain ⟨vs, h⟩ := R.fmut f hf b hb
  rw [e] at h; cases h; cases i

/-- what a run keeps: all but what the cells that are not locked have; what is new in the cells is new in the heap -/
structure Grd (lk : List Nat) (fps fps' : List (List Addr)) (H H' : Hp) : Prop where
  keep : ∀ b o, H b = some o → (∀ (n : Nat) (f : List Addr), fps[n]? = some f → b ∈ f → n ∈ lk) → isTbl o = false → H' b = some o
  there : ∀ b o, H b = some o → ∃ o', H' b = some o'
  fresh : ∀ b, (∃ f ∈ fps', b ∈ f) → (∃ f ∈ fps, b ∈ f) ∨ H b = none
  lock : ∀ n ∈ lk, ∀ (f : List Addr), fps[n]? = some f → fps'[n]? = some f
/-- fp is new -/
def NF (fp : List Addr) (fps : List (List Addr)) (H : Hp) : Prop := ∀ b ∈ fp, (∃ f ∈ fps, b ∈ f) ∨ H b = none

theorem Grd.refl {lk : List Nat} {fps : List (List Addr)} {H : Hp} : Grd lk fps fps H H := ⟨fun _ _ e _ _ => e, fun _ o e => ⟨o, e⟩, fun _ h => .inl h, fun _ _ _ e => e⟩
theorem Grd.imm {lk : List Nat} {st : S} {m : List Addr} {fps fps' : List (List Addr)} {σ : L2.St} {H H' : Hp} (g : Grd lk fps fps' H H') (R : Rel st m fps σ H) : ∀ b o, H b = some o → OV.imm o = true → H' b = some o := fun b o e i =>
  g.keep b o e (fun n f hf hb => absurd hb (R.fimm e i f (List.mem_of_getElem? hf))) (by cases o <;> first | rfl | cases i)
theorem NF.nil {fps : List (List Addr)} {H : Hp} : NF [] fps H := fun _ h => by cases h
theorem dis_at {fps : List (List Addr)} (d : fps.Pairwise fun f g => ∀ a ∈ f, a ∉ g) {i j : Nat} {f g : List Addr} (hf : fps[i]? = some f) (hg : fps[j]? = some g) {b : Addr} (bf : b ∈ f) (bg : b ∈ g) : i = j := by
  rw [List.pairwise_iff_getElem] at d
  obtain ⟨hi, e1⟩ := List.getElem?_eq_some_iff.mp hf
  obtain ⟨hj, e2⟩ := List.getElem?_eq_some_iff.mp hg
  rcases Nat.lt_trichotomy i j with h | h | h
  · exact absurd (e2 ▸ bg) (d i j hi hj h b (e1 ▸ bf))
  · exact h
  · exact absurd (e1 ▸ bf) (d j i hj hi h b (e2 ▸ bg))
/-- one run behind another -/
theorem Grd.trans {lk lk1 : List Nat} {st1 : S} {m : List Addr} {fps fps1 fps2 : List (List Addr)} {σ1 : L2.St} {H H1 H2 : Hp} (a : Grd lk fps fps1 H H1) (b : Grd lk1 fps1 fps2 H1 H2) (R1 : Rel st1 m fps1 σ1 H1) (hlk : ∀ n ∈ lk, n ∈ lk1) (hlen : fps.length ≤ fps1.length) :
    Grd lk fps fps2 H H2 := by
  refine ⟨fun c o e hn ht => ?_, fun c o e => ?_, fun c h => ?_, fun n hn f hf => b.lock n (hlk n hn) f (a.lock n hn f hf)⟩
  · have e1 := a.keep c o e hn ht
    refine b.keep c o e1 (fun n f hf hc => ?_) ht
    -- c lies in a cell of the middle: it lay in a cell ahead, a locked one, and that one is as it was
    rcases a.fresh c ⟨f, List.mem_of_getElem? hf, hc⟩ with ⟨f0, hf0, hc0⟩ | h0
    · obtain ⟨n0, h0⟩ := List.getElem?_of_mem hf0
      have l0 := hn n0 f0 h0 hc0
      have := dis_at R1.dis hf (a.lock n0 l0 f0 h0) hc hc0
      rw [this]; exact hlk n0 l0
    · rw [e] at h0; cases h0
  · obtain ⟨o1, e1⟩ := a.there c o e
    exact b.there c o1 e1
  · rcases b.fresh c h with h1 | h1
    · exact a.fresh c h1
    · right
      cases q : H c with
      | none => rfl
      | some o =>
        obtain ⟨o1, e1⟩ := a.there c o q
        rw [h1] at e1; cases e1
theorem NF.trans {lk : List Nat} {fps fps1 : List (List Addr)} {H H1 : Hp} {fp : List Addr} (h : NF fp fps1 H1) (a : Grd lk fps fps1 H H1) : NF fp fps H := fun b hb => by
  rcases h b hb with h1 | h1
  · exact a.fresh b h1
  · right
    cases q : H b with
    | none => rfl
    | some o =>
      obtain ⟨o1, e1⟩ := a.there b o q
      rw [h1] at e1; cases e1
theorem NF.append {fp fq : List Addr} {fps : List (List Addr)} {H : Hp} (h : NF fp fps H) (k : NF fq fps H) : NF (fp ++ fq) fps H := fun b hb => (List.mem_append.mp hb).elim (h b) (k b)
theorem RR.mem {H : Hp} {m : List Addr} {fps : List (List Addr)} {v : V} {d : D} {fp : List Addr} (h : RR H m fps v d fp) : ∀ b ∈ fp, (∃ vs, H b = some (.lst vs)) ∧ ∀ f ∈ fps, b ∉ f := fun b hb => by
  cases h with
  | tree h n => exact ⟨h.mut b hb, n b hb⟩
  | ref _ => cases hb
  | clo _ => cases hb
  | borN h r hn n =>
    refine ⟨?_, n b hb⟩
    rcases List.mem_cons.mp hb with e | hb
    · rw [e]; exact ⟨_, h⟩
    · exact r.mut b hb
  | borS _ _ _ _ _ => cases hb
/-- a result stands while something else is run -/
theorem RR.keep {lk : List Nat} {st : S} {m : List Addr} {fps fps' : List (List Addr)} {σ : L2.St} {H H' : Hp} {v : V} {d : D} {fp : List Addr} (h : RR H m fps v d fp) (R : Rel st m fps σ H) (g : Grd lk fps fps' H H') (hlk : ∀ n ∈ lkO d, n ∈ lk) : RR H' m fps' v d fp := by
  have im := g.imm R
  have kp : ∀ {fp : List Addr}, (∀ a ∈ fp, (∃ vs, H a = some (.lst vs)) ∧ ∀ f ∈ fps, a ∉ f) → ∀ b o, H b = some o → OV.imm o = true ∨ b ∈ fp → H' b = some o := fun {fp} n b o e i => by
    rcases i with i | i
    · exact im b o e i
    · obtain ⟨⟨vs, e'⟩, hn⟩ := n b i
      rw [e] at e'; cases e'
      exact g.keep b _ e (fun j f hf hb => absurd hb (hn f (List.mem_of_getElem? hf))) rfl
  have ap : ∀ {fp : List Addr}, (∀ a ∈ fp, (∃ vs, H a = some (.lst vs)) ∧ ∀ f ∈ fps, a ∉ f) → ∀ a ∈ fp, ∀ f ∈ fps', a ∉ f := fun {fp} n a ha f hf hm => by
    obtain ⟨⟨vs, e'⟩, hn⟩ := n a ha
    rcases g.fresh a ⟨f, hf, hm⟩ with ⟨f0, h0, h1⟩ | h0
    · exact hn f0 h0 h1
    · rw [e'] at h0; cases h0
  have mm := h.mem
  cases h with
  | tree h n => exact .tree (h.mono (kp mm)) (ap mm)
  | ref h => exact .ref h
  | clo h => exact .clo (h.mono im)
  | borN h r hn n =>
    refine .borN (kp mm _ _ h (.inr (by simp))) (r.mono fun b o e i => kp mm b o e (i.imp id fun z => List.mem_cons_of_mem _ z)) hn (ap mm)
  | @borS a vs ds fp f n h r hn hf hin =>
    have ln : n ∈ lk := hlk n (by simp [lkO])
    have kk : ∀ b ∈ a :: fp, ∀ o, H b = some o → isTbl o = false → H' b = some o := fun b hb o e ht => by
      refine g.keep b o e (fun j f' hf' hb' => ?_) ht
      rw [dis_at R.dis hf' hf hb' (hin b hb)]; exact ln
    refine .borS (kk a (by simp) _ h rfl) (r.mono fun b o e i => ?_) hn (g.lock n ln f hf) hin
    rcases i with i | i
    · exact im b o e i
    · obtain ⟨vs', e'⟩ := r.mut b i
      rw [e] at e'; cases e'
      exact kk b (List.mem_cons_of_mem _ i) _ e rfl
/-- what is new behind it is apart from it -/
theorem RR.apart {m : List Addr} {fps : List (List Addr)} {H : Hp} {v : V} {d : D} {fp fq : List Addr} (h : RR H m fps v d fp) (n : NF fq fps H) : ∀ b ∈ fp, b ∉ fq := fun b hb hq => by
  obtain ⟨⟨vs, e⟩, hn⟩ := h.mem b hb
  rcases n b hq with ⟨f, hf, hbf⟩ | q
  · exact hn f hf hbf
  · rw [e] at q; cases q

/-! ### heaps -/
theorem imm_upd {H : Hp} {p : Addr} {o : HO} (hp : H p = none) : ∀ b u, H b = some u → upd H p o b = some u := fun b u e => by
  rw [upd_ne (ne_of_none e hp)]; exact e
theorem Rel.mono {st : S} {m : List Addr} {fps : List (List Addr)} {σ : L2.St} {H H' : Hp} (R : Rel st m fps σ H) (k : ∀ b o, H b = some o → True → H' b = some o) : Rel st m fps σ H' := by
  have k1 : ∀ b o, H b = some o → OV.imm o = true → H' b = some o := fun b o e i => k b o e trivial
  refine ⟨R.slen, fun i d e => ?_, R.mlen, R.flen, fun n d e => ?_, R.dead, R.dis, tabs_chg (fun b o e _ => k b o e trivial) R.tab⟩
  · obtain ⟨v, h1, h2⟩ := R.sl i d e
    exact ⟨v, h1, h2.mono k1⟩
  · obtain ⟨a, f, h1, h2, h3, h4⟩ := R.ce n d e
    refine ⟨a, f, h1, h2, h3.mono fun b o e i => ?_, h4⟩
    rcases i with i | i
    · exact k1 b o e i
    · obtain ⟨vs, e'⟩ := h3.mut b i
      rw [e] at e'; cases e'
      exact k b _ e trivial
theorem Grd.new {lk : List Nat} {fps : List (List Addr)} {H : Hp} {p : Addr} {o : HO} (hp : H p = none) : Grd lk fps fps H (upd H p o) :=
  ⟨fun b u e _ _ => imm_upd hp b u e, fun b u e => ⟨u, imm_upd hp b u e⟩, fun _ h => .inl h, fun _ _ _ e => e⟩
theorem Rel.new {st : S} {m : List Addr} {fps : List (List Addr)} {σ : L2.St} {H : Hp} (R : Rel st m fps σ H) {p : Addr} {o : HO} (hp : H p = none) : Rel st m fps σ (upd H p o) := R.mono fun b u e _ => imm_upd hp b u e

/-- behind an expression -/
structure PostE (lk : List Nat) (st' : S) (m : List Addr) (fps : List (List Addr)) (σ : L2.St) (H : Hp) (d : D) (v : V) (H' : Hp) : Prop where
  ex : ∃ fps' fp, Rel st' m fps' σ H' ∧ RR H' m fps' v d fp ∧ Grd lk fps fps' H H' ∧ NF fp fps H
end
end OV
/-! text OVC -/
namespace OV
open PySem PySem.Spec PyProof.Rows L2
variable [Tabled] [Kn]
/-! The operators. -/

/-- what a run of the model gives, from a state in which σ and H stand -/
def WV (X : Cx) (t : Sem Value) (σ : L2.St) (H : Hp) (Q : VK) : Prop :=
  ∀ (pins : List (Addr × Obj)) (s : Shared), Inv X pins σ H s → wpAny (model X.prog X.w) X.A t (EP X pins σ Q) X.xe s
theorem WV.mono {X : Cx} {t : Sem Value} {σ : L2.St} {H : Hp} {Q Q' : VK} (h : WV X t σ H Q) (k : ∀ v H', Q v H' → Q' v H') : WV X t σ H Q' := fun pins s I =>
  thn (h pins s I) fun _ _ ⟨v, H', I', r, q⟩ => ⟨v, H', I', r, k v H' q⟩

/-- behind an operation that leaves the cells -/
def PV (m : List Addr) (fps : List (List Addr)) (H : Hp) (fin : List Addr) (d : D) : VK := fun v H' =>
  (∀ b o, H b = some o → H' b = some o) ∧ ∃ fp, RR H' m fps v d fp ∧ ∀ b ∈ fp, b ∈ fin ∨ H b = none
theorem Grd.ext {lk : List Nat} {fps : List (List Addr)} {H H' : Hp} (k : ∀ b o, H b = some o → H' b = some o) : Grd lk fps fps H H' := ⟨fun b o e _ _ => k b o e, fun b o e => ⟨o, k b o e⟩, fun _ h => .inl h, fun _ _ _ e => e⟩
theorem PV.post {lk : List Nat} {st : S} {m : List Addr} {fps fps1 : List (List Addr)} {σ : L2.St} {H H1 H' : Hp} {fin : List Addr} {d : D} {v : V} (R : Rel st m fps1 σ H1) (g : Grd lk fps fps1 H H1) (n : NF fin fps H) (hlen : fps.length ≤ fps1.length) (p : PV m fps1 H1 fin d v H') :
    PostE lk st m fps σ H d v H' := by
  obtain ⟨k, fp, r, nf⟩ := p
  refine ⟨fps1, fp, R.mono fun b o e _ => k b o e, r, g.trans (Grd.ext (lk := lk) k) R (fun _ h => h) hlen, fun b hb => ?_⟩
  rcases nf b hb with h | h
  · exact n b h
  · right
    cases q : H b with
    | none => rfl
    | some o =>
      obtain ⟨o1, e1⟩ := g.there b o q
      rw [h] at e1; cases e1

section
variable {m : List Addr} {fps : List (List Addr)} {σ : L2.St} {H : Hp} {st : S}
/-- a result that is no new thing -/
theorem pv_scal {fin : List Addr} {v : V} {d : D} (h : RF H v d) : PV m fps H fin d v H := ⟨fun _ _ e => e, [], .tree (.fro h) (by simp), by simp⟩
theorem pv_same {fin fp : List Addr} {v : V} {d : D} (h : RR H m fps v d fp) (k : ∀ b ∈ fp, b ∈ fin) : PV m fps H fin d v H := ⟨fun _ _ e => e, fp, h, fun b hb => .inl (k b hb)⟩
theorem imm_of_ext {H H' : Hp} (k : ∀ b o, H b = some o → H' b = some o) : ∀ b o, H b = some o → OV.imm o = true → H' b = some o := fun b o e _ => k b o e
theorem pv_tup {fin : List Addr} {p : Addr} {vs : List V} {ds : List D} (hp : H p = none) (r : RFs H vs ds) : PV m fps H fin (.tup ds) (.ref p) (upd H p (.tup vs)) :=
  ⟨imm_upd hp, [], .tree (.fro (.tup upd_same (r.mono (imm_of_ext (imm_upd hp))))) (by simp), by simp⟩
theorem pv_new {fin : List Addr} {p : Addr} {vs : List V} {ds : List D} (R : Rel st m fps σ H) (hp : H p = none) (r : RFs H vs ds) : PV m fps H fin (.new ds) (.ref p) (upd H p (.lst vs)) := by
  refine ⟨imm_upd hp, [p], .tree (.new upd_same (r.mono (imm_of_ext (imm_upd hp)))) (fun a ha f hf hm => ?_), fun b hb => ?_⟩
  · rw [List.mem_singleton.mp ha] at hm
    obtain ⟨vs', e⟩ := R.fmut f hf p hm
    rw [hp] at e; cases e
  · rw [List.mem_singleton.mp hb]; exact .inr hp
end

/-! ### looking at results -/
section
variable {m : List Addr} {fps : List (List Addr)} {σ : L2.St} {H : Hp} {st : S} {x : V} {d : D} {fp : List Addr}
theorem RR.int {i : Int} (h : RR H m fps x (.int i) fp) : x = .int i ∧ fp = [] := by
  cases h with
  | tree h _ => obtain ⟨h, e⟩ := h.ofV rfl; cases h; exact ⟨rfl, e⟩
theorem RR.bl {i : Bool} (h : RR H m fps x (.bl i) fp) : x = .bl i ∧ fp = [] := by
  cases h with
  | tree h _ => obtain ⟨h, e⟩ := h.ofV rfl; cases h; exact ⟨rfl, e⟩
theorem RR.strv {i : Str} (h : RR H m fps x (.str i) fp) : x = .str i ∧ fp = [] := by
  cases h with
  | tree h _ => obtain ⟨h, e⟩ := h.ofV rfl; cases h; exact ⟨rfl, e⟩
theorem RR.ofV (h : RR H m fps x d fp) (hv : OV.isV d = true) : RF H x d ∧ fp = [] := by
  cases h with
  | tree h _ => exact h.ofV hv
  | ref _ => cases hv
  | clo _ => cases hv
  | borN _ _ _ _ => cases hv
  | borS _ _ _ _ _ => cases hv
theorem RR.tupv {ds : List D} (h : RR H m fps x (.tup ds) fp) : ∃ a vs, x = .ref a ∧ H a = some (.tup vs) ∧ RFs H vs ds ∧ fp = [] := by
  obtain ⟨h1, e⟩ := h.ofV rfl
  cases h1 with
  | tup h2 r => exact ⟨_, _, rfl, h2, r, e⟩
theorem cellL_some {ce : Ce} {n : Nat} {ds : List D} (h : cellL ce n = some ds) : ce[n]? = some (some (.own ds)) := by
  unfold cellL at h
  split at h
  · rename_i e; cases h; exact e
  · cases h
/-- a list, seen -/
theorem RR.seqL {ds : List D} (R : Rel st m fps σ H) (h : RR H m fps x d fp) (e : OV.seqL st.ce d = some ds) : ∃ a vs f, x = .ref a ∧ Rd H a (.lst vs) ∧ ROs H vs ds f := by
  cases h with
  | tree h n =>
    cases h with
    | fro h =>
      cases h with
      | lst h r => cases e; exact ⟨_, _, _, rfl, .inr ⟨_, h⟩, r.toO⟩
      | non | bl _ | int _ | str _ | tup _ _ | rng _ _ _ | dicA _ _ _ | dicT _ _ _ _ _ _ _ _ _ => cases e
    | new h r => cases e; exact ⟨_, _, _, rfl, .inl h, r.toO⟩
    | own h r _ => cases e; exact ⟨_, _, _, rfl, .inl h, r⟩
    | oto _ _ => cases e
  | ref h =>
    have e' := cellL_some e
    obtain ⟨a', f, h1, h2, h3, _⟩ := R.ce _ _ e'
    rw [h] at h1; cases h1
    cases h3 with
    | fro h3 => cases h3
    | own h3 r _ => exact ⟨_, _, _, rfl, .inl h3, r⟩
  | clo _ => cases e
  | borN h r _ _ => cases e; exact ⟨_, _, _, rfl, .inl h, r⟩
  | borS h r _ _ _ => cases e; exact ⟨_, _, _, rfl, .inl h, r⟩
theorem RR.seqLV {ds : List D} (R : Rel st m fps σ H) (h : RR H m fps x d fp) (e : OV.seqL st.ce d = some ds) (hv : ds.all OV.isV = true) : ∃ a vs, x = .ref a ∧ Rd H a (.lst vs) ∧ RFs H vs ds := by
  obtain ⟨a, vs, f, h1, h2, h3⟩ := h.seqL R e
  exact ⟨a, vs, h1, h2, (h3.ofV hv).1⟩
theorem rd_sqL {K : PySem.W.Frag} {a : Addr} {vs : List V} (h : Rd H a (.lst vs)) : SqL K H a vs := .inl h
end

/-! ### as data -/
section
variable {K : PySem.W.Frag} {m : List Addr} {fps : List (List Addr)} {σ : L2.St} {H : Hp} {st : S}
mutual
theorem RF.dp : ∀ {v : V} {d : D} {p : PyData}, RF H v d → pd d = some p → Dp K H v p
  | _, _, _, .non, e => by cases e; exact .non
  | _, _, _, .bl b, e => by cases e; exact .bl b
  | _, _, _, .int i, e => by cases e; exact .int i
  | _, _, _, .str x, e => by cases e; exact .str x
  | _, .tup ds, p, .tup h r, e => by
    simp only [pd] at e
    split at e
    · rename_i es he; cases e; exact .tup (.of h) (RFs.dp r he)
    · cases e
  | _, .lst ds, p, .lst h r, e => by
    simp only [pd] at e
    split at e
    · rename_i es he; cases e; exact .lst (.inl (.inr ⟨_, h⟩)) (RFs.dp r he)
    · cases e
  | _, _, _, .rng _ _ _, e => by simp [pd] at e
  | _, _, _, .dicA _ _ _, e => by simp [pd] at e
  | _, _, _, .dicT _ _ _ _ _ _ _ _ _, e => by simp [pd] at e
theorem RFs.dp : ∀ {vs : List V} {ds : List D} {ps : List PyData}, RFs H vs ds → pds ds = some ps → DpAll K H vs ps
  | _, _, _, .nil, e => by cases e; exact .nil
  | _, d :: ds, ps, .cons h r, e => by
    simp only [pds] at e
    split at e
    · rename_i a b h1 h2; cases e; exact .cons (RF.dp h h1) (RFs.dp r h2)
    · cases e
end
mutual
theorem RO.dp : ∀ {v : V} {d : D} {fp : List Addr} {p : PyData}, RO H v d fp → pd d = some p → Dp K H v p
  | _, _, _, _, .fro h, e => h.dp e
  | _, .new ds, _, p, .new h r, e => by
    simp only [pd] at e
    split at e
    · rename_i es he; cases e; exact .lst (.of h) (RFs.dp r he)
    · cases e
  | _, .own ds, _, p, .own h r _, e => by
    simp only [pd] at e
    split at e
    · rename_i es he; cases e; exact .lst (.of h) (ROs.dp r he)
    · cases e
  | _, .oto ds, _, p, .oto h r, e => by
    simp only [pd] at e
    split at e
    · rename_i es he; cases e; exact .tup (.of h) (ROs.dp r he)
    · cases e
theorem ROs.dp : ∀ {vs : List V} {ds : List D} {fp : List Addr} {ps : List PyData}, ROs H vs ds fp → pds ds = some ps → DpAll K H vs ps
  | _, _, _, _, .nil, e => by cases e; exact .nil
  | _, d :: ds, _, ps, .cons h r _, e => by
    simp only [pds] at e
    split at e
    · rename_i a b h1 h2; cases e; exact .cons (RO.dp h h1) (ROs.dp r h2)
    · cases e
end
theorem RR.dp {v : V} {d : D} {fp : List Addr} {p : PyData} (R : Rel st m fps σ H) (h : RR H m fps v d fp) (e : pdc st.ce d = some p) : Dp K H v p := by
  cases h with
  | tree h _ =>
    refine h.dp (p := p) ?_
    cases d <;> first | exact e | exact absurd h (fun z => by cases z with | fro z => cases z)
  | ref hm =>
    simp only [pdc] at e
    split at e
    · rename_i ds hds
      split at e
      · rename_i es hes
        cases e
        obtain ⟨a', f, h1, h2, h3, _⟩ := R.ce _ _ (cellL_some hds)
        rw [hm] at h1; cases h1
        cases h3 with
        | fro h3 => cases h3
        | own h3 r _ => exact .lst (.of h3) (r.dp hes)
      · cases e
    · cases e
  | clo _ => simp [pdc, pd] at e
  | borN h r _ _ =>
    simp only [pdc, pd] at e
    split at e
    · rename_i es he; cases e; exact .lst (.of h) (r.dp he)
    · cases e
  | borS h r _ _ _ =>
    simp only [pdc, pd] at e
    split at e
    · rename_i es he; cases e; exact .lst (.of h) (r.dp he)
    · cases e
end

/-! ### binary operators -/
def bop : BO → Operator
  | .add => .Add | .sub => .Sub | .mul => .Mult | .fdiv => .FloorDiv | .mod => .Mod | .pow => .Pow
def cop : CO → CmpOp
  | .lt => .Lt | .le => .LtE | .gt => .Gt | .ge => .GtE | .eq => .Eq | .ne => .NotEq | .inn => .In | .nin => .NotIn

section
variable {X : Cx} {m : List Addr} {fps : List (List Addr)} {σ : L2.St} {H : Hp} {st : S} {x y : V} {a b d : D} {fa fb : List Addr}
/-- whatever rule of the layer serves -/
def supR (X : Cx) (f : Value → Value → Sem Value) : R2 := fun x y H Q => ∃ r : R2, OpR X f r ∧ r x y H Q
theorem sup_op {f : Value → Value → Sem Value} : OpR X f (supR X f) := fun pins s σ H x y v u Q I rx ry ⟨r, ho, h⟩ => ho pins s σ H x y v u Q I rx ry h
theorem wv_op {f : Value → Value → Sem Value} {r : R2} {Q : VK} (ho : OpR X f r) (h : r x y H Q) : supR X f x y H Q := ⟨r, ho, h⟩
def supC (X : Cx) (f : Value) : List V → Hp → VK → Prop := fun xs H Q => ∃ r, CallR X f r ∧ r xs H Q
theorem sup_call {f : Value} : CallR X f (supC X f) := fun pins s σ H xs us Q I rv ⟨r, ho, h⟩ => ho pins s σ H xs us Q I rv h
def supI (X : Cx) : R2 := fun x y H Q => ∃ r : R2, IxR X r ∧ r x y H Q
theorem sup_ix : IxR X (supI X) := fun value slice pins s σ H x y v u Q I rx ry ⟨r, ho, h⟩ => ho value slice pins s σ H x y v u Q I rx ry h
def supS (X : Cx) : V → Option Int → Option Int → Hp → VK → Prop := fun x lo hi H Q => ∃ r, SlR X r ∧ r x lo hi H Q
theorem sup_sl : SlR X (supS X) := fun pins s σ H x v vl vu lo hi sl Q I rx hs pl pu ⟨r, ho, h⟩ => ho pins s σ H x v vl vu lo hi sl Q I rx hs pl pu h

/-- list + list, whatever lists -/
theorem op_catR : OpR X (binaryOp .Add) (fun x y H Q => ∃ l b xs zs, x = .ref l ∧ y = .ref b ∧ Rd H l (.lst xs) ∧ Rd H b (.lst zs) ∧ xs.length + zs.length ≤ sizeLine ∧ ∀ p, H p = none → Q (.ref p) (upd H p (.lst (xs ++ zs)))) := by
  intro pins s σ H x y v u Q I rx ry h
  obtain ⟨l, b, xs, zs, rfl, rfl, hH, hB, hz, q⟩ := h
  cases rx
  cases ry
  obtain ⟨z, its, n, r, e⟩ := hH.ok I.hok
  obtain ⟨z2, its2, n2, r2, e2⟩ := hB.ok I.hok
  have hl := r.length
  have hl2 := r2.length
  refine PySem.P.add_list e e2 ?_ (by rw [List.size_toArray, List.size_toArray]; omega)
  have ea : its.toArray ++ its2.toArray = (its ++ its2).toArray := by simp
  rw [ea]
  exact ⟨.ref _, _, I.lnew (t' := s.toks) (r.append r2) (by rw [List.length_append]; omega), rfl, q _ I.fresh⟩
/-- list * int -/
theorem op_repR : OpR X (binaryOp .Mult) (fun x y H Q => ∃ l k xs, x = .ref l ∧ y = .int k ∧ Rd H l (.lst xs) ∧ -(2 ^ 63) ≤ k ∧ k < 2 ^ 63 ∧ xs.length * k.toNat ≤ sizeLine ∧
  ∀ p, H p = none → Q (.ref p) (upd H p (.lst (List.replicate k.toNat xs).flatten))) := by
  intro pins s σ H x y v u Q I rx ry h
  obtain ⟨l, k, xs, rfl, rfl, hH, h1, h2, hz, q⟩ := h
  cases rx
  obtain ⟨t, rfl⟩ := ry
  obtain ⟨z, its, n, r, e⟩ := hH.ok I.hok
  have hl := r.length
  have hlen : its.toArray.size * k.toNat ≤ sizeLine := by rw [List.size_toArray, ← hl]; exact hz
  have hcap : ¬ its.toArray.size * k.toNat > (2 ^ 63 - 1) / 8 := by
    have : (sizeLine : Nat) ≤ (2 ^ 63 - 1) / 8 := by decide
    omega
  have hfit : ¬ (!Builtin.List.listFitsIndex k) = true := by
    rw [fitsIndex_both h1 h2]
    exact Bool.false_ne_true
  have hlong : ¬ Builtin.List.listTooLong (its.toArray.size * k.toNat) = true := by
    rw [notLongL hlen]
    exact Bool.false_ne_true
  have hnew : List.foldl (fun x1 x2 => x1 ++ x2) #[] (List.replicate (if its.toArray.isEmpty = true then 0 else k.toNat) its.toArray) = (List.replicate k.toNat its).flatten.toArray := by
    have f0 : ∀ m : Nat, List.foldl (fun x1 x2 => x1 ++ x2) #[] (List.replicate m its.toArray) = (List.replicate m its).flatten.toArray := fun m => by
      have := foldl_rep its m []
      rw [List.nil_append] at this
      exact this
    rw [f0]
    cases its with
    | nil => simp
    | cons a r' => rw [if_neg (by simp)]
  refine wpAny_binaryOp_repeat_ref (T := "list") (U := "int") (by decide) ⟨_, e, rfl⟩ (fun s' => typeIs_int s' k t) noFill_list_mul F.fills_int_mul F.slot_int_rmul repeat_list F.slot_int_index.lookup
    (call_meets F.slot_int_rmul (typeIs_int s k t) F.entry_int_rmul (F.args_int_rmul_2 _ _) (int___rmul___int_list k t l its.toArray n)
      ⟨e, rfl, ⟨_, e, rfl⟩, call_meets F.slot_list_mul ⟨_, e, rfl⟩ F.entry_list_mul (F.args_list_mul_2 _ _) (AutoListH.list___mul___list_int_3 l its.toArray n k t hfit hcap hlong) ⟨e, ?_⟩⟩)
  rw [hnew]
  exact ⟨.ref _, _, I.lnew (t' := s.toks) (r.rep k.toNat) (by rw [PyProof.Rows.lm_len_rep_flat, Nat.mul_comm]; exact hz), rfl, q _ I.fresh⟩
theorem RFs.rep {vs : List V} {ds : List D} (h : RFs H vs ds) : ∀ k : Nat, RFs H (List.replicate k vs).flatten (List.replicate k ds).flatten
  | 0 => .nil
  | k + 1 => by
    rw [List.replicate_succ, List.replicate_succ, List.flatten_cons, List.flatten_cons]
    exact h.append (RFs.rep h k)

theorem bin_ok {o : BO} (R : Rel st m fps σ H) (h : opBin st.ce o a b = some d) (ra : RR H m fps x a fa) (rb : RR H m fps y b fb) :
    supR X (binaryOp (bop o)) x y H (PV m fps H (fa ++ fb) d) := by
  unfold opBin at h
  split at h
  · obtain ⟨rfl, _⟩ := ra.int; obtain ⟨rfl, _⟩ := rb.int; cases h
    exact wv_op op_add ⟨_, _, rfl, rfl, pv_scal (.int _)⟩
  · obtain ⟨rfl, _⟩ := ra.int; obtain ⟨rfl, _⟩ := rb.int; cases h
    exact wv_op op_sub ⟨_, _, rfl, rfl, pv_scal (.int _)⟩
  · obtain ⟨rfl, _⟩ := ra.int; obtain ⟨rfl, _⟩ := rb.int
    split at h
    · rename_i hm
      cases h
      unfold mulOk at hm
      simp only [Bool.or_eq_true, decide_eq_true_eq] at hm
      rcases hm with (hm | hm) | hm
      · exact wv_op op_mul ⟨_, _, rfl, rfl, .inl hm, pv_scal (.int _)⟩
      · exact wv_op op_mul ⟨_, _, rfl, rfl, .inr hm, pv_scal (.int _)⟩
      · exact wv_op op_mulW ⟨_, _, rfl, rfl, hm, pv_scal (.int _)⟩
    · cases h
  · obtain ⟨rfl, _⟩ := ra.int; obtain ⟨rfl, _⟩ := rb.int
    split at h
    · rename_i hm; cases h
      exact wv_op op_fdivW ⟨_, _, rfl, rfl, hm, pv_scal (.int _)⟩
    · cases h
  · obtain ⟨rfl, _⟩ := ra.int; obtain ⟨rfl, _⟩ := rb.int
    split at h
    · rename_i hm; cases h
      exact wv_op op_mod ⟨_, _, rfl, rfl, hm, pv_scal (.int _)⟩
    · cases h
  · obtain ⟨rfl, _⟩ := ra.int; obtain ⟨rfl, _⟩ := rb.int
    split at h
    · rename_i hm; cases h
      exact wv_op op_pow ⟨_, _, rfl, rfl, hm, pv_scal (.int _)⟩
    · cases h
  · rename_i xs ys
    obtain ⟨a1, vs, rfl, h1, r1, e1⟩ := ra.tupv
    obtain ⟨a2, ws, rfl, h2, r2, e2⟩ := rb.tupv
    split at h
    · rename_i hz; cases h
      have l1 := r1.length
      have l2 := r2.length
      refine wv_op op_catA ⟨_, _, vs, ws, rfl, rfl, .of h1, .of h2, ?_, fun e => ?_, fun _ e => ?_, fun _ _ p hp => pv_tup hp (r1.append r2)⟩
      · unfold line at hz; omega
      · subst e; cases r1; exact pv_scal (.tup h2 r2)
      · subst e; cases r2; rw [List.append_nil]; exact pv_scal (.tup h1 r1)
    · cases h
  · obtain ⟨rfl, _⟩ := ra.strv; obtain ⟨rfl, _⟩ := rb.strv
    split at h
    · rename_i hz; cases h
      exact wv_op op_add_str ⟨_, _, rfl, rfl, hz, pv_scal (.str _)⟩
    · cases h
  · split at h
    · rename_i xs ys h1 h2
      split at h
      · rename_i hc; cases h
        obtain ⟨c1, c2, c3⟩ := hc
        obtain ⟨a1, vs, rfl, g1, r1⟩ := ra.seqLV R h1 c1
        obtain ⟨a2, ws, rfl, g2, r2⟩ := rb.seqLV R h2 c2
        have l1 := r1.length
        have l2 := r2.length
        exact wv_op op_catR ⟨_, _, vs, ws, rfl, rfl, g1, g2, by unfold line at c3; omega, fun p hp => pv_new R hp (r1.append r2)⟩
      · cases h
    · cases h
  · split at h
    · rename_i xs h1
      split at h
      · rename_i hc; cases h
        obtain ⟨c1, c2, c3, c4⟩ := hc
        obtain ⟨a1, vs, rfl, g1, r1⟩ := ra.seqLV R h1 c1
        obtain ⟨rfl, _⟩ := rb.int
        have l1 := r1.length
        exact wv_op op_repR ⟨_, _, vs, rfl, rfl, g1, by omega, by omega, by unfold line at c4; rw [l1]; exact c4, fun p hp => pv_new R hp (r1.rep _)⟩
      · cases h
    · cases h
  · cases h
end
end OV
/-! text OVCA -/
namespace OV
open PySem PySem.Spec PyProof.Rows L2
variable [Tabled] [Kn]
/-! Dicts, read. -/
mutual
theorem RF.nest {P : Program} {w : World} {H : Hp} {h : Heap} (ok : HOk P w H h) : ∀ {v : V} {d : D} {k : NestedKey} {u : Value}, RF H v d → keyN d = some k → RelV v u → NestedIs h k u
  | _, _, _, _, .non, e, r => by cases e; cases r; exact .none
  | _, _, _, _, .bl b, e, r => by simp [keyN] at e
  | _, _, _, _, .int i, e, r => by cases e; obtain ⟨t, rfl⟩ := r; exact .int _ _
  | _, _, _, _, .str x, e, r => by cases e; obtain ⟨t, rfl⟩ := r; exact .text _ _
  | _, .tup ds, k, _, .tup ha rs, e, r => by
    simp only [keyN] at e
    split at e
    · rename_i ks hk
      cases e; cases r
      obtain ⟨_, its, rv, o, e1, e2, n, e3⟩ := ok _ _ ha
      exact .tup e1 e2 e3 (by simpa using RFs.nest ok rs hk rv)
    · cases e
  | _, _, _, _, .lst _ _, e, r => by simp [keyN] at e
  | _, _, _, _, .rng _ _ _, e, r => by simp [keyN] at e
  | _, _, _, _, .dicA _ _ _, e, r => by simp [keyN] at e
  | _, _, _, _, .dicT _ _ _ _ _ _ _ _ _, e, r => by simp [keyN] at e
theorem RFs.nest {P : Program} {w : World} {H : Hp} {h : Heap} (ok : HOk P w H h) : ∀ {vs : List V} {ds : List D} {ks : List NestedKey} {us : List Value}, RFs H vs ds → keysN ds = some ks → Vals vs us → NestedAll h ks us
  | _, _, _, _, .nil, e, r => by cases e; cases r; exact .nil
  | _, d :: ds, ks, _, .cons h1 h2, e, r => by
    simp only [keysN] at e
    split at e
    · rename_i k ks' e1 e2
      cases e
      cases r with
      | cons r1 r2 => exact .cons (RF.nest ok h1 e1 r1) (RFs.nest ok h2 e2 r2)
    · cases e
end
theorem keyB_N {tk : Bool} {d : D} {q : NestedKey} (h : keyB tk d = some q) : keyN d = some q := by
  cases d with
  | tup ds =>
    simp only [keyB] at h
    split at h
    · split at h
      · rename_i ks hk
        split at h
        · cases h; simp only [keyN, hk]
        · cases h
      · cases h
    · cases h
  | int i => simp only [keyB] at h; split at h <;> cases h; rfl
  | str i => simp only [keyB] at h; split at h <;> cases h; rfl
  | _ => cases h
theorem keyB_depth {d : D} {q : NestedKey} (h : keyB true d = some q) : q.depth ≤ 8 ∧ ∃ ds, d = .tup ds := by
  cases d with
  | tup ds =>
    simp only [keyB] at h
    split at h
    · split at h
      · split at h
        · rename_i hd; cases h; exact ⟨hd, _, rfl⟩
        · cases h
      · cases h
    · cases h
  | _ => cases h
/-- a key that is a tuple -/
theorem key_is {P : Program} {w : World} {H : Hp} {h : Heap} (ok : HOk P w H h) {a : Addr} {d : D} {q : NestedKey} (r : RF H (.ref a) d) (e : keyB true d = some q) : (nestedKind P w).is h q a :=
  ⟨r.nest ok (keyB_N e) rfl, (keyB_depth e).1⟩
theorem find_T {H : Hp} {q : NestedKey} {d : D} : ∀ {kvs : List (D × D)} {xs : List (NestedKey × Addr × Value)} {vs : List V}, kvs.map (fun p => keyB true p.1) = xs.map (fun x => some x.1) → RFs H vs (kvs.map (·.2)) → Vals vs (xs.map (·.2.2)) → findK kvs q = some d →
    ∃ p v, atKey xs q = some p ∧ RelV v p.2 ∧ RF H v d
  | [], [], _, _, _, _, e => by cases e
  | [], _ :: _, _, h, _, _, _ => by cases h
  | _ :: _, [], _, h, _, _, _ => by cases h
  | (a, b) :: kvs, (k, p, u) :: xs, v :: vs, h, r, rv, e => by
    simp only [List.map_cons, List.cons.injEq] at h
    cases r with
    | cons r1 r2 =>
      cases rv with
      | cons v1 v2 =>
        simp only [findK] at e
        rw [keyB_N h.1] at e
        by_cases hk : k = q
        · subst hk
          rw [if_pos rfl] at e
          cases e
          exact ⟨(p, u), v, by simp [atKey], v1, r1⟩
        · rw [if_neg (fun z => hk (Option.some.inj z))] at e
          obtain ⟨p', v', h1, h2, h3⟩ := find_T h.2 r2 v2 e
          exact ⟨p', v', by simpa [atKey, hk] using h1, h2, h3⟩
  | _ :: _, _ :: _, [], _, r, _, _ => by cases r
def kN : Key → NestedKey
  | .inl i => .num i
  | .inr x => .text x
theorem keyN_kD (k : Key) : keyN (kD k) = some (kN k) := by cases k <;> rfl
theorem kN_inj {a b : Key} (h : kN a = kN b) : a = b := by
  cases a <;> cases b <;> first | (cases h; rfl) | cases h
theorem find_A {H : Hp} {q : Key} {d : D} : ∀ {kvs : List (D × D)} {kv : List (Key × V)}, kvs.map (·.1) = kv.map (fun p => kD p.1) → RFs H (kv.map (·.2)) (kvs.map (·.2)) → findK kvs (kN q) = some d → ∃ v, valV kv q = some v ∧ RF H v d
  | [], [], _, _, e => by cases e
  | [], _ :: _, h, _, _ => by cases h
  | _ :: _, [], h, _, _ => by cases h
  | (a, b) :: kvs, (k, v) :: kv, h, r, e => by
    simp only [List.map_cons, List.cons.injEq] at h
    cases r with
    | cons r1 r2 =>
      simp only [findK] at e
      rw [h.1, keyN_kD] at e
      by_cases hk : k = q
      · subst hk
        rw [if_pos rfl] at e
        cases e
        exact ⟨v, valV_pos rfl, r1⟩
      · rw [if_neg (fun z => hk (kN_inj (Option.some.inj z)))] at e
        obtain ⟨v', h1, h2⟩ := find_A h.2 r2 e
        exact ⟨v', by rw [valV_neg hk]; exact h1, h2⟩
section
variable {X : Cx}
theorem ix_dict {value slice : Expr} {s : Shared} {a : Addr} {u : Value} {Q E : Value → Shared → Prop} (hs : subscripted slice false (.ref a) u = operate [.ref a, u] (getItem (.ref a) u)) (hT : s.TypeIs (.ref a) "dict") (h : wpAny (model X.prog X.w) X.A (getItem (.ref a) u) Q E s) :
    wpAny (model X.prog X.w) X.A (subscriptTail value slice (.ref a) u) Q E s := by
  unfold subscriptTail
  refine wpAny_bind ?_
  rw [getitemInPython_of_ne hT.not_modules]
  refine wpAny_bind (wpAny_specialOf hT PySem.F.slot_dict_getitem.lookup ?_)
  have fin : wpAny (model X.prog X.w) X.A (subscripted slice false (.ref a) u) (fun r s₃ => wpAny (model X.prog X.w) X.A (letTemporaryGo value (.ref a) r >>= fun _ => pure r) Q E s₃) E s := by
    rw [hs]
    exact wpAny_operating (wpAny_mono h (fun r s₃ h₃ => wpAny_bind (wpAny_letTemporaryGo (wpAny_pure h₃))) fun _ _ x => x)
  first
    | exact wpAny_pure (wpAny_bind fin)
    | exact wpAny_bind (wpAny_pure (wpAny_bind fin))
    | exact wpAny_bind fin
/-- d[k], d frozen -/
theorem ix_dic (hP : X.prog = Tabled.P) (hw : X.w = Tabled.w) (hu : X.A.units + 65 < cLine) {kvs : List (D × D)} {k d : D} (e : lookD kvs k = some d) : IxR X (fun x y H Q => RF H x (.dic kvs) ∧ RF H y k ∧ ∀ v, RF H v d → Q v H) := by
  intro value slice pins s σ H x y v u Q I rx ry ⟨r, rk, q⟩ hs
  unfold lookD at e
  cases r with
  | @dicA a o kv _ h1 h2 h3 =>
    cases rx
    have hk : ∃ kk : Key, k = kD kk ∧ y = kV kk := by
      cases rk with
      | int i => exact ⟨.inl i, rfl, rfl⟩
      | str i => exact ⟨.inr i, rfl, rfl⟩
      | tup h r =>
        exfalso
        simp only at e
        split at e
        · rename_i qq hq
          obtain ⟨_, rfl⟩ : ∃ l, qq = NestedKey.tup l := by
            simp only [keyB] at hq
            split at hq
            · split at hq
              · split at hq
                · cases hq; exact ⟨_, rfl⟩
                · cases hq
              · cases hq
            · cases hq
          have : ∀ {kvs : List (D × D)} {ks : List (Key × V)} {l}, kvs.map (·.1) = ks.map (fun p => kD p.1) → findK kvs (.tup l) = none := by
            intro kvs
            induction kvs with
            | nil => intro ks l _; rfl
            | cons p r ih =>
              intro ks l hh
              cases ks with
              | nil => cases hh
              | cons kk ks =>
                simp only [List.map_cons, List.cons.injEq] at hh
                obtain ⟨pa, pb⟩ := p
                simp only [findK]
                have hh1 : pa = kD kk.1 := hh.1
                rw [hh1, keyN_kD, if_neg (by obtain ⟨kk, _⟩ := kk; cases kk <;> (intro z; cases z))]
                exact ih hh.2
          rw [this h2] at e; cases e
        · cases e
      | _ => cases e
    obtain ⟨kk, rfl, rfl⟩ := hk
    have e' : findK kvs (kN kk) = some d := by
      cases kk <;> exact e
    obtain ⟨w', hv, rw'⟩ := find_A h2 h3 e'
    have g : DGet H a (kV kk) (some w') := .inl ⟨_, kk, .inr ⟨o, h1⟩, rfl, hv.symm⟩
    exact ix_dict hs (dict_typeIs I g) (d_getItem (by omega) I g ry fun u' s' I' ru => ⟨w', H, I', ru, q w' rw'⟩)
  | @dicT a o es ep xs vs _ h1 h2 h3 h4 h5 h6 h7 h8 h9 =>
    cases rx
    have hk : ∃ b ds qq, y = .ref b ∧ k = .tup ds ∧ keyB true k = some qq ∧ findK kvs qq = some d := by
      have noA : ∀ {kvs : List (D × D)} {xs : List (NestedKey × Addr × Value)} {kk : Key}, kvs.map (fun p => keyB true p.1) = xs.map (fun x => some x.1) → findK kvs (kN kk) = none := by
        intro kvs
        induction kvs with
        | nil => intro xs kk _; rfl
        | cons p r ih =>
          intro xs kk hh
          cases xs with
          | nil => cases hh
          | cons x xs =>
            simp only [List.map_cons, List.cons.injEq] at hh
            obtain ⟨pa, pb⟩ := p
            simp only [findK]
            have hh1 : keyB true pa = some x.1 := hh.1
            obtain ⟨_, ds, rfl⟩ := keyB_depth hh1
            have : ∃ l, x.1 = NestedKey.tup l := by
              have := keyB_N hh1
              simp only [keyN] at this
              split at this
              · exact ⟨_, (Option.some.inj this).symm⟩
              · cases this
            obtain ⟨l, hl⟩ := this
            rw [keyB_N hh1, hl, if_neg (by cases kk <;> (intro z; cases z))]
            exact ih hh.2
      cases rk with
      | tup h r =>
        simp only at e
        split at e
        · rename_i qq hq; exact ⟨_, _, qq, rfl, rfl, hq, e⟩
        · cases e
      | int i => have e : findK kvs (kN (.inl i)) = some d := e; rw [noA h8] at e; cases e
      | str i => have e : findK kvs (kN (.inr i)) = some d := e; rw [noA h8] at e; cases e
      | _ => cases e
    obtain ⟨b, ds, qq, rfl, rfl, hq, e'⟩ := hk
    cases ry
    obtain ⟨p, w', hp, rv, rw'⟩ := find_T h8 h9 h6 e'
    obtain ⟨ho, _, _⟩ := I.hok a _ h1
    have ho : s.heap.get? a = some o := ho
    have dd : s.heap.DictOfH (nestedKind X.prog X.w) a xs := by
      rw [hP, hw]
      refine ⟨o, es, ep, ho, h2, h3, h4, fun x hx => ?_, h5⟩
      obtain ⟨i, hi⟩ := List.getElem?_of_mem hx
      have hm : (kvs.map fun p => keyB true p.1)[i]? = some (some x.1) := by rw [h8, List.getElem?_map, hi]; rfl
      rw [List.getElem?_map] at hm
      cases hkv : kvs[i]? with
      | none => rw [hkv] at hm; cases hm
      | some kv =>
        rw [hkv] at hm
        obtain ⟨v1, h1', h2'⟩ := h7.get (i := i) (d := kv.1) (by rw [List.getElem?_map, hkv]; rfl)
        rw [List.getElem?_map, hi] at h1'
        cases h1'
        exact key_is (P := Tabled.P) (w := Tabled.w) (by rw [← hP, ← hw]; exact I.hok) h2' (Option.some.inj hm)
    refine ix_dict hs dd.typeIs (wpAny_getItem_heap (show (X.A.in1).units + 8 < cLine by have : X.A.in1.units = X.A.units + 1 := rfl; omega) (by rw [hP, hw]; exact key_is (by rw [← hP, ← hw]; exact I.hok) rk hq) dd hp ?_)
    exact ⟨w', H, I.tok _, rv, q w' rw'⟩
end
end OV
/-! text OVD -/
namespace OV
open PySem PySem.Spec PyProof.Rows L2
variable [Tabled] [Kn]
/-! Comparisons, subscripts, slices. -/
section
variable {X : Cx} {m : List Addr} {fps : List (List Addr)} {σ : L2.St} {H : Hp} {st : S} {x y : V} {a b d : D} {fa fb : List Addr}

mutual
theorem Dp.tupE {K : PySem.W.Frag} : ∀ {v : V} {ds : List PyData}, Dp K H v (.tuple ds) → True := fun _ => trivial
end
/-- a sequence, seen as data -/
theorem RR.seqDp {K : PySem.W.Frag} {ds : List D} {ps : List PyData} (R : Rel st m fps σ H) (h : RR H m fps x d fa) (e : OV.seqD st.ce d = some ds) (hp : pds ds = some ps) : Dp K H x (.list ps) ∨ Dp K H x (.tuple ps) := by
  have lst : OV.seqL st.ce d = some ds → Dp K H x (.list ps) := fun e => by
    obtain ⟨a, vs, f, rfl, h1, h2⟩ := h.seqL R e
    exact .lst (.inl h1) (h2.dp hp)
  cases d with
  | tup es =>
    cases e
    obtain ⟨a, vs, rfl, h1, h2, _⟩ := h.tupv
    exact .inr (.tup (.of h1) (h2.dp hp))
  | oto es =>
    cases e
    cases h with
    | tree h _ =>
      cases h with
      | fro h => cases h
      | oto h1 h2 => exact .inr (.tup (.of h1) (h2.dp hp))
  | _ => exact .inl (lst e)
theorem shaped_lay {ps : List PyData} (h : ps.all SeqAt.shaped = true) : PyData.canLayAll0 ps = true := by
  induction ps with
  | nil => rfl
  | cons p ps ih =>
    simp only [List.all_cons, Bool.and_eq_true] at h
    simp only [PyData.canLayAll0, Bool.and_eq_true]
    exact ⟨SeqAt.canLay_of_shaped h.1, ih h.2⟩
def rInB (K : PySem.W.Frag) (neg : Bool) : R2 := fun x y H Q => ∃ p qs, Dp K H x p ∧ (Dp K H y (.list qs) ∨ Dp K H y (.tuple qs)) ∧ SeqAt.shaped p = true ∧ qs.all SeqAt.shaped = true ∧ Q (.bl (if neg then !inDs p qs else inDs p qs)) H
theorem op_inB (hu : X.A.units + 65 < cLine) : OpR X (compareOp .In) (rInB X.K false) := by
  intro pins s σ H x y v u Q I rx ry h
  obtain ⟨d, ds, hd, he, sd, se, q⟩ := h
  obtain ⟨as, r1⟩ := Dp.reads I d x v hd rx
  rcases he with he | he
  · obtain ⟨bs, r2⟩ := Dp.reads I (.list ds) y u he ry
    exact SeqAt.in_list_reads r2 r1 (shaped_lay se) (SeqAt.canLay_of_shaped sd) (room_in_shaped sd hu) ⟨.bl _, H, I, rfl, q⟩
  · obtain ⟨bs, r2⟩ := Dp.reads I (.tuple ds) y u he ry
    exact SeqAt.in_tuple_reads r2 r1 (shaped_lay se) (SeqAt.canLay_of_shaped sd) (room_in_shaped sd hu) ⟨.bl _, H, I, rfl, q⟩
theorem op_notInB (hu : X.A.units + 65 < cLine) : OpR X (compareOp .NotIn) (rInB X.K true) := by
  intro pins s σ H x y v u Q I rx ry h
  obtain ⟨d, ds, hd, he, sd, se, q⟩ := h
  obtain ⟨as, r1⟩ := Dp.reads I d x v hd rx
  rcases he with he | he
  · obtain ⟨bs, r2⟩ := Dp.reads I (.list ds) y u he ry
    exact SeqAt.notIn_list_reads r2 r1 (shaped_lay se) (SeqAt.canLay_of_shaped sd) (room_in_shaped sd hu) ⟨.bl _, H, I, rfl, q⟩
  · obtain ⟨bs, r2⟩ := Dp.reads I (.tuple ds) y u he ry
    exact SeqAt.notIn_tuple_reads r2 r1 (shaped_lay se) (SeqAt.canLay_of_shaped sd) (room_in_shaped sd hu) ⟨.bl _, H, I, rfl, q⟩
theorem intsD_vals : ∀ {vs : List V} {ds : List D} {is : List Int}, RFs H vs ds → intsD ds = some is → vs = is.map V.int ∧ ds = is.map D.int
  | _, _, _, .nil, e => by cases e; exact ⟨rfl, rfl⟩
  | _, d :: ds, is, .cons h r, e => by
    cases d with
    | int i =>
      simp only [intsD] at e
      split at e
      · rename_i js hj
        cases e
        obtain ⟨e1, e2⟩ := intsD_vals r hj
        cases h
        exact ⟨by rw [e1]; rfl, by rw [e2]; rfl⟩
      · cases e
    | _ => cases e
theorem cmp_ok {o : CO} {c : Bool} (hu : X.A.units + 65 < cLine) (R : Rel st m fps σ H) (h : opCmp st.ce o a b = some c) (ra : RR H m fps x a fa) (rb : RR H m fps y b fb) :
    supR X (compareOp (cop o)) x y H (PV m fps H (fa ++ fb) (.bl c)) := by
  have hu1 : X.A.units + 64 < cLine := by omega
  have eq : ∀ {c : Bool}, eqD st.ce a b = some c → ∃ p q, Dp X.K H x p ∧ Dp X.K H y q ∧ SeqAt.shaped p = true ∧ SeqAt.shaped q = true ∧ c = PyData.eqv p q := fun {c} h => by
    unfold eqD at h
    split at h
    · rename_i p q h1 h2
      split at h
      · rename_i hs
        simp only [Bool.and_eq_true] at hs
        cases h
        exact ⟨p, q, ra.dp R h1, rb.dp R h2, hs.1, hs.2, rfl⟩
      · cases h
    · cases h
  have inn : ∀ {c : Bool}, inD st.ce a b = some c → ∃ p qs, Dp X.K H x p ∧ (Dp X.K H y (.list qs) ∨ Dp X.K H y (.tuple qs)) ∧ SeqAt.shaped p = true ∧ qs.all SeqAt.shaped = true ∧ c = inDs p qs := fun {c} h => by
    unfold inD at h
    split at h
    · rename_i p ds h1 h2
      split at h
      · rename_i qs h3
        split at h
        · rename_i hs
          simp only [Bool.and_eq_true] at hs
          cases h
          exact ⟨p, qs, ra.dp R h1, rb.seqDp R h2 h3, hs.1, hs.2, rfl⟩
        · cases h
      · cases h
    · cases h
  cases o with
  | eq =>
    obtain ⟨p, q, h1, h2, h3, h4, rfl⟩ := eq h
    exact wv_op (op_eqD hu1) ⟨p, q, h1, h2, h3, h4, pv_scal (.bl _)⟩
  | ne =>
    simp only [opCmp] at h
    cases e : eqD st.ce a b with
    | none => rw [e] at h; cases h
    | some c' =>
      rw [e] at h; cases h
      obtain ⟨p, q, h1, h2, h3, h4, rfl⟩ := eq e
      exact wv_op (op_neD hu1) ⟨p, q, h1, h2, h3, h4, pv_scal (.bl _)⟩
  | inn =>
    obtain ⟨p, q, h1, h2, h3, h4, rfl⟩ := inn h
    exact wv_op (op_inB hu) ⟨p, q, h1, h2, h3, h4, pv_scal (.bl _)⟩
  | nin =>
    simp only [opCmp] at h
    cases e : inD st.ce a b with
    | none => rw [e] at h; cases h
    | some c' =>
      rw [e] at h; cases h
      obtain ⟨p, q, h1, h2, h3, h4, rfl⟩ := inn e
      exact wv_op (op_notInB hu) ⟨p, q, h1, h2, h3, h4, pv_scal (.bl _)⟩
  | lt =>
    simp only [opCmp] at h
    cases a with
    | int i =>
      cases b with
      | int j =>
        obtain ⟨rfl, _⟩ := ra.int; obtain ⟨rfl, _⟩ := rb.int; cases h
        exact wv_op op_lt ⟨_, _, rfl, rfl, pv_scal (.bl _)⟩
      | _ => cases h
    | tup xs =>
      cases b with
      | tup ys =>
        simp only [ordD] at h
        split at h
        · rename_i is js h1 h2
          cases h
          obtain ⟨a1, vs, rfl, g1, r1, _⟩ := ra.tupv
          obtain ⟨a2, ws, rfl, g2, r2, _⟩ := rb.tupv
          obtain ⟨rfl, _⟩ := intsD_vals r1 h1
          obtain ⟨rfl, _⟩ := intsD_vals r2 h2
          exact wv_op (op_ltT (by omega)) ⟨_, _, is, js, rfl, rfl, .of g1, .of g2, pv_scal (.bl _)⟩
        · cases h
      | _ => cases h
    | _ => cases b <;> cases h
  | le =>
    simp only [opCmp] at h
    cases a with
    | int i =>
      cases b with
      | int j =>
        obtain ⟨rfl, _⟩ := ra.int; obtain ⟨rfl, _⟩ := rb.int; cases h
        exact wv_op op_le ⟨_, _, rfl, rfl, pv_scal (.bl _)⟩
      | _ => cases h
    | _ => cases b <;> cases h
  | gt =>
    simp only [opCmp] at h
    cases a with
    | int i =>
      cases b with
      | int j =>
        obtain ⟨rfl, _⟩ := ra.int; obtain ⟨rfl, _⟩ := rb.int; cases h
        exact wv_op op_gt ⟨_, _, rfl, rfl, pv_scal (.bl _)⟩
      | _ => cases h
    | _ => cases b <;> cases h
  | ge =>
    simp only [opCmp] at h
    cases a with
    | int i =>
      cases b with
      | int j =>
        obtain ⟨rfl, _⟩ := ra.int; obtain ⟨rfl, _⟩ := rb.int; cases h
        exact wv_op op_ge ⟨_, _, rfl, rfl, pv_scal (.bl _)⟩
      | _ => cases h
    | _ => cases b <;> cases h

/-! ### is -/
theorem RR.non (h : RR H m fps x d fa) : (x = .non) ↔ (d = .non) := by
  constructor
  · intro e
    subst e
    cases h with
    | tree h _ =>
      cases h with
      | fro h => cases h; rfl
    | clo h => cases h
  · intro e
    subst e
    obtain ⟨h, _⟩ := h.ofV rfl
    cases h; rfl
def kV1 : Option Bool → V
  | none => .non
  | some b => .bl b
theorem isK_ok {k : Option Bool} {c : Bool} (h : isK k d = some c) (r : RR H m fps x d fa) :
    supR X (compareOp .Is) x (kV1 k) H (PV m fps H fa (.bl c)) ∧ supR X (compareOp .IsNot) x (kV1 k) H (PV m fps H fa (.bl (!c))) := by
  cases k with
  | none =>
    have e : c = decide (x = .non) := by
      have n := r.non
      cases d with
      | non => cases h; rw [decide_eq_true (n.mpr rfl)]
      | _ => cases h; rw [decide_eq_false (fun z => by cases n.mp z)]
    subst e
    exact ⟨wv_op (y := .non) op_isN ⟨rfl, pv_scal (.bl _)⟩, wv_op (y := .non) op_notN ⟨rfl, pv_scal (.bl _)⟩⟩
  | some b =>
    cases d with
    | bl c' =>
      cases h
      obtain ⟨rfl, _⟩ := r.bl
      exact ⟨wv_op (y := .bl b) op_isBl ⟨_, _, rfl, rfl, pv_scal (.bl _)⟩, wv_op (y := .bl b) op_notBl ⟨_, _, rfl, rfl, pv_scal (.bl _)⟩⟩
    | _ => cases h

/-! ### subscripts -/
theorem atI_len {α β : Type} {xs : List α} {ys : List β} (hl : xs.length = ys.length) {i : Int} {b : β} (h : atI ys i = some b) : ∃ j : Nat, ys[j]? = some b ∧ ∀ a : α, xs[j]? = some a → atI xs i = some a := by
  unfold atI at h
  cases e : ixN ys.length i with
  | none => rw [e] at h; cases h
  | some j =>
    rw [e] at h
    exact ⟨j, h, fun a ha => by unfold atI; rw [hl, e]; exact ha⟩
theorem idx_ok {d : D} (hP : X.prog = Tabled.P) (hw : X.w = Tabled.w) (hu : X.A.units + 65 < cLine) (R : Rel st m fps σ H) (h : opIdx st.ce a b = some d) (ra : RR H m fps x a fa) (rb : RR H m fps y b fb) : supI X x y H (PV m fps H (fa ++ fb) d) := by
  -- a frozen sequence
  have lst : ∀ {p : Addr} {vs : List V} {ds : List D} {i : Int} {e : D} {Q : VK}, x = .ref p → y = .int i → (Rd H p (.lst vs) ∨ H p = some (.tup vs)) → vs.length = ds.length → atI ds i = some e → (∀ (j : Nat) w, ds[j]? = some e → vs[j]? = some w → Q w H) →
      supI X x y H Q := fun {p vs ds i e Q} e1 e2 hl hlen he k => by
    subst e1 e2
    obtain ⟨j, hj, hat⟩ := atI_len hlen he
    have hj2 : j < vs.length := by rw [hlen]; exact (List.getElem?_eq_some_iff.mp hj).1
    have hv : vs[j]? = some vs[j] := List.getElem?_eq_getElem hj2
    rcases hl with hl | hl
    · exact ⟨_, ix_list, ⟨p, vs, i, vs[j], rfl, rfl, .inl hl, hat _ hv, k j _ hj hv⟩⟩
    · exact ⟨_, ix_tup, ⟨p, vs, i, vs[j], rfl, rfl, .of hl, hat _ hv, k j _ hj hv⟩⟩
  have frz : ∀ {vs : List V} {ds : List D} {e : D} {j : Nat} {w : V}, RFs H vs ds → ds[j]? = some e → vs[j]? = some w → PV m fps H (fa ++ fb) e w H := fun {vs ds e j w} r hj hw => by
    obtain ⟨w', h1, h2⟩ := r.get hj
    rw [hw] at h1; cases h1
    exact pv_scal h2
  -- what is looked at in a list that may change
  have lk : ∀ {n : Option Nat} {vs : List V} {ds : List D} {e e' : D} {j : Nat} {w : V} {f : List Addr}, ROs H vs ds f → ds[j]? = some e → vs[j]? = some w → look n e = some e' →
      (∀ es g, RO H w (.own es) g → (∀ b ∈ g, b ∈ f) → PV m fps H (fa ++ fb) (.bor n es) w H) → PV m fps H (fa ++ fb) e' w H := fun {n vs ds e e' j w f} r hj hw hl k => by
    obtain ⟨w', g, h1, h2, h3⟩ := r.get hj
    rw [hw] at h1; cases h1
    unfold look at hl
    split at hl
    · cases hl; exact k _ g h2 h3
    · split at hl
      · rename_i hv; cases hl; exact pv_scal (h2.ofV hv).1
      · cases hl
  by_cases hd : ∃ kvs, a = .dic kvs
  · obtain ⟨kvs, rfl⟩ := hd
    have e : lookD kvs b = some d := by cases b <;> exact h
    obtain ⟨ha, _⟩ := ra.ofV rfl
    obtain ⟨hk, _⟩ := rb.ofV (by unfold lookD at e; cases b <;> first | rfl | cases e)
    exact ⟨_, ix_dic hP hw hu e, ha, hk, fun v r => pv_scal r⟩
  cases b with
  | int i =>
    obtain ⟨rfl, _⟩ := rb.int
    cases a with
    | oto ds =>
      cases ra with
      | tree ra n =>
        cases ra with
        | fro z => cases z
        | oto h1 h2 =>
          refine lst rfl rfl (.inr h1) h2.length h fun j w hj hw => ?_
          obtain ⟨w', g, e1, e2, e3⟩ := h2.get hj
          rw [hw] at e1; cases e1
          exact ⟨fun _ _ e => e, g, .tree e2 fun b hb f hf => n b (e3 b hb) f hf, fun b hb => .inl (List.mem_append_left _ (e3 b hb))⟩
    | tup ds =>
      obtain ⟨p, vs, rfl, h1, r, _⟩ := ra.tupv
      exact lst rfl rfl (.inr h1) r.length h fun j w hj hw => frz r hj hw
    | lst ds =>
      obtain ⟨ra, _⟩ := ra.ofV rfl
      cases ra with
      | lst h1 r => exact lst rfl rfl (.inl (.inr ⟨_, h1⟩)) r.length h fun j w hj hw => frz r hj hw
    | new ds =>
      cases ra with
      | tree ra n =>
        cases ra with
        | fro z => cases z
        | new h1 r => exact lst rfl rfl (.inl (.inl h1)) r.length h fun j w hj hw => frz r hj hw
    | own ds =>
      simp only [opIdx] at h
      split at h
      · rename_i e he
        cases ra with
        | tree ra n =>
          cases ra with
          | fro z => cases z
          | own h1 r hn =>
            refine lst rfl rfl (.inl (.inl h1)) r.length he fun j w hj hw => lk r hj hw h fun es g h2 h3 => ?_
            cases h2 with
            | fro z => cases z
            | own h4 h5 h6 =>
              exact ⟨fun _ _ e => e, _, .borN h4 h5 h6 fun b hb f hf => n b (List.mem_cons_of_mem _ (h3 b hb)) f hf, fun b hb => .inl (List.mem_append_left _ (List.mem_cons_of_mem _ (h3 b hb)))⟩
      · cases h
    | bor n ds =>
      simp only [opIdx] at h
      split at h
      · rename_i e he
        cases ra with
        | tree z _ => cases z with | fro z => cases z
        | borN h1 r hn n =>
          refine lst rfl rfl (.inl (.inl h1)) r.length he fun j w hj hw => lk r hj hw h fun es g h2 h3 => ?_
          cases h2 with
          | fro z => cases z
          | own h4 h5 h6 =>
            exact ⟨fun _ _ e => e, _, .borN h4 h5 h6 fun b hb f hf => n b (List.mem_cons_of_mem _ (h3 b hb)) f hf, fun b hb => .inl (List.mem_append_left _ (List.mem_cons_of_mem _ (h3 b hb)))⟩
        | borS h1 r hn hf hin =>
          refine lst rfl rfl (.inl (.inl h1)) r.length he fun j w hj hw => lk r hj hw h fun es g h2 h3 => ?_
          cases h2 with
          | fro z => cases z
          | own h4 h5 h6 => exact ⟨fun _ _ e => e, _, .borS h4 h5 h6 hf fun b hb => hin b (List.mem_cons_of_mem _ (h3 b hb)), by simp⟩
      · cases h
    | ref n =>
      simp only [opIdx] at h
      split at h
      · rename_i ds hc
        split at h
        · rename_i e he
          cases ra with
          | tree z _ => cases z with | fro z => cases z
          | ref hm =>
            obtain ⟨a', f, h1, hf, h3, _⟩ := R.ce _ _ (cellL_some hc)
            rw [hm] at h1; cases h1
            cases h3 with
            | fro z => cases z
            | own h1 r hn =>
              refine lst rfl rfl (.inl (.inl h1)) r.length he fun j w hj hw => lk r hj hw h fun es g h2 h3 => ?_
              cases h2 with
              | fro z => cases z
              | own h4 h5 h6 => exact ⟨fun _ _ e => e, _, .borS h4 h5 h6 hf fun b hb => List.mem_cons_of_mem _ (h3 b hb), by simp⟩
        · cases h
      · cases h
    | dic kvs => exact absurd ⟨kvs, rfl⟩ hd
    | _ => cases h
  | _ => cases a <;> first | (exact absurd ⟨_, rfl⟩ hd) | cases h
theorem RFs.cutd {vs : List V} {ds : List D} (h : RFs H vs ds) (lo hi : Option Int) : RFs H (cutV vs lo hi) (OV.cut ds lo hi) := by
  unfold cutV OV.cut
  rw [h.length]
  exact (h.drop _).take _
theorem sl_ok {d : D} {lo hi : Option Int} (R : Rel st m fps σ H) (h : opSl st.ce a lo hi = some d) (ra : RR H m fps x a fa) : supS X x lo hi H (PV m fps H fa d) := by
  have old : (match OV.seqL st.ce a with | some ds => if ds.all OV.isV then some (D.new (cut ds lo hi)) else none | none => none) = some d → supS X x lo hi H (PV m fps H fa d) := fun h => by
    split at h
    · rename_i ds hd
      split at h
      · rename_i hv; cases h
        obtain ⟨p, vs, rfl, h1, h2⟩ := ra.seqLV R hd hv
        exact ⟨_, sl_list, ⟨_, vs, rfl, rd_sqL h1, fun q hq => pv_new R hq (h2.cutd lo hi)⟩⟩
      · cases h
    · cases h
  have frz : ∀ {p : Addr} {vs : List V} {ds : List D}, x = .ref p → Rd H p (.lst vs) → RFs H vs ds → supS X x lo hi H (PV m fps H fa (.new (cut ds lo hi))) := fun {p vs ds} e h1 h2 => by
    subst e
    exact ⟨_, sl_list, ⟨_, vs, rfl, rd_sqL h1, fun q hq => pv_new R hq (h2.cutd lo hi)⟩⟩
  cases a with
  | tup ds =>
    cases h
    obtain ⟨p, vs, rfl, h1, h2, _⟩ := ra.tupv
    refine ⟨_, sl_tupA, ⟨_, vs, rfl, .of h1, fun hw => ?_, fun _ q hq => pv_tup hq (h2.cutd lo hi)⟩⟩
    have e : cut ds lo hi = ds := by
      unfold cut
      rw [← h2.length, hw.1, hw.2, h2.length]
      simp
    rw [e]
    exact pv_scal (.tup h1 h2)
  | lst ds =>
    cases h
    obtain ⟨h1, _⟩ := ra.ofV rfl
    cases h1 with
    | lst h2 r => exact frz rfl (.inr ⟨_, h2⟩) r
  | new ds =>
    cases h
    cases ra with
    | tree r _ =>
      cases r with
      | fro z => cases z
      | new h1 r => exact frz rfl (.inl h1) r
  | _ => exact old h
end
end OV
/-! text OVE -/
namespace OV
open PySem PySem.Spec PyProof.Rows L2
/-! The text against the plain machine's terms. -/

/-- names by slot, the scope, the cells that may be stored -/
structure SX where
  N : List Str
  sc : Scope
  fn : Str → Bool
  /-- the defs that may be called -/
  df : List Str
  /-- the module's numbers -/
  gi : List (Str × Int) := []
  /-- lambdas: whether they may be made here, what they catch, whether a text is one's -/
  top : Bool := false
  lfr : Nat → List Str := fun _ => []
  lok : Nat → Arguments → Expr → Scope → Bool := fun _ _ _ _ => false
def SX.blk (q : SX) (scope : Scope) : SX := ⟨q.N, relS scope q.sc, fun x => scope.names.lookup x == some .cell, q.df, q.gi, false, fun _ => [], fun _ _ _ _ => false⟩

def visB (sc : Scope) (x : Str) : Bool := match sc.names.lookup x with
  | some .local | some .cell | some .free => true
  | _ => false
def locB (q : SX) (x : Str) : Bool := match q.sc.names.lookup x with
  | some .local => true
  | some .cell => q.fn x
  | _ => false
def gloB (q : SX) (x : Str) : Bool := decide (q.sc.names.lookup x = some .globalImplicit) && decide (x ≠ ("__debug__" : Str)) && decide (x ≠ ("__name__" : Str))
def nameB (q : SX) (i : Nat) (x : Str) : Bool := decide (q.N[i]? = some x) && visB q.sc x && !(x == ("__debug__" : Str)) && !(x == ("__classdict__" : Str))
def strNameB (q : SX) (i : Nat) (x : Str) : Bool := decide (q.N[i]? = some x) && locB q x
/-- the built-in's name -/
def bfName : BF → Str
  | .len => "len" | .range1 => "range" | .range2 => "range" | .list => "list" | .tuple => "tuple" | .int => "int" | .abs => "abs" | .max2 => "max" | .min2 => "min" | .max1 => "max" | .min1 => "min"
  | .all => "all" | .any => "any" | .sum => "sum" | .repr => "repr" | .sorted => "sorted" | .str => "str" | .isI _ => "isinstance" | .isI2 _ _ => "isinstance" | .lenSet => "len" | .lotOf => "tuple"
def tyName : Ty → Str
  | .int => "int" | .bool => "bool" | .str => "str" | .list => "list" | .tuple => "tuple"
def bfNames : List Str := ["len", "range", "list", "tuple", "int", "abs", "max", "min", "all", "any", "sum", "repr", "sorted", "str", "isinstance", "set", "enumerate", "zip", "bool"]
def isName (q : SX) (x : Str) : Expr → Bool
  | .Name y _ => decide (y = x) && gloB q x
  | _ => false
def kC : Option Bool → Const
  | none => .none
  | some b => .bool b
def constK (k : Option Bool) (c : Const) : Bool := decide (c = kC k)
/-! ### what an expression is -/
def vName : Expr → Option Str
  | .Name x _ => some x
  | _ => none
def vConst : Expr → Option Const
  | .Constant c _ _ => some c
  | _ => none
def vBin : Expr → Option (Expr × Operator × Expr)
  | .BinOp a o b _ => some (a, o, b)
  | _ => none
def vUn : Expr → Option (UnaryOp × Expr)
  | .UnaryOp o a _ => some (o, a)
  | _ => none
def vCmp1 : Expr → Option (Expr × CmpOp × Expr)
  | .Compare a [o] [b] _ => some (a, o, b)
  | _ => none
def vCmp2 : Expr → Option (Expr × CmpOp × Expr × CmpOp × Expr)
  | .Compare a [o, p] [b, c] _ => some (a, o, b, p, c)
  | _ => none
def vBool : Expr → Option (BoolOp × List Expr)
  | .BoolOp o es _ => some (o, es)
  | _ => none
def vIf : Expr → Option (Expr × Expr × Expr)
  | .IfExp a b c _ => some (a, b, c)
  | _ => none
def vTup : Expr → Option (List Expr)
  | .Tuple es _ _ => some es
  | _ => none
def vStar : Expr → Option (Expr × List Expr)
  | .Tuple (.Starred a _ :: es) _ _ => some (a, es)
  | _ => none
def vLst : Expr → Option (List Expr)
  | .List es _ => some es
  | _ => none
def vSub : Expr → Option (Expr × Expr)
  | .Subscript a i _ => some (a, i)
  | _ => none
def vSl : Expr → Option (Expr × Option Expr × Option Expr)
  | .Subscript a (.Slice lo hi none _) _ => some (a, lo, hi)
  | _ => none
def vRev : Expr → Option Expr
  | .Subscript a (.Slice none none (some (.UnaryOp .USub (.Constant (.int 1) _ _) _)) _) _ => some a
  | _ => none
def vCall : Expr → Option (Str × List Expr)
  | .Call (.Name x _) es [] _ => some (x, es)
  | _ => none
def vMeth : Expr → Option (Expr × Str × List Expr)
  | .Call (.Attribute o m ap) es [] cp => if ap.endLine == cp.line then some (o, m, es) else none
  | _ => none
def vComp : Expr → Option (Expr × Expr × Expr × List Expr × List Comprehension × Scope)
  | .ListComp elt (⟨t, it, ifs, 0⟩ :: gs) scope _ => some (elt, t, it, ifs, gs, scope)
  | _ => none
def vDC : Expr → Option (Expr × Expr × Expr × Expr × List Expr × Scope)
  | .DictComp kx vx [⟨t, it, ifs, 0⟩] scope _ => some (kx, vx, t, it, ifs, scope)
  | _ => none
theorem vDC_eq {e kx vx t it : Expr} {ifs : List Expr} {scope : Scope} (h : vDC e = some (kx, vx, t, it, ifs, scope)) : ∃ p, e = .DictComp kx vx [⟨t, it, ifs, 0⟩] scope p := by
  unfold vDC at h
  split at h
  · cases h; exact ⟨_, rfl⟩
  · cases h
/-- a call whose last argument is a lambda -/
def vLam : List Expr → Option (Expr × Arguments × Expr × Scope)
  | [e, .Lambda params body scope _] => some (e, params, body, scope)
  | _ => none
theorem vLam_eq {es : List Expr} {e body : Expr} {params : Arguments} {scope : Scope} (h : vLam es = some (e, params, body, scope)) : ∃ p, es = [e, .Lambda params body scope p] := by
  unfold vLam at h
  split at h
  · cases h; exact ⟨_, rfl⟩
  · cases h
/-- isinstance's arguments; set(..) alone -/
def vIs1 : List Expr → Option (Expr × Str)
  | [e, .Name y _] => some (e, y)
  | _ => none
def vIs2 : List Expr → Option (Expr × Str × Str)
  | [e, .Tuple [.Name y _, .Name z _] _ _] => some (e, y, z)
  | _ => none
def vSet1 : List Expr → Option (Str × Expr)
  | [.Call (.Name y _) [e] [] _] => some (y, e)
  | _ => none
theorem vIs1_eq {es : List Expr} {e : Expr} {y : Str} (h : vIs1 es = some (e, y)) : ∃ p, es = [e, .Name y p] := by
  unfold vIs1 at h
  split at h
  · cases h; exact ⟨_, rfl⟩
  · cases h
theorem vIs2_eq {es : List Expr} {e : Expr} {y z : Str} (h : vIs2 es = some (e, y, z)) : ∃ p1 p2 k p, es = [e, .Tuple [.Name y p1, .Name z p2] k p] := by
  unfold vIs2 at h
  split at h
  · cases h; exact ⟨_, _, _, _, rfl⟩
  · cases h
theorem vSet1_eq {es : List Expr} {e : Expr} {y : Str} (h : vSet1 es = some (y, e)) : ∃ p1 p, es = [.Call (.Name y p1) [e] [] p] := by
  unfold vSet1 at h
  split at h
  · cases h; exact ⟨_, _, rfl⟩
  · cases h
theorem vName_eq {e : Expr} {x : Str} (h : vName e = some x) : ∃ p, e = .Name x p := by
  cases e <;> first | (cases h; done) | (cases h; exact ⟨_, rfl⟩)
theorem vConst_eq {e : Expr} {x : Const} (h : vConst e = some x) : ∃ k p, e = .Constant x k p := by
  cases e <;> first | (cases h; done) | (cases h; exact ⟨_, _, rfl⟩)
theorem vBin_eq {e a b : Expr} {o : Operator} (h : vBin e = some (a, o, b)) : ∃ p, e = .BinOp a o b p := by
  cases e <;> first | (cases h; done) | (cases h; exact ⟨_, rfl⟩)
theorem vUn_eq {e a : Expr} {o : UnaryOp} (h : vUn e = some (o, a)) : ∃ p, e = .UnaryOp o a p := by
  cases e <;> first | (cases h; done) | (cases h; exact ⟨_, rfl⟩)
theorem vCmp1_eq {e a b : Expr} {o : CmpOp} (h : vCmp1 e = some (a, o, b)) : ∃ p, e = .Compare a [o] [b] p := by
  unfold vCmp1 at h
  split at h
  · cases h; exact ⟨_, rfl⟩
  · cases h
theorem vCmp2_eq {e a b c : Expr} {o p : CmpOp} (h : vCmp2 e = some (a, o, b, p, c)) : ∃ q, e = .Compare a [o, p] [b, c] q := by
  unfold vCmp2 at h
  split at h
  · cases h; exact ⟨_, rfl⟩
  · cases h
theorem vBool_eq {e : Expr} {o : BoolOp} {es : List Expr} (h : vBool e = some (o, es)) : ∃ p, e = .BoolOp o es p := by
  cases e <;> first | (cases h; done) | (cases h; exact ⟨_, rfl⟩)
theorem vIf_eq {e a b c : Expr} (h : vIf e = some (a, b, c)) : ∃ p, e = .IfExp a b c p := by
  cases e <;> first | (cases h; done) | (cases h; exact ⟨_, rfl⟩)
theorem vTup_eq {e : Expr} {es : List Expr} (h : vTup e = some es) : ∃ k p, e = .Tuple es k p := by
  cases e <;> first | (cases h; done) | (cases h; exact ⟨_, _, rfl⟩)
theorem vStar_eq {e a : Expr} {es : List Expr} (h : vStar e = some (a, es)) : ∃ p' k p, e = .Tuple (.Starred a p' :: es) k p := by
  unfold vStar at h
  split at h
  · cases h; exact ⟨_, _, _, rfl⟩
  · cases h
theorem vLst_eq {e : Expr} {es : List Expr} (h : vLst e = some es) : ∃ p, e = .List es p := by
  cases e <;> first | (cases h; done) | (cases h; exact ⟨_, rfl⟩)
theorem vSub_eq {e a i : Expr} (h : vSub e = some (a, i)) : ∃ p, e = .Subscript a i p := by
  cases e <;> first | (cases h; done) | (cases h; exact ⟨_, rfl⟩)
theorem vSl_eq {e a : Expr} {lo hi : Option Expr} (h : vSl e = some (a, lo, hi)) : ∃ p' p, e = .Subscript a (.Slice lo hi none p') p := by
  unfold vSl at h
  split at h
  · cases h; exact ⟨_, _, rfl⟩
  · cases h
theorem vRev_eq {e a : Expr} (h : vRev e = some a) : ∃ k p1 p2 p3 p, e = .Subscript a (.Slice none none (some (.UnaryOp .USub (.Constant (.int 1) k p1) p2)) p3) p := by
  unfold vRev at h
  split at h
  · cases h; exact ⟨_, _, _, _, _, rfl⟩
  · cases h
theorem vCall_eq {e : Expr} {x : Str} {es : List Expr} (h : vCall e = some (x, es)) : ∃ p' p, e = .Call (.Name x p') es [] p := by
  unfold vCall at h
  split at h
  · cases h; exact ⟨_, _, rfl⟩
  · cases h
theorem vMeth_eq {e o : Expr} {x : Str} {es : List Expr} (h : vMeth e = some (o, x, es)) : ∃ p' p, e = .Call (.Attribute o x p') es [] p ∧ (p'.endLine == p.line) = true := by
  unfold vMeth at h
  split at h
  · split at h
    · rename_i hl; cases h; exact ⟨_, _, rfl, hl⟩
    · cases h
  · cases h
theorem vComp_eq {e elt t it : Expr} {ifs : List Expr} {gs : List Comprehension} {scope : Scope} (h : vComp e = some (elt, t, it, ifs, gs, scope)) : ∃ p, e = .ListComp elt (⟨t, it, ifs, 0⟩ :: gs) scope p := by
  unfold vComp at h
  split at h
  · cases h; exact ⟨_, rfl⟩
  · cases h
def ownN (q : SX) (own : List Nat) : List (Str × Nat) := own.filterMap fun i => (q.N[i]?).map fun x => (x, i)

/-- not starred, no slice, no set: the forms that stand here -/
def okE : Expr → Bool
  | .Starred _ _ | .Slice _ _ _ _ | .Set _ _ _ => false
  | _ => true
mutual
def chkE (q : SX) : C → Expr → Bool
  | .var i, e => match vName e with | some x => nameB q i x | none => false
  | .mv i, e => match vName e with | some x => nameB q i x | none => false
  | .fz c, e => okE e && chkE q c e
  | .gint x i, e => match vName e with | some y => decide (y = x) && (gloB q x && decide ((x, i) ∈ q.gi)) | none => false
  | .int i, e => match vConst e with | some c => decide (c = .int i) | none => false
  | .bl i, e => match vConst e with | some c => decide (c = .bool i) | none => false
  | .non, e => match vConst e with | some c => decide (c = .none) | none => false
  | .str x, e => match vConst e with | some c => decide (c = .str x) | none => false
  | .bin o a b, e => match vBin e with | some (a', o', b') => decide (o' = bop o) && (chkE q a a' && chkE q b b') | none => false
  | .neg a, e => match vUn e with | some (o', a') => decide (o' = .USub) && chkE q a a' | none => false
  | .cmp o a b, e => match vCmp1 e with | some (a', o', b') => decide (o' = cop o) && (chkE q a a' && chkE q b b') | none => false
  | .isK k a, e => match vCmp1 e with
    | some (a', o', b') => (match vConst b' with | some c => decide (o' = .Is) && (constK k c && chkE q a a') | none => false)
    | none => false
  | .notK k a, e => match vCmp1 e with
    | some (a', o', b') => (match vConst b' with | some c => decide (o' = .IsNot) && (constK k c && chkE q a a') | none => false)
    | none => false
  | .chain o p a b c, e => match vCmp2 e with | some (a', o', b', p', c') => decide (o' = cop o) && (decide (p' = cop p) && (chkE q a a' && (chkE q b b' && chkE q c c'))) | none => false
  | .not a, e => match vUn e with | some (o', a') => decide (o' = .Not) && chkE q a a' | none => false
  | .and es, e => match vBool e with | some (o', es') => decide (o' = .And) && (!es'.isEmpty && chkEs q es es') | none => false
  | .or es, e => match vBool e with | some (o', es') => decide (o' = .Or) && (!es'.isEmpty && chkEs q es es') | none => false
  | .ite c a b, e => match vIf e with | some (c', a', b') => chkE q c c' && (chkE q a a' && chkE q b b') | none => false
  | .stup a bs, e => match vStar e with | some (a', bs') => chkE q a a' && chkEs q bs bs' | none => false
  | .tup es, e => match vTup e with | some es' => chkEs q es es' | none => false
  | .otup es, e => match vTup e with | some es' => chkEs q es es' | none => false
  | .lst _ es, e => match vLst e with | some es' => chkEs q es es' | none => false
  | .idx a i, e => match vSub e with | some (a', i') => chkE q a a' && chkE q i i' | none => false
  | .sl a lo hi, e => match vSl e with | some (a', lo', hi') => chkE q a a' && (chkCo q lo lo' && chkCo q hi hi') | none => false
  | .rev a, e => match vRev e with | some a' => chkE q a a' | none => false
  | .call f es, e => match vCall e with | some (x, es') => decide (x = f) && (q.df.contains f && (gloB q x && chkEs q es es')) | none => false
  | .callB f es, e => match vCall e with
    | some (x, es') => decide (x = bfName f) && (gloB q x && (match f with
      | .isI t => (match vIs1 es' with | some (e', y) => decide (y = tyName t) && (gloB q y && chkEs q es [e']) | none => false)
      | .isI2 t u => (match vIs2 es' with | some (e', y, z) => decide (y = tyName t) && (decide (z = tyName u) && (gloB q y && (gloB q z && chkEs q es [e']))) | none => false)
      | .lenSet => (match vSet1 es' with | some (y, e') => decide (y = ("set" : Str)) && (gloB q y && chkEs q es [e']) | none => false)
      | .lotOf => false
      | _ => !es'.isEmpty && chkEs q es es'))
    | none => false
  | .comp own t it ifs gs, e => match vComp e with
    | some (elt, t', it', ifs', gs', scope) => chkI q it t' it' && (blkC q.N q.sc scope (ownN q own) && (decide ((ownN q own).map (·.2) = own) &&
      (t.dead && ((t.slots ++ gs.slots).all own.contains && (okE it' && (decide (ifs.len ≤ 1) && (chkT (q.blk scope) t t' && (chkEs (q.blk scope) ifs ifs' && chkG (q.blk scope) gs gs' elt))))))))
    | none => false
  | .dcomp tk own t it ifs ka va, e => match vDC e with
    | some (kx, vx, t', it', ifs', scope) => chkI q it t' it' && (blkC q.N q.sc scope (ownN q own) && (decide ((ownN q own).map (·.2) = own) &&
      (t.dead && (t.slots.all own.contains && (okE it' && (decide (ifs.len ≤ 1) && (chkT (q.blk scope) t t' && (chkEs (q.blk scope) ifs ifs' && (chkE (q.blk scope) ka kx && chkE (q.blk scope) va vx)))))))))
    | none => false
  | .pop0 r p, e => match vMeth e with | some (o', m, []) => decide (m = ("pop" : Str)) && chkP q r p o' | _ => false
  | .pop r p a, e => match vMeth e with | some (o', m, [a']) => decide (m = ("pop" : Str)) && (chkP q r p o' && chkE q a a') | _ => false
  | .callL f a k js, e => match vCall e with
    | some (x, es') => (match vLam es' with
      | some (a', params, body, scope) => decide (x = f) && (q.df.contains f && (gloB q x && (chkE q a a' && (q.top && ((NdefX.ndefB q.sc scope (q.lfr k) && decide (js.map (fun j => q.N[j]?) = (q.lfr k).map some)) && ((q.lfr k).all q.fn && q.lok k params body scope))))))
      | none => false)
    | none => false
  | .callV i es, e => match vCall e with | some (x, es') => nameB q i x && (!es'.isEmpty && chkEs q es es') | none => false
def chkEs (q : SX) : Cs → List Expr → Bool
  | .nil, [] => true
  | .cons c cs, e :: es => chkE q c e && chkEs q cs es
  | _, _ => false
def chkCo (q : SX) : Co → Option Expr → Bool
  | .no, none => true
  | .so c, some e => chkE q c e
  | _, _ => false
/-- a path: the last subscript first -/
def chkP (q : SX) (r : Nat) : Cs → Expr → Bool
  | .nil, e => match vName e with | some x => nameB q r x | none => false
  | .cons i p, e => match vSub e with | some (o', i') => chkP q r p o' && chkE q i i' | none => false
def chkI (q : SX) : I → Expr → Expr → Bool
  | .pl c, _, e => chkE q c e
  | .enum c, t, e => match vTup t, vCall e with | some _, some (x, [e']) => decide (x = ("enumerate" : Str)) && (gloB q x && chkE q c e') | _, _ => false
  | .zip a b, t, e => match vTup t, vCall e with | some _, some (x, [e', f']) => decide (x = ("zip" : Str)) && (gloB q x && (chkE q a e' && chkE q b f')) | _, _ => false
def chkG (q : SX) : Gs → List Comprehension → Expr → Bool
  | .el _ e, [], e' => chkE q e e'
  | .cons t it ifs gs, ⟨t', it', ifs', a⟩ :: gs', e' => decide (a = 0) && (okE it' && (t.dead && (decide (ifs.len ≤ 1) && (chkI q it t' it' && (chkT q t t' && (chkEs q ifs ifs' && chkG q gs gs' e'))))))
  | _, _, _ => false
/-- a target -/
def chkT (q : SX) : T → Expr → Bool
  | .nm _ i, e => match vName e with | some x => strNameB q i x | none => false
  | .tp ts, e => match vTup e with | some es => chkTs q ts es | none => false
  | .ix r p i, e => match vSub e with | some (o', i') => chkP q r p o' && chkE q i i' | none => false
def chkTs (q : SX) : Ts → List Expr → Bool
  | .nil, [] => true
  | .cons t ts, e :: es => chkT q t e && chkTs q ts es
  | _, _ => false
end
/-! ### statements -/
def vAsg : Stmt → Option (Expr × Expr × Pos)
  | .Assign [t] e p => some (t, e, p)
  | _ => none
def vDrop : Stmt → Option Expr
  | .Expr e _ => some e
  | _ => none
def vIfS : Stmt → Option (Expr × List Stmt × List Stmt)
  | .If c a b _ => some (c, a, b)
  | _ => none
def vFor : Stmt → Option (Expr × Expr × List Stmt)
  | .For t it b [] _ => some (t, it, b)
  | _ => none
def vWhl : Stmt → Option (Expr × List Stmt)
  | .While c b [] _ => some (c, b)
  | _ => none
def vRet : Stmt → Option Expr
  | .Return (some e) _ => some e
  | _ => none
def isRetN : Stmt → Bool
  | .Return none _ => true
  | _ => false
def isBrk : Stmt → Bool
  | .Break _ => true
  | _ => false
def isCnt : Stmt → Bool
  | .Continue _ => true
  | _ => false
def isPass : Stmt → Bool
  | .Pass _ => true
  | _ => false
theorem vAsg_eq {s : Stmt} {t e : Expr} {p : Pos} (h : vAsg s = some (t, e, p)) : s = .Assign [t] e p := by
  unfold vAsg at h
  split at h
  · cases h; rfl
  · cases h
theorem vDrop_eq {s : Stmt} {e : Expr} (h : vDrop s = some e) : ∃ p, s = .Expr e p := by
  unfold vDrop at h
  split at h
  · cases h; exact ⟨_, rfl⟩
  · cases h
theorem vIfS_eq {s : Stmt} {c : Expr} {a b : List Stmt} (h : vIfS s = some (c, a, b)) : ∃ p, s = .If c a b p := by
  unfold vIfS at h
  split at h
  · cases h; exact ⟨_, rfl⟩
  · cases h
theorem vFor_eq {s : Stmt} {t it : Expr} {b : List Stmt} (h : vFor s = some (t, it, b)) : ∃ p, s = .For t it b [] p := by
  unfold vFor at h
  split at h
  · cases h; exact ⟨_, rfl⟩
  · cases h
theorem vWhl_eq {s : Stmt} {c : Expr} {b : List Stmt} (h : vWhl s = some (c, b)) : ∃ p, s = .While c b [] p := by
  unfold vWhl at h
  split at h
  · cases h; exact ⟨_, rfl⟩
  · cases h
theorem vRet_eq {s : Stmt} {e : Expr} (h : vRet s = some e) : ∃ p, s = .Return (some e) p := by
  unfold vRet at h
  split at h
  · cases h; exact ⟨_, rfl⟩
  · cases h
theorem isRetN_eq {s : Stmt} (h : isRetN s = true) : ∃ p, s = .Return none p := by
  unfold isRetN at h
  split at h
  · exact ⟨_, rfl⟩
  · cases h
theorem isBrk_eq {s : Stmt} (h : isBrk s = true) : ∃ p, s = .Break p := by
  unfold isBrk at h
  split at h
  · exact ⟨_, rfl⟩
  · cases h
theorem isCnt_eq {s : Stmt} (h : isCnt s = true) : ∃ p, s = .Continue p := by
  unfold isCnt at h
  split at h
  · exact ⟨_, rfl⟩
  · cases h
theorem isPass_eq {s : Stmt} (h : isPass s = true) : ∃ p, s = .Pass p := by
  unfold isPass at h
  split at h
  · exact ⟨_, rfl⟩
  · cases h
/-- whether a comprehension's value is stored while its block still stands -/
def swB (q : SX) : Expr → Expr → Bool
  | .DictComp _ _ _ s pe, .Name x px => decide (q.sc.names.lookup x = some .local) && ((px.line == pe.line) && !(s.names.any fun (n, k) => n == x && (k == .local || k == .cell)))
  | .ListComp _ _ s pe, .Name x px => decide (q.sc.names.lookup x = some .local) && ((px.line == pe.line) && !(s.names.any fun (n, k) => n == x && (k == .local || k == .cell)))
  | _, _ => false
def notDC : Expr → Bool
  | .SetComp _ _ _ _ => false
  | _ => true
def notLC : Expr → Bool
  | .ListComp _ _ _ _ | .SetComp _ _ _ _ | .DictComp _ _ _ _ _ => false
  | _ => true
def isNm : Expr → Bool
  | .Name _ _ => true
  | _ => false
def isLocNm (q : SX) : Expr → Bool
  | .Name x _ => decide (q.sc.names.lookup x = some .local)
  | _ => false
/-- the stores go from the left -/
def noSw (q : SX) : Expr → Expr → Bool
  | .Tuple ts _ _, .Tuple _ _ _ => ts.any fun t => !isLocNm q t
  | .List _ _, _ => false
  | _, _ => true
def C.isComp : C → Bool
  | .comp _ _ _ _ _ | .dcomp _ _ _ _ _ _ _ => true
  | _ => false
def T.isNm : T → Bool
  | .nm _ _ => true
  | _ => false
def vPar : Stmt → Option (Str × Pos × Str × Pos × Expr × Expr)
  | .Assign [.Tuple [.Name x px, .Name y py] _ _] (.Tuple [a, b] _ _) _ => some (x, px, y, py, a, b)
  | _ => none
theorem vPar_eq {s : Stmt} {x y : Str} {px py : Pos} {a b : Expr} (h : vPar s = some (x, px, y, py, a, b)) : ∃ k1 p1 k2 p2 p, s = .Assign [.Tuple [.Name x px, .Name y py] k1 p1] (.Tuple [a, b] k2 p2) p := by
  unfold vPar at h
  split at h
  · cases h; exact ⟨_, _, _, _, _, rfl⟩
  · cases h
mutual
def chkS (q : SX) : St → Stmt → Bool
  | .asg t e, s => match vAsg s with
    | some (t', e', _) => chkT q t t' && (chkE q e e' && (notDC e' && (if swB q e' t' then t.isNm && e.isComp else noSw q t' e')))
    | none => false
  | .ex e, s => match vDrop s with | some e' => notLC e' && chkE q e e' | none => false
  | .append r p e, s => match vDrop s with
    | some e' => (match vMeth e' with | some (o', m, [a']) => decide (m = ("append" : Str)) && (chkP q r p o' && chkE q e a') | _ => false)
    | none => false
  | .extend r p e, s => match vDrop s with
    | some e' => (match vMeth e' with | some (o', m, [a']) => decide (m = ("extend" : Str)) && (chkP q r p o' && chkE q e a') | _ => false)
    | none => false
  | .remove _ _ _, _ => false
  | .par _ i _ j a b, s => match vPar s with
    | some (x, px, y, py, a', b') => strNameB q i x && (strNameB q j y && (decide (i ≠ j) && (decide (x ≠ y) && (decide (q.sc.names.lookup x = some .local) && (decide (q.sc.names.lookup y = some .local) && ((py.line == px.line) && (!([a', b'].all (foldedForSure 8)) && (!([a', b'].all (constantsAlone 8)) && (chkE q a a' && chkE q b b')))))))))
    | none => false
  | .iff c a b, s => match vIfS s with | some (c', a', b') => chkE q c c' && (chkSs q a a' && chkSs q b b') | none => false
  | .for t it b, s => match vFor s with | some (t', it', b') => okE it' && (chkI q it t' it' && (chkT q t t' && chkSs q b b')) | none => false
  | .whl c b, s => match vWhl s with | some (c', b') => chkE q c c' && chkSs q b b' | none => false
  | .ret e, s => match vRet s with | some e' => chkE q e e' | none => false
  | .retN, s => isRetN s
  | .brk, s => isBrk s
  | .cnt, s => isCnt s
  | .pass, s => isPass s
  | .never, _ => true
def chkSs (q : SX) : Ss → List Stmt → Bool
  | .nil, [] => true
  | .cons s ss, e :: es => chkS q s e && chkSs q ss es
  | _, _ => false
end
end OV
/-! text OVEA -/
set_option maxHeartbeats 4000000
/-! sorted of a tuple of ints (the road of the layer's rule for lists, over a tuple). -/
namespace OV
open PySem PySem.Spec PyProof.Rows L2 Srt SrtO
section
variable {prog : Program} {w : World} {A : Around} {E : Value → Shared → Prop} {s : Shared}
theorem collect_tup {l : Addr} {vs : List Value} {Q : List Value → Shared → Prop} (hl : IsTup s.heap l vs.toArray)
    (h : Q vs { s with heap := (s.heap.push (seqObj "list" #[] 0)).update s.heap.objs.size (Obj.mapSeq (· ++ vs.toArray)) }) (hsz : vs.length ≤ sizeLine) : wpAny (model prog w) A (collect (.ref l)) Q E s := by
  obtain ⟨o, ho, hc, n, hd⟩ := id hl
  have ho' : (s.heap.push (seqObj "list" #[] 0)).get? l = some o := Heap.get?_push_of_some _ ho
  have he : (s.heap.push (seqObj "list" #[] 0)).get? s.heap.objs.size = some (seqObj "list" #[] 0) := Heap.get?_push_size _ rfl
  unfold collect
  refine wpAny_bind (wpAny_runValue (codeAny_builtin entry_proto_collect' ?_))
  refine wpAny_bind (wpAny_newList (wpAny_pure ⟨Code.quiet_builtin _ (by decide +kernel), codeAny_builtin entry_list_iadd' ?_⟩))
  show wpAny _ _ (Builtin.List.listExtendWith (.ref s.heap.objs.size) (.ref l) (.ref s.heap.objs.size)) _ _ _
  unfold Builtin.List.listExtendWith
  refine wpAny_bind (wpAny_typeOf (T := "tuple") ⟨o, ho', hc⟩ ?_)
  have ht : (Value.type "tuple" == Value.type "tuple") = true := by rfl
  rw [if_pos (by rw [ht]; simp)]
  refine wpAny_bind (listItems_at ho' hd (wpAny_bind (listItems_at he rfl ?_)))
  rw [if_neg (by simp)]
  refine wpAny_bind (listUpdate_at he rfl ?_ (Nat.zero_le _) (by show (#[] ++ vs.toArray).size ≤ sizeLine + 1; simp only [Array.size_append, List.size_toArray, List.length_nil]; omega))
  refine wpAny_pure (wpAny_bind (wpAny_load (get?_update_seq he _) ?_))
  show wpAny _ _ (pure ((#[] : Array Value) ++ vs.toArray).toList) Q E _
  rw [show ((#[] : Array Value) ++ vs.toArray).toList = vs by simp]
  exact wpAny_pure h
theorem sorted_ordT {l : Addr} {vs : List Value} {ltv : Value → Value → Bool} {Q : Value → Shared → Prop} (O : Swo ltv) (hl : IsTup s.heap l vs.toArray) (hz : vs.length ≤ sizeLine)
    (hS : 2 ≤ vs.length → ∀ (h₁ : Heap) (a : Addr), h₁.get? a = some (seqObj "list" vs.toArray 0) → (∀ b o, s.heap.get? b = some o → b ≠ a ∧ h₁.get? b = some o) → SortableO prog w A.in1.in1 { s with heap := h₁ } a vs ltv)
    (h : ∀ out : List Value, Srtd ltv out → Stb ltv out vs → Q (.ref (s.heap.objs.size + 1)) { s with heap := sortedAll s.heap vs out.toArray }) : wpAny (model prog w) A (call (.builtin "sorted") [.ref l]) Q E s := by
  generalize hg : (s.heap.push (seqObj "list" #[] 0)).update s.heap.objs.size (Obj.mapSeq (· ++ vs.toArray)) = g
  have hsz : g.objs.size = s.heap.objs.size + 1 := by rw [← hg, Heap.size_update, size_push']
  have hoL : (g.push (seqObj "list" vs.toArray 0)).get? (s.heap.objs.size + 1) = some (seqObj "list" vs.toArray 0) := by rw [← hsz]; exact Heap.get?_push_size _ rfl
  have keep : ∀ b o, s.heap.get? b = some o → b ≠ s.heap.objs.size + 1 ∧ (g.push (seqObj "list" vs.toArray 0)).get? b = some o := fun b o q => by
    have hlt : b < s.heap.objs.size := Heap.lt_size q
    refine ⟨Nat.ne_of_lt (Nat.lt_succ_of_lt hlt), Heap.get?_push_of_some _ ?_⟩
    rw [← hg, Heap.get?_update_ne _ _ _ _ (Nat.ne_of_lt hlt)]
    exact Heap.get?_push_of_some _ q
  refine Calls.call_function_entry kind_sorted plain_sorted entry_sorted (args_sorted1 _) ?_
  unfold Builtin.«sorted»
  refine wpAny_bind (m := checkCount "sorted" 1 1 _) (wpAny_pure (wpAny_bind (collect_tup hl ?_ hz)))
  rw [hg]
  refine wpAny_bind (wpAny_newList ?_ hz)
  show wpAny _ _ _ _ _ { s with heap := g.push (seqObj "list" vs.toArray 0) }
  rw [show ({ s with heap := g } : Shared).heap.objs.size = s.heap.objs.size + 1 from hsz]
  refine wpAny_bind (wpAny_holding (wpAny_call_entry slot_list_sort ⟨_, hoL, rfl⟩ entry_list_sort (list_sort_ord O hoL hz (fun h2 => hS h2 _ _ hoL keep) fun out hs hb => ⟨_, rfl, ?_⟩) (args_list_sort _)))
  refine wpAny_pure ⟨_, rfl, ?_⟩
  have := h out hs hb
  unfold sortedAll at this
  rw [hg] at this
  exact this
end
section
variable {X : Cx}
theorem cr_sortedTI : CallR X (.builtin "sorted") (fun vs H Q => ∃ (a : Addr) (ns : List Int), vs = [V.ref a] ∧ SqT X.K H a (ns.map V.int) ∧ ∀ (ns' : List Int) (p : Addr), ns'.Perm ns → ns'.Pairwise (· ≤ ·) → H p = none → Q (.ref p) (upd H p (.lst (ns'.map V.int)))) := by
  intro pins s σ H vs us Q I r h
  obtain ⟨a, ns, rfl, hs, q⟩ := h
  obtain ⟨its, rv, hl, hz⟩ := I.tuple hs
  rw [Vals.ref1 r]
  have hi := rv.ints
  refine sorted_ordT swo_int hl (by rw [← rv.length]; exact hz) (fun h2 h₁ a' _ _ => ints_sortable hi h2) fun out h1 h2 => ?_
  obtain ⟨k1, k2, k3⟩ := ints_out hi h1 h2
  obtain ⟨ep, he'⟩ := sortedAll_at s.heap its out.toArray
  have hlen : ((out.map iv).map V.int).length ≤ sizeLine := by
    rw [List.length_map, k2.length_eq]
    rw [List.length_map] at hz
    exact hz
  exact ⟨.ref _, upd H (s.heap.objs.size + 1) (.lst ((out.map iv).map V.int)), I.laid (t' := s.toks) (fun _ _ => sortedAll_old) (Nat.le_succ _) ⟨hlen, out, ep, vals_of_ints k1, he'⟩, rfl, q _ _ k2 k3 (I.hok.fresh (Nat.le_succ _))⟩
end
end OV
/-! text OVF -/
namespace OV
open PySem PySem.Spec PyProof.Rows L2
variable [Tabled] [Kn]
/-! Built-in functions. -/
/-- several results -/
inductive RRs (H : Hp) (m : List Addr) (fps : List (List Addr)) : List V → List D → List Addr → Prop
  | nil : RRs H m fps [] [] []
  | cons {v : V} {d : D} {vs : List V} {ds : List D} {f g : List Addr} : RR H m fps v d f → RRs H m fps vs ds g → (∀ a ∈ f, a ∉ g) → RRs H m fps (v :: vs) (d :: ds) (f ++ g)

section
variable {m : List Addr} {fps : List (List Addr)} {σ : L2.St} {H : Hp} {st : S} {x : V} {d : D} {fp : List Addr}
theorem RR.lsV {ds : List D} (R : Rel st m fps σ H) (h : RR H m fps x d fp) (e : OV.lsV st.ce d = some ds) : ∃ a vs, x = .ref a ∧ Rd H a (.lst vs) ∧ RFs H vs ds := by
  have gen : ∀ {es : List D}, OV.seqL st.ce d = some es → es.all OV.isV = true → ∃ a vs, x = .ref a ∧ Rd H a (.lst vs) ∧ RFs H vs es := fun e hv => h.seqLV R e hv
  have old : (match OV.seqL st.ce d with | some ds => if ds.all OV.isV then some ds else none | none => none) = some ds → ∃ a vs, x = .ref a ∧ Rd H a (.lst vs) ∧ RFs H vs ds := fun e => by
    split at e
    · rename_i es he
      split at e
      · rename_i hv; cases e; exact gen he hv
      · cases e
    · cases e
  cases d with
  | lst es =>
    cases e
    obtain ⟨h1, _⟩ := h.ofV rfl
    cases h1 with
    | lst h2 r => exact ⟨_, _, rfl, .inr ⟨_, h2⟩, r⟩
  | new es =>
    cases e
    cases h with
    | tree h _ =>
      cases h with
      | fro z => cases z
      | new h r => exact ⟨_, _, rfl, .inl h, r⟩
  | _ => exact old e
/-- a sequence of frozen things -/
theorem RR.seqVr {ds : List D} (R : Rel st m fps σ H) (h : RR H m fps x d fp) (e : OV.seqV st.ce d = some ds) :
    (∃ a vs, x = .ref a ∧ Rd H a (.lst vs) ∧ RFs H vs ds) ∨ (∃ a vs, x = .ref a ∧ H a = some (.tup vs) ∧ RFs H vs ds ∧ d = .tup ds) ∨ ∃ a lo hi, x = .ref a ∧ H a = some (.rng lo hi) ∧ rgOk lo = true ∧ rgOk hi = true ∧ d = .rng lo hi ∧ ds = (List.range (hi - lo).toNat).map fun (i : Nat) => D.int (lo + i) := by
  have old : (match OV.seqL st.ce d with | some ds => if ds.all OV.isV then some ds else none | none => none) = some ds → ∃ a vs, x = .ref a ∧ Rd H a (.lst vs) ∧ RFs H vs ds := fun e => by
    split at e
    · rename_i es he
      split at e
      · rename_i hv; cases e; exact h.seqLV R he hv
      · cases e
    · cases e
  cases d with
  | lst es =>
    cases e
    obtain ⟨h1, _⟩ := h.ofV rfl
    cases h1 with
    | lst h2 r => exact .inl ⟨_, _, rfl, .inr ⟨_, h2⟩, r⟩
  | new es =>
    cases e
    cases h with
    | tree h _ =>
      cases h with
      | fro z => cases z
      | new h r => exact .inl ⟨_, _, rfl, .inl h, r⟩
  | tup es =>
    cases e
    obtain ⟨a, vs, rfl, h1, h2, _⟩ := h.tupv
    exact .inr (.inl ⟨_, _, rfl, h1, h2, rfl⟩)
  | rng lo hi =>
    cases e
    obtain ⟨h1, _⟩ := h.ofV rfl
    cases h1 with
    | rng h2 b c => exact .inr (.inr ⟨_, _, _, rfl, h2, b, c, rfl, rfl⟩)
  | _ => exact .inl (old e)
theorem RFs.ints (H : Hp) : ∀ (n : Nat) (f : Nat → Int), RFs H ((List.range n).map fun i => V.int (f i)) ((List.range n).map fun i => D.int (f i)) := fun n f => by
  induction (List.range n) with
  | nil => exact .nil
  | cons a l ih => exact .cons (.int _) ih
theorem blsD_vals : ∀ {vs : List V} {ds : List D} {bs : List Bool}, RFs H vs ds → blsD ds = some bs → vs = bs.map V.bl ∧ ds = bs.map D.bl
  | _, _, _, .nil, e => by cases e; exact ⟨rfl, rfl⟩
  | _, d :: ds, is, .cons h r, e => by
    cases d with
    | bl i =>
      simp only [blsD] at e
      split at e
      · rename_i js hj
        cases e
        obtain ⟨e1, e2⟩ := blsD_vals r hj
        cases h
        exact ⟨by rw [e1]; rfl, by rw [e2]; rfl⟩
      · cases e
    | _ => cases e
end

theorem foldl_max_ge : ∀ (l : List Int) (i : Int), i ≤ l.foldl max i ∧ ∀ y ∈ l, y ≤ l.foldl max i
  | [], i => ⟨Int.le_refl _, by simp⟩
  | a :: l, i => by
    obtain ⟨h1, h2⟩ := foldl_max_ge l (max i a)
    refine ⟨by simp only [List.foldl_cons]; omega, fun y hy => ?_⟩
    rcases List.mem_cons.mp hy with e | hy
    · simp only [List.foldl_cons]; omega
    · exact h2 y hy
theorem foldl_max_mem : ∀ (l : List Int) (i : Int), l.foldl max i = i ∨ l.foldl max i ∈ l
  | [], i => .inl rfl
  | a :: l, i => by
    simp only [List.foldl_cons]
    rcases foldl_max_mem l (max i a) with h | h
    · rw [h]
      by_cases q : i ≤ a
      · right; rw [show max i a = a by omega]; exact List.mem_cons_self
      · left; omega
    · right; exact List.mem_cons_of_mem _ h
theorem foldl_min_le : ∀ (l : List Int) (i : Int), l.foldl min i ≤ i ∧ ∀ y ∈ l, l.foldl min i ≤ y
  | [], i => ⟨Int.le_refl _, by simp⟩
  | a :: l, i => by
    obtain ⟨h1, h2⟩ := foldl_min_le l (min i a)
    refine ⟨by simp only [List.foldl_cons]; omega, fun y hy => ?_⟩
    rcases List.mem_cons.mp hy with e | hy
    · simp only [List.foldl_cons]; omega
    · exact h2 y hy
theorem foldl_min_mem : ∀ (l : List Int) (i : Int), l.foldl min i = i ∨ l.foldl min i ∈ l
  | [], i => .inl rfl
  | a :: l, i => by
    simp only [List.foldl_cons]
    rcases foldl_min_mem l (min i a) with h | h
    · rw [h]
      by_cases q : a ≤ i
      · right; rw [show min i a = a by omega]; exact List.mem_cons_self
      · left; omega
    · right; exact List.mem_cons_of_mem _ h
theorem insI_perm (i : Int) : ∀ l : List Int, (insI i l).Perm (i :: l)
  | [] => List.Perm.refl _
  | j :: js => by
    unfold insI
    split
    · exact List.Perm.refl _
    · exact ((insI_perm i js).cons j).trans (List.Perm.swap i j js)
theorem srtI_perm : ∀ l : List Int, (srtI l).Perm l
  | [] => List.Perm.refl _
  | i :: is => (insI_perm i (srtI is)).trans ((srtI_perm is).cons i)
theorem insI_sorted (i : Int) : ∀ l : List Int, l.Pairwise (· ≤ ·) → (insI i l).Pairwise (· ≤ ·)
  | [], _ => by simp [insI]
  | j :: js, h => by
    unfold insI
    rw [List.pairwise_cons] at h
    split
    · rename_i hij
      rw [List.pairwise_cons, List.pairwise_cons]
      exact ⟨fun y hy => by
        rcases List.mem_cons.mp hy with e | hy
        · omega
        · have := h.1 y hy; omega, h⟩
    · rename_i hij
      rw [List.pairwise_cons]
      refine ⟨fun y hy => ?_, insI_sorted i js h.2⟩
      rcases List.mem_cons.mp ((insI_perm i js).mem_iff.mp hy) with e | hy
      · omega
      · exact h.1 y hy
theorem srtI_sorted : ∀ l : List Int, (srtI l).Pairwise (· ≤ ·)
  | [] => .nil
  | i :: is => insI_sorted i _ (srtI_sorted is)
theorem sorted_unique : ∀ {l k : List Int}, l.Perm k → l.Pairwise (· ≤ ·) → k.Pairwise (· ≤ ·) → l = k
  | [], k, p, _, _ => by rw [List.nil_perm] at p; exact p.symm
  | a :: l, [], p, _, _ => by rw [List.perm_nil] at p; exact p
  | a :: l, b :: k, p, hl, hk => by
    rw [List.pairwise_cons] at hl hk
    have e : a = b := by
      have h1 : a ∈ b :: k := p.mem_iff.mp List.mem_cons_self
      have h2 : b ∈ a :: l := p.mem_iff.mpr List.mem_cons_self
      rcases List.mem_cons.mp h1 with e | h1
      · exact e
      · rcases List.mem_cons.mp h2 with e | h2
        · exact e.symm
        · have := hl.1 b h2; have := hk.1 a h1; omega
    subst e
    rw [sorted_unique (List.Perm.cons_inv p) hl.2 hk.2]

def bfVal : BF → Value
  | .len => .builtin "len" | .range1 => .type "range" | .range2 => .type "range" | .list => .type "list" | .tuple => .type "tuple" | .int => .type "int" | .abs => .builtin "abs" | .max2 => .builtin "max" | .min2 => .builtin "min" | .max1 => .builtin "max" | .min1 => .builtin "min"
  | .all => .builtin "all" | .any => .builtin "any" | .sum => .builtin "sum" | .repr => .builtin "repr" | .sorted => .builtin "sorted" | .str => .type "str" | .isI _ => .builtin "isinstance" | .isI2 _ _ => .builtin "isinstance" | .lenSet => .builtin "len" | .lotOf => .type "tuple"
/-- those that are called with what they are given -/
def plainB : BF → Bool
  | .isI _ | .isI2 _ _ | .lenSet | .lotOf => false
  | _ => true

section
variable {X : Cx} {m : List Addr} {fps : List (List Addr)} {σ : L2.St} {H : Hp} {st : S} {x : V} {d : D} {fp : List Addr}
theorem wv_call {f : Value} {xs : List V} {r : List V → Hp → VK → Prop} {Q : VK} (hc : CallR X f r) (h : r xs H Q) : supC X f xs H Q := ⟨r, hc, h⟩
theorem cr_range1 : CallR X (.type "range") (fun vs H Q => ∃ j, vs = [V.int j] ∧ ∀ p, H p = none → Q (.ref p) (upd H p (.rng 0 j))) := by
  intro pins s σ H vs us Q I r h
  obtain ⟨j, rfl, q⟩ := h
  obtain ⟨u, rfl, t, rfl⟩ := vals1 r
  exact call_range_1 ⟨.ref s.heap.objs.size, upd H s.heap.objs.size (.rng 0 j), I.laid (t' := s.toks + 1 + 1) (fun b o e => Heap.get?_push_of_some _ e) (Nat.le_refl _) ⟨_, _, _, Heap.get?_push_size _ rfl⟩, rfl, q _ (I.hok.fresh (Nat.le_refl _))⟩
theorem cr_listR (hc : X.calm = true) : CallR X (.type "list") (fun vs H Q => ∃ a lo hi, vs = [V.ref a] ∧ H a = some (.rng lo hi) ∧ RgOk lo hi ∧ ∀ p, H p = none → Q (.ref p) (upd H p (.lst (rgV lo hi)))) := by
  intro pins s σ H vs us Q I r h
  obtain ⟨a, lo, hi, rfl, ha, ⟨b1, b2, b3, b4, b5⟩, q⟩ := h
  obtain ⟨u, rfl, rfl⟩ := vals1 r
  obtain ⟨t, u, v, hr⟩ := I.hok a _ ha
  refine call_list_range (n := (hi - lo).toNat) (I.ok.hd hc) hr (small_one b1 b2 b3 b4) (rangeSize_nat lo hi) b5 fun h' tk acc c' hk e' hi' => ?_
  refine ⟨.ref s.heap.objs.size, upd H s.heap.objs.size (.lst (rgV lo hi)), I.laid hk (Nat.le_refl _) (show ObjOk X.prog X.w _ _ _ (.lst (rgV lo hi)) from ⟨?_, acc.toList, c', vals_rg hi', ?_⟩), rfl, q _ (I.hok.fresh (Nat.le_refl _))⟩
  · rw [rgV_length, sizeLine_eq]; omega
  · rw [Array.toArray_toList]; exact e'
theorem cr_tupR (hc : X.calm = true) : CallR X (.type "tuple") (fun vs H Q => ∃ a lo hi, vs = [V.ref a] ∧ H a = some (.rng lo hi) ∧ RgOk lo hi ∧ ∀ p, H p = none → Q (.ref p) (upd H p (.tup (rgV lo hi)))) := by
  intro pins s σ H vs us Q I r h
  obtain ⟨a, lo, hi, rfl, ha, ⟨b1, b2, b3, b4, b5⟩, q⟩ := h
  obtain ⟨u, rfl, rfl⟩ := vals1 r
  obtain ⟨t, u, v, hr⟩ := I.hok a _ ha
  refine call_tuple_range (n := (hi - lo).toNat) (I.ok.hd hc) hr (small_one b1 b2 b3 b4) (rangeSize_nat lo hi) b5 fun h' tk acc hk hi' => ?_
  have I2 : Inv X pins σ H { s with heap := h', toks := tk } := I.kept hk
  refine ⟨.ref h'.objs.size, upd H h'.objs.size (.tup (rgV lo hi)), I2.laid (t' := tk) (fun c o e => Heap.get?_push_of_some _ e) (Nat.le_refl _) (show ObjOk X.prog X.w _ _ _ (.tup (rgV lo hi)) from ⟨?_, acc.toList, vals_rg hi', ?_⟩), rfl, q _ (I2.hok.fresh (Nat.le_refl _))⟩
  · rw [rgV_length, sizeLine_eq]; omega
  · rw [Array.toArray_toList]; exact IsTup.new _ _
theorem cr_reprD (hg : X.A.guards = some []) (hu : X.A.units + 65 < cLine) : CallR X (.builtin "repr") (fun vs H Q => ∃ v p, vs = [v] ∧ Dp X.K H v p ∧ p.showable = true ∧ p.depth ≤ 60 ∧ p.hasDict = false ∧ p.shown.length ≤ sizeLine ∧ Q (.str p.shown) H) := by
  intro pins s σ H vs us Q I r h
  obtain ⟨v, p, rfl, hd, hs, hdp, hno, hz, q⟩ := h
  obtain ⟨u, rfl, ru⟩ := vals1 r
  obtain ⟨as, rd⟩ := Dp.reads I p v u hd ru
  cases rd with
  | none => exact PySem.P.repr_of_none ⟨.str _, H, I.tok _, ⟨_, rfl⟩, q⟩
  | bool b => exact PySem.P.repr_of_bool ⟨.str _, H, I.tok _, ⟨_, rfl⟩, q⟩
  | int i t => exact PySem.P.repr_of_int (by simpa [PyData.showable] using hs) ⟨.str _, H, I.tok _, ⟨_, rfl⟩, q⟩
  | str x t => exact PySem.P.repr_of_str ⟨.str _, H, I.tok _, ⟨_, rfl⟩, q⟩ hz
  | list h1 h2 h3 h4 =>
    exact repr_of_reads' (.list h1 h2 h3 h4) hs (fun z => by rw [hno] at z; cases z) hg (by omega) (fun _ _ e => e) (fun h' u tk k => ⟨.str _, H, I.kept k, ⟨_, rfl⟩, q⟩) hz
  | tuple h1 h2 h3 h4 =>
    exact repr_of_reads' (.tuple h1 h2 h3 h4) hs (fun z => by rw [hno] at z; cases z) hg (by omega) (fun _ _ e => e) (fun h' u tk k => ⟨.str _, H, I.kept k, ⟨_, rfl⟩, q⟩) hz
  | dict _ _ _ _ _ => cases hd
mutual
theorem pd_noDict : ∀ {d : D} {p : PyData}, pd d = some p → p.hasDict = false
  | .non, _, e | .bl _, _, e | .int _, _, e | .str _, _, e => by cases e; rfl
  | .tup ds, p, e | .oto ds, p, e => by
    simp only [pd] at e
    split at e
    · rename_i es he; cases e; exact pds_noDict he
    · cases e
  | .lst ds, p, e | .new ds, p, e | .own ds, p, e | .bor _ ds, p, e => by
    simp only [pd] at e
    split at e
    · rename_i es he; cases e; exact pds_noDict he
    · cases e
  | .rng _ _, _, e | .dic _, _, e | .set _, _, e | .ref _, _, e | .clo _ _, _, e => by simp [pd] at e
theorem pds_noDict : ∀ {ds : List D} {ps : List PyData}, pds ds = some ps → PyData.hasDictAll ps = false
  | [], _, e => by cases e; rfl
  | d :: ds, ps, e => by
    simp only [pds] at e
    split at e
    · rename_i a b h1 h2; cases e
      simp only [PyData.hasDictAll, Bool.or_eq_false_iff]
      exact ⟨pd_noDict h1, pds_noDict h2⟩
    · cases e
end
theorem pdc_noDict {ce : Ce} {d : D} {p : PyData} (e : pdc ce d = some p) : p.hasDict = false := by
  cases d with
  | ref n =>
    simp only [pdc] at e
    split at e
    · split at e
      · rename_i he; cases e; exact pds_noDict he
      · cases e
    · cases e
  | _ => exact pd_noDict e

theorem rg_ok {lo hi : Int} (b1 : rgOk lo = true) (b2 : rgOk hi = true) (h : (hi - lo).toNat ≤ line) : RgOk lo hi := by
  unfold rgOk at b1 b2
  simp only [decide_eq_true_eq] at b1 b2
  unfold line at h
  rw [sizeLine_eq] at h
  exact ⟨b1.1, b1.2, b2.1, b2.2, by omega⟩
theorem b_ok {f : BF} {vs : List V} {ds : List D} {fp : List Addr} (hp : plainB f = true) (hcalm : X.calm = true) (hg : X.A.guards = some []) (hu : X.A.units + 65 < cLine) (R : Rel st m fps σ H) (h : opB st.ce f ds = some d) (ra : RRs H m fps vs ds fp) :
    supC X (bfVal f) vs H (PV m fps H [] d) := by
  have one : ∀ {d0 : D} {f : List Addr}, RRs H m fps vs [d0] f → ∃ v g, vs = [v] ∧ RR H m fps v d0 g := fun {d0 f} h => by
    cases h with
    | cons h r _ => cases r; exact ⟨_, _, rfl, h⟩
  have two : ∀ {i j : Int} {f : List Addr}, RRs H m fps vs [.int i, .int j] f → vs = [.int i, .int j] := fun {i j f} h => by
    cases h with
    | cons h r _ =>
      cases r with
      | cons h2 r2 _ =>
        cases r2
        obtain ⟨rfl, _⟩ := h.int; obtain ⟨rfl, _⟩ := h2.int; rfl
  unfold opB at h
  split at h
  -- len
  · rename_i x
    obtain ⟨v, g, rfl, r⟩ := one ra
    obtain ⟨rfl, _⟩ := r.strv
    split at h
    · rename_i hz; cases h
      exact wv_call call_len ⟨_, _, rfl, ⟨hz, rfl⟩, pv_scal (.int _)⟩
    · cases h
  · rename_i d0 _
    obtain ⟨v, g, rfl, r⟩ := one ra
    split at h
    · rename_i es he
      cases h
      have ls : OV.seqL st.ce d0 = some es → supC X (bfVal .len) [v] H (PV m fps H [] (.int es.length)) := fun he => by
        obtain ⟨a, ws, f, rfl, h1, h2⟩ := r.seqL R he
        rw [← h2.length]
        exact wv_call call_len ⟨_, _, rfl, .inl ⟨_, rd_sqL h1, rfl⟩, pv_scal (.int _)⟩
      cases d0 with
      | tup es' =>
        cases he
        obtain ⟨a, ws, rfl, h1, h2, _⟩ := r.tupv
        rw [← h2.length]
        exact wv_call call_len ⟨_, _, rfl, .inr ⟨_, .of h1, rfl⟩, pv_scal (.int _)⟩
      | oto es' =>
        cases he
        cases r with
        | tree r _ =>
          cases r with
          | fro z => cases z
          | oto h1 h2 =>
            rw [← h2.length]
            exact wv_call call_len ⟨_, _, rfl, .inr ⟨_, .of h1, rfl⟩, pv_scal (.int _)⟩
      | _ => exact ls he
    · cases h
  -- range
  · rename_i j
    obtain ⟨v, g, rfl, r⟩ := one ra
    obtain ⟨rfl, _⟩ := r.int
    split at h
    · rename_i hj
      cases h
      exact wv_call cr_range1 ⟨_, rfl, fun p hp => ⟨imm_upd hp, [], .tree (.fro (.rng upd_same (by decide) hj)) (by simp), by simp⟩⟩
    · cases h
  · rename_i i j
    obtain rfl := two ra
    split at h
    · rename_i hj
      cases h
      exact wv_call cr_range2 ⟨_, _, rfl, fun p hp => ⟨imm_upd hp, [], .tree (.fro (.rng upd_same hj.1 hj.2)) (by simp), by simp⟩⟩
    · cases h
  -- list
  · rename_i d0
    obtain ⟨v, g, rfl, r⟩ := one ra
    split at h
    · rename_i es he
      split at h
      · rename_i hz; cases h
        rcases r.seqVr R he with ⟨a, ws, rfl, h1, h2⟩ | ⟨a, ws, rfl, h1, h2, _⟩ | ⟨a, lo, hi, rfl, h1, b1, b2, _, rfl⟩
        · exact wv_call call_list_of ⟨_, _, rfl, .inl (rd_sqL h1), fun p hp => pv_new R hp h2⟩
        · exact wv_call call_list_of ⟨_, _, rfl, .inr (.of h1), fun p hp => pv_new R hp h2⟩
        · exact wv_call (cr_listR hcalm) ⟨_, _, _, rfl, h1, rg_ok b1 b2 (by simpa using hz), fun p hp => pv_new R hp (RFs.ints H _ _)⟩
      · cases h
    · cases h
  -- tuple
  · rename_i d0
    obtain ⟨v, g, rfl, r⟩ := one ra
    split at h
    · rename_i es he
      split at h
      · rename_i hz; cases h
        rcases r.seqVr R he with ⟨a, ws, rfl, h1, h2⟩ | ⟨a, ws, rfl, h1, h2, _⟩ | ⟨a, lo, hi, rfl, h1, b1, b2, _, rfl⟩
        · exact wv_call call_tuple_of ⟨_, _, rfl, .inl ⟨rd_sqL h1, fun p hp => pv_tup hp h2⟩⟩
        · exact wv_call call_tuple_of ⟨_, _, rfl, .inr ⟨.of h1, pv_scal (.tup h1 h2)⟩⟩
        · exact wv_call (cr_tupR hcalm) ⟨_, _, _, rfl, h1, rg_ok b1 b2 (by simpa using hz), fun p hp => pv_tup hp (RFs.ints H _ _)⟩
      · cases h
    · cases h
  -- int, abs, max, min
  · obtain ⟨v, g, rfl, r⟩ := one ra
    obtain ⟨rfl, _⟩ := r.int
    cases h
    exact wv_call call_int1 (.inl ⟨_, rfl, pv_scal (.int _)⟩)
  · obtain ⟨v, g, rfl, r⟩ := one ra
    obtain ⟨rfl, _⟩ := r.bl
    cases h
    exact wv_call call_int1 (.inr ⟨_, rfl, pv_scal (.int _)⟩)
  · obtain ⟨v, g, rfl, r⟩ := one ra
    obtain ⟨rfl, _⟩ := r.int
    cases h
    exact wv_call call_abs ⟨_, rfl, pv_scal (.int _)⟩
  · obtain rfl := two ra
    cases h
    exact wv_call (call_max2 hcalm) ⟨_, _, rfl, pv_scal (.int _)⟩
  · obtain rfl := two ra
    cases h
    exact wv_call (call_min2 hcalm) ⟨_, _, rfl, pv_scal (.int _)⟩
  -- all, any, sum
  · rename_i d0
    obtain ⟨v, g, rfl, r⟩ := one ra
    split at h
    · rename_i es he
      split at h
      · rename_i bs hb; cases h
        obtain ⟨a, ws, rfl, h1, h2⟩ := r.lsV R he
        obtain ⟨rfl, _⟩ := blsD_vals h2 hb
        exact wv_call (cr_all hcalm) ⟨_, bs, rfl, rd_sqL h1, pv_scal (.bl _)⟩
      · cases h
    · cases h
  · rename_i d0
    obtain ⟨v, g, rfl, r⟩ := one ra
    split at h
    · rename_i es he
      split at h
      · rename_i bs hb; cases h
        obtain ⟨a, ws, rfl, h1, h2⟩ := r.lsV R he
        obtain ⟨rfl, _⟩ := blsD_vals h2 hb
        exact wv_call (cr_any hcalm) ⟨_, bs, rfl, rd_sqL h1, pv_scal (.bl _)⟩
      · cases h
    · cases h
  · rename_i d0
    obtain ⟨v, g, rfl, r⟩ := one ra
    split at h
    · rename_i es he
      split at h
      · rename_i is hb; cases h
        obtain ⟨a, ws, rfl, h1, h2⟩ := r.lsV R he
        obtain ⟨rfl, _⟩ := intsD_vals h2 hb
        exact wv_call (cr_sum hcalm) ⟨_, is, rfl, rd_sqL h1, pv_scal (.int _)⟩
      · cases h
    · cases h
  -- max, min of a list
  · rename_i d0
    obtain ⟨v, g, rfl, r⟩ := one ra
    split at h
    · rename_i es he
      split at h
      · rename_i i is hb; cases h
        obtain ⟨a, ws, rfl, h1, h2⟩ := r.lsV R he
        obtain ⟨rfl, _⟩ := intsD_vals h2 hb
        refine wv_call (cr_max hcalm) ⟨_, i :: is, rfl, rd_sqL h1, by simp, fun k hk hle => ?_⟩
        have e : k = is.foldl max i := by
          obtain ⟨g1, g2⟩ := foldl_max_ge is i
          have u1 : k ≤ is.foldl max i := by
            rcases List.mem_cons.mp hk with e | hk
            · omega
            · exact g2 k hk
          have u2 : is.foldl max i ≤ k := by
            rcases foldl_max_mem is i with e | e
            · rw [e]; exact hle i List.mem_cons_self
            · exact hle _ (List.mem_cons_of_mem _ e)
          omega
        rw [e]; exact pv_scal (.int _)
      · cases h
    · cases h
  · rename_i d0
    obtain ⟨v, g, rfl, r⟩ := one ra
    split at h
    · rename_i es he
      split at h
      · rename_i i is hb; cases h
        obtain ⟨a, ws, rfl, h1, h2⟩ := r.lsV R he
        obtain ⟨rfl, _⟩ := intsD_vals h2 hb
        refine wv_call (cr_min hcalm) ⟨_, i :: is, rfl, rd_sqL h1, by simp, fun k hk hle => ?_⟩
        have e : k = is.foldl min i := by
          obtain ⟨g1, g2⟩ := foldl_min_le is i
          have u1 : is.foldl min i ≤ k := by
            rcases List.mem_cons.mp hk with e | hk
            · omega
            · exact g2 k hk
          have u2 : k ≤ is.foldl min i := by
            rcases foldl_min_mem is i with e | e
            · rw [e]; exact hle i List.mem_cons_self
            · exact hle _ (List.mem_cons_of_mem _ e)
          omega
        rw [e]; exact pv_scal (.int _)
      · cases h
    · cases h
  -- sorted
  · rename_i d0
    obtain ⟨v, g, rfl, r⟩ := one ra
    split at h
    · rename_i es he
      split at h
      · rename_i is hb; cases h
        have h1 : ∃ a ws, v = .ref a ∧ RFs H ws es ∧ (SqL X.K H a ws ∨ SqT X.K H a ws) := by
          have hh : OV.lsV st.ce d0 = some es ∨ d0 = .tup es := by
            unfold OV.seqW at he
            split at he
            · cases he; exact .inr rfl
            · exact .inl he
          rcases hh with hl | rfl
          · obtain ⟨a, ws, rfl, h1, h2⟩ := r.lsV R hl
            exact ⟨a, ws, rfl, h2, .inl (rd_sqL h1)⟩
          · obtain ⟨a, ws, rfl, h1, h2, _⟩ := r.tupv
            exact ⟨a, ws, rfl, h2, .inr (.of h1)⟩
        obtain ⟨a, ws, rfl, h2, h1⟩ := h1
        obtain ⟨rfl, _⟩ := intsD_vals h2 hb
        have key : ∀ (ns : List Int) (p : Addr), ns.Perm is → ns.Pairwise (· ≤ ·) → H p = none → PV m fps H [] (.new ((srtI is).map .int)) (.ref p) (upd H p (.lst (ns.map V.int))) := fun ns p hperm hs hp => by
          rw [sorted_unique (hperm.trans (srtI_perm is).symm) hs (srtI_sorted is)]
          refine pv_new R hp ?_
          have z : ∀ l : List Int, RFs H (l.map V.int) (l.map D.int) := fun l => by
            induction l with
            | nil => exact .nil
            | cons a l ih => exact .cons (.int _) ih
          exact z _
        rcases h1 with h1 | h1
        · exact wv_call cr_sortedI ⟨_, is, rfl, h1, key⟩
        · exact wv_call cr_sortedTI ⟨_, is, rfl, h1, key⟩
      · cases h
    · cases h
  -- repr
  · rename_i d0
    obtain ⟨v, g, rfl, r⟩ := one ra
    split at h
    · rename_i p he
      split at h
      · rename_i hc; cases h
        simp only [Bool.and_eq_true, decide_eq_true_eq] at hc
        exact wv_call (cr_reprD hg hu) ⟨_, p, rfl, r.dp R he, hc.1.1, hc.1.2, pdc_noDict he, hc.2, pv_scal (.str _)⟩
      · cases h
    · cases h
  · cases hp
  · cases hp
  · cases hp
  · cases h
end
end OV
/-! text OVG -/
namespace OV
open PySem PySem.Spec PyProof.Rows L2
section
variable [Tabled] [Kn]
/-! Expressions: what the plain machine gives, the model gives. -/
section
variable {X : Cx} {e : Expr} {es : List Expr} {σ : L2.St} {H : Hp}
def WE (X : Cx) (e : Expr) : TE := fun σ H Q => WV X (eval e X.env) σ H Q
theorem pe_we : PE X e (WE X e) := ⟨fun pins s σ H Q I h => h pins s I⟩
theorem we_pe {t : TE} {Q : VK} (h : PE X e t) (q : t σ H Q) : WE X e σ H Q := fun pins s I => h.run pins s σ H Q I q
theorem WE.imp {Q Q' : VK} (h : WE X e σ H Q) (k : ∀ v H', Q v H' → Q' v H') : WE X e σ H Q' := WV.mono h k
def WT (X : Cx) (e : Expr) : TT := fun σ H Q => ∀ (pins : List (Addr × Obj)) (s : Shared), Inv X pins σ H s → wpAny (model X.prog X.w) X.A (isTrue e X.env (eval e X.env)) (TP X pins σ Q) X.xe s
theorem pt_wt : PT X e (WT X e) := ⟨fun pins s σ H Q I h => h pins s I⟩
theorem wt_pt {t : TT} {Q : Bool → Hp → Prop} (h : PT X e t) (q : t σ H Q) : WT X e σ H Q := fun pins s I => h.run pins s σ H Q I q
theorem WT.imp {Q Q' : Bool → Hp → Prop} (h : WT X e σ H Q) (k : ∀ v H', Q v H' → Q' v H') : WT X e σ H Q' := fun pins s I => thn (h pins s I) fun _ _ ⟨H', I', q⟩ => ⟨H', I', k _ H' q⟩
def WA (X : Cx) (es : List Expr) : TA := fun σ H Q => ∀ (pos : Pos) (pins : List (Addr × Obj)) (s : Shared), Inv X pins σ H s → wpAny (model X.prog X.w) X.A (spliced (backTo pos (starEach es X.env))) (AP X pins σ Q) X.xe s
theorem pa_wa : PA X es (WA X es) := ⟨fun pos pins s σ H Q I h => h pos pins s I⟩
theorem wa_pa {t : TA} {Q : List V → Hp → Prop} (h : PA X es t) (q : t σ H Q) : WA X es σ H Q := fun pos pins s I => h.run pos pins s σ H Q I q
end

/-! ### contexts -/
/-- the caught cells hold what they are known to hold; no frame of these is theirs -/
def KnAt (s : Shared) (H : Hp) (fs : List Addr) : Prop := ∀ c v, Kn.kn c v → (∃ u, RelV v u ∧ s.heap.IsCell c (some u)) ∧ H c = none ∧ c ∉ fs
/-- what a def promises, where nothing is being shown -/
structure FnG (P : Program) (w : World) (K : PySem.W.Frag) (mg : Str → Option Value) (base : Heap) (k : Nat) (f : Addr) (fd : FuncData) (ps : List Str) (sp : Sp) : Prop where
  len : ∀ vs H Q E, sp vs H Q E → vs.length = ps.length
  run : ∀ (A : Around) (outer : List Env) (s : Shared) (H : Hp) (args : Args) (us : List Value) (vs : List V) (Q : VK) (E : XK), Room k A → A.guards = some [] → Env0 P w K mg base A outer s H → KnAt s H (frs outer) → BindsTo s fd args (ps.zip us) → Vals vs us → sp vs H Q E →
    codeAny (model P w) A (.call (.ref f) args) (CR (L2.CX P w) outer P w H s Q E) s
/-- what lies in the cells alone -/
def RelC (ce : Ce) (m : List Addr) (fps : List (List Addr)) (H : Hp) : Prop := Rel ⟨[], ce⟩ m fps [] H
/-- arguments: frozen things and cells -/
inductive RTs (H : Hp) (m : List Addr) : List V → List D → Prop
  | nil : RTs H m [] []
  | cons {v : V} {d : D} {vs : List V} {ds : List D} : RT H m v d → RTs H m vs ds → RTs H m (v :: vs) (d :: ds)
/-- how an exception lies behind it: its class by its name, what it says -/
def excK (mg : Str → Option Value) (c : Str) (a : D) : XK := fun _ _ _ => False
def isClo : D → Bool
  | .clo _ _ => true
  | _ => false
/-- an end, by the plain machine's run -/
def spR (mg : Str → Option Value) (r : FR) (lk : List Nat) (m : List Addr) (fps : List (List Addr)) (H : Hp) (Q : VK) (E : XK) : Prop := r ≠ .no ∧
  (∀ d ce', r = .ok d ce' → ∀ v H' fps' fp, RelC ce' m fps' H' → RR H' m fps' v d fp → isClo d = false → Grd lk fps fps' H H' → NF fp fps H → Q v H') ∧
  (∀ c a ce', r = .ex c a ce' → ∀ u d H', excK mg c a u d H' → E u d H')
/-- a def's promise -/
def spF (mg : Str → Option Value) (κ : K) (f : Str) : Sp := fun vs H Q E => ∃ ds lk ce m fps, RelC ce m fps H ∧ RTs H m vs ds ∧ spR mg (κ.fn f ds lk ce) lk m fps H Q E
/-- a lambda's -/
structure LaG (P : Program) (w : World) (K : PySem.W.Frag) (mg : Str → Option Value) (base : Heap) (n : Nat) (κ : OV.K) : Prop where
  run : ∀ (A : Around) (outer : List Env) (s : Shared) (H : Hp) (a : Addr) (us : List Value) (vs : List V) (Q : VK) (E : XK) (j : Nat) (cs ds : List D) (lk : List Nat) (ce : Ce) (m : List Addr) (fps : List (List Addr)), Room n A → A.guards = some [] → Env0 P w K mg base A outer s H → KnAt s H (frs outer) →
    Cl H (.ref a) (.clo j cs) → Vals vs us → RelC ce m fps H → RTs H m vs ds → spR mg (κ.la j cs ds lk ce) lk m fps H Q E → codeAny (model P w) A (.call (.ref a) ⟨us, []⟩) (CR (L2.CX P w) outer P w H s Q E) s
end
/-- whatever is caught -/
def FnTab [Tabled] (P : Program) (w : World) (K : PySem.W.Frag) (mg : Str → Option Value) (base : Heap) (n : Nat) (κ : OV.K) : Prop :=
  ∀ f ds lk ce, κ.fn f ds lk ce ≠ .no → ∃ fa fd ps, mg f = some (.ref fa) ∧ PySem.W.keepIn K (.ref fa) = true ∧ Binds K fd ps [] ∧ ds.length = ps.length ∧ ∀ kn : Kn, FnG P w K mg base n fa fd ps fun vs H Q E => vs.length = ps.length ∧ spF mg κ f vs H Q E
def LaTab [Tabled] (P : Program) (w : World) (K : PySem.W.Frag) (mg : Str → Option Value) (base : Heap) (n : Nat) (κ : OV.K) : Prop := ∀ kn : Kn, LaG P w K mg base n κ
section
variable [Tabled] [Kn]
/-- lambdas may be made -/
structure LamCx (X : Cx) (q : SX) : Prop where
  at_ : ∃ c P, LamX.TabB X.base X.mg c P ∧ X.env.code = .ref c ∧ (P, X.env.qual ++ "<lambda>") ∈ Tabled.T ∧ ∀ p ∈ Tabled.T, p.1 = P → p.2 = X.env.qual ++ "<lambda>"
  ok : ∀ k params body scope, q.lok k params body scope = true → Tabled.ok k ⟨params, body, scope, X.env.qual ++ "<lambda>", q.lfr k⟩ ∧ params.defaults = [] ∧ params.kw_defaults = [] ∧ ∀ y ∈ scope.names, y.2 = .free → y.1 ∈ q.lfr k
structure Cxt (X : Cx) (q : SX) (κ : K) (n : Nat) : Prop where
  N : X.N = q.N
  nd : q.N.Nodup
  sc : X.env.scope = q.sc
  fn : X.fn = q.fn
  calm : X.calm = true
  room : Room n X.A
  guards : X.A.guards = some []
  blt : ∀ x ∈ bfNames, X.mg x = none
  tab : FnTab X.prog X.w X.K X.mg X.base n κ
  ltab : LaTab X.prog X.w X.K X.mg X.base n κ
  kn : KnAt X.s_0 X.H_0 X.fs
  knx : ∀ c v, Kn.kn c v → c ∉ X.ex
  prog : X.prog = Tabled.P
  w : X.w = Tabled.w
  lam : q.top = true → LamCx X q
  gis : ∀ x i, (x, i) ∈ q.gi → ∃ t, X.mg x = some (.int i t)
  dfs : ∀ f, q.df.contains f = true → ∃ fa, X.mg f = some (.ref fa) ∧ PySem.W.keepIn X.K (.ref fa) = true
theorem Cxt.hu {X : Cx} {q : SX} {κ : K} {n : Nat} (c : Cxt X q κ n) : X.A.units + 65 < cLine := by have := c.room.un; omega

/-! ### what stands behind -/
/-- an exception may leave -/
def XOK (X : Cx) (c : Str) (a : D) : Prop := Passes (L2.CX X.prog X.w) X (excK X.mg c a)
def XO {α : Type} (X : Cx) (r : Res α) : Prop := match r with
  | .ok _ _ => True
  | .ex c a _ => XOK X c a
  | .no => False
theorem XO.fst {α β : Type} {X : Cx} {r : Res α} {f : α → S → Res β} (h : XO X (r.bind f)) : XO X r := by
  cases r with
  | ok _ _ => trivial
  | ex _ _ _ => exact h
  | no => exact h
theorem XO.snd {α β : Type} {X : Cx} {r : Res α} {f : α → S → Res β} {a : α} {s : S} (h : XO X (r.bind f)) (e : r = .ok a s) : XO X (f a s) := by
  rw [e] at h; exact h
theorem XO.of {α : Type} {X : Cx} {o : Option α} {s : S} (h : XO X (Res.of o s)) : ∃ a, o = some a := by
  cases o with
  | none => exact h.elim
  | some a => exact ⟨a, rfl⟩
def WiE (lk : List Nat) (r : Res D) (m : List Addr) (fps : List (List Addr)) (σ : L2.St) (H : Hp) : VK := fun v H' => ∃ d st', r = .ok d st' ∧ PostE lk st' m fps σ H d v H'
def WiT (lk : List Nat) (r : Res Bool) (m : List Addr) (fps : List (List Addr)) (σ : L2.St) (H : Hp) : Bool → Hp → Prop := fun c H' => ∃ st' fps', r = .ok c st' ∧ Rel st' m fps' σ H' ∧ Grd lk fps fps' H H'
def PostA (lk : List Nat) (st' : S) (m : List Addr) (fps : List (List Addr)) (σ : L2.St) (H : Hp) (ds : List D) : List V → Hp → Prop := fun vs H' => ∃ fps' fp, Rel st' m fps' σ H' ∧ RRs H' m fps' vs ds fp ∧ Grd lk fps fps' H H' ∧ NF fp fps H
def WiA (lk : List Nat) (r : Res (List D)) (m : List Addr) (fps : List (List Addr)) (σ : L2.St) (H : Hp) : List V → Hp → Prop := fun vs H' => ∃ ds st', r = .ok ds st' ∧ PostA lk st' m fps σ H ds vs H'
def SE (X : Cx) (e : Expr) (lk : List Nat) (f : S → Res D) : Prop := ∀ st m fps σ H, XO X (f st) → Rel st m fps σ H → WE X e σ H (WiE lk (f st) m fps σ H)
def STst (X : Cx) (e : Expr) (lk : List Nat) (f : S → Res Bool) : Prop := ∀ st m fps σ H, XO X (f st) → Rel st m fps σ H → WT X e σ H (WiT lk (f st) m fps σ H)
def SA (X : Cx) (es : List Expr) (lk : List Nat) (f : S → Res (List D)) : Prop := ∀ st m fps σ H, XO X (f st) → Rel st m fps σ H → WA X es σ H (WiA lk (f st) m fps σ H)

theorem Rel.len_le {st st' : S} {m : List Addr} {fps fps' : List (List Addr)} {σ σ' : L2.St} {H H' : Hp} (R : Rel st m fps σ H) (R' : Rel st' m fps' σ' H') : fps.length ≤ fps'.length := by
  have := R.mlen; have := R.flen; have := R'.mlen; have := R'.flen; omega
theorem RRs.keep {lk : List Nat} {st : S} {m : List Addr} {fps fps' : List (List Addr)} {σ : L2.St} {H H' : Hp} : ∀ {vs : List V} {ds : List D} {fp : List Addr}, RRs H m fps vs ds fp → Rel st m fps σ H → Grd lk fps fps' H H' → (∀ d ∈ ds, ∀ n ∈ lkO d, n ∈ lk) → RRs H' m fps' vs ds fp
  | _, _, _, .nil, _, _, _ => .nil
  | _, _, _, .cons h r n, R, g, k => .cons (h.keep R g (k _ List.mem_cons_self)) (RRs.keep r R g fun d hd => k d (List.mem_cons_of_mem _ hd)) n
theorem bind_ok {α β : Type} {r : Res α} {f : α → S → Res β} {b : β} {st' : S} (h : r.bind f = .ok b st') : ∃ a st1, r = .ok a st1 ∧ f a st1 = .ok b st' := by
  cases r with
  | ok a s => exact ⟨a, s, rfl, h⟩
  | ex c a s => cases h
  | no => cases h
theorem of_ok {α : Type} {o : Option α} {s st' : S} {a : α} (h : Res.of o s = .ok a st') : o = some a ∧ s = st' := by
  cases o with
  | none => cases h
  | some b => cases h; exact ⟨rfl, rfl⟩
/-- what stands behind two expressions, one behind the other -/
theorem post2 {lk : List Nat} {st st1 st2 : S} {m : List Addr} {fps : List (List Addr)} {σ : L2.St} {H H1 H2 : Hp} {d1 d2 : D} {x y : V} (R : Rel st m fps σ H) (p1 : PostE lk st1 m fps σ H d1 x H1)
    (p2 : ∀ fps1, Rel st1 m fps1 σ H1 → PostE (lkO d1 ++ lk) st2 m fps1 σ H1 d2 y H2) :
    ∃ fps2 f1 f2, Rel st2 m fps2 σ H2 ∧ RR H2 m fps2 x d1 f1 ∧ RR H2 m fps2 y d2 f2 ∧ (∀ a ∈ f1, a ∉ f2) ∧ Grd lk fps fps2 H H2 ∧ NF (f1 ++ f2) fps H := by
  obtain ⟨fps1, f1, R1, r1, g1, n1⟩ := p1
  obtain ⟨fps2, f2, R2, r2, g2, n2⟩ := p2 fps1 R1
  exact ⟨fps2, f1, f2, R2, r1.keep R1 g2 (fun n hn => List.mem_append_left _ hn), r2, r1.apart n2, g1.trans g2 R1 (fun n hn => List.mem_append_right _ hn) (R.len_le R1), n1.append (n2.trans g1)⟩

section
variable {X : Cx} {q : SX} {κ : K} {n : Nat} {lk : List Nat}
/-! ### single forms -/
theorem and3 {a b : Bool} (h : (a && b) = true) : a = true ∧ b = true := by simpa using h
theorem vis_of {x : Str} (c : Cxt X q κ n) (h : visB q.sc x = true) : Vis X.env.scope x := by
  rw [c.sc]
  unfold visB at h
  split at h
  · rename_i e; exact .inl e
  · rename_i e; exact .inr (.inl e)
  · rename_i e; exact .inr (.inr e)
  · cases h
theorem se_name {i : Nat} {x : Str} {p : Pos} (c : Cxt X q κ n) (h : nameB q i x = true) {st : S} {m : List Addr} {fps : List (List Addr)} {σ : L2.St} {H : Hp} {d : D} (R : Rel st m fps σ H) (e : st.sl[i]? = some (some d)) :
    WE X (.Name x p) σ H (fun v H' => H' = H ∧ RT H m v d) := by
  unfold nameB at h
  simp only [Bool.and_eq_true, decide_eq_true_eq, Bool.not_eq_true'] at h
  obtain ⟨⟨⟨h1, h2⟩, h3⟩, h4⟩ := h
  obtain ⟨v, e1, e2⟩ := R.sl i d e
  exact we_pe (pe_var (i := i) (by rw [c.N]; exact h1) (vis_of c h2) h3 h4) ⟨v, e1, rfl, e2⟩
theorem se_const {st : S} {m : List Addr} {fps : List (List Addr)} {σ : L2.St} {H : Hp} {v : V} {d : D} (R : Rel st m fps σ H) (r : RF H v d) : PostE lk st m fps σ H d v H :=
  ⟨fps, [], R, .tree (.fro r) (by simp), Grd.refl, NF.nil⟩
theorem chk_okE {c : C} {e : Expr} (h : chkE q c e = true) : okE e = true := by
  cases e <;> first | rfl | skip
  all_goals
    exfalso
    cases c <;> (revert h; simp [chkE, okE, vName, vConst, vBin, vUn, vCmp1, vCmp2, vBool, vIf, vTup, vStar, vLst, vSub, vSl, vRev, vCall, vMeth, vComp, vDC]; done)
end
end
end OV
/-! text OVH -/
namespace OV
open PySem PySem.Spec PyProof.Rows L2
variable [Tabled] [Kn]
/-! Each form of an expression, from its parts. -/
section
variable {X : Cx} {q : SX} {κ : K} {n : Nat} {lk : List Nat} {p : Pos}

/-- two parts, then an operation that leaves the cells -/
theorem we2 {a b : Expr} {e : Expr} {fa : S → Res D} {fb : List Nat → S → Res D} {g : D → D → Ce → Option D} {m : List Addr} {fps : List (List Addr)} {σ : L2.St} {H : Hp} {st : S} {r : R2} (hop : ∀ {Q : VK}, WE X a σ H (fun (x : V) (H1 : Hp) => WE X b σ H1 (fun (y : V) (H2 : Hp) => r x y H2 Q)) → WE X e σ H Q) (hm : ∀ {x y : V} {H : Hp} {Q Q' : VK}, r x y H Q → (∀ v H', Q v H' → Q' v H') → r x y H Q')
    (ha : SE X a lk fa) (hb : ∀ l, SE X b l (fb l)) (hx : XO X ((fa st).bind fun x st1 => (fb (lkO x ++ lk) st1).bind fun y st2 => Res.of (g x y st2.ce) st2)) (R : Rel st m fps σ H)
    (hr : ∀ st2 fps2 f1 f2 x y d1 d2 d H2, g d1 d2 st2.ce = some d → Rel st2 m fps2 σ H2 → RR H2 m fps2 x d1 f1 → RR H2 m fps2 y d2 f2 → r x y H2 (PV m fps2 H2 (f1 ++ f2) d)) : WE X e σ H (WiE lk ((fa st).bind fun x st1 => (fb (lkO x ++ lk) st1).bind fun y st2 => Res.of (g x y st2.ce) st2) m fps σ H) := by
  refine hop (WE.imp (ha st m fps σ H hx.fst R) fun x H1 ⟨d1, st1, h1, p1⟩ => ?_)
  obtain ⟨fps1, f1, R1, r1, g1, n1⟩ := id p1.ex
  have hx1 := hx.snd h1
  refine WE.imp (hb _ st1 m fps1 σ H1 hx1.fst R1) fun y H2 ⟨d2, st2, h2, p2⟩ => ?_
  obtain ⟨fps2, f2, R2, r2, g2, n2⟩ := p2
  obtain ⟨d, h3⟩ := (hx1.snd h2).of
  have r1' := r1.keep R1 g2 fun n hn => List.mem_append_left _ hn
  refine hm (hr st2 fps2 f1 f2 x y d1 d2 d H2 h3 R2 r1' r2) fun v H' pv => ?_
  exact ⟨d, st2, by rw [h1, Res.bind_ok, h2, Res.bind_ok, h3, Res.of_some], pv.post R2 (g1.trans g2 R1 (fun n hn => List.mem_append_right _ hn) (R.len_le R1)) (n1.append (n2.trans g1)) (R.len_le R2)⟩
theorem supR.imp {f : Value → Value → Sem Value} {x y : V} {H : Hp} {Q Q' : VK} (h : supR X f x y H Q) (k : ∀ v H', Q v H' → Q' v H') : supR X f x y H Q' := by
  obtain ⟨r, ho, h⟩ := h
  refine ⟨fun x' y' H' Q'' => ∃ Q0 : VK, r x' y' H' Q0 ∧ ∀ v H', Q0 v H' → Q'' v H', ?_, Q, h, k⟩
  intro pins s σ H x y v u Q I rx ry ⟨Q0, h0, k0⟩
  exact thn (ho pins s σ H x y v u Q0 I rx ry h0) fun _ _ ⟨v, H', I', r', q⟩ => ⟨v, H', I', r', k0 v H' q⟩
theorem supI.imp {x y : V} {H : Hp} {Q Q' : VK} (h : supI X x y H Q) (k : ∀ v H', Q v H' → Q' v H') : supI X x y H Q' := by
  obtain ⟨r, ho, h⟩ := h
  refine ⟨fun x' y' H' Q'' => ∃ Q0 : VK, r x' y' H' Q0 ∧ ∀ v H', Q0 v H' → Q'' v H', ?_, Q, h, k⟩
  intro value slice pins s σ H x y v u Q I rx ry ⟨Q0, h0, k0⟩ hs
  exact thn (ho value slice pins s σ H x y v u Q0 I rx ry h0 hs) fun _ _ ⟨v, H', I', r', q⟩ => ⟨v, H', I', r', k0 v H' q⟩
theorem supC.imp {f : Value} {xs : List V} {H : Hp} {Q Q' : VK} (h : supC X f xs H Q) (k : ∀ v H', Q v H' → Q' v H') : supC X f xs H Q' := by
  obtain ⟨r, ho, h⟩ := h
  refine ⟨fun x' H' Q'' => ∃ Q0 : VK, r x' H' Q0 ∧ ∀ v H', Q0 v H' → Q'' v H', ?_, Q, h, k⟩
  intro pins s σ H xs us Q I rx ⟨Q0, h0, k0⟩
  exact thn (ho pins s σ H xs us Q0 I rx h0) fun _ _ ⟨v, H', I', r', q⟩ => ⟨v, H', I', r', k0 v H' q⟩
theorem supS.imp {x : V} {lo hi : Option Int} {H : Hp} {Q Q' : VK} (h : supS X x lo hi H Q) (k : ∀ v H', Q v H' → Q' v H') : supS X x lo hi H Q' := by
  obtain ⟨r, ho, h⟩ := h
  refine ⟨fun x' lo hi H' Q'' => ∃ Q0 : VK, r x' lo hi H' Q0 ∧ ∀ v H', Q0 v H' → Q'' v H', ?_, Q, h, k⟩
  intro pins s σ H x v vl vu lo hi sl Q I rx hs pl pu ⟨Q0, h0, k0⟩
  obtain ⟨T, id, h1, h2, h3⟩ := ho pins s σ H x v vl vu lo hi sl Q0 I rx hs pl pu h0
  exact ⟨T, id, h1, h2, thn h3 fun _ _ ⟨v, H', I', r', q⟩ => ⟨v, H', I', r', k0 v H' q⟩⟩

theorem se_bin {o : BO} {a b : Expr} {fa : S → Res D} {fb : List Nat → S → Res D} (ha : SE X a lk fa) (hb : ∀ l, SE X b l (fb l)) :
    SE X (.BinOp a (bop o) b p) lk (fun st => (fa st).bind fun x st1 => (fb (lkO x ++ lk) st1).bind fun y st2 => Res.of (opBin st2.ce o x y) st2) := by
  intro st m fps σ H hx R
  exact we2 (r := supR X (binaryOp (bop o))) (g := fun x y ce => opBin ce o x y) (fun h => we_pe (pe_op sup_op pe_we pe_we) h) supR.imp ha hb hx R fun st2 fps2 f1 f2 x y d1 d2 d H2 h3 R2 r1 r2 => bin_ok R2 h3 r1 r2
theorem not_marks {b : Expr} (h : okE b = true) (op : CmpOp) : behindInMarks op b = false := by cases b <;> first | rfl | cases h
theorem se_cmp {o : CO} {a b : Expr} {fa : S → Res D} {fb : List Nat → S → Res D} (c : Cxt X q κ n) (hok : okE b = true) (ha : SE X a lk fa) (hb : ∀ l, SE X b l (fb l)) :
    SE X (.Compare a [cop o] [b] p) lk (fun st => (fa st).bind fun x st1 => (fb (lkO x ++ lk) st1).bind fun y st2 => Res.of ((opCmp st2.ce o x y).map D.bl) st2) := by
  intro st m fps σ H hx R
  refine we2 (r := supR X (compareOp (cop o))) (g := fun x y ce => (opCmp ce o x y).map D.bl) (fun h => we_pe (pe_cmpR sup_op pe_we pe_we (not_marks hok _)) h) supR.imp ha hb hx R fun st2 fps2 f1 f2 x y d1 d2 d H2 h3 R2 r1 r2 => ?_
  cases h4 : opCmp st2.ce o d1 d2 with
  | none => rw [h4] at h3; cases h3
  | some c' => rw [h4] at h3; cases h3; exact cmp_ok c.hu R2 h4 r1 r2
theorem boolR_ok {r : Res D} {b : Bool} {s : S} (h : r = .ok (.bl b) s) : boolR r = .ok b s := by rw [h]; rfl
theorem boolR_inv {X : Cx} {r : Res D} (h : XO X (boolR r)) {d : D} {s : S} (e : r = .ok d s) : ∃ b, d = .bl b := by
  rw [e] at h
  cases d <;> first | exact ⟨_, rfl⟩ | exact h.elim
theorem st_cmp {o : CO} {a b : Expr} {fa : S → Res D} {fb : List Nat → S → Res D} (c : Cxt X q κ n) (hok : okE b = true) (ha : SE X a lk fa) (hb : ∀ l, SE X b l (fb l)) :
    STst X (.Compare a [cop o] [b] p) lk (fun st => boolR ((fa st).bind fun x st1 => (fb (lkO x ++ lk) st1).bind fun y st2 => Res.of ((opCmp st2.ce o x y).map D.bl) st2)) := by
  intro st m fps σ H hx0 R
  have hx := XO.fst hx0
  refine wt_pt (pt_cmpR sup_op pe_we pe_we (not_marks hok _)) ?_
  refine WE.imp (ha st m fps σ H hx.fst R) fun x H1 ⟨d1, st1, h1, p1⟩ => ?_
  obtain ⟨fps1, f1, R1, r1, g1, n1⟩ := id p1.ex
  have hx1 := hx.snd h1
  refine WE.imp (hb _ st1 m fps1 σ H1 hx1.fst R1) fun y H2 ⟨d2, st2, h2, p2⟩ => ?_
  obtain ⟨fps2, f2, R2, r2, g2, n2⟩ := p2
  obtain ⟨d, h3⟩ := (hx1.snd h2).of
  have r1' := r1.keep R1 g2 fun n hn => List.mem_append_left _ hn
  cases h4 : opCmp st2.ce o d1 d2 with
  | none => rw [h4] at h3; cases h3
  | some c' =>
    refine (cmp_ok c.hu R2 h4 r1' r2).imp fun v H' pv => ?_
    obtain ⟨fps3, f3, R3, r3, g3, n3⟩ := (pv.post (lk := lk) R2 (g1.trans g2 R1 (fun n hn => List.mem_append_right _ hn) (R.len_le R1)) (n1.append (n2.trans g1)) (R.len_le R2)).ex
    obtain ⟨rfl, _⟩ := r3.bl
    exact ⟨_, rfl, st2, fps3, boolR_ok (by rw [h1, Res.bind_ok, h2, Res.bind_ok, h4]; rfl), R3, g3⟩
theorem constK_eq {k : Option Bool} {c : Const} (h : constK k c = true) : c = kC k := of_decide_eq_true h
theorem pe_constK {k : Option Bool} {j : Nat} {p' : Pos} : PE X (.Constant (kC k) j p') (tC (kV1 k)) := by
  cases k with
  | none => exact pe_non
  | some b => exact pe_bl
theorem se_is {k : Option Bool} {c : Const} {j : Nat} {p' : Pos} {a : Expr} {fa : S → Res D} (hc : constK k c = true) (ha : SE X a lk fa) :
    SE X (.Compare a [.Is] [.Constant c j p'] p) lk (fun st => (fa st).bind fun x st1 => Res.of ((isK k x).map D.bl) st1) := by
  intro st m fps σ H hx R
  rw [constK_eq hc]
  refine we_pe (pe_cmpR (r := supR X (compareOp .Is)) sup_op pe_we pe_constK (not_marks rfl _)) (WE.imp (ha st m fps σ H hx.fst R) fun x H1 ⟨d1, st1, h1, p1⟩ => ?_)
  obtain ⟨fps1, f1, R1, r1, g1, n1⟩ := p1
  obtain ⟨d, h3⟩ := (hx.snd h1).of
  cases h4 : isK k d1 with
  | none => rw [h4] at h3; cases h3
  | some c' => exact (isK_ok h4 r1).1.imp fun v H' pv => ⟨_, st1, by dsimp only; rw [h1, Res.bind_ok, h4]; rfl, pv.post R1 g1 n1 (R.len_le R1)⟩
theorem st_is {k : Option Bool} {c : Const} {j : Nat} {p' : Pos} {a : Expr} {fa : S → Res D} (hc : constK k c = true) (ha : SE X a lk fa) :
    STst X (.Compare a [.Is] [.Constant c j p'] p) lk (fun st => boolR ((fa st).bind fun x st1 => Res.of ((isK k x).map D.bl) st1)) := by
  intro st m fps σ H hx0 R
  have hx := XO.fst hx0
  rw [constK_eq hc]
  refine wt_pt (pt_cmpR (r := supR X (compareOp .Is)) sup_op pe_we pe_constK (not_marks rfl _)) (WE.imp (ha st m fps σ H hx.fst R) fun x H1 ⟨d1, st1, h1, p1⟩ => ?_)
  obtain ⟨fps1, f1, R1, r1, g1, n1⟩ := p1
  obtain ⟨d, h3⟩ := (hx.snd h1).of
  cases h4 : isK k d1 with
  | none => rw [h4] at h3; cases h3
  | some c' =>
    refine (isK_ok h4 r1).1.imp fun v H' pv => ?_
    obtain ⟨fps3, f3, R3, r3, g3, n3⟩ := (pv.post (lk := lk) R1 g1 n1 (R.len_le R1)).ex
    obtain ⟨rfl, _⟩ := r3.bl
    exact ⟨_, rfl, st1, fps3, boolR_ok (by rw [h1, Res.bind_ok, h4]; rfl), R3, g3⟩
theorem se_isnot {k : Option Bool} {c : Const} {j : Nat} {p' : Pos} {a : Expr} {fa : S → Res D} (hc : constK k c = true) (ha : SE X a lk fa) :
    SE X (.Compare a [.IsNot] [.Constant c j p'] p) lk (fun st => (fa st).bind fun x st1 => Res.of ((isK k x).map fun b => D.bl (!b)) st1) := by
  intro st m fps σ H hx R
  rw [constK_eq hc]
  refine we_pe (pe_cmpR (r := supR X (compareOp .IsNot)) sup_op pe_we pe_constK (not_marks rfl _)) (WE.imp (ha st m fps σ H hx.fst R) fun x H1 ⟨d1, st1, h1, p1⟩ => ?_)
  obtain ⟨fps1, f1, R1, r1, g1, n1⟩ := p1
  obtain ⟨d, h3⟩ := (hx.snd h1).of
  cases h4 : isK k d1 with
  | none => rw [h4] at h3; cases h3
  | some c' => exact (isK_ok h4 r1).2.imp fun v H' pv => ⟨_, st1, by dsimp only; rw [h1, Res.bind_ok, h4]; rfl, pv.post R1 g1 n1 (R.len_le R1)⟩
theorem st_isnot {k : Option Bool} {c : Const} {j : Nat} {p' : Pos} {a : Expr} {fa : S → Res D} (hc : constK k c = true) (ha : SE X a lk fa) :
    STst X (.Compare a [.IsNot] [.Constant c j p'] p) lk (fun st => boolR ((fa st).bind fun x st1 => Res.of ((isK k x).map fun b => D.bl (!b)) st1)) := by
  intro st m fps σ H hx0 R
  have hx := XO.fst hx0
  rw [constK_eq hc]
  refine wt_pt (pt_cmpR (r := supR X (compareOp .IsNot)) sup_op pe_we pe_constK (not_marks rfl _)) (WE.imp (ha st m fps σ H hx.fst R) fun x H1 ⟨d1, st1, h1, p1⟩ => ?_)
  obtain ⟨fps1, f1, R1, r1, g1, n1⟩ := p1
  obtain ⟨d, h3⟩ := (hx.snd h1).of
  cases h4 : isK k d1 with
  | none => rw [h4] at h3; cases h3
  | some c' =>
    refine (isK_ok h4 r1).2.imp fun v H' pv => ?_
    obtain ⟨fps3, f3, R3, r3, g3, n3⟩ := (pv.post (lk := lk) R1 g1 n1 (R.len_le R1)).ex
    obtain ⟨rfl, _⟩ := r3.bl
    exact ⟨_, rfl, st1, fps3, boolR_ok (by rw [h1, Res.bind_ok, h4]; rfl), R3, g3⟩
end
end OV
/-! text OVI -/
namespace OV
open PySem PySem.Spec PyProof.Rows L2
variable [Tabled] [Kn]
/-! New things frozen: nothing happens in the model. -/
/-- all but fp is as it was; nothing goes -/
structure Fz (fp : List Addr) (H H' : Hp) : Prop where
  out : ∀ b, b ∉ fp → H' b = H b
  inn : ∀ b ∈ fp, ∃ o, H' b = some o
theorem Fz.refl {H : Hp} : Fz [] H H := ⟨fun _ _ => rfl, fun _ h => by cases h⟩
theorem Fz.trans {f g : List Addr} {H H1 H2 : Hp} (a : Fz f H H1) (b : Fz g H1 H2) : Fz (f ++ g) H H2 := by
  refine ⟨fun c hc => ?_, fun c hc => ?_⟩
  · rw [b.out c fun z => hc (List.mem_append_right _ z), a.out c fun z => hc (List.mem_append_left _ z)]
  · by_cases h : c ∈ g
    · exact b.inn c h
    · rw [b.out c h]
      rcases List.mem_append.mp hc with hc | hc
      · exact a.inn c hc
      · exact absurd hc h
theorem Fz.imm {fp : List Addr} {H H' : Hp} (z : Fz fp H H') (hm : ∀ b ∈ fp, ∃ vs, H b = some (.lst vs)) : ∀ b o, H b = some o → OV.imm o = true → H' b = some o := fun b o e i => by
  by_cases h : b ∈ fp
  · obtain ⟨vs, e'⟩ := hm b h
    rw [e] at e'; cases e'; cases i
  · rw [z.out b h]; exact e
section
variable {X : Cx} {pins : List (Addr × Obj)} {σ : L2.St} {s : Shared}
theorem frz1 {H : Hp} {a : Addr} {vs : List V} (I : Inv X pins σ H s) (h : H a = some (.lst vs)) : ∃ o, Inv X pins σ (upd H a (.frz o (.lst vs))) s := by
  obtain ⟨z, its, n, r, e⟩ := I.hok a _ h
  refine ⟨{ cls := .type "list", data := .seq its.toArray n }, ?_⟩
  have I' := I.write (x := a) (e := a) (o := .frz { cls := .type "list", data := .seq its.toArray n } (.lst vs)) (h' := s.heap) (t' := s.toks) (by rw [h]; trivial) (.inl rfl) (fun b u _ q => q) ⟨_, e⟩ ⟨e, z, its, n, r, e⟩
  exact I'
mutual
theorem freeze {H : Hp} (I : Inv X pins σ H s) : ∀ {v : V} {d e : D} {fp : List Addr}, RO H v d fp → fzD d = some e → ∃ H', Inv X pins σ H' s ∧ RF H' v e ∧ Fz fp H H'
  | v, d, e, _, .fro h, he => by
    have : fzD d = some d := by cases h <;> rfl
    rw [this] at he; cases he
    exact ⟨H, I, h, Fz.refl⟩
  | _, _, e, _, .new (a := a) h r, he => by
    cases he
    obtain ⟨o, I'⟩ := frz1 I h
    refine ⟨_, I', .lst upd_same (r.mono fun b u eb i => ?_), fun b hb => upd_ne (by simpa using hb), fun b hb => ?_⟩
    rotate_left
    · obtain rfl := List.mem_singleton.mp hb
      exact ⟨_, upd_same⟩
    rw [upd_ne]
    · exact eb
    · rintro rfl; rw [h] at eb; cases eb; cases i
  | _, _, e, _, .own (a := a) (ds := ds) (fp := fp) h r hn, he => by
    simp only [fzD] at he
    split at he
    · rename_i es hes
      cases he
      obtain ⟨H1, I1, r1, z1⟩ := freezes I r hes
      have h1 : H1 a = some (.lst _) := (z1.out a hn).trans h
      obtain ⟨o, I'⟩ := frz1 I1 h1
      refine ⟨_, I', .lst upd_same (r1.mono fun b u eb i => ?_), fun b hb => ?_, fun b hb => ?_⟩
      · rw [upd_ne]
        · exact eb
        · rintro rfl; rw [h1] at eb; cases eb; cases i
      · rw [upd_ne (fun e => hb (by rw [e]; exact List.mem_cons_self)), z1.out b fun z => hb (List.mem_cons_of_mem _ z)]
      · by_cases e : b = a
        · rw [e]; exact ⟨_, upd_same⟩
        · rw [upd_ne e]
          exact z1.inn b ((List.mem_cons.mp hb).resolve_left e)
    · cases he
  | _, _, e, _, .oto (a := a) h r, he => by
    simp only [fzD] at he
    split at he
    · rename_i es hes
      cases he
      obtain ⟨H1, I1, r1, z1⟩ := freezes I r hes
      exact ⟨H1, I1, .tup (z1.imm r.mut _ _ h rfl) r1, z1⟩
    · cases he
theorem freezes {H : Hp} (I : Inv X pins σ H s) : ∀ {vs : List V} {ds es : List D} {fp : List Addr}, ROs H vs ds fp → fzDs ds = some es → ∃ H', Inv X pins σ H' s ∧ RFs H' vs es ∧ Fz fp H H'
  | _, _, es, _, .nil, he => by cases he; exact ⟨H, I, .nil, Fz.refl⟩
  | _, d :: ds, es, _, .cons (f := f) (g := g) h r hn, he => by
    simp only [fzDs] at he
    split at he
    · rename_i e1 es1 h1 h2
      cases he
      obtain ⟨H1, I1, r1, z1⟩ := freeze I h h1
      have im1 := z1.imm h.mut
      have r' := r.mono (H' := H1) fun b o eb i => by
        rcases i with i | i
        · exact im1 b o eb i
        · rw [z1.out b fun z => hn b z i]; exact eb
      obtain ⟨H2, I2, r2, z2⟩ := freezes I1 r' h2
      exact ⟨H2, I2, .cons (r1.mono (z2.imm r'.mut)) r2, z1.trans z2⟩
    · cases he
end
/-- results, as arguments -/
theorem freezeA {H : Hp} {m : List Addr} {fps : List (List Addr)} (I : Inv X pins σ H s) : ∀ {vs : List V} {ds es : List D} {fp : List Addr}, RRs H m fps vs ds fp → items arg ds = some es → ∃ H', Inv X pins σ H' s ∧ RTs H' m vs es ∧ Fz fp H H'
  | _, _, es, _, .nil, he => by cases he; exact ⟨H, I, .nil, Fz.refl⟩
  | _, d :: ds, es, _, .cons (v := v) (vs := vs) (f := f) (g := g) h r hn, he => by
    simp only [items] at he
    split at he
    · rename_i e1 es1 h1 h2
      cases he
      have mf := h.mem
      have step : ∃ H1, Inv X pins σ H1 s ∧ RT H1 m v e1 ∧ Fz f H H1 := by
        cases h with
        | tree ho _ =>
          have h1' : fzD d = some e1 := by
            cases d <;> first | exact h1 | exact absurd ho (fun z => by cases z with | fro z => cases z)
          obtain ⟨H1, I1, r1, z1⟩ := freeze I ho h1'
          exact ⟨H1, I1, .fro r1, z1⟩
        | ref hm => cases h1; exact ⟨H, I, .ref hm, Fz.refl⟩
        | clo hm => cases h1; exact ⟨H, I, .clo hm, Fz.refl⟩
        | borN _ _ _ _ => cases h1
        | borS _ _ _ _ _ => cases h1
      obtain ⟨H1, I1, r1, z1⟩ := step
      have im1 := z1.imm fun b hb => (mf b hb).1
      have kp : ∀ {vs : List V} {ds : List D} {g : List Addr}, RRs H m fps vs ds g → (∀ a ∈ f, a ∉ g) → RRs H1 m fps vs ds g := by
        intro vs ds g r
        induction r with
        | nil => intro _; exact .nil
        | cons h2 r2 n2 ih =>
          intro hg
          refine .cons ?_ (ih fun a ha z => hg a ha (List.mem_append_right _ z)) n2
          have k1 : ∀ b, b ∉ f → H1 b = H b := fun b hb => z1.out b hb
          cases h2 with
          | tree h2 n2' => exact .tree (h2.mono fun b o eb i => i.elim (im1 b o eb) fun i => by rw [k1 b fun z => hg b z (List.mem_append_left _ i)]; exact eb) n2'
          | ref h2 => exact .ref h2
          | clo h2 => exact .clo (h2.mono im1)
          | @borN a vs' ds' fp' h2 r2' n3 n2' =>
            have q : ∀ b ∈ a :: fp', b ∉ f := fun b hb z => hg b z (List.mem_append_left _ hb)
            exact .borN ((k1 a (q a (by simp))).trans h2) (r2'.mono fun b o eb i => i.elim (im1 b o eb) fun i => by rw [k1 b (q b (List.mem_cons_of_mem _ i))]; exact eb) n3 n2'
          | @borS a vs' ds' fp' f' n h2 r2' n3 hf hin =>
            have q : ∀ b ∈ a :: fp', b ∉ f := fun b hb z => (mf b z).2 f' (List.mem_of_getElem? hf) (hin b hb)
            exact .borS ((k1 a (q a (by simp))).trans h2) (r2'.mono fun b o eb i => i.elim (im1 b o eb) fun i => by rw [k1 b (q b (List.mem_cons_of_mem _ i))]; exact eb) n3 hf hin
      have r' := kp r hn
      obtain ⟨H2, I2, r2, z2⟩ := freezeA I1 r' h2
      refine ⟨H2, I2, .cons (r1.mono (z2.imm ?_)) r2, z1.trans z2⟩
      have : ∀ {vs : List V} {ds : List D} {g : List Addr}, RRs H1 m fps vs ds g → ∀ b ∈ g, ∃ vs, H1 b = some (.lst vs) := by
        intro vs ds g r
        induction r with
        | nil => intro b hb; cases hb
        | cons h2 r2 n2 ih =>
          intro b hb
          rcases List.mem_append.mp hb with hb | hb
          · exact (h2.mem b hb).1
          · exact ih b hb
      exact this r'
    · cases he
theorem itm_arg : ∀ {ds es : List D}, items itm ds = some es → items arg ds = some es ∧ es.all OV.isV = true
  | [], es, h => by cases h; exact ⟨rfl, rfl⟩
  | d :: ds, es, h => by
    simp only [items] at h
    split at h
    · rename_i e1 es1 h1 h2
      cases h
      obtain ⟨k1, k2⟩ := itm_arg h2
      have q : arg d = some e1 ∧ OV.isV e1 = true := by
        unfold itm at h1
        cases d with
        | own xs =>
          refine ⟨h1, ?_⟩
          simp only [fzD] at h1
          split at h1
          · cases h1; rfl
          · cases h1
        | oto xs =>
          refine ⟨h1, ?_⟩
          simp only [fzD] at h1
          split at h1
          · cases h1; rfl
          · cases h1
        | _ => first | (cases h1; done) | (refine ⟨h1, ?_⟩; cases h1; rfl)
      exact ⟨by simp only [items, q.1, k1], by simp [q.2, k2]⟩
    · cases h
theorem RTs.frozen {H : Hp} {m : List Addr} : ∀ {vs : List V} {ds : List D}, RTs H m vs ds → ds.all OV.isV = true → RFs H vs ds
  | _, _, .nil, _ => .nil
  | _, _, .cons h r, e => by
    simp only [List.all_cons, Bool.and_eq_true] at e
    refine .cons ?_ (RTs.frozen r e.2)
    cases h with
    | fro h => exact h
    | ref _ => cases e.1
    | clo _ => cases e.1
theorem freezeR {H : Hp} {m : List Addr} {fps : List (List Addr)} (I : Inv X pins σ H s) {vs : List V} {ds es : List D} {fp : List Addr} (r : RRs H m fps vs ds fp) (h : items itm ds = some es) : ∃ H', Inv X pins σ H' s ∧ RFs H' vs es ∧ Fz fp H H' := by
  obtain ⟨h1, h2⟩ := itm_arg h
  obtain ⟨H', I', r', z⟩ := freezeA I r h1
  exact ⟨H', I', r'.frozen h2, z⟩
end
/-- what stands, stands over it -/
theorem Rel.fz {st : S} {m : List Addr} {fps : List (List Addr)} {σ : L2.St} {H H' : Hp} {fp : List Addr} (R : Rel st m fps σ H) (z : Fz fp H H') (hm : ∀ b ∈ fp, (∃ vs, H b = some (.lst vs)) ∧ ∀ f ∈ fps, b ∉ f) : Rel st m fps σ H' := by
  have im := z.imm fun b hb => (hm b hb).1
  refine ⟨R.slen, fun i d e => ?_, R.mlen, R.flen, fun n d e => ?_, R.dead, R.dis, tabs_chg (fun b o e n => by
    by_cases hb : b ∈ fp
    · obtain ⟨vs, e'⟩ := (hm b hb).1
      rw [e] at e'; cases e'; exact absurd rfl (n _)
    · rw [z.out b hb]; exact e) R.tab⟩
  · obtain ⟨v, h1, h2⟩ := R.sl i d e
    exact ⟨v, h1, h2.mono im⟩
  · obtain ⟨a, f, h1, h2, h3, h4⟩ := R.ce n d e
    refine ⟨a, f, h1, h2, h3.mono fun b o e i => i.elim (im b o e) fun i => ?_, h4⟩
    rw [z.out b fun q => (hm b q).2 f (List.mem_of_getElem? h2) i]; exact e
theorem Grd.fz {lk : List Nat} {fps fps1 : List (List Addr)} {H H1 H2 : Hp} {fp : List Addr} (g : Grd lk fps fps1 H H1) (z : Fz fp H1 H2) (n : NF fp fps H) (hm : ∀ b ∈ fp, ∀ f ∈ fps1, b ∉ f) : Grd lk fps fps1 H H2 := by
  refine ⟨fun b o e hn ht => ?_, fun b o e => ?_, g.fresh, g.lock⟩
  · have e1 := g.keep b o e hn ht
    by_cases h : b ∈ fp
    · rcases n b h with ⟨f, hf, hb⟩ | q
      · obtain ⟨j, hj⟩ := List.getElem?_of_mem hf
        have l := hn j f hj hb
        exact absurd hb (hm b h f (List.mem_of_getElem? (g.lock j l f hj)))
      · rw [e] at q; cases q
    · rw [z.out b h]; exact e1
  · obtain ⟨o1, e1⟩ := g.there b o e
    by_cases h : b ∈ fp
    · exact z.inn b h
    · rw [z.out b h]; exact ⟨o1, e1⟩
theorem RRs.mem {H : Hp} {m : List Addr} {fps : List (List Addr)} {vs : List V} {ds : List D} {fp : List Addr} (h : RRs H m fps vs ds fp) : ∀ b ∈ fp, (∃ vs, H b = some (.lst vs)) ∧ ∀ f ∈ fps, b ∉ f := by
  induction h with
  | nil => intro b hb; cases hb
  | cons h2 r2 n2 ih =>
    intro b hb
    rcases List.mem_append.mp hb with hb | hb
    · exact h2.mem b hb
    · exact ih b hb
end OV
/-! text OVJ -/
namespace OV
open PySem PySem.Spec PyProof.Rows L2
variable [Tabled] [Kn]
section
variable {X : Cx} {q : SX} {κ : K} {n : Nat} {lk : List Nat} {p : Pos}
/-- a part is good: as a value, as a test -/
structure GoodE (X : Cx) (κ : K) (c : C) (e : Expr) : Prop where
  se : ∀ lk, SE X e lk (oE κ lk c)
  st : ∀ lk, STst X e lk (fun st => boolR (oE κ lk c st))
  ok : okE e = true
inductive Good (X : Cx) (κ : K) : Cs → List Expr → Prop
  | nil : Good X κ .nil []
  | cons {c : C} {cs : Cs} {e : Expr} {es : List Expr} : GoodE X κ c e → Good X κ cs es → Good X κ (.cons c cs) (e :: es)
/-- an end that is found in the very state -/
theorem WE.ghost {e : Expr} {σ : L2.St} {H : Hp} {P Q : VK} (h : WE X e σ H P) (k : ∀ v H' pins s, P v H' → Inv X pins σ H' s → ∃ H'', Inv X pins σ H'' s ∧ Q v H'') : WE X e σ H Q := fun pins s I =>
  thn (h pins s I) fun _ s' ⟨v, H', I', r, q⟩ => let ⟨H'', I'', q''⟩ := k v H' pins s' q I'; ⟨v, H'', I'', r, q''⟩
theorem WA.ghost {es : List Expr} {σ : L2.St} {H : Hp} {P Q : List V → Hp → Prop} (h : WA X es σ H P) (k : ∀ v H' pins s, P v H' → Inv X pins σ H' s → ∃ H'', Inv X pins σ H'' s ∧ Q v H'') : WA X es σ H Q := fun pos pins s I =>
  thn (h pos pins s I) fun _ s' ⟨v, H', I', r, q⟩ => let ⟨H'', I'', q''⟩ := k v H' pins s' q I'; ⟨v, H'', I'', r, q''⟩
theorem WA.imp {es : List Expr} {σ : L2.St} {H : Hp} {P Q : List V → Hp → Prop} (h : WA X es σ H P) (k : ∀ v H', P v H' → Q v H') : WA X es σ H Q := fun pos pins s I =>
  thn (h pos pins s I) fun _ s' ⟨v, H', I', r, q⟩ => ⟨v, H', I', r, k v H' q⟩
theorem PostE.step {st st1 st2 : S} {m : List Addr} {fps fps1 : List (List Addr)} {σ : L2.St} {H H1 H2 : Hp} {d : D} {v : V} (R : Rel st m fps σ H) (R1 : Rel st1 m fps1 σ H1) (g : Grd lk fps fps1 H H1) (h : PostE lk st2 m fps1 σ H1 d v H2) : PostE lk st2 m fps σ H d v H2 := by
  obtain ⟨fps2, f2, R2, r2, g2, n2⟩ := h
  exact ⟨fps2, f2, R2, r2, g.trans g2 R1 (fun _ h => h) (R.len_le R1), n2.trans g⟩
/-! ### names, constants -/
theorem se_var {i : Nat} {e : Expr} (c : Cxt X q κ n) (h : chkE q (.var i) e = true) : SE X e lk (oE κ lk (.var i)) := by
  intro st m fps σ H hx R
  simp only [chkE] at h
  split at h
  · rename_i x hn
    obtain ⟨p, rfl⟩ := vName_eq hn
    cases hd : st.sl[i]? with
    | none => simp only [oE, hd] at hx; exact hx.elim
    | some o =>
      cases o with
      | none => simp only [oE, hd] at hx; exact hx.elim
      | some d =>
        refine WE.imp (se_name c h R hd) fun v H' ⟨e, r⟩ => ?_
        rw [e]
        exact ⟨d, st, by simp only [oE, hd], fps, [], R, r.res, Grd.refl, NF.nil⟩
  · cases h
theorem se_lit {c0 : C} {k : Const} {v : V} {d : D} (hv : ∀ {j : Nat} {p : Pos}, PE X (.Constant k j p) (tC v)) (hd : ∀ H, RF H v d) (ho : ∀ lk st, oE κ lk c0 st = .ok d st) {e : Expr} (h : vConst e = some k) : SE X e lk (oE κ lk c0) := by
  intro st m fps σ H hx R
  obtain ⟨j, p, rfl⟩ := vConst_eq h
  exact we_pe hv (show WiE lk (oE κ lk c0 st) m fps σ H v H from ⟨d, st, ho lk st, fps, [], R, .tree (.fro (hd H)) (by simp), Grd.refl, NF.nil⟩)
/-! ### one part -/
theorem se_neg {a : Expr} {fa : S → Res D} (ha : SE X a lk fa) : SE X (.UnaryOp .USub a p) lk (fun st => (fa st).bind fun x st1 => match x with | .int i => .ok (.int (-i)) st1 | _ => .no) := by
  intro st m fps σ H hx R
  refine we_pe (pe_un un_neg pe_we) (WE.imp (ha st m fps σ H hx.fst R) fun x H1 ⟨d1, st1, h1, p1⟩ => ?_)
  obtain ⟨fps1, f1, R1, r1, g1, n1⟩ := p1
  have h2 := hx.snd h1
  cases d1 with
  | int i =>
    obtain ⟨rfl, _⟩ := r1.int
    exact ⟨i, rfl, ⟨_, st1, by dsimp only; rw [h1]; rfl, fps1, [], R1, .tree (.fro (.int _)) (by simp), g1, NF.nil⟩⟩
  | _ => exact h2.elim
theorem se_not {a : Expr} {fa : S → Res D} (ha : SE X a lk fa) : SE X (.UnaryOp .Not a p) lk (fun st => (boolR (fa st)).bind fun b st1 => .ok (.bl (!b)) st1) := by
  intro st m fps σ H hx R
  refine we_pe (pe_not pe_we) (WE.imp (ha st m fps σ H hx.fst.fst R) fun x H1 ⟨d1, st1, h1, p1⟩ => ?_)
  obtain ⟨fps1, f1, R1, r1, g1, n1⟩ := p1
  obtain ⟨b, rfl⟩ := boolR_inv hx.fst h1
  obtain ⟨rfl, _⟩ := r1.bl
  exact ⟨_, rfl, ⟨_, st1, by dsimp only; rw [boolR_ok h1]; rfl, fps1, [], R1, .tree (.fro (.bl _)) (by simp), g1, NF.nil⟩⟩
theorem st_not {a : Expr} {fa : S → Res D} (ha : STst X a lk (fun st => boolR (fa st))) : STst X (.UnaryOp .Not a p) lk (fun st => boolR ((boolR (fa st)).bind fun b st1 => .ok (.bl (!b)) st1)) := by
  intro st m fps σ H hx R
  refine wt_pt (pt_not pt_wt) ((ha st m fps σ H hx.fst.fst R).imp fun c H' ⟨st1, fps', h1, R', g'⟩ => ?_)
  dsimp only at h1
  exact ⟨st1, fps', boolR_ok (by rw [h1]; rfl), R', g'⟩
/-- a value that is True or False, as a test -/
theorem st_val {e : Expr} {f : S → Res D} (he : ∀ whole, isTrue e X.env whole = (do let v ← whole; standAt e.pos; holding [v] (truthy v))) (h : SE X e lk f) : STst X e lk (fun st => boolR (f st)) := by
  intro st m fps σ H hx R
  refine wt_pt (pt_val pe_we he) (WE.imp (h st m fps σ H hx.fst R) fun v H' ⟨d, st1, h1, p1⟩ => ?_)
  obtain ⟨fps1, f1, R1, r1, g1, n1⟩ := p1
  obtain ⟨b, rfl⟩ := boolR_inv hx h1
  obtain ⟨rfl, _⟩ := r1.bl
  exact ⟨_, rfl, st1, fps1, boolR_ok h1, R1, g1⟩
/-! ### if else -/
theorem se_ite {t a b : Expr} {ft : S → Res Bool} {fa fb : S → Res D} (ht : STst X t lk ft) (ha : SE X a lk fa) (hb : SE X b lk fb) :
    SE X (.IfExp t a b p) lk (fun st => (ft st).bind fun t st1 => match t with | true => fa st1 | false => fb st1) := by
  intro st m fps σ H hx R
  refine we_pe (pe_ifExp pt_wt pe_we pe_we) ((ht st m fps σ H hx.fst R).imp fun c H1 ⟨st1, fps1, h1, R1, g1⟩ => ?_)
  have h2 := hx.snd h1
  cases c with
  | true => exact WE.imp (ha st1 m fps1 σ H1 h2 R1) fun v H' ⟨d, st2, e, p2⟩ => ⟨d, st2, by dsimp only; rw [h1, Res.bind_ok]; exact e, p2.step R R1 g1⟩
  | false => exact WE.imp (hb st1 m fps1 σ H1 h2 R1) fun v H' ⟨d, st2, e, p2⟩ => ⟨d, st2, by dsimp only; rw [h1, Res.bind_ok]; exact e, p2.step R R1 g1⟩
/-! ### chains -/
theorem not_marks2 {b c : Expr} (hc : okE c = true) (o o' : CmpOp) : lastMarks [o, o'] [b, c] = false := by
  show behindInMarks o' c = false
  exact not_marks hc o'
theorem chain_core {o o' : CO} {a b c : Expr} {fa : S → Res D} {fb fc : List Nat → S → Res D} (cx : Cxt X q κ n) (hok : okE c = true) (ha : SE X a lk fa) (hb : ∀ l, SE X b l (fb l)) (hc : ∀ l, SE X c l (fc l))  {st : S} {m : List Addr} {fps : List (List Addr)} {σ : L2.St} {H : Hp} {Q : VK} (hx : XO X ((fa st).bind fun x st1 => (fb (lkO x ++ lk) st1).bind fun y st2 => match opCmp st2.ce o x y with
    | some true => (fc (lkO y ++ lk) st2).bind fun z st3 => Res.of ((opCmp st3.ce o' y z).map D.bl) st3
    | some false => .ok (.bl false) st2
    | none => .no)) (R : Rel st m fps σ H) (hQ : ∀ v H', WiE lk ((fa st).bind fun x st1 => (fb (lkO x ++ lk) st1).bind fun y st2 => match opCmp st2.ce o x y with
    | some true => (fc (lkO y ++ lk) st2).bind fun z st3 => Res.of ((opCmp st3.ce o' y z).map D.bl) st3
    | some false => .ok (.bl false) st2
    | none => .no) m fps σ H v H' → Q v H') : tChain (supR X (compareOp (cop o))) (supR X (compareOp (cop o'))) (WE X a) (WE X b) (WE X c) σ H Q := by
  refine WE.imp (ha st m fps σ H hx.fst R) fun x H1 ⟨d1, st1, h1, p1⟩ => ?_
  obtain ⟨fps1, f1, R1, r1, g1, n1⟩ := id p1.ex
  have hx1 := hx.snd h1
  refine WE.imp (hb _ st1 m fps1 σ H1 hx1.fst R1) fun y H2 ⟨d2, st2, h2, p2⟩ => ?_
  obtain ⟨fps2, f2, R2, r2, g2, n2⟩ := id p2.ex
  have hx2 := hx1.snd h2
  have r1' := r1.keep R1 g2 fun n hn => List.mem_append_left _ hn
  have g12 := g1.trans g2 R1 (fun n hn => List.mem_append_right _ hn) (R.len_le R1)
  cases h4 : opCmp st2.ce o d1 d2 with
  | none => simp only [h4] at hx2; exact hx2.elim
  | some k =>
    simp only [h4] at hx2
    refine (cmp_ok cx.hu R2 h4 r1' r2).imp fun z H3 pv => ?_
    obtain ⟨k3, f3, r3, _⟩ := pv
    obtain ⟨rfl, _⟩ := r3.bl
    have R3 : Rel st2 m fps2 σ H3 := R2.mono fun b o e _ => k3 b o e
    have g13 := g12.trans (Grd.ext (lk := lk) k3) R2 (fun _ h => h) (R.len_le R2)
    refine ⟨k, rfl, ?_⟩
    cases k with
    | false =>
      rw [if_neg Bool.false_ne_true]
      exact hQ _ _ ⟨_, st2, by simp only [h1, Res.bind_ok, h2, h4], fps2, [], R3, .tree (.fro (.bl _)) (by simp), g13, NF.nil⟩
    | true =>
      rw [if_pos rfl]
      have r2' := r2.keep (lk := lkO d2) R2 (Grd.ext k3) fun _ h => h
      refine WE.imp (hc _ st2 m fps2 σ H3 hx2.fst R3) fun w H4 ⟨d3, st3, h5, p4⟩ => ?_
      obtain ⟨fps4, f4, R4, r4, g4, n4⟩ := p4
      have r2'' := r2'.keep R3 g4 fun n hn => List.mem_append_left _ hn
      obtain ⟨d, h6⟩ := (hx2.snd h5).of
      cases h7 : opCmp st3.ce o' d2 d3 with
      | none => rw [h7] at h6; cases h6
      | some k' =>
        refine (cmp_ok cx.hu R4 h7 r2'' r4).imp fun v H' pv => ?_
        have n2' : NF f2 fps H := n2.trans g1
        exact hQ _ _ ⟨_, st3, by simp only [h1, Res.bind_ok, h2, h4, h5, h7]; rfl, pv.post R4 (g13.trans g4 R3 (fun n hn => List.mem_append_right _ hn) (R.len_le R3)) (n2'.append (n4.trans g13)) (R.len_le R4)⟩
theorem se_chain {o o' : CO} {a b c : Expr} {fa : S → Res D} {fb fc : List Nat → S → Res D} (cx : Cxt X q κ n) (hok : okE c = true) (ha : SE X a lk fa) (hb : ∀ l, SE X b l (fb l)) (hc : ∀ l, SE X c l (fc l)) :
    SE X (.Compare a [cop o, cop o'] [b, c] p) lk (fun st => (fa st).bind fun x st1 => (fb (lkO x ++ lk) st1).bind fun y st2 => match opCmp st2.ce o x y with
    | some true => (fc (lkO y ++ lk) st2).bind fun z st3 => Res.of ((opCmp st3.ce o' y z).map D.bl) st3
    | some false => .ok (.bl false) st2
    | none => .no) := by
  intro st m fps σ H hx R
  exact we_pe (pe_chain (r := supR X (compareOp (cop o))) (r' := supR X (compareOp (cop o'))) sup_op sup_op pe_we pe_we pe_we (not_marks2 hok _ _)) (chain_core cx hok ha hb hc hx R fun _ _ h => h)
theorem st_chain {o o' : CO} {a b c : Expr} {fa : S → Res D} {fb fc : List Nat → S → Res D} (cx : Cxt X q κ n) (hok : okE c = true) (ha : SE X a lk fa) (hb : ∀ l, SE X b l (fb l)) (hc : ∀ l, SE X c l (fc l)) :
    STst X (.Compare a [cop o, cop o'] [b, c] p) lk (fun st => boolR ((fa st).bind fun x st1 => (fb (lkO x ++ lk) st1).bind fun y st2 => match opCmp st2.ce o x y with
    | some true => (fc (lkO y ++ lk) st2).bind fun z st3 => Res.of ((opCmp st3.ce o' y z).map D.bl) st3
    | some false => .ok (.bl false) st2
    | none => .no)) := by
  intro st m fps σ H hx R
  refine wt_pt (pt_chain (r := supR X (compareOp (cop o))) (r' := supR X (compareOp (cop o'))) sup_op sup_op pe_we pe_we pe_we (not_marks2 hok _ _)) (chain_core cx hok ha hb hc hx.fst R fun v H' ⟨d, st1, h1, p1⟩ => ?_)
  obtain ⟨fps1, f1, R1, r1, g1, n1⟩ := p1
  obtain ⟨b, rfl⟩ := boolR_inv hx h1
  obtain ⟨rfl, _⟩ := r1.bl
  exact ⟨_, rfl, st1, fps1, boolR_ok h1, R1, g1⟩
theorem st_ite {t a b : Expr} {ft : S → Res Bool} {fa fb : S → Res D} (ht : STst X t lk ft) (ha : STst X a lk (fun st => boolR (fa st))) (hb : STst X b lk (fun st => boolR (fb st))) :
    STst X (.IfExp t a b p) lk (fun st => boolR ((ft st).bind fun t st1 => match t with | true => fa st1 | false => fb st1)) := by
  intro st m fps σ H hx R pins s I
  show wpAny _ _ (do if ← isTrue t X.env (eval t X.env) then isTrue a X.env (eval a X.env) else isTrue b X.env (eval b X.env)) _ _ s
  refine wpAny_bind (thn (ht st m fps σ H hx.fst.fst R pins s I) fun c s1 ⟨H1, I1, st1, fps1, h1, R1, g1⟩ => ?_)
  cases c with
  | true =>
    rw [if_pos rfl]
    have hx' : XO X (boolR (fa st1)) := by
      have h := hx
      dsimp only at h
      rw [h1, Res.bind_ok] at h
      exact h
    refine thn (ha st1 m fps1 σ H1 hx' R1 pins s1 I1) fun b s2 ⟨H2, I2, st2, fps2, h2, R2, g2⟩ => ⟨H2, I2, st2, fps2, by dsimp only; rw [h1, Res.bind_ok]; exact h2, R2, g1.trans g2 R1 (fun _ h => h) (R.len_le R1)⟩
  | false =>
    rw [if_neg Bool.false_ne_true]
    have hx' : XO X (boolR (fb st1)) := by
      have h := hx
      dsimp only at h
      rw [h1, Res.bind_ok] at h
      exact h
    refine thn (hb st1 m fps1 σ H1 hx' R1 pins s1 I1) fun b s2 ⟨H2, I2, st2, fps2, h2, R2, g2⟩ => ⟨H2, I2, st2, fps2, by dsimp only; rw [h1, Res.bind_ok]; exact h2, R2, g1.trans g2 R1 (fun _ h => h) (R.len_le R1)⟩
/-! ### and, or -/
def wAndT (X : Cx) : List Expr → TT
  | [] => fun _ H Q => Q true H
  | [a] => WT X a
  | a :: b :: r => tAnd (WT X a) (wAndT X (b :: r))
def wOrT (X : Cx) : List Expr → TT
  | [] => fun _ H Q => Q false H
  | [a] => WT X a
  | a :: b :: r => tOr (WT X a) (wOrT X (b :: r))
theorem pw_wand : ∀ {es : List Expr}, es ≠ [] → PW X (.BoolOp .And es p) (wAndT X es)
  | [], h => absurd rfl h
  | [a], _ => pw_and1 pt_wt
  | a :: b :: r, _ => pw_and pt_wt (pw_wand (es := b :: r) (by simp))
theorem pw_wor : ∀ {es : List Expr}, es ≠ [] → PW X (.BoolOp .Or es p) (wOrT X es)
  | [], h => absurd rfl h
  | [a], _ => pw_or1 pt_wt
  | a :: b :: r, _ => pw_or pt_wt (pw_wor (es := b :: r) (by simp))
def wAndV (X : Cx) : List Expr → TE
  | [] => fun _ H Q => Q (.bl true) H
  | [a] => WE X a
  | a :: b :: r => tAndV (WE X a) (wAndV X (b :: r))
def wOrV (X : Cx) : List Expr → TE
  | [] => fun _ H Q => Q (.bl false) H
  | [a] => WE X a
  | a :: b :: r => tOrV (WE X a) (wOrV X (b :: r))
theorem pe_wand : ∀ {es : List Expr}, es ≠ [] → PE X (.BoolOp .And es p) (wAndV X es)
  | [], h => absurd rfl h
  | [a], _ => pe_one pe_we
  | a :: b :: r, _ => pe_and pe_we (pe_wand (es := b :: r) (by simp))
theorem pe_wor : ∀ {es : List Expr}, es ≠ [] → PE X (.BoolOp .Or es p) (wOrV X es)
  | [], h => absurd rfl h
  | [a], _ => pe_one pe_we
  | a :: b :: r, _ => pe_or pe_we (pe_wor (es := b :: r) (by simp))
theorem WiT.step {st1 : S} {m : List Addr} {fps fps1 : List (List Addr)} {σ : L2.St} {H H1 H2 : Hp} {st : S} {r : Res Bool} {c : Bool} (R : Rel st m fps σ H) (R1 : Rel st1 m fps1 σ H1) (g : Grd lk fps fps1 H H1) (h : WiT lk r m fps1 σ H1 c H2) : WiT lk r m fps σ H c H2 := by
  obtain ⟨st2, fps2, e, R2, g2⟩ := h
  exact ⟨st2, fps2, e, R2, g.trans g2 R1 (fun _ h => h) (R.len_le R1)⟩
theorem wand_imp : ∀ {es : List Expr} {σ : L2.St} {H : Hp} {Q Q' : Bool → Hp → Prop}, wAndT X es σ H Q → (∀ c H', Q c H' → Q' c H') → wAndT X es σ H Q'
  | [], _, _, _, _, h, k => k _ _ h
  | [a], _, _, _, _, h, k => WT.imp h k
  | a :: b :: r, _, _, _, _, h, k => WT.imp h fun c H' h' => by
    cases c with
    | true => rw [if_pos rfl] at h' ⊢; exact wand_imp h' k
    | false => rw [if_neg Bool.false_ne_true] at h' ⊢; exact k _ _ h'
theorem wor_imp : ∀ {es : List Expr} {σ : L2.St} {H : Hp} {Q Q' : Bool → Hp → Prop}, wOrT X es σ H Q → (∀ c H', Q c H' → Q' c H') → wOrT X es σ H Q'
  | [], _, _, _, _, h, k => k _ _ h
  | [a], _, _, _, _, h, k => WT.imp h k
  | a :: b :: r, _, _, _, _, h, k => WT.imp h fun c H' h' => by
    cases c with
    | false => rw [if_neg Bool.false_ne_true] at h' ⊢; exact wor_imp h' k
    | true => rw [if_pos rfl] at h' ⊢; exact k _ _ h'
theorem WiT.eq {r r' : Res Bool} {m : List Addr} {fps : List (List Addr)} {σ : L2.St} {H H2 : Hp} {c : Bool} (h : WiT lk r m fps σ H c H2) (e : r = r') : WiT lk r' m fps σ H c H2 := e ▸ h
theorem and_t : ∀ {cs : Cs} {es : List Expr}, Good X κ cs es → ∀ st m fps σ H, XO X (oAnd κ lk cs st) → Rel st m fps σ H → es ≠ [] → wAndT X es σ H (WiT lk (oAnd κ lk cs st) m fps σ H)
  | _, _, .nil, _, _, _, _, _, _, _, h => absurd rfl h
  | _, _, .cons (c := c) g .nil, st, m, fps, σ, H, hx, R, _ => by
    simp only [oAnd] at hx ⊢
    refine WT.imp (g.st lk st m fps σ H hx.fst R) fun c H1 ⟨st1, fps1, h1, R1, g1⟩ => ?_
    dsimp only at h1
    refine ⟨st1, fps1, ?_, R1, g1⟩
    rw [h1]; cases c <;> rfl
  | _, _, .cons (c := c) (es := e2 :: r) g (.cons g2 gr), st, m, fps, σ, H, hx, R, _ => by
    rw [oAnd] at hx ⊢
    refine WT.imp (g.st lk st m fps σ H hx.fst R) fun c H1 ⟨st1, fps1, h1, R1, g1⟩ => ?_
    dsimp only at h1
    have h2 := hx.snd h1
    cases c with
    | true =>
      rw [if_pos rfl]
      exact wand_imp (and_t (.cons g2 gr) st1 m fps1 σ H1 h2 R1 (by simp)) fun c H2 h3 => (WiT.step R R1 g1 h3).eq (by rw [h1]; rfl)
    | false =>
      rw [if_neg Bool.false_ne_true]
      exact ⟨st1, fps1, by rw [h1]; rfl, R1, g1⟩
theorem or_t : ∀ {cs : Cs} {es : List Expr}, Good X κ cs es → ∀ st m fps σ H, XO X (oOr κ lk cs st) → Rel st m fps σ H → es ≠ [] → wOrT X es σ H (WiT lk (oOr κ lk cs st) m fps σ H)
  | _, _, .nil, _, _, _, _, _, _, _, h => absurd rfl h
  | _, _, .cons (c := c) g .nil, st, m, fps, σ, H, hx, R, _ => by
    simp only [oOr] at hx ⊢
    refine WT.imp (g.st lk st m fps σ H hx.fst R) fun c H1 ⟨st1, fps1, h1, R1, g1⟩ => ?_
    dsimp only at h1
    refine ⟨st1, fps1, ?_, R1, g1⟩
    rw [h1]; cases c <;> rfl
  | _, _, .cons (c := c) (es := e2 :: r) g (.cons g2 gr), st, m, fps, σ, H, hx, R, _ => by
    rw [oOr] at hx ⊢
    refine WT.imp (g.st lk st m fps σ H hx.fst R) fun c H1 ⟨st1, fps1, h1, R1, g1⟩ => ?_
    dsimp only at h1
    have h2 := hx.snd h1
    cases c with
    | false =>
      rw [if_neg Bool.false_ne_true]
      exact wor_imp (or_t (.cons g2 gr) st1 m fps1 σ H1 h2 R1 (by simp)) fun c H2 h3 => (WiT.step R R1 g1 h3).eq (by rw [h1]; rfl)
    | true =>
      rw [if_pos rfl]
      exact ⟨st1, fps1, by rw [h1]; rfl, R1, g1⟩
/-- as values -/
theorem wandv_imp : ∀ {es : List Expr} {σ : L2.St} {H : Hp} {Q Q' : VK}, wAndV X es σ H Q → (∀ c H', Q c H' → Q' c H') → wAndV X es σ H Q'
  | [], _, _, _, _, h, k => k _ _ h
  | [a], _, _, _, _, h, k => WE.imp h k
  | a :: b :: r, _, _, _, _, h, k => WE.imp h fun x H' ⟨c, e, h'⟩ => ⟨c, e, by
    cases c with
    | true => rw [if_pos rfl] at h' ⊢; exact wandv_imp h' k
    | false => rw [if_neg Bool.false_ne_true] at h' ⊢; exact k _ _ h'⟩
theorem worv_imp : ∀ {es : List Expr} {σ : L2.St} {H : Hp} {Q Q' : VK}, wOrV X es σ H Q → (∀ c H', Q c H' → Q' c H') → wOrV X es σ H Q'
  | [], _, _, _, _, h, k => k _ _ h
  | [a], _, _, _, _, h, k => WE.imp h k
  | a :: b :: r, _, _, _, _, h, k => WE.imp h fun x H' ⟨c, e, h'⟩ => ⟨c, e, by
    cases c with
    | false => rw [if_neg Bool.false_ne_true] at h' ⊢; exact worv_imp h' k
    | true => rw [if_pos rfl] at h' ⊢; exact k _ _ h'⟩
/-- of a test's end the value's -/
def ofT (P : Bool → Hp → Prop) : VK := fun v H' => ∃ b, v = .bl b ∧ P b H'
theorem and_v : ∀ {cs : Cs} {es : List Expr}, Good X κ cs es → ∀ st m fps σ H, XO X (oAnd κ lk cs st) → Rel st m fps σ H → es ≠ [] → wAndV X es σ H (ofT (WiT lk (oAnd κ lk cs st) m fps σ H))
  | _, _, .nil, _, _, _, _, _, _, _, h => absurd rfl h
  | _, _, .cons (c := c) g .nil, st, m, fps, σ, H, hx, R, _ => by
    simp only [oAnd] at hx ⊢
    refine WE.imp (g.se lk st m fps σ H hx.fst.fst R) fun v H1 ⟨d, st1, h1, p1⟩ => ?_
    obtain ⟨fps1, f1, R1, r1, g1, n1⟩ := p1
    obtain ⟨b, rfl⟩ := boolR_inv hx.fst h1
    obtain ⟨rfl, _⟩ := r1.bl
    refine ⟨b, rfl, st1, fps1, ?_, R1, g1⟩
    rw [boolR_ok h1]; cases b <;> rfl
  | _, _, .cons (c := c) (es := e2 :: r) g (.cons g2 gr), st, m, fps, σ, H, hx, R, _ => by
    rw [oAnd] at hx ⊢
    refine WE.imp (g.se lk st m fps σ H hx.fst.fst R) fun v H1 ⟨d, st1, h1, p1⟩ => ?_
    obtain ⟨fps1, f1, R1, r1, g1, n1⟩ := p1
    obtain ⟨b, rfl⟩ := boolR_inv hx.fst h1
    obtain ⟨rfl, _⟩ := r1.bl
    have h1' := boolR_ok h1
    have h2 := hx.snd h1'
    refine ⟨b, rfl, ?_⟩
    cases b with
    | true =>
      rw [if_pos rfl]
      exact wandv_imp (and_v (.cons g2 gr) st1 m fps1 σ H1 h2 R1 (by simp)) fun c H2 ⟨b, e, h3⟩ => ⟨b, e, (WiT.step R R1 g1 h3).eq (by rw [h1']; rfl)⟩
    | false =>
      rw [if_neg Bool.false_ne_true]
      exact ⟨_, rfl, st1, fps1, by rw [h1']; rfl, R1, g1⟩
theorem or_v : ∀ {cs : Cs} {es : List Expr}, Good X κ cs es → ∀ st m fps σ H, XO X (oOr κ lk cs st) → Rel st m fps σ H → es ≠ [] → wOrV X es σ H (ofT (WiT lk (oOr κ lk cs st) m fps σ H))
  | _, _, .nil, _, _, _, _, _, _, _, h => absurd rfl h
  | _, _, .cons (c := c) g .nil, st, m, fps, σ, H, hx, R, _ => by
    simp only [oOr] at hx ⊢
    refine WE.imp (g.se lk st m fps σ H hx.fst.fst R) fun v H1 ⟨d, st1, h1, p1⟩ => ?_
    obtain ⟨fps1, f1, R1, r1, g1, n1⟩ := p1
    obtain ⟨b, rfl⟩ := boolR_inv hx.fst h1
    obtain ⟨rfl, _⟩ := r1.bl
    refine ⟨b, rfl, st1, fps1, ?_, R1, g1⟩
    rw [boolR_ok h1]; cases b <;> rfl
  | _, _, .cons (c := c) (es := e2 :: r) g (.cons g2 gr), st, m, fps, σ, H, hx, R, _ => by
    rw [oOr] at hx ⊢
    refine WE.imp (g.se lk st m fps σ H hx.fst.fst R) fun v H1 ⟨d, st1, h1, p1⟩ => ?_
    obtain ⟨fps1, f1, R1, r1, g1, n1⟩ := p1
    obtain ⟨b, rfl⟩ := boolR_inv hx.fst h1
    obtain ⟨rfl, _⟩ := r1.bl
    have h1' := boolR_ok h1
    have h2 := hx.snd h1'
    refine ⟨b, rfl, ?_⟩
    cases b with
    | false =>
      rw [if_neg Bool.false_ne_true]
      exact worv_imp (or_v (.cons g2 gr) st1 m fps1 σ H1 h2 R1 (by simp)) fun c H2 ⟨b, e, h3⟩ => ⟨b, e, (WiT.step R R1 g1 h3).eq (by rw [h1']; rfl)⟩
    | true =>
      rw [if_pos rfl]
      exact ⟨_, rfl, st1, fps1, by rw [h1']; rfl, R1, g1⟩
end
end OV
/-! text OVK -/
namespace OV
open PySem PySem.Spec PyProof.Rows L2
variable [Tabled] [Kn]
section
variable {X : Cx} {q : SX} {κ : K} {n : Nat} {lk : List Nat} {p : Pos}
/-! ### and, or, whole -/
theorem se_and {cs : Cs} {es : List Expr} (g : Good X κ cs es) (hne : es ≠ []) : SE X (.BoolOp .And es p) lk (fun st => (oAnd κ lk cs st).bind fun b st1 => .ok (.bl b) st1) := by
  intro st m fps σ H hx R
  refine we_pe (pe_wand hne) (wandv_imp (and_v g st m fps σ H hx.fst R hne) fun v H' ⟨b, e, st1, fps1, h1, R1, g1⟩ => ?_)
  subst e
  exact ⟨.bl b, st1, by dsimp only; rw [h1]; rfl, fps1, [], R1, .tree (.fro (.bl _)) (by simp), g1, NF.nil⟩
theorem se_or {cs : Cs} {es : List Expr} (g : Good X κ cs es) (hne : es ≠ []) : SE X (.BoolOp .Or es p) lk (fun st => (oOr κ lk cs st).bind fun b st1 => .ok (.bl b) st1) := by
  intro st m fps σ H hx R
  refine we_pe (pe_wor hne) (worv_imp (or_v g st m fps σ H hx.fst R hne) fun v H' ⟨b, e, st1, fps1, h1, R1, g1⟩ => ?_)
  subst e
  exact ⟨.bl b, st1, by dsimp only; rw [h1]; rfl, fps1, [], R1, .tree (.fro (.bl _)) (by simp), g1, NF.nil⟩
theorem st_and {cs : Cs} {es : List Expr} (g : Good X κ cs es) (hne : es ≠ []) : STst X (.BoolOp .And es p) lk (fun st => boolR ((oAnd κ lk cs st).bind fun b st1 => .ok (.bl b) st1)) := by
  intro st m fps σ H hx R
  refine wt_pt (pw_wand hne).pt (wand_imp (and_t g st m fps σ H hx.fst.fst R hne) fun b H' ⟨st1, fps1, h1, R1, g1⟩ => ?_)
  exact ⟨st1, fps1, boolR_ok (by rw [h1]; rfl), R1, g1⟩
theorem st_or {cs : Cs} {es : List Expr} (g : Good X κ cs es) (hne : es ≠ []) : STst X (.BoolOp .Or es p) lk (fun st => boolR ((oOr κ lk cs st).bind fun b st1 => .ok (.bl b) st1)) := by
  intro st m fps σ H hx R
  refine wt_pt (pw_wor hne).pt (wor_imp (or_t g st m fps σ H hx.fst.fst R hne) fun b H' ⟨st1, fps1, h1, R1, g1⟩ => ?_)
  exact ⟨st1, fps1, boolR_ok (by rw [h1]; rfl), R1, g1⟩
/-! ### argument lists -/
theorem star_plain {e : Expr} (h : okE e = true) (es : List Expr) (env : Env) : starEach (e :: es) env = (false, eval e env) :: starEach es env := by
  cases e <;> first | rfl | cases h
theorem star_all : ∀ {cs : Cs} {es : List Expr}, Good X κ cs es → ∀ env, (starEach es env).any (·.1) = false
  | _, _, .nil, _ => rfl
  | _, _, .cons g gr, env => by rw [star_plain g.ok, List.any_cons, star_all gr env]; rfl
theorem back_any (pos : Pos) : ∀ (l : List (Bool × Sem Value)), (backTo pos l).any (·.1) = l.any (·.1) := by
  intro l
  unfold backTo
  induction l with
  | nil => rfl
  | cons x l ih => simp only [List.map_cons, List.any_cons, ih]
theorem sa_all : ∀ {cs : Cs} {es : List Expr}, Good X κ cs es → ∀ lk, SA X es lk (oEs κ lk cs)
  | _, _, .nil, lk => by
    intro st m fps σ H hx R
    refine wa_pa pa_nil (show WiA lk (oEs κ lk .nil st) m fps σ H [] H from ⟨[], st, by simp only [oEs], fps, [], R, .nil, Grd.refl, NF.nil⟩)
  | _, _, .cons (c := c) (cs := cs) g gr, lk => by
    intro st m fps σ H hx R
    rw [oEs] at hx ⊢
    refine wa_pa (pa_cons pe_we pa_wa (star_plain g.ok _ _)) (WE.imp (g.se lk st m fps σ H hx.fst R) fun v H1 ⟨d, st1, h1, p1⟩ => ?_)
    obtain ⟨fps1, f1, R1, r1, g1, n1⟩ := p1
    have hx1 := hx.snd h1
    refine WA.imp (sa_all gr (lkO d ++ lk) st1 m fps1 σ H1 hx1.fst R1) fun vs H2 ⟨ds, st2, h2, fps2, f2, R2, r2, g2, n2⟩ => ?_
    exact ⟨d :: ds, st2, by rw [h1, Res.bind_ok, h2, Res.bind_ok], fps2, f1 ++ f2, R2, .cons (r1.keep R1 g2 fun n hn => List.mem_append_left _ hn) r2 (r1.apart n2), g1.trans g2 R1 (fun n hn => List.mem_append_right _ hn) (R.len_le R1), n1.append (n2.trans g1)⟩
/-- the heap without what is not seen: a new object -/
theorem wi_lay {st1 : S} {m : List Addr} {fps fps1 : List (List Addr)} {σ : L2.St} {H H1 : Hp} {d : D} {fp : List Addr} {pa : Addr} {o : HO} (R1 : Rel st1 m fps1 σ H1) (g1 : Grd lk fps fps1 H H1) (hp : H1 pa = none) (nf : NF fp fps H) (hl : fps.length ≤ fps1.length)
    (r : RR (upd H1 pa o) m fps1 (.ref pa) d fp) : PostE lk st1 m fps σ H d (.ref pa) (upd H1 pa o) :=
  ⟨fps1, fp, R1.new hp, r, g1.trans (Grd.new (lk := lk) hp) R1 (fun _ h => h) hl, nf⟩
theorem nf_new {lk : List Nat} {fps fps1 : List (List Addr)} {H H1 : Hp} {pa : Addr} (g1 : Grd lk fps fps1 H H1) (hp : H1 pa = none) : H pa = none := by
  cases q : H pa with
  | none => rfl
  | some o => obtain ⟨o1, e1⟩ := g1.there pa o q; rw [hp] at e1; cases e1
theorem not_in {st : S} {m : List Addr} {fps : List (List Addr)} {σ : L2.St} {H : Hp} {pa : Addr} (R : Rel st m fps σ H) (hp : H pa = none) : ∀ f ∈ fps, pa ∉ f := fun f hf hm => by
  obtain ⟨vs, e⟩ := R.fmut f hf pa hm
  rw [hp] at e; cases e
/-- arguments, frozen -/
theorem wa_frz {cs : Cs} {es : List Expr} (g : Good X κ cs es) {st : S} {m : List Addr} {fps : List (List Addr)} {σ : L2.St} {H : Hp} {Q : List V → Hp → Prop} (hx : XO X (oEs κ lk cs st)) (R : Rel st m fps σ H) (hi : ∀ ds st1, oEs κ lk cs st = .ok ds st1 → ∃ fs, items itm ds = some fs)
    (k : ∀ ds st1 fs vs fps1 H1, oEs κ lk cs st = .ok ds st1 → items itm ds = some fs → Rel st1 m fps1 σ H1 → RFs H1 vs fs → Grd lk fps fps1 H H1 → Q vs H1) : WA X es σ H Q := by
  refine WA.ghost (sa_all g lk st m fps σ H hx R) fun vs H1 pins s ⟨ds, st1, h1, fps1, f1, R1, r1, g1, n1⟩ I => ?_
  obtain ⟨fs, hf⟩ := hi ds st1 h1
  obtain ⟨H2, I2, r2, z⟩ := freezeR I r1 hf
  have mm := r1.mem
  exact ⟨H2, I2, k ds st1 fs vs fps1 H2 h1 hf (R1.fz z mm) r2 (g1.fz z n1 fun b hb => (mm b hb).2)⟩
theorem se_tup {cs : Cs} {es : List Expr} {j} (g : Good X κ cs es) : SE X (.Tuple es j p) lk (oE κ lk (.tup cs)) := by
  intro st m fps σ H hx R
  rw [oE] at hx ⊢
  have hi : ∀ ds st1, oEs κ lk cs st = .ok ds st1 → ∃ fs, items itm ds = some fs ∧ fs.length ≤ line := fun ds st1 h1 => by
    have h2 := hx.snd h1
    cases hf : items itm ds with
    | none => simp only [hf] at h2; exact h2.elim
    | some fs =>
      simp only [hf] at h2
      by_cases hl : fs.length ≤ line
      · exact ⟨fs, rfl, hl⟩
      · rw [if_neg hl] at h2; exact h2.elim
  refine we_pe (pe_tup pa_wa) (wa_frz g hx.fst R (fun ds st1 h1 => (hi ds st1 h1).imp fun _ h => h.1) fun ds st1 fs vs fps1 H1 h1 hf R1 r1 g1 => ?_)
  obtain ⟨fs', hf', hl⟩ := hi ds st1 h1
  rw [hf] at hf'; cases hf'
  refine ⟨by rw [r1.length]; exact hl, fun pa hp => ?_⟩
  refine ⟨.tup fs, st1, by rw [h1, Res.bind_ok]; simp only [hf]; rw [if_pos hl], ?_⟩
  exact wi_lay R1 g1 hp NF.nil (R.len_le R1) (.tree (.fro (.tup upd_same (r1.mono (imm_of_ext (imm_upd hp))))) (by simp))
theorem se_lstF {cs : Cs} {es : List Expr} (g : Good X κ cs es) : SE X (.List es p) lk (oE κ lk (.lst false cs)) := by
  intro st m fps σ H hx R
  rw [oE] at hx ⊢
  have hi : ∀ ds st1, oEs κ lk cs st = .ok ds st1 → ∃ fs, items itm ds = some fs ∧ fs.length ≤ line := fun ds st1 h1 => by
    have h2 := hx.snd h1
    cases hf : items itm ds with
    | none => simp only [hf] at h2; exact h2.elim
    | some fs =>
      simp only [hf] at h2
      by_cases hl : fs.length ≤ line
      · exact ⟨fs, rfl, hl⟩
      · rw [if_neg hl] at h2; exact h2.elim
  refine we_pe (pe_lst pa_wa) (wa_frz g hx.fst R (fun ds st1 h1 => (hi ds st1 h1).imp fun _ h => h.1) fun ds st1 fs vs fps1 H1 h1 hf R1 r1 g1 => ?_)
  obtain ⟨fs', hf', hl⟩ := hi ds st1 h1
  rw [hf] at hf'; cases hf'
  refine ⟨by rw [r1.length]; exact hl, fun pa hp => ?_⟩
  refine ⟨.new fs, st1, by rw [h1, Res.bind_ok]; simp only [hf]; rw [if_pos hl], ?_⟩
  refine wi_lay R1 g1 hp (fp := [pa]) (fun b hb => ?_) (R.len_le R1) (.tree (.new upd_same (r1.mono (imm_of_ext (imm_upd hp)))) (fun b hb => ?_))
  · rw [List.mem_singleton.mp hb]; exact .inr (nf_new g1 hp)
  · rw [List.mem_singleton.mp hb]; exact not_in R1 hp
/-- results, as items of a list that may change -/
theorem RR.toL {m : List Addr} {fps : List (List Addr)} {H : Hp} {v : V} {d e : D} {fp : List Addr} (h : RR H m fps v d fp) (he : itmL d = some e) : RO H v e fp := by
  cases h with
  | tree ho _ =>
    cases ho with
    | fro h =>
      have : e = d := by cases h <;> (cases he; rfl)
      rw [this]; exact .fro h
    | new h r => cases he; exact .own h r.toO (by simp)
    | own h r n => cases he; exact .own h r n
    | oto _ _ => cases he
  | ref _ => cases he
  | clo _ => cases he
  | borN _ _ _ _ => cases he
  | borS _ _ _ _ _ => cases he
theorem RRs.toL {m : List Addr} {fps : List (List Addr)} {H : Hp} : ∀ {vs : List V} {ds es : List D} {fp : List Addr}, RRs H m fps vs ds fp → items itmL ds = some es → ROs H vs es fp
  | _, _, es, _, .nil, he => by cases he; exact .nil
  | _, d :: ds, es, _, .cons h r n, he => by
    simp only [items] at he
    split at he
    · rename_i e1 es1 h1 h2
      cases he
      exact .cons (h.toL h1) (RRs.toL r h2) n
    · cases he
theorem RR.mono_ext {m : List Addr} {fps : List (List Addr)} {H H' : Hp} {v : V} {d : D} {fp : List Addr} (h : RO H v d fp) (k : ∀ b o, H b = some o → H' b = some o) : RO H' v d fp := h.mono fun b o e _ => k b o e
theorem itmL_len : ∀ {ds es : List D} {f : D → Option D}, items f ds = some es → es.length = ds.length
  | [], es, f, h => by cases h; rfl
  | d :: ds, es, f, h => by
    simp only [items] at h
    split at h
    · rename_i e1 es1 h1 h2; cases h; simp [itmL_len h2]
    · cases h
theorem RRs.length {m : List Addr} {fps : List (List Addr)} {H : Hp} : ∀ {vs : List V} {ds : List D} {fp : List Addr}, RRs H m fps vs ds fp → vs.length = ds.length
  | _, _, _, .nil => rfl
  | _, _, _, .cons _ r _ => by simp [RRs.length r]
theorem RRs.fresh {st : S} {m : List Addr} {fps : List (List Addr)} {σ : L2.St} {H : Hp} {vs : List V} {ds : List D} {fp : List Addr} (r : RRs H m fps vs ds fp) {pa : Addr} (hp : H pa = none) : pa ∉ fp := fun h => by
  obtain ⟨⟨ws, e⟩, _⟩ := r.mem pa h
  rw [hp] at e; cases e
theorem se_lstL {cs : Cs} {es : List Expr} (g : Good X κ cs es) : SE X (.List es p) lk (oE κ lk (.lst true cs)) := by
  intro st m fps σ H hx R
  rw [oE] at hx ⊢
  refine we_pe (pe_lst pa_wa) (WA.imp (sa_all g lk st m fps σ H hx.fst R) fun vs H1 ⟨ds, st1, h1, fps1, f1, R1, r1, g1, n1⟩ => ?_)
  have h2 := hx.snd h1
  cases hf : items itmL ds with
  | none => simp only [hf] at h2; exact h2.elim
  | some fs =>
    simp only [hf] at h2
    by_cases hl : fs.length ≤ line
    · refine ⟨by rw [r1.length, ← itmL_len hf]; exact hl, fun pa hp => ?_⟩
      refine ⟨.own fs, st1, by rw [h1, Res.bind_ok]; simp only [hf]; rw [if_pos hl], ?_⟩
      have q := r1.toL hf
      refine wi_lay R1 g1 hp (fp := pa :: f1) (fun b hb => ?_) (R.len_le R1) (.tree (.own upd_same (q.mono fun b o e _ => imm_upd hp b o e) (r1.fresh (st := st) (σ := σ) hp)) (fun b hb => ?_))
      · rcases List.mem_cons.mp hb with e | hb
        · rw [e]; exact .inr (nf_new g1 hp)
        · exact n1 b hb
      · rcases List.mem_cons.mp hb with e | hb
        · rw [e]; exact not_in R1 hp
        · exact (r1.mem b hb).2
    · rw [if_neg hl] at h2; exact h2.elim
theorem se_otup {cs : Cs} {es : List Expr} {j} (g : Good X κ cs es) : SE X (.Tuple es j p) lk (oE κ lk (.otup cs)) := by
  intro st m fps σ H hx R
  rw [oE] at hx ⊢
  refine we_pe (pe_tup pa_wa) (WA.imp (sa_all g lk st m fps σ H hx.fst R) fun vs H1 ⟨ds, st1, h1, fps1, f1, R1, r1, g1, n1⟩ => ?_)
  have h2 := hx.snd h1
  cases hf : items itmL ds with
  | none => simp only [hf] at h2; exact h2.elim
  | some fs =>
    simp only [hf] at h2
    by_cases hl : fs.length ≤ line
    · refine ⟨by rw [r1.length, ← itmL_len hf]; exact hl, fun pa hp => ?_⟩
      refine ⟨.oto fs, st1, by rw [h1, Res.bind_ok]; simp only [hf]; rw [if_pos hl], ?_⟩
      have q := r1.toL hf
      exact wi_lay R1 g1 hp (fp := f1) n1 (R.len_le R1) (.tree (.oto upd_same (q.mono fun b o e _ => imm_upd hp b o e)) fun b hb => (r1.mem b hb).2)
    · rw [if_neg hl] at h2; exact h2.elim
/-! ### subscripts -/
theorem plain_ix {b : Expr} (h : okE b = true) : PlainIx b := by
  intro o i
  cases b <;> first | rfl | cases h
theorem se_idx {a b : Expr} {fa : S → Res D} {fb : List Nat → S → Res D} (c : Cxt X q κ n) (hok : okE b = true) (ha : SE X a lk fa) (hb : ∀ l, SE X b l (fb l)) :
    SE X (.Subscript a b p) lk (fun st => (fa st).bind fun x st1 => (fb (lkO x ++ lk) st1).bind fun y st2 => Res.of (opIdx st2.ce x y) st2) := by
  intro st m fps σ H hx R
  exact we2 (r := supI X) (g := fun x y ce => opIdx ce x y) (fun h => we_pe (pe_ix sup_ix pe_we pe_we (plain_ix hok)) h) supI.imp ha hb hx R fun st2 fps2 f1 f2 x y d1 d2 d H2 h3 R2 r1 r2 => idx_ok c.prog c.w c.hu R2 h3 r1 r2
/-- a thing frozen -/
theorem se_fz {a : Expr} {fa : S → Res D} (ha : SE X a lk fa) : SE X a lk (fun st => (fa st).bind fun x st1 => Res.of (fzD x) st1) := by
  intro st m fps σ H hx R
  refine WE.ghost (ha st m fps σ H hx.fst R) fun v H1 pins s ⟨d, st1, h1, fps1, f1, R1, r1, g1, n1⟩ I => ?_
  obtain ⟨e, he⟩ := (hx.snd h1).of
  have mm := r1.mem
  cases r1 with
  | tree ho hn =>
    obtain ⟨H2, I2, r2, z⟩ := freeze I ho he
    refine ⟨H2, I2, e, st1, by dsimp only; rw [h1, Res.bind_ok, he]; rfl, fps1, [], R1.fz z mm, .tree (.fro r2) (by simp), g1.fz z n1 fun b hb => (mm b hb).2, NF.nil⟩
  | ref _ => cases he
  | clo _ => cases he
  | borN _ _ _ _ => cases he
  | borS _ _ _ _ _ => cases he
end
end OV
/-! text OVL -/
namespace OV
open PySem PySem.Spec PyProof.Rows L2
variable [Tabled] [Kn]
section
variable {X : Cx} {q : SX} {κ : K} {n : Nat} {lk : List Nat} {p : Pos}
/-! ### parts of a slice -/
def tPO (X : Cx) : Option Expr → TO
  | none => tNoPart
  | some e => tPart (WE X e)
theorem po_tpo : ∀ {o : Option Expr}, PO X o (tPO X o)
  | none => po_none
  | some _ => po_some pe_we
def WiO (lk : List Nat) (r : Res (Option Int)) (m : List Addr) (fps : List (List Addr)) (σ : L2.St) (H : Hp) : Option Int → Hp → Prop := fun c H' => ∃ st' fps', r = .ok c st' ∧ Rel st' m fps' σ H' ∧ Grd lk fps fps' H H'
def SO (X : Cx) (o : Option Expr) (lk : List Nat) (f : S → Res (Option Int)) : Prop := ∀ st m fps σ H, XO X (f st) → Rel st m fps σ H → ∀ Q : Option Int → Hp → Prop, (∀ c H', WiO lk (f st) m fps σ H c H' → Q c H') → tPO X o σ H Q
theorem so_none : SO X none lk (oCo κ lk .no) := fun st m fps σ H _ R Q k => k none H ⟨st, fps, by simp only [oCo], R, Grd.refl⟩
theorem so_some {c : C} {e : Expr} (ha : SE X e lk (oE κ lk c)) : SO X (some e) lk (oCo κ lk (.so c)) := by
  intro st m fps σ H hx R Q k
  rw [oCo] at hx k
  refine WE.imp (ha st m fps σ H hx.fst R) fun x H1 ⟨d, st1, h1, fps1, f1, R1, r1, g1, n1⟩ => ?_
  have h2 := hx.snd h1
  cases d with
  | int i =>
    obtain ⟨rfl, _⟩ := r1.int
    exact ⟨i, rfl, k (some i) H1 ⟨st1, fps1, by rw [h1]; rfl, R1, g1⟩⟩
  | _ => exact h2.elim
theorem se_sl {a : Expr} {lo hi : Option Expr} {p2 : Pos} {fa : S → Res D} {fl fh : List Nat → S → Res (Option Int)} (ha : SE X a lk fa) (hl : ∀ l, SO X lo l (fl l)) (hh : ∀ l, SO X hi l (fh l)) :
    SE X (.Subscript a (.Slice lo hi none p2) p) lk (fun st => (fa st).bind fun x st1 => (fl (lkO x ++ lk) st1).bind fun l st2 => (fh (lkO x ++ lk) st2).bind fun h st3 => Res.of (opSl st3.ce x l h) st3) := by
  intro st m fps σ H hx R
  refine we_pe (pe_slice sup_sl pe_we po_tpo po_tpo) (WE.imp (ha st m fps σ H hx.fst R) fun x H1 ⟨d1, st1, h1, fps1, f1, R1, r1, g1, n1⟩ => ?_)
  have hx1 := hx.snd h1
  refine hl _ st1 m fps1 σ H1 hx1.fst R1 _ fun l H2 ⟨st2, fps2, h2, R2, g2⟩ => ?_
  have hx2 := hx1.snd h2
  refine hh _ st2 m fps2 σ H2 hx2.fst R2 _ fun h H3 ⟨st3, fps3, h3, R3, g3⟩ => ?_
  obtain ⟨d, h4⟩ := (hx2.snd h3).of
  have g23 := g2.trans g3 R2 (fun _ h => h) (R1.len_le R2)
  have r1' := r1.keep R1 g23 fun n hn => List.mem_append_left _ hn
  refine (sl_ok R3 h4 r1').imp fun v H' pv => ?_
  exact ⟨d, st3, by dsimp only; rw [h1, Res.bind_ok, h2, Res.bind_ok, h3, Res.bind_ok, h4]; rfl, pv.post R3 (g1.trans g23 R1 (fun n hn => List.mem_append_right _ hn) (R.len_le R1)) n1 (R.len_le R3)⟩
/-! ### turned about -/
theorem rev_all {ds : List D} : ds.reverse.all OV.isV = ds.all OV.isV := by rw [List.all_reverse]
theorem se_rev {a : Expr} {k : Nat} {p1 p2 p3 : Pos} {fa : S → Res D} (ha : SE X a lk fa) :
    SE X (.Subscript a (.Slice none none (some (.UnaryOp .USub (.Constant (.int 1) k p1) p2)) p3) p) lk (fun st => (fa st).bind fun x st1 => Res.of (opRev st1.ce x) st1) := by
  intro st m fps σ H hx R
  refine we_pe (pe_revL pe_we) (WE.imp (ha st m fps σ H hx.fst R) fun x H1 ⟨d1, st1, h1, fps1, f1, R1, r1, g1, n1⟩ => ?_)
  obtain ⟨d, h2⟩ := (hx.snd h1).of
  have key : ∃ ds, OV.lsV st1.ce d1 = some ds ∧ d = .new ds.reverse := by
    unfold opRev at h2
    split at h2
    · cases h2; exact ⟨_, rfl, rfl⟩
    · cases h2; exact ⟨_, rfl, rfl⟩
    · rename_i hn1 hn2
      split at h2
      · rename_i ds he
        split at h2
        · rename_i hv
          cases h2
          refine ⟨ds, ?_, rfl⟩
          unfold OV.lsV
          split
          · rename_i w; exact absurd rfl (hn1 w)
          · rename_i w; exact absurd rfl (hn2 w)
          · rw [he]; simp only [hv]; rfl
        · cases h2
      · cases h2
  obtain ⟨ds, hds, rfl⟩ := key
  obtain ⟨pa, vs, rfl, hr, rv⟩ := r1.lsV R1 hds
  refine ⟨pa, vs, rfl, rd_sqL hr, fun pb hp => ?_⟩
  exact ⟨_, st1, by dsimp only; rw [h1, Res.bind_ok, h2]; rfl, (pv_new (fin := []) R1 hp rv.reverse).post R1 g1 NF.nil (R.len_le R1)⟩
/-! ### calls of defs -/
theorem gl_of {x : Str} (c : Cxt X q κ n) (h : gloB q x = true) : Gl X x ∧ (x == ("__debug__" : Str)) = false ∧ x ≠ "__name__" := by
  unfold gloB at h
  simp only [Bool.and_eq_true, decide_eq_true_eq] at h
  refine ⟨?_, by simp [h.1.2], h.2⟩
  show X.env.scope.names.lookup x = _
  rw [c.sc]; exact h.1.1
theorem RelC.of {st : S} {m : List Addr} {fps : List (List Addr)} {σ : L2.St} {H : Hp} (R : Rel st m fps σ H) : RelC st.ce m fps H := ⟨rfl, fun i d e => by simp at e, R.mlen, R.flen, R.ce, R.dead, R.dis, R.tab⟩
theorem RelC.back {st : S} {ce : Ce} {m : List Addr} {fps fps' : List (List Addr)} {σ : L2.St} {H H' : Hp} (R : Rel st m fps σ H) (g : Grd lk fps fps' H H') (R' : RelC ce m fps' H') : Rel ⟨st.sl, ce⟩ m fps' σ H' := by
  refine ⟨R.slen, fun i d e => ?_, R'.mlen, R'.flen, R'.ce, R'.dead, R'.dis, R'.tab⟩
  obtain ⟨v, h1, h2⟩ := R.sl i d e
  exact ⟨v, h1, h2.mono (g.imm R)⟩
/-- what the caught cells hold, at a call -/
theorem knAt_call {pins : List (Addr × Obj)} {σ : L2.St} {H : Hp} {s : Shared} (h1 : KnAt X.s_0 X.H_0 X.fs) (h2 : ∀ c v, Kn.kn c v → c ∉ X.ex) (I : Inv X pins σ H s) : KnAt s H (frs X.stack) := fun c v h => by
  obtain ⟨⟨u, ru, o, ho, hd⟩, n, nf⟩ := h1 c v h
  have nx := h2 c v h
  refine ⟨⟨u, ru, o, I.base.keep c o ho n nf nx, hd⟩, I.base.free c o ho n nx, fun hm => ?_⟩
  rcases List.mem_cons.mp (I.stkSub c hm) with z | z
  · rw [z] at ho
    exact absurd (Nat.lt_of_lt_of_le (Heap.lt_size ho) I.ok.above) (Nat.lt_irrefl _)
  · exact nf z
/-- the callee runs -/
theorem run_g {k : Nat} {f : Addr} {fd : FuncData} {ps : List Str} {sp : Sp} {E : XK} {pins : List (Addr × Obj)} {σ : L2.St} {H : Hp} {s : Shared} {Q : VK} {us : List Value} {vs : List V} (F : FnG X.prog X.w X.K X.mg X.base k f fd ps sp) (hr : Room k X.A) (hg : X.A.guards = some []) (hb : Binds X.K fd ps []) (hx : Passes (L2.CX X.prog X.w) X E)
    (I : Inv X pins σ H s) (kn : KnAt s H (frs X.stack)) (r : Vals vs us) (h : sp vs H Q E) : wpAny (model X.prog X.w) X.A (PySem.call (.ref f) us) (EP X pins σ Q) X.xe s := by
  have hl : us.length = ps.length := by rw [← r.length]; exact F.len _ _ _ _ h
  have hb' := hb s us I.kIn (by rw [List.append_nil]; exact hl)
  rw [List.append_nil] at hb'
  refine wpAny_call (codeAny_mono (F.run X.A X.stack s H ⟨us, []⟩ us vs Q E hr hg I.env0 kn hb' r h) fun r s' hq => ?_)
  cases r with
  | error e => exact hx pins σ H s e s' I hq
  | ok fl =>
    cases fl with
    | ret u => exact I.after hq
    | next => exact False.elim hq
    | brk => exact False.elim hq
    | cont => exact False.elim hq
/-- a lambda runs -/
theorem run_la {E : XK} {pins : List (Addr × Obj)} {σ : L2.St} {H : Hp} {s : Shared} {Q : VK} {us : List Value} {vs : List V} {a : Addr} {j : Nat} {cs ds : List D} {lk' : List Nat} {ce : Ce} {m : List Addr} {fps : List (List Addr)} (F : LaG X.prog X.w X.K X.mg X.base n κ) (hr : Room n X.A) (hg : X.A.guards = some []) (hx : Passes (L2.CX X.prog X.w) X E)
    (I : Inv X pins σ H s) (kn : KnAt s H (frs X.stack)) (hc : Cl H (.ref a) (.clo j cs)) (r : Vals vs us) (R : RelC ce m fps H) (rt : RTs H m vs ds) (h : spR X.mg (κ.la j cs ds lk' ce) lk' m fps H Q E) : wpAny (model X.prog X.w) X.A (PySem.call (.ref a) us) (EP X pins σ Q) X.xe s := by
  refine wpAny_call (codeAny_mono (F.run X.A X.stack s H a us vs Q E j cs ds lk' ce m fps hr hg I.env0 kn hc r R rt h) fun r s' hq => ?_)
  cases r with
  | error e => exact hx pins σ H s e s' I hq
  | ok fl =>
    cases fl with
    | ret u => exact I.after hq
    | next => exact False.elim hq
    | brk => exact False.elim hq
    | cont => exact False.elim hq
theorem XO.args {r : Res (List D)} (h : XO X (argsR r)) {ds : List D} {st : S} (e : r = .ok ds st) : ∃ fs, items arg ds = some fs := by
  unfold argsR at h
  exact (h.snd e).of
theorem argsR_ok {r : Res (List D)} {ds fs : List D} {st : S} (e : r = .ok ds st) (h : items arg ds = some fs) : argsR r = .ok fs st := by
  unfold argsR; rw [e, Res.bind_ok, h]; rfl
theorem RTs.length {H : Hp} {m : List Addr} : ∀ {vs : List V} {ds : List D}, RTs H m vs ds → vs.length = ds.length
  | _, _, .nil => rfl
  | _, _, .cons _ r => by simp [RTs.length r]
theorem FR.no_of {X : Cx} {r : FR} {sl : List (Option D)} (h : XO X (r.res sl)) : r ≠ .no := fun e => by rw [e] at h; exact h
/-- an end is what the call wants -/
theorem res_end {ρ : FR} {st st1 : S} {m : List Addr} {fps fps1 : List (List Addr)} {σ : L2.St} {H H1 : Hp} {r : Res D} (R : Rel st m fps σ H) (R1 : Rel st1 m fps1 σ H1) (g1 : Grd lk fps fps1 H H1) (hn : ρ ≠ .no) (hr : ∀ d ce, ρ = .ok d ce → r = .ok d ⟨st1.sl, ce⟩) :
    spR X.mg ρ lk m fps1 H1 (WiE lk r m fps σ H) (fun u d H' => ∃ c a ce', ρ = .ex c a ce' ∧ excK X.mg c a u d H') := by
  refine ⟨hn, fun d ce' e v H' fps' fp Rc rr _ g nf => ?_, fun c a ce' e u d H' h => ⟨c, a, ce', e, h⟩⟩
  have R2 := RelC.back R1 g Rc
  exact ⟨d, ⟨st1.sl, ce'⟩, hr d ce' e, fps', fp, R2, rr, g1.trans g R1 (fun _ h => h) (R.len_le R1), nf.trans g1⟩
theorem passes_ex {r : FR} {sl : List (Option D)} (hx : XO X (r.res sl)) : Passes (L2.CX X.prog X.w) X (fun u d H' => ∃ c a ce', r = .ex c a ce' ∧ excK X.mg c a u d H') := by
  intro pins σ H s e s' I h
  obtain ⟨a, B, H', cls, d, e1, e2, e3, e4, e5, e6, e7, c, ad, ce', hr, hk⟩ := h
  subst hr
  exact hx pins σ H s e s' I ⟨a, B, H', cls, d, e1, e2, e3, e4, e5, e6, e7, hk⟩
theorem se_call {f : Str} {cs : Cs} {es : List Expr} {p' : Pos} (c : Cxt X q κ n) (hdf : q.df.contains f = true) (h : gloB q f = true) (g : Good X κ cs es) : SE X (.Call (.Name f p') es [] p) lk (oE κ lk (.call f cs)) := by
  intro st m fps σ H hx R
  rw [oE] at hx ⊢
  obtain ⟨hg, hdb, _⟩ := gl_of c h
  -- the callee, once the arguments stand
  have go : ∀ {pins : List (Addr × Obj)} {s1 : Shared} {ds fs : List D} {st1 : S} {us : List Value} {vs : List V} {fps1 : List (List Addr)} {H1 : Hp}, oEs κ lk cs st = .ok ds st1 → items arg ds = some fs → Rel st1 m fps1 σ H1 → RTs H1 m vs fs → Grd lk fps fps1 H H1 → Inv X pins σ H1 s1 → Vals vs us →
      ∃ fa, X.mg f = some (.ref fa) ∧ PySem.W.keepIn X.K (.ref fa) = true ∧ wpAny (model X.prog X.w) X.A (PySem.call (.ref fa) us) (EP X pins σ (WiE lk ((argsR (oEs κ lk cs st)).bind fun ds st1 => (κ.fn f ds lk st1.ce).res st1.sl) m fps σ H)) X.xe s1 := by
    intro pins s1 ds fs st1 us vs fps1 H1 h1 hf R1 rt g1 I1 rv
    have e1 := argsR_ok h1 hf
    have hx1 := hx.snd e1
    have hno := FR.no_of hx1
    obtain ⟨fa, fd, ps, hm, hk, hb, hl, F⟩ := c.tab f fs lk st1.ce hno
    have F := F inferInstance
    exact ⟨fa, hm, hk, run_g F c.room c.guards hb (passes_ex hx1) I1 (knAt_call c.kn c.knx I1) rv ⟨by rw [rt.length]; exact hl, fs, lk, st1.ce, m, fps1, .of R1, rt, res_end R R1 g1 hno fun d ce e => by rw [e1, Res.bind_ok, e]; rfl⟩⟩
  cases g with
  | nil =>
    refine fun pins s I => ?_
    have h1 : oEs κ lk .nil st = .ok [] st := by simp only [oEs]
    obtain ⟨fa, hm, hk, run⟩ := go (pins := pins) (us := []) h1 (fs := []) rfl R .nil Grd.refl I .nil
    exact wpAny_Call_Name_kw (ld_glob I hg hm (PySem.W.callWith_K0 I.kIn hk run) hdb)
  | @cons c1 cs' e es' g gr =>
    refine fun pins s I => ?_
    have args := WA.ghost (Q := fun vs H1 => ∃ ds fs st1 fps1, oEs κ lk (.cons c1 cs') st = .ok ds st1 ∧ items arg ds = some fs ∧ Rel st1 m fps1 σ H1 ∧ RTs H1 m vs fs ∧ Grd lk fps fps1 H H1) (sa_all (.cons g gr) lk st m fps σ H (by
        have := hx.fst; unfold argsR at this; exact this.fst) R) fun vs H1 pins s ⟨ds, st1, h1, fps1, f1, R1, r1, g1, n1⟩ I => by
      obtain ⟨fs, hf⟩ := XO.args hx.fst h1
      obtain ⟨H2, I2, r2, z⟩ := freezeA I r1 hf
      have mm := r1.mem
      exact ⟨H2, I2, ds, fs, st1, fps1, h1, hf, R1.fz z mm, r2, g1.fz z n1 fun b hb => (mm b hb).2⟩
    obtain ⟨fa, hm, hk⟩ := c.dfs f hdf
    refine wpAny_Call_Name_kw (ld_glob I hg hm ?_ hdb)
    refine PySem.W.callWith_K (h₀ := X.base) I.ok.mod.kin hk (thn (args p pins s I) fun us s1 ⟨vs, H1, I1, rv, ds, fs, st1, fps1, h1, hf, R1, rt, g1⟩ => ⟨I1.kIn, ?_⟩) (star_plain g.ok _ _) (by rw [back_any]; exact star_all gr _)
    obtain ⟨fa', hm', _, run⟩ := go h1 hf R1 rt g1 I1 rv
    rw [hm] at hm'; cases hm'
    exact run
/-! ### calls of built-ins -/
theorem blt_of {x : Str} (c : Cxt X q κ n) (h : bfNames.contains x = true) : X.mg x = none := c.blt x (by simpa using h)
theorem bf_boot (f : BF) : bootBuiltins (bfName f) = some (bfVal f) := by cases f <;> rfl
theorem bf_in (f : BF) : bfNames.contains (bfName f) = true := by cases f <;> first | decide +kernel | (show bfNames.contains ("isinstance" : Str) = true; decide +kernel)
theorem se_callB {f : BF} {cs : Cs} {es : List Expr} {p' : Pos} (c : Cxt X q κ n) (hp : plainB f = true) (h : gloB q (bfName f) = true) (g : Good X κ cs es) (hne : es ≠ []) : SE X (.Call (.Name (bfName f) p') es [] p) lk (oE κ lk (.callB f cs)) := by
  intro st m fps σ H hx R
  rw [oE] at hx ⊢
  obtain ⟨hg, hdb, hn⟩ := gl_of c h
  have hm := blt_of c (bf_in f)
  have hv := bf_boot f
  cases g with
  | nil => exact absurd rfl hne
  | @cons c1 cs' e es' g gr =>
    have fin : tCB (supC X (bfVal f)) (WA X (e :: es')) σ H (WiE lk ((oEs κ lk (.cons c1 cs') st).bind fun ds st1 => Res.of (opB st1.ce f ds) st1) m fps σ H) := by
      refine WA.imp (sa_all (.cons g gr) lk st m fps σ H hx.fst R) fun vs H1 ⟨ds, st1, h1, fps1, f1, R1, r1, g1, n1⟩ => ?_
      obtain ⟨d, h2⟩ := (hx.snd h1).of
      exact (b_ok hp c.calm c.guards c.hu R1 h2 r1).imp fun v H' pv => ⟨d, st1, by rw [h1, Res.bind_ok, h2]; rfl, pv.post R1 g1 NF.nil (R.len_le R1)⟩
    have he := star_plain g.ok es' X.env
    have hpl : (backTo p (starEach es' X.env)).any (·.1) = false := by rw [back_any]; exact star_all gr _
    cases hbf : bfVal f with
    | builtin id => rw [hbf] at fin hv; exact we_pe (pe_callB sup_call hg hm hv pa_wa hn hdb he hpl) fin
    | type T => rw [hbf] at fin hv; exact we_pe (pe_callTy sup_call hg hm hv pa_wa hn hdb he hpl) fin
    | _ => cases f <;> cases hbf
/-! ### isinstance -/
def tyS : Ty → String
  | .int => "int" | .bool => "bool" | .str => "str" | .list => "list" | .tuple => "tuple"
theorem ty_boot (t : Ty) : bootBuiltins (tyName t) = some (.type (tyS t)) := by cases t <;> rfl
theorem ty_in (t : Ty) : bfNames.contains (tyName t) = true := by cases t <;> decide +kernel
theorem kB_b {K : PySem.W.Frag} (t : Ty) : PySem.W.kitOne K (.type "bool") (.type (tyS t)) = some (t == .int || t == .bool) := kit_ty (by cases t <;> decide +kernel)
theorem kB_i {K : PySem.W.Frag} (t : Ty) : PySem.W.kitOne K (.type "int") (.type (tyS t)) = some (t == .int) := kit_ty (by cases t <;> decide +kernel)
theorem kB_s {K : PySem.W.Frag} (t : Ty) : PySem.W.kitOne K (.type "str") (.type (tyS t)) = some (t == .str) := kit_ty (by cases t <;> decide +kernel)
theorem kB_n {K : PySem.W.Frag} (t : Ty) : PySem.W.kitOne K (.type "NoneType") (.type (tyS t)) = some false := kit_ty (by cases t <;> decide +kernel)
theorem kB_t {K : PySem.W.Frag} (t : Ty) : PySem.W.kitOne K (.type "tuple") (.type (tyS t)) = some (t == .tuple) := kit_ty (by cases t <;> decide +kernel)
theorem kB_l {K : PySem.W.Frag} (t : Ty) : PySem.W.kitOne K (.type "list") (.type (tyS t)) = some (t == .list) := kit_ty (by cases t <;> decide +kernel)
theorem ty_ok {st : S} {m : List Addr} {fps : List (List Addr)} {σ : L2.St} {H : Hp} {x : V} {d : D} {fp : List Addr} (R : Rel st m fps σ H) (r : RR H m fps x d fp) : ∀ {t : Ty} {b : Bool}, hasTy st.ce t d = some b → ∃ tv, TyX X.K H x tv ∧ ∀ t b, hasTy st.ce t d = some b → PySem.W.kitOne X.K tv (.type (tyS t)) = some b := by
  intro t b h
  have ls : ∀ {ds : List D}, OV.seqL st.ce d = some ds → TyX X.K H x (.type "list") := fun {ds} e => by
    obtain ⟨a, vs, f, rfl, h1, _⟩ := r.seqL R e
    rcases h1 with h1 | ⟨o, h1⟩
    · exact .base (.lst h1)
    · exact .base (.frz h1)
  cases d with
  | non => obtain ⟨r1, _⟩ := r.ofV rfl; cases r1; exact ⟨_, .base .non, fun t b h => by cases h; exact kB_n t⟩
  | bl _ => obtain ⟨r1, _⟩ := r.ofV rfl; cases r1; exact ⟨_, .base (.bl _), fun t b h => by cases h; exact kB_b t⟩
  | int _ => obtain ⟨r1, _⟩ := r.ofV rfl; cases r1; exact ⟨_, .base (.int _), fun t b h => by cases h; exact kB_i t⟩
  | str _ => obtain ⟨r1, _⟩ := r.ofV rfl; cases r1; exact ⟨_, .base (.str _), fun t b h => by cases h; exact kB_s t⟩
  | tup ds => obtain ⟨a, vs, rfl, h1, _, _⟩ := r.tupv; exact ⟨_, .base (.tup h1), fun t b h => by cases h; exact kB_t t⟩
  | oto ds =>
    cases r with
    | tree ho _ =>
      cases ho with
      | oto h1 _ => exact ⟨_, .base (.tup h1), fun t b h => by cases h; exact kB_t t⟩
      | fro h1 => cases h1
  | lst ds => exact ⟨_, ls (by rfl), fun t b h => by cases h; exact kB_l t⟩
  | new ds => exact ⟨_, ls (by rfl), fun t b h => by cases h; exact kB_l t⟩
  | own ds => exact ⟨_, ls (by rfl), fun t b h => by cases h; exact kB_l t⟩
  | bor k ds => exact ⟨_, ls (by rfl), fun t b h => by cases h; exact kB_l t⟩
  | ref k =>
    cases e : cellL st.ce k with
    | none => simp only [hasTy, e] at h; cases h
    | some ds => exact ⟨_, ls (ds := ds) e, fun t b h => by simp only [hasTy, e] at h; cases h; exact kB_l t⟩
  | _ => cases h
theorem pe_ty {t : Ty} {p' : Pos} (c : Cxt X q κ n) (h : gloB q (tyName t) = true) : PE X (.Name (tyName t) p') (tC (.ty (tyS t))) := by
  obtain ⟨hg, hdb, hn⟩ := gl_of c h
  exact pe_bltn hg (blt_of c (ty_in t)) (ty_boot t) rfl hn hdb
theorem se_isI {t : Ty} {c0 : C} {e : Expr} {p' p1 : Pos} (c : Cxt X q κ n) (h : gloB q ("isinstance" : Str) = true) (ht : gloB q (tyName t) = true) (g : GoodE X κ c0 e) : SE X (.Call (.Name "isinstance" p') [e, .Name (tyName t) p1] [] p) lk (oE κ lk (.callB (.isI t) (.cons c0 .nil))) := by
  intro st m fps σ H hx R
  rw [oE, oEs] at hx ⊢
  obtain ⟨hg, hdb, hn⟩ := gl_of c h
  refine we_pe (pe_callB (id := "isinstance") call_isi hg (blt_of c (by decide +kernel)) rfl (pa_cons pe_we (pa_cons (pe_ty c ht) pa_nil) (star_plain g.ok _ _)) hn hdb (star_plain g.ok _ _) (by rw [back_any]; rfl)) ?_
  refine WE.imp (g.se lk st m fps σ H hx.fst.fst R) fun v H1 ⟨d, st1, h1, fps1, f1, R1, r1, g1, n1⟩ => ?_
  have hd : (do let d ← some d; some d : Option D) = some d := rfl
  have e2 : (oE κ lk c0 st).bind (fun d st1 => (oEs κ (lkO d ++ lk) .nil st1).bind fun ds st2 => .ok (d :: ds) st2) = .ok [d] st1 := by rw [h1, Res.bind_ok]; simp only [oEs]; rfl
  obtain ⟨b, h2⟩ := (hx.snd e2).of
  cases h3 : hasTy st1.ce t d with
  | none => simp only [opB, h3] at h2; cases h2
  | some b' =>
    obtain ⟨tv, ty, k⟩ := ty_ok (X := X) R1 r1 h3
    refine ⟨v, .ty (tyS t), tv, .type (tyS t), b', rfl, .ty _, ty, k t b' h3, ?_⟩
    exact ⟨.bl b', st1, by rw [e2, Res.bind_ok]; simp only [opB, h3]; rfl, fps1, [], R1, .tree (.fro (.bl _)) (by simp), g1, NF.nil⟩
theorem se_isI2 {t u : Ty} {c0 : C} {e : Expr} {j : _} {p' p1 p2 p3 : Pos} (c : Cxt X q κ n) (h : gloB q ("isinstance" : Str) = true) (ht : gloB q (tyName t) = true) (hu : gloB q (tyName u) = true) (g : GoodE X κ c0 e) : SE X (.Call (.Name "isinstance" p') [e, .Tuple [.Name (tyName t) p1, .Name (tyName u) p2] j p3] [] p) lk (oE κ lk (.callB (.isI2 t u) (.cons c0 .nil))) := by
  intro st m fps σ H hx R
  rw [oE, oEs] at hx ⊢
  obtain ⟨hg, hdb, hn⟩ := gl_of c h
  refine we_pe (pe_callB (id := "isinstance") call_isiT hg (blt_of c (by decide +kernel)) rfl (pa_cons pe_we (pa_cons (pe_tup (pa_cons (pe_ty c ht) (pa_cons (pe_ty c hu) pa_nil))) pa_nil) (star_plain g.ok _ _)) hn hdb (star_plain g.ok _ _) (by rw [back_any]; rfl)) ?_
  refine WE.imp (g.se lk st m fps σ H hx.fst.fst R) fun v H1 ⟨d, st1, h1, fps1, f1, R1, r1, g1, n1⟩ => ?_
  have e2 : (oE κ lk c0 st).bind (fun d st1 => (oEs κ (lkO d ++ lk) .nil st1).bind fun ds st2 => .ok (d :: ds) st2) = .ok [d] st1 := by rw [h1, Res.bind_ok]; simp only [oEs]; rfl
  obtain ⟨b, h2⟩ := (hx.snd e2).of
  cases h3 : hasTy st1.ce t d with
  | none => simp only [opB, h3] at h2; cases h2
  | some b1 =>
    cases h4 : hasTy st1.ce u d with
    | none => simp only [opB, h3, h4] at h2; cases h2
    | some b2 =>
      refine ⟨by show 2 ≤ sizeLine; rw [sizeLine_eq]; omega, fun pa hp => ?_⟩
      have R2 : Rel st1 m fps1 σ (upd H1 pa (.tup [.ty (tyS t), .ty (tyS u)])) := R1.new hp
      have r2 := r1.keep (lk := lkO d) R1 (Grd.new (o := .tup [.ty (tyS t), .ty (tyS u)]) hp) fun _ h => h
      obtain ⟨tv, ty, k⟩ := ty_ok (X := X) R2 r2 h3
      refine ⟨v, pa, [.ty (tyS t), .ty (tyS u)], tv, [.type (tyS t), .type (tyS u)], b1 || b2, rfl, upd_same, .cons (.ty _) (.cons (.ty _) .nil), ty, ?_, ?_⟩
      · exact kitAny_cons (k t b1 h3) (fun e => by subst e; exact kitAny_cons (k u b2 h4) (fun e => by subst e; exact kitAny_nil) fun e => by subst e; rfl) fun e => by subst e; rfl
      · exact ⟨.bl (b1 || b2), st1, by rw [e2, Res.bind_ok]; simp only [opB, h3, h4]; rfl, fps1, [], R2, .tree (.fro (.bl _)) (by simp), g1.trans (Grd.new (lk := lk) hp) R1 (fun _ h => h) (R.len_le R1), NF.nil⟩
end
end OV
/-! text OVM -/
namespace OV
open PySem PySem.Spec PyProof.Rows L2
variable [Tabled] [Kn]
/-! Paths into a cell, and what is changed there. -/
def hP (H : Hp) : Addr → List Int → Option Addr
  | a, [] => some a
  | a, i :: is => match H a with
    | some (.lst vs) => match L2.atI vs i with
      | some (.ref b) => hP H b is
      | _ => none
    | _ => none
theorem hP_snoc {H : Hp} : ∀ {is : List Int} {a b c : Addr} {j : Int}, hP H a is = some b → hP H a (is ++ [j]) = some c → ∃ vs, H b = some (.lst vs) ∧ L2.atI vs j = some (.ref c)
  | [], a, b, c, j, h, k => by
    cases h
    simp only [List.nil_append, hP] at k
    split at k
    · rename_i vs hv
      split at k
      · rename_i b' hb; cases k; exact ⟨vs, hv, hb⟩
      · cases k
    · cases k
  | i :: is, a, b, c, j, h, k => by
    simp only [List.cons_append, hP] at h k
    split at h
    · rename_i vs hv
      split at h
      · rename_i b' hb
        rw [hv] at k
        simp only [hb] at k
        exact hP_snoc h k
      · cases h
    · cases h
/-- one of the things, exchanged -/
theorem ROs.split {H : Hp} : ∀ {vs : List V} {ds : List D} {fp : List Addr} {j : Nat} {e : D}, ROs H vs ds fp → ds[j]? = some e → ∃ v f, vs[j]? = some v ∧ RO H v e f ∧ (∀ c ∈ f, c ∈ fp) ∧
    ∀ (H2 : Hp) (e2 : D) (f2 : List Addr), (∀ c o, H c = some o → OV.imm o = true ∨ (c ∈ fp ∧ c ∉ f) → H2 c = some o) → RO H2 v e2 f2 → (∀ c ∈ f2, c ∈ f ∨ c ∉ fp) → ∃ fp2, ROs H2 vs (ds.set j e2) fp2 ∧ ∀ c ∈ fp2, (c ∈ fp ∧ c ∉ f) ∨ c ∈ f2
  | _, _, _, _, _, .nil, he => by simp at he
  | _, _, _, 0, e, .cons (v := v) (vs := vs) (ds := ds) (f := f) (g := g) h r n, he => by
    simp at he; subst he
    refine ⟨v, f, rfl, h, fun c hc => List.mem_append_left _ hc, fun H2 e2 f2 k h2 hf => ?_⟩
    have ng : ∀ c ∈ g, c ∉ f := fun c hc hf' => n c hf' hc
    refine ⟨f2 ++ g, .cons h2 (r.mono fun b o eb i => k b o eb (i.imp id fun hb => ⟨List.mem_append_right _ hb, ng b hb⟩)) fun a ha hg => ?_, fun c hc => ?_⟩
    · rcases hf a ha with h' | h'
      · exact n a h' hg
      · exact h' (List.mem_append_right _ hg)
    · rcases List.mem_append.mp hc with hc | hc
      · exact .inr hc
      · exact .inl ⟨List.mem_append_right _ hc, ng c hc⟩
  | _, _, _, j + 1, e, .cons (v := v0) (d := d0) (f := f0) (g := g) h r n, he => by
    obtain ⟨v, f, h1, h2, h3, h4⟩ := ROs.split (j := j) (e := e) r (by simpa using he)
    have nf : ∀ c ∈ f0, c ∉ f := fun c hc hf' => n c hc (h3 c hf')
    refine ⟨v, f, by simpa using h1, h2, fun c hc => List.mem_append_right _ (h3 c hc), fun H2 e2 f2 k ho hf => ?_⟩
    obtain ⟨fp2, q1, q2⟩ := h4 H2 e2 f2 (fun c o ec i => k c o ec (i.imp id fun z => ⟨List.mem_append_right _ z.1, z.2⟩)) ho (fun c hc => (hf c hc).imp id fun z y => z (List.mem_append_right _ y))
    refine ⟨f0 ++ fp2, .cons (h.mono fun b o eb i => k b o eb (i.imp id fun hb => ⟨List.mem_append_left _ hb, nf b hb⟩)) q1 fun a ha h2' => ?_, fun c hc => ?_⟩
    · rcases q2 a h2' with z | z
      · exact n a ha z.1
      · rcases hf a z with z | z
        · exact nf a ha z
        · exact z (List.mem_append_left _ ha)
    · rcases List.mem_append.mp hc with hc | hc
      · exact .inl ⟨List.mem_append_left _ hc, nf c hc⟩
      · rcases q2 c hc with z | z
        · exact .inl ⟨List.mem_append_right _ z.1, z.2⟩
        · exact .inr z
theorem RO.own_inv {H : Hp} {v : V} {ds : List D} {f : List Addr} (h : RO H v (.own ds) f) : ∃ a vs g, v = .ref a ∧ H a = some (.lst vs) ∧ ROs H vs ds g ∧ a ∉ g ∧ f = a :: g := by
  cases h with
  | fro h => cases h
  | own h r n => exact ⟨_, _, _, rfl, h, r, n, rfl⟩
theorem atP_own {d e : D} {is : List Int} {ds : List D} (h : atP d is = some (.own ds)) : ∃ es, d = .own es := by
  cases is with
  | nil => cases h; exact ⟨_, rfl⟩
  | cons i is =>
    cases d <;> first | exact ⟨_, rfl⟩ | cases h
/-- what lies at a path, and what comes of changing it -/
theorem ro_at {H : Hp} : ∀ {is : List Int} {a : Addr} {d : D} {f : List Addr} {ds : List D}, RO H (.ref a) d f → atP d is = some (.own ds) → ∃ b vs g, hP H a is = some b ∧ H b = some (.lst vs) ∧ ROs H vs ds g ∧ b ∉ g ∧ (∀ c ∈ b :: g, c ∈ f) ∧
    (∀ H' : Hp, (∀ c ∈ f, ∀ o, H c = some o → H' c = some o) → hP H' a is = some b) ∧
    ∀ (fn : List D → Option (List D)) (es : List D) (d' : D) (H2 : Hp) (ws : List V) (g' : List Addr), fn ds = some es → modP fn is d = some d' → (∀ c o, c ≠ b → H c = some o → OV.imm o = true ∨ c ∈ f → H2 c = some o ∨ c ∈ g) → H2 b = some (.lst ws) → ROs H2 ws es g' → b ∉ g' → (∀ c ∈ g', c ∈ g ∨ c ∉ f) →
      ∃ f', RO H2 (.ref a) d' f' ∧ OV.isV d' = false ∧ ∀ c ∈ f', (c ∈ f ∧ c ∉ g) ∨ c ∈ g'
  | [], a, d, f, ds, h, e => by
    cases e
    obtain ⟨a', vs, g, ea, h1, r, n, rfl⟩ := h.own_inv
    cases ea
    refine ⟨a, vs, g, rfl, h1, r, n, fun c hc => hc, fun _ _ => rfl, fun fn es d' H2 ws g' hf hm hk hb hr hn hg => ?_⟩
    simp only [modP, hf] at hm
    cases hm
    refine ⟨a :: g', .own hb hr hn, rfl, fun c hc => ?_⟩
    rcases List.mem_cons.mp hc with e | hc
    · rw [e]; exact .inl ⟨List.mem_cons_self, n⟩
    · exact .inr hc
  | i :: is, a, d, f, ds, h, e => by
    cases d with
    | own ds0 =>
      obtain ⟨a', vs, fp, ea, h1, r, n, rfl⟩ := h.own_inv
      cases ea
      simp only [atP] at e
      split at e
      · rename_i e1 he1
        obtain ⟨es1, rfl⟩ := atP_own (e := e1) e
        have hix : ∃ j, L2.ixN ds0.length i = some j ∧ ds0[j]? = some (.own es1) := by
          unfold L2.atI at he1
          cases hj : L2.ixN ds0.length i with
          | none => rw [hj] at he1; cases he1
          | some j => rw [hj] at he1; exact ⟨j, rfl, he1⟩
        obtain ⟨j, hj, hdj⟩ := hix
        obtain ⟨v, fe, hv, ho, hsub, hex⟩ := r.split hdj
        obtain ⟨a1, vs1, g1, rfl, h1', r1, n1, rfl⟩ := ho.own_inv
        obtain ⟨b, vsb, g, p1, p2, p3, p4, p5, p6, p7⟩ := ro_at ho e
        have hat : L2.atI vs i = some (.ref a1) := by
          unfold L2.atI; rw [r.length, hj]; exact hv
        refine ⟨b, vsb, g, ?_, p2, p3, p4, fun c hc => List.mem_cons_of_mem _ (hsub c (p5 c hc)), fun H' k => ?_, fun fn es d' H2 ws g' hf hm hk hb hr hn hg => ?_⟩
        · simp only [hP, h1, hat]; exact p1
        · simp only [hP, k a List.mem_cons_self _ h1, hat]
          exact p6 H' fun c hc => k c (List.mem_cons_of_mem _ (hsub c hc))
        · simp only [modP, hj, hdj] at hm
          split at hm
          · rename_i e2 he2
            cases hm
            have ne : ∀ c ∈ (b :: g), c ∈ fp := fun c hc => hsub c (p5 c hc)
            have keep : ∀ c o, H c = some o → OV.imm o = true ∨ (c ∈ a :: fp ∧ c ∉ (b :: g)) → H2 c = some o := fun c o ec i => by
              have cb : c ≠ b := fun z => by
                subst z
                rcases i with i | i
                · rw [p2] at ec; cases ec; cases i
                · exact i.2 List.mem_cons_self
              rcases hk c o cb ec (i.imp id And.left) with z | z
              · exact z
              · rcases i with i | i
                · obtain ⟨ws', hw⟩ := p3.mut c z
                  rw [ec] at hw; cases hw; cases i
                · exact absurd (List.mem_cons_of_mem _ z) i.2
            obtain ⟨f2, q1, _, q2⟩ := p7 fn es e2 H2 ws g' hf he2 (fun c o cb ec i => hk c o cb ec (i.imp id fun z => List.mem_cons_of_mem _ (hsub c z))) hb hr hn (fun c hc => (hg c hc).imp id fun z y => z (List.mem_cons_of_mem _ (hsub c y)))
            have na : a ∉ b :: g := fun z => n (ne a z)
            obtain ⟨fp2, t1, t2⟩ := hex H2 e2 f2 (fun c o ec i => keep c o ec (i.imp id fun z => ⟨List.mem_cons_of_mem _ z.1, fun y => z.2 (p5 c y)⟩)) q1 (fun c hc => by
              rcases q2 c hc with z | z
              · exact .inl z.1
              · rcases hg c z with z | z
                · exact .inl (p5 c (List.mem_cons_of_mem _ z))
                · exact .inr fun y => z (List.mem_cons_of_mem _ y))
            have mem2 : ∀ c ∈ fp2, (c ∈ fp ∧ c ∉ g) ∨ c ∈ g' := fun c hc => by
              rcases t2 c hc with z | z
              · exact .inl ⟨z.1, fun y => z.2 (p5 c (List.mem_cons_of_mem _ y))⟩
              · rcases q2 c z with z | z
                · exact .inl ⟨hsub c z.1, z.2⟩
                · exact .inr z
            refine ⟨a :: fp2, .own (keep a _ h1 (.inr ⟨List.mem_cons_self, na⟩)) t1 (fun z => ?_), rfl, fun c hc => ?_⟩
            · rcases mem2 a z with y | y
              · exact n y.1
              · rcases hg a y with y | y
                · exact na (List.mem_cons_of_mem _ y)
                · exact y List.mem_cons_self
            · rcases List.mem_cons.mp hc with e | hc
              · rw [e]; exact .inl ⟨List.mem_cons_self, fun y => na (List.mem_cons_of_mem _ y)⟩
              · exact (mem2 c hc).imp (fun z => ⟨List.mem_cons_of_mem _ z.1, z.2⟩) id
          · cases hm
      · cases e
    | _ => cases e
end OV
/-! text OVN -/
namespace OV
open PySem PySem.Spec PyProof.Rows L2
variable [Tabled] [Kn]
theorem modP_at {fn : List D → Option (List D)} : ∀ {is : List Int} {d d' : D} {ds : List D}, atP d is = some (.own ds) → modP fn is d = some d' → ∃ es, fn ds = some es
  | [], d, d', ds, h, k => by
    cases h
    simp only [modP] at k
    split at k
    · rename_i es he; exact ⟨es, he⟩
    · cases k
  | i :: is, d, d', ds, h, k => by
    cases d with
    | own ds0 =>
      simp only [atP] at h
      split at h
      · rename_i e1 he1
        simp only [modP] at k
        split at k
        · rename_i j hj
          split at k
          · rename_i e2 he2
            have : e1 = e2 := by
              unfold L2.atI at he1
              rw [hj] at he1
              have he1' : ds0[j]? = some e1 := he1
              rw [he2] at he1'; cases he1'; rfl
            subst this
            split at k
            · rename_i e3 he3; exact modP_at h he3
            · cases k
          · cases k
        · cases k
      · cases h
    | _ => cases h
theorem pairwise_set {fps : List (List Addr)} {n : Nat} {f' : List Addr} (d : fps.Pairwise fun f g => ∀ a ∈ f, a ∉ g) (h : ∀ (j : Nat) (f : List Addr), j ≠ n → fps[j]? = some f → ∀ c ∈ f', c ∉ f) : (fps.set n f').Pairwise fun f g => ∀ a ∈ f, a ∉ g := by
  rw [List.pairwise_iff_getElem] at d ⊢
  intro i j hi hj hij a ha hb
  rw [List.length_set] at hi hj
  rw [List.getElem_set] at ha hb
  by_cases e1 : n = i
  · rw [if_pos e1] at ha
    rw [if_neg (by omega)] at hb
    exact h j _ (by omega) (List.getElem?_eq_getElem hj) a ha hb
  · rw [if_neg e1] at ha
    by_cases e2 : n = j
    · rw [if_pos e2] at hb
      exact h i _ (by omega) (List.getElem?_eq_getElem hi) a hb ha
    · rw [if_neg e2] at hb
      exact d i j hi hj hij a ha hb
/-- a cell's thing is exchanged for another one at the same place -/
theorem Rel.setc {st : S} {m : List Addr} {fps : List (List Addr)} {σ : L2.St} {H H2 : Hp} {n : Nat} {a : Addr} {f f' : List Addr} {d' : D} (R : Rel st m fps σ H) (hm : m[n]? = some a) (hf : fps[n]? = some f) (k : ∀ c o, H c = some o → OV.imm o = true ∨ (∃ f2 ∈ fps, c ∈ f2 ∧ c ∉ f) → H2 c = some o)
    (ro : RO H2 (.ref a) d' f') (nv : OV.isV d' = false) (hs : ∀ c ∈ f', c ∈ f ∨ ∀ f ∈ fps, c ∉ f) (kt : LamX.Tabs Tabled.T H2) : Rel ⟨st.sl, st.ce.set n (some d')⟩ m (fps.set n f') σ H2 := by
  have hn : n < fps.length := (List.getElem?_eq_some_iff.mp hf).1
  have hn' : n < st.ce.length := by rw [← R.flen]; exact hn
  refine ⟨R.slen, fun i d e => ?_, by simpa using R.mlen, by simpa using R.flen, fun j d e => ?_, fun j e => ?_, pairwise_set R.dis fun j f2 hj h2 c hc hc2 => ?_, kt⟩
  · obtain ⟨v, h1, h2⟩ := R.sl i d e
    exact ⟨v, h1, h2.mono fun b o eb i => k b o eb (.inl i)⟩
  · by_cases ej : n = j
    · subst ej
      rw [show (⟨st.sl, st.ce.set n (some d')⟩ : S).ce = st.ce.set n (some d') from rfl, List.getElem?_set_self hn'] at e
      cases e
      exact ⟨a, f', hm, by rw [List.getElem?_set_self hn], ro, nv⟩
    · rw [show (⟨st.sl, st.ce.set n (some d')⟩ : S).ce = st.ce.set n (some d') from rfl, List.getElem?_set_ne ej] at e
      obtain ⟨a2, f2, h1, h2, h3, h4⟩ := R.ce j d e
      refine ⟨a2, f2, h1, by rw [List.getElem?_set_ne ej]; exact h2, h3.mono fun b o eb i => k b o eb (i.imp id fun z => ⟨f2, List.mem_of_getElem? h2, z, fun y => ej (dis_at R.dis hf h2 y z)⟩), h4⟩
  · by_cases ej : n = j
    · subst ej
      rw [show (⟨st.sl, st.ce.set n (some d')⟩ : S).ce = st.ce.set n (some d') from rfl, List.getElem?_set_self hn'] at e
      cases e
    · rw [show (⟨st.sl, st.ce.set n (some d')⟩ : S).ce = st.ce.set n (some d') from rfl, List.getElem?_set_ne ej] at e
      rw [List.getElem?_set_ne ej]; exact R.dead j e
  · rcases hs c hc with z | z
    · exact hj (dis_at R.dis h2 hf hc2 z)
    · exact z f2 (List.mem_of_getElem? h2) hc2
theorem modc_ok {st : S} {m : List Addr} {fps : List (List Addr)} {σ : L2.St} {H : Hp} {n : Nat} {is : List Int} {ds : List D} {fn : List D → Option (List D)} {ce' : Ce} (R : Rel st m fps σ H) (ha : atL st.ce n is = some ds) (hm : modC st.ce n is fn = some ce') :
    ∃ a b vs g f es, m[n]? = some a ∧ hP H a is = some b ∧ H b = some (.lst vs) ∧ ROs H vs ds g ∧ b ∉ g ∧ fps[n]? = some f ∧ (∀ c ∈ b :: g, c ∈ f) ∧ fn ds = some es ∧ ∀ ws g', ROs (upd H b (.lst ws)) ws es g' → b ∉ g' → (∀ c ∈ g', c ∈ g ∨ ∀ f ∈ fps, c ∉ f) →
      ∃ f', Rel ⟨st.sl, ce'⟩ m (fps.set n f') σ (upd H b (.lst ws)) ∧ ∀ c ∈ f', (c ∈ f ∧ c ∉ g) ∨ c ∈ g' := by
  unfold atL at ha
  unfold modC at hm
  split at ha
  · rename_i d hd
    rw [hd] at hm
    split at ha
    · rename_i ds' hds
      cases ha
      simp only at hm
      split at hm
      · rename_i d' hd'
        cases hm
        obtain ⟨a, f, h1, h2, h3, h4⟩ := R.ce n d hd
        obtain ⟨b, vs, g, p1, p2, p3, p4, p5, p6, p7⟩ := ro_at h3 hds
        obtain ⟨es, hes⟩ := modP_at hds hd'
        have hfm := List.mem_of_getElem? h2
        refine ⟨a, b, vs, g, f, es, h1, p1, p2, p3, p4, h2, p5, hes, fun ws g' hr hn hg => ?_⟩
        obtain ⟨f', q1, q2, q3⟩ := p7 fn es d' (upd H b (.lst ws)) ws g' hes hd' (fun c o cb ec _ => .inl (by rw [upd_ne cb]; exact ec)) upd_same hr hn (fun c hc => (hg c hc).imp id fun z => z f hfm)
        refine ⟨f', R.setc h1 h2 (fun c o ec i => ?_) q1 q2 (fun c hc => ?_) (tabs_upd p2 R.tab), q3⟩
        · rw [upd_ne]
          · exact ec
          · rintro rfl
            rcases i with i | ⟨f2, _, _, z⟩
            · rw [p2] at ec; cases ec; cases i
            · exact z (p5 c List.mem_cons_self)
        · rcases q3 c hc with z | z
          · exact .inl z.1
          · exact (hg c z).imp (fun y => p5 c (List.mem_cons_of_mem _ y)) id
      · cases hm
    · cases ha
  · cases ha
theorem Grd.less {lk lk' : List Nat} {fps fps' : List (List Addr)} {H H' : Hp} (g : Grd lk' fps fps' H H') (h : ∀ n ∈ lk, n ∈ lk') : Grd lk fps fps' H H' :=
  ⟨fun b o e k t => g.keep b o e (fun n f hf hb => h n (k n f hf hb)) t, g.there, g.fresh, fun n hn => g.lock n (h n hn)⟩
/-- a change in a cell that is not locked -/
theorem Grd.mod {lk : List Nat} {st1 : S} {m : List Addr} {fps fps1 : List (List Addr)} {σ1 : L2.St} {H H1 : Hp} {n : Nat} {b : Addr} {f f' gx : List Addr} {ws : List V} (g : Grd lk fps fps1 H H1) (R1 : Rel st1 m fps1 σ1 H1) (hn : n ∉ lk) (hf : fps1[n]? = some f) (hb : b ∈ f) (hs : ∀ c ∈ f', c ∈ f ∨ c ∈ gx) (nf : NF gx fps H) :
    Grd lk fps (fps1.set n f') H (upd H1 b (.lst ws)) := by
  refine ⟨fun c o e k t => ?_, fun c o e => ?_, fun c hc => ?_, fun j hj f2 h2 => ?_⟩
  · have cb : c ≠ b := by
      rintro rfl
      rcases g.fresh c ⟨f, List.mem_of_getElem? hf, hb⟩ with ⟨f0, h0, h1⟩ | h0
      · obtain ⟨j, hj⟩ := List.getElem?_of_mem h0
        have l := k j f0 hj h1
        have := dis_at R1.dis (g.lock j l f0 hj) hf h1 hb
        exact hn (this ▸ l)
      · rw [e] at h0; cases h0
    rw [upd_ne cb]; exact g.keep c o e k t
  · obtain ⟨o1, e1⟩ := g.there c o e
    by_cases cb : c = b
    · rw [cb]; exact ⟨_, upd_same⟩
    · rw [upd_ne cb]; exact ⟨o1, e1⟩
  · obtain ⟨f2, h2, h3⟩ := hc
    obtain ⟨j, hj⟩ := List.getElem?_of_mem h2
    by_cases ej : n = j
    · subst ej
      rw [List.getElem?_set_self (List.getElem?_eq_some_iff.mp hf).1] at hj
      cases hj
      rcases hs c h3 with z | z
      · exact g.fresh c ⟨f, List.mem_of_getElem? hf, z⟩
      · exact nf c z
    · rw [List.getElem?_set_ne ej] at hj
      exact g.fresh c ⟨f2, List.mem_of_getElem? hj, h3⟩
  · have ej : n ≠ j := fun z => hn (z ▸ hj)
    rw [List.getElem?_set_ne ej]; exact g.lock j hj f2 h2
section
variable {X : Cx} {q : SX} {κ : K} {n : Nat} {lk : List Nat} {p : Pos}
/-! ### a path's way -/
inductive GoodP (X : Cx) (κ : K) (q : SX) (r : Nat) : Cs → Expr → Prop
  | nil {x : Str} {p : Pos} : nameB q r x = true → GoodP X κ q r .nil (.Name x p)
  | cons {i : C} {cs : Cs} {o i' : Expr} {p : Pos} : GoodP X κ q r cs o → GoodE X κ i i' → GoodP X κ q r (.cons i cs) (.Subscript o i' p)
theorem root_inv {st : S} {r k : Nat} (h : root lk st r = some k) : st.sl[r]? = some (some (.ref k)) ∧ k ∉ lk := by
  unfold root at h
  split at h
  · rename_i k' e
    split at h
    · cases h
    · rename_i hn; cases h; exact ⟨e, by simpa using hn⟩
  · cases h
theorem atL_path {st : S} {m : List Addr} {fps : List (List Addr)} {σ : L2.St} {H : Hp} {k : Nat} {is : List Int} {ds : List D} (R : Rel st m fps σ H) (h : atL st.ce k is = some ds) : ∃ a b vs g f, m[k]? = some a ∧ fps[k]? = some f ∧ hP H a is = some b ∧ H b = some (.lst vs) ∧ ROs H vs ds g ∧ (∀ c ∈ b :: g, c ∈ f) ∧ ∀ H' : Hp, (∀ c ∈ f, ∀ o, H c = some o → H' c = some o) → hP H' a is = some b := by
  unfold atL at h
  split at h
  · rename_i d hd
    split at h
    · rename_i ds' hds
      cases h
      obtain ⟨a, f, h1, h2, h3, h4⟩ := R.ce k d hd
      obtain ⟨b, vs, g, p1, p2, p3, p4, p5, p6, p7⟩ := ro_at h3 hds
      exact ⟨a, b, vs, g, f, h1, h2, p1, p2, p3, p5, p6⟩
    · cases h
  · cases h
theorem Grd.cell {fps fps' : List (List Addr)} {st : S} {m : List Addr} {σ : L2.St} {H H' : Hp} {k : Nat} {f : List Addr} (g : Grd lk fps fps' H H') (R : Rel st m fps σ H) (hk : k ∈ lk) (hf : fps[k]? = some f) : ∀ c ∈ f, ∀ o, H c = some o → H' c = some o := fun c hc o e => by
  refine g.keep c o e (fun j f2 h2 hc2 => ?_) ?_
  · rw [dis_at R.dis h2 hf hc2 hc]; exact hk
  · obtain ⟨vs, e2⟩ := R.fmut f (List.mem_of_getElem? hf) c hc
    rw [e] at e2; cases e2; rfl
theorem path_ok (cx : Cxt X q κ n) {r k : Nat} : ∀ {cs : Cs} {o : Expr}, GoodP X κ q r cs o → ∀ {st : S} {m : List Addr} {fps : List (List Addr)} {σ : L2.St} {H : Hp}, st.sl[r]? = some (some (.ref k)) → k ∈ lk → XO X (oPth κ lk k cs st) → Rel st m fps σ H →
    WE X o σ H fun v H1 => ∃ is st1 fps1 a b, oPth κ lk k cs st = .ok is st1 ∧ Rel st1 m fps1 σ H1 ∧ Grd lk fps fps1 H H1 ∧ m[k]? = some a ∧ v = .ref b ∧ hP H1 a is = some b ∧ (cs.isNil = true → is = [] ∧ st1 = st)
  | _, _, .nil h, st, m, fps, σ, H, hs, hk, hx, R => by
    refine WE.imp (se_name cx h R hs) fun v H' ⟨e, r⟩ => ?_
    subst e
    cases r with
    | fro h => cases h
    | ref h => exact ⟨[], st, fps, _, _, by simp only [oPth], R, Grd.refl, h, rfl, rfl, fun _ => ⟨rfl, rfl⟩⟩
  | _, _, .cons (i := i) (cs := cs) gp ge, st, m, fps, σ, H, hs, hk, hx, R => by
    rw [oPth] at hx ⊢
    refine we_pe (pe_ix sup_ix pe_we pe_we (plain_ix ge.ok)) (WE.imp (path_ok cx gp hs hk hx.fst R) fun v H1 ⟨is, st1, fps1, a, b, h1, R1, g1, hm, ev, hp, _⟩ => ?_)
    subst ev
    have hx1 := hx.snd h1
    refine WE.imp (ge.se lk st1 m fps1 σ H1 hx1.fst R1) fun y H2 ⟨d, st2, h2, fps2, f2, R2, r2, g2, n2⟩ => ?_
    have hx2 := hx1.snd h2
    cases d with
    | int j =>
      obtain ⟨rfl, _⟩ := r2.int
      cases e1 : atL st1.ce k is with
      | none => simp only [e1] at hx2; exact hx2.elim
      | some ds =>
        cases e2 : atL st1.ce k (is ++ [j]) with
        | none => simp only [e1, e2] at hx2; exact hx2.elim
        | some ds2 =>
          obtain ⟨a1, b1, vs1, g3, f1, q1, q2, q3, q4, q5, q6, q7⟩ := atL_path R1 e1
          rw [hm] at q1; cases q1
          obtain ⟨a2, b2, vs2, g4, f2, t1, t2, t3, t4, t5, t6, t7⟩ := atL_path R1 e2
          rw [hm] at t1; cases t1
          rw [q2] at t2; cases t2
          have kp := g2.cell R1 hk q2
          have p1 := q7 H2 kp
          have p2 := t7 H2 kp
          rw [hp] at q3; cases q3
          obtain ⟨vs, w1, w2⟩ := hP_snoc p1 p2
          refine ⟨_, ix_list, b, vs, j, .ref b2, rfl, rfl, rd_sqL (.inl w1), w2, ?_⟩
          refine ⟨is ++ [j], st2, fps2, a, b2, by rw [h1, Res.bind_ok, h2, Res.bind_ok]; simp only [e1, e2], R2, g1.trans g2 R1 (fun _ h => h) (R.len_le R1), hm, rfl, p2, fun e => by cases e⟩
    | _ => exact hx2.elim
end
end OV
/-! text OVO -/
namespace OV
open PySem PySem.Spec PyProof.Rows L2
variable [Tabled] [Kn]
section
variable {X : Cx} {q : SX} {κ : K} {n : Nat} {lk : List Nat} {p : Pos}
theorem GoodP.base {r : Nat} {cs : Cs} {o : Expr} (g : GoodP X κ q r cs o) {nm : Str} : attributeBase o nm X.env (eval o X.env) = eval o X.env := by
  cases g with
  | nil _ => rfl
  | cons _ _ => rfl
theorem XO.some {α β : Type} {X : Cx} {o : Option α} {f : α → Res β} (h : XO X (match o with | some a => f a | none => .no)) : ∃ a, o = some a := by
  cases o with
  | none => exact h.elim
  | some a => exact ⟨a, rfl⟩
theorem eraseAll {α : Type} (l : List α) (i : Nat) : (l.eraseIdx i).length ≤ l.length := len_erase l i
/-- the last of the things, and the others -/
theorem ROs.last {H : Hp} : ∀ {vs : List V} {ds : List D} {fp : List Addr} {e : D}, ROs H vs ds fp → ds[ds.length - 1]? = some e → ∃ v f g, vs[vs.length - 1]? = some v ∧ RO H v e f ∧ ROs H vs.dropLast ds.dropLast g ∧ (∀ c ∈ f, c ∈ fp) ∧ (∀ c ∈ g, c ∈ fp) ∧ ∀ c ∈ g, c ∉ f
  | _, _, _, _, .nil, he => by simp at he
  | _, _, _, e, .cons (v := v) (d := d) (vs := vs) (ds := ds) (f := f) (g := g) h r n, he => by
    cases r with
    | nil =>
      simp at he; subst he
      exact ⟨v, f, [], rfl, h, .nil, fun c hc => List.mem_append_left _ hc, by simp, by simp⟩
    | @cons v2 d2 vs2 ds2 f2 g2 h2 r2 n2 =>
      obtain ⟨w, f3, g3, h3, h4, h5, h6, h7, h8⟩ := ROs.last (e := e) (ROs.cons h2 r2 n2) (by simpa using he)
      refine ⟨w, f3, f ++ g3, by simpa using h3, h4, ?_, fun c hc => List.mem_append_right _ (h6 c hc), fun c hc => ?_, fun c hc => ?_⟩
      · show ROs H (v :: (v2 :: vs2).dropLast) (d :: (d2 :: ds2).dropLast) (f ++ g3)
        exact .cons h h5 fun a ha hg => n a ha (h7 a hg)
      · rcases List.mem_append.mp hc with hc | hc
        · exact List.mem_append_left _ hc
        · exact List.mem_append_right _ (h7 c hc)
      · rcases List.mem_append.mp hc with hc | hc
        · exact fun z => n c hc (h6 c z)
        · exact h8 c hc
termination_by _ ds _ _ _ _ => ds.length
/-- one of them taken out -/
theorem ROs.out {H : Hp} : ∀ {vs : List V} {ds : List D} {fp : List Addr} {j : Nat} {e : D}, ROs H vs ds fp → ds[j]? = some e → ∃ v f g, vs[j]? = some v ∧ RO H v e f ∧ ROs H (vs.eraseIdx j) (ds.eraseIdx j) g ∧ (∀ c ∈ f, c ∈ fp) ∧ (∀ c ∈ g, c ∈ fp) ∧ ∀ c ∈ g, c ∉ f
  | _, _, _, _, _, .nil, he => by simp at he
  | _, _, _, 0, e, .cons (v := v) (f := f) (g := g) h r n, he => by
    simp at he; subst he
    exact ⟨v, f, g, rfl, h, r, fun c hc => List.mem_append_left _ hc, fun c hc => List.mem_append_right _ hc, fun c hc z => n c z hc⟩
  | _, _, _, j + 1, e, .cons (v := v) (f := f) (g := g) h r n, he => by
    obtain ⟨w, f3, g3, h3, h4, h5, h6, h7, h8⟩ := ROs.out (j := j) (e := e) r (by simpa using he)
    refine ⟨w, f3, f ++ g3, by simpa using h3, h4, .cons h h5 fun a ha hg => n a ha (h7 a hg), fun c hc => List.mem_append_right _ (h6 c hc), fun c hc => ?_, fun c hc => ?_⟩
    · rcases List.mem_append.mp hc with hc | hc
      · exact List.mem_append_left _ hc
      · exact List.mem_append_right _ (h7 c hc)
    · rcases List.mem_append.mp hc with hc | hc
      · exact fun z => n c hc (h6 c z)
      · exact h8 c hc
/-- what was taken out of a cell, behind the change -/
theorem took {st1 : S} {m : List Addr} {fps fps1 : List (List Addr)} {σ : L2.St} {H H1 : Hp} {k : Nat} {b : Addr} {f fe f' : List Addr} {ws vs : List V} {y : V} {e : D} {st2 : S} (g1 : Grd lk fps fps1 H H1) (R1 : Rel st1 m fps1 σ H1) (hk : k ∉ lk) (hf : fps1[k]? = some f) (hb : b ∈ f) (hB : H1 b = some (.lst vs))
    (re : RO H1 y e fe) (hfe : ∀ c ∈ fe, c ∈ f ∧ c ≠ b) (hf' : ∀ c ∈ f', c ∈ f ∧ c ∉ fe) (R2 : Rel st2 m (fps1.set k f') σ (upd H1 b (.lst ws))) : PostE lk st2 m fps σ H e y (upd H1 b (.lst ws)) := by
  have hfm := List.mem_of_getElem? hf
  refine ⟨fps1.set k f', fe, R2, .tree (re.mono fun c o ec i => ?_) (fun c hc f2 h2 hc2 => ?_), Grd.mod g1 R1 hk hf hb (gx := []) (fun c hc => .inl (hf' c hc).1) NF.nil, fun c hc => g1.fresh c ⟨f, hfm, (hfe c hc).1⟩⟩
  · rw [upd_ne]
    · exact ec
    · rintro rfl
      rcases i with i | i
      · rw [hB] at ec; cases ec; cases i
      · exact (hfe c i).2 rfl
  · obtain ⟨j, hj⟩ := List.getElem?_of_mem h2
    by_cases ej : k = j
    · subst ej
      rw [List.getElem?_set_self (List.getElem?_eq_some_iff.mp hf).1] at hj
      cases hj
      exact (hf' c hc2).2 hc
    · rw [List.getElem?_set_ne ej] at hj
      exact ej (dis_at R1.dis hf hj (hfe c hc).1 hc2)
theorem se_pop0 (cx : Cxt X q κ n) {r : Nat} {cs : Cs} {o : Expr} {p' : Pos} (g : GoodP X κ q r cs o) (hl : (p'.endLine == p.line) = true) : SE X (.Call (.Attribute o "pop" p') [] [] p) lk (oE κ lk (.pop0 r cs)) := by
  intro st m fps σ H hx R
  rw [oE] at hx ⊢
  cases hr : root lk st r with
  | none => simp only [hr] at hx; exact hx.elim
  | some k =>
    simp only [hr] at hx ⊢
    obtain ⟨hs, hk⟩ := root_inv hr
    refine we_pe (pe_bm0 (T := "list") (id := "list.pop") PySem.F.plainAttrs_list PySem.F.slot_list_pop PySem.F.type_list_pop (show MtR X "list.pop" rPop from mt_pop) pe_we g.base hl) ?_
    refine WE.imp (path_ok cx g (lk := k :: lk) hs List.mem_cons_self hx.fst R) fun v H1 ⟨is, st1, fps1, a, b, h1, R1, g1, hm, ev, hp, _⟩ => ?_
    subst ev
    have hx1 := hx.snd h1
    cases e1 : atL st1.ce k is with
    | none => simp only [e1] at hx1; exact hx1.elim
    | some ds =>
      simp only [e1] at hx1
      cases e2 : ds[ds.length - 1]? with
      | none => simp only [e2] at hx1; exact hx1.elim
      | some e =>
        cases e3 : modC st1.ce k is (fun ds => some ds.dropLast) with
        | none => simp only [e2, e3] at hx1; exact hx1.elim
        | some ce =>
          obtain ⟨a', b', vs, gg, f, es, q1, q2, q3, q4, q5, q6, q7, q8, q9⟩ := modc_ok R1 e1 e3
          rw [hm] at q1; cases q1
          rw [hp] at q2; cases q2
          cases q8
          obtain ⟨y, fe, g', w1, w2, w3, w4, w5, w6⟩ := q4.last e2
          refine ⟨.inl ⟨rfl, vs, rd_sqL (.inl q3)⟩, b, vs, y, rfl, rfl, q3, w1, ?_⟩
          have bf : b ∈ f := q7 b List.mem_cons_self
          obtain ⟨f', R2, hf'⟩ := q9 vs.dropLast g' (w3.mono fun c o ec i => by
            rw [upd_ne]
            · exact ec
            · rintro rfl
              rcases i with i | i
              · rw [q3] at ec; cases ec; cases i
              · exact q5 (w5 c i)) (fun z => q5 (w5 b z)) (fun c hc => .inl (w5 c hc))
          refine ⟨e, ⟨st1.sl, ce⟩, by rw [h1, Res.bind_ok]; simp only [e1, e2, e3], took (g1.less fun _ h => List.mem_cons_of_mem _ h) R1 hk q6 bf q3 w2 (fun c hc => ⟨q7 c (List.mem_cons_of_mem _ (w4 c hc)), fun z => q5 (z ▸ w4 c hc)⟩) (fun c hc => ?_) R2⟩
          rcases hf' c hc with z | z
          · exact ⟨z.1, fun y => z.2 (w4 c y)⟩
          · exact ⟨q7 c (List.mem_cons_of_mem _ (w5 c z)), w6 c z⟩
theorem ixN_seqI {n : Nat} {i : Int} {j : Nat} (h : L2.ixN n i = some j) (hz : n ≤ sizeLine) : -(2 ^ 63) ≤ i ∧ i < 2 ^ 63 ∧ seqIndex? i n = some j := by
  obtain ⟨h1, h2, h3, h4⟩ := ixN_seq h
  rw [sizeLine_eq] at hz
  exact ⟨by omega, by omega, h1⟩
theorem se_pop (cx : Cxt X q κ n) {r : Nat} {cs : Cs} {c0 : C} {o e0 : Expr} {p' : Pos} (g : GoodP X κ q r cs o) (ge : GoodE X κ c0 e0) (hl : (p'.endLine == p.line) = true) : SE X (.Call (.Attribute o "pop" p') [e0] [] p) lk (oE κ lk (.pop r cs c0)) := by
  intro st m fps σ H hx R
  rw [oE] at hx ⊢
  cases hr : root lk st r with
  | none => simp only [hr] at hx; exact hx.elim
  | some k =>
    simp only [hr] at hx ⊢
    obtain ⟨hs, hk⟩ := root_inv hr
    have hpl : starEach [e0] X.env = (false, eval e0 X.env) :: starEach [] X.env := star_plain ge.ok _ _
    refine we_pe (pe_bm (T := "list") (id := "list.pop") PySem.F.plainAttrs_list PySem.F.slot_list_pop PySem.F.type_list_pop (show MtR X "list.pop" rPopAt from mt_popAt) pe_we (pa_cons pe_we pa_nil hpl) g.base (by rw [hpl]; rfl) hl hpl (by rfl)) ?_
    refine WE.imp (path_ok cx g (lk := k :: lk) hs List.mem_cons_self hx.fst R) fun v H1 ⟨is, st1, fps1, a, b, h1, R1, g1, hm, ev, hp, _⟩ => ?_
    subst ev
    have hx1 := hx.snd h1
    cases e0' : atL st1.ce k is with
    | none => simp only [e0'] at hx1; exact hx1.elim
    | some ds0 =>
      simp only [e0'] at hx1
      obtain ⟨a1, b1, vs1, g3, f1, t1, t2, t3, t4, t5, t6, t7⟩ := atL_path R1 e0'
      rw [hm] at t1; cases t1
      rw [hp] at t3; cases t3
      refine ⟨.inl ⟨rfl, vs1, rd_sqL (.inl t4)⟩, ?_⟩
      refine WE.imp (ge.se (k :: lk) st1 m fps1 σ H1 hx1.fst R1) fun y H2 ⟨d, st2, h2, fps2, f2, R2, r2, g2, n2⟩ => ?_
      have hx2 := hx1.snd h2
      cases d with
      | int i =>
        obtain ⟨rfl, _⟩ := r2.int
        cases e1 : atL st2.ce k is with
        | none => simp only [e1] at hx2; exact hx2.elim
        | some ds =>
          simp only [e1] at hx2
          cases e4 : L2.ixN ds.length i with
          | none => simp only [e4] at hx2; exact hx2.elim
          | some j =>
            simp only [e4] at hx2
            cases e2 : ds[j]? with
            | none => simp only [e2] at hx2; exact hx2.elim
            | some e =>
              cases e3 : modC st2.ce k is (fun ds => some (ds.eraseIdx j)) with
              | none => simp only [e2, e3] at hx2; exact hx2.elim
              | some ce =>
                simp only [e2, e3] at hx2
                have hrg : rgOk i = true := by
                  cases h : rgOk i with
                  | true => rfl
                  | false => rw [h] at hx2; exact hx2.elim
                obtain ⟨a', b', vs, gg, f, es, q1, q2, q3, q4, q5, q6, q7, q8, q9⟩ := modc_ok R2 e1 e3
                rw [hm] at q1; cases q1
                have bb : b' = b := by
                  have := t7 H2 (g2.cell R1 List.mem_cons_self t2)
                  rw [q2] at this; cases this; rfl
                subst bb
                cases q8
                obtain ⟨y, fe, g', w1, w2, w3, w4, w5, w6⟩ := q4.out e2
                have hin : -(2 ^ 63) ≤ i ∧ i < 2 ^ 63 ∧ seqIndex? i vs.length = some j := by
                  unfold rgOk at hrg
                  simp only [decide_eq_true_eq] at hrg
                  refine ⟨by omega, by omega, ?_⟩
                  rw [q4.length]; exact (ixN_seq e4).1
                refine ⟨b', vs, i, j, y, rfl, rfl, q3, hin.1, hin.2.1, hin.2.2, w1, ?_⟩
                have bf : b' ∈ f := q7 b' List.mem_cons_self
                obtain ⟨f', R3, hf'⟩ := q9 (vs.eraseIdx j) g' (w3.mono fun c o ec i => by
                  rw [upd_ne]
                  · exact ec
                  · rintro rfl
                    rcases i with i | i
                    · rw [q3] at ec; cases ec; cases i
                    · exact q5 (w5 c i)) (fun z => q5 (w5 b' z)) (fun c hc => .inl (w5 c hc))
                have gg2 : Grd lk fps fps2 H H2 := (g1.trans g2 R1 (fun _ h => h) (R.len_le R1)).less fun _ h => List.mem_cons_of_mem _ h
                refine ⟨e, ⟨st2.sl, ce⟩, by rw [h1, Res.bind_ok]; simp only [e0', h2, Res.bind_ok, e1, e4, e2, e3, hrg, if_true], took gg2 R2 hk q6 bf q3 w2 (fun c hc => ⟨q7 c (List.mem_cons_of_mem _ (w4 c hc)), fun z => q5 (z ▸ w4 c hc)⟩) (fun c hc => ?_) R3⟩
                rcases hf' c hc with z | z
                · exact ⟨z.1, fun y => z.2 (w4 c y)⟩
                · exact ⟨q7 c (List.mem_cons_of_mem _ (w5 c z)), w6 c z⟩
      | _ => exact hx2.elim
/-- a name's thing is handed on -/
theorem se_mv (cx : Cxt X q κ n) {i : Nat} {x : Str} (h : nameB q i x = true) : SE X (.Name x p) lk (oE κ lk (.mv i)) := by
  intro st m fps σ H hx R
  rw [oE] at hx ⊢
  cases hr : root lk st i with
  | none => simp only [hr] at hx; exact hx.elim
  | some k =>
    simp only [hr] at hx ⊢
    obtain ⟨hs, hk⟩ := root_inv hr
    cases hd : st.ce[k]? with
    | none => simp only [hd] at hx; exact hx.elim
    | some o =>
      cases o with
      | none => simp only [hd] at hx; exact hx.elim
      | some d =>
        refine WE.imp (se_name cx h R hs) fun v H' ⟨e, r⟩ => ?_
        subst e
        cases r with
        | fro h => cases h
        | @ref a k' hm =>
          obtain ⟨a2, f, h1, h2, h3, h4⟩ := R.ce k d hd
          rw [hm] at h1; cases h1
          have hn : k < fps.length := (List.getElem?_eq_some_iff.mp h2).1
          have hn' : k < st.ce.length := (List.getElem?_eq_some_iff.mp hd).1
          refine ⟨d, ⟨st.sl.set i none, st.ce.set k none⟩, rfl, fps.set k [], f, ⟨by rw [List.length_set]; exact R.slen, fun j d' e => ?_, by simpa using R.mlen, by simpa using R.flen, fun j d' e => ?_, fun j e => ?_, pairwise_set R.dis fun _ _ _ _ c hc => (by cases hc), R.tab⟩, .tree h3 (fun c hc f2 hf2 hc2 => ?_), ⟨fun _ _ e _ _ => e, fun _ o e => ⟨o, e⟩, fun c hc => ?_, fun j hj f2 hf2 => ?_⟩, fun c hc => .inl ⟨f, List.mem_of_getElem? h2, hc⟩⟩
          · have ij : i ≠ j := fun z => by
              subst z
              have e' : (st.sl.set i none)[i]? = some (some d') := e
              rw [List.getElem?_set_self (by exact (List.getElem?_eq_some_iff.mp hs).1)] at e'
              cases e'
            have e' : (st.sl.set i none)[j]? = some (some d') := e
            rw [List.getElem?_set_ne ij] at e'
            exact R.sl j d' e'
          · have kj : k ≠ j := fun z => by
              subst z
              have e' : (st.ce.set k none)[k]? = some (some d') := e
              rw [List.getElem?_set_self hn'] at e'
              cases e'
            have e' : (st.ce.set k none)[j]? = some (some d') := e
            rw [List.getElem?_set_ne kj] at e'
            obtain ⟨a3, f3, t1, t2, t3, t4⟩ := R.ce j d' e'
            exact ⟨a3, f3, t1, by rw [List.getElem?_set_ne kj]; exact t2, t3, t4⟩
          · by_cases kj : k = j
            · subst kj; rw [List.getElem?_set_self hn]
            · have e' : (st.ce.set k none)[j]? = some none := e
              rw [List.getElem?_set_ne kj] at e'
              rw [List.getElem?_set_ne kj]; exact R.dead j e'
          · obtain ⟨j, hj⟩ := List.getElem?_of_mem hf2
            by_cases kj : k = j
            · subst kj; rw [List.getElem?_set_self hn] at hj; cases hj; cases hc2
            · rw [List.getElem?_set_ne kj] at hj
              exact kj (dis_at R.dis h2 hj hc hc2)
          · obtain ⟨f2, hf2, hc2⟩ := hc
            obtain ⟨j, hj⟩ := List.getElem?_of_mem hf2
            by_cases kj : k = j
            · subst kj; rw [List.getElem?_set_self hn] at hj; cases hj; cases hc2
            · rw [List.getElem?_set_ne kj] at hj
              exact .inl ⟨f2, List.mem_of_getElem? hj, hc2⟩
          · have kj : k ≠ j := fun z => hk (z ▸ hj)
            rw [List.getElem?_set_ne kj]; exact hf2
end
end OV
/-! text OVP -/
namespace OV
open PySem PySem.Spec PyProof.Rows L2
variable [Tabled] [Kn]
/-! What is walked. -/
/-- as Grd, but for what lies at x -/
structure GX (x : List Addr) (lk : List Nat) (fps fps' : List (List Addr)) (H H' : Hp) : Prop where
  keep : ∀ b o, b ∉ x → H b = some o → (∀ (n : Nat) (f : List Addr), fps[n]? = some f → b ∈ f → n ∈ lk) → isTbl o = false → H' b = some o
  there : ∀ b o, H b = some o → ∃ o', H' b = some o'
  fresh : ∀ b, (∃ f ∈ fps', b ∈ f) → (∃ f ∈ fps, b ∈ f) ∨ H b = none
  lock : ∀ n ∈ lk, ∀ (f : List Addr), fps[n]? = some f → fps'[n]? = some f
theorem Grd.gx {x : List Addr} {lk : List Nat} {fps fps' : List (List Addr)} {H H' : Hp} (g : Grd lk fps fps' H H') : GX x lk fps fps' H H' := ⟨fun b o _ => g.keep b o, g.there, g.fresh, g.lock⟩
theorem GX.grd {lk : List Nat} {fps fps' : List (List Addr)} {H H' : Hp} (g : GX [] lk fps fps' H H') : Grd lk fps fps' H H' := ⟨fun b o => g.keep b o (by simp), g.there, g.fresh, g.lock⟩
theorem GX.refl {x : List Addr} {lk : List Nat} {fps : List (List Addr)} {H : Hp} : GX x lk fps fps H H := Grd.refl.gx
theorem GX.less {x : List Addr} {lk lk' : List Nat} {fps fps' : List (List Addr)} {H H' : Hp} (g : GX x lk' fps fps' H H') (h : ∀ n ∈ lk, n ∈ lk') : GX x lk fps fps' H H' :=
  ⟨fun b o hx e k t => g.keep b o hx e (fun n f hf hb => h n (k n f hf hb)) t, g.there, g.fresh, fun n hn => g.lock n (h n hn)⟩
theorem GX.trans {x : List Addr} {lk lk1 : List Nat} {st1 : S} {m : List Addr} {fps fps1 fps2 : List (List Addr)} {σ1 : L2.St} {H H1 H2 : Hp} (a : GX x lk fps fps1 H H1) (b : GX x lk1 fps1 fps2 H1 H2) (R1 : Rel st1 m fps1 σ1 H1) (hlk : ∀ n ∈ lk, n ∈ lk1) :
    GX x lk fps fps2 H H2 := by
  refine ⟨fun c o hx e hn ht => ?_, fun c o e => ?_, fun c h => ?_, fun n hn f hf => b.lock n (hlk n hn) f (a.lock n hn f hf)⟩
  · have e1 := a.keep c o hx e hn ht
    refine b.keep c o hx e1 (fun n f hf hc => ?_) ht
    rcases a.fresh c ⟨f, List.mem_of_getElem? hf, hc⟩ with ⟨f0, hf0, hc0⟩ | h0
    · obtain ⟨n0, h0⟩ := List.getElem?_of_mem hf0
      have l0 := hn n0 f0 h0 hc0
      have := dis_at R1.dis hf (a.lock n0 l0 f0 h0) hc hc0
      rw [this]; exact hlk n0 l0
    · rw [e] at h0; cases h0
  · obtain ⟨o1, e1⟩ := a.there c o e
    exact b.there c o1 e1
  · rcases b.fresh c h with h1 | h1
    · exact a.fresh c h1
    · right
      cases q : H c with
      | none => rfl
      | some o =>
        obtain ⟨o1, e1⟩ := a.there c o q
        rw [h1] at e1; cases e1
/-- lists that stand outside the cells -/
def Out (x : List Addr) (fps : List (List Addr)) (H : Hp) : Prop := ∀ b ∈ x, (∃ vs, H b = some (.lst vs)) ∧ ∀ f ∈ fps, b ∉ f
theorem Out.keep {x : List Addr} {lk : List Nat} {fps fps' : List (List Addr)} {H H' : Hp} (o : Out x fps H) (g : Grd lk fps fps' H H') : Out x fps' H' := fun b hb => by
  obtain ⟨⟨vs, e⟩, n⟩ := o b hb
  refine ⟨⟨vs, g.keep b _ e (fun j f hf hm => absurd hm (n f (List.mem_of_getElem? hf))) rfl⟩, fun f hf hm => ?_⟩
  rcases g.fresh b ⟨f, hf, hm⟩ with ⟨f0, h0, h1⟩ | h0
  · exact n f0 h0 h1
  · rw [e] at h0; cases h0
theorem Out.nil {fps : List (List Addr)} {H : Hp} : Out [] fps H := fun _ h => by cases h
theorem GX.imm {x : List Addr} {lk : List Nat} {st : S} {m : List Addr} {fps fps' : List (List Addr)} {σ : L2.St} {H H' : Hp} (g : GX x lk fps fps' H H') (R : Rel st m fps σ H) (o : Out x fps H) : ∀ b u, H b = some u → OV.imm u = true → H' b = some u := fun b u e i => by
  refine g.keep b u (fun hb => ?_) e (fun n f hf hb => absurd hb (R.fimm e i f (List.mem_of_getElem? hf))) (by cases u <;> first | rfl | cases i)
  obtain ⟨⟨vs, e'⟩, _⟩ := o b hb
  rw [e] at e'; cases e'; cases i
/-- the things come one by one, as long as what must stay stays -/
def Src (J : It) (l : List Nat) (ds : List D) (x : List Addr) (fps0 : List (List Addr)) (H0 : Hp) : Prop := ∀ fps H, GX x l fps0 fps H0 H → ∀ i : Nat,
  (∀ d, ds[i]? = some d → J.go i H ∧ ∀ y H', J.yld i H y H' → (∀ b o, H b = some o → H' b = some o) ∧ RF H' y d) ∧ (i = ds.length → J.stop i H)
def WI (X : Cx) (tg e : Expr) : TI := fun σ H R => ∀ (pins : List (Addr × Obj)) (s : Shared), Inv X pins σ H s → wpAny (model X.prog X.w) X.A (eval e X.env) (fun v s1 => wpAny (model X.prog X.w) X.A (pyIter v) (PIE X pins σ tg R) X.xe s1) X.xe s
theorem pi_wi {X : Cx} {tg e : Expr} : PI X tg e (WI X tg e) := ⟨fun pins s σ H R I h => h pins s I⟩
theorem wi_pi {X : Cx} {tg e : Expr} {wi : TI} {σ : L2.St} {H : Hp} {R : It → Hp → Prop} (h : PI X tg e wi) (q : wi σ H R) : WI X tg e σ H R := fun pins s I => h.run pins s σ H R I q
def WiI (lk : List Nat) (r : Res (List D × List Nat)) (m : List Addr) (fps : List (List Addr)) (σ : L2.St) (H : Hp) (x : List Addr) : It → Hp → Prop := fun J H1 => ∃ ds l st1 fps1, r = .ok (ds, l) st1 ∧ Rel st1 m fps1 σ H1 ∧ Grd lk fps fps1 H H1 ∧ Src J l ds x fps1 H1
def SI (X : Cx) (tg e : Expr) (lk : List Nat) (f : S → Res (List D × List Nat)) : Prop := ∀ st m fps σ H, XO X (f st) → Rel st m fps σ H → ∀ x, Out x fps H → WI X tg e σ H (WiI lk (f st) m fps σ H x)
/-! ### a list stays -/
/-- the address of a list that is walked, and why it stays -/
theorem RR.lsK {st : S} {m : List Addr} {fps : List (List Addr)} {σ : L2.St} {H : Hp} {x : List Addr} {v : V} {d : D} {fp : List Addr} {ds : List D} (R : Rel st m fps σ H) (r : RR H m fps v d fp) (h : OV.lsV st.ce d = some ds) (ox : Out x fps H) (nfx : ∀ b ∈ x, b ∉ fp) :
    ∃ a vs, v = .ref a ∧ RFs H vs ds ∧ ∀ fps' H', GX x (lkI d) fps fps' H H' → Rd H' a (.lst vs) := by
  have imm : ∀ {a o vs}, H a = some (.frz o (.lst vs)) → ∀ fps' H', GX x (lkI d) fps fps' H H' → Rd H' a (.lst vs) := fun e fps' H' g => .inr ⟨_, g.imm R ox _ _ e rfl⟩
  have tree : ∀ {a vs}, H a = some (.lst vs) → a ∈ fp → (∀ a ∈ fp, ∀ f ∈ fps, a ∉ f) → ∀ fps' H', GX x (lkI d) fps fps' H H' → Rd H' a (.lst vs) := fun e hm n fps' H' g =>
    .inl (g.keep _ _ (fun hx => nfx _ hx hm) e (fun j f hf hb => absurd hb (n _ hm f (List.mem_of_getElem? hf))) rfl)
  have ofS : OV.seqL st.ce d = some ds → ds.all OV.isV = true → ∃ a vs, v = .ref a ∧ RFs H vs ds ∧ ∀ fps' H', GX x (lkI d) fps fps' H H' → Rd H' a (.lst vs) := fun e hv => by
    cases r with
    | tree ho n =>
      cases ho with
      | fro hf =>
        cases hf with
        | lst h1 r1 => cases e; exact ⟨_, _, rfl, r1, imm h1⟩
        | non | bl _ | int _ | str _ | tup _ _ | rng _ _ _ | dicA _ _ _ | dicT _ _ _ _ _ _ _ _ _ => cases e
      | new h1 r1 => cases e; exact ⟨_, _, rfl, r1, tree h1 (by simp) n⟩
      | own h1 r1 hn => cases e; exact ⟨_, _, rfl, (r1.ofV hv).1, tree h1 List.mem_cons_self n⟩
      | oto _ _ => cases e
    | @ref a n hm =>
      have e' := cellL_some e
      obtain ⟨a2, f, h1, h2, h3, _⟩ := R.ce _ _ e'
      rw [hm] at h1; cases h1
      obtain ⟨a3, vs, g, ea, h4, r4, n4, rfl⟩ := h3.own_inv
      cases ea
      refine ⟨_, vs, rfl, (r4.ofV hv).1, fun fps' H' gg => .inl (gg.keep _ _ (fun hx => (ox _ hx).2 _ (List.mem_of_getElem? h2) List.mem_cons_self) h4 (fun j f hf hb => ?_) rfl)⟩
      rw [dis_at R.dis hf h2 hb List.mem_cons_self]; simp [lkI]
    | clo _ => cases e
    | borN h1 r1 hn n => cases e; exact ⟨_, _, rfl, (r1.ofV hv).1, tree h1 List.mem_cons_self n⟩
    | @borS a vs ds fp f n h1 r1 hn hf hin =>
      cases e
      refine ⟨_, vs, rfl, (r1.ofV hv).1, fun fps' H' gg => .inl (gg.keep _ _ (fun hx => (ox _ hx).2 _ (List.mem_of_getElem? hf) (hin _ List.mem_cons_self)) h1 (fun j f' hf' hb => ?_) rfl)⟩
      rw [dis_at R.dis hf' hf hb (hin _ List.mem_cons_self)]; simp [lkI]
  unfold OV.lsV at h
  split at h
  · cases h
    obtain ⟨h1, _⟩ := r.ofV rfl
    cases h1 with
    | lst h1 r1 => exact ⟨_, _, rfl, r1, imm h1⟩
  · cases h
    cases r with
    | tree ho n =>
      cases ho with
      | fro hf => cases hf
      | new h1 r1 => exact ⟨_, _, rfl, r1, tree h1 (by simp) n⟩
  · split at h
    · rename_i ds' he
      split at h
      · rename_i hv; cases h; exact ofS he hv
      · cases h
    · cases h
/-- a sequence whose things are walked: a list, a tuple, a range -/
inductive SeqK (d : D) (ds : List D) (ce : Ce) : Prop
  | l : OV.lsV ce d = some ds → SeqK d ds ce
  | t : d = .tup ds → SeqK d ds ce
  | r {lo hi : Int} : d = .rng lo hi → ds = (List.range (hi - lo).toNat).map (fun (i : Nat) => .int (lo + i)) → SeqK d ds ce
theorem seqK {ce : Ce} {d : D} {ds : List D} (h : seqV ce d = some ds) : SeqK d ds ce := by
  unfold seqV at h
  split at h
  · cases h; exact .l rfl
  · cases h; exact .l rfl
  · cases h; exact .t rfl
  · cases h; exact .r rfl rfl
  · rename_i h1 h2 h3 h4
    split at h
    · rename_i es he
      split at h
      · rename_i hv
        cases h
        refine .l ?_
        unfold OV.lsV
        split
        · cases he; rfl
        · cases he; rfl
        · rw [he]; simp only [hv]; rfl
      · cases h
    · cases h
theorem RFs.get_mono {H H' : Hp} {vs : List V} {ds : List D} (r : RFs H vs ds) (k : ∀ b o, H b = some o → OV.imm o = true → H' b = some o) {i : Nat} {d : D} (h : ds[i]? = some d) : ∃ v, vs[i]? = some v ∧ RF H' v d := by
  obtain ⟨v, h1, h2⟩ := r.get h
  exact ⟨v, h1, h2.mono k⟩
section
variable {X : Cx} {q : SX} {κ : K} {n : Nat} {lk : List Nat} {p : Pos}
/-- the range at a -/
def iRngV (te : TE) : TI := fun σ H R => te σ H fun x H1 => ∃ a lo hi, x = .ref a ∧ H1 a = some (.rng lo hi) ∧ (-(2 ^ 62) ≤ lo ∧ lo < 2 ^ 62 ∧ -(2 ^ 62) ≤ hi ∧ hi < 2 ^ 62) ∧ R (Itr lo (hi - lo).toNat) H1
theorem pi_rngV {tg e : Expr} {te : TE} (he : PE X e te) : PI X tg e (iRngV te) := by
  refine ⟨fun pins s σ H R I h => ?_⟩
  refine thn (he.run pins s σ H _ I h) fun u s1 ⟨x, H1, I1, rx, a, lo, hi, ex, ha, ⟨b1, b2, b3, b4⟩, q⟩ => ?_
  subst ex
  cases rx
  obtain ⟨t, u, v, hr⟩ := I1.hok a _ ha
  refine wpAny_pyIter_range hr (small_one b1 b2 b3 b4) ?_
  refine ⟨s1.heap.objs.size, [s1.heap.objs.size], _, _, H1, rfl, I1.kept (t' := s1.toks) fun b o e => Heap.get?_push_of_some _ e, turn_range _ lo (hi - lo).toNat, ?_, fun b hb => ?_, q⟩
  · have e1 : lo + ((0 : Nat) : Int) * 1 = lo := by simp
    have e2 : (((hi - lo).toNat : Nat) : Int) - ((0 : Nat) : Int) = Builtin.Range.rangeSize lo hi 1 := by rw [rangeSize_one]; split <;> omega
    show IsRangeIter _ _ (lo + ((0 : Nat) : Int) * 1) ((((hi - lo).toNat : Nat) : Int) - ((0 : Nat) : Int)) 1
    rw [e1, e2]
    exact Heap.get?_push_size _ rfl
  · have e : b = s1.heap.objs.size := by simpa using hb
    subst e
    exact I1.fpOk (Nat.le_refl _) (I1.hok.fresh (Nat.le_refl _))
/-- what is walked stands outside x: it is not new there -/
theorem nf_out {x : List Addr} {fps : List (List Addr)} {H : Hp} {fp : List Addr} (o : Out x fps H) (nf : NF fp fps H) : ∀ b ∈ x, b ∉ fp := fun b hb hm => by
  obtain ⟨⟨vs, e⟩, n⟩ := o b hb
  rcases nf b hm with ⟨f, hf, h⟩ | h
  · exact n f hf h
  · rw [e] at h; cases h
theorem src_list {l : List Nat} {x : List Addr} {st : S} {m : List Addr} {fps : List (List Addr)} {σ : L2.St} {H : Hp} {a : Addr} {vs : List V} {ds : List D} (R : Rel st m fps σ H) (o : Out x fps H) (r : RFs H vs ds) (st1 : ∀ fps' H', GX x l fps fps' H H' → Rd H' a (.lst vs)) : Src (Itl X.K a) l ds x fps H := fun fps' H' g i => by
  have s := rd_sqL (K := X.K) (st1 fps' H' g)
  refine ⟨fun d hd => ?_, fun hl => ⟨vs, s, by rw [r.length, hl]; exact Nat.le_refl _⟩⟩
  obtain ⟨v, h1, h2⟩ := r.get_mono (g.imm R o) hd
  refine ⟨⟨vs, v, s, h1⟩, fun y H2 hy => ?_⟩
  obtain ⟨rfl, hy⟩ := hy
  have := hy vs s
  rw [h1] at this; cases this
  exact ⟨fun _ _ e => e, h2⟩
theorem src_tup {l : List Nat} {x : List Addr} {st : S} {m : List Addr} {fps : List (List Addr)} {σ : L2.St} {H : Hp} {a : Addr} {vs : List V} {ds : List D} (R : Rel st m fps σ H) (o : Out x fps H) (r : RFs H vs ds) (h : H a = some (.tup vs)) : Src (Itt X.K a) l ds x fps H := fun fps' H' g i => by
  have s : SqT X.K H' a vs := .inl (.inl (g.imm R o _ _ h rfl))
  refine ⟨fun d hd => ?_, fun hl => ⟨vs, s, by rw [r.length, hl]; exact Nat.le_refl _⟩⟩
  obtain ⟨v, h1, h2⟩ := r.get_mono (g.imm R o) hd
  refine ⟨⟨vs, v, s, h1⟩, fun y H2 hy => ?_⟩
  obtain ⟨rfl, hy⟩ := hy
  have := hy vs s
  rw [h1] at this; cases this
  exact ⟨fun _ _ e => e, h2⟩
theorem src_rng {l : List Nat} {x : List Addr} {fps : List (List Addr)} {H : Hp} {lo hi : Int} : Src (Itr lo (hi - lo).toNat) l ((List.range (hi - lo).toNat).map (fun (i : Nat) => .int (lo + i))) x fps H := fun fps' H' g i => by
  refine ⟨fun d hd => ?_, fun hl => by rw [List.length_map, List.length_range] at hl; exact Nat.le_of_eq hl.symm⟩
  rw [List.getElem?_map] at hd
  by_cases hi' : i < (hi - lo).toNat
  · rw [List.getElem?_range hi'] at hd
    cases hd
    refine ⟨hi', fun y H2 hy => ?_⟩
    obtain ⟨rfl, rfl⟩ := hy
    exact ⟨fun _ _ e => e, .int _⟩
  · rw [List.getElem?_eq_none (by simpa using hi')] at hd; cases hd
/-- a list, a tuple, a range, walked -/
theorem si_pl {c : C} {tg e : Expr} (g : GoodE X κ c e) : SI X tg e lk (oI κ lk (.pl c)) := by
  intro st m fps σ H hx R x ox
  rw [oI] at hx ⊢
  -- which of them it is hangs on the value: all three ways are open
  intro pins s I
  refine thn (g.se lk st m fps σ H hx.fst R pins s I) fun u s1 ⟨v, H1, I1, rv, d, st1, h1, fps1, f1, R1, r1, g1, n1⟩ => ?_
  have hx1 := hx.snd h1
  cases hs : seqV st1.ce d with
  | none => simp only [hs] at hx1; exact hx1.elim
  | some ds =>
    have ox1 := ox.keep g1
    have nx : ∀ b ∈ x, b ∉ f1 := nf_out ox n1
    have fin : ∀ {J : It}, Src J (lkI d) ds x fps1 H1 → WiI lk ((oE κ lk c st).bind fun d st1 => match seqV st1.ce d with | some ds => .ok (ds, lkI d) st1 | none => .no) m fps σ H x J H1 := fun {J} hj =>
      ⟨ds, lkI d, st1, fps1, by rw [h1, Res.bind_ok]; simp only [hs], R1, g1, hj⟩
    rcases seqK hs with hl | rfl | ⟨rfl, hds⟩
    · obtain ⟨a, vs, rfl, r, k⟩ := r1.lsK R1 hl ox1 nx
      cases rv
      have s' := rd_sqL (K := X.K) (k fps1 H1 GX.refl)
      obtain ⟨its, rv, p, hz⟩ := I1.list s'
      refine wpAny_pyIter_list p.isList ?_
      refine ⟨s1.heap.objs.size, [s1.heap.objs.size], _, _, H1, rfl, I1.kept (t' := s1.toks) fun b o e => Heap.get?_push_of_some _ e, turn_list a _, ⟨_, Heap.get?_push_size _ rfl, rfl, rfl⟩, fun b hb => ?_, fin (src_list (X := X) R1 ox1 r k)⟩
      have e : b = s1.heap.objs.size := by simpa using hb
      subst e
      exact I1.fpOk (Nat.le_refl _) (I1.hok.fresh (Nat.le_refl _))
    · obtain ⟨a, vs, rfl, h2, r, _⟩ := r1.tupv
      cases rv
      obtain ⟨its, rv, p, hz⟩ := I1.tuple (show SqT X.K H1 a vs from .inl (.inl h2))
      refine wpAny_pyIter_tuple (show s1.heap.IsTuple a its.toArray from p) ?_
      refine ⟨s1.heap.objs.size, [s1.heap.objs.size], _, _, H1, rfl, I1.kept (t' := s1.toks) fun b o e => Heap.get?_push_of_some _ e, turn_tuple a _, ⟨_, Heap.get?_push_size _ rfl, rfl, rfl⟩, fun b hb => ?_, fin (src_tup (X := X) R1 ox1 r h2)⟩
      have e : b = s1.heap.objs.size := by simpa using hb
      subst e
      exact I1.fpOk (Nat.le_refl _) (I1.hok.fresh (Nat.le_refl _))
    · rename_i lo hi
      subst hds
      obtain ⟨r2, _⟩ := r1.ofV rfl
      cases r2 with
      | @rng a _ _ ha b1 b2 =>
        cases rv
        obtain ⟨t, u, v, hr⟩ := I1.hok a _ ha
        unfold rgOk at b1 b2
        simp only [decide_eq_true_eq] at b1 b2
        refine wpAny_pyIter_range hr (small_one b1.1 b1.2 b2.1 b2.2) ?_
        refine ⟨s1.heap.objs.size, [s1.heap.objs.size], _, _, H1, rfl, I1.kept (t' := s1.toks) fun b o e => Heap.get?_push_of_some _ e, turn_range _ lo (hi - lo).toNat, ?_, fun b hb => ?_, fin src_rng⟩
        · have e1 : lo + ((0 : Nat) : Int) * 1 = lo := by simp
          have e2 : (((hi - lo).toNat : Nat) : Int) - ((0 : Nat) : Int) = Builtin.Range.rangeSize lo hi 1 := by rw [rangeSize_one]; split <;> omega
          show IsRangeIter _ _ (lo + ((0 : Nat) : Int) * 1) ((((hi - lo).toNat : Nat) : Int) - ((0 : Nat) : Int)) 1
          rw [e1, e2]
          exact Heap.get?_push_size _ rfl
        · have e : b = s1.heap.objs.size := by simpa using hb
          subst e
          exact I1.fpOk (Nat.le_refl _) (I1.hok.fresh (Nat.le_refl _))
end
end OV
/-! text OVQ -/
namespace OV
open PySem PySem.Spec PyProof.Rows L2
variable [Tabled] [Kn]
section
open PySem.F
set_option maxHeartbeats 1000000 in
theorem meets_enum_tup (t : Addr) (items : Array Value) :
    Meets (Builtin.«enumerate.__new__» ⟨[.type "enumerate", .ref t], []⟩) (fun _ R s => s.heap.IsTuple t items ∧
      R (.ok (.ret (.ref (s.heap.push { cls := .type "tuple_iterator", data := .fields #[.ref t, .int 0 0] }).objs.size)))
        { s with heap := (s.heap.push { cls := .type "tuple_iterator", data := .fields #[.ref t, .int 0 0] }).push { cls := .type "enumerate", data := .fields #[.none, .bool false, .ref s.heap.objs.size, rawInt 0, .none, .none] } }) :=
  .of_wp fun prog w A R s h => by
    obtain ⟨hp, g, d, tk, os⟩ := s; obtain ⟨h1, h⟩ := h
    have hsub := sub_enumerate
    have q1 : ∀ {A' : Around} {E : Value → Shared → Prop} {Q : Value → Shared → Prop}, Q (.ref hp.objs.size) ⟨hp.push { cls := .type "tuple_iterator", data := .fields #[.ref t, .int 0 0] }, g, d, tk, os⟩ → wpAny (model prog w) A' (pyIter (.ref t)) Q E ⟨hp, g, d, tk, os⟩ :=
      fun q => wpAny_pyIter_tuple (s := ⟨hp, g, d, tk, os⟩) h1 q
    wp_walk using q1
    refine wpAny_stack_any fun st => wpAny_pure ?_
    split
    · rename_i c _ _ _ _ _
      cases (c == Value.type "enumerate")
      · wp_walk using q1
        exact ⟨_, rfl, h⟩
      · wp_walk using q1
        exact ⟨_, rfl, h⟩
    · wp_walk using q1
      exact ⟨_, rfl, h⟩
end
theorem call_enum_tup {prog : Program} {w : World} {A : Around} {E : Value → Shared → Prop} {s : Shared} {l : Addr} {items : Array Value} {Q : Value → Shared → Prop} (hL : s.heap.IsTuple l items)
    (h : ∀ h', IsEnum h' (s.heap.objs.size + 1) s.heap.objs.size 0 .none → h'.IsTupleIter s.heap.objs.size l 0 → h'.objs.size = s.heap.objs.size + 2 →
      (∀ b o, s.heap.get? b = some o → h'.get? b = some o) → Q (.ref (s.heap.objs.size + 1)) { s with heap := h' }) :
    wpAny (model prog w) A (PySem.call (.type "enumerate") [.ref l]) Q E s := by
  refine callType_new F.called_enumerate (by decide) (F.typeCall_enumerate_1 _) (F.newCall_enumerate_1 _) (fun obj => F.args_object_init_2 obj _) F.entry_enumerate_new
    (meets_enum_tup l items) ⟨hL, ?_⟩
  have hz : (s.heap.push { cls := .type "tuple_iterator", data := .fields #[.ref l, .int 0 0] }).objs.size = s.heap.objs.size + 1 := Heap.size_push ..
  show _ ∧ _
  rw [hz]
  have he : IsEnum ((s.heap.push { cls := .type "tuple_iterator", data := .fields #[.ref l, .int 0 0] }).push
      { cls := .type "enumerate", data := .fields #[.none, .bool false, .ref s.heap.objs.size, rawInt 0, .none, .none] }) (s.heap.objs.size + 1) s.heap.objs.size 0 .none := by
    have := Heap.get?_push_size (s.heap.push { cls := .type "tuple_iterator", data := .fields #[.ref l, .int 0 0] })
      (o := { cls := .type "enumerate", data := .fields #[.none, .bool false, .ref s.heap.objs.size, rawInt 0, .none, .none] }) rfl
    rw [hz] at this; exact this
  refine ⟨⟨_, he, rfl⟩, h _ he ⟨_, Heap.get?_push_of_some _ (Heap.get?_push_size _ rfl), rfl, rfl⟩ (by rw [Heap.size_push, hz]) fun b o x => Heap.get?_push_of_some _ (Heap.get?_push_of_some _ x)⟩
/-- the tuple at a, each item in a new pair -/
def IteT (K : PySem.W.Frag) (a : Addr) : It :=
  ⟨fun i H => ∃ (xs : List V) (x : V), SqT K H a xs ∧ xs[i]? = some x, fun i H v H' => ∃ T x, v = .ref T ∧ H T = none ∧ H' = upd H T (.tup [.int (i : Nat), x]) ∧ ∀ xs, SqT K H a xs → xs[i]? = some x, fun i H => ∃ xs : List V, SqT K H a xs ∧ xs.length = i⟩
theorem iter_ne {h : Heap} {e it a : Addr} {i : Nat} {k : Int} {old : Value} {items : Array Value} (he : IsEnum h e it k old) (hi : h.IsTupleIter it a i) (p : h.IsTuple a items) : a ≠ it ∧ e ≠ a := by
  obtain ⟨o, ho, hc, _⟩ := hi
  obtain ⟨o2, ho2, hc2, _⟩ := p
  refine ⟨fun z => ?_, fun z => ?_⟩
  · subst z; rw [ho2] at ho; cases ho; rw [hc2] at hc; exact absurd hc (by decide)
  · subst z
    have he' : h.get? e = some _ := he
    rw [ho2] at he'; cases he'; exact absurd (show (Value.type "enumerate") = .type "tuple" from hc2) (by decide)
theorem turn_enumT {P : Program} {w : World} {K : PySem.W.Frag} {elts : List Expr} {kk : Nat} {tpos : Pos} (a e it : Addr) :
    Turn P w K (.Tuple elts kk tpos) (IteT K a) [e, it] e (fun i h => (∃ old, IsEnum h e it ((i : Nat) : Int) old) ∧ h.IsTupleIter it a i ∧ e ≠ it) where
  mem := by simp
  obj := fun i h st b hb => by
    obtain ⟨⟨old, he⟩, ⟨o, ho, hc, hd⟩, _⟩ := st
    have e' : b = e ∨ b = it := by simpa using hb
    rcases e' with z | z
    · rw [z]; exact ⟨_, he, fun v q => nomatch q⟩
    · rw [z]; exact ⟨o, ho, fun v q => by rw [hd] at q; cases q⟩
  keep := fun i h h' st k => let ⟨⟨old, he⟩, hi, hne⟩ := st; ⟨⟨old, k e (by simp) _ he⟩, hi.at fun o q => k it (by simp) o q, hne⟩
  item := by
    intro X hP hw hK hc i pins s σ H E I hf st hg
    subst hP hw hK
    obtain ⟨⟨old, he⟩, hit, hne⟩ := st
    obtain ⟨xs, x, hq, hx⟩ := hg
    obtain ⟨its, rv, p, hz⟩ := I.tuple hq
    obtain ⟨u, hu, ru⟩ := rv.get hx
    have hel : e < s.heap.objs.size := Heap.lt_size he
    have hil : it < s.heap.objs.size := by obtain ⟨_, q, _⟩ := hit; exact Heap.lt_size q
    have p' : s.heap.IsTuple a its.toArray := p
    obtain ⟨nai, nea⟩ := iter_ne he hit p'
    have D := PySem.Draws.tuple (prog := X.prog) (w := X.w) (A := X.A.in1) (show X.A.in1.handled = none from I.ok.hd hc) it a nai its.toArray
    have hlt : i < its.toArray.size := by
      rw [List.size_toArray]; exact (List.getElem?_eq_some_iff.mp hu).1
    refine wpAny_pyNext_enum_itemD D he ⟨hit, p'⟩ hlt hne (by simp; exact ⟨hne, nea⟩) fun x' h' tk hP' ho hst' hT hsz hk => ?_
    have exu : x' = u := by
      have hP2 : its.toArray[i]? = some x' := hP'
      rw [List.getElem?_toArray, hu] at hP2; cases hP2; rfl
    subst exu
    refine ⟨_, rfl, wpAny_letOwnedTupleGo_enum (s := { s with heap := h', toks := tk + 1 }) ho fun h'' he' sb => ?_⟩
    have hT2 : h''.get? s.heap.objs.size = some { cls := .type "tuple", data := .seq #[.int i tk, x'] } := (sb.2 _ (Nat.ne_of_gt hel)).trans hT
    have new : ObjOk X.prog X.w (upd H s.heap.objs.size (.tup [.int (i : Nat), x])) h'' s.heap.objs.size (.tup [.int (i : Nat), x]) :=
      ⟨by show 2 ≤ sizeLine; decide, [.int i tk, x'], .cons ⟨_, rfl⟩ (.cons ru .nil), ⟨_, hT2, rfl, _, rfl⟩⟩
    have I1 : Inv X pins σ (upd H s.heap.objs.size (.tup [.int (i : Nat), x])) { s with heap := h'', toks := tk + 1 } :=
      I.turnedNew (ch := [e, it]) (fun b ob hb q => (sb.2 b (fun z => hb (by simp [z]))).trans (hk b ob (fun z => hb (by simp [z])) (fun z => hb (by simp [z])) q)) hf (Nat.le_refl _) new
    refine ⟨.ref s.heap.objs.size, _, I1, rfl, ⟨_, x, rfl, I.hok.fresh (Nat.le_refl _), rfl, fun ys hy => by rw [I.tuple_inj hy hq]; exact hx⟩, ⟨⟨x', ?_⟩, hst'.1.at fun o q => (sb.2 it (Ne.symm hne)).trans q, hne⟩, fun b hb => ?_⟩
    · have e1 : ((i + 1 : Nat) : Int) = (i : Int) + 1 := by omega
      rw [e1]; exact he'
    · have hb' : b < s.heap.objs.size := by
        have e' : b = e ∨ b = it := by simpa using hb
        rcases e' with z | z
        · rw [z]; exact hel
        · rw [z]; exact hil
      rw [upd_ne (Nat.ne_of_lt hb')]
      exact (hf b hb).1
  done := by
    intro X hP hw hK hc i pins s σ H E I hf st hg
    subst hP hw hK
    obtain ⟨⟨old, he⟩, hit, hne⟩ := st
    obtain ⟨xs, hq, hx⟩ := hg
    obtain ⟨its, rv, p, hz⟩ := I.tuple hq
    obtain ⟨f0, f1, f2, f3, f4, f5⟩ := hf it (by simp)
    have hl := rv.length
    have p' : s.heap.IsTuple a its.toArray := p
    obtain ⟨nai, nea⟩ := iter_ne he hit p'
    have D := PySem.Draws.tuple (prog := X.prog) (w := X.w) (A := X.A.in1) (show X.A.in1.handled = none from I.ok.hd hc) it a nai its.toArray
    have ei : i = its.toArray.size := by rw [List.size_toArray]; omega
    exact wpAny_pyNext_enum_endD D he (by rw [← ei]; exact ⟨hit, p'⟩) fun h' eb => ⟨rfl, I.turned (t' := s.toks) (fun b o hb q => eb b o hb q) f0 f1 f3 f4 f5⟩
  self := fun A i s Q E st h => let ⟨⟨_, he⟩, _⟩ := st; wpAny_pyIter_enum he h
theorem enumD_get : ∀ {ds : List D} {k i : Nat} {d : D}, (enumD k ds)[i]? = some d → ∃ e, ds[i]? = some e ∧ d = .tup [.int ((k + i : Nat) : Int), e]
  | [], k, i, d, h => by simp [enumD] at h
  | e :: ds, k, 0, d, h => by simp [enumD] at h; exact ⟨e, rfl, h.symm⟩
  | e :: ds, k, i + 1, d, h => by
    obtain ⟨e', h1, h2⟩ := enumD_get (ds := ds) (k := k + 1) (i := i) (d := d) (by simpa [enumD] using h)
    have e2 : k + 1 + i = k + (i + 1) := by omega
    rw [e2] at h2
    exact ⟨e', by simpa using h1, h2⟩
theorem enumD_length : ∀ (ds : List D) (k : Nat), (enumD k ds).length = ds.length
  | [], _ => rfl
  | _ :: ds, k => by simp [enumD, enumD_length ds (k + 1)]
theorem zipD_get : ∀ {xs ys : List D} {i : Nat} {d : D}, (zipD xs ys)[i]? = some d → ∃ x y, xs[i]? = some x ∧ ys[i]? = some y ∧ d = .tup [x, y]
  | [], _, i, d, h => by simp [zipD] at h
  | x :: xs, [], i, d, h => by simp [zipD] at h
  | x :: xs, y :: ys, 0, d, h => by simp [zipD] at h; exact ⟨x, y, rfl, rfl, h.symm⟩
  | x :: xs, y :: ys, i + 1, d, h => by
    obtain ⟨a, b, h1, h2, h3⟩ := zipD_get (xs := xs) (ys := ys) (i := i) (d := d) (by simpa [zipD] using h)
    exact ⟨a, b, by simpa using h1, by simpa using h2, h3⟩
theorem zipD_length : ∀ (xs ys : List D), (zipD xs ys).length = min xs.length ys.length
  | [], _ => by simp [zipD]
  | _ :: _, [] => by simp [zipD]
  | _ :: xs, _ :: ys => by simp [zipD, zipD_length xs ys]
/-- a new pair -/
theorem pair_rf {H : Hp} {T : Addr} {x y : V} {a b : D} (hT : H T = none) (h1 : RF H x a) (h2 : RF H y b) : (∀ c o, H c = some o → upd H T (.tup [x, y]) c = some o) ∧ RF (upd H T (.tup [x, y])) (.ref T) (.tup [a, b]) := by
  have k : ∀ c o, H c = some o → upd H T (.tup [x, y]) c = some o := fun c o e => imm_upd hT c o e
  exact ⟨k, .tup upd_same (.cons (h1.mono (imm_of_ext k)) (.cons (h2.mono (imm_of_ext k)) .nil))⟩
section
variable {X : Cx} {q : SX} {κ : K} {n : Nat} {lk : List Nat} {p : Pos}
/-- the two kinds that enumerate and zip take -/
inductive SeqK2 (d : D) (ds : List D) (ce : Ce) : Prop
  | l : OV.lsV ce d = some ds → isT d = false → SeqK2 d ds ce
  | t : d = .tup ds → SeqK2 d ds ce
theorem seqK2 {ce : Ce} {d : D} {ds : List D} (h : seqW ce d = some ds) : SeqK2 d ds ce := by
  cases d with
  | tup ds' => cases h; exact .t rfl
  | _ => exact .l h rfl
theorem si_enum {c : C} {e : Expr} {elts : List Expr} {kk : Nat} {tpos p' : Pos} (cx : Cxt X q κ n) (h : gloB q ("enumerate" : Str) = true) (g : GoodE X κ c e) : SI X (.Tuple elts kk tpos) (.Call (.Name "enumerate" p') [e] [] p) lk (oI κ lk (.enum c)) := by
  intro st m fps σ H hx R x ox
  rw [oI] at hx ⊢
  obtain ⟨hg, hdb, hn⟩ := gl_of cx h
  intro pins s I
  have hst : starEach [e] X.env = (false, eval e X.env) :: starEach [] X.env := star_plain g.ok _ _
  have args : WA X [e] σ H fun vs H1 => ∃ v, vs = [v] ∧ WiE lk (oE κ lk c st) m fps σ H v H1 := wa_pa (pa_cons pe_we pa_nil hst) (WE.imp (g.se lk st m fps σ H hx.fst R) fun v H1 p1 => ⟨v, rfl, p1⟩)
  refine Call_ (ld_blt I hg (blt_of cx (by decide +kernel)) boot_enumerate (PyProof.Rows.callWith_type1 (thn (args p pins s I) fun us s1 ⟨vs, H1, I1, rvs, v, ev, d, st1, h1, fps1, f1, R1, r1, g1, n1⟩ => ?_) (by rw [hst] <;> rfl) rfl))
  subst ev
  have hx1 := hx.snd h1
  cases hs : seqW st1.ce d with
  | none => simp only [hs] at hx1; exact hx1.elim
  | some ds =>
    have ox1 := ox.keep g1
    have nx : ∀ b ∈ x, b ∉ f1 := nf_out ox n1
    have fin : ∀ {J : It}, Src J (lkI d) (enumD 0 ds) x fps1 H1 → WiI lk ((oE κ lk c st).bind fun d st1 => match seqW st1.ce d with | some ds => .ok (enumD 0 ds, lkI d) st1 | none => .no) m fps σ H x J H1 := fun {J} hj =>
      ⟨enumD 0 ds, lkI d, st1, fps1, by rw [h1, Res.bind_ok]; simp only [hs], R1, g1, hj⟩
    have f2 : ∀ b ∈ [s1.heap.objs.size + 1, s1.heap.objs.size], FpOk X pins H1 b := fun b hb => by
      have e' : b = s1.heap.objs.size + 1 ∨ b = s1.heap.objs.size := by simpa using hb
      have hle : s1.heap.objs.size ≤ b := by
        rcases e' with z | z
        · rw [z]; exact Nat.le_add_right _ _
        · rw [z]; exact Nat.le_refl _
      exact I1.fpOk hle (I1.hok.fresh hle)
    cases rvs with
    | cons rv rr =>
      cases rr
      rcases seqK2 hs with ⟨hl, _⟩ | rfl
      · obtain ⟨a, vs, rfl, r, k⟩ := r1.lsK R1 hl ox1 nx
        cases rv
        obtain ⟨its, rv, p', hz⟩ := I1.list (rd_sqL (k fps1 H1 GX.refl))
        refine call_enumerate_list p'.isList fun h' he hit hsz hk => wpAny_pyIter_enum he ?_
        have I2 : Inv X pins σ H1 { s1 with heap := h' } := I1.kept (t' := s1.toks) hk
        refine ⟨s1.heap.objs.size + 1, [s1.heap.objs.size + 1, s1.heap.objs.size], _, _, H1, rfl, I2, turn_enum a (s1.heap.objs.size + 1) s1.heap.objs.size, ⟨⟨.none, he⟩, hit, Nat.succ_ne_self _⟩, f2, fin fun fps' H' gg i => ?_⟩
        have s := rd_sqL (K := X.K) (k fps' H' gg)
        refine ⟨fun d0 hd => ?_, fun hl => ⟨vs, s, by rw [r.length, hl, enumD_length]; exact Nat.le_refl _⟩⟩
        obtain ⟨e0, hd2, rfl⟩ := enumD_get hd
        obtain ⟨v, w1, w2⟩ := r.get_mono (gg.imm R1 ox1) hd2
        refine ⟨⟨vs, v, s, w1⟩, fun y H2 hy => ?_⟩
        obtain ⟨T, x', rfl, hT, rfl, hy⟩ := hy
        have := hy vs s
        rw [w1] at this; cases this
        rw [Nat.zero_add]
        exact pair_rf hT (.int _) w2
      · obtain ⟨a, vs, rfl, h2, r, _⟩ := r1.tupv
        cases rv
        have sq : SqT X.K H1 a vs := .inl (.inl h2)
        obtain ⟨its, rv, p', hz⟩ := I1.tuple sq
        refine call_enum_tup (show s1.heap.IsTuple a its.toArray from p') fun h' he hit hsz hk => wpAny_pyIter_enum he ?_
        have I2 : Inv X pins σ H1 { s1 with heap := h' } := I1.kept (t' := s1.toks) hk
        refine ⟨s1.heap.objs.size + 1, [s1.heap.objs.size + 1, s1.heap.objs.size], _, _, H1, rfl, I2, turn_enumT a (s1.heap.objs.size + 1) s1.heap.objs.size, ⟨⟨.none, he⟩, hit, Nat.succ_ne_self _⟩, f2, fin fun fps' H' gg i => ?_⟩
        have s : SqT X.K H' a vs := .inl (.inl (gg.imm R1 ox1 _ _ h2 rfl))
        refine ⟨fun d0 hd => ?_, fun hl => ⟨vs, s, by rw [r.length, hl, enumD_length]⟩⟩
        obtain ⟨e0, hd2, rfl⟩ := enumD_get hd
        obtain ⟨v, w1, w2⟩ := r.get_mono (gg.imm R1 ox1) hd2
        refine ⟨⟨vs, v, s, w1⟩, fun y H2 hy => ?_⟩
        obtain ⟨T, x', rfl, hT, rfl, hy⟩ := hy
        have := hy vs s
        rw [w1] at this; cases this
        rw [Nat.zero_add]
        exact pair_rf hT (.int _) w2
theorem si_zip {c1 c2 : C} {e1 e2 : Expr} {elts : List Expr} {kk : Nat} {tpos p' : Pos} (cx : Cxt X q κ n) (h : gloB q ("zip" : Str) = true) (ga : GoodE X κ c1 e1) (gb : GoodE X κ c2 e2) : SI X (.Tuple elts kk tpos) (.Call (.Name "zip" p') [e1, e2] [] p) lk (oI κ lk (.zip c1 c2)) := by
  intro st m fps σ H hx R x ox
  rw [oI] at hx ⊢
  obtain ⟨hg, hdb, hn⟩ := gl_of cx h
  have hst : starEach [e1, e2] X.env = (false, eval e1 X.env) :: starEach [e2] X.env := star_plain ga.ok _ _
  have hst2 : starEach [e2] X.env = (false, eval e2 X.env) :: starEach [] X.env := star_plain gb.ok _ _
  refine wi_pi (RZ.pi_zipA hg (blt_of cx (by decide +kernel)) (pa_cons pe_we (pa_cons pe_we pa_nil hst2) hst) hst (by rw [back_any, hst2]; rfl)) ?_
  refine WE.imp (ga.se lk st m fps σ H hx.fst R) fun v1 H1 ⟨d1, st1, h1, fps1, f1, R1, r1, g1, n1⟩ => ?_
  have hx1 := hx.snd h1
  refine WE.imp (gb.se _ st1 m fps1 σ H1 hx1.fst R1) fun v2 H2 ⟨d2, st2, h2, fps2, f2, R2, r2, g2, n2⟩ => ?_
  have hx2 := hx1.snd h2
  have r1' := r1.keep R1 g2 fun n hn => List.mem_append_left _ hn
  have g12 := g1.trans g2 R1 (fun n hn => List.mem_append_right _ hn) (R.len_le R1)
  have ox2 := ox.keep g12
  have nx1 : ∀ b ∈ x, b ∉ f1 := nf_out ox n1
  have nx2 : ∀ b ∈ x, b ∉ f2 := nf_out ox (n2.trans g1)
  cases hs : seqW st2.ce d1 with
  | none => simp only [hs] at hx2; exact hx2.elim
  | some xs =>
    cases hs2 : seqW st2.ce d2 with
    | none => simp only [hs, hs2] at hx2; exact hx2.elim
    | some ys =>
      simp only [hs, hs2] at hx2
      by_cases ht : isT d1 = isT d2
      · have fin : ∀ {J : It}, Src J (lkI d1 ++ lkI d2) (zipD xs ys) x fps2 H2 → WiI lk ((oE κ lk c1 st).bind fun x st1 => (oE κ (lkO x ++ lk) c2 st1).bind fun y st2 => match seqW st2.ce x, seqW st2.ce y with | some xs, some ys => if isT x = isT y then .ok (zipD xs ys, lkI x ++ lkI y) st2 else .no | _, _ => .no) m fps σ H x J H2 := fun {J} hj =>
          ⟨zipD xs ys, lkI d1 ++ lkI d2, st2, fps2, by rw [h1, Res.bind_ok, h2, Res.bind_ok]; simp only [hs, hs2]; rw [if_pos ht], R2, g12, hj⟩
        rcases seqK2 hs with ⟨hl, t1⟩ | rfl
        · rcases seqK2 hs2 with ⟨hl2, t2⟩ | rfl
          · obtain ⟨a, vs, rfl, r, k⟩ := r1'.lsK R2 hl ox2 nx1
            obtain ⟨b, ws, rfl, r', k'⟩ := r2.lsK R2 hl2 ox2 nx2
            have l1 : ∀ {fps' H'}, GX x (lkI d1 ++ lkI d2) fps2 fps' H2 H' → GX x (lkI d1) fps2 fps' H2 H' := fun g => g.less fun _ h => List.mem_append_left _ h
            have l2 : ∀ {fps' H'}, GX x (lkI d1 ++ lkI d2) fps2 fps' H2 H' → GX x (lkI d2) fps2 fps' H2 H' := fun g => g.less fun _ h => List.mem_append_right _ h
            refine ⟨a, b, vs, ws, rfl, .inl ⟨rd_sqL (k fps2 H2 GX.refl), rd_sqL (k' fps2 H2 GX.refl), fin fun fps' H' gg i => ?_⟩⟩
            have s := rd_sqL (K := X.K) (k fps' H' (l1 gg))
            have s' := rd_sqL (K := X.K) (k' fps' H' (l2 gg))
            refine ⟨fun d0 hd => ?_, fun hl => ⟨vs, ws, s, s', by rw [r.length, r'.length, hl, zipD_length]; omega⟩⟩
            obtain ⟨e0, e0', hd2, hd3, rfl⟩ := zipD_get hd
            obtain ⟨v, w1, w2⟩ := r.get_mono (gg.imm R2 ox2) hd2
            obtain ⟨v', w1', w2'⟩ := r'.get_mono (gg.imm R2 ox2) hd3
            refine ⟨⟨vs, ws, v, v', s, s', w1, w1'⟩, fun y H3 hy => ?_⟩
            obtain ⟨T, x', y', rfl, hT, rfl, hy, hy'⟩ := hy
            have := hy vs s
            rw [w1] at this; cases this
            have := hy' ws s'
            rw [w1'] at this; cases this
            exact pair_rf hT w2 w2'
          · rw [t1] at ht; cases ht
        · rcases seqK2 hs2 with ⟨hl2, t2⟩ | rfl
          · rw [t2] at ht; cases ht
          · obtain ⟨a, vs, rfl, q2, r, _⟩ := r1'.tupv
            obtain ⟨b, ws, rfl, q2', r', _⟩ := r2.tupv
            refine ⟨a, b, vs, ws, rfl, .inr ⟨.inl (.inl q2), .inl (.inl q2'), fin fun fps' H' gg i => ?_⟩⟩
            have s : SqT X.K H' a vs := .inl (.inl (gg.imm R2 ox2 _ _ q2 rfl))
            have s' : SqT X.K H' b ws := .inl (.inl (gg.imm R2 ox2 _ _ q2' rfl))
            refine ⟨fun d0 hd => ?_, fun hl => ⟨vs, ws, s, s', by rw [r.length, r'.length, hl, zipD_length]; omega⟩⟩
            obtain ⟨e0, e0', hd2, hd3, rfl⟩ := zipD_get hd
            obtain ⟨v, w1, w2⟩ := r.get_mono (gg.imm R2 ox2) hd2
            obtain ⟨v', w1', w2'⟩ := r'.get_mono (gg.imm R2 ox2) hd3
            refine ⟨⟨vs, ws, v, v', s, s', w1, w1'⟩, fun y H3 hy => ?_⟩
            obtain ⟨T, x', y', rfl, hT, rfl, hy, hy'⟩ := hy
            have := hy vs s
            rw [w1] at this; cases this
            have := hy' ws s'
            rw [w1'] at this; cases this
            exact pair_rf hT w2 w2'
      · rw [if_neg ht] at hx2; exact hx2.elim
end
end OV
/-! text OVR -/
namespace OV
open PySem PySem.Spec PyProof.Rows L2
variable [Tabled] [Kn]
/-! Targets. -/
/-- what a store keeps: all but what is stored and the cells that are not locked -/
structure GT (fp : List Addr) (lk : List Nat) (fps fps' : List (List Addr)) (H H' : Hp) : Prop where
  keep : ∀ b o, b ∉ fp → H b = some o → (∀ (n : Nat) (f : List Addr), fps[n]? = some f → b ∈ f → n ∈ lk) → isTbl o = false → H' b = some o
  there : ∀ b o, H b = some o → ∃ o', H' b = some o'
  fresh : ∀ b, (∃ f ∈ fps', b ∈ f) → (∃ f ∈ fps, b ∈ f) ∨ b ∈ fp ∨ H b = none
  lock : ∀ n ∈ lk, ∀ (f : List Addr), fps[n]? = some f → fps'[n]? = some f
theorem GT.refl {fp : List Addr} {lk : List Nat} {fps : List (List Addr)} {H : Hp} : GT fp lk fps fps H H := ⟨fun _ _ _ e _ _ => e, fun _ o e => ⟨o, e⟩, fun _ h => .inl h, fun _ _ _ e => e⟩
theorem GT.trans {fp fq : List Addr} {lk : List Nat} {st1 : S} {m1 : List Addr} {fps fps1 fps2 : List (List Addr)} {σ1 : L2.St} {H H1 H2 : Hp} (a : GT fp lk fps fps1 H H1) (b : GT fq lk fps1 fps2 H1 H2) (R1 : Rel st1 m1 fps1 σ1 H1) : GT (fp ++ fq) lk fps fps2 H H2 := by
  refine ⟨fun c o hx e hn ht => ?_, fun c o e => ?_, fun c h => ?_, fun n hn f hf => b.lock n hn f (a.lock n hn f hf)⟩
  · have h1 : c ∉ fp := fun z => hx (List.mem_append_left _ z)
    have e1 := a.keep c o h1 e hn ht
    refine b.keep c o (fun z => hx (List.mem_append_right _ z)) e1 (fun n f hf hc => ?_) ht
    rcases a.fresh c ⟨f, List.mem_of_getElem? hf, hc⟩ with ⟨f0, hf0, hc0⟩ | h0 | h0
    · obtain ⟨n0, h0⟩ := List.getElem?_of_mem hf0
      have l0 := hn n0 f0 h0 hc0
      have := dis_at R1.dis hf (a.lock n0 l0 f0 h0) hc hc0
      rw [this]; exact l0
    · exact absurd h0 h1
    · rw [e] at h0; cases h0
  · obtain ⟨o1, e1⟩ := a.there c o e
    exact b.there c o1 e1
  · rcases b.fresh c h with h1 | h1 | h1
    · exact (a.fresh c h1).imp id (Or.imp (fun z => List.mem_append_left _ z) id)
    · exact .inr (.inl (List.mem_append_right _ h1))
    · right; right
      cases q : H c with
      | none => rfl
      | some o => obtain ⟨o1, e1⟩ := a.there c o q; rw [h1] at e1; cases e1
/-- behind a run: what was stored was new -/
theorem Grd.store {fp : List Addr} {lk : List Nat} {st1 : S} {m1 : List Addr} {fps fps1 fps2 : List (List Addr)} {σ1 : L2.St} {H H1 H2 : Hp} (g : Grd lk fps fps1 H H1) (t : GT fp lk fps1 fps2 H1 H2) (R1 : Rel st1 m1 fps1 σ1 H1) (nf : NF fp fps H) (ap : ∀ b ∈ fp, ∀ f ∈ fps1, b ∉ f) : Grd lk fps fps2 H H2 := by
  refine ⟨fun c o e hn ht => ?_, fun c o e => ?_, fun c h => ?_, fun n hn f hf => t.lock n hn f (g.lock n hn f hf)⟩
  · have h1 : c ∉ fp := fun z => by
      rcases nf c z with ⟨f, hf, hc⟩ | h0
      · obtain ⟨n0, h0⟩ := List.getElem?_of_mem hf
        exact ap c z f (List.mem_of_getElem? (g.lock n0 (hn n0 f h0 hc) f h0)) hc
      · rw [e] at h0; cases h0
    refine t.keep c o h1 (g.keep c o e hn ht) (fun n f hf hc => ?_) ht
    rcases g.fresh c ⟨f, List.mem_of_getElem? hf, hc⟩ with ⟨f0, hf0, hc0⟩ | h0
    · obtain ⟨n0, h0⟩ := List.getElem?_of_mem hf0
      have l0 := hn n0 f0 h0 hc0
      rw [dis_at R1.dis hf (g.lock n0 l0 f0 h0) hc hc0]; exact l0
    · rw [e] at h0; cases h0
  · obtain ⟨o1, e1⟩ := g.there c o e
    exact t.there c o1 e1
  · rcases t.fresh c h with h1 | h1 | h1
    · exact g.fresh c h1
    · exact nf c h1
    · right
      cases q : H c with
      | none => rfl
      | some o => obtain ⟨o1, e1⟩ := g.there c o q; rw [h1] at e1; cases e1
theorem GT.of_fz {fp : List Addr} {lk : List Nat} {fps : List (List Addr)} {H H' : Hp} (z : Fz fp H H') : GT fp lk fps fps H H' :=
  ⟨fun b o hb e _ _ => by rw [z.out b hb]; exact e, fun b o e => by
    by_cases h : b ∈ fp
    · exact z.inn b h
    · rw [z.out b h]; exact ⟨o, e⟩, fun _ h => .inl h, fun _ _ _ e => e⟩
theorem GT.sub {fp fq : List Addr} {lk : List Nat} {fps fps' : List (List Addr)} {H H' : Hp} (t : GT fp lk fps fps' H H') (h : ∀ b ∈ fp, b ∈ fq) : GT fq lk fps fps' H H' :=
  ⟨fun b o hb => t.keep b o fun z => hb (h b z), t.there, fun b hb => (t.fresh b hb).imp id (Or.imp (h b) id), t.lock⟩
theorem GT.of_grd {fp : List Addr} {lk : List Nat} {fps fps' : List (List Addr)} {H H' : Hp} (t : Grd lk fps fps' H H') : GT fp lk fps fps' H H' :=
  ⟨fun b o _ => t.keep b o, t.there, fun b hb => (t.fresh b hb).imp id .inr, t.lock⟩
def PostG (lk : List Nat) (st' : S) (m : List Addr) (fps : List (List Addr)) (σ : L2.St) (H : Hp) (fp : List Addr) (ts : List Nat) : L2.St → Hp → Prop := fun σ' H' =>
  ∃ me fps', Rel st' (m ++ me) fps' σ' H' ∧ GT fp lk fps fps' H H' ∧ σ'.length = σ.length ∧ ∀ j : Nat, j ∉ ts → (σ' : List (Option V))[j]? = (σ : List (Option V))[j]?
section
variable {X : Cx} {q : SX} {κ : K} {n : Nat} {lk : List Nat} {p : Pos}
def WG (X : Cx) (tg : Expr) : TG := fun v σ H Q => ∀ (pins : List (Addr × Obj)) (s : Shared) (u : Value), Inv X pins σ H s → RelV v u → wpAny (model X.prog X.w) X.A (assign tg X.env u) (fun _ s' => ∃ σ' H', Inv X pins σ' H' s' ∧ Q σ' H') X.xe s
theorem pg_wg {tg : Expr} : PG X tg (WG X tg) := ⟨fun pins s σ H v u Q I r h => h pins s u I r⟩
theorem wg_pg {tg : Expr} {g : TG} {v : V} {σ : L2.St} {H : Hp} {Q : L2.St → Hp → Prop} (h : PG X tg g) (q : g v σ H Q) : WG X tg v σ H Q := fun pins s u I r => h.run pins s σ H v u Q I r q
theorem WG.imp {tg : Expr} {v : V} {σ : L2.St} {H : Hp} {Q Q' : L2.St → Hp → Prop} (h : WG X tg v σ H Q) (k : ∀ σ' H', Q σ' H' → Q' σ' H') : WG X tg v σ H Q' := fun pins s u I r => thn (h pins s u I r) fun _ _ ⟨σ', H', I', q⟩ => ⟨σ', H', I', k _ _ q⟩
def WGs (X : Cx) (ts : List Expr) : TGs := fun vs σ H Q => ∀ (pins : List (Addr × Obj)) (s : Shared) (us : List Value), Inv X pins σ H s → Vals vs us → wpAny (model X.prog X.w) X.A (assignInOrder ((assignEach ts X.env).map (·.2)) us) (fun _ s' => ∃ σ' H', Inv X pins σ' H' s' ∧ Q σ' H') X.xe s
theorem pgs_wgs {ts : List Expr} : PGs X ts (WGs X ts) := ⟨fun pins s σ H v u Q I r h => h pins s u I r⟩
theorem wgs_pgs {ts : List Expr} {g : TGs} {v : List V} {σ : L2.St} {H : Hp} {Q : L2.St → Hp → Prop} (h : PGs X ts g) (q : g v σ H Q) : WGs X ts v σ H Q := fun pins s u I r => h.run pins s σ H v u Q I r q
theorem WGs.imp {tg : List Expr} {v : List V} {σ : L2.St} {H : Hp} {Q Q' : L2.St → Hp → Prop} (h : WGs X tg v σ H Q) (k : ∀ σ' H', Q σ' H' → Q' σ' H') : WGs X tg v σ H Q' := fun pins s u I r => thn (h pins s u I r) fun _ _ ⟨σ', H', I', q⟩ => ⟨σ', H', I', k _ _ q⟩
def SG (X : Cx) (tg : Expr) (lk : List Nat) (ts : List Nat) (f : D → S → Res Unit) : Prop := ∀ st m fps σ H x d fp, XO X (f d st) → Rel st m fps σ H → RR H m fps x d fp → WG X tg x σ H fun σ' H' => ∃ st', f d st = .ok () st' ∧ PostG lk st' m fps σ H fp ts σ' H'
def SGs (X : Cx) (tg : List Expr) (lk : List Nat) (ts : List Nat) (f : List D → S → Res Unit) : Prop := ∀ st m fps σ H xs ds fp, XO X (f ds st) → Rel st m fps σ H → RRs H m fps xs ds fp → WGs X tg xs σ H fun σ' H' => ∃ st', f ds st = .ok () st' ∧ PostG lk st' m fps σ H fp ts σ' H'
/-! ### a name -/
theorem Rel.setsl {st : S} {m : List Addr} {fps : List (List Addr)} {σ : L2.St} {H : Hp} {i : Nat} {v : V} {d : D} (R : Rel st m fps σ H) (r : RT H m v d) : Rel ⟨st.sl.set i (some d), st.ce⟩ m fps (σ.set i (some v)) H := by
  refine ⟨by rw [List.length_set, List.length_set]; exact R.slen, fun j e h => ?_, R.mlen, R.flen, R.ce, R.dead, R.dis, R.tab⟩
  have h : (st.sl.set i (some d))[j]? = some (some e) := h
  by_cases ij : i = j
  · subst ij
    have hl : i < st.sl.length := by
      rcases Nat.lt_or_ge i st.sl.length with z | z
      · exact z
      · rw [List.getElem?_eq_none (by rw [List.length_set]; exact z)] at h; cases h
    rw [List.getElem?_set_self hl] at h
    cases h
    exact ⟨v, by rw [List.getElem?_set_self (by rw [← R.slen]; exact hl)], r⟩
  · rw [List.getElem?_set_ne ij] at h ⊢
    exact R.sl j e h
/-- a new cell -/
theorem Rel.push {st : S} {m : List Addr} {fps : List (List Addr)} {σ : L2.St} {H : Hp} {a : Addr} {d : D} {fp : List Addr} (R : Rel st m fps σ H) (r : RO H (.ref a) d fp) (nv : OV.isV d = false) (ap : ∀ b ∈ fp, ∀ f ∈ fps, b ∉ f) : Rel ⟨st.sl, st.ce ++ [some d]⟩ (m ++ [a]) (fps ++ [fp]) σ H := by
  refine ⟨R.slen, fun j e h => ?_, by simp [R.mlen], by simp [R.flen], fun j e h => ?_, fun j h => ?_, ?_, R.tab⟩
  · obtain ⟨v, h1, h2⟩ := R.sl j e h
    refine ⟨v, h1, ?_⟩
    cases h2 with
    | fro h => exact .fro h
    | @ref a' k' hk => exact .ref (by rw [List.getElem?_append_left (List.getElem?_eq_some_iff.mp hk).1]; exact hk)
    | clo hk => exact .clo hk
  · have h : (st.ce ++ [some d])[j]? = some (some e) := h
    rcases Nat.lt_or_ge j st.ce.length with z | z
    · rw [List.getElem?_append_left z] at h
      obtain ⟨a2, f, h1, h2, h3, h4⟩ := R.ce j e h
      exact ⟨a2, f, by rw [List.getElem?_append_left (by rw [R.mlen]; exact z)]; exact h1, by rw [List.getElem?_append_left (by rw [R.flen]; exact z)]; exact h2, h3, h4⟩
    · have hj : j = st.ce.length := by
        have := (List.getElem?_eq_some_iff.mp h).1
        simp at this; omega
      subst hj
      rw [List.getElem?_append_right (Nat.le_refl _), Nat.sub_self] at h
      cases h
      refine ⟨a, fp, ?_, ?_, r, nv⟩
      · rw [← R.mlen, List.getElem?_append_right (Nat.le_refl _), Nat.sub_self]; rfl
      · rw [← R.flen, List.getElem?_append_right (Nat.le_refl _), Nat.sub_self]; rfl
  · have h : (st.ce ++ [some d])[j]? = some none := h
    rcases Nat.lt_or_ge j st.ce.length with z | z
    · rw [List.getElem?_append_left z] at h
      rw [List.getElem?_append_left (by rw [R.flen]; exact z)]; exact R.dead j h
    · have hj : j = st.ce.length := by
        have := (List.getElem?_eq_some_iff.mp h).1
        simp at this; omega
      subst hj
      rw [List.getElem?_append_right (Nat.le_refl _), Nat.sub_self] at h
      cases h
  · rw [List.pairwise_append]
    refine ⟨R.dis, by simp, fun f hf g hg b hb hm => ?_⟩
    rw [List.mem_singleton.mp hg] at hm
    exact ap b hm f hf hb
theorem sg_nm {live : Bool} {i : Nat} {x : Str} (cx : Cxt X q κ n) (h : strNameB q i x = true) : SG X (.Name x p) lk [i] (setN live i) := by
  intro st m fps σ H v d fp hx R r
  unfold strNameB at h
  simp only [Bool.and_eq_true, decide_eq_true_eq] at h
  obtain ⟨h1, h2⟩ := h
  have hl : Loc X.env.scope x ∧ (X.fn x = true ∨ X.env.scope.names.lookup x = some .local) := by
    unfold locB at h2
    rw [cx.sc, cx.fn]
    split at h2
    · rename_i e; exact ⟨.inl e, .inr e⟩
    · rename_i e; exact ⟨.inr e, .inl h2⟩
    · cases h2
  have pg : PG X (.Name x p) (gName i) := pg_name (by rw [cx.N]; exact cx.nd) (by rw [cx.N]; exact h1) hl.1 hl.2
  have offs : ∀ {y : V} (j : Nat), j ∉ [i] → ((σ.set i (some y) : L2.St) : List (Option V))[j]? = (σ : List (Option V))[j]? := fun {y} j hj => by
    rw [List.getElem?_set_ne (fun e => hj (by simp [e]))]
  -- a new cell
  have cell : ∀ {ds : List D} {a : Addr} {fp : List Addr}, v = .ref a → RO H (.ref a) (.own ds) fp → (∀ b ∈ fp, ∀ f ∈ fps, b ∉ f) → setN live i d st = .ok () ⟨st.sl.set i (some (.ref st.ce.length)), st.ce ++ [some (.own ds)]⟩ →
      WG X (.Name x p) v σ H fun σ' H' => ∃ st', setN live i d st = .ok () st' ∧ PostG lk st' m fps σ H fp [i] σ' H' := fun {ds a fp} ev ro ap es => by
    subst ev
    refine wg_pg pg ⟨_, es, [a], fps ++ [fp], ?_, ⟨fun _ _ _ e _ _ => e, fun _ o e => ⟨o, e⟩, fun b ⟨f, hf, hb⟩ => ?_, fun j hj f hf => ?_⟩, by simp, offs⟩
    · have R' := R.push ro rfl ap
      have := R'.setsl (i := i) (v := .ref a) (d := .ref st.ce.length) (.ref (by rw [← R.mlen, List.getElem?_append_right (Nat.le_refl _), Nat.sub_self]; rfl))
      exact this
    · rcases List.mem_append.mp hf with z | z
      · exact .inl ⟨f, z, hb⟩
      · rw [List.mem_singleton.mp z] at hb; exact .inr (.inl hb)
    · rw [List.getElem?_append_left (List.getElem?_eq_some_iff.mp hf).1]; exact hf
  -- frozen, or a cell's other name
  have plain : setN live i d st = (match arg d with | some e => .ok () ⟨st.sl.set i (some e), st.ce⟩ | none => .no) → WG X (.Name x p) v σ H fun σ' H' => ∃ st', setN live i d st = .ok () st' ∧ PostG lk st' m fps σ H fp [i] σ' H' := fun es => by
    rw [es] at hx
    cases ha : arg d with
    | none => simp only [ha] at hx; exact hx.elim
    | some e =>
      simp only [ha] at es
      intro pins s u I rv
      obtain ⟨H1, I1, rt, z⟩ := freezeA (fps := fps) I (RRs.cons r .nil (by simp)) (es := [e]) (by simp only [items, ha])
      have rt1 : RT H1 m v e := by cases rt with | cons h _ => exact h
      have mm := r.mem
      rw [List.append_nil] at z
      refine thn (pg.run pins s σ H1 v u (PostG lk ⟨st.sl.set i (some e), st.ce⟩ m fps σ H fp [i]) I1 rv (show PostG lk ⟨st.sl.set i (some e), st.ce⟩ m fps σ H fp [i] (σ.set i (some v)) H1 from ⟨[], fps, ?_, .of_fz z, by simp, offs⟩)) fun _ s' ⟨σ', H', I', q⟩ => ⟨σ', H', I', _, es, q⟩
      rw [List.append_nil]
      exact (R.fz z mm).setsl rt1
  cases live with
  | false => exact plain rfl
  | true =>
    cases d with
    | new ds =>
      cases r with
      | tree ho n' =>
        cases ho with
        | new h3 r3 => exact cell rfl (.own h3 r3.toO (by simp)) n' rfl
        | fro h => cases h
    | own ds =>
      cases r with
      | tree ho n' =>
        obtain ⟨a, vs, g, ea, h3, r3, n3, rfl⟩ := ho.own_inv
        subst ea
        exact cell rfl (.own h3 r3 n3) n' rfl
    | set _ => cases r with | tree ho _ => cases ho with | fro h => cases h
    | _ => exact plain rfl
/-! ### several -/
theorem RRs.off {lk : List Nat} {m me : List Addr} {st : S} {fps fps' : List (List Addr)} {σ : L2.St} {H H' : Hp} {fp : List Addr} (R : Rel st m fps σ H) (t : GT fp lk fps fps' H H') (ap : ∀ b ∈ fp, ∀ f ∈ fps, b ∉ f) (hm : ∀ b ∈ fp, ∃ vs, H b = some (.lst vs)) : ∀ {vs : List V} {ds : List D} {g : List Addr}, RRs H m fps vs ds g → (∀ b ∈ fp, b ∉ g) → (∀ d ∈ ds, lkO d = []) → RRs H' (m ++ me) fps' vs ds g
  | _, _, _, .nil, _, _ => .nil
  | _, d :: _, _, .cons (f := f) (g := g) h r n, hg, hb => by
    refine .cons ?_ (RRs.off R t ap hm r (fun b hb' z => hg b hb' (List.mem_append_right _ z)) fun d hd => hb d (List.mem_cons_of_mem _ hd)) n
    have mm := h.mem
    have im : ∀ b o, H b = some o → OV.imm o = true → H' b = some o := fun b o e i => t.keep b o (fun z => by
      obtain ⟨vs, e'⟩ := hm b z; rw [e] at e'; cases e'; cases i) e (fun n f hf hb => absurd hb (R.fimm e i f (List.mem_of_getElem? hf))) (by cases o <;> first | rfl | cases i)
    have kp : ∀ b ∈ f, ∀ o, H b = some o → H' b = some o := fun b hb o e => by
      refine t.keep b o (fun z => hg b z (List.mem_append_left _ hb)) e (fun n f' hf hb' => absurd hb' ((mm b hb).2 f' (List.mem_of_getElem? hf))) ?_
      obtain ⟨⟨vs, e'⟩, _⟩ := mm b hb
      rw [e] at e'; cases e'; rfl
    have ap' : ∀ b ∈ f, ∀ f' ∈ fps', b ∉ f' := fun b hb f' hf' hm' => by
      rcases t.fresh b ⟨f', hf', hm'⟩ with ⟨f0, h0, h1⟩ | h0 | h0
      · exact (mm b hb).2 f0 h0 h1
      · exact hg b h0 (List.mem_append_left _ hb)
      · obtain ⟨⟨vs, e'⟩, _⟩ := mm b hb
        rw [h0] at e'; cases e'
    cases h with
    | tree ho _ => exact .tree (ho.mono fun b o e i => i.elim (im b o e) fun z => kp b z o e) ap'
    | ref h => exact .ref (by rw [List.getElem?_append_left (List.getElem?_eq_some_iff.mp h).1]; exact h)
    | clo h => exact .clo (h.mono im)
    | borN h r hn _ => exact .borN (kp _ List.mem_cons_self _ h) (r.mono fun b o e i => i.elim (im b o e) fun z => kp b (List.mem_cons_of_mem _ z) o e) hn ap'
    | borS _ _ _ _ _ => exact absurd (hb _ List.mem_cons_self) (by simp [lkO])
theorem each_plain {e : Expr} (h : okE e = true) (es : List Expr) (env : Env) : assignEach (e :: es) env = (false, assign e env) :: assignEach es env := by
  cases e <;> first | rfl | cases h
inductive GoodTs (X : Cx) (κ : K) : Ts → List Expr → Prop
  | nil : GoodTs X κ .nil []
  | cons {t : T} {ts : Ts} {e : Expr} {es : List Expr} : (∀ lk, SG X e lk t.slots (oTg κ lk t)) → okE e = true → GoodTs X κ ts es → GoodTs X κ (.cons t ts) (e :: es)
theorem GoodTs.each : ∀ {ts : Ts} {es : List Expr}, GoodTs X κ ts es → (assignEach es X.env).length = es.length ∧ (assignEach es X.env).findIdx? (·.1) = none
  | _, _, .nil => ⟨rfl, rfl⟩
  | _, _, .cons _ ok g => by
    obtain ⟨h1, h2⟩ := g.each
    rw [each_plain ok]
    refine ⟨by simp [h1], ?_⟩
    rw [List.findIdx?_cons]
    simp [h2]
theorem sgs_all : ∀ {ts : Ts} {es : List Expr}, GoodTs X κ ts es → ∀ lk st m fps σ H xs ds fp, XO X (oTgs κ lk ts ds st) → Rel st m fps σ H → RRs H m fps xs ds fp → (∀ d ∈ ds, lkO d = []) → WGs X es xs σ H fun σ' H' => ∃ st', oTgs κ lk ts ds st = .ok () st' ∧ PostG lk st' m fps σ H fp ts.slots σ' H'
  | _, _, .nil, lk, st, m, fps, σ, H, xs, ds, fp, hx, R, r, hb => by
    cases r with
    | nil => exact wgs_pgs pgs_nil ⟨rfl, st, by simp only [oTgs], [], fps, by rw [List.append_nil]; exact R, GT.refl, rfl, fun _ _ => rfl⟩
    | cons _ _ _ => simp only [oTgs] at hx; exact hx.elim
  | _, _, .cons (t := t) (ts := ts) s ok g, lk, st, m, fps, σ, H, xs, ds, fp, hx, R, r, hb => by
    cases r with
    | nil => simp only [oTgs] at hx; exact hx.elim
    | @cons v d vs ds f gf h1 r1 hn =>
      simp only [oTgs] at hx ⊢
      have mm := h1.mem
      refine wgs_pgs (pgs_cons pg_wg pgs_wgs (by rw [each_plain ok]; rfl)) ⟨v, vs, rfl, WG.imp (s lk st m fps σ H v d f hx.fst R h1) fun σ1 H1 ⟨st1, e1, me, fps1, R1, t1, l1, o1⟩ => ?_⟩
      have r' := RRs.off (me := me) R t1 (fun b hb => (mm b hb).2) (fun b hb => (mm b hb).1) r1 hn fun d hd => hb d (List.mem_cons_of_mem _ hd)
      refine WGs.imp (sgs_all g lk st1 (m ++ me) fps1 σ1 H1 vs ds gf (hx.snd e1) R1 r' fun d hd => hb d (List.mem_cons_of_mem _ hd)) fun σ2 H2 ⟨st2, e2, me2, fps2, R2, t2, l2, o2⟩ => ?_
      refine ⟨st2, by rw [e1, Res.bind_ok]; exact e2, me ++ me2, fps2, by rw [← List.append_assoc]; exact R2, t1.trans t2 R1, by rw [l2, l1], fun j hj => ?_⟩
      have hj : j ∉ t.slots ++ ts.slots := hj
      rw [o2 j fun z => hj (List.mem_append_right _ z), o1 j fun z => hj (List.mem_append_left _ z)]
end
end OV
/-! text OVS -/
namespace OV
open PySem PySem.Spec PyProof.Rows L2
variable [Tabled] [Kn]
theorem RO.noLk {H : Hp} {v : V} {d : D} {f : List Addr} (h : RO H v d f) : lkO d = [] := by
  cases h with
  | fro h => cases h <;> rfl
  | _ => rfl
theorem ROs.noLk {H : Hp} : ∀ {vs : List V} {ds : List D} {f : List Addr}, ROs H vs ds f → ∀ d ∈ ds, lkO d = []
  | _, _, _, .nil, d, hd => by cases hd
  | _, _, _, .cons h r _, d, hd => by
    rcases List.mem_cons.mp hd with e | hd
    · rw [e]; exact h.noLk
    · exact ROs.noLk r d hd
theorem ROs.res {H : Hp} {m : List Addr} {fps : List (List Addr)} : ∀ {vs : List V} {ds : List D} {f : List Addr}, ROs H vs ds f → (∀ a ∈ f, ∀ g ∈ fps, a ∉ g) → RRs H m fps vs ds f
  | _, _, _, .nil, _ => .nil
  | _, _, _, .cons h r n, ap => .cons (.tree h fun a ha => ap a (List.mem_append_left _ ha)) (ROs.res r fun a ha => ap a (List.mem_append_right _ ha)) n
theorem ROs.put {H : Hp} {v : V} {e : D} {fp : List Addr} (ro : RO H v e fp) : ∀ {vs : List V} {ds : List D} {g : List Addr} {j : Nat}, ROs H vs ds g → j < ds.length → (∀ c ∈ fp, c ∉ g) → ∃ g', ROs H (vs.set j v) (ds.set j e) g' ∧ ∀ c ∈ g', c ∈ g ∨ c ∈ fp
  | _, _, _, _, .nil, h, _ => by simp at h
  | _, _, _, 0, .cons (f := f) (g := g) h r n, _, ap => ⟨fp ++ g, .cons ro r fun a ha hg => ap a ha (List.mem_append_right _ hg), fun c hc => (List.mem_append.mp hc).elim .inr fun z => .inl (List.mem_append_right _ z)⟩
  | _, _, _, j + 1, .cons (f := f) (g := g) h r n, hl, ap => by
    obtain ⟨g', h1, h2⟩ := ROs.put ro (j := j) r (by simpa using hl) fun c hc z => ap c hc (List.mem_append_right _ z)
    refine ⟨f ++ g', .cons h h1 fun a ha hg => ?_, fun c hc => ?_⟩
    · rcases h2 a hg with z | z
      · exact n a ha z
      · exact ap a z (List.mem_append_left _ ha)
    · rcases List.mem_append.mp hc with z | z
      · exact .inl (List.mem_append_left _ z)
      · exact (h2 c z).imp (fun y => List.mem_append_right _ y) id
theorem GT.mod {fp : List Addr} {lk : List Nat} {st1 : S} {m : List Addr} {fps fps1 : List (List Addr)} {σ1 : L2.St} {H H1 : Hp} {n : Nat} {b : Addr} {f f' : List Addr} {ws : List V} (g : Grd lk fps fps1 H H1) (R1 : Rel st1 m fps1 σ1 H1) (hn : n ∉ lk) (hf : fps1[n]? = some f) (hb : b ∈ f) (hs : ∀ c ∈ f', c ∈ f ∨ c ∈ fp) :
    GT fp lk fps (fps1.set n f') H (upd H1 b (.lst ws)) := by
  refine ⟨fun c o _ e k t => ?_, fun c o e => ?_, fun c hc => ?_, fun j hj f2 h2 => ?_⟩
  · have cb : c ≠ b := by
      rintro rfl
      rcases g.fresh c ⟨f, List.mem_of_getElem? hf, hb⟩ with ⟨f0, h0, h1⟩ | h0
      · obtain ⟨j, hj⟩ := List.getElem?_of_mem h0
        have l := k j f0 hj h1
        have := dis_at R1.dis (g.lock j l f0 hj) hf h1 hb
        exact hn (this ▸ l)
      · rw [e] at h0; cases h0
    rw [upd_ne cb]; exact g.keep c o e k t
  · obtain ⟨o1, e1⟩ := g.there c o e
    by_cases cb : c = b
    · rw [cb]; exact ⟨_, upd_same⟩
    · rw [upd_ne cb]; exact ⟨o1, e1⟩
  · obtain ⟨f2, h2, h3⟩ := hc
    obtain ⟨j, hj⟩ := List.getElem?_of_mem h2
    by_cases ej : n = j
    · subst ej
      rw [List.getElem?_set_self (List.getElem?_eq_some_iff.mp hf).1] at hj
      cases hj
      rcases hs c h3 with z | z
      · exact (g.fresh c ⟨f, List.mem_of_getElem? hf, z⟩).imp id .inr
      · exact .inr (.inl z)
    · rw [List.getElem?_set_ne ej] at hj
      exact (g.fresh c ⟨f2, List.mem_of_getElem? hj, h3⟩).imp id .inr
  · have ej : n ≠ j := fun z => hn (z ▸ hj)
    rw [List.getElem?_set_ne ej]; exact g.lock j hj f2 h2
section
variable {X : Cx} {q : SX} {κ : K} {n : Nat} {lk : List Nat} {p : Pos}
theorem GoodTs.len : ∀ {ts : Ts} {es : List Expr}, GoodTs X κ ts es → ts.len = es.length
  | _, _, .nil => rfl
  | _, _, .cons _ _ g => by simp [Ts.len, g.len]
theorem PostG.sub {st' : S} {m : List Addr} {fps : List (List Addr)} {σ σ' : L2.St} {H H' : Hp} {fp fq : List Addr} {ts : List Nat} (h : PostG lk st' m fps σ H fp ts σ' H') (k : ∀ b ∈ fp, b ∈ fq) : PostG lk st' m fps σ H fq ts σ' H' := by
  obtain ⟨me, fps', R, t, l, o⟩ := h
  exact ⟨me, fps', R, t.sub k, l, o⟩
theorem sg_tp {ts : Ts} {es : List Expr} {j} (cx : Cxt X q κ n) (g : GoodTs X κ ts es) : SG X (.Tuple es j p) lk (T.tp ts).slots (oTg κ lk (.tp ts)) := by
  intro st m fps σ H x d fp hx R r
  obtain ⟨hn, hst⟩ := g.each
  have run : ∀ {ds : List D} {vs : List V} {f : List Addr} {P : TG}, PG X (.Tuple es j p) P → (∀ {Q}, WGs X es vs σ H Q → P x σ H Q) → oTg κ lk (.tp ts) d st = (if ds.length = ts.len then oTgs κ lk ts ds st else .no) → (ds.length = ts.len → RRs H m fps vs ds f) → (∀ d ∈ ds, lkO d = []) → (∀ b ∈ f, b ∈ fp) →
      WG X (.Tuple es j p) x σ H fun σ' H' => ∃ st', oTg κ lk (.tp ts) d st = .ok () st' ∧ PostG lk st' m fps σ H fp (T.tp ts).slots σ' H' := fun {ds vs f P} hp hP hm hr hl hs => by
    rw [hm] at hx ⊢
    by_cases e : ds.length = ts.len
    · rw [if_pos e] at hx ⊢
      exact wg_pg hp (hP (WGs.imp (sgs_all g lk st m fps σ H vs ds f hx R (hr e) hl) fun σ' H' ⟨st', e1, q1⟩ => ⟨st', e1, q1.sub hs⟩))
    · rw [if_neg e] at hx; exact hx.elim
  have len : ∀ {ds : List D} {vs : List V}, oTg κ lk (.tp ts) d st = (if ds.length = ts.len then oTgs κ lk ts ds st else .no) → vs.length = ds.length → vs.length = es.length := fun {ds vs} hm hv => by
    rw [hm] at hx
    by_cases e : ds.length = ts.len
    · rw [hv, e, g.len]
    · rw [if_neg e] at hx; exact hx.elim
  cases d with
  | tup ds =>
    obtain ⟨a, vs, rfl, h1, h2, rfl⟩ := r.tupv
    have hm : oTg κ lk (.tp ts) (.tup ds) st = (if ds.length = ts.len then oTgs κ lk ts ds st else .no) := by simp only [oTg]
    refine run (pg_tup (n := es.length) cx.calm pgs_wgs hn hst) (fun q => ⟨a, vs, rfl, .inl (.inl h1), len hm h2.length, q⟩) hm (fun _ => h2.toO.res (by simp)) h2.toO.noLk (by simp)
  | lst ds =>
    have r0 := r
    obtain ⟨h0, rfl⟩ := r.ofV rfl
    cases h0 with
    | @lst a o vs _ h1 h2 =>
      have hm : oTg κ lk (.tp ts) (.lst ds) st = (if ds.length = ts.len then oTgs κ lk ts ds st else .no) := by simp only [oTg]
      refine run (pg_lst (n := es.length) cx.calm pgs_wgs hn hst) (fun q => ⟨a, vs, rfl, rd_sqL (.inr ⟨_, h1⟩), len hm h2.length, q⟩) hm (fun _ => h2.toO.res (by simp)) h2.toO.noLk (by simp)
  | new ds =>
    cases r with
    | tree ho ap =>
      cases ho with
      | fro h => cases h
      | @new a vs _ h1 h2 =>
        have hm : oTg κ lk (.tp ts) (.new ds) st = (if ds.length = ts.len then oTgs κ lk ts ds st else .no) := by simp only [oTg]
        refine run (pg_lst (n := es.length) cx.calm pgs_wgs hn hst) (fun q => ⟨a, vs, rfl, rd_sqL (.inl h1), len hm h2.length, q⟩) hm (fun _ => h2.toO.res (by simp)) h2.toO.noLk (by simp)
  | oto ds =>
    cases r with
    | tree ho ap =>
      cases ho with
      | fro h => cases h
      | @oto a vs _ _ h1 h2 =>
        have hm : oTg κ lk (.tp ts) (.oto ds) st = (if ds.length = ts.len then oTgs κ lk ts ds st else .no) := by simp only [oTg]
        refine run (pg_tup (n := es.length) cx.calm pgs_wgs hn hst) (fun q => ⟨a, vs, rfl, .inl (.inl h1), len hm h2.length, q⟩) hm (fun _ => h2.res ap) h2.noLk (fun _ h => h)
  | _ => simp only [oTg] at hx; exact hx.elim
theorem itmL_lk {d e : D} (h : itmL d = some e) : lkO d = [] := by
  cases d <;> first | rfl | cases h
theorem sg_ix (cx : Cxt X q κ n) {r : Nat} {cs : Cs} {c0 : C} {o i' : Expr} (g : GoodP X κ q r cs o) (ge : GoodE X κ c0 i') : SG X (.Subscript o i' p) lk (T.ix r cs c0).slots (oTg κ lk (.ix r cs c0)) := by
  intro st m fps σ H v d fp hx R rr
  rw [oTg] at hx ⊢
  cases hr : root lk st r with
  | none => simp only [hr] at hx; exact hx.elim
  | some k =>
    simp only [hr] at hx ⊢
    obtain ⟨hs, hk⟩ := root_inv hr
    have ha : ∀ v, assign (.Subscript o i' p) X.env v = (do
        let ov ← holding [v] (eval o X.env)
        let iv ← holding [v, ov] (eval i' X.env)
        standAt p
        holding [v, ov, iv] (setItem ov iv v)
        release [v, ov, iv] []) := fun v => by
      have := ge.ok
      cases i' <;> first | rfl | cases this
    refine wg_pg (pg_sub pe_we pe_we set_list ha) ?_
    refine WE.imp (path_ok cx g (lk := k :: lk) hs List.mem_cons_self hx.fst R) fun w H1 ⟨is, st1, fps1, a, b, h1, R1, g1, hm, ev, hp, _⟩ => ?_
    subst ev
    have hx1 := hx.snd h1
    cases e0 : atL st1.ce k is with
    | none => simp only [e0] at hx1; exact hx1.elim
    | some ds0 =>
      simp only [e0] at hx1
      obtain ⟨a1, b1, vs1, g3, f1, t1, t2, t3, t4, t5, t6, t7⟩ := atL_path R1 e0
      rw [hm] at t1; cases t1
      rw [hp] at t3; cases t3
      refine WE.imp (ge.se (k :: lk) st1 m fps1 σ H1 hx1.fst R1) fun y H2 ⟨dy, st2, h2, fps2, f2, R2, r2, g2, n2⟩ => ?_
      have hx2 := hx1.snd h2
      cases dy with
      | int i =>
        obtain ⟨rfl, _⟩ := r2.int
        cases e5 : itmL d with
        | none => simp only [e5] at hx2; exact hx2.elim
        | some e =>
          cases e1 : atL st2.ce k is with
          | none => simp only [e5, e1] at hx2; exact hx2.elim
          | some ds =>
            simp only [e5, e1] at hx2
            cases e3 : modC st2.ce k is (putI i e) with
            | none => simp only [e3] at hx2; exact hx2.elim
            | some ce =>
              obtain ⟨a', b', vs, gg, f, es, q1, q2, q3, q4, q5, q6, q7, q8, q9⟩ := modc_ok R2 e1 e3
              rw [hm] at q1; cases q1
              have bb : b' = b := by
                have := t7 H2 (g2.cell R1 List.mem_cons_self t2)
                rw [q2] at this; cases this; rfl
              subst bb
              cases e4 : L2.ixN ds.length i with
              | none => simp only [putI, e4] at q8; cases q8
              | some j =>
                simp only [putI, e4] at q8
                cases q8
                have gg2 : Grd (k :: lk) fps fps2 H H2 := g1.trans g2 R1 (fun _ h => h) (R.len_le R1)
                have rv := (rr.keep R gg2 (by rw [itmL_lk e5]; simp)).toL e5
                have rvm := rr.keep R gg2 (by rw [itmL_lk e5]; simp)
                have bf : b' ∈ f := q7 b' List.mem_cons_self
                have fm := List.mem_of_getElem? q6
                have bnv : b' ∉ fp := fun z => (rvm.mem b' z).2 f fm bf
                have nset : ∀ c o, H2 c = some o → OV.imm o = true ∨ c ≠ b' → upd H2 b' (.lst (vs.set j v)) c = some o := fun c o ec i => by
                  rw [upd_ne]
                  · exact ec
                  · rintro rfl
                    rcases i with i | i
                    · rw [q3] at ec; cases ec; cases i
                    · exact i rfl
                have jl : j < ds.length := (ixN_seq e4).2.1
                obtain ⟨g', w1, w2⟩ := ROs.put (rv.mono (H' := upd H2 b' (.lst (vs.set j v))) fun c o ec i => nset c o ec (i.imp id fun z y => bnv (y ▸ z))) (q4.mono (H' := upd H2 b' (.lst (vs.set j v))) fun c o ec i => nset c o ec (i.imp id fun z y => q5 (y ▸ z))) jl (fun c hc z => (rvm.mem c hc).2 f fm (q7 c (List.mem_cons_of_mem _ z)))
                obtain ⟨f', R3, hf'⟩ := q9 (vs.set j v) g' w1 (fun z => (w2 b' z).elim q5 bnv) (fun c hc => (w2 c hc).imp id fun z => (rvm.mem c z).2)
                refine ⟨b', vs, i, j, rfl, rfl, q3, by rw [q4.length]; exact e4, ⟨st2.sl, ce⟩, by rw [h1, Res.bind_ok]; simp only [e0, h2, Res.bind_ok, e5, e1, e3], [], fps2.set k f', by rw [List.append_nil]; exact R3, ?_, rfl, fun _ _ => rfl⟩
                refine GT.mod (gg2.less fun _ h => List.mem_cons_of_mem _ h) R2 hk q6 bf fun c hc => ?_
                rcases hf' c hc with z | z
                · exact .inl z.1
                · exact (w2 c z).imp (fun y => q7 c (List.mem_cons_of_mem _ y)) id
      | _ => exact hx2.elim
end
end OV
/-! text OVT -/
namespace OV
open PySem PySem.Spec PyProof.Rows L2
variable [Tabled] [Kn]
/-! A comprehension's block, any number of clauses. -/
section
variable {elt t i t1 i1 : Expr} {ifs ifs1 : List Expr} {gens : List Comprehension} {scope : Scope} {pos : Pos} {it acc : Value} {env : Env} {k : Nat}
theorem compTurn_mid (hk : gens[k]? = some ⟨t, i, ifs, 0⟩) (hk1 : gens[k + 1]? = some ⟨t1, i1, ifs1, 0⟩) :
    compTurn (.ListComp elt gens scope pos) k it acc env = (do
      standAt i.pos
      match ← pyNext it with
      | none => pure (.done .next)
      | some v =>
        letOwnedTupleGo t it v
        assign t env v
        let mut ok := true
        for c in ifs do
          if ok then ok ← isTrue c env (eval c env)
        if ok then
          let x ← eval i1 env
          standAt i1.pos
          let x ← foldedSetIterable i1 env x
          let _ ← runOwn (.compStart (.ListComp elt gens scope pos) (k + 1) (← holding [x] (pyIter x)) acc env) env
        again (.compLoop (.ListComp elt gens scope pos) k it acc env)) := by
  unfold compTurn
  simp only [hk, hk1]
  rfl
theorem compTurn_end (hk : gens[k]? = some ⟨t, i, ifs, 0⟩) (hk1 : gens[k + 1]? = none) :
    compTurn (.ListComp elt gens scope pos) k it acc env = (do
      standAt i.pos
      match ← pyNext it with
      | none => pure (.done .next)
      | some v =>
        letOwnedTupleGo t it v
        assign t env v
        let mut ok := true
        for c in ifs do
          if ok then ok ← isTrue c env (eval c env)
        if ok then
          (do let _ ← call (.builtin "list.append") [acc, ← eval elt env])
        again (.compLoop (.ListComp elt gens scope pos) k it acc env)) := by
  unfold compTurn
  simp only [hk, hk1]
  rfl
end
/-- a clause's tests, as they are run -/
def testsT (ifs : List Expr) (env : Env) : Sem Bool := forIn ifs true fun c r => if r = true then do let ok ← isTrue c env (eval c env); pure (ForInStep.yield ok) else pure (ForInStep.yield r)
section
variable {prog : Program} {w : World} {A : Around} {R : Result → Shared → Prop} {s : Shared} {elt t i : Expr} {ifs : List Expr} {gens : List Comprehension} {scope : Scope} {pos : Pos} {it acc : Value} {env : Env} {k : Nat}
/-- what is behind a clause's tests: the next clause's loop, or the item -/
def restW (prog : Program) (w : World) (A : Around) (elt : Expr) (gens : List Comprehension) (scope : Scope) (pos : Pos) (acc : Value) (env : Env) (k : Nat) (N : Value → Shared → Prop) (Q : Shared → Prop) (s : Shared) : Prop := match gens[k + 1]? with
  | none => wpAny (model prog w) A (eval elt env) (fun x s4 => wpAny (model prog w) A (call (.builtin "list.append") [acc, x]) (fun _ s5 => Q s5) N s4) N s
  | some g => wpAny (model prog w) A (eval g.iter env) (fun x s4 => wpAny (model prog w) A (pyIter x) (fun it1 s5 => codeAny (model prog w) A (.compStart (.ListComp elt gens scope pos) (k + 1) it1 acc env) (fun r s' => match r with
      | .ok _ => Q s'
      | .error _ => False) s5) N s4) N s
theorem loop_at (hk : gens[k]? = some ⟨t, i, ifs, 0⟩) (hs : ∀ g, gens[k + 1]? = some g → g.is_async = 0 ∧ ∀ x, foldedSetIterable g.iter env x = pure x) (I : Nat → Shared → Prop)
    (turn : ∀ n s, I n s → wpAny (model prog w) A (pyNext it) (fun r s₁ => match r with
      | none => R (.ok .next) s₁
      | some v => wpAny (model prog w) A (letOwnedTupleGo t it v) (fun _ s₁' => wpAny (model prog w) A (assign t env v) (fun _ s₂ =>
          wpAny (model prog w) A (testsT ifs env) (fun ok s₃ =>
            if ok = true then restW prog w A elt gens scope pos acc env k (notedBy (model prog w) A env fun e s' => R (.error e) s') (fun s4 => ∃ m, m < n ∧ I m s4) s₃
            else ∃ m, m < n ∧ I m s₃) (notedBy (model prog w) A env fun e s' => R (.error e) s') s₂) (notedBy (model prog w) A env fun e s' => R (.error e) s') s₁') (notedBy (model prog w) A env fun e s' => R (.error e) s') s₁) (notedBy (model prog w) A env fun e s' => R (.error e) s') s)
    (n : Nat) (h : I n s) :
    codeAny (model prog w) A (.compLoop (.ListComp elt gens scope pos) k it acc env) R s := by
  have hf : (Code.compLoop (.ListComp elt gens scope pos) k it acc env).isFrame = false := rfl
  refine codeAny_loop rfl I (fun n s hI => ?_) n h
  show wpAny _ A ((compTurn (.ListComp elt gens scope pos) k it acc env).onRaise (fun x => do noteFrame x env; theTreesLotGoes x)) _ _ s
  refine wpAny_noted ?_
  have T := turn n s hI
  cases hk1 : gens[k + 1]? with
  | none =>
    rw [compTurn_end hk hk1]
    refine wpAny_bind (wpAny_standAt (wpAny_bind (wpAny_mono T (fun r s₁ h₁ => ?_) fun _ _ h' => h')))
    cases r with
    | none => exact wpAny_pure h₁
    | some v =>
      refine wpAny_bind (wpAny_mono h₁ (fun _ s₁' h₁' => ?_) fun _ _ h' => h')
      refine wpAny_bind (wpAny_mono h₁' (fun _ s₂ h₂ => wpAny_bind (wpAny_mono h₂ (fun ok s₃ h₃ => ?_) fun _ _ h' => h')) fun _ _ h' => h')
      cases ok with
      | false => exact wpAny_pure ⟨rfl, h₃⟩
      | true =>
        rw [if_pos rfl] at h₃
        simp only [restW, hk1] at h₃
        exact wpAny_bind (wpAny_bind (wpAny_mono h₃ (fun x s₄ h₄ => wpAny_bind (wpAny_mono h₄ (fun _ s₅ h₅ => wpAny_pure (wpAny_pure ⟨rfl, h₅⟩)) fun _ _ h' => h')) fun _ _ h' => h'))
  | some g =>
    obtain ⟨t1, i1, ifs1, a1⟩ := g
    obtain ⟨ha, hs⟩ := hs _ hk1
    cases ha
    rw [compTurn_mid hk hk1]
    refine wpAny_bind (wpAny_standAt (wpAny_bind (wpAny_mono T (fun r s₁ h₁ => ?_) fun _ _ h' => h')))
    cases r with
    | none => exact wpAny_pure h₁
    | some v =>
      refine wpAny_bind (wpAny_mono h₁ (fun _ s₁' h₁' => ?_) fun _ _ h' => h')
      refine wpAny_bind (wpAny_mono h₁' (fun _ s₂ h₂ => wpAny_bind (wpAny_mono h₂ (fun ok s₃ h₃ => ?_) fun _ _ h' => h')) fun _ _ h' => h')
      cases ok with
      | false => exact wpAny_pure ⟨rfl, h₃⟩
      | true =>
        rw [if_pos rfl] at h₃
        simp only [restW, hk1] at h₃
        refine wpAny_bind (wpAny_mono h₃ (fun x s₄ h₄ => ?_) fun _ _ h' => h')
        refine wpAny_bind (wpAny_standAt (wpAny_bind (wpAny_of_eq (hs x) (wpAny_bind (wpAny_holding (wpAny_mono h₄ (fun it1 s₅ h₅ => ?_) fun _ _ h' => h'))))))
        refine wpAny_bind (wpAny_runOwn ?_)
        rw [Around.mark_none]
        refine codeAny_mono h₅ fun r s' hr => ?_
        cases r with
        | ok f =>
          first
            | exact wpAny_pure ⟨rfl, hr⟩
            | exact wpAny_bind (wpAny_pure (wpAny_pure ⟨rfl, hr⟩))
        | error e => exact hr.elim
/-- a clause's start -/
theorem start_at (hk : gens[k]? = some ⟨t, i, ifs, 0⟩) (h0 : codeAny (model prog w) A (.compLoop (.ListComp elt gens scope pos) k it acc env) R s)
    (h : wpAny (model prog w) A (pyIter it) (fun it' s' => codeAny (model prog w) A (.compLoop (.ListComp elt gens scope pos) k it' acc env) R s')
      (notedBy (model prog w) A env fun x s' => R (.error x) s') s) :
    codeAny (model prog w) A (.compStart (.ListComp elt gens scope pos) k it acc env) R s := by
  refine codeAny_of_tree ?_
  show wpAny _ _ ((compStart (.ListComp elt gens scope pos) k it acc env).onRaise (fun x => do noteFrame x env; standAt theWindowsPlace)) _ _ s
  refine wpAny_notedAt ?_
  unfold compStart
  have hc : (clausesOf (.ListComp elt gens scope pos))[k]? = some ⟨t, i, ifs, 0⟩ := hk
  rw [hc]
  show wpAny _ _ (ask >>= _) _ _ s
  refine wpAny_bind (wpAny_askSetting (wpAny_ite ?_))
  split
  · first
      | exact wpAny_bind (wpAny_pure (wpAny_pure (And.intro rfl h0)))
      | exact wpAny_pure (And.intro rfl h0)
  · first
      | exact wpAny_bind (wpAny_rule (wpAny_bind (wpAny_standAt (wpAny_bind (wpAny_mono h (fun it' s' h' => wpAny_pure (And.intro rfl h')) fun _ _ x => x)))))
      | (refine wpAny_bind (wpAny_rule ?_); show wpAny _ _ (standAt i.pos >>= _) _ _ s; exact wpAny_bind (wpAny_standAt (wpAny_bind (wpAny_mono h (fun it' s' h' => wpAny_pure (And.intro rfl h')) fun _ _ x => x))))
end
end OV
/-! text OVU -/
namespace OV
open PySem PySem.Spec PyProof.Rows L2
variable [Tabled] [Kn]
mutual
theorem dead_ce {κ : K} {lk : List Nat} : ∀ {t : T} {d : D} {st st' : S}, t.dead = true → oTg κ lk t d st = .ok () st' → st'.ce = st.ce
  | .nm live i, d, st, st', h, e => by
    simp only [T.dead, Bool.not_eq_true'] at h
    subst h
    simp only [oTg, setN] at e
    split at e
    · cases e; rfl
    · cases e
  | .tp ts, d, st, st', h, e => by
    simp only [T.dead] at h
    simp only [oTg] at e
    split at e
    all_goals first
      | (split at e
         · exact dead_ces h e
         · cases e)
      | cases e
  | .ix _ _ _, _, _, _, h, _ => by simp [T.dead] at h
theorem dead_ces {κ : K} {lk : List Nat} : ∀ {t : Ts} {d : List D} {st st' : S}, t.dead = true → oTgs κ lk t d st = .ok () st' → st'.ce = st.ce
  | .nil, [], st, st', h, e => by simp only [oTgs] at e; cases e; rfl
  | .nil, _ :: _, st, st', h, e => by simp only [oTgs] at e; cases e
  | .cons _ _, [], st, st', h, e => by simp only [oTgs] at e; cases e
  | .cons t ts, d :: ds, st, st', h, e => by
    simp only [Ts.dead, Bool.and_eq_true] at h
    simp only [oTgs] at e
    obtain ⟨_, s1, h1, h2⟩ := bind_ok e
    rw [dead_ces h.2 h2, dead_ce h.1 h1]
end
theorem GT.grd {lk : List Nat} {fps fps' : List (List Addr)} {H H' : Hp} (t : GT [] lk fps fps' H H') : Grd lk fps fps' H H' :=
  ⟨fun b o e k z => t.keep b o (by simp) e k z, t.there, fun b hb => (t.fresh b hb).imp id fun z => z.elim (fun y => by cases y) id, t.lock⟩
theorem wipe_none {α : Type} : ∀ {vs : List Nat} {sl : List (Option D)} {i : Nat} {d : D}, (OV.wipe sl vs)[i]? = some (some d) → sl[i]? = some (some d) ∧ i ∉ vs
  | [], sl, i, d, h => ⟨h, by simp⟩
  | v :: vs, sl, i, d, h => by
    unfold OV.wipe at h
    by_cases hi : v = i
    · subst hi
      by_cases hv : v < (OV.wipe sl vs).length
      · rw [List.getElem?_set_self hv] at h; cases h
      · rw [List.getElem?_eq_none (by simpa using hv)] at h; cases h
    · rw [List.getElem?_set_ne hi] at h
      obtain ⟨h1, h2⟩ := wipe_none (α := Nat) h
      exact ⟨h1, by simp only [List.mem_cons, not_or]; exact ⟨fun e => hi e.symm, h2⟩⟩
theorem wipe_len : ∀ (vs : List Nat) (sl : List (Option D)), (OV.wipe sl vs).length = sl.length
  | [], _ => rfl
  | v :: vs, sl => by unfold OV.wipe; rw [List.length_set, wipe_len vs sl]
theorem Rel.wipe {st : S} {m : List Addr} {fps : List (List Addr)} {σ : L2.St} {H : Hp} (R : Rel st m fps σ H) (vs : List Nat) : Rel ⟨OV.wipe st.sl vs, st.ce⟩ m fps (L2.wipe σ vs) H := by
  refine ⟨by rw [wipe_len, L2.wipe_length]; exact R.slen, fun i d e => ?_, R.mlen, R.flen, R.ce, R.dead, R.dis, R.tab⟩
  obtain ⟨e1, e2⟩ := wipe_none (α := Nat) e
  obtain ⟨v, h1, h2⟩ := R.sl i d e1
  exact ⟨v, by rw [L2.wipe_out e2]; exact h1, h2⟩
/-- the list that grows, with what lies in it; all of it is new since B -/
structure AccG (live : Bool) (L : Addr) (acc : List D) (vs : List V) (g : List Addr) (fps : List (List Addr)) (H : Hp) (fpsB : List (List Addr)) (HB : Hp) : Prop where
  at' : H L = some (.lst vs)
  ro : ROs H vs acc g
  nin : L ∉ g
  ap : ∀ b ∈ L :: g, ∀ f ∈ fps, b ∉ f
  nf : NF (L :: g) fpsB HB
  fz : live = false → acc.all OV.isV = true
  fr : ∀ b, (∃ f ∈ fps, b ∈ f) → (∃ f ∈ fpsB, b ∈ f) ∨ HB b = none
  th : ∀ b o, HB b = some o → ∃ o', H b = some o'
def Acc (live : Bool) (L : Addr) (acc : List D) (fps : List (List Addr)) (H : Hp) (fpsB : List (List Addr)) (HB : Hp) : Prop := ∃ vs g, AccG live L acc vs g fps H fpsB HB
theorem Acc.out {live : Bool} {L : Addr} {acc : List D} {fps fpsB : List (List Addr)} {H HB : Hp} (a : Acc live L acc fps H fpsB HB) : Out [L] fps H := fun b hb => by
  obtain ⟨vs, g, a⟩ := a
  rw [List.mem_singleton.mp hb]
  exact ⟨⟨vs, a.at'⟩, a.ap L List.mem_cons_self⟩
theorem AccG.keep {live : Bool} {L : Addr} {acc : List D} {vs : List V} {gg : List Addr} {lk : List Nat} {st : S} {m : List Addr} {σ : L2.St} {fps fps' fpsB : List (List Addr)} {H H' HB : Hp} (a : AccG live L acc vs gg fps H fpsB HB) (R : Rel st m fps σ H) (g : Grd lk fps fps' H H') : AccG live L acc vs gg fps' H' fpsB HB := by
  obtain ⟨h1, h2, h3, h4, h5, fz, fr, th⟩ := a
  have lm : ∀ b ∈ L :: gg, ∃ ws, H b = some (.lst ws) := fun b hb => (List.mem_cons.mp hb).elim (fun e => by rw [e]; exact ⟨_, h1⟩) fun hb => h2.mut b hb
  have kp : ∀ b ∈ L :: gg, ∀ o, H b = some o → H' b = some o := fun b hb o e => by
    obtain ⟨ws, e'⟩ := lm b hb
    rw [e] at e'; cases e'
    exact g.keep b _ e (fun n f hf hb' => absurd hb' (h4 b hb f (List.mem_of_getElem? hf))) rfl
  refine ⟨kp L List.mem_cons_self _ h1, h2.mono fun b o e i => i.elim (g.imm R b o e) fun z => kp b (List.mem_cons_of_mem _ z) o e, h3, fun b hb f hf hm => ?_, h5, fz, fun b hb => ?_, fun b o e => ?_⟩
  · obtain ⟨ws, e'⟩ := lm b hb
    rcases g.fresh b ⟨f, hf, hm⟩ with ⟨f0, h0, h1⟩ | h0
    · exact h4 b hb f0 h0 h1
    · rw [e'] at h0; cases h0
  · rcases g.fresh b hb with h | h
    · exact fr b h
    · right
      cases q : HB b with
      | none => rfl
      | some o => obtain ⟨o1, e1⟩ := th b o q; rw [h] at e1; cases e1
  · obtain ⟨o1, e1⟩ := th b o e
    exact g.there b o1 e1
theorem Acc.keep {live : Bool} {L : Addr} {acc : List D} {lk : List Nat} {st : S} {m : List Addr} {σ : L2.St} {fps fps' fpsB : List (List Addr)} {H H' HB : Hp} (a : Acc live L acc fps H fpsB HB) (R : Rel st m fps σ H) (g : Grd lk fps fps' H H') : Acc live L acc fps' H' fpsB HB :=
  let ⟨vs, gg, a⟩ := a; ⟨vs, gg, a.keep R g⟩
theorem GX.push {L : Addr} {lk : List Nat} {fps fps' : List (List Addr)} {H H' : Hp} {u : HO} (g : GX [L] lk fps fps' H H') : GX [L] lk fps fps' H (upd H' L u) :=
  ⟨fun b o hb e k t => by rw [upd_ne (by simpa using hb)]; exact g.keep b o hb e k t, fun b o e => by
    obtain ⟨o1, e1⟩ := g.there b o e
    by_cases h : b = L
    · rw [h]; exact ⟨_, upd_same⟩
    · rw [upd_ne h]; exact ⟨o1, e1⟩, g.fresh, g.lock⟩
theorem RelC.push {ce : Ce} {m : List Addr} {fps : List (List Addr)} {H : Hp} {L : Addr} {vs : List V} {u : HO} (R : RelC ce m fps H) (h : H L = some (.lst vs)) (ap : ∀ f ∈ fps, L ∉ f) : RelC ce m fps (upd H L u) := by
  have k : ∀ b o, H b = some o → b ≠ L → upd H L u b = some o := fun b o e h => by rw [upd_ne h]; exact e
  have ki : ∀ b o, H b = some o → OV.imm o = true → upd H L u b = some o := fun b o e i => k b o e fun z => by subst z; rw [h] at e; cases e; cases i
  refine ⟨R.slen, fun i d e => by simp at e, R.mlen, R.flen, fun n d e => ?_, R.dead, R.dis, tabs_upd h R.tab⟩
  obtain ⟨a, f, h1, h2, h3, h4⟩ := R.ce n d e
  exact ⟨a, f, h1, h2, h3.mono fun b o eb i => i.elim (ki b o eb) fun z => k b o eb fun y => ap f (List.mem_of_getElem? h2) (y ▸ z), h4⟩
theorem RelC.toRel {sl : List (Option D)} {ce ce' : Ce} {m : List Addr} {fps fps' : List (List Addr)} {σ : L2.St} {H H' : Hp} (R : Rel ⟨sl, ce⟩ m fps σ H) (k : ∀ b o, H b = some o → OV.imm o = true → H' b = some o) (R' : RelC ce' m fps' H') : Rel ⟨sl, ce'⟩ m fps' σ H' := by
  refine ⟨R.slen, fun i d e => ?_, R'.mlen, R'.flen, R'.ce, R'.dead, R'.dis, R'.tab⟩
  obtain ⟨v, h1, h2⟩ := R.sl i d e
  exact ⟨v, h1, h2.mono k⟩
section
variable {Y : Cx} {q : SX} {κ : K} {n : Nat} {pos : Pos} {elt : Expr} {gens : List Comprehension} {scope : Scope} {L : Addr} {live : Bool}
theorem thnY {α : Type} {M : Model} {A : Around} {t : Sem α} {E N : Value → Shared → Prop} {Q Q' : α → Shared → Prop} {s : Shared} (hE : ∀ u s, E u s → False) (h : wpAny M A t Q E s) (k : ∀ a s, Q a s → Q' a s) : wpAny M A t Q' N s := wpAny_mono h k fun u s z => (hE u s z).elim
theorem tests_ok {cs : Cs} {es : List Expr} {lk : List Nat} {st : S} {m : List Addr} {fps : List (List Addr)} {σ : L2.St} {H : Hp} {pins : List (Addr × Obj)} {s : Shared} (g : Good Y κ cs es) (hl : cs.len ≤ 1) (hx : XO Y (oAnd κ lk cs st)) (R : Rel st m fps σ H) (I : Inv Y pins σ H s) :
    wpAny (model Y.prog Y.w) Y.A (testsT es Y.env) (TP Y pins σ (WiT lk (oAnd κ lk cs st) m fps σ H)) Y.xe s := by
  cases g with
  | nil => exact wpAny_tests_nil ⟨H, I, st, fps, by simp only [oAnd], R, Grd.refl⟩
  | cons g gr =>
    cases gr with
    | nil => exact wpAny_tests_one (and_t (.cons g .nil) st m fps σ H hx R (by simp) pins s I)
    | cons _ _ => simp [Cs.len] at hl
/-- what is behind a clause's tests does what the machine does -/
def RestOK (Y : Cx) (κ : K) (elt : Expr) (gens : List Comprehension) (scope : Scope) (pos : Pos) (L : Addr) (live : Bool) (gs : Gs) (k : Nat) : Prop :=
  ∀ (lk : List Nat) (pins : List (Addr × Obj)) (s : Shared) (st : S) (m : List Addr) (fps : List (List Addr)) (σ : L2.St) (H : Hp) (acc : List D) (fpsB : List (List Addr)) (HB : Hp) (N : Value → Shared → Prop) (Q : Shared → Prop), Inv Y pins σ H s → Rel st m fps σ H → Acc live L acc fps H fpsB HB → XO Y (oG κ lk gs acc st) →
    (∀ s' acc' st' σ' H' fps', oG κ lk gs acc st = .ok acc' st' → Inv Y pins σ' H' s' → RelC st'.ce m fps' H' → GX [L] lk fps fps' H H' → Acc live L acc' fps' H' fpsB HB → σ'.length = σ.length → (∀ (j : Nat) v, j ∉ gs.slots → (σ : List (Option V))[j]? = some (some v) → (σ' : List (Option V))[j]? = some (some v)) → Q s') →
    restW Y.prog Y.w Y.A elt gens scope pos (.ref L) Y.env k N Q s
theorem rest_el {e : C} {k : Nat} (hE : ∀ u s, Y.xe u s → False) (hk : gens[k + 1]? = none) (g : GoodE Y κ e elt) : RestOK Y κ elt gens scope pos L live (.el live e) k := by
  intro lk pins s st m fps σ H acc fpsB HB N Q I R a hx fin
  unfold restW
  rw [hk]
  rw [oG] at hx fin
  refine thnY hE (g.se lk st m fps σ H hx.fst R pins s I) fun u s4 ⟨v, H1, I1, rv, d, st1, h1, fps1, f1, R1, r1, g1, n1⟩ => ?_
  have hx1 := hx.snd h1
  obtain ⟨vs, gg, a⟩ := a
  have a1 := a.keep R g1
  have lm : ∀ b ∈ L :: gg, ∃ ws, H b = some (.lst ws) := fun b hb => (List.mem_cons.mp hb).elim (fun e => by rw [e]; exact ⟨_, a.at'⟩) fun hb => a.ro.mut b hb
  have goN : ∀ b ∈ f1, b ∉ L :: gg := fun b hb hm => by
    obtain ⟨ws, e⟩ := lm b hm
    rcases n1 b hb with ⟨f, hf, h⟩ | h
    · exact a.ap b hm f hf h
    · rw [e] at h; cases h
  have mm := r1.mem
  -- the item laid
  have lay : ∀ {H2 : Hp} {x : D} {f2 : List Addr}, Inv Y pins σ H2 s4 → Rel st1 m fps1 σ H2 → Grd lk fps fps1 H H2 → H2 L = some (.lst vs) → ROs H2 vs acc gg → RO H2 v x f2 → (∀ b ∈ f2, b ∈ f1) → (live = false → OV.isV x = true) → acc.length < line →
      oG κ lk (.el live e) acc st = .ok (acc ++ [x]) st1 → wpAny (model Y.prog Y.w) Y.A (PySem.call (.builtin "list.append") [.ref L, u]) (fun _ s5 => Q s5) N s4 := fun {H2 x f2} I2 R2 g2 hL ro rx sub hv hlen he => by
    refine app_ok I2 hL (by rw [ro.length]; exact hlen) rv fun s5 I5 => ?_
    refine fin s5 (acc ++ [x]) st1 σ (upd H2 L (.lst (vs ++ [v]))) fps1 (by rw [← he, oG]) I5 ((RelC.of R2).push hL (a1.ap L List.mem_cons_self)) g2.gx.push ?_ rfl fun _ _ _ h => h
    have k : ∀ b o, H2 b = some o → OV.imm o = true ∨ b ≠ L → upd H2 L (.lst (vs ++ [v])) b = some o := fun b o e i => by
      rw [upd_ne]
      · exact e
      · rintro rfl
        rcases i with i | i
        · rw [hL] at e; cases e; cases i
        · exact i rfl
    have nL : L ∉ f2 := fun z => goN L (sub L z) List.mem_cons_self
    refine ⟨vs ++ [v], gg ++ f2, upd_same, ?_, fun z => (List.mem_append.mp z).elim a.nin nL, fun b hb f hf => ?_, fun b hb => ?_, fun hl => ?_, fun b hb => ?_, fun b o e => ?_⟩
    · have r3 : ROs (upd H2 L (.lst (vs ++ [v]))) [v] [x] f2 := by
        have := ROs.cons (rx.mono (H' := upd H2 L (.lst (vs ++ [v]))) fun b o e i => k b o e (i.imp id fun z y => nL (y ▸ z))) .nil (by simp : ∀ b ∈ f2, b ∉ ([] : List Addr))
        rw [List.append_nil] at this
        exact this
      exact (ro.mono fun b o e i => k b o e (i.imp id fun z y => a.nin (y ▸ z))).append r3 fun b hb hm => goN b (sub b hm) (List.mem_cons_of_mem _ hb)
    · rcases List.mem_cons.mp hb with z | z
      · rw [z]; exact a1.ap L List.mem_cons_self f hf
      · rcases List.mem_append.mp z with z | z
        · exact a1.ap b (List.mem_cons_of_mem _ z) f hf
        · exact (mm b (sub b z)).2 f hf
    · rcases List.mem_cons.mp hb with z | z
      · rw [z]; exact a.nf L List.mem_cons_self
      · rcases List.mem_append.mp z with z | z
        · exact a.nf b (List.mem_cons_of_mem _ z)
        · rcases n1 b (sub b z) with h | h
          · exact a.fr b h
          · right
            cases q : HB b with
            | none => rfl
            | some o => obtain ⟨o1, e1⟩ := a.th b o q; rw [h] at e1; cases e1
    · rw [List.all_append, a.fz hl]; simp [hv hl]
    · exact a1.fr b hb
    · obtain ⟨o1, e1⟩ := a.th b o e
      obtain ⟨o2, e2⟩ := g2.there b o1 e1
      by_cases z : b = L
      · rw [z]; exact ⟨_, upd_same⟩
      · rw [upd_ne z]; exact ⟨o2, e2⟩
  cases live with
  | true =>
    simp only [if_true] at hx1
    cases hi : itmL d with
    | none => simp only [hi] at hx1; exact hx1.elim
    | some x =>
      simp only [hi] at hx1
      by_cases hl : acc.length < line
      · exact lay I1 R1 g1 a1.at' a1.ro (r1.toL hi) (fun _ h => h) (fun h => by cases h) hl (by rw [oG, h1, Res.bind_ok]; simp only [if_true, hi]; rw [if_pos hl])
      · rw [if_neg hl] at hx1; exact hx1.elim
  | false =>
    simp only [Bool.false_eq_true, if_false] at hx1
    cases hi : itm d with
    | none => simp only [hi] at hx1; exact hx1.elim
    | some x =>
      simp only [hi] at hx1
      by_cases hl : acc.length < line
      · obtain ⟨H2, I2, r2, z⟩ := freezeR (fps := fps1) I1 (RRs.cons r1 .nil (by simp)) (es := [x]) (by simp only [items, hi])
        rw [List.append_nil] at z
        have rx : RF H2 v x := by cases r2 with | cons h _ => exact h
        have im := z.imm fun b hb => (mm b hb).1
        refine lay I2 (R1.fz z mm) (g1.fz z n1 fun b hb => (mm b hb).2) ?_ ?_ (.fro rx) (by simp) (fun _ => rx.isV) hl (by rw [oG, h1, Res.bind_ok]; simp only [Bool.false_eq_true, if_false, hi]; rw [if_pos hl])
        · rw [z.out L fun h => goN L h List.mem_cons_self]; exact a1.at'
        · exact a1.ro.mono fun b o e i => i.elim (im b o e) fun h => by rw [z.out b fun y => goN b y (List.mem_cons_of_mem _ h)]; exact e
      · rw [if_neg hl] at hx1; exact hx1.elim
end
end OV
/-! text OVW -/
namespace OV
open PySem PySem.Spec PyProof.Rows L2
variable [Tabled] [Kn]
section
variable {Y : Cx} {q : SX} {κ : K} {n : Nat} {pos : Pos} {elt : Expr} {gens : List Comprehension} {scope : Scope} {L : Addr} {live : Bool}
/-- a clause's target and tests -/
structure ClOK (Y : Cx) (κ : K) (t : T) (t' : Expr) (ifs : Cs) (ifs' : List Expr) : Prop where
  sg : ∀ lk, SG Y t' lk t.slots (oTg κ lk t)
  dead : t.dead = true
  gi : Good Y κ ifs ifs'
  hl : ifs.len ≤ 1
/-- a turn of the machine's walk -/
noncomputable def turnF (κ : K) (lk : List Nat) (t : T) (ifs : Cs) (gs : Gs) (slW : List (Option D)) : D → List D → S → Res (List D) := fun d acc s => (oTg κ lk t d ⟨slW, s.ce⟩).bind fun _ s1 => (oAnd κ lk ifs s1).bind fun b s2 => match b with
  | true => oG κ lk gs acc s2
  | false => .ok acc s2
theorem me_nil {st st' : S} {m me : List Addr} {fps fps' : List (List Addr)} {σ σ' : L2.St} {H H' : Hp} (R : Rel st m fps σ H) (R' : Rel st' (m ++ me) fps' σ' H') (e : st'.ce.length = st.ce.length) : me = [] := by
  have h1 := R.mlen
  have h2 := R'.mlen
  rw [List.length_append] at h2
  exact List.eq_nil_of_length_eq_zero (by omega)
theorem loop_ok (hE : ∀ u s, Y.xe u s → False) (hc : Y.calm = true) {k : Nat} {t' it' : Expr} {ifs' : List Expr} {t : T} {ifs : Cs} {gs : Gs} (hk : gens[k]? = some ⟨t', it', ifs', 0⟩) (hs : ∀ g, gens[k + 1]? = some g → g.is_async = 0 ∧ ∀ x, foldedSetIterable g.iter Y.env x = pure x)
    (cl : ClOK Y κ t t' ifs ifs') (rest : RestOK Y κ elt gens scope pos L live gs k)
    {J : It} {fp : List Addr} {it : Addr} {tn : Nat → Heap → Prop} (T : Turn Y.prog Y.w Y.K t' J fp it tn) {ds : List D} {l lk : List Nat} {fpsS fpsB : List (List Addr)} {HS HB : Hp} (src : Src J l ds [L] fpsS HS) {m : List Addr} {slW : List (Option D)} {σW : L2.St}
    (hW : ∀ (j : Nat) v, (σW : List (Option V))[j]? = some (some v) → j ∉ t.slots ++ gs.slots) {pins : List (Addr × Obj)} {s : Shared} {acc0 : List D} {s0 : S} {stS : S} {σS : L2.St} (RS : Rel stS m fpsS σS HS) (oS' : Out [L] fpsS HS)
    (I0 : Inv Y pins σW HS s) (R0 : Rel ⟨slW, s0.ce⟩ m fpsS σW HS) (A0 : Acc live L acc0 fpsS HS fpsB HB) (t0 : tn 0 s.heap) (f0 : ∀ b ∈ fp, FpOk Y pins HS b) (hx0 : XO Y (fol (turnF κ (l ++ lk) t ifs gs slW) ds acc0 s0)) {R : Result → Shared → Prop}
    (fin : ∀ s' acc' sF H' fps', fol (turnF κ (l ++ lk) t ifs gs slW) ds acc0 s0 = .ok acc' sF → Inv Y pins σW H' s' → RelC sF.ce m fps' H' → GX [L] (l ++ lk) fpsS fps' HS H' → Acc live L acc' fps' H' fpsB HB → R (.ok .next) s') :
    codeAny (model Y.prog Y.w) Y.A (.compLoop (.ListComp elt gens scope pos) k (.ref it) (.ref L) Y.env) R s := by
  have stat : ∀ {H' : Hp}, (∀ b ∈ fp, H' b = none) → ∀ b ∈ fp, FpOk Y pins H' b := fun hn b hb => ⟨hn b hb, (f0 b hb).2⟩
  refine loop_at hk hs (fun n s' => ∃ (j : Nat) (Hj : Hp) (fpsj : List (List Addr)) (accj : List D) (sj : S), n = ds.length - j ∧ j ≤ ds.length ∧ fol (turnF κ (l ++ lk) t ifs gs slW) ds acc0 s0 = fol (turnF κ (l ++ lk) t ifs gs slW) (ds.drop j) accj sj ∧
      Inv Y pins σW Hj s' ∧ tn j s'.heap ∧ (∀ b ∈ fp, Hj b = none) ∧ Rel ⟨slW, sj.ce⟩ m fpsj σW Hj ∧ GX [L] (l ++ lk) fpsS fpsj HS Hj ∧ Acc live L accj fpsj Hj fpsB HB) ?_ ds.length ⟨0, HS, fpsS, acc0, s0, rfl, Nat.zero_le _, rfl, I0, t0, fun b hb => (f0 b hb).1, R0, GX.refl, A0⟩
  rintro n s5 ⟨j, Hj, fpsj, accj, sj, rfl, hj, ef, I5, t5, n5, R5, g5, A5⟩
  have so := src fpsj Hj (g5.less fun _ h => List.mem_append_left _ h) j
  by_cases hlt : j < ds.length
  · -- a turn
    have hd : ds[j]? = some ds[j] := List.getElem?_eq_getElem hlt
    obtain ⟨go, hy⟩ := so.1 _ hd
    have hdrop : ds.drop j = ds[j] :: ds.drop (j + 1) := List.drop_eq_getElem_cons hlt
    generalize ds[j] = d at hd go hy hdrop
    rw [hdrop] at ef
    rw [ef] at hx0
    simp only [fol] at hx0 ef
    have hxF := hx0.fst
    have ti := T.item Y rfl rfl rfl hc j pins s5 _ Hj (fun _ _ => False) I5 (stat n5) t5 go
    refine thnF ti fun r s6 ⟨u, hr, h6⟩ => ?_
    subst hr
    refine thnF h6 fun _ s7 ⟨x, H7, I7, r7, y7, t7, n7⟩ => ?_
    obtain ⟨ext, rx⟩ := hy x H7 y7
    have R7 : Rel ⟨slW, sj.ce⟩ m fpsj σW H7 := R5.mono fun b o e _ => ext b o e
    have g7 : Grd (l ++ lk) fpsj fpsj Hj H7 := Grd.ext ext
    have A7 := A5.keep R5 g7
    have I7' := I7.pinned (stat n7) (T.obj _ _ t7)
    have hxT : XO Y (oTg κ (l ++ lk) t d ⟨slW, sj.ce⟩) := hxF.fst
    refine thnY hE (cl.sg (l ++ lk) ⟨slW, sj.ce⟩ m fpsj σW H7 x d [] hxT R7 (.tree (.fro rx) (by simp)) (pins ++ pinsAt fp s7.heap) s7 u I7' r7) fun _ s8 ⟨σ8, H8, I8, st1, e8, me, fps8, R8, t8, l8, o8⟩ => ?_
    have hme : me = [] := me_nil R7 R8 (by rw [dead_ce cl.dead e8])
    subst hme
    rw [List.append_nil] at R8
    have g8 := t8.grd
    have A8 := A7.keep R7 g8
    have hx8 := hxF.snd e8
    refine thnY hE (tests_ok cl.gi cl.hl hx8.fst R8 I8) fun b s9 ⟨H9, I9, st2, fps9, e9, R9, g9⟩ => ?_
    have A9 := A8.keep R8 g9
    have hx9 := hx8.snd e9
    have g79 : Grd (l ++ lk) fpsj fps9 Hj H9 := (g7.trans g8 R7 (fun _ h => h) (by have := R7.flen; have := R8.flen; have := R7.mlen; have := R8.mlen; omega)).trans g9 R8 (fun _ h => h) (by have := R7.flen; have := R8.flen; have := R7.mlen; have := R8.mlen; omega)
    have gS9 : GX [L] (l ++ lk) fpsS fps9 HS H9 := g5.trans g79.gx R5 (fun _ h => h)
    -- the turn's end
    have endT : ∀ {σ' : L2.St} {H' : Hp} {s' : Shared} {acc' : List D} {st' : S} {fps' : List (List Addr)}, Inv Y (pins ++ pinsAt fp s7.heap) σ' H' s' → turnF κ (l ++ lk) t ifs gs slW d accj sj = .ok acc' st' → RelC st'.ce m fps' H' → GX [L] (l ++ lk) fpsS fps' HS H' → Acc live L acc' fps' H' fpsB HB → σ'.length = σ8.length →
        (∀ (i : Nat) v, (σW : List (Option V))[i]? = some (some v) → (σ' : List (Option V))[i]? = some (some v)) → ∃ m_1, m_1 < ds.length - j ∧ ∃ (j : Nat) (Hj : Hp) (fpsj : List (List Addr)) (accj : List D) (sj : S), m_1 = ds.length - j ∧ j ≤ ds.length ∧ fol (turnF κ (l ++ lk) t ifs gs slW) ds acc0 s0 = fol (turnF κ (l ++ lk) t ifs gs slW) (ds.drop j) accj sj ∧
      Inv Y pins σW Hj s' ∧ tn j s'.heap ∧ (∀ b ∈ fp, Hj b = none) ∧ Rel ⟨slW, sj.ce⟩ m fpsj σW Hj ∧ GX [L] (l ++ lk) fpsS fpsj HS Hj ∧ Acc live L accj fpsj Hj fpsB HB := fun {σ' H' s' acc' st' fps'} I' eF Rc gS A' hl hsub => by
      have pin' : ∀ b ∈ fp, ∀ o, s7.heap.get? b = some o → s'.heap.get? b = some o ∧ H' b = none := fun b hb o e =>
        let z := I'.pin (b, o) (List.mem_append_right _ (List.mem_append_right _ (mem_pinsAt hb e)))
        ⟨z.1, z.2.1⟩
      refine ⟨ds.length - (j + 1), by omega, j + 1, H', fps', acc', st', rfl, hlt, ?_, I'.unpinned.weak (by rw [hl, l8]) hsub, T.keep _ _ _ t7 fun b hb o e => (pin' b hb o e).1, fun b hb => ?_, ?_, gS, A'⟩
      · rw [ef, eF, Res.bind_ok]
      · obtain ⟨o, e, _⟩ := T.obj _ _ t7 b hb
        exact (pin' b hb o e).2
      · exact RelC.toRel R0 (gS.imm RS oS') Rc
    have hsub8 : ∀ (i : Nat) v, (σW : List (Option V))[i]? = some (some v) → (σ8 : List (Option V))[i]? = some (some v) := fun i v e => by
      rw [o8 i fun z => hW i v e (List.mem_append_left _ z)]; exact e
    cases b with
    | false =>
      rw [if_neg Bool.false_ne_true]
      exact endT I9 (by unfold turnF; rw [e8, Res.bind_ok, e9, Res.bind_ok]) (RelC.of R9) gS9 A9 rfl hsub8
    | true =>
      rw [if_pos rfl]
      refine rest (l ++ lk) _ s9 st2 m fps9 σ8 H9 accj fpsB HB _ _ I9 R9 A9 hx9 fun s' acc' st' σ' H' fps' e' I' Rc gg A' hl' hsub' => ?_
      refine endT I' (by unfold turnF; rw [e8, Res.bind_ok, e9, Res.bind_ok]; exact e') Rc (gS9.trans gg R9 (fun _ h => h)) A' hl' fun i v e => ?_
      exact hsub' i v (fun z => hW i v e (List.mem_append_right _ z)) (hsub8 i v e)
  · -- the end
    have hjl : j = ds.length := by omega
    have td := T.done Y rfl rfl rfl hc j pins s5 _ Hj (fun _ _ => False) I5 (stat n5) t5 (so.2 hjl)
    refine thnF td fun r s6 ⟨hr, I6⟩ => ?_
    subst hr
    have hdrop : ds.drop j = [] := List.drop_eq_nil_of_le (by omega)
    rw [hdrop] at ef
    exact fin s6 accj sj Hj fpsj ef I6 (RelC.of (st := ⟨slW, sj.ce⟩) R5) g5 A5
theorem wipeσ_none {σ : L2.St} {vs : List Nat} {j : Nat} {v : V} (h : ((L2.wipe σ vs : L2.St) : List (Option V))[j]? = some (some v)) : j ∉ vs := (L2.wipe_some h).2
theorem rest_cons (hE : ∀ u s, Y.xe u s → False) (hc : Y.calm = true) {k : Nat} {t' it' : Expr} {ifs' : List Expr} {t : T} {itm : I} {ifs : Cs} {gs : Gs} (hk : gens[k + 1]? = some ⟨t', it', ifs', 0⟩) (hs : ∀ g, gens[k + 2]? = some g → g.is_async = 0 ∧ ∀ x, foldedSetIterable g.iter Y.env x = pure x)
    (si : ∀ lk, SI Y t' it' lk (oI κ lk itm)) (cl : ClOK Y κ t t' ifs ifs') (rest : RestOK Y κ elt gens scope pos L live gs (k + 1)) : RestOK Y κ elt gens scope pos L live (.cons t itm ifs gs) k := by
  intro lk pins s st m fps σ H acc fpsB HB N Q I R a hx fin
  unfold restW
  rw [hk]
  rw [oG] at hx fin
  refine thnY hE (si lk st m fps σ H hx.fst R [L] a.out pins s I) fun v s4 h4 => thnY hE h4 fun itv s5 h5 => ?_
  obtain ⟨it, fp, tn, J, H2, e, I2, T, st2, f2, ds, l, st1, fps1, e1, R1, g1, src⟩ := h5
  subst e
  have hx1 := hx.snd e1
  have A1 := a.keep R g1
  have RW := R1.wipe (t.slots ++ gs.slots)
  have hsub : ∀ (j : Nat) w, ((L2.wipe σ (t.slots ++ gs.slots) : L2.St) : List (Option V))[j]? = some (some w) → (σ : List (Option V))[j]? = some (some w) := fun j w e => (L2.wipe_some e).1
  have loop : codeAny (model Y.prog Y.w) Y.A (.compLoop (.ListComp elt gens scope pos) (k + 1) (.ref it) (.ref L) Y.env) (fun r s' => match r with
      | .ok _ => Q s'
      | .error _ => False) s5 := by
    refine loop_ok (lk := lk) (slW := OV.wipe st1.sl (t.slots ++ gs.slots)) (σW := L2.wipe σ (t.slots ++ gs.slots)) (s0 := st1) hE hc hk hs cl rest T src (fun j w e => wipeσ_none e) R1 A1.out (I2.weak (L2.wipe_length _ _) hsub) RW A1 st2 f2 hx1 fun s' acc' sF H' fps' ef I' Rc gg A' => ?_
    refine fin s' acc' sF (L2.wipe σ (t.slots ++ gs.slots)) H' fps' (by rw [e1, Res.bind_ok]; exact ef) I' Rc (g1.gx.trans gg R1 fun _ h => List.mem_append_right _ h) A' (L2.wipe_length _ _) fun j w hj e => ?_
    have hj : j ∉ t.slots ++ gs.slots := hj
    rw [L2.wipe_out hj]; exact e
  exact start_at hk loop (T.self Y.A 0 _ _ _ st2 loop)
end
end OV
/-! text OVX -/
namespace OV
open PySem PySem.Spec PyProof.Rows L2
variable [Tabled] [Kn]
section
variable {X : Cx} {q : SX} {κ : K} {n : Nat} {lk : List Nat} {p : Pos}
theorem xok_any {Y : Cx} {c : Str} {a : D} : XOK Y c a := by
  intro pins σ H s e s' I h
  obtain ⟨_, _, _, _, _, _, _, _, _, _, _, _, h⟩ := h
  exact h.elim
theorem XO.to {α : Type} {X Y : Cx} {r : Res α} (h : XO X r) : XO Y r := by
  cases r with
  | ok _ _ => trivial
  | ex _ _ _ => exact xok_any
  | no => exact h
/-- a block's context -/
theorem Cxt.blk (cx : Cxt X q κ n) {s : Shared} {H : Hp} {scope : Scope} {cl : List (Str × Addr)} {C : Addr} {fp : List Addr} {pins : List (Addr × Obj)} {σ : L2.St} (I : Inv X pins σ H s) (f : ∀ b ∈ fp, FpOk X pins H b) : Cxt (X.blk s H scope (compEnvC scope cl C X.env) fp) (q.blk scope) κ n :=
  ⟨cx.N, cx.nd, by show relS scope X.env.scope = relS scope q.sc; rw [cx.sc], rfl, cx.calm, cx.room, cx.guards, cx.blt, cx.tab, cx.ltab, knAt_call cx.kn cx.knx I, fun c v h hc => by
    obtain ⟨⟨u, _, o, ho, _⟩, _, _⟩ := cx.kn c v h
    rcases (f c hc).2.2.2.1 with z | z
    · exact cx.knx c v h z
    · exact absurd (Nat.lt_of_lt_of_le (Heap.lt_size ho) z) (Nat.lt_irrefl _), cx.prog, cx.w, fun z => (Bool.noConfusion (show false = true from z)), cx.gis, cx.dfs⟩
/-- all that a comprehension's parts must bear -/
structure CompOK (X : Cx) (q : SX) (κ : K) (n : Nat) (t : T) (itm : I) (ifs : Cs) (gs : Gs) (elt t' it' : Expr) (ifs' : List Expr) (gens : List Comprehension) (scope : Scope) (pos : Pos) : Prop where
  si : ∀ lk, SI X t' it' lk (oI κ lk itm)
  fold : ∀ (env : Env) x, foldedSetIterable it' env x = pure x
  next : ∀ g, gens[0]? = some g → g.is_async = 0 ∧ ∀ (env : Env) x, foldedSetIterable g.iter env x = pure x
  blk : ∀ Y : Cx, Cxt Y (q.blk scope) κ n → (∀ u s, Y.xe u s → False) → ClOK Y κ t t' ifs ifs' ∧ ∀ L, RestOK Y κ elt (⟨t', it', ifs', 0⟩ :: gens) scope pos L gs.live gs 0
theorem comp_core {pins : List (Addr × Obj)} {s : Shared} {σ : L2.St} {H : Hp} {elt t' it' : Expr} {ifs' : List Expr} {gens : List Comprehension} {scope : Scope} {own : List (Str × Nat)} {pos pos' : Pos} {t : T} {itm : I} {ifs : Cs} {gs : Gs} {st : S} {m : List Addr} {fps : List (List Addr)} {use : Option (Value → Sem Unit)} {Qf : Value → Shared → Prop}
    (cx : Cxt X q κ n) (ok : BlkOk X.N X.env.scope scope own) (cp : CompOK X q κ n t itm ifs gs elt t' it' ifs' gens scope pos) (hsl : ∀ i ∈ t.slots ++ gs.slots, i ∈ own.map (·.2)) (I : Inv X pins σ H s) (R : Rel st m fps σ H) (hx : XO X (oE κ lk (.comp (own.map (·.2)) t itm ifs gs) st))
    (hRR : ∀ D C s' mm H', Inv X pins σ H' s' → WiE lk (oE κ lk (.comp (own.map (·.2)) t itm ifs gs) st) m fps σ H (.ref D) H' → s'.heap.Ns C mm → FpOk X pins H' C → compPost (model X.prog X.w) X.A X.xe use Qf (.ref D) C (.ok .next) s') :
    wpAny (model X.prog X.w) X.A (comprehension (.ListComp elt (⟨t', it', ifs', 0⟩ :: gens) scope pos) scope X.env pos' (newList []) false (eval it' X.env) use) Qf X.xe s := by
  have hfree : ∀ y ∈ scope.names, y.2 = .free → ∃ c, X.env.cells.lookup y.1 = some c := fun y hy e => by
    rcases ok.free y hy e with k | k
    · exact I.ok.has _ (.inl k)
    · exact I.ok.has _ (.inr k)
  rw [oE] at hx hRR
  have hN : X.N.Nodup := by rw [cx.N]; exact cx.nd
  refine wpAny_comprehension_free (use := use) rfl (cp.fold _) (closure_ok hfree) ok.kind (fun y hy e => by rw [ok.uniq y hy, e])
    (thn (cp.si lk st m fps σ H hx.fst R [] Out.nil pins s I) fun xv s1 hx' => thn hx' fun itv s2 h2 => ?_)
  obtain ⟨it, fp, tn, J, H2, e, I2, T, st2, f2, ds, l, st1, fps1, e1, R1, g1, src⟩ := h2
  subst e
  have hx1 := hx.snd e1
  refine wpAny_newObj_type (newEnv_comp ?_) (by show 0 ≤ sizeLine; decide)
  generalize hD : s2.heap.objs.size = L
  have hDn : H2 L = none := I2.hok.fresh (Nat.le_of_eq hD)
  -- the new list
  generalize hs3 : ({ s2 with heap := s2.heap.push { cls := .type "list", data := .seq ([] : List Value).toArray } } : Shared) = s3
  have I3 : Inv X pins σ (upd H2 L (.lst [])) s3 := by
    rw [← hs3]
    refine I2.laid (t' := s2.toks) (fun b o e => Heap.get?_push_of_some _ e) (Nat.le_of_eq hD) ⟨Nat.zero_le _, [], 0, .nil, ?_⟩
    rw [← hD]
    exact Heap.get?_push_size _ rfl
  have h3 : s3.heap = s2.heap.push { cls := .type "list", data := .seq ([] : List Value).toArray } := by rw [← hs3]
  have sz : ∀ b ∈ fp, b < s2.heap.objs.size := fun b hb => by
    obtain ⟨o, e, _⟩ := T.obj _ _ st2 b hb
    exact Heap.lt_size e
  have f3 : ∀ b ∈ fp, FpOk X pins (upd H2 L (.lst [])) b ∧ b < s3.heap.objs.size := fun b hb => by
    have hlt := sz b hb
    refine ⟨⟨?_, (f2 b hb).2⟩, by rw [h3, Heap.size_push]; exact Nat.lt_succ_of_lt hlt⟩
    rw [upd_ne (by rw [← hD]; exact Nat.ne_of_lt hlt)]
    exact (f2 b hb).1
  have st3 : tn 0 s3.heap := T.keep _ _ _ st2 fun b _ o e => by rw [h3]; exact Heap.get?_push_of_some _ e
  have I4 := block_start I3 ok hN f3
  have cY := cx.blk (s := s3) (H := upd H2 L (.lst [])) (scope := scope) (cl := cellsFrom (s3.heap.objs.size + 1) scope.names (cloFrom X.env.cells scope.names [])) (C := s3.heap.objs.size) (fp := fp) I3 fun b hb => (f3 b hb).1
  show codeAny _ _ (.compStart (.ListComp elt (⟨t', it', ifs', 0⟩ :: gens) scope pos) 0 (.ref it) (.ref L) (compEnvC scope (cellsFrom (s3.heap.objs.size + 1) scope.names (cloFrom X.env.cells scope.names [])) s3.heap.objs.size X.env)) (compPost (model X.prog X.w) X.A X.xe use Qf (.ref L) s3.heap.objs.size) _
  have nfp : ∀ b ∈ fp, (upd H2 L (.lst [])) b = none := fun b hb => (f3 b hb).1.1
  generalize hce : compEnvC scope (cellsFrom (s3.heap.objs.size + 1) scope.names (cloFrom X.env.cells scope.names [])) s3.heap.objs.size X.env = ce at I4 cY ⊢
  have cL : ce.locals = s3.heap.objs.size := by subst hce; rfl
  have hE : ∀ u s', (X.blk s3 (upd H2 L (.lst [])) scope ce fp).xe u s' → False := fun _ _ z => z
  obtain ⟨cl, rest⟩ := cp.blk _ cY hE
  have R3 : Rel st1 m fps1 σ (upd H2 L (.lst [])) := R1.new hDn
  have srcL : Src J l ds [L] fps1 (upd H2 L (.lst [])) := fun fps' H' g => src fps' H' ⟨fun b o _ e k t => by
      have hb : b ≠ L := fun z => by subst z; rw [hDn] at e; cases e
      exact g.keep b o (by simpa using hb) (by rw [upd_ne hb]; exact e) k t, fun b o e => by
      have hb : b ≠ L := fun z => by subst z; rw [hDn] at e; cases e
      exact g.there b o (by rw [upd_ne hb]; exact e), fun b hb => by
      rcases g.fresh b hb with z | z
      · exact .inl z
      · right
        by_cases hb : b = L
        · rw [hb]; exact hDn
        · rw [upd_ne hb] at z; exact z, g.lock⟩
  have back : ∀ {l' fps' H'}, GX [L] l' fps1 fps' (upd H2 L (.lst [])) H' → Grd l' fps1 fps' H2 H' := fun {l' fps' H'} g => ⟨fun b o e k t => by
      have hb : b ≠ L := fun z => by subst z; rw [hDn] at e; cases e
      exact g.keep b o (by simpa using hb) (by rw [upd_ne hb]; exact e) k t, fun b o e => by
      have hb : b ≠ L := fun z => by subst z; rw [hDn] at e; cases e
      exact g.there b o (by rw [upd_ne hb]; exact e), fun b hb => by
      rcases g.fresh b hb with z | z
      · exact .inl z
      · right
        by_cases hb : b = L
        · rw [hb]; exact hDn
        · rw [upd_ne hb] at z; exact z, g.lock⟩
  have hLn : H L = none := nf_new g1 hDn
  have nL : ∀ f ∈ fps1, L ∉ f := not_in R1 hDn
  have A3 : Acc gs.live L [] fps1 (upd H2 L (.lst [])) fps H := ⟨[], [], upd_same, .nil, by simp, fun b hb f hf => by rw [List.mem_singleton.mp hb]; exact nL f hf, fun b hb => by rw [List.mem_singleton.mp hb]; exact .inr hLn, fun _ => rfl, g1.fresh, fun b o e => by
    obtain ⟨o1, e1⟩ := g1.there b o e
    exact ⟨o1, imm_upd hDn b o1 e1⟩⟩
  generalize hH3 : upd H2 L (.lst []) = H3 at I3 I4 nfp f3 cY cl rest R3 srcL A3 hE back
  have imm23 : ∀ b o, H2 b = some o → H3 b = some o := fun b o e => by rw [← hH3]; exact imm_upd hDn b o e
  generalize hs4 : ({ s3 with heap := pushCells (s3.heap.push { cls := .type "dict", data := .dict #[] }) scope.names } : Shared) = s4 at I4 ⊢
  have st4 : tn 0 s4.heap := T.keep _ _ _ st3 fun b _ o e => by rw [← hs4]; exact pushCells_keeps _ _ _ _ (Heap.get?_push_of_some _ e)
  have stat : ∀ {σ' : L2.St} {H' : Hp} {s' : Shared}, Inv (X.blk s3 H3 scope ce fp) [] σ' H' s' → (∀ b ∈ fp, H' b = none) → ∀ b ∈ fp, FpOk (X.blk s3 H3 scope ce fp) [] H' b := fun {σ' H' s'} I' hn b hb =>
    ⟨hn b hb, (I'.ok.exf b hb).1, I'.ok.exfs b hb, .inl hb, fun x c e => (I'.ok.exf b hb).2 x c e, fun p hp => absurd (show p ∈ ([] : List (Addr × Obj)) ++ [] from hp) (by simp)⟩
  have RW := R3.wipe (own.map (·.2))
  have loop : codeAny (model X.prog X.w) X.A (.compLoop (.ListComp elt (⟨t', it', ifs', 0⟩ :: gens) scope pos) 0 (.ref it) (.ref L) ce) (compPost (model X.prog X.w) X.A X.xe use Qf (.ref L) s3.heap.objs.size) s4 := by
    refine loop_ok (Y := X.blk s3 H3 scope ce fp) (k := 0) (lk := lk) (slW := OV.wipe st1.sl (own.map (·.2))) (s0 := ⟨OV.wipe st1.sl (own.map (·.2)), st1.ce⟩) hE cx.calm rfl (fun g hg => ?_) cl (rest L) T srcL (fun j w e z => wipeσ_none e (hsl j z)) R3 A3.out I4 RW A3 st4 (stat I4 nfp) hx1.fst.to fun s6 acc' sF H5 fps5 ef I6 Rc gg A5 => ?_
    · obtain ⟨a, b⟩ := cp.next g (by simpa using hg)
      exact ⟨a, b _⟩
    · -- back in the def's context
      have I7 : Inv X pins σ H5 s6 := I3.call' (ch := fp) I6.os I6.base I6.hok I6.bare fun b hb => ⟨(f3 b hb).1.2.2.2.1, (f3 b hb).1.2.1, (f3 b hb).1.2.2.2.2.1, (f3 b hb).1.2.2.2.2.2⟩
      have nC : H5 s3.heap.objs.size = none := by
        have z : H5 ce.locals = none := I6.free
        rw [cL] at z
        exact z
      obtain ⟨mm, hn, _⟩ := I6.loc
      have hn : s6.heap.Ns ce.locals mm := hn
      rw [cL] at hn
      refine hRR L s3.heap.objs.size s6 mm H5 I7 ?_ hn (I3.fpOk (Nat.le_refl _) nC)
      have g2 := (back gg).less (lk := lk) fun _ h => List.mem_append_right _ h
      have g25 : Grd lk fps fps5 H H5 := g1.trans (back gg) R1 (fun _ h => List.mem_append_right _ h) (R.len_le R1)
      obtain ⟨vs, gl, A⟩ := A5
      refine ⟨if gs.live then .own acc' else .new acc', ⟨st1.sl, sF.ce⟩, ?_, fps5, L :: gl, RelC.toRel (ce := st1.ce) R1 (g2.imm R1) Rc, .tree ?_ A.ap, g25, A.nf⟩
      · rw [e1, Res.bind_ok]
        show ((fol (turnF κ (l ++ lk) t ifs gs (OV.wipe st1.sl (own.map (·.2)))) ds [] ⟨OV.wipe st1.sl (own.map (·.2)), st1.ce⟩).bind fun acc st2 => Res.ok (if gs.live = true then D.own acc else D.new acc) ⟨st1.sl, st2.ce⟩) = _
        rw [ef, Res.bind_ok]
      · cases hlv : gs.live with
        | true => exact .own A.at' A.ro A.nin
        | false =>
          obtain ⟨r1, r2⟩ := A.ro.ofV (A.fz hlv)
          subst r2
          exact .new A.at' r1
  exact codeAny_compStart_list loop (T.self X.A 0 _ _ _ st4 loop)
/-- as a value -/
theorem se_comp {elt t' it' : Expr} {ifs' : List Expr} {gens : List Comprehension} {scope : Scope} {own : List (Str × Nat)} {t : T} {itm : I} {ifs : Cs} {gs : Gs} (cx : Cxt X q κ n) (ok : BlkOk X.N X.env.scope scope own) (cp : CompOK X q κ n t itm ifs gs elt t' it' ifs' gens scope p) (hsl : ∀ i ∈ t.slots ++ gs.slots, i ∈ own.map (·.2)) :
    SE X (.ListComp elt (⟨t', it', ifs', 0⟩ :: gens) scope p) lk (oE κ lk (.comp (own.map (·.2)) t itm ifs gs)) := by
  intro st m fps σ H hx R pins s I
  rw [eval_ListComp]
  refine comp_core cx ok cp hsl I R hx fun D C s' mm H' I' q hn f => ⟨mm, hn, fun h'' sb => ?_⟩
  obtain ⟨f0, f1, f2, f3, f4, f5⟩ := f
  exact ⟨.ref D, H', I'.turned (t' := s'.toks) (fun b o hb e => (sb.2 b hb).trans e) f0 f1 f3 f4 f5, rfl, q⟩
end
end OV
/-! text OVXA -/
namespace OV
open PySem PySem.Spec PyProof.Rows L2
variable [Tabled] [Kn]
/-! len(set(..)) of ints. -/
theorem nodup_le : ∀ {l k : List Int}, l.Nodup → (∀ x ∈ l, x ∈ k) → l.length ≤ k.length
  | [], _, _, _ => Nat.zero_le _
  | a :: l, k, h, s => by
    have ha : a ∈ k := s a List.mem_cons_self
    have h2 := List.nodup_cons.mp h
    have := nodup_le (l := l) (k := k.erase a) h2.2 fun x hx => (List.mem_erase_of_ne (fun (e : x = a) => h2.1 (e ▸ hx))).mpr (s x (List.mem_cons_of_mem _ hx))
    rw [List.length_erase_of_mem ha] at this
    have hk : 0 < k.length := List.length_pos_of_mem ha
    simp only [List.length_cons]; omega
theorem ded_step (is : List Int) : dedI is = is.foldl PyProof.Rows.step_dedup [] := rfl
theorem ded_inv : ∀ (l acc : List Int), acc.Nodup → (l.foldl (fun acc x => if acc.any (· == x) then acc else acc ++ [x]) acc).Nodup ∧ ∀ y, y ∈ l.foldl (fun acc x => if acc.any (· == x) then acc else acc ++ [x]) acc ↔ y ∈ acc ∨ y ∈ l
  | [], acc, h => ⟨h, fun y => by simp⟩
  | a :: l, acc, h => by
    simp only [List.foldl_cons]
    by_cases hb : acc.any (· == a) = true
    · rw [if_pos hb]
      obtain ⟨h1, h2⟩ := ded_inv l acc h
      have ha : a ∈ acc := by
        obtain ⟨y, hy, e⟩ := List.any_eq_true.mp hb
        exact eq_of_beq e ▸ hy
      refine ⟨h1, fun y => (h2 y).trans ⟨fun z => z.imp id (List.mem_cons_of_mem _), fun z => ?_⟩⟩
      rcases z with z | z
      · exact .inl z
      · rcases List.mem_cons.mp z with e | z
        · exact .inl (e ▸ ha)
        · exact .inr z
    · rw [if_neg hb]
      have ha : a ∉ acc := fun z => hb (List.any_eq_true.mpr ⟨a, z, by simp⟩)
      obtain ⟨h1, h2⟩ := ded_inv l (acc ++ [a]) (by
        rw [List.nodup_append]
        exact ⟨h, by simp, fun x hx y hy e => ha (by rw [List.mem_singleton.mp hy] at e; exact e ▸ hx)⟩)
      refine ⟨h1, fun y => (h2 y).trans ?_⟩
      simp [or_assoc]
theorem ded_mem (is : List Int) (y : Int) : y ∈ dedI is ↔ y ∈ is := by
  have := (ded_inv is [] (by simp)).2 y
  simpa [dedI] using this
theorem ded_nodup (is : List Int) : (dedI is).Nodup := (ded_inv is [] (by simp)).1
theorem ded_len {is ks : List Int} (h : ks.Nodup) (m : ∀ k, k ∈ ks ↔ k ∈ is) : ks.length = (dedI is).length :=
  Nat.le_antisymm (nodup_le h fun x hx => (ded_mem is x).mpr ((m x).mp hx)) (nodup_le (ded_nodup is) fun x hx => (m x).mpr ((ded_mem is x).mp hx))
theorem first_ded (ns : List Int) : PyProof.Rows.firstMet (fun i => ns.getD i 0) ns.length = dedI ns := by
  unfold PyProof.Rows.firstMet
  rw [ded_step]
  congr 1
  apply List.ext_getElem?
  intro i
  rw [List.getElem?_map]
  by_cases h : i < ns.length
  · rw [List.getElem?_range h, List.getElem?_eq_getElem h]
    simp [List.getD_eq_getElem?_getD, List.getElem?_eq_getElem h]
  · rw [List.getElem?_eq_none (by simpa using h), List.getElem?_eq_none (by simpa using h)]; rfl
def tLenSetA (K : PySem.W.Frag) (ta : TE) : TE := fun σ H Q => ta σ H fun x H1 => ∃ (l : Addr) (ns : List Int), x = .ref l ∧ (SqT K H1 l (ns.map V.int) ∨ SqL K H1 l (ns.map V.int)) ∧ ns.length ≤ 4000 ∧ Q (.int ((dedI ns).length : Nat)) H1
theorem pe_lenSetA {X : Cx} {a : Expr} {ta : TE} {p p2 q pos : Pos} (hg : Gl X "len") (hm : X.mg "len" = none) (hg2 : Gl X "set") (hm2 : X.mg "set" = none) (ha : PE X a ta) (hc : X.calm = true)
    (na : starEach [a] X.env = (false, eval a X.env) :: starEach [] X.env) : PE X (.Call (.Name "len" p) [.Call (.Name "set" p2) [a] [] q] [] pos) (tLenSetA X.K ta) := by
  refine ⟨fun pins s σ H Q I h => ?_⟩
  refine Call_ (ld_blt I hg hm boot_len ?_)
  refine PyProof.Rows.callWith_builtin1 (PyProof.Rows.args_cons ?_ rfl) rfl rfl
  refine Call_ (ld_blt I hg2 hm2 boot_set ?_)
  refine PyProof.Rows.callWith_type1 (PyProof.Rows.args_cons (thn (ha.run pins s σ H _ I h) fun v s1 ⟨x, H1, I1, r1, q1⟩ => PyProof.Rows.args_nil ?_) na) na rfl
  obtain ⟨l, ns, rfl, hq, hl, q1⟩ := q1
  cases r1
  rcases hq with hq | hq
  · obtain ⟨its, r, pl, hz⟩ := I1.tuple hq
    refine call_set_tupI ns (I1.ok.hd hc) (show s1.heap.IsTuple l its.toArray from pl) (by simpa using RZ.intsAre_vals r) (by unfold scanBound; omega) fun h' tk c hS hcl hk => ?_
    refine PyProof.Rows.args_nil ?_
    obtain ⟨o, es, ep, t, ho, hex, hd, _, hnd, hmem, hsz, hf, hn, _, _⟩ := hS
    have hcnt : es.size = (dedI ns).length := by
      have h1 := ded_len (is := ns) hnd fun k => by rw [← hmem k]; simp
      rw [List.length_map, Array.length_toList] at h1
      exact h1
    have I2 : Inv X pins σ H1 { s1 with heap := h', toks := tk } := I1.kept hk
    have hb : (dedI ns).length ≤ ns.length := nodup_le (ded_nodup ns) fun x hx => (ded_mem ns x).mp hx
    exact call_len_set ho hex hd hf (by omega) ⟨.int (dedI ns).length, H1, I2.tok _, ⟨_, by rw [hcnt]⟩, q1⟩
  · obtain ⟨its, r, pl, hz⟩ := I1.list hq
    have hlen : its.toArray.size = ns.length := by rw [List.size_toArray, ← r.length, List.length_map]
    refine call_set_list (I1.ok.hd hc) pl.isList (by simpa using RZ.intsAre_vals r) (by rw [hlen]; unfold scanBound; omega) fun h' tk hS hk => ?_
    refine PyProof.Rows.args_nil ?_
    rw [hlen, first_ded] at hS
    obtain ⟨o, es, ep, t, ho, hex, hd, _, _, _, hf, hn⟩ := hS
    have I2 : Inv X pins σ H1 { s1 with heap := h', toks := tk } := I1.kept fun b o e => hk b o (Heap.lt_size e) e
    have hb : (dedI ns).length ≤ ns.length := nodup_le (ded_nodup ns) fun x hx => (ded_mem ns x).mp hx
    exact call_len_set ho hex hd hf (by rw [hn]; omega) ⟨.int (dedI ns).length, H1, I2.tok _, ⟨_, by rw [hn]⟩, q1⟩
section
variable {X : Cx} {q : SX} {κ : K} {n : Nat} {lk : List Nat} {p : Pos}
theorem RR.seqWr {st : S} {m : List Addr} {fps : List (List Addr)} {σ : L2.St} {H : Hp} {v : V} {d : D} {fp : List Addr} {ds : List D} (R : Rel st m fps σ H) (r : RR H m fps v d fp) (h : OV.seqW st.ce d = some ds) (K : PySem.W.Frag) : ∃ a vs, v = .ref a ∧ (SqT K H a vs ∨ SqL K H a vs) ∧ RFs H vs ds := by
  rcases seqK2 h with ⟨hl, _⟩ | rfl
  · obtain ⟨a, vs, rfl, h1, h2⟩ := r.lsV R hl
    exact ⟨a, vs, rfl, .inr (rd_sqL h1), h2⟩
  · obtain ⟨a, vs, rfl, h1, h2, _⟩ := r.tupv
    exact ⟨a, vs, rfl, .inl (.inl (.inl h1)), h2⟩
theorem se_lenSet {c0 : C} {e : Expr} {p' p1 p2 : Pos} (c : Cxt X q κ n) (h : gloB q ("len" : Str) = true) (hs : gloB q ("set" : Str) = true) (g : GoodE X κ c0 e) : SE X (.Call (.Name "len" p') [.Call (.Name "set" p1) [e] [] p2] [] p) lk (oE κ lk (.callB .lenSet (.cons c0 .nil))) := by
  intro st m fps σ H hx R
  rw [oE, oEs] at hx ⊢
  obtain ⟨hg, hdb, hn⟩ := gl_of c h
  obtain ⟨hg2, hdb2, hn2⟩ := gl_of c hs
  refine we_pe (pe_lenSetA hg (blt_of c (by decide +kernel)) hg2 (blt_of c (by decide +kernel)) pe_we c.calm (star_plain g.ok _ _)) ?_
  refine WE.imp (g.se lk st m fps σ H hx.fst.fst R) fun v H1 ⟨d, st1, h1, fps1, f1, R1, r1, g1, n1⟩ => ?_
  have e2 : (oE κ lk c0 st).bind (fun d st1 => (oEs κ (lkO d ++ lk) .nil st1).bind fun ds st2 => .ok (d :: ds) st2) = .ok [d] st1 := by rw [h1, Res.bind_ok]; simp only [oEs]; rfl
  obtain ⟨b, h2⟩ := (hx.snd e2).of
  cases h3 : OV.seqW st1.ce d with
  | none => simp only [opB, h3] at h2; cases h2
  | some ds =>
    cases h4 : intsD ds with
    | none => simp only [opB, h3, h4] at h2; cases h2
    | some is =>
      simp only [opB, h3, h4] at h2
      by_cases hl : is.length ≤ 4000
      · rw [if_pos hl] at h2
        cases h2
        obtain ⟨a, vs, rfl, hq, rv⟩ := r1.seqWr R1 h3 X.K
        obtain ⟨rfl, _⟩ := intsD_vals rv h4
        refine ⟨a, is, rfl, hq, hl, _, st1, by rw [e2, Res.bind_ok]; simp only [opB, h3, h4]; rw [if_pos hl]; rfl, fps1, [], R1, .tree (.fro (.int _)) (by simp), g1, NF.nil⟩
      · rw [if_neg hl] at h2; cases h2
end
end OV
/-! text OVXB -/
namespace OV
open PySem PySem.Spec PyProof.Rows L2
variable [Tabled] [Kn]
/-! Lambdas. -/
section
variable {X : Cx} {pins : List (Addr × Obj)} {σ : L2.St} {H : Hp} {s : Shared}
theorem lam_make3 {c P : Addr} {params : Arguments} {body : Expr} {scope : Scope} {fr : List Str} {pos : Pos} {E : Value → Shared → Prop} {Q : Value → Shared → Prop} (I : Inv X pins σ H s) (TB : LamX.TabB X.base X.mg c P) (hcode : X.env.code = .ref c)
    (hm : (P, X.env.qual ++ "<lambda>") ∈ Tabled.T) (hu : ∀ p ∈ Tabled.T, p.1 = P → p.2 = X.env.qual ++ "<lambda>") (hT : LamX.Tabs Tabled.T H) (hdef : defaultsOf params X.env = ([], [])) (hfree : ∀ y ∈ scope.names, y.2 = .free → ∃ c, X.env.cells.lookup y.1 = some c)
    (h : ∀ (f c' : Addr) (H1 : Hp) (s' : Shared), Inv X pins σ H1 s' → (∀ b o, H b = some o → isTbl o = false → H1 b = some o) → (∀ b o, H b = some o → ∃ o', H1 b = some o') → LamX.Tabs Tabled.T H1 → H1 f = some (LamO ⟨params, body, scope, X.env.qual ++ "<lambda>", fr⟩ (cloFrom X.env.cells scope.names []) f c') → H1 c' = some (LamX.CodeO c' (X.env.qual ++ "<lambda>")) → Q (.ref f) s') :
    wpAny (model X.prog X.w) X.A (eval (.Lambda params body scope pos) X.env) Q E s := by
  generalize hcl : cloFrom X.env.cells scope.names [] = cl at h
  obtain ⟨ps, hP, ht, ha⟩ := hT _ hm
  refine PySem.W.kla_eval hdef ?_
  have bP : s.heap.BuiltinsAt X.mg P := TB.bm.keeps I.bk
  have hP' : s.heap.get? P = some { cls := .none, data := .fields ps } := I.hok P _ hP
  have lam : ∀ {H1 : Hp} {h' : Heap} {tk : Nat} {c' : Addr} {pm ctv : Value}, Inv X pins σ H1 { s with heap := h', toks := tk } → Inv X pins σ (upd H1 h'.objs.size (LamO ⟨params, body, scope, X.env.qual ++ "<lambda>", fr⟩ cl h'.objs.size c')) { s with heap := h'.push (PySem.W.kla_obj "<lambda>" (X.env.qual ++ "<lambda>") params body scope cl pm c' ctv), toks := tk } := fun {H1 h' tk c' pm ctv} I1 => by
    have q : (h'.push (PySem.W.kla_obj "<lambda>" (X.env.qual ++ "<lambda>") params body scope cl pm c' ctv)).get? h'.objs.size = some (PySem.W.kla_obj "<lambda>" (X.env.qual ++ "<lambda>") params body scope cl pm c' ctv) := Heap.get?_push_size _ rfl
    refine I1.laid (t' := tk) (fun b o e => Heap.get?_push_of_some _ e) (Nat.le_refl _) ?_
    exact ⟨⟨pm, ctv, q⟩, ⟨_, q⟩, fun h1 h2 ⟨pm, ctv, e⟩ st => ⟨pm, ctv, st _ e⟩⟩
  cases hc : codeAmong pos ps.toList with
  | none =>
    refine PySem.W.kla_makeFunction (mg := X.mg) (c := c) (P := P) (ps := ps) (closure_ok hfree) I.ok.glob (I.mod.glob.keeps I.bk) hcode (TB.code.keeps I.bk) hP' ht hc TB.gP bP fun c' ctv h' tk hx hge hlt hrec htb => ?_
    rw [hcl]
    obtain ⟨c2, oc, vs, t, e2, hoc, hd, hv⟩ := hrec
    cases e2
    have nC : H c' = none := I.hok.fresh hge
    have I1 := LamX.inv_table (t' := tk) (more := #[rawInt pos.line, rawInt pos.col, .ref c']) (h' := h') I hP hx htb hge ⟨oc, vs, t, hoc, hd, hv⟩
    have hE : ∀ b o, H b = some o → isTbl o = false → upd (upd H P (.tbl (ps ++ #[rawInt pos.line, rawInt pos.col, .ref c']))) c' (LamX.CodeO c' (X.env.qual ++ "<lambda>")) b = some o := fun b o e n => by
      rw [upd_ne (ne_of_none e nC), upd_ne (fun z => by rw [z, hP] at e; cases e; cases n)]
      exact e
    have eL : (ps ++ #[rawInt pos.line, rawInt pos.col, .ref c']).toList = ps.toList ++ [rawInt pos.line, rawInt pos.col, .ref c'] := by simp
    have hT1 : LamX.Tabs Tabled.T (upd (upd H P (.tbl (ps ++ #[rawInt pos.line, rawInt pos.col, .ref c']))) c' (LamX.CodeO c' (X.env.qual ++ "<lambda>"))) := fun p hp => by
      by_cases hb : p.1 = P
      · rw [hu p hp hb, hb]
        refine ⟨_, by rw [upd_ne (ne_of_none hP nC), upd_same], by rw [eL]; exact PySem.TriplesOk_snoc _ _ _ _ ht, fun p' cv hcv => ?_⟩
        rw [eL] at hcv
        rcases LamX.among_app _ ht hcv with z | z
        · obtain ⟨c0, e1, e2⟩ := ha p' cv z
          exact ⟨c0, e1, hE _ _ e2 rfl⟩
        · exact ⟨c', z, upd_same⟩
      · obtain ⟨ps', a1, a2, a3⟩ := hT p hp
        refine ⟨ps', by rw [upd_ne (ne_of_none a1 nC), upd_ne hb]; exact a1, a2, fun p' cv hcv => ?_⟩
        obtain ⟨c0, e1, e2⟩ := a3 p' cv hcv
        exact ⟨c0, e1, hE _ _ e2 rfl⟩
    have hth : ∀ b o, H b = some o → ∃ o', upd (upd H P (.tbl (ps ++ #[rawInt pos.line, rawInt pos.col, .ref c']))) c' (LamX.CodeO c' (X.env.qual ++ "<lambda>")) b = some o' := fun b o e => by
      rw [upd_ne (ne_of_none e nC)]
      by_cases hb : b = P
      · rw [hb, upd_same]; exact ⟨_, rfl⟩
      · rw [upd_ne hb]; exact ⟨o, e⟩
    generalize hH1 : upd (upd H P (.tbl (ps ++ #[rawInt pos.line, rawInt pos.col, .ref c']))) c' (LamX.CodeO c' (X.env.qual ++ "<lambda>")) = H1 at I1 hE hT1 hth
    have hfn : H1 h'.objs.size = none := I1.hok.fresh (Nat.le_refl _)
    have hco : H1 c' = some (LamX.CodeO c' (X.env.qual ++ "<lambda>")) := by rw [← hH1]; exact upd_same
    have k1 : ∀ b o, H1 b = some o → upd H1 h'.objs.size (LamO ⟨params, body, scope, X.env.qual ++ "<lambda>", fr⟩ cl h'.objs.size c') b = some o := fun b o e => imm_upd hfn b o e
    refine h h'.objs.size c' _ _ (lam I1) (fun b o e n => k1 b o (hE b o e n)) (fun b o e => (hth b o e).imp fun o' e' => k1 b o' e') (tabs_chg (fun b o e _ => k1 b o e) hT1) upd_same (k1 _ _ hco)
  | some cv =>
    obtain ⟨c', e, hco⟩ := ha pos cv hc
    subst e
    refine PySem.W.kla_makeFunctionHit (mg := X.mg) (c := c) (P := P) (ps := ps) (closure_ok hfree) I.ok.glob (I.mod.glob.keeps I.bk) hcode (TB.code.keeps I.bk) hP' ht hc bP fun ctv h' tk hx hsz => ?_
    rw [hcl]
    have I1 : Inv X pins σ H { s with heap := h', toks := tk } := I.kept hx
    have hfn : H h'.objs.size = none := I1.hok.fresh (Nat.le_refl _)
    have k1 : ∀ b o, H b = some o → upd H h'.objs.size (LamO ⟨params, body, scope, X.env.qual ++ "<lambda>", fr⟩ cl h'.objs.size c') b = some o := fun b o e => imm_upd hfn b o e
    refine h h'.objs.size c' _ _ (lam I1) (fun b o e n => k1 b o e) (fun b o e => ⟨o, k1 b o e⟩) (tabs_chg (fun b o e _ => k1 b o e) hT) upd_same (k1 _ _ hco)
end
/-! ### more is known of caught cells -/
theorem RelC.kn {kn kn' : Kn} {ce : Ce} {m : List Addr} {fps : List (List Addr)} {H : Hp} (R : @RelC _ kn ce m fps H) : @RelC _ kn' ce m fps H := by
  cases R with
  | mk a b c d e f g h => exact @Rel.mk _ kn' _ _ _ _ _ a (fun i d e => by simp at e) c d e f g h
theorem RR.kn {kn kn' : Kn} {H : Hp} {m : List Addr} {fps : List (List Addr)} {v : V} {d : D} {fp : List Addr} (r : @RR _ kn H m fps v d fp) (h : isClo d = false) : @RR _ kn' H m fps v d fp := by
  cases r with
  | tree a b => exact @RR.tree _ kn' _ _ _ _ _ _ a b
  | ref a => exact @RR.ref _ kn' _ _ _ _ _ a
  | clo _ => cases h
  | borN a b c d => exact @RR.borN _ kn' _ _ _ _ _ _ _ a b c d
  | borS a b c d e => exact @RR.borS _ kn' _ _ _ _ _ _ _ _ _ a b c d e
theorem RT.kn {kn kn' : Kn} (k : ∀ c w, kn.kn c w → kn'.kn c w) {H : Hp} {m : List Addr} {v : V} {d : D} (r : @RT _ kn H m v d) : @RT _ kn' H m v d := by
  cases r with
  | fro h => exact @RT.fro _ kn' _ _ _ _ h
  | ref h => exact @RT.ref _ kn' _ _ _ _ h
  | clo h =>
    cases h with
    | mk a b c e r =>
      exact @RT.clo _ kn' _ _ _ _ _ (@Cl.mk _ kn' _ _ _ _ _ _ _ _ a b c (by
        cases e with
        | mk e1 e2 e3 e4 => exact @CapOk.mk kn' _ _ _ e1 (fun y c h => (e2 y c h).imp fun v => k c v) e3 fun i y v h1 h2 => (e4 i y v h1 h2).imp fun c h => ⟨h.1, k _ _ h.2⟩) r)
theorem Rel.monoT {st : S} {m : List Addr} {fps : List (List Addr)} {σ : L2.St} {H H' : Hp} (R : Rel st m fps σ H) (k : ∀ b o, H b = some o → isTbl o = false → H' b = some o) (t : LamX.Tabs Tabled.T H') : Rel st m fps σ H' := by
  have k1 : ∀ b o, H b = some o → OV.imm o = true → H' b = some o := fun b o e i => k b o e (by cases o <;> first | rfl | cases i)
  refine ⟨R.slen, fun i d e => ?_, R.mlen, R.flen, fun n d e => ?_, R.dead, R.dis, t⟩
  · obtain ⟨v, h1, h2⟩ := R.sl i d e
    exact ⟨v, h1, h2.mono k1⟩
  · obtain ⟨a, f, h1, h2, h3, h4⟩ := R.ce n d e
    refine ⟨a, f, h1, h2, h3.mono fun b o e i => i.elim (k1 b o e) fun i => ?_, h4⟩
    obtain ⟨vs, e'⟩ := h3.mut b i
    rw [e] at e'; cases e'
    exact k b _ e rfl
/-- what a lambda catches -/
theorem caps_vals {st : S} {m : List Addr} {fps : List (List Addr)} {σ : L2.St} {H : Hp} (R : Rel st m fps σ H) : ∀ {js : List Nat} {cs : List D}, items capt (js.map fun j => (st.sl[j]?).getD none) = some cs → ∃ ws : List V, js.map (NdefX.slotAt σ) = ws.map some ∧ RFs H ws cs
  | [], cs, h => by cases h; exact ⟨[], rfl, .nil⟩
  | j :: js, cs, h => by
    simp only [List.map_cons, items] at h
    split at h
    · rename_i e es h1 h2
      cases h
      obtain ⟨ws, w1, w2⟩ := caps_vals R h2
      have h3 : ∃ d, st.sl[j]? = some (some d) ∧ isV d = true ∧ d = e := by
        cases q : st.sl[j]? with
        | none => rw [q] at h1; cases h1
        | some o =>
          rw [q] at h1
          cases o with
          | none => cases h1
          | some d =>
            simp only [Option.getD_some, capt] at h1
            split at h1
            · rename_i hv; exact ⟨d, rfl, hv, Option.some.inj h1⟩
            · cases h1
      obtain ⟨d, q1, q2, rfl⟩ := h3
      obtain ⟨v, e1, e2⟩ := R.sl j d q1
      refine ⟨v :: ws, by rw [List.map_cons, List.map_cons, w1, NdefX.slotAt_of e1], .cons ?_ w2⟩
      cases e2 with
      | fro h => exact h
      | ref _ => cases q2
      | clo _ => cases q2
    · cases h
section
variable {X : Cx} {q : SX} {κ : K} {n : Nat} {lk : List Nat} {p : Pos}
theorem defaults_none {params : Arguments} (h1 : params.defaults = []) (h2 : params.kw_defaults = []) (env : Env) : defaultsOf params env = ([], []) := by
  obtain ⟨a, b, c, d, e, f, g⟩ := params
  cases h1; cases h2; rfl
theorem se_callL {f : Str} {c0 : C} {k : Nat} {js : List Nat} {e body : Expr} {params : Arguments} {scope : Scope} {p' pl : Pos} (c : Cxt X q κ n) (hdf : q.df.contains f = true) (h : gloB q f = true) (g : GoodE X κ c0 e) (hL : LamCx X q) (hnd : NdefX.ndefB q.sc scope (q.lfr k) = true)
    (hjs : js.map (fun j => q.N[j]?) = (q.lfr k).map some) (hfn : (q.lfr k).all q.fn = true) (hlok : q.lok k params body scope = true) : SE X (.Call (.Name f p') [e, .Lambda params body scope pl] [] p) lk (oE κ lk (.callL f c0 k js)) := by
  intro st m fps σ H hx R
  rw [oE] at hx ⊢
  obtain ⟨hg, hdb, _⟩ := gl_of c h
  obtain ⟨cc, P, TB, hcode, hm, hu⟩ := hL.at_
  obtain ⟨hok, hd1, hd2, hfr⟩ := hL.ok k params body scope hlok
  intro pins s I
  obtain ⟨fa, hmf, hk⟩ := c.dfs f hdf
  have hsc : ∀ y ∈ scope.names, y.2 = .free → X.env.scope.names.lookup y.1 = some .cell ∨ X.env.scope.names.lookup y.1 = some .free := by rw [c.sc]; exact NdefX.ndef_free hnd
  have hcell : ∀ y ∈ scope.names, y.2 = .free → ∃ c, X.env.cells.lookup y.1 = some c := fun y hy e => (hsc y hy e).elim (fun z => I.ok.has _ (.inl z)) fun z => I.ok.has _ (.inr z)
  -- the first argument, frozen
  have a1 : WE X e σ H (fun v H2 => ∃ d st1 d' cs fps1, oE κ lk c0 st = .ok d st1 ∧ arg d = some d' ∧ items capt (js.map fun j => (st1.sl[j]?).getD none) = some cs ∧ Rel st1 m fps1 σ H2 ∧ RT H2 m v d' ∧ Grd lk fps fps1 H H2) := by
    refine WE.ghost (g.se lk st m fps σ H hx.fst R) fun v H1 pins s ⟨d, st1, h1, fps1, f1, R1, r1, g1, n1⟩ I => ?_
    have hx1 := hx.snd h1
    cases ha : arg d with
    | none => simp only [ha] at hx1; exact hx1.elim
    | some d' =>
      cases hc : items capt (js.map fun j => (st1.sl[j]?).getD none) with
      | none => simp only [ha, hc] at hx1; exact hx1.elim
      | some cs =>
        obtain ⟨H2, I2, r2, z⟩ := freezeA I (RRs.cons r1 .nil (by simp)) (es := [d']) (by simp only [items, ha])
        rw [List.append_nil] at z
        have mm := r1.mem
        refine ⟨H2, I2, d, st1, d', cs, fps1, h1, ha, hc, R1.fz z mm, ?_, g1.fz z n1 fun b hb => (mm b hb).2⟩
        cases r2 with | cons h _ => exact h
  have args : WA X [e, .Lambda params body scope pl] σ H (fun vs H3 => ∃ v a c' d st1 d' cs fps1, vs = [v, .ref a] ∧ oE κ lk c0 st = .ok d st1 ∧ arg d = some d' ∧ items capt (js.map fun j => (st1.sl[j]?).getD none) = some cs ∧ Rel st1 m fps1 σ H3 ∧ RT H3 m v d' ∧ Grd lk fps fps1 H H3 ∧
      H3 a = some (LamO ⟨params, body, scope, X.env.qual ++ "<lambda>", q.lfr k⟩ (cloFrom X.env.cells scope.names []) a c') ∧ H3 c' = some (LamX.CodeO c' (X.env.qual ++ "<lambda>"))) := by
    refine wa_pa (pa_cons pe_we (pa_cons pe_we pa_nil rfl) (star_plain g.ok _ _)) (WE.imp a1 fun v H2 ⟨d, st1, d', cs, fps1, h1, ha, hc, R2, r2, g2⟩ => ?_)
    refine fun pins s I => lam_make3 I TB hcode hm hu R2.tab (defaults_none hd1 hd2 _) hcell (fr := q.lfr k) fun a c' H3 s' I3 k1 k2 k3 k4 k5 => ?_
    have g3 : Grd lk fps1 fps1 H2 H3 := ⟨fun b o e _ t => k1 b o e t, k2, fun _ h => .inl h, fun _ _ _ e => e⟩
    refine ⟨.ref a, H3, I3, rfl, v, a, c', d, st1, d', cs, fps1, rfl, h1, ha, hc, R2.monoT k1 k3, r2.mono (g3.imm R2), g2.trans g3 R2 (fun _ h => h) (R.len_le R2), k4, k5⟩
  refine wpAny_Call_Name_kw (ld_glob I hg hmf ?_ hdb)
  refine PySem.W.callWith_K (h₀ := X.base) I.ok.mod.kin hk (thn (args p pins s I) fun us s1 ⟨vs, H3, I3, rv, v, a, c', d, st1, d', cs, fps1, ev, h1, ha, hc, R3, rt, g3, hla, hlc⟩ => ⟨I3.kIn, ?_⟩) (star_plain g.ok _ _) rfl
  subst ev
  have hx1 := hx.snd h1
  simp only [ha, hc] at hx1
  have hno := FR.no_of hx1
  obtain ⟨fa', fd, ps, hm', hk', hb, hl, F⟩ := c.tab f _ lk st1.ce hno
  rw [hmf] at hm'; cases hm'
  obtain ⟨ws, w1, w2⟩ := caps_vals R3 hc
  generalize hcl : cloFrom X.env.cells scope.names [] = cl at hla
  have cp : NdefX.Caps X cl (q.lfr k) js := by rw [← hcl]; exact NdefX.Caps.made I.ok hsc (NdefX.ndef_fr hnd) (by rw [c.N]; exact hjs)
  have ca := NdefX.cells_of I3 cp
  rw [w1] at ca
  have wl : ws.length = (q.lfr k).length := by rw [← ca.len, List.length_map]
  have cwn : ∀ y c0, cl.lookup y = some c0 → y ∈ q.lfr k := fun y c0 e => by
    rw [← hcl] at e
    rcases cloFrom_mem (PySem.mem_of_lookup e) with z | ⟨z, _⟩
    · cases z
    · exact hfr _ z rfl
  let kf : Addr → V → Prop := fun (c : Addr) (w : V) => Kn.kn c w ∨ ∃ (i : Nat) (y : Str), (q.lfr k)[i]? = some y ∧ cl.lookup y = some c ∧ ws[i]? = some w
  have kn01 : ∀ c w, Kn.kn c w → kf c w := fun c w h => .inl h
  have know : @KnAt (Kn.mk kf) s1 H3 (frs X.stack) := fun c0 w hw => by
    rcases hw with hw | ⟨i, y, e1, e2, e3⟩
    · exact knAt_call c.kn c.knx I3 c0 w hw
    · obtain ⟨c2, e4, e5⟩ := ca.has i y e1
      rw [e2] at e4; cases e4
      refine ⟨e5 w (by rw [List.getElem?_map, e3]; rfl), (ca.all y c0 e2).1, fun hm => ?_⟩
      have ex := cp.sub y c0 e2
      rcases List.mem_cons.mp (I3.stkSub c0 hm) with z | z
      · exact I3.cne y c0 ex z
      · obtain ⟨_, o, ho, _⟩ := I3.ok.funs.mem z
        have hf : X.fn y = true := by rw [c.fn]; exact List.all_eq_true.mp hfn y (List.mem_of_getElem? e1)
        exact absurd (Nat.lt_of_lt_of_le (Heap.lt_size ho) (I3.ok.cab y c0 hf ex)) (Nat.lt_irrefl _)
  have cap : @CapOk (Kn.mk kf) cl (q.lfr k) ws := by
    refine @CapOk.mk (Kn.mk kf) _ _ _ wl (fun y c0 e => ?_) ca.inj (fun i y v h1 h2 => ?_)
    · obtain ⟨i, hi⟩ := List.getElem?_of_mem (cwn y c0 e)
      have : i < ws.length := by rw [wl]; exact (List.getElem?_eq_some_iff.mp hi).1
      exact ⟨ws[i], .inr ⟨i, y, hi, e, List.getElem?_eq_getElem this⟩⟩
    · obtain ⟨c2, e4, _⟩ := ca.has i y h1
      exact ⟨c2, e4, .inr ⟨i, y, h1, e4, h2⟩⟩
  have rts : @RTs _ (Kn.mk kf) H3 m [v, .ref a] [d', .clo k cs] := @RTs.cons _ (Kn.mk kf) _ _ _ _ _ _ (RT.kn (kn' := Kn.mk kf) kn01 rt) (@RTs.cons _ (Kn.mk kf) _ _ _ _ _ _ (@RT.clo _ (Kn.mk kf) _ _ _ _ _ (@Cl.mk _ (Kn.mk kf) _ _ _ _ _ _ _ _ hla hlc hok cap w2)) (@RTs.nil _ (Kn.mk kf) _ _))
  have endq := res_end (X := X) (ρ := κ.fn f [d', .clo k cs] lk st1.ce) (r := (oE κ lk c0 st).bind fun d st1 => match arg d, items capt (js.map fun j => (st1.sl[j]?).getD none) with
    | some d, some cs => (κ.fn f [d, .clo k cs] lk st1.ce).res st1.sl
    | _, _ => .no) R R3 g3 hno fun d2 ce e2 => by rw [h1, Res.bind_ok]; simp only [ha, hc]; rw [e2]; rfl
  exact @run_g _ (Kn.mk kf) X n fa fd ps _ _ pins σ H3 s1 _ us _ (F (Kn.mk kf)) c.room c.guards hb (passes_ex hx1) I3 know rv ⟨hl, _, lk, st1.ce, m, fps1, RelC.kn (kn' := Kn.mk kf) (.of R3), rts, endq.1, fun d2 ce2 e2 v2 H' fps' fp' Rc rr nc gg nf => endq.2.1 d2 ce2 e2 v2 H' fps' fp' (RelC.kn Rc) (RR.kn rr nc) nc gg nf, endq.2.2⟩
end
end OV
/-! text OVXC -/
namespace OV
open PySem PySem.Spec PyProof.Rows L2
variable [Tabled] [Kn]
/-! A lambda that a name holds, called. -/
section
variable {X : Cx} {q : SX} {κ : K} {n : Nat} {lk : List Nat} {p : Pos}
theorem Cl.fnAt {pins : List (Addr × Obj)} {σ : L2.St} {H : Hp} {s : Shared} {a : Addr} {j : Nat} {cs : List D} (I : Inv X pins σ H s) (h : Cl H (.ref a) (.clo j cs)) : PySem.W.FnAt a s.heap := by
  cases h with
  | mk h1 _ _ _ _ =>
    obtain ⟨⟨pm, ctv, e⟩, _, _⟩ := I.hok _ _ h1
    exact ⟨_, _, _, _, e⟩
theorem se_callV {i : Nat} {x : Str} {cs : Cs} {es : List Expr} {p' : Pos} (c : Cxt X q κ n) (h : nameB q i x = true) (g : Good X κ cs es) (hne : es ≠ []) : SE X (.Call (.Name x p') es [] p) lk (oE κ lk (.callV i cs)) := by
  intro st m fps σ H hx R
  have hcl : ∃ j ks, st.sl[i]? = some (some (.clo j ks)) := by
    rw [oE] at hx
    split at hx
    · rename_i j ks e; exact ⟨j, ks, e⟩
    · exact hx.elim
  obtain ⟨j, ks, hs⟩ := hcl
  have ee : oE κ lk (.callV i cs) st = (argsR (oEs κ lk cs st)).bind fun ds st1 => (κ.la j ks ds lk st1.ce).res st1.sl := by
    rw [oE]; simp only [hs]
  rw [ee] at hx ⊢
  intro pins s I
  refine wpAny_Call_Name_kw (thn (se_name (p := p') c h R hs pins s I) fun u s1 ⟨v, H1, I1, rv, eH, rt⟩ => ?_)
  subst eH
  have hc : Cl H1 v (.clo j ks) := by
    cases rt with
    | fro z => cases z
    | clo z => exact z
  obtain ⟨a, rfl⟩ : ∃ a, v = .ref a := by cases hc with | mk _ _ _ _ _ => exact ⟨_, rfl⟩
  cases rv
  cases g with
  | nil => exact absurd rfl hne
  | @cons c1 cs' e es' g gr =>
    have args := WA.ghost (Q := fun vs H2 => ∃ ds fs st1 fps1, oEs κ lk (.cons c1 cs') st = .ok ds st1 ∧ items arg ds = some fs ∧ Rel st1 m fps1 σ H2 ∧ RTs H2 m vs fs ∧ Grd lk fps fps1 H1 H2) (sa_all (.cons g gr) lk st m fps σ H1 (by
        have := hx.fst; unfold argsR at this; exact this.fst) R) fun vs H2 pins s ⟨ds, st1, h1, fps1, f1, R1, r1, g1, n1⟩ I => by
      obtain ⟨fs, hf⟩ := XO.args hx.fst h1
      obtain ⟨H3, I2, r2, z⟩ := freezeA I r1 hf
      have mm := r1.mem
      exact ⟨H3, I2, ds, fs, st1, fps1, h1, hf, R1.fz z mm, r2, g1.fz z n1 fun b hb => (mm b hb).2⟩
    refine PySem.W.callWith_F (first := []) (hc.fnAt I1) (thn (args p pins s1 I1) fun us s2 ⟨vs, H2, I2, rvs, ds, fs, st1, fps1, h1, hf, R1, rts, g1⟩ => ?_) (star_plain g.ok _ _) (by rw [back_any]; exact star_all gr _)
    have hc2 := hc.mono (g1.imm R)
    refine ⟨hc2.fnAt I2, ?_⟩
    have e1 := argsR_ok h1 hf
    have hx1 := hx.snd e1
    have hno := FR.no_of hx1
    have F := c.ltab inferInstance
    have endq := res_end (X := X) (ρ := κ.la j ks fs lk st1.ce) (r := (argsR (oEs κ lk (.cons c1 cs') st)).bind fun ds st1 => (κ.la j ks ds lk st1.ce).res st1.sl) R R1 g1 hno fun d ce e => by rw [e1, Res.bind_ok, e]; rfl
    exact run_la F c.room c.guards (passes_ex hx1) I2 (knAt_call c.kn c.knx I2) hc2 rvs (.of R1) rts endq
end
end OV
/-! text OVXD -/
namespace OV
open PySem PySem.Spec PyProof.Rows L2
variable [Tabled] [Kn]
/-! Dict comprehensions. -/
/-- the object o is the dict of these entries -/
def DPure (tk : Bool) (o : Obj) (acc : List (D × D)) (H : Hp) : Prop := acc.length ≤ sizeLine ∧ match tk with
  | false => ∃ (kv : List (Key × V)) (ws : List (Key × Value)), acc.map (·.1) = kv.map (fun p => kD p.1) ∧ RFs H (kv.map (·.2)) (acc.map (·.2)) ∧ KV kv ws ∧ ∀ (h : Heap) (L : Addr), h.get? L = some o → h.DictOf (mixKind Tabled.P Tabled.w) L ws
  | true => ∃ (es : Array DictEntry) (ep : Nat) (xs : List (NestedKey × Addr × Value)) (vs : List V), o.ExactDict ∧ o.data = .dict es ep ∧ es.toList = xs.map (entryOfKey (nestedKind Tabled.P Tabled.w)) ∧ (xs.map (·.1)).Nodup ∧ Vals vs (xs.map (·.2.2)) ∧
      RFs H (xs.map fun x => V.ref x.2.1) (acc.map (·.1)) ∧ acc.map (fun p => keyB true p.1) = xs.map (fun x => some x.1) ∧ RFs H vs (acc.map (·.2))
theorem DPure.mono {tk : Bool} {o : Obj} {acc : List (D × D)} {H H' : Hp} (h : DPure tk o acc H) (k : ∀ b o, H b = some o → OV.imm o = true → H' b = some o) : DPure tk o acc H' := by
  refine ⟨h.1, ?_⟩
  have h := h.2
  cases tk with
  | false =>
    obtain ⟨kv, ws, a, b, c, d⟩ := h
    exact ⟨kv, ws, a, b.mono k, c, d⟩
  | true =>
    obtain ⟨es, ep, xs, vs, a, b, c, d, e, f, g, r⟩ := h
    exact ⟨es, ep, xs, vs, a, b, c, d, e, f.mono k, g, r.mono k⟩
theorem DPure.nil (tk : Bool) (H : Hp) : DPure tk { cls := .type "dict", data := .dict #[] } [] H := by
  refine ⟨Nat.zero_le _, ?_⟩
  cases tk with
  | false =>
    refine ⟨[], [], rfl, .nil, .nil, fun h L e => ?_⟩
    obtain ⟨o', es, ep, e1, r⟩ := Heap.DictOf.new (knd := mixKind Tabled.P Tabled.w) h
    rw [Heap.get?_push_size _ rfl] at e1
    cases e1
    exact ⟨_, es, ep, e, r⟩
  | true => exact ⟨_, _, [], [], by refine ⟨rfl, rfl, ?_⟩ <;> first | rfl | trivial, rfl, rfl, by simp, .nil, .nil, rfl, .nil⟩
/-! ### an entry more -/
theorem hasK_at {q : NestedKey} : ∀ {acc : List (D × D)} {xs : List (NestedKey × Addr × Value)}, acc.map (fun p => keyB true p.1) = xs.map (fun x => some x.1) → hasK acc q = (atKey xs q).isSome
  | [], [], _ => rfl
  | [], _ :: _, h => by cases h
  | _ :: _, [], h => by cases h
  | (a, b) :: acc, (k, p) :: xs, h => by
    simp only [List.map_cons, List.cons.injEq] at h
    have ih := hasK_at (q := q) h.2
    unfold hasK at ih ⊢
    rw [List.any_cons, ih, keyB_N h.1]
    by_cases hk : k = q
    · subst hk; simp [atKey]
    · have : ¬ some k = some q := fun z => hk (Option.some.inj z)
      simp [atKey, hk]
theorem repl_T {H : Hp} {q : NestedKey} {d : D} {y : V} {r : Value} (ry : RelV y r) (rd : RF H y d) : ∀ {acc : List (D × D)} {xs : List (NestedKey × Addr × Value)} {vs : List V}, acc.map (fun p => keyB true p.1) = xs.map (fun x => some x.1) → Vals vs (xs.map (·.2.2)) → RFs H vs (acc.map (·.2)) →
    ∃ vs', Vals vs' ((xs.map (putAt q r)).map (·.2.2)) ∧ RFs H vs' ((acc.map fun p => if keyN p.1 = some q then (p.1, d) else p).map (·.2))
  | [], [], _, _, .nil, _ => ⟨[], .nil, .nil⟩
  | [], _ :: _, _, h, _, _ => by cases h
  | _ :: _, [], _, h, _, _ => by cases h
  | (a, b) :: acc, (k, p, u) :: xs, v :: vs, h, .cons v1 v2, .cons r1 r2 => by
    simp only [List.map_cons, List.cons.injEq] at h
    obtain ⟨vs', h1, h2⟩ := repl_T (q := q) ry rd h.2 v2 r2
    have hk := keyB_N h.1
    by_cases e : k = q
    · subst e
      refine ⟨y :: vs', ?_, ?_⟩
      · simp only [List.map_cons, putAt, if_pos rfl]; exact .cons ry h1
      · simp only [List.map_cons, hk, if_pos rfl]; exact .cons rd h2
    · refine ⟨v :: vs', ?_, ?_⟩
      · simp only [List.map_cons, putAt, if_neg e]; exact .cons v1 h1
      · simp only [List.map_cons, hk]; rw [if_neg (fun z => e (Option.some.inj z))]; exact .cons r1 h2
theorem map_key {q : NestedKey} {d : D} (acc : List (D × D)) : (acc.map fun p => if keyN p.1 = some q then (p.1, d) else p).map (·.1) = acc.map (·.1) := by
  rw [List.map_map]
  refine List.map_congr_left fun p _ => ?_
  simp only [Function.comp]
  split <;> rfl
theorem hasK_A {q : Key} : ∀ {acc : List (D × D)} {kv : List (Key × V)}, acc.map (·.1) = kv.map (fun p => kD p.1) → hasK acc (kN q) = kv.any fun p => decide (p.1 = q)
  | [], [], _ => rfl
  | [], _ :: _, h => by cases h
  | _ :: _, [], h => by cases h
  | (a, b) :: acc, (k, v) :: kv, h => by
    simp only [List.map_cons, List.cons.injEq] at h
    have ih := hasK_A (q := q) h.2
    unfold hasK at ih ⊢
    rw [List.any_cons, List.any_cons, ih, h.1, keyN_kD]
    congr 1
    by_cases hk : k = q
    · simp [hk]
    · have : ¬ some (kN k) = some (kN q) := fun z => hk (kN_inj (Option.some.inj z))
      simp [hk, this]
theorem repl_A {H : Hp} {q : Key} {d : D} {y : V} (rd : RF H y d) : ∀ {acc : List (D × D)} {kv : List (Key × V)}, acc.map (·.1) = kv.map (fun p => kD p.1) → RFs H (kv.map (·.2)) (acc.map (·.2)) →
    (acc.map fun p => if keyN p.1 = some (kN q) then (p.1, d) else p).map (·.1) = (kv.map fun p => if p.1 = q then (p.1, y) else p).map (fun p => kD p.1) ∧ RFs H ((kv.map fun p => if p.1 = q then (p.1, y) else p).map (·.2)) ((acc.map fun p => if keyN p.1 = some (kN q) then (p.1, d) else p).map (·.2))
  | [], [], _, _ => ⟨rfl, .nil⟩
  | [], _ :: _, h, _ => by cases h
  | _ :: _, [], h, _ => by cases h
  | (a, b) :: acc, (k, v) :: kv, h, .cons r1 r2 => by
    simp only [List.map_cons, List.cons.injEq] at h
    obtain ⟨h1, h2⟩ := repl_A (q := q) (d := d) rd h.2 r2
    obtain ⟨ha, hr⟩ := h
    subst ha
    by_cases e : k = q
    · subst e
      simp only [List.map_cons, keyN_kD, if_true]
      exact ⟨by rw [h1], .cons rd h2⟩
    · have : ¬ some (kN k) = some (kN q) := fun z => e (kN_inj (Option.some.inj z))
      simp only [List.map_cons, keyN_kD, if_neg e, if_neg this]
      exact ⟨by rw [h1], .cons r1 h2⟩
section
variable {X : Cx}
/-- the entry k: v put in -/
theorem put_ok {pins : List (Addr × Obj)} {σ : L2.St} {H : Hp} {s : Shared} {tk : Bool} {L : Addr} {o : Obj} {acc acc' : List (D × D)} {k v : D} {x y : V} {u r : Value} {Q : Unit → Shared → Prop} {E : Value → Shared → Prop} (hP : X.prog = Tabled.P) (hw : X.w = Tabled.w) (hu : X.A.units + 65 < cLine) (I : Inv X pins σ H s) (hL : FpOk X pins H L)
    (ho : s.heap.get? L = some o) (d : DPure tk o acc H) (rk : RF H x k) (rv : RF H y v) (ru : RelV x u) (rr : RelV y r) (hp : putD tk acc k v = some acc') (h : ∀ s' o', Inv X pins σ H s' → s'.heap.get? L = some o' → (∀ b ob, b ≠ L → s.heap.get? b = some ob → s'.heap.get? b = some ob) → DPure tk o' acc' H → Q () s') :
    wpAny (model X.prog X.w) X.A (dictSet L u r) Q E s := by
  obtain ⟨f0, f1, f2, f3, f4, f5⟩ := hL
  obtain ⟨hsz, d⟩ := d
  unfold putD at hp
  cases hq : keyB tk k with
  | none => simp only [hq] at hp; cases hp
  | some q =>
    simp only [hq] at hp
    cases tk with
    | false =>
      obtain ⟨kv, ws, d1, d2, d3, d4⟩ := d
      obtain ⟨kk, rfl, rfl, rfl⟩ : ∃ kk : Key, k = kD kk ∧ x = kV kk ∧ q = kN kk := by
        cases rk with
        | int i => cases hq; exact ⟨.inl i, rfl, rfl, rfl⟩
        | str i => cases hq; exact ⟨.inr i, rfl, rfl, rfl⟩
        | _ => cases hq
      have hwl : ws.length ≤ sizeLine := by
        have e1 := congrArg List.length d1
        rw [List.length_map, List.length_map] at e1
        rw [← d3.length, ← e1]; exact hsz
      have dd := d4 s.heap L ho
      rw [← hP, ← hw] at dd
      refine wpAny_dictSet_pairs (hsz := hwl) (kV_is ru) dd fun h' dd' hs => ?_
      obtain ⟨o', es', ep', e1, e2, e3, e4, e5, e6⟩ := id dd'
      refine h _ o' (I.turned (t' := s.toks + _) (fun b ob hb e => (hs.2 b hb).trans e) f0 f1 f3 f4 f5) e1 (fun b ob hb e => (hs.2 b hb).trans e) ?_
      have d3' := d3.put kk rr
      have nx : ∀ (h : Heap) (L' : Addr), h.get? L' = some o' → h.DictOf (mixKind Tabled.P Tabled.w) L' (stored ws kk r) := fun h L' e => by
        rw [← hP, ← hw]; exact ⟨o', es', ep', e, e2, e3, e4, e5, e6⟩
      have key : acc'.length ≤ sizeLine ∧ acc'.map (·.1) = (putK kv kk y).map (fun p => kD p.1) ∧ RFs H ((putK kv kk y).map (·.2)) (acc'.map (·.2)) := by
        unfold putK
        rw [← hasK_A d1]
        by_cases hh : hasK acc (kN kk) = true
        · rw [if_pos hh] at hp
          cases hp
          rw [if_pos hh]
          exact ⟨by rw [List.length_map]; exact hsz, repl_A rv d1 d2⟩
        · rw [if_neg hh] at hp
          rw [if_neg hh]
          split at hp
          · rename_i hl
            cases hp
            refine ⟨by rw [List.length_append]; exact hl, by simp [d1], ?_⟩
            rw [List.map_append, List.map_append]
            exact d2.append (.cons rv .nil)
          · cases hp
      exact ⟨key.1, putK kv kk y, stored ws kk r, key.2.1, key.2.2, d3', nx⟩
    | true =>
      obtain ⟨es, ep, xs, vs, d1, d2, d3, d4, d5, d6, d7, d8⟩ := d
      obtain ⟨_, ds, rfl⟩ := keyB_depth hq
      obtain ⟨b, rfl⟩ : ∃ b, x = .ref b := by cases rk with | tup _ _ => exact ⟨_, rfl⟩
      cases ru
      have hok := I.hok
      rw [hP, hw] at hok
      have dd : s.heap.DictOfH (nestedKind X.prog X.w) L xs := by
        rw [hP, hw]
        refine ⟨o, es, ep, ho, d1, d2, d3, fun x hx => ?_, d4⟩
        obtain ⟨i, hi⟩ := List.getElem?_of_mem hx
        have hm : (acc.map fun p => keyB true p.1)[i]? = some (some x.1) := by rw [d7, List.getElem?_map, hi]; rfl
        rw [List.getElem?_map] at hm
        cases hkv : acc[i]? with
        | none => rw [hkv] at hm; cases hm
        | some kv =>
          rw [hkv] at hm
          obtain ⟨v1, h1', h2'⟩ := d6.get (i := i) (d := kv.1) (by rw [List.getElem?_map, hkv]; rfl)
          rw [List.getElem?_map, hi] at h1'
          cases h1'
          exact key_is hok h2' (Option.some.inj hm)
      have hxl : xs.length ≤ sizeLine := by
        have e1 := congrArg List.length d7
        rw [List.length_map, List.length_map] at e1
        rw [← e1]; exact hsz
      refine wpAny_dictSet_heap (hsz := hxl) (show X.A.units + 8 < cLine by omega) (by rw [hP, hw]; exact key_is hok rk hq) dd fun h' dd' hs => ?_
      obtain ⟨o', es', ep', e1, e2, e3, e4, e5, e6⟩ := id dd'
      refine h _ o' (I.turned (t' := s.toks + _) (fun b ob hb e => (hs.2 b hb).trans e) f0 f1 f3 f4 f5) e1 (fun b ob hb e => (hs.2 b hb).trans e) ?_
      rw [hP, hw] at e4
      by_cases hh : hasK acc q = true
      · rw [if_pos hh] at hp
        cases hp
        obtain ⟨p0, hp0⟩ := Option.isSome_iff_exists.mp ((hasK_at d7).symm.trans hh)
        rw [storedH_old hp0] at e4 e6
        obtain ⟨vs', w1, w2⟩ := repl_T (q := q) rr rv d7 d5 d8
        refine ⟨by rw [List.length_map]; exact hsz, es', ep', xs.map (putAt q r), vs', e2, e3, e4, e6, w1, ?_, ?_, w2⟩
        · rw [map_key]
          have : (xs.map (putAt q r)).map (fun x => V.ref x.2.1) = xs.map (fun x => V.ref x.2.1) := by
            rw [List.map_map]; refine List.map_congr_left fun z _ => ?_; simp only [Function.comp, putAt]; split <;> rfl
          rw [this]; exact d6
        · have t1 : (xs.map (putAt q r)).map (fun x => some x.1) = xs.map (fun x => some x.1) := by
            rw [List.map_map]; refine List.map_congr_left fun z _ => ?_; simp only [Function.comp, putAt]; split <;> rfl
          rw [t1, ← d7, List.map_map]
          refine List.map_congr_left fun z _ => ?_; simp only [Function.comp]; split <;> rfl
      · rw [if_neg hh] at hp
        have hn : atKey xs q = none := by
          cases e : atKey xs q with
          | none => rfl
          | some z => exact absurd ((hasK_at d7).trans (by rw [e]; rfl)) hh
        rw [storedH_new hn] at e4 e6
        split at hp
        · rename_i hl
          cases hp
          refine ⟨by rw [List.length_append]; exact hl, es', ep', xs ++ [(q, b, r)], vs ++ [y], e2, e3, e4, e6, by rw [List.map_append]; exact d5.append (.cons rr .nil), ?_, by simp [d7, hq], ?_⟩
          · rw [List.map_append, List.map_append]; exact d6.append (.cons rk .nil)
          · rw [List.map_append]; exact d8.append (.cons rv .nil)
        · cases hp
end
end OV
/-! text OVXE -/
namespace OV
open PySem PySem.Spec PyProof.Rows L2
variable [Tabled] [Kn]
/-! Dict comprehensions: the turns. -/
section
variable {Y : Cx} {q : SX} {κ : K} {n : Nat} {pos : Pos} {scope : Scope} {L : Addr}
/-- a turn of the machine's walk -/
noncomputable def turnD (κ : K) (tk : Bool) (lk : List Nat) (t : T) (ifs : Cs) (ka va : C) (slW : List (Option D)) : D → List (D × D) → S → Res (List (D × D)) := fun d acc s => (oTg κ lk t d ⟨slW, s.ce⟩).bind fun _ s1 => (oAnd κ lk ifs s1).bind fun b s2 => match b with
  | true => (oE κ lk ka s2).bind fun x s3 => match itm x with
    | some x => (oE κ lk va s3).bind fun y s4 => match itm y with
      | some y => Res.of (putD tk acc x y) s4
      | none => .no
    | none => .no
  | false => .ok acc s2
/-- an expression whose value is frozen -/
theorem we_frz {c : C} {e : Expr} {lk : List Nat} (g : GoodE Y κ c e) {st : S} {m : List Addr} {fps : List (List Addr)} {σ : L2.St} {H : Hp} (hx : XO Y (oE κ lk c st)) (R : Rel st m fps σ H) (hi : ∀ d st1, oE κ lk c st = .ok d st1 → ∃ x, itm d = some x) :
    WE Y e σ H (fun v H1 => ∃ d st1 x fps1, oE κ lk c st = .ok d st1 ∧ itm d = some x ∧ Rel st1 m fps1 σ H1 ∧ RF H1 v x ∧ Grd lk fps fps1 H H1) := by
  refine WE.ghost (g.se lk st m fps σ H hx R) fun v H1 pins s ⟨d, st1, h1, fps1, f1, R1, r1, g1, n1⟩ I => ?_
  obtain ⟨x, hf⟩ := hi d st1 h1
  obtain ⟨H2, I2, r2, z⟩ := freezeR I (RRs.cons r1 .nil (by simp)) (es := [x]) (by simp only [items, hf])
  rw [List.append_nil] at z
  have mm := r1.mem
  refine ⟨H2, I2, d, st1, x, fps1, h1, hf, R1.fz z mm, ?_, g1.fz z n1 fun b hb => (mm b hb).2⟩
  cases r2 with | cons h _ => exact h
theorem dloop_ok (hE : ∀ u s, Y.xe u s → False) (hc : Y.calm = true) (hP : Y.prog = Tabled.P) (hw : Y.w = Tabled.w) (hu : Y.A.units + 65 < cLine) {tk : Bool} {kx vx t' it' : Expr} {ifs' : List Expr} {t : T} {ifs : Cs} {ka va : C} (cl : ClOK Y κ t t' ifs ifs') (gk : GoodE Y κ ka kx) (gv : GoodE Y κ va vx)
    {J : It} {fp : List Addr} {it : Addr} {tn : Nat → Heap → Prop} (T : Turn Y.prog Y.w Y.K t' J fp it tn) {ds : List D} {l lk : List Nat} {fpsS : List (List Addr)} {HS : Hp} (src : Src J l ds [] fpsS HS) {m : List Addr} {slW : List (Option D)} {σW : L2.St}
    (hW : ∀ (j : Nat) v, (σW : List (Option V))[j]? = some (some v) → j ∉ t.slots) {s : Shared} {s0 : S} {stS : S} {σS : L2.St} (RS : Rel stS m fpsS σS HS) (I0 : Inv Y [] σW HS s) (R0 : Rel ⟨slW, s0.ce⟩ m fpsS σW HS) (hLf : L ∉ fp) (fL : FpOk Y [] HS L) {o0 : Obj} (ho0 : s.heap.get? L = some o0) (D0 : DPure tk o0 [] HS)
    (t0 : tn 0 s.heap) (f0 : ∀ b ∈ fp, FpOk Y [] HS b) (hx0 : XO Y (fol (turnD κ tk (l ++ lk) t ifs ka va slW) ds [] s0)) {R : Result → Shared → Prop}
    (fin : ∀ s' acc' sF H' fps' o', fol (turnD κ tk (l ++ lk) t ifs ka va slW) ds [] s0 = .ok acc' sF → Inv Y [] σW H' s' → RelC sF.ce m fps' H' → Grd (l ++ lk) fpsS fps' HS H' → s'.heap.get? L = some o' → H' L = none → DPure tk o' acc' H' → R (.ok .next) s') :
    codeAny (model Y.prog Y.w) Y.A (.compLoop (.DictComp kx vx [⟨t', it', ifs', 0⟩] scope pos) 0 (.ref it) (.ref L) Y.env) R s := by
  have stat : ∀ {H' : Hp}, (∀ b ∈ fp, H' b = none) → ∀ b ∈ fp, FpOk Y [] H' b := fun hn b hb => ⟨hn b hb, (f0 b hb).2⟩
  have statL : ∀ {H' : Hp}, H' L = none → FpOk Y [] H' L := fun hn => ⟨hn, fL.2⟩
  -- beside the dict that grows
  have beside : ∀ {H' : Hp} {h : Heap}, (∀ b ∈ fp, H' b = none) → ∀ b ∈ fp, FpOk Y ([] ++ pinsAt [L] h) H' b := fun {H' h} hn b hb => by
    obtain ⟨a1, a2, a3, a4, a5⟩ := (f0 b hb).2
    refine ⟨hn b hb, a1, a2, a3, a4, fun p hp => ?_⟩
    rcases List.mem_append.mp hp with z | z
    · exact a5 p (List.mem_append_left _ z)
    · rcases List.mem_append.mp z with z | z
      · cases z
      · have := (of_pinsAt z).1
        rw [List.mem_singleton] at this
        rw [this]; rintro rfl; exact hLf hb
  have dictO : ∀ {o : Obj} {acc : List (D × D)} {H : Hp} {h : Heap}, h.get? L = some o → DPure tk o acc H → ∀ v, o.data ≠ .cell v := fun {o acc H h} ho d v z => by
    have d := d.2
    cases tk with
    | false =>
      obtain ⟨kv, ws, _, _, _, d4⟩ := d
      obtain ⟨o', es, ep, e1, _, e3, _⟩ := d4 h L ho
      rw [ho] at e1
      cases e1; rw [z] at e3; cases e3
    | true => obtain ⟨es, ep, _, _, _, e3, _⟩ := d; rw [z] at e3; cases e3
  refine compLoop_anyD (fun n s' => ∃ (j : Nat) (Hj : Hp) (fpsj : List (List Addr)) (accj : List (D × D)) (sj : S) (oj : Obj), n = ds.length - j ∧ j ≤ ds.length ∧ fol (turnD κ tk (l ++ lk) t ifs ka va slW) ds [] s0 = fol (turnD κ tk (l ++ lk) t ifs ka va slW) (ds.drop j) accj sj ∧
      Inv Y [] σW Hj s' ∧ tn j s'.heap ∧ (∀ b ∈ fp, Hj b = none) ∧ Hj L = none ∧ s'.heap.get? L = some oj ∧ DPure tk oj accj Hj ∧ Rel ⟨slW, sj.ce⟩ m fpsj σW Hj ∧ Grd (l ++ lk) fpsS fpsj HS Hj) ?_ ds.length ⟨0, HS, fpsS, [], s0, o0, rfl, Nat.zero_le _, rfl, I0, t0, fun b hb => (f0 b hb).1, fL.1, ho0, D0, R0, Grd.refl⟩
  rintro n s5 ⟨j, Hj, fpsj, accj, sj, oj, rfl, hj, ef, I5, t5, n5, nL5, oL5, D5, R5, g5⟩
  have so := src fpsj Hj ((g5.gx (x := [])).less fun _ h => List.mem_append_left _ h) j
  have I5p := I5.pinned (fp := [L]) (fun b hb => by rw [List.mem_singleton.mp hb]; exact statL nL5) (fun b hb => by rw [List.mem_singleton.mp hb]; exact ⟨oj, oL5, dictO oL5 D5⟩)
  have pinL : ∀ {pl : List (Addr × Obj)} {σ' : L2.St} {H' : Hp} {s' : Shared}, Inv Y (([] ++ pinsAt [L] s5.heap) ++ pl) σ' H' s' → s'.heap.get? L = some oj ∧ H' L = none := fun {pl σ' H' s'} I' =>
    let z := I'.pin (L, oj) (List.mem_append_right _ (List.mem_append_left _ (List.mem_append_right _ (mem_pinsAt (List.mem_singleton.mpr rfl) oL5))))
    ⟨z.1, z.2.1⟩
  by_cases hlt : j < ds.length
  · have hd : ds[j]? = some ds[j] := List.getElem?_eq_getElem hlt
    obtain ⟨go, hy⟩ := so.1 _ hd
    have hdrop : ds.drop j = ds[j] :: ds.drop (j + 1) := List.drop_eq_getElem_cons hlt
    generalize ds[j] = d at hd go hy hdrop
    rw [hdrop] at ef
    rw [ef] at hx0
    simp only [fol] at hx0 ef
    have hxF := hx0.fst
    have ti := T.item Y rfl rfl rfl hc j _ s5 _ Hj (fun _ _ => False) I5p (beside n5) t5 go
    refine thnF ti fun r s6 ⟨u, hr, h6⟩ => ?_
    subst hr
    refine thnF h6 fun _ s7 ⟨x, H7, I7, r7, y7, t7, n7⟩ => ?_
    obtain ⟨ext, rx⟩ := hy x H7 y7
    have R7 : Rel ⟨slW, sj.ce⟩ m fpsj σW H7 := R5.mono fun b o e _ => ext b o e
    have g7 : Grd (l ++ lk) fpsj fpsj Hj H7 := Grd.ext ext
    have I7' := I7.pinned (beside n7) (T.obj _ _ t7)
    have hxT : XO Y (oTg κ (l ++ lk) t d ⟨slW, sj.ce⟩) := hxF.fst
    refine thnY hE (cl.sg (l ++ lk) ⟨slW, sj.ce⟩ m fpsj σW H7 x d [] hxT R7 (.tree (.fro rx) (by simp)) _ s7 u I7' r7) fun _ s8 ⟨σ8, H8, I8, st1, e8, me, fps8, R8, t8, l8, o8⟩ => ?_
    have hme : me = [] := me_nil R7 R8 (by rw [dead_ce cl.dead e8])
    subst hme
    rw [List.append_nil] at R8
    have g8 := t8.grd
    have hx8 := hxF.snd e8
    refine thnY hE (tests_ok cl.gi cl.hl hx8.fst R8 I8) fun b s9 ⟨H9, I9, st2, fps9, e9, R9, g9⟩ => ?_
    have hx9 := hx8.snd e9
    have len : ∀ {st st' : S} {fps fps' : List (List Addr)} {σ σ' : L2.St} {H H' : Hp}, Rel st m fps σ H → Rel st' m fps' σ' H' → fps.length ≤ fps'.length := fun R R' => R.len_le R'
    have g79 : Grd (l ++ lk) fpsj fps9 Hj H9 := (g7.trans g8 R7 (fun _ h => h) (Nat.le_refl _)).trans g9 R8 (fun _ h => h) (len R7 R8)
    have gS9 : Grd (l ++ lk) fpsS fps9 HS H9 := g5.trans g79 R5 (fun _ h => h) (len RS R5)
    have D9 := D5.mono (g79.imm R5)
    -- the turn's end
    have endT : ∀ {H' : Hp} {s' : Shared} {acc' : List (D × D)} {st' : S} {fps' : List (List Addr)} {o' : Obj}, Inv Y [] σ8 H' s' → tn (j + 1) s'.heap → (∀ b ∈ fp, H' b = none) → s'.heap.get? L = some o' → H' L = none → DPure tk o' acc' H' → turnD κ tk (l ++ lk) t ifs ka va slW d accj sj = .ok acc' st' → RelC st'.ce m fps' H' → Grd (l ++ lk) fpsS fps' HS H' →
        ∃ m_1, m_1 < ds.length - j ∧ ∃ (j : Nat) (Hj : Hp) (fpsj : List (List Addr)) (accj : List (D × D)) (sj : S) (oj : Obj), m_1 = ds.length - j ∧ j ≤ ds.length ∧ fol (turnD κ tk (l ++ lk) t ifs ka va slW) ds [] s0 = fol (turnD κ tk (l ++ lk) t ifs ka va slW) (ds.drop j) accj sj ∧
      Inv Y [] σW Hj s' ∧ tn j s'.heap ∧ (∀ b ∈ fp, Hj b = none) ∧ Hj L = none ∧ s'.heap.get? L = some oj ∧ DPure tk oj accj Hj ∧ Rel ⟨slW, sj.ce⟩ m fpsj σW Hj ∧ Grd (l ++ lk) fpsS fpsj HS Hj := fun {H' s' acc' st' fps' o'} I' tn' nf' oL' nL' D' eF Rc gS => by
      refine ⟨ds.length - (j + 1), by omega, j + 1, H', fps', acc', st', o', rfl, hlt, ?_, I'.weak (by rw [l8]) (fun i v e => by rw [o8 i fun z => hW i v e z]; exact e), tn', nf', nL', oL', D', ?_, gS⟩
      · rw [ef, eF, Res.bind_ok]
      · exact RelC.toRel R0 (gS.imm RS) Rc
    have keepT : ∀ {σ' : L2.St} {H' : Hp} {s' : Shared}, Inv Y ((([] ++ pinsAt [L] s5.heap)) ++ pinsAt fp s7.heap) σ' H' s' → tn (j + 1) s'.heap ∧ ∀ b ∈ fp, H' b = none := fun {σ' H' s'} I' => by
      have pin' : ∀ b ∈ fp, ∀ o, s7.heap.get? b = some o → s'.heap.get? b = some o ∧ H' b = none := fun b hb o e =>
        let z := I'.pin (b, o) (List.mem_append_right _ (List.mem_append_right _ (mem_pinsAt hb e)))
        ⟨z.1, z.2.1⟩
      refine ⟨T.keep _ _ _ t7 fun b hb o e => (pin' b hb o e).1, fun b hb => ?_⟩
      obtain ⟨o, e, _⟩ := T.obj _ _ t7 b hb
      exact (pin' b hb o e).2
    cases b with
    | false =>
      rw [if_neg Bool.false_ne_true]
      obtain ⟨k1, k2⟩ := keepT I9
      obtain ⟨k3, k4⟩ := pinL I9
      exact endT I9.unpinned.unpinned k1 k2 k3 k4 D9 (by unfold turnD; rw [e8, Res.bind_ok, e9, Res.bind_ok]) (RelC.of R9) gS9
    | true =>
      rw [if_pos rfl]
      dsimp only at hx9
      have hkey : ∀ d1 st1, oE κ (l ++ lk) ka st2 = .ok d1 st1 → ∃ x, itm d1 = some x := fun d1 st1 h1 => by
        have hx1 := hx9.snd h1
        cases hi : itm d1 with
        | none => simp only [hi] at hx1; exact hx1.elim
        | some x => exact ⟨x, rfl⟩
      refine thnY hE (we_frz gk hx9.fst R9 hkey _ s9 I9) fun u10 s10 ⟨xk, H10, I10, r10, dk, st3, x1, fps10, e10, i10, R10, rk, g10⟩ => ?_
      have hx10 := hx9.snd e10
      simp only [i10] at hx10
      have hval : ∀ d1 st1, oE κ (l ++ lk) va st3 = .ok d1 st1 → ∃ x, itm d1 = some x := fun d1 st1 h1 => by
        have hx1 := hx10.snd h1
        cases hi : itm d1 with
        | none => simp only [hi] at hx1; exact hx1.elim
        | some x => exact ⟨x, rfl⟩
      refine thnY hE (we_frz gv hx10.fst R10 hval _ s10 I10) fun u11 s11 ⟨yv, H11, I11, r11, dv, st4, y1, fps11, e11, i11, R11, rv, g11⟩ => ?_
      have hx11 := hx10.snd e11
      simp only [i11] at hx11
      obtain ⟨acc', hp⟩ := hx11.of
      have g911 : Grd (l ++ lk) fps9 fps11 H9 H11 := g10.trans g11 R10 (fun _ h => h) (len R9 R10)
      obtain ⟨k1, k2⟩ := keepT I11
      obtain ⟨k3, k4⟩ := pinL I11
      refine put_ok hP hw hu I11.unpinned.unpinned (statL k4) k3 (D9.mono (g911.imm R9)) (rk.mono (g11.imm R10)) rv r10 r11 hp fun s12 o' I12 oL' kb D12 => ?_
      refine endT I12 (T.keep _ _ _ k1 fun b hb o e => kb b o (by rintro rfl; exact hLf hb) e) k2 oL' k4 D12 ?_ (RelC.of R11) (gS9.trans g911 R9 (fun _ h => h) (len RS R9))
      unfold turnD
      rw [e8, Res.bind_ok, e9, Res.bind_ok]
      dsimp only
      rw [e10, Res.bind_ok]
      simp only [i10]
      rw [e11, Res.bind_ok]
      simp only [i11]
      rw [hp]; rfl
  · have hjl : j = ds.length := by omega
    have td := T.done Y rfl rfl rfl hc j _ s5 _ Hj (fun _ _ => False) I5p (beside n5) t5 (so.2 hjl)
    refine thnF td fun r s6 ⟨hr, I6⟩ => ?_
    subst hr
    have hdrop : ds.drop j = [] := List.drop_eq_nil_of_le (by omega)
    rw [hdrop] at ef
    obtain ⟨k3, k4⟩ := pinL (pl := []) (by rw [List.append_nil]; exact I6)
    exact fin s6 accj sj Hj fpsj oj ef I6.unpinned (RelC.of (st := ⟨slW, sj.ce⟩) R5) g5 k3 k4 D5
end
end OV
/-! text OVXF -/
namespace OV
open PySem PySem.Spec PyProof.Rows L2
variable [Tabled] [Kn]
/-! Dict comprehensions, whole. -/
section
variable {X : Cx} {q : SX} {κ : K} {n : Nat} {lk : List Nat} {p : Pos}
/-- a record of ours is known from now on -/
theorem track {pins : List (Addr × Obj)} {σ : L2.St} {H : Hp} {s : Shared} {L : Addr} {u : HO} (I : Inv X pins σ H s) (f : FpOk X pins H L) (new : ObjOk X.prog X.w (upd H L u) s.heap L u) : Inv X pins σ (upd H L u) s := by
  obtain ⟨f0, f1, f2, f3, f4, f5⟩ := f
  have nL : ∀ {b : Addr} {o : HO}, H b = some o → b ≠ L := fun e => ne_of_none e f0
  refine I.step (h' := s.heap) (g' := s.gens) (t' := s.toks) (d' := s.drawn) (ch := [L]) (fun b hb => ?_) (fun b o _ _ _ e _ => e) (fun b o _ _ _ e _ => ⟨o.slots, e⟩) (fun b o hb _ e => by rw [upd_ne (by simpa using hb)]; exact e) (fun b o _ e => ⟨o, e⟩)
    (fun b xs e => by rw [upd_ne (nL e)]; exact e) (fun b o xs e => by rw [upd_ne (nL e)]; exact e) (fun b ps e => ⟨#[], by rw [upd_ne (nL e), e]; simp⟩) (fun m hm => hm) (fun b o e => ?_) I.bare
  · rw [List.mem_singleton.mp hb]; exact ⟨f3, f1, f4, f5⟩
  · by_cases hb : b = L
    · subst hb; rw [upd_same] at e; cases e; exact new
    · rw [upd_ne hb] at e
      exact (I.hok b o e).stay (fun _ _ _ h => h) (fun c h => by rw [upd_ne (nL h)]; exact h) fun c xs h => by rw [upd_ne (nL h)]; exact h
/-- the dict stands -/
theorem dict_known {pins : List (Addr × Obj)} {σ : L2.St} {H : Hp} {s : Shared} {tk : Bool} {L : Addr} {o : Obj} {acc : List (D × D)} (hP : X.prog = Tabled.P) (hw : X.w = Tabled.w) (I : Inv X pins σ H s) (f : FpOk X pins H L) (hs : (L == sysModules) = false) (ho : s.heap.get? L = some o) (d : DPure tk o acc H) :
    ∃ u, Inv X pins σ (upd H L u) s ∧ RF (upd H L u) (.ref L) (.dic acc) := by
  obtain ⟨hl, d⟩ := d
  have im : ∀ {u : HO}, ∀ b o, H b = some o → OV.imm o = true → upd H L u b = some o := fun {u} b o e _ => imm_upd f.1 b o e
  cases tk with
  | false =>
    obtain ⟨kv, ws, d1, d2, d3, d4⟩ := d
    refine ⟨.frz o (.dK kv), track I f ⟨ho, ?_, hs, ws, d3, by rw [hP, hw]; exact d4 _ _ ho⟩, .dicA upd_same d1 (d2.mono im)⟩
    have e1 := congrArg List.length d1
    rw [List.length_map, List.length_map] at e1
    rw [← e1]; exact hl
  | true =>
    obtain ⟨es, ep, xs, vs, d1, d2, d3, d4, d5, d6, d7, d8⟩ := d
    exact ⟨ExO L o, track I f ⟨ho, ⟨o, ho⟩, fun h1 h2 a b => b _ a⟩, .dicT upd_same d1 d2 d3 d4 d5 (d6.mono im) d7 (d8.mono im)⟩
/-- all that a dict comprehension's parts must bear -/
structure DCompOK (X : Cx) (q : SX) (κ : K) (n : Nat) (t : T) (itm : I) (ifs : Cs) (ka va : C) (kx vx t' it' : Expr) (ifs' : List Expr) (scope : Scope) : Prop where
  si : ∀ lk, SI X t' it' lk (oI κ lk itm)
  fold : ∀ (env : Env) x, foldedSetIterable it' env x = pure x
  blk : ∀ Y : Cx, Cxt Y (q.blk scope) κ n → ClOK Y κ t t' ifs ifs' ∧ GoodE Y κ ka kx ∧ GoodE Y κ va vx
theorem dcomp_core {pins : List (Addr × Obj)} {s : Shared} {σ : L2.St} {H : Hp} {tk : Bool} {kx vx t' it' : Expr} {ifs' : List Expr} {scope : Scope} {own : List (Str × Nat)} {pos pos' : Pos} {t : T} {itm : I} {ifs : Cs} {ka va : C} {st : S} {m : List Addr} {fps : List (List Addr)} {use : Option (Value → Sem Unit)} {Qf : Value → Shared → Prop}
    (cx : Cxt X q κ n) (ok : BlkOk X.N X.env.scope scope own) (cp : DCompOK X q κ n t itm ifs ka va kx vx t' it' ifs' scope) (hsl : ∀ i ∈ t.slots, i ∈ own.map (·.2)) (I : Inv X pins σ H s) (R : Rel st m fps σ H) (hx : XO X (oE κ lk (.dcomp tk (own.map (·.2)) t itm ifs ka va) st))
    (hRR : ∀ D C s' mm H', Inv X pins σ H' s' → WiE lk (oE κ lk (.dcomp tk (own.map (·.2)) t itm ifs ka va) st) m fps σ H (.ref D) H' → s'.heap.Ns C mm → FpOk X pins H' C → compPost (model X.prog X.w) X.A X.xe use Qf (.ref D) C (.ok .next) s') :
    wpAny (model X.prog X.w) X.A (comprehension (.DictComp kx vx [⟨t', it', ifs', 0⟩] scope pos) scope X.env pos' newDict false (eval it' X.env) use) Qf X.xe s := by
  have hfree : ∀ y ∈ scope.names, y.2 = .free → ∃ c, X.env.cells.lookup y.1 = some c := fun y hy e => by
    rcases ok.free y hy e with k | k
    · exact I.ok.has _ (.inl k)
    · exact I.ok.has _ (.inr k)
  rw [oE] at hx hRR
  have hN : X.N.Nodup := by rw [cx.N]; exact cx.nd
  refine wpAny_comprehension_free (use := use) rfl (cp.fold _) (closure_ok hfree) ok.kind (fun y hy e => by rw [ok.uniq y hy, e])
    (thn (cp.si lk st m fps σ H hx.fst R [] Out.nil pins s I) fun xv s1 hx' => thn hx' fun itv s2 h2 => ?_)
  obtain ⟨it, fp, tn, J, H2, e, I2, T, st2, f2, ds, l, st1, fps1, e1, R1, g1, src⟩ := h2
  subst e
  have hx1 := hx.snd e1
  refine wpAny_newObj_type (newEnv_comp ?_)
  generalize hD : s2.heap.objs.size = L
  have hDn : H2 L = none := I2.hok.fresh (Nat.le_of_eq hD)
  generalize hs3 : ({ s2 with heap := s2.heap.push { cls := .type "dict", data := .dict #[] } } : Shared) = s3
  have h3 : s3.heap = s2.heap.push { cls := .type "dict", data := .dict #[] } := by rw [← hs3]
  have I3 : Inv X pins σ H2 s3 := by rw [← hs3]; exact I2.kept (t' := s2.toks) fun b o e => Heap.get?_push_of_some _ e
  have oL3 : s3.heap.get? L = some { cls := .type "dict", data := .dict #[] } := by rw [h3, ← hD]; exact Heap.get?_push_size _ rfl
  have fLX : FpOk X pins H2 L := I2.fpOk (Nat.le_of_eq hD) hDn
  have lt3 : L < s3.heap.objs.size := Heap.lt_size oL3
  have sz : ∀ b ∈ fp, b < s2.heap.objs.size := fun b hb => by
    obtain ⟨o, e, _⟩ := T.obj _ _ st2 b hb
    exact Heap.lt_size e
  have hLf : L ∉ fp := fun hb => by have := sz L hb; rw [hD] at this; exact Nat.lt_irrefl _ this
  have f3 : ∀ b ∈ L :: fp, FpOk X pins H2 b ∧ b < s3.heap.objs.size := fun b hb => by
    rcases List.mem_cons.mp hb with e | hb
    · rw [e]; exact ⟨fLX, lt3⟩
    · exact ⟨f2 b hb, by rw [h3, Heap.size_push]; exact Nat.lt_succ_of_lt (sz b hb)⟩
  have st3 : tn 0 s3.heap := T.keep _ _ _ st2 fun b _ o e => by rw [h3]; exact Heap.get?_push_of_some _ e
  have I4 := block_start I3 ok hN f3
  have cY := cx.blk (s := s3) (H := H2) (scope := scope) (cl := cellsFrom (s3.heap.objs.size + 1) scope.names (cloFrom X.env.cells scope.names [])) (C := s3.heap.objs.size) (fp := L :: fp) I3 fun b hb => (f3 b hb).1
  show codeAny _ _ (.compStart (.DictComp kx vx [⟨t', it', ifs', 0⟩] scope pos) 0 (.ref it) (.ref L) (compEnvC scope (cellsFrom (s3.heap.objs.size + 1) scope.names (cloFrom X.env.cells scope.names [])) s3.heap.objs.size X.env)) (compPost (model X.prog X.w) X.A X.xe use Qf (.ref L) s3.heap.objs.size) _
  generalize hce : compEnvC scope (cellsFrom (s3.heap.objs.size + 1) scope.names (cloFrom X.env.cells scope.names [])) s3.heap.objs.size X.env = ce at I4 cY ⊢
  have cL : ce.locals = s3.heap.objs.size := by subst hce; rfl
  have hE : ∀ u s', (X.blk s3 H2 scope ce (L :: fp)).xe u s' → False := fun _ _ z => z
  obtain ⟨cl, gk, gv⟩ := cp.blk _ cY
  have srcL : Src J l ds [] fps1 H2 := src
  generalize hs4 : ({ s3 with heap := pushCells (s3.heap.push { cls := .type "dict", data := .dict #[] }) scope.names } : Shared) = s4 at I4 ⊢
  have kp4 : ∀ b o, s3.heap.get? b = some o → s4.heap.get? b = some o := fun b o e => by rw [← hs4]; exact pushCells_keeps _ _ _ _ (Heap.get?_push_of_some _ e)
  have st4 : tn 0 s4.heap := T.keep _ _ _ st3 fun b _ o e => kp4 b o e
  have stat : ∀ {σ' : L2.St} {H' : Hp} {s' : Shared}, Inv (X.blk s3 H2 scope ce (L :: fp)) [] σ' H' s' → ∀ b ∈ L :: fp, H' b = none → FpOk (X.blk s3 H2 scope ce (L :: fp)) [] H' b := fun {σ' H' s'} I' b hb hn =>
    ⟨hn, (I'.ok.exf b hb).1, I'.ok.exfs b hb, .inl hb, fun x c e => (I'.ok.exf b hb).2 x c e, fun p hp => absurd (show p ∈ ([] : List (Addr × Obj)) ++ [] from hp) (by simp)⟩
  have RW := R1.wipe (own.map (·.2))
  have nfp : ∀ b ∈ fp, H2 b = none := fun b hb => (f2 b hb).1
  have loop : codeAny (model X.prog X.w) X.A (.compLoop (.DictComp kx vx [⟨t', it', ifs', 0⟩] scope pos) 0 (.ref it) (.ref L) ce) (compPost (model X.prog X.w) X.A X.xe use Qf (.ref L) s3.heap.objs.size) s4 := by
    refine dloop_ok (Y := X.blk s3 H2 scope ce (L :: fp)) (lk := lk) (slW := OV.wipe st1.sl (own.map (·.2))) (s0 := ⟨OV.wipe st1.sl (own.map (·.2)), st1.ce⟩) hE cx.calm cx.prog cx.w cx.hu cl gk gv T srcL (fun j w e z => wipeσ_none e (hsl j z)) R1 I4 RW hLf (stat I4 L List.mem_cons_self hDn) (kp4 _ _ oL3) (DPure.nil tk H2) st4 (fun b hb => stat I4 b (List.mem_cons_of_mem _ hb) (nfp b hb)) hx1.fst.to
      fun s6 acc' sF H5 fps5 o' ef I6 Rc gg oL6 nL6 D6 => ?_
    -- back in the def's context
    have I7 : Inv X pins σ H5 s6 := I3.call' (ch := L :: fp) I6.os I6.base I6.hok I6.bare fun b hb => ⟨(f3 b hb).1.2.2.2.1, (f3 b hb).1.2.1, (f3 b hb).1.2.2.2.2.1, (f3 b hb).1.2.2.2.2.2⟩
    have nC : H5 s3.heap.objs.size = none := by
      have z : H5 ce.locals = none := I6.free
      rw [cL] at z
      exact z
    obtain ⟨mm, hn, _⟩ := I6.loc
    have hn : s6.heap.Ns ce.locals mm := hn
    rw [cL] at hn
    have sysL : (L == sysModules) = false := by
      have := I2.big
      rw [hD] at this
      exact beq_eq_false_iff_ne.mpr (Nat.ne_of_gt this)
    obtain ⟨u, I8, rf⟩ := dict_known cx.prog cx.w I7 ⟨nL6, fLX.2⟩ sysL oL6 D6
    have neC : s3.heap.objs.size ≠ L := Nat.ne_of_gt lt3
    have nC8 : (upd H5 L u) s3.heap.objs.size = none := by rw [upd_ne neC]; exact nC
    have g25 : Grd lk fps fps5 H H5 := g1.trans (gg.less (lk := lk) fun _ h => List.mem_append_right _ h) R1 (fun _ h => h) (R.len_le R1)
    have R5 : Rel ⟨st1.sl, sF.ce⟩ m fps5 σ H5 := RelC.toRel (ce := st1.ce) R1 (gg.imm R1) Rc
    have g58 : Grd lk fps5 fps5 H5 (upd H5 L u) := Grd.new nL6
    refine hRR L s3.heap.objs.size s6 mm (upd H5 L u) I8 ⟨.dic acc', ⟨st1.sl, sF.ce⟩, ?_, fps5, [], R5.new nL6, .tree (.fro rf) (by simp), g25.trans g58 R5 (fun _ h => h) (R.len_le R5), NF.nil⟩ hn (I3.fpOk (Nat.le_refl _) nC8)
    rw [e1, Res.bind_ok]
    show ((fol (turnD κ tk (l ++ lk) t ifs ka va (OV.wipe st1.sl (own.map (·.2)))) ds [] ⟨OV.wipe st1.sl (own.map (·.2)), st1.ce⟩).bind fun acc st2 => Res.ok (D.dic acc) ⟨st1.sl, st2.ce⟩) = _
    rw [ef, Res.bind_ok]
  exact codeAny_compStart_dict loop (T.self X.A 0 _ _ _ st4 loop)
theorem se_dcomp {tk : Bool} {kx vx t' it' : Expr} {ifs' : List Expr} {scope : Scope} {own : List (Str × Nat)} {pos : Pos} {t : T} {itm : I} {ifs : Cs} {ka va : C} (cx : Cxt X q κ n) (ok : BlkOk X.N X.env.scope scope own) (cp : DCompOK X q κ n t itm ifs ka va kx vx t' it' ifs' scope) (hsl : ∀ i ∈ t.slots, i ∈ own.map (·.2)) :
    SE X (.DictComp kx vx [⟨t', it', ifs', 0⟩] scope pos) lk (oE κ lk (.dcomp tk (own.map (·.2)) t itm ifs ka va)) := by
  intro st m fps σ H hx R pins s I
  rw [arm_eval_DictComp]
  refine dcomp_core cx ok cp hsl I R hx fun D C s' mm H' I' q hn f => ⟨mm, hn, fun h'' sb => ?_⟩
  obtain ⟨f0, f1, f2, f3, f4, f5⟩ := f
  exact ⟨.ref D, H', I'.turned (t' := s'.toks) (fun b o hb e => (sb.2 b hb).trans e) f0 f1 f3 f4 f5, rfl, q⟩
end
end OV
/-! text OVY -/
namespace OV
open PySem PySem.Spec PyProof.Rows L2
variable [Tabled] [Kn]
section
variable {X : Cx} {q : SX} {κ : K} {n : Nat} {lk : List Nat} {p : Pos}
theorem RR.seqW {st : S} {m : List Addr} {fps : List (List Addr)} {σ : L2.St} {H : Hp} {v : V} {d : D} {fp : List Addr} {ds : List D} (R : Rel st m fps σ H) (r : RR H m fps v d fp) (h : OV.seqW st.ce d = some ds) (K : PySem.W.Frag) : ∃ a vs, v = .ref a ∧ (SqT K H a vs ∨ SqL K H a vs) ∧ RFs H vs ds := by
  rcases seqK2 h with ⟨hl, _⟩ | rfl
  · obtain ⟨a, vs, rfl, h1, h2⟩ := r.lsV R hl
    exact ⟨a, vs, rfl, .inr (rd_sqL h1), h2⟩
  · obtain ⟨a, vs, rfl, h1, h2, _⟩ := r.tupv
    exact ⟨a, vs, rfl, .inl (.inl (.inl h1)), h2⟩
theorem se_stup {a : C} {bs : Cs} {a' : Expr} {bs' : List Expr} {j} {p' : Pos} (ga : GoodE X κ a a') (gb : Good X κ bs bs') : SE X (.Tuple (.Starred a' p' :: bs') j p) lk (oE κ lk (.stup a bs)) := by
  intro st m fps σ H hx R
  rw [oE] at hx ⊢
  refine we_pe (pe_tup (StX.pa_star pe_we pa_wa)) (WE.imp (ga.se lk st m fps σ H hx.fst R) fun x H1 ⟨d1, st1, h1, fps1, f1, R1, r1, g1, n1⟩ => ?_)
  have hx1 := hx.snd h1
  cases hs : OV.seqW st1.ce d1 with
  | none => simp only [hs] at hx1; exact hx1.elim
  | some es =>
    simp only [hs] at hx1
    obtain ⟨b, vs, rfl, hq, rv⟩ := r1.seqW R1 hs X.K
    refine ⟨b, vs, rfl, hq, ?_⟩
    have hi : ∀ ds st2, oEs κ lk bs st1 = .ok ds st2 → ∃ fs, items itm ds = some fs ∧ es.length + fs.length ≤ line := fun ds st2 h2 => by
      have hx2 := hx1.snd h2
      cases hf : items itm ds with
      | none => simp only [hf] at hx2; exact hx2.elim
      | some fs =>
        simp only [hf] at hx2
        by_cases hl : es.length + fs.length ≤ line
        · exact ⟨fs, rfl, hl⟩
        · rw [if_neg hl] at hx2; exact hx2.elim
    refine wa_frz gb hx1.fst R1 (fun ds st2 h2 => (hi ds st2 h2).imp fun _ h => h.1) fun ds st2 fs ws fps2 H2 h2 hf R2 r2 g2 => ?_
    obtain ⟨fs', hf', hl⟩ := hi ds st2 h2
    rw [hf] at hf'; cases hf'
    have rv2 := rv.mono (H' := H2) (g2.imm R1)
    refine ⟨by rw [List.length_append, rv.length, r2.length]; exact hl, fun pa hp => ?_⟩
    refine ⟨.tup (es ++ fs), st2, by rw [h1, Res.bind_ok]; simp only [hs, h2, Res.bind_ok, hf]; rw [if_pos hl], ?_⟩
    exact wi_lay R2 (g1.trans g2 R1 (fun _ h => h) (R.len_le R1)) hp NF.nil (R.len_le R2) (.tree (.fro (.tup upd_same ((rv2.append r2).mono (imm_of_ext (imm_upd hp))))) (by simp))
theorem fold_ok {e : Expr} (h : okE e = true) (env : Env) (x : Value) : foldedSetIterable e env x = pure x := by
  cases e <;> first | rfl | cases h
theorem ch_and {a b : Bool} (h : (a && b) = true) : a = true ∧ b = true := by simpa using h
theorem ch_dec {P : Prop} [Decidable P] (h : decide P = true) : P := of_decide_eq_true h
theorem goodE_of {c : C} {e : Expr} (he : ∀ whole, isTrue e X.env whole = (do let v ← whole; standAt e.pos; holding [v] (truthy v))) (ok : okE e = true) (h : ∀ lk, SE X e lk (oE κ lk c)) : GoodE X κ c e := ⟨h, fun lk => st_val he (h lk), ok⟩
end
section
variable {X : Cx} {q : SX} {κ : K} {n : Nat} {lk : List Nat} {p : Pos}
theorem fz_bl {d : D} {b : Bool} (h : fzD d = some (.bl b)) : d = .bl b := by
  cases d with
  | own ds => simp only [fzD] at h; split at h <;> cases h
  | oto ds => simp only [fzD] at h; split at h <;> cases h
  | bl c => cases h; rfl
  | _ => first | (cases h; done) | (simp [fzD, isV] at h; done)
theorem good_fz {c : C} {e : Expr} (g : GoodE X κ c e) : GoodE X κ (.fz c) e := by
  refine ⟨fun lk => ?_, fun lk st m fps σ H hx R => ?_, g.ok⟩
  · have := se_fz (g.se lk)
    intro st m fps σ H hx R
    rw [oE] at hx ⊢
    exact this st m fps σ H hx R
  · dsimp only at hx
    rw [oE] at hx
    -- what is True or False behind the freezing was so ahead of it
    have key : XO X (boolR (oE κ lk c st)) := by
      cases hr : oE κ lk c st with
      | ok d st1 =>
        rw [hr, Res.bind_ok] at hx
        cases hf : fzD d with
        | none => rw [hf] at hx; exact hx.elim
        | some e1 =>
          rw [hf, Res.of_some] at hx
          obtain ⟨b, rfl⟩ := boolR_inv hx rfl
          rw [fz_bl hf]; trivial
      | ex c' a' s' => rw [hr] at hx; exact hx
      | no => rw [hr] at hx; exact hx
    refine WT.imp (g.st lk st m fps σ H key R) fun b H' ⟨st1, fps1, h1, R1, g1⟩ => ⟨st1, fps1, ?_, R1, g1⟩
    dsimp only
    rw [oE]
    have h2 : oE κ lk c st = .ok (.bl b) st1 := by
      have h1 : boolR (oE κ lk c st) = .ok b st1 := h1
      obtain ⟨d, s1, e1, e2⟩ := bind_ok h1
      cases d <;> first | (cases e2; exact e1) | cases e2
    rw [h2]; rfl
end
mutual
theorem good_c {κ : K} {n : Nat} : ∀ (c : C) {X : Cx} {q : SX} {e : Expr}, Cxt X q κ n → chkE q c e = true → GoodE X κ c e
  | .var i, X, q, e, cx, h => by
    have h0 := h
    simp only [chkE] at h
    split at h
    · rename_i x hn
      obtain ⟨p, rfl⟩ := vName_eq hn
      exact goodE_of (fun _ => rfl) rfl fun lk => se_var cx h0
    · cases h
  | .mv i, X, q, e, cx, h => by
    simp only [chkE] at h
    split at h
    · rename_i x hn
      obtain ⟨p, rfl⟩ := vName_eq hn
      exact goodE_of (fun _ => rfl) rfl fun lk => se_mv cx h
    · cases h
  | .gint x i, X, q, e, cx, h => by
    simp only [chkE] at h
    split at h
    · rename_i y hn
      obtain ⟨p, rfl⟩ := vName_eq hn
      obtain ⟨h1, k⟩ := ch_and h
      obtain ⟨h2, h3⟩ := ch_and k
      have := ch_dec h1
      subst this
      refine goodE_of (fun _ => rfl) rfl fun lk st m fps σ H hx R => ?_
      obtain ⟨hg, hdb, _⟩ := gl_of cx h2
      obtain ⟨t, ht⟩ := cx.gis y i (ch_dec h3)
      exact we_pe (pe_glob (v := .int i) hg ht ⟨t, rfl⟩ hdb) (show WiE lk (oE κ lk (.gint y i) st) m fps σ H (.int i) H from ⟨.int i, st, by rw [oE], fps, [], R, .tree (.fro (.int i)) (by simp), Grd.refl, NF.nil⟩)
    · cases h
  | .fz c, X, q, e, cx, h => by
    simp only [chkE] at h
    exact good_fz (good_c c cx (ch_and h).2)
  | .int i, X, q, e, cx, h => by
    simp only [chkE] at h
    split at h
    · rename_i c hc
      obtain ⟨j, p, rfl⟩ := vConst_eq hc
      have := ch_dec h
      subst this
      exact goodE_of (fun _ => rfl) rfl fun lk => se_lit (v := .int i) (d := .int i) pe_int (fun _ => .int i) (fun lk st => by rw [oE]) rfl
    · cases h
  | .bl i, X, q, e, cx, h => by
    simp only [chkE] at h
    split at h
    · rename_i c hc
      obtain ⟨j, p, rfl⟩ := vConst_eq hc
      have := ch_dec h
      subst this
      exact goodE_of (fun _ => rfl) rfl fun lk => se_lit (v := .bl i) (d := .bl i) pe_bl (fun _ => .bl i) (fun lk st => by rw [oE]) rfl
    · cases h
  | .non, X, q, e, cx, h => by
    simp only [chkE] at h
    split at h
    · rename_i c hc
      obtain ⟨j, p, rfl⟩ := vConst_eq hc
      have := ch_dec h
      subst this
      exact goodE_of (fun _ => rfl) rfl fun lk => se_lit (v := .non) (d := .non) pe_non (fun _ => .non) (fun lk st => by rw [oE]) rfl
    · cases h
  | .str x, X, q, e, cx, h => by
    simp only [chkE] at h
    split at h
    · rename_i c hc
      obtain ⟨j, p, rfl⟩ := vConst_eq hc
      have := ch_dec h
      subst this
      exact goodE_of (fun _ => rfl) rfl fun lk => se_lit (v := .str x) (d := .str x) pe_str (fun _ => .str x) (fun lk st => by rw [oE]) rfl
    · cases h
  | .bin o a b, X, q, e, cx, h => by
    simp only [chkE] at h
    split at h
    · rename_i a' o' b' hv
      obtain ⟨p, rfl⟩ := vBin_eq hv
      obtain ⟨h1, h2⟩ := ch_and h
      obtain ⟨h2, h3⟩ := ch_and h2
      have := ch_dec h1
      subst this
      refine goodE_of (fun _ => rfl) rfl fun lk => ?_
      have s := se_bin (o := o) (p := p) (fa := oE κ lk a) (fb := fun l => oE κ l b) ((good_c a cx h2).se lk) fun l => (good_c b cx h3).se l
      intro st m fps σ H hx R
      rw [oE] at hx ⊢
      exact s st m fps σ H hx R
    · cases h
  | .neg a, X, q, e, cx, h => by
    simp only [chkE] at h
    split at h
    · rename_i o' a' hv
      obtain ⟨p, rfl⟩ := vUn_eq hv
      obtain ⟨h1, h2⟩ := ch_and h
      have := ch_dec h1
      subst this
      refine goodE_of (fun _ => rfl) rfl fun lk => ?_
      have s := se_neg (p := p) ((good_c a cx h2).se lk)
      intro st m fps σ H hx R
      rw [oE] at hx ⊢
      exact s st m fps σ H hx R
    · cases h
  | .cmp o a b, X, q, e, cx, h => by
    simp only [chkE] at h
    split at h
    · rename_i a' o' b' hv
      obtain ⟨p, rfl⟩ := vCmp1_eq hv
      obtain ⟨h1, h2⟩ := ch_and h
      obtain ⟨h2, h3⟩ := ch_and h2
      have := ch_dec h1
      subst this
      have ga := good_c a cx h2
      have gb := good_c b cx h3
      refine ⟨fun lk => ?_, fun lk => ?_, rfl⟩
      · have s := se_cmp (o := o) (p := p) (fb := fun l => oE κ l b) cx gb.ok (ga.se lk) gb.se
        intro st m fps σ H hx R
        rw [oE] at hx ⊢
        exact s st m fps σ H hx R
      · have s := st_cmp (o := o) (p := p) (fb := fun l => oE κ l b) cx gb.ok (ga.se lk) gb.se
        intro st m fps σ H hx R
        dsimp only at hx ⊢
        rw [oE] at hx ⊢
        exact s st m fps σ H hx R
    · cases h
  | .isK k a, X, q, e, cx, h => by
    simp only [chkE] at h
    split at h
    · rename_i a' o' b' hv
      obtain ⟨p, rfl⟩ := vCmp1_eq hv
      split at h
      · rename_i c hc
        obtain ⟨j, p', rfl⟩ := vConst_eq hc
        obtain ⟨h1, h2⟩ := ch_and h
        obtain ⟨h2, h3⟩ := ch_and h2
        have := ch_dec h1
        subst this
        have ga := good_c a cx h3
        refine ⟨fun lk => ?_, fun lk => ?_, rfl⟩
        · have s := se_is (p := p) (j := j) (p' := p') h2 (ga.se lk)
          intro st m fps σ H hx R
          rw [oE] at hx ⊢
          exact s st m fps σ H hx R
        · have s := st_is (p := p) (j := j) (p' := p') h2 (ga.se lk)
          intro st m fps σ H hx R
          dsimp only at hx ⊢
          rw [oE] at hx ⊢
          exact s st m fps σ H hx R
      · cases h
    · cases h
  | .notK k a, X, q, e, cx, h => by
    simp only [chkE] at h
    split at h
    · rename_i a' o' b' hv
      obtain ⟨p, rfl⟩ := vCmp1_eq hv
      split at h
      · rename_i c hc
        obtain ⟨j, p', rfl⟩ := vConst_eq hc
        obtain ⟨h1, h2⟩ := ch_and h
        obtain ⟨h2, h3⟩ := ch_and h2
        have := ch_dec h1
        subst this
        have ga := good_c a cx h3
        refine ⟨fun lk => ?_, fun lk => ?_, rfl⟩
        · have s := se_isnot (p := p) (j := j) (p' := p') h2 (ga.se lk)
          intro st m fps σ H hx R
          rw [oE] at hx ⊢
          exact s st m fps σ H hx R
        · have s := st_isnot (p := p) (j := j) (p' := p') h2 (ga.se lk)
          intro st m fps σ H hx R
          dsimp only at hx ⊢
          rw [oE] at hx ⊢
          exact s st m fps σ H hx R
      · cases h
    · cases h
  | .chain o o' a b c, X, q, e, cx, h => by
    simp only [chkE] at h
    split at h
    · rename_i a' o1 b' o2 c' hv
      obtain ⟨p, rfl⟩ := vCmp2_eq hv
      obtain ⟨h1, h2⟩ := ch_and h
      obtain ⟨h2, h3⟩ := ch_and h2
      obtain ⟨h3, h4⟩ := ch_and h3
      obtain ⟨h4, h5⟩ := ch_and h4
      have e1 := ch_dec h1
      have e2 := ch_dec h2
      subst e1 e2
      have ga := good_c a cx h3
      have gb := good_c b cx h4
      have gc := good_c c cx h5
      refine ⟨fun lk => ?_, fun lk => ?_, rfl⟩
      · have s := se_chain (o := o) (o' := o') (p := p) (fb := fun l => oE κ l b) (fc := fun l => oE κ l c) cx gc.ok (ga.se lk) gb.se gc.se
        intro st m fps σ H hx R
        rw [oE] at hx ⊢
        exact s st m fps σ H hx R
      · have s := st_chain (o := o) (o' := o') (p := p) (fb := fun l => oE κ l b) (fc := fun l => oE κ l c) cx gc.ok (ga.se lk) gb.se gc.se
        intro st m fps σ H hx R
        dsimp only at hx ⊢
        rw [oE] at hx ⊢
        exact s st m fps σ H hx R
    · cases h
  | .not a, X, q, e, cx, h => by
    simp only [chkE] at h
    split at h
    · rename_i o' a' hv
      obtain ⟨p, rfl⟩ := vUn_eq hv
      obtain ⟨h1, h2⟩ := ch_and h
      have := ch_dec h1
      subst this
      have ga := good_c a cx h2
      refine ⟨fun lk => ?_, fun lk => ?_, rfl⟩
      · have s := se_not (p := p) (ga.se lk)
        intro st m fps σ H hx R
        rw [oE] at hx ⊢
        exact s st m fps σ H hx R
      · have s := st_not (p := p) (ga.st lk)
        intro st m fps σ H hx R
        dsimp only at hx ⊢
        rw [oE] at hx ⊢
        exact s st m fps σ H hx R
    · cases h
  | .and es, X, q, e, cx, h => by
    simp only [chkE] at h
    split at h
    · rename_i o' es' hv
      obtain ⟨p, rfl⟩ := vBool_eq hv
      obtain ⟨h1, h2⟩ := ch_and h
      obtain ⟨h2, h3⟩ := ch_and h2
      have := ch_dec h1
      subst this
      have g := good_cs es cx h3
      have hne : es' ≠ [] := fun z => by rw [z] at h2; cases h2
      refine ⟨fun lk => ?_, fun lk => ?_, rfl⟩
      · have s := se_and (lk := lk) (p := p) g hne
        intro st m fps σ H hx R
        rw [oE] at hx ⊢
        exact s st m fps σ H hx R
      · have s := st_and (lk := lk) (p := p) g hne
        intro st m fps σ H hx R
        dsimp only at hx ⊢
        rw [oE] at hx ⊢
        exact s st m fps σ H hx R
    · cases h
  | .or es, X, q, e, cx, h => by
    simp only [chkE] at h
    split at h
    · rename_i o' es' hv
      obtain ⟨p, rfl⟩ := vBool_eq hv
      obtain ⟨h1, h2⟩ := ch_and h
      obtain ⟨h2, h3⟩ := ch_and h2
      have := ch_dec h1
      subst this
      have g := good_cs es cx h3
      have hne : es' ≠ [] := fun z => by rw [z] at h2; cases h2
      refine ⟨fun lk => ?_, fun lk => ?_, rfl⟩
      · have s := se_or (lk := lk) (p := p) g hne
        intro st m fps σ H hx R
        rw [oE] at hx ⊢
        exact s st m fps σ H hx R
      · have s := st_or (lk := lk) (p := p) g hne
        intro st m fps σ H hx R
        dsimp only at hx ⊢
        rw [oE] at hx ⊢
        exact s st m fps σ H hx R
    · cases h
  | .ite c a b, X, q, e, cx, h => by
    simp only [chkE] at h
    split at h
    · rename_i c' a' b' hv
      obtain ⟨p, rfl⟩ := vIf_eq hv
      obtain ⟨h1, h2⟩ := ch_and h
      obtain ⟨h2, h3⟩ := ch_and h2
      have gc := good_c c cx h1
      have ga := good_c a cx h2
      have gb := good_c b cx h3
      refine ⟨fun lk => ?_, fun lk => ?_, rfl⟩
      · have s := se_ite (p := p) (gc.st lk) (ga.se lk) (gb.se lk)
        intro st m fps σ H hx R
        rw [oE] at hx ⊢
        exact s st m fps σ H hx R
      · have s := st_ite (p := p) (gc.st lk) (ga.st lk) (gb.st lk)
        intro st m fps σ H hx R
        dsimp only at hx ⊢
        rw [oE] at hx ⊢
        exact s st m fps σ H hx R
    · cases h
  | .tup es, X, q, e, cx, h => by
    simp only [chkE] at h
    split at h
    · rename_i es' hv
      obtain ⟨k, p, rfl⟩ := vTup_eq hv
      have g := good_cs es cx h
      exact goodE_of (fun _ => rfl) rfl fun lk => se_tup g
    · cases h
  | .otup es, X, q, e, cx, h => by
    simp only [chkE] at h
    split at h
    · rename_i es' hv
      obtain ⟨k, p, rfl⟩ := vTup_eq hv
      have g := good_cs es cx h
      exact goodE_of (fun _ => rfl) rfl fun lk => se_otup g
    · cases h
  | .stup a bs, X, q, e, cx, h => by
    simp only [chkE] at h
    split at h
    · rename_i a' bs' hv
      obtain ⟨p', k, p, rfl⟩ := vStar_eq hv
      obtain ⟨h1, h2⟩ := ch_and h
      have ga := good_c a cx h1
      have gb := good_cs bs cx h2
      exact goodE_of (fun _ => rfl) rfl fun lk => se_stup ga gb
    · cases h
  | .lst live es, X, q, e, cx, h => by
    simp only [chkE] at h
    split at h
    · rename_i es' hv
      obtain ⟨p, rfl⟩ := vLst_eq hv
      have g := good_cs es cx h
      refine goodE_of (fun _ => rfl) rfl fun lk => ?_
      cases live with
      | true => exact se_lstL g
      | false => exact se_lstF g
    · cases h
  | .idx a i, X, q, e, cx, h => by
    simp only [chkE] at h
    split at h
    · rename_i a' i' hv
      obtain ⟨p, rfl⟩ := vSub_eq hv
      obtain ⟨h1, h2⟩ := ch_and h
      have ga := good_c a cx h1
      have gb := good_c i cx h2
      refine goodE_of (fun _ => rfl) rfl fun lk => ?_
      have s := se_idx (p := p) (fb := fun l => oE κ l i) cx gb.ok (ga.se lk) gb.se
      intro st m fps σ H hx R
      rw [oE] at hx ⊢
      exact s st m fps σ H hx R
    · cases h
  | .sl a lo hi, X, q, e, cx, h => by
    simp only [chkE] at h
    split at h
    · rename_i a' lo' hi' hv
      obtain ⟨p', p, rfl⟩ := vSl_eq hv
      obtain ⟨h1, h2⟩ := ch_and h
      obtain ⟨h2, h3⟩ := ch_and h2
      have ga := good_c a cx h1
      have gl := good_co lo cx h2
      have gh := good_co hi cx h3
      refine goodE_of (fun _ => rfl) rfl fun lk => ?_
      have s := se_sl (p := p) (p2 := p') (fl := fun l => oCo κ l lo) (fh := fun l => oCo κ l hi) (ga.se lk) gl gh
      intro st m fps σ H hx R
      rw [oE] at hx ⊢
      exact s st m fps σ H hx R
    · cases h
  | .rev a, X, q, e, cx, h => by
    simp only [chkE] at h
    split at h
    · rename_i a' hv
      obtain ⟨k, p1, p2, p3, p, rfl⟩ := vRev_eq hv
      have ga := good_c a cx h
      refine goodE_of (fun _ => rfl) rfl fun lk => ?_
      have s := se_rev (p := p) (k := k) (p1 := p1) (p2 := p2) (p3 := p3) (ga.se lk)
      intro st m fps σ H hx R
      rw [oE] at hx ⊢
      exact s st m fps σ H hx R
    · cases h
  | .call f es, X, q, e, cx, h => by
    simp only [chkE] at h
    split at h
    · rename_i x es' hv
      obtain ⟨p', p, rfl⟩ := vCall_eq hv
      obtain ⟨h1, h2⟩ := ch_and h
      obtain ⟨h2, h3⟩ := ch_and h2
      obtain ⟨h3, h4⟩ := ch_and h3
      have := ch_dec h1
      subst this
      have g := good_cs es cx h4
      exact goodE_of (fun _ => rfl) rfl fun lk => se_call cx h2 h3 g
    · cases h
  | .callB f es, X, q, e, cx, h => by
    simp only [chkE] at h
    split at h
    · rename_i x es' hv
      obtain ⟨p', p, rfl⟩ := vCall_eq hv
      obtain ⟨h1, h0⟩ := ch_and h
      obtain ⟨h2, h3⟩ := ch_and h0
      clear h0
      have := ch_dec h1
      subst this
      by_cases hp : plainB f = true
      · have h4 : (!es'.isEmpty && chkEs q es es') = true := by cases f <;> first | exact h3 | cases hp
        obtain ⟨h4, h5⟩ := ch_and h4
        have g := good_cs es cx h5
        have hne : es' ≠ [] := fun z => by rw [z] at h4; cases h4
        exact goodE_of (fun _ => rfl) rfl fun lk => se_callB cx hp h2 g hne
      · cases f with
        | isI t =>
          simp only at h3
          split at h3
          · rename_i e' y hv'
            obtain ⟨p1, rfl⟩ := vIs1_eq hv'
            obtain ⟨k4, k0⟩ := ch_and h3
            obtain ⟨h5, h6⟩ := ch_and k0
            clear k0
            have := ch_dec k4
            subst this
            have g := good_cs es cx h6
            cases g with
            | cons g1 gr =>
              cases gr
              exact goodE_of (fun _ => rfl) rfl fun lk => se_isI cx h2 h5 g1
          · cases h3
        | isI2 t u =>
          simp only at h3
          split at h3
          · rename_i e' y z hv'
            obtain ⟨p1, p2, k, p3, rfl⟩ := vIs2_eq hv'
            obtain ⟨k4, k0⟩ := ch_and h3
            obtain ⟨k5, k1⟩ := ch_and k0
            obtain ⟨h6, k2⟩ := ch_and k1
            obtain ⟨h7, h8⟩ := ch_and k2
            clear k0 k1 k2
            have e1 := ch_dec k4
            have e2 := ch_dec k5
            subst e1 e2
            have g := good_cs es cx h8
            cases g with
            | cons g1 gr =>
              cases gr
              exact goodE_of (fun _ => rfl) rfl fun lk => se_isI2 cx h2 h6 h7 g1
          · cases h3
        | lenSet =>
          simp only at h3
          split at h3
          · rename_i y e' hv'
            obtain ⟨p1, p2, rfl⟩ := vSet1_eq hv'
            obtain ⟨k4, k0⟩ := ch_and h3
            obtain ⟨h5, h6⟩ := ch_and k0
            clear k0
            have := ch_dec k4
            subst this
            have g := good_cs es cx h6
            cases g with
            | cons g1 gr =>
              cases gr
              exact goodE_of (fun _ => rfl) rfl fun lk => se_lenSet cx h2 h5 g1
          · cases h3
        | lotOf => cases h3
        | _ => exact absurd rfl hp
    · cases h
  | .comp own t it ifs gs, X, q, e, cx, h => by
    simp only [chkE] at h
    split at h
    · rename_i elt t' it' ifs' gs' scope hv
      obtain ⟨p, rfl⟩ := vComp_eq hv
      obtain ⟨h1, h2⟩ := ch_and h
      obtain ⟨h2, h3⟩ := ch_and h2
      obtain ⟨h3, h4⟩ := ch_and h3
      obtain ⟨h4, h5⟩ := ch_and h4
      obtain ⟨h5, h6⟩ := ch_and h5
      obtain ⟨h6, h7⟩ := ch_and h6
      obtain ⟨h7, h8⟩ := ch_and h7
      obtain ⟨h8, h9⟩ := ch_and h8
      obtain ⟨h9, h10⟩ := ch_and h9
      have ho := ch_dec h3
      have ok := blkOk_by h2
      rw [← cx.N, ← cx.sc] at ok
      refine goodE_of (fun _ => rfl) rfl fun lk => ?_
      have hsl : ∀ i ∈ t.slots ++ gs.slots, i ∈ (ownN q own).map (·.2) := fun i hi => by
        rw [ho]
        have := List.all_eq_true.mp h5 i hi
        simpa using this
      have cp : CompOK X q κ n t it ifs gs elt t' it' ifs' gs' scope p := by
        refine ⟨fun lk => good_i it cx h1 lk, fold_ok h6, fun g hg => ?_, fun Y cY hE => ⟨⟨fun lk => good_t t cY h8 lk, h4, good_cs ifs cY h9, by simpa using h7⟩, fun L => ?_⟩⟩
        · exact good_gn gs h10 g hg
        · exact good_g gs cY hE h10 [⟨t', it', ifs', 0⟩] rfl
      have s := se_comp (lk := lk) cx ok cp hsl
      rw [ho] at s
      exact s
    · cases h
  | .dcomp tk own t it ifs ka va, X, q, e, cx, h => by
    simp only [chkE] at h
    split at h
    · rename_i kx vx t' it' ifs' scope hv
      obtain ⟨p, rfl⟩ := vDC_eq hv
      obtain ⟨h1, h2⟩ := ch_and h
      obtain ⟨h2, h3⟩ := ch_and h2
      obtain ⟨h3, h4⟩ := ch_and h3
      obtain ⟨h4, h5⟩ := ch_and h4
      obtain ⟨h5, h6⟩ := ch_and h5
      obtain ⟨h6, h7⟩ := ch_and h6
      obtain ⟨h7, h8⟩ := ch_and h7
      obtain ⟨h8, h9⟩ := ch_and h8
      obtain ⟨h9, h10⟩ := ch_and h9
      obtain ⟨h10, h11⟩ := ch_and h10
      have ho := ch_dec h3
      have ok := blkOk_by h2
      rw [← cx.N, ← cx.sc] at ok
      refine goodE_of (fun _ => rfl) rfl fun lk => ?_
      have hsl : ∀ i ∈ t.slots, i ∈ (ownN q own).map (·.2) := fun i hi => by
        rw [ho]
        have := List.all_eq_true.mp h5 i hi
        simpa using this
      have cp : DCompOK X q κ n t it ifs ka va kx vx t' it' ifs' scope :=
        ⟨fun lk => good_i it cx h1 lk, fold_ok h6, fun Y cY => ⟨⟨fun lk => good_t t cY h8 lk, h4, good_cs ifs cY h9, by simpa using h7⟩, good_c ka cY h10, good_c va cY h11⟩⟩
      have s := se_dcomp (lk := lk) (tk := tk) (pos := p) cx ok cp hsl
      rw [ho] at s
      exact s
    · cases h
  | .pop0 r cs, X, q, e, cx, h => by
    simp only [chkE] at h
    split at h
    · rename_i o' m hv
      obtain ⟨p', p, rfl, hl⟩ := vMeth_eq hv
      obtain ⟨h1, h2⟩ := ch_and h
      have := ch_dec h1
      subst this
      have g := good_p cs cx h2
      exact goodE_of (fun _ => rfl) rfl fun lk => se_pop0 cx g hl
    · cases h
  | .pop r cs a, X, q, e, cx, h => by
    simp only [chkE] at h
    split at h
    · rename_i o' m a' hv
      obtain ⟨p', p, rfl, hl⟩ := vMeth_eq hv
      obtain ⟨h1, h2⟩ := ch_and h
      obtain ⟨h2, h3⟩ := ch_and h2
      have := ch_dec h1
      subst this
      have g := good_p cs cx h2
      have ga := good_c a cx h3
      exact goodE_of (fun _ => rfl) rfl fun lk => se_pop cx g ga hl
    · cases h
  | .callL f c0 k js, X, q, e, cx, h => by
    simp only [chkE] at h
    split at h
    · rename_i x es' hv
      obtain ⟨p', p, rfl⟩ := vCall_eq hv
      split at h
      · rename_i a' params body scope hv2
        obtain ⟨pl, rfl⟩ := vLam_eq hv2
        obtain ⟨h1, h2⟩ := ch_and h
        obtain ⟨h2, h3⟩ := ch_and h2
        obtain ⟨h3, h4⟩ := ch_and h3
        obtain ⟨h4, h5⟩ := ch_and h4
        obtain ⟨h5, h6⟩ := ch_and h5
        obtain ⟨h6, h7⟩ := ch_and h6
        obtain ⟨h6, h8⟩ := ch_and h6
        obtain ⟨h7, h9⟩ := ch_and h7
        have := ch_dec h1
        subst this
        have g := good_c c0 cx h4
        exact goodE_of (fun _ => rfl) rfl fun lk => se_callL cx h2 h3 g (cx.lam h5) h6 (ch_dec h8) h7 h9
      · cases h
    · cases h
  | .callV i es, X, q, e, cx, h => by
    simp only [chkE] at h
    split at h
    · rename_i x es' hv
      obtain ⟨p', p, rfl⟩ := vCall_eq hv
      obtain ⟨h1, h2⟩ := ch_and h
      obtain ⟨h2, h3⟩ := ch_and h2
      have g := good_cs es cx h3
      have hne : es' ≠ [] := fun z => by rw [z] at h2; cases h2
      exact goodE_of (fun _ => rfl) rfl fun lk => se_callV cx h1 g hne
    · cases h
theorem good_cs {κ : K} {n : Nat} : ∀ (cs : Cs) {X : Cx} {q : SX} {es : List Expr}, Cxt X q κ n → chkEs q cs es = true → Good X κ cs es
  | .nil, X, q, [], cx, h => .nil
  | .nil, X, q, _ :: _, cx, h => by simp [chkEs] at h
  | .cons c cs, X, q, [], cx, h => by simp [chkEs] at h
  | .cons c cs, X, q, e :: es, cx, h => by
    simp only [chkEs] at h
    obtain ⟨h1, h2⟩ := ch_and h
    exact .cons (good_c c cx h1) (good_cs cs cx h2)
theorem good_p {κ : K} {n : Nat} {r : Nat} : ∀ (cs : Cs) {X : Cx} {q : SX} {e : Expr}, Cxt X q κ n → chkP q r cs e = true → GoodP X κ q r cs e
  | .nil, X, q, e, cx, h => by
    simp only [chkP] at h
    split at h
    · rename_i x hv
      obtain ⟨p, rfl⟩ := vName_eq hv
      exact .nil h
    · cases h
  | .cons i cs, X, q, e, cx, h => by
    simp only [chkP] at h
    split at h
    · rename_i o' i' hv
      obtain ⟨p, rfl⟩ := vSub_eq hv
      obtain ⟨h1, h2⟩ := ch_and h
      exact .cons (good_p cs cx h1) (good_c i cx h2)
    · cases h
theorem good_co {κ : K} {n : Nat} : ∀ (c : Co) {X : Cx} {q : SX} {e : Option Expr}, Cxt X q κ n → chkCo q c e = true → ∀ lk, SO X e lk (oCo κ lk c)
  | .no, X, q, none, cx, h, lk => so_none
  | .no, X, q, some _, cx, h, lk => by simp [chkCo] at h
  | .so c, X, q, none, cx, h, lk => by simp [chkCo] at h
  | .so c, X, q, some e, cx, h, lk => by
    simp only [chkCo] at h
    exact so_some ((good_c c cx h).se lk)
theorem good_i {κ : K} {n : Nat} : ∀ (c : I) {X : Cx} {q : SX} {t e : Expr}, Cxt X q κ n → chkI q c t e = true → ∀ lk, SI X t e lk (oI κ lk c)
  | .pl c, X, q, t, e, cx, h, lk => by
    simp only [chkI] at h
    exact si_pl (good_c c cx h)
  | .enum c, X, q, t, e, cx, h, lk => by
    simp only [chkI] at h
    split at h
    · rename_i ts x e' ht hv
      obtain ⟨k, p, rfl⟩ := vTup_eq ht
      obtain ⟨p', p2, rfl⟩ := vCall_eq hv
      obtain ⟨h1, h2⟩ := ch_and h
      obtain ⟨h2, h3⟩ := ch_and h2
      have := ch_dec h1
      subst this
      exact si_enum cx h2 (good_c c cx h3)
    · cases h
  | .zip a b, X, q, t, e, cx, h, lk => by
    simp only [chkI] at h
    split at h
    · rename_i ts x e' f' ht hv
      obtain ⟨k, p, rfl⟩ := vTup_eq ht
      obtain ⟨p', p2, rfl⟩ := vCall_eq hv
      obtain ⟨h1, h2⟩ := ch_and h
      obtain ⟨h2, h3⟩ := ch_and h2
      obtain ⟨h3, h4⟩ := ch_and h3
      have := ch_dec h1
      subst this
      exact si_zip cx h2 (good_c a cx h3) (good_c b cx h4)
    · cases h
theorem good_gn {q : SX} : ∀ (gs : Gs) {gens : List Comprehension} {elt : Expr}, chkG q gs gens elt = true → ∀ g, gens[0]? = some g → g.is_async = 0 ∧ ∀ (env : Env) x, foldedSetIterable g.iter env x = pure x
  | .el _ _, [], elt, h, g, hg => by simp at hg
  | .el _ _, _ :: _, elt, h, g, hg => by simp [chkG] at h
  | .cons _ _ _ _, [], elt, h, g, hg => by simp at hg
  | .cons t it ifs gs, ⟨t', it', ifs', a⟩ :: gens, elt, h, g, hg => by
    simp only [chkG] at h
    obtain ⟨h1, h2⟩ := ch_and h
    obtain ⟨h2, _⟩ := ch_and h2
    simp at hg
    subst hg
    exact ⟨ch_dec h1, fold_ok h2⟩
theorem good_g {κ : K} {n : Nat} : ∀ (gs : Gs) {Y : Cx} {q : SX} {gens : List Comprehension} {elt : Expr} {scope : Scope} {pos : Pos} {L : Addr} {k : Nat}, Cxt Y q κ n → (∀ u s, Y.xe u s → False) → chkG q gs gens elt = true → ∀ (pre : List Comprehension), pre.length = k + 1 → RestOK Y κ elt (pre ++ gens) scope pos L gs.live gs k
  | .el live e, Y, q, [], elt, scope, pos, L, k, cx, hE, h, pre, hp => by
    simp only [chkG] at h
    exact rest_el hE (by rw [List.append_nil, List.getElem?_eq_none (by omega)]) (good_c e cx h)
  | .el _ _, Y, q, _ :: _, elt, scope, pos, L, k, cx, hE, h, pre, hp => by simp [chkG] at h
  | .cons _ _ _ _, Y, q, [], elt, scope, pos, L, k, cx, hE, h, pre, hp => by simp [chkG] at h
  | .cons t it ifs gs, Y, q, ⟨t', it', ifs', a⟩ :: gens, elt, scope, pos, L, k, cx, hE, h, pre, hp => by
    simp only [chkG] at h
    obtain ⟨h1, h2⟩ := ch_and h
    obtain ⟨h2, h3⟩ := ch_and h2
    obtain ⟨h3, h4⟩ := ch_and h3
    obtain ⟨h4, h5⟩ := ch_and h4
    obtain ⟨h5, h6⟩ := ch_and h5
    obtain ⟨h6, h7⟩ := ch_and h6
    obtain ⟨h7, h8⟩ := ch_and h7
    have ea := ch_dec h1
    subst ea
    have ih := good_g gs (scope := scope) (pos := pos) (L := L) (k := k + 1) cx hE h8 (pre ++ [⟨t', it', ifs', 0⟩]) (by simp [hp])
    rw [List.append_assoc] at ih
    refine rest_cons hE cx.calm ?_ (fun g hg => ?_) (fun lk => good_i it cx h5 lk) ⟨fun lk => good_t t cx h6 lk, h3, good_cs ifs cx h7, by simpa using h4⟩ ih
    · rw [List.getElem?_append_right (by omega), hp, Nat.sub_self]; rfl
    · rw [List.getElem?_append_right (by omega), hp] at hg
      have e2 : k + 2 - (k + 1) = 1 := by omega
      rw [e2] at hg
      obtain ⟨a, b⟩ := good_gn gs h8 g (by simpa using hg)
      exact ⟨a, b _⟩
theorem good_t {κ : K} {n : Nat} : ∀ (t : T) {X : Cx} {q : SX} {e : Expr}, Cxt X q κ n → chkT q t e = true → ∀ lk, SG X e lk t.slots (oTg κ lk t)
  | .nm live i, X, q, e, cx, h, lk => by
    simp only [chkT] at h
    split at h
    · rename_i x hv
      obtain ⟨p, rfl⟩ := vName_eq hv
      have s := sg_nm (lk := lk) (p := p) (live := live) cx h
      intro st m fps σ H x' d fp hx R r
      rw [oTg] at hx ⊢
      exact s st m fps σ H x' d fp hx R r
    · cases h
  | .tp ts, X, q, e, cx, h, lk => by
    simp only [chkT] at h
    split at h
    · rename_i es hv
      obtain ⟨k, p, rfl⟩ := vTup_eq hv
      exact sg_tp cx (good_ts ts cx h)
    · cases h
  | .ix r cs i, X, q, e, cx, h, lk => by
    simp only [chkT] at h
    split at h
    · rename_i o' i' hv
      obtain ⟨p, rfl⟩ := vSub_eq hv
      obtain ⟨h1, h2⟩ := ch_and h
      exact sg_ix cx (good_p cs cx h1) (good_c i cx h2)
    · cases h
theorem good_ts {κ : K} {n : Nat} : ∀ (ts : Ts) {X : Cx} {q : SX} {es : List Expr}, Cxt X q κ n → chkTs q ts es = true → GoodTs X κ ts es
  | .nil, X, q, [], cx, h => .nil
  | .nil, X, q, _ :: _, cx, h => by simp [chkTs] at h
  | .cons _ _, X, q, [], cx, h => by simp [chkTs] at h
  | .cons t ts, X, q, e :: es, cx, h => by
    simp only [chkTs] at h
    obtain ⟨h1, h2⟩ := ch_and h
    have ok : okE e = true := by
      cases t <;> (simp only [chkT] at h1; split at h1 <;> first | cases h1 | skip)
      · rename_i hv; obtain ⟨p, rfl⟩ := vName_eq hv; rfl
      · rename_i hv; obtain ⟨k, p, rfl⟩ := vTup_eq hv; rfl
      · rename_i hv; obtain ⟨p, rfl⟩ := vSub_eq hv; rfl
    exact .cons (fun lk => good_t t cx h1 lk) ok (good_ts ts cx h2)
end
end OV
/-! text OVZ -/
namespace OV
open PySem PySem.Spec PyProof.Rows L2
variable [Tabled] [Kn]
/-! Statements. -/
section
variable {X : Cx} {q : SX} {κ : K} {n : Nat} {lk : List Nat} {p : Pos}
/-- a def's own context -/
structure CxtS (X : Cx) (q : SX) (κ : K) (n : Nat) : Prop where
  cx : Cxt X q κ n
  pass : PassesOwn (model X.prog X.w) X.A X.env X.xe
def WS (X : Cx) (s : Stmt) : TS := fun D σ H => ∀ (pins : List (Addr × Obj)) (s' : Shared), Inv X pins σ H s' → wpAny (model X.prog X.w) X.A (exec s X.env) (SP X pins D) X.xe s'
def WSs (X : Cx) (ss : List Stmt) : TS := fun D σ H => ∀ (pins : List (Addr × Obj)) (s' : Shared), Inv X pins σ H s' → wpAny (model X.prog X.w) X.A (execs ss X.env) (SP X pins D) X.xe s'
theorem ps_ws {s : Stmt} : PS X s (WS X s) := ⟨fun pins s' σ H D I h => h pins s' I⟩
theorem ws_ps {s : Stmt} {t : TS} {D : Ends} {σ : L2.St} {H : Hp} (h : PS X s t) (q : t D σ H) : WS X s D σ H := fun pins s' I => h.run pins s' σ H D I q
theorem pss_wss {s : List Stmt} : PSs X s (WSs X s) := ⟨fun pins s' σ H D I h => h pins s' I⟩
theorem wss_pss {s : List Stmt} {t : TS} {D : Ends} {σ : L2.St} {H : Hp} (h : PSs X s t) (q : t D σ H) : WSs X s D σ H := fun pins s' I => h.run pins s' σ H D I q
/-- one end is another -/
structure EndsImp (D D' : Ends) : Prop where
  nx : ∀ σ H, D.nx σ H → D'.nx σ H
  rt : ∀ v H, D.rt v H → D'.rt v H
  bk : ∀ σ H, D.bk σ H → D'.bk σ H
  ct : ∀ σ H, D.ct σ H → D'.ct σ H
theorem SP.imp {pins : List (Addr × Obj)} {D D' : Ends} {f : Flow} {s : Shared} (h : SP X pins D f s) (k : EndsImp D D') : SP X pins D' f s := by
  cases f with
  | next => obtain ⟨σ, H, I, q⟩ := h; exact ⟨σ, H, I, k.nx σ H q⟩
  | brk => obtain ⟨σ, H, I, q⟩ := h; exact ⟨σ, H, I, k.bk σ H q⟩
  | cont => obtain ⟨σ, H, I, q⟩ := h; exact ⟨σ, H, I, k.ct σ H q⟩
  | ret u => obtain ⟨v, σ, H, I, r, q⟩ := h; exact ⟨v, σ, H, I, r, k.rt v H q⟩
theorem WS.imp {s : Stmt} {D D' : Ends} {σ : L2.St} {H : Hp} (h : WS X s D σ H) (k : EndsImp D D') : WS X s D' σ H := fun pins s' I => thn (h pins s' I) fun _ _ q => OV.SP.imp q k
theorem WSs.imp {s : List Stmt} {D D' : Ends} {σ : L2.St} {H : Hp} (h : WSs X s D σ H) (k : EndsImp D D') : WSs X s D' σ H := fun pins s' I => thn (h pins s' I) fun _ _ q => OV.SP.imp q k
/-- what a run is to reach, by the machine's outcome -/
def NxOf (lk : List Nat) (fl : Fl) (r : Res Fl) (m : List Addr) (fps : List (List Addr)) (H : Hp) : L2.St → Hp → Prop := fun σ' H' => ∃ st' me fps', r = .ok fl st' ∧ Rel st' (m ++ me) fps' σ' H' ∧ Grd lk fps fps' H H'
def RtOf (lk : List Nat) (r : Res Fl) (m : List Addr) (fps : List (List Addr)) (H : Hp) : VK := fun v H' => ∃ d st' me fps' fp σ', r = .ok (.rt d) st' ∧ Rel st' (m ++ me) fps' σ' H' ∧ RR H' (m ++ me) fps' v d fp ∧ Grd lk fps fps' H H' ∧ NF fp fps H
def DE (lk : List Nat) (r : Res Fl) (m : List Addr) (fps : List (List Addr)) (H : Hp) : Ends := ⟨NxOf lk .nx r m fps H, RtOf lk r m fps H, NxOf lk .bk r m fps H, NxOf lk .ct r m fps H⟩
def SS (X : Cx) (s : Stmt) (lk : List Nat) (f : S → Res Fl) : Prop := ∀ st m fps σ H, XO X (f st) → Rel st m fps σ H → WS X s (DE lk (f st) m fps H) σ H
def SSs (X : Cx) (s : List Stmt) (lk : List Nat) (f : S → Res Fl) : Prop := ∀ st m fps σ H, XO X (f st) → Rel st m fps σ H → WSs X s (DE lk (f st) m fps H) σ H
theorem len_app {st st' : S} {m me : List Addr} {fps fps' : List (List Addr)} {σ σ' : L2.St} {H H' : Hp} (R : Rel st m fps σ H) (R' : Rel st' (m ++ me) fps' σ' H') : fps.length ≤ fps'.length := by
  have h1 := R.mlen; have h2 := R.flen; have h3 := R'.mlen; have h4 := R'.flen
  rw [List.length_append] at h3; omega
/-- the rest's ends from here are the whole's ends -/
theorem de_step {st st1 : S} {m me : List Addr} {fps fps1 : List (List Addr)} {σ σ1 : L2.St} {H H1 : Hp} {r r' : Res Fl} (R : Rel st m fps σ H) (R1 : Rel st1 (m ++ me) fps1 σ1 H1) (g : Grd lk fps fps1 H H1) (e : r' = r) : EndsImp (DE lk r' (m ++ me) fps1 H1) (DE lk r m fps H) := by
  subst e
  have hl := len_app R R1
  refine ⟨fun σ2 H2 ⟨st', me', fps', e, R2, g2⟩ => ?_, fun v H2 ⟨d, st', me', fps', fp, σ', e, R2, rr, g2, n2⟩ => ?_, fun σ2 H2 ⟨st', me', fps', e, R2, g2⟩ => ?_, fun σ2 H2 ⟨st', me', fps', e, R2, g2⟩ => ?_⟩
  · exact ⟨st', me ++ me', fps', e, by rw [← List.append_assoc]; exact R2, g.trans g2 R1 (fun _ h => h) hl⟩
  · exact ⟨d, st', me ++ me', fps', fp, σ', e, by rw [← List.append_assoc]; exact R2, by rw [← List.append_assoc]; exact rr, g.trans g2 R1 (fun _ h => h) hl, n2.trans g⟩
  · exact ⟨st', me ++ me', fps', e, by rw [← List.append_assoc]; exact R2, g.trans g2 R1 (fun _ h => h) hl⟩
  · exact ⟨st', me ++ me', fps', e, by rw [← List.append_assoc]; exact R2, g.trans g2 R1 (fun _ h => h) hl⟩
theorem ss_nil : SSs X [] lk (oSs κ lk .nil) := fun st m fps σ H hx R => wss_pss pss_nil ⟨st, [], fps, by simp only [oSs], by rw [List.append_nil]; exact R, Grd.refl⟩
theorem ss_cons {s : Stmt} {ss : List Stmt} {a : St} {as : Ss} (ha : SS X s lk (oS κ lk a)) (hb : SSs X ss lk (oSs κ lk as)) : SSs X (s :: ss) lk (oSs κ lk (.cons a as)) := by
  intro st m fps σ H hx R
  rw [oSs] at hx ⊢
  refine wss_pss (pss_cons ps_ws pss_wss) (WS.imp (ha st m fps σ H hx.fst R) ⟨fun σ1 H1 ⟨st1, me, fps1, e, R1, g1⟩ => ?_, fun v H1 ⟨d, st1, me, fps1, fp, σ1, e, R1, rr, g1, n1⟩ => ?_, fun σ1 H1 ⟨st1, me, fps1, e, R1, g1⟩ => ?_, fun σ1 H1 ⟨st1, me, fps1, e, R1, g1⟩ => ?_⟩)
  · exact WSs.imp (hb st1 (m ++ me) fps1 σ1 H1 (hx.snd e) R1) (de_step R R1 g1 (by rw [e]; rfl))
  · exact ⟨d, st1, me, fps1, fp, σ1, by rw [e]; rfl, R1, rr, g1, n1⟩
  · exact ⟨st1, me, fps1, by rw [e]; rfl, R1, g1⟩
  · exact ⟨st1, me, fps1, by rw [e]; rfl, R1, g1⟩
/-! ### one statement -/
theorem ss_pass : SS X (.Pass p) lk (oS κ lk .pass) := fun st m fps σ H hx R => ws_ps ps_pass ⟨st, [], fps, by simp only [oS], by rw [List.append_nil]; exact R, Grd.refl⟩
theorem ss_brk : SS X (.Break p) lk (oS κ lk .brk) := fun st m fps σ H hx R => ws_ps ps_break ⟨st, [], fps, by simp only [oS], by rw [List.append_nil]; exact R, Grd.refl⟩
theorem ss_cnt : SS X (.Continue p) lk (oS κ lk .cnt) := fun st m fps σ H hx R => ws_ps ps_continue ⟨st, [], fps, by simp only [oS], by rw [List.append_nil]; exact R, Grd.refl⟩
theorem ss_retN : SS X (.Return none p) lk (oS κ lk .retN) := fun st m fps σ H hx R => ws_ps ps_retN ⟨.non, st, [], fps, [], σ, by simp only [oS], by rw [List.append_nil]; exact R, .tree (.fro .non) (by simp), Grd.refl, NF.nil⟩
theorem ss_ret {c : C} {e : Expr} (g : GoodE X κ c e) : SS X (.Return (some e) p) lk (oS κ lk (.ret c)) := by
  intro st m fps σ H hx R
  rw [oS] at hx ⊢
  refine ws_ps (ps_ret pe_we) (WE.imp (g.se lk st m fps σ H hx.fst R) fun v H1 ⟨d, st1, e, fps1, fp, R1, r1, g1, n1⟩ => ?_)
  exact ⟨d, st1, [], fps1, fp, σ, by rw [e]; rfl, by rw [List.append_nil]; exact R1, by rw [List.append_nil]; exact r1, g1, n1⟩
theorem ss_iff {c : C} {c' : Expr} {a b : Ss} {a' b' : List Stmt} (g : GoodE X κ c c') (ha : SSs X a' lk (oSs κ lk a)) (hb : SSs X b' lk (oSs κ lk b)) : SS X (.If c' a' b' p) lk (oS κ lk (.iff c a b)) := by
  intro st m fps σ H hx R
  rw [oS] at hx ⊢
  refine ws_ps (ps_if pt_wt pss_wss pss_wss) (WT.imp (g.st lk st m fps σ H hx.fst R) fun t H1 ⟨st1, fps1, e, R1, g1⟩ => ?_)
  have hx1 := hx.snd e
  have R1' : Rel st1 (m ++ []) fps1 σ H1 := by rw [List.append_nil]; exact R1
  cases t with
  | true =>
    rw [if_pos rfl]
    exact WSs.imp (ha st1 (m ++ []) fps1 σ H1 hx1 R1') (de_step R R1' g1 (by dsimp only at e; rw [e]; rfl))
  | false =>
    rw [if_neg Bool.false_ne_true]
    exact WSs.imp (hb st1 (m ++ []) fps1 σ H1 hx1 R1') (de_step R R1' g1 (by dsimp only at e; rw [e]; rfl))
theorem ss_ex {c : C} {e : Expr} (g : GoodE X κ c e) (hs : notLC e = true) : SS X (.Expr e p) lk (oS κ lk (.ex c)) := by
  intro st m fps σ H hx R
  rw [oS] at hx ⊢
  have hsw : swapsWith e none p.line X.env = pure false := by
    cases e <;> first | rfl | cases hs
  refine ws_ps (ps_expr pe_we hsw) (WE.imp (g.se lk st m fps σ H hx.fst R) fun v H1 ⟨d, st1, e, fps1, fp, R1, r1, g1, n1⟩ => ?_)
  exact ⟨st1, [], fps1, by rw [e]; rfl, by rw [List.append_nil]; exact R1, g1⟩
theorem swaps_eq (hk : X.env.scope.kind = .function) (hsc : X.env.scope = q.sc) {e t : Expr} (hd : notDC e = true) (l : Nat) : swapsWith e (some t) l X.env = pure (swB q e t) := by
  have hb : X.env.blockKind = .function := by unfold Env.blockKind; rw [hk]; rfl
  cases e <;> first | (cases hd; done) | skip
  all_goals first
    | rfl
    | (cases t <;> first
        | rfl
        | (rename_i x px
           unfold swapsWith swB
           have hkk : X.env.kindOf x = q.sc.names.lookup x := by unfold Env.kindOf; rw [hsc]
           simp only [hb, hkk, Expr.pos]
           show pure _ = pure _
           congr 1
           cases hL : q.sc.names.lookup x with
           | none => simp
           | some k => cases k <;> simp <;> rfl))
theorem fm_len {α β : Type} (f : α → Option β) : ∀ l : List α, (l.filterMap f).length ≤ l.length ∧ ((∃ x ∈ l, f x = none) → (l.filterMap f).length < l.length)
  | [] => ⟨Nat.le_refl _, fun ⟨x, h, _⟩ => by cases h⟩
  | a :: l => by
    obtain ⟨h1, h2⟩ := fm_len f l
    cases e : f a with
    | none =>
      rw [List.filterMap_cons_none e]
      exact ⟨Nat.le_succ_of_le h1, fun _ => Nat.lt_succ_of_le h1⟩
    | some b =>
      rw [List.filterMap_cons_some e]
      refine ⟨Nat.succ_le_succ h1, fun ⟨x, hx, hn⟩ => ?_⟩
      rcases List.mem_cons.mp hx with z | z
      · subst z; rw [e] at hn; cases hn
      · exact Nat.succ_lt_succ (h2 ⟨x, z, hn⟩)
theorem stores_none {tg e : Expr} (hsc : X.env.scope = q.sc) (h : noSw q tg e = true) : swappedStores [tg] e X.env = pure none := by
  cases tg <;> first
    | (cases h; done)
    | (cases e <;> rfl)
    | (cases e <;> first
        | rfl
        | (rename_i ts k1 p1 vs k2 p2
           unfold swappedStores
           dsimp only
           split
           · rfl
           · split
             · rfl
             · have hs : ∃ t ∈ ts, isLocNm q t = false := by
                 simp only [noSw, List.any_eq_true] at h
                 obtain ⟨t, ht, hn⟩ := h
                 exact ⟨t, ht, by simpa using hn⟩
               obtain ⟨t, ht, hn⟩ := hs
               split
               · rfl
               · rename_i hc
                 exfalso
                 apply hc
                 rw [Bool.or_eq_true]
                 left
                 rw [bne_iff_ne]
                 refine Nat.ne_of_lt ((fm_len _ ts).2 ⟨t, ht, ?_⟩)
                 cases t <;> first
                   | rfl
                   | (rename_i x px
                      have hkk : X.env.kindOf x = q.sc.names.lookup x := by unfold Env.kindOf; rw [hsc]
                      simp only [isLocNm, decide_eq_false_iff_not] at hn
                      rw [← hkk] at hn
                      simp [hn])))
end
end OV
/-! text OVZA -/
namespace OV
open PySem PySem.Spec PyProof.Rows L2
variable [Tabled] [Kn]
section
variable {X : Cx} {q : SX} {κ : K} {n : Nat} {lk : List Nat} {p : Pos}
theorem Rel.trim {st : S} {m me : List Addr} {fps : List (List Addr)} {σ : L2.St} {H : Hp} (R : Rel st (m ++ me) fps σ H) : Rel (OV.trim m.length st) m (fps.take m.length) σ H := by
  have hl := R.mlen
  have hf := R.flen
  rw [List.length_append] at hl
  unfold OV.trim
  by_cases h : st.ce.length ≤ m.length
  · rw [if_pos h]
    have hme : me = [] := List.eq_nil_of_length_eq_zero (by omega)
    subst hme
    rw [List.take_of_length_le (by omega)]
    rw [List.append_nil] at R
    exact R
  · rw [if_neg h]
    have hlt : m.length ≤ st.ce.length := by omega
    refine ⟨by simpa using R.slen, fun i d e => ?_, by simp; omega, by simp; omega, fun j d e => ?_, fun j e => ?_, ?_, R.tab⟩
    · have e : (st.sl.map (dang m.length))[i]? = some (some d) := e
      rw [List.getElem?_map] at e
      cases ho : st.sl[i]? with
      | none => rw [ho] at e; cases e
      | some o =>
        rw [ho] at e
        have e : dang m.length o = some d := by simpa using e
        have hod : o = some d ∧ ∀ k, d = .ref k → k < m.length := by
          unfold dang at e
          split at e
          · split at e
            · rename_i hk; cases e; exact ⟨rfl, fun k' ek => by cases ek; exact hk⟩
            · cases e
          · rename_i hno
            subst e
            exact ⟨rfl, fun k ek => (hno k (by rw [ek])).elim⟩
        obtain ⟨rfl, hk⟩ := hod
        obtain ⟨v, h1, h2⟩ := R.sl i d ho
        refine ⟨v, h1, ?_⟩
        cases h2 with
        | fro h => exact .fro h
        | @ref a k' hm' => exact .ref (by rw [List.getElem?_append_left (hk k' rfl)] at hm'; exact hm')
        | clo hm' => exact .clo hm'
    · have e : (st.ce.take m.length)[j]? = some (some d) := e
      have hj : j < m.length := by
        have := (List.getElem?_eq_some_iff.mp e).1
        simp at this; omega
      rw [List.getElem?_take_of_lt hj] at e
      obtain ⟨a, f, h1, h2, h3, h4⟩ := R.ce j d e
      exact ⟨a, f, by rw [List.getElem?_append_left hj] at h1; exact h1, by rw [List.getElem?_take_of_lt hj]; exact h2, h3, h4⟩
    · have e : (st.ce.take m.length)[j]? = some none := e
      have hj : j < m.length := by
        have := (List.getElem?_eq_some_iff.mp e).1
        simp at this; omega
      rw [List.getElem?_take_of_lt hj] at e
      rw [List.getElem?_take_of_lt hj]; exact R.dead j e
    · exact R.dis.sublist (List.take_sublist _ _)
theorem Grd.trim {m : List Addr} {st : S} {fps fps' : List (List Addr)} {σ : L2.St} {H H' : Hp} (R : Rel st m fps σ H) (g : Grd lk fps fps' H H') : Grd lk fps (fps'.take m.length) H H' := by
  refine ⟨g.keep, g.there, fun b ⟨f, hf, hb⟩ => g.fresh b ⟨f, List.mem_of_mem_take hf, hb⟩, fun j hj f hf => ?_⟩
  have hlt : j < m.length := by
    have := (List.getElem?_eq_some_iff.mp hf).1
    have := R.flen; have := R.mlen; omega
  rw [List.getElem?_take_of_lt hlt]; exact g.lock j hj f hf
theorem GX.trim {x : List Addr} {m : List Addr} {st : S} {fps fps' : List (List Addr)} {σ : L2.St} {H H' : Hp} (R : Rel st m fps σ H) (g : GX x lk fps fps' H H') : GX x lk fps (fps'.take m.length) H H' := by
  refine ⟨g.keep, g.there, fun b ⟨f, hf, hb⟩ => g.fresh b ⟨f, List.mem_of_mem_take hf, hb⟩, fun j hj f hf => ?_⟩
  have hlt : j < m.length := by
    have := (List.getElem?_eq_some_iff.mp hf).1
    have := R.flen; have := R.mlen; omega
  rw [List.getElem?_take_of_lt hlt]; exact g.lock j hj f hf
/-! ### while -/
theorem whN_c {c : S → Res Bool} {b : S → Res Fl} {n k : Nat} {st : S} (h : XO X (whN c b n (k + 1) st)) : XO X (c st) := by
  unfold whN at h
  cases hr : c st with
  | ok _ _ => trivial
  | ex c' a s => rw [hr] at h; exact h
  | no => rw [hr] at h; exact h
theorem whN_b {c : S → Res Bool} {b : S → Res Fl} {n k : Nat} {st st1 : S} (h : XO X (whN c b n (k + 1) st)) (e : c st = .ok true st1) : XO X (b st1) := by
  unfold whN at h
  rw [e] at h
  cases hr : b st1 with
  | ok _ _ => trivial
  | ex c' a s => simp only [hr] at h; exact h
  | no => simp only [hr] at h; exact h
theorem XO.ne {α : Type} {r : Res α} (h : XO X r) : r ≠ .no := fun e => by rw [e] at h; exact h
theorem ss_whl {c : C} {c' : Expr} {b : Ss} {b' : List Stmt} (cs : CxtS X q κ n) (g : GoodE X κ c c') (hb : SSs X b' lk (oSs κ lk b)) : SS X (.While c' b' [] p) lk (oS κ lk (.whl c b)) := by
  intro st m fps σ H hx R
  rw [oS] at hx ⊢
  have hn : st.ce.length = m.length := R.mlen.symm
  -- so many turns
  have hk : ∃ k, wh (fun s => boolR (oE κ lk c s)) (fun s => oSs κ lk b s) st.ce.length st = whN (fun s => boolR (oE κ lk c s)) (fun s => oSs κ lk b s) st.ce.length k st := by
    unfold wh at hx ⊢
    by_cases h : ∃ k, whN (fun s => boolR (oE κ lk c s)) (fun s => oSs κ lk b s) st.ce.length k st ≠ .no
    · rw [dif_pos h]; exact ⟨_, rfl⟩
    · rw [dif_neg h] at hx; exact hx.elim
  obtain ⟨k0, ek⟩ := hk
  rw [ek] at hx ⊢
  rw [hn] at hx ⊢
  generalize hC : (fun s => boolR (oE κ lk c s)) = fc at hx ⊢
  generalize hB : (fun s => oSs κ lk b s) = fb at hx ⊢
  have fcE : ∀ s, fc s = boolR (oE κ lk c s) := fun s => by rw [← hC]
  have fbE : ∀ s, fb s = oSs κ lk b s := fun s => by rw [← hB]
  refine ws_ps (ps_while cs.pass pt_wt pss_wss) ⟨fun k σ' H' => ∃ st' fps', Rel st' m fps' σ' H' ∧ Grd lk fps fps' H H' ∧ whN fc fb m.length k st' = whN fc fb m.length k0 st ∧ XO X (whN fc fb m.length k st'), ⟨k0, st, fps, R, Grd.refl, rfl, hx⟩, ?_⟩
  rintro k σ1 H1 ⟨st1, fps1, R1, g1, e1, hx1⟩
  cases k with
  | zero => unfold whN at hx1; exact hx1.elim
  | succ k =>
    have hxc := whN_c hx1
    rw [fcE] at hxc
    refine WT.imp (g.st lk st1 m fps1 σ1 H1 hxc R1) fun t H2 ⟨st2, fps2, e2, R2, g2⟩ => ?_
    have e2 : fc st1 = .ok t st2 := by rw [fcE]; exact e2
    have g12 := g1.trans g2 R1 (fun _ h => h) (R.len_le R1)
    cases t with
    | false =>
      rw [if_neg Bool.false_ne_true]
      refine ⟨st2, [], fps2, ?_, by rw [List.append_nil]; exact R2, g12⟩
      rw [← e1]; unfold whN; rw [e2]
    | true =>
      rw [if_pos rfl]
      have hxb := whN_b hx1 e2
      rw [fbE] at hxb
      refine ⟨_, fun _ _ h => h, WSs.imp (hb st2 m fps2 σ1 H2 hxb R2) ⟨fun σ3 H3 ⟨st3, me, fps3, e3, R3, g3⟩ => ?_, fun v H3 ⟨d, st3, me, fps3, fp, σ3, e3, R3, rr, g3, n3⟩ => ?_, fun σ3 H3 ⟨st3, me, fps3, e3, R3, g3⟩ => ?_, fun σ3 H3 ⟨st3, me, fps3, e3, R3, g3⟩ => ?_⟩⟩
      · have e3 : fb st2 = .ok .nx st3 := by rw [fbE]; exact e3
        have ew : whN fc fb m.length (k + 1) st1 = whN fc fb m.length k (OV.trim m.length st3) := by rw [whN]; simp only [e2, e3]
        exact ⟨k, Nat.lt_succ_self k, OV.trim m.length st3, fps3.take m.length, R3.trim, g12.trans (Grd.trim R2 g3) R2 (fun _ h => h) (R.len_le R2), by rw [← ew]; exact e1, by rw [← ew]; exact hx1⟩
      · have e3 : fb st2 = .ok (.rt d) st3 := by rw [fbE]; exact e3
        have ew : whN fc fb m.length (k + 1) st1 = .ok (.rt d) st3 := by rw [whN]; simp only [e2, e3]
        exact ⟨d, st3, me, fps3, fp, σ3, by rw [← e1, ew], R3, rr, g12.trans g3 R2 (fun _ h => h) (R.len_le R2), n3.trans g12⟩
      · have e3 : fb st2 = .ok .bk st3 := by rw [fbE]; exact e3
        have ew : whN fc fb m.length (k + 1) st1 = .ok .nx (OV.trim m.length st3) := by rw [whN]; simp only [e2, e3]
        exact ⟨OV.trim m.length st3, [], fps3.take m.length, by rw [← e1, ew], by rw [List.append_nil]; exact R3.trim, g12.trans (Grd.trim R2 g3) R2 (fun _ h => h) (R.len_le R2)⟩
      · have e3 : fb st2 = .ok .ct st3 := by rw [fbE]; exact e3
        have ew : whN fc fb m.length (k + 1) st1 = whN fc fb m.length k (OV.trim m.length st3) := by rw [whN]; simp only [e2, e3]
        exact ⟨k, Nat.lt_succ_self k, OV.trim m.length st3, fps3.take m.length, R3.trim, g12.trans (Grd.trim R2 g3) R2 (fun _ h => h) (R.len_le R2), by rw [← ew]; exact e1, by rw [← ew]; exact hx1⟩
/-! ### for -/
theorem ss_for {it : I} {it' t' : Expr} {t : T} {b : Ss} {b' : List Stmt} (cs : CxtS X q κ n) (hf : okE it' = true) (si : SI X t' it' lk (oI κ lk it)) (sg : ∀ lk, SG X t' lk t.slots (oTg κ lk t)) (hb : ∀ lk, SSs X b' lk (oSs κ lk b)) : SS X (.For t' it' b' [] p) lk (oS κ lk (.for t it b)) := by
  intro st m fps σ H hx R
  rw [oS] at hx ⊢
  refine ws_ps (ps_for cs.pass cs.cx.calm pi_wi pg_wg pss_wss (fold_ok hf X.env)) ?_
  have hsi := si st m fps σ H hx.fst R [] Out.nil
  refine fun pins s I => thn (hsi pins s I) fun v s1 h1 => thn h1 fun itv s2 h2 => ?_
  obtain ⟨itA, fp, tn, J, H1, e, I2, T, st2', f2, ds, l, st1, fps1, e1, R1, g1, src⟩ := h2
  refine ⟨itA, fp, tn, J, H1, e, I2, T, st2', f2, ?_⟩
  have hx1 := hx.snd e1
  have hn : st1.ce.length = m.length := R1.mlen.symm
  dsimp only at hx1
  rw [hn] at hx1
  generalize hF : (fun (d : D) (s : S) => (oTg κ (l ++ lk) t d s).bind fun _ s1 => oSs κ (l ++ lk) b s1) = F at hx1
  have FE : ∀ d s, F d s = (oTg κ (l ++ lk) t d s).bind fun _ s1 => oSs κ (l ++ lk) b s1 := fun d s => by rw [← hF]
  have er : ((oI κ lk it st).bind fun (ds, l) st1 => folS (fun d s => (oTg κ (l ++ lk) t d s).bind fun _ s1 => oSs κ (l ++ lk) b s1) st1.ce.length ds st1) = folS F m.length ds st1 := by
    rw [e1, Res.bind_ok]
    dsimp only
    rw [hn, hF]
  rw [er]
  refine ⟨fun i mm σ' H' => ∃ sti fpsi, mm = ds.length - i ∧ i ≤ ds.length ∧ Rel sti m fpsi σ' H' ∧ GX [] (l ++ lk) fps1 fpsi H1 H' ∧ folS F m.length ds st1 = folS F m.length (ds.drop i) sti ∧ XO X (folS F m.length (ds.drop i) sti), ⟨ds.length, st1, fps1, rfl, Nat.zero_le _, R1, GX.refl, rfl, hx1⟩, ?_⟩
  rintro i mm σi Hi ⟨sti, fpsi, rfl, hi, Ri, gi, ei, hxi⟩
  have so := src fpsi Hi (gi.less fun _ h => List.mem_append_left _ h) i
  have gG : Grd lk fps fpsi H Hi := g1.trans gi.grd R1 (fun _ h => List.mem_append_right _ h) (R.len_le R1)
  by_cases hlt : i < ds.length
  · right
    have hd : ds[i]? = some ds[i] := List.getElem?_eq_getElem hlt
    obtain ⟨go, hy⟩ := so.1 _ hd
    have hdrop : ds.drop i = ds[i] :: ds.drop (i + 1) := List.drop_eq_getElem_cons hlt
    generalize ds[i] = d at hd go hy hdrop
    rw [hdrop] at ei hxi
    refine ⟨go, _, fun _ _ h => h, fun x H3 y3 => ?_⟩
    obtain ⟨ext, rx⟩ := hy x H3 y3
    have R3 : Rel sti m fpsi σi H3 := Ri.mono fun b o e _ => ext b o e
    have g3 : Grd (l ++ lk) fpsi fpsi Hi H3 := Grd.ext ext
    have hxF : XO X (F d sti) := by
      rw [folS] at hxi
      cases hr : F d sti with
      | ok _ _ => trivial
      | ex _ _ _ => rw [hr] at hxi; exact hxi
      | no => rw [hr] at hxi; exact hxi
    rw [FE] at hxF
    refine WG.imp (sg (l ++ lk) sti m fpsi σi H3 x d [] hxF.fst R3 (.tree (.fro rx) (by simp))) fun σ4 H4 ⟨st4, e4, me4, fps4, R4, t4, l4, o4⟩ => ?_
    have g4 := t4.grd
    have g34 : Grd (l ++ lk) fpsi fps4 Hi H4 := g3.trans g4 R3 (fun _ h => h) (Ri.len_le R3)
    have hx4 := hxF.snd e4
    have FE4 : F d sti = oSs κ (l ++ lk) b st4 := by rw [FE, e4, Res.bind_ok]
    have g1i4 : GX [] (l ++ lk) fps1 fps4 H1 H4 := gi.trans g34.gx Ri (fun _ h => h)
    have gA4 : Grd lk fps fps4 H H4 := g1.trans g1i4.grd R1 (fun _ h => List.mem_append_right _ h) (R.len_le R1)
    have gA : ∀ {fps5 : List (List Addr)} {H5 : Hp}, Grd (l ++ lk) fps4 fps5 H4 H5 → GX [] (l ++ lk) fps1 fps5 H1 H5 := fun g5 => g1i4.trans g5.gx R4 (fun _ h => h)
    refine WSs.imp (hb (l ++ lk) st4 (m ++ me4) fps4 σ4 H4 hx4 R4) ⟨fun σ5 H5 ⟨st5, me, fps5, e5, R5, g5⟩ => ?_, fun v H5 ⟨d5, st5, me, fps5, fp5, σ5, e5, R5, rr, g5, n5⟩ => ?_, fun σ5 H5 ⟨st5, me, fps5, e5, R5, g5⟩ => ?_, fun σ5 H5 ⟨st5, me, fps5, e5, R5, g5⟩ => ?_⟩
    · rw [List.append_assoc] at R5
      have ew : folS F m.length (d :: ds.drop (i + 1)) sti = folS F m.length (ds.drop (i + 1)) (OV.trim m.length st5) := by rw [folS]; simp only [FE4, e5]
      exact ⟨ds.length - (i + 1), by omega, OV.trim m.length st5, fps5.take m.length, rfl, hlt, R5.trim, GX.trim R1 (gA g5), by rw [ei, ew], by rw [← ew]; exact hxi⟩
    · rw [List.append_assoc] at R5 rr
      have ew : folS F m.length (d :: ds.drop (i + 1)) sti = .ok (.rt d5) st5 := by rw [folS]; simp only [FE4, e5]
      exact ⟨d5, st5, me4 ++ me, fps5, fp5, σ5, by rw [ei, ew], R5, rr, g1.trans (gA g5).grd R1 (fun _ h => List.mem_append_right _ h) (R.len_le R1), n5.trans gA4⟩
    · rw [List.append_assoc] at R5
      have ew : folS F m.length (d :: ds.drop (i + 1)) sti = .ok .nx (OV.trim m.length st5) := by rw [folS]; simp only [FE4, e5]
      exact ⟨OV.trim m.length st5, [], fps5.take m.length, by rw [ei, ew], by rw [List.append_nil]; exact R5.trim, g1.trans (GX.trim R1 (gA g5)).grd R1 (fun _ h => List.mem_append_right _ h) (R.len_le R1)⟩
    · rw [List.append_assoc] at R5
      have ew : folS F m.length (d :: ds.drop (i + 1)) sti = folS F m.length (ds.drop (i + 1)) (OV.trim m.length st5) := by rw [folS]; simp only [FE4, e5]
      exact ⟨ds.length - (i + 1), by omega, OV.trim m.length st5, fps5.take m.length, rfl, hlt, R5.trim, GX.trim R1 (gA g5), by rw [ei, ew], by rw [← ew]; exact hxi⟩
  · left
    have hil : i = ds.length := by omega
    have hdrop : ds.drop i = [] := List.drop_eq_nil_of_le (by omega)
    rw [hdrop] at ei
    exact ⟨so.2 hil, sti, [], fpsi, by rw [ei, folS], by rw [List.append_nil]; exact Ri, gG⟩
end
end OV
/-! text OVZB -/
namespace OV
open PySem PySem.Spec PyProof.Rows L2
variable [Tabled] [Kn]
section
variable {X : Cx} {q : SX} {κ : K} {n : Nat} {lk : List Nat} {p : Pos}
/-- a name's store, told apart from the model's step -/
theorem nm_ghost {live : Bool} {i : Nat} {pins : List (Addr × Obj)} {s : Shared} {st : S} {m : List Addr} {fps : List (List Addr)} {σ0 σ : L2.St} {H : Hp} {v : V} {d : D} {fp : List Addr} (I : Inv X pins σ0 H s) (hx : XO X (setN live i d st)) (R : Rel st m fps σ H) (r : RR H m fps v d fp) :
    ∃ H1 st', Inv X pins σ0 H1 s ∧ (∀ b, H b = none → H1 b = none) ∧ setN live i d st = .ok () st' ∧ PostG lk st' m fps σ H fp [i] (σ.set i (some v)) H1 := by
  have offs : ∀ {y : V} (j : Nat), j ∉ [i] → ((σ.set i (some y) : L2.St) : List (Option V))[j]? = (σ : List (Option V))[j]? := fun {y} j hj => by
    rw [List.getElem?_set_ne (fun e => hj (by simp [e]))]
  have cell : ∀ {ds : List D} {a : Addr} {fp : List Addr}, v = .ref a → RO H (.ref a) (.own ds) fp → (∀ b ∈ fp, ∀ f ∈ fps, b ∉ f) → PostG lk ⟨st.sl.set i (some (.ref st.ce.length)), st.ce ++ [some (.own ds)]⟩ m fps σ H fp [i] (σ.set i (some v)) H := fun {ds a fp} ev ro ap => by
    subst ev
    refine ⟨[a], fps ++ [fp], ?_, ⟨fun _ _ _ e _ _ => e, fun _ o e => ⟨o, e⟩, fun b ⟨f, hf, hb⟩ => ?_, fun j hj f hf => ?_⟩, by simp, offs⟩
    · have R' := R.push ro rfl ap
      exact R'.setsl (i := i) (v := .ref a) (d := .ref st.ce.length) (.ref (by rw [← R.mlen, List.getElem?_append_right (Nat.le_refl _), Nat.sub_self]; rfl))
    · rcases List.mem_append.mp hf with z | z
      · exact .inl ⟨f, z, hb⟩
      · rw [List.mem_singleton.mp z] at hb; exact .inr (.inl hb)
    · rw [List.getElem?_append_left (List.getElem?_eq_some_iff.mp hf).1]; exact hf
  have plain : setN live i d st = (match arg d with | some e => .ok () ⟨st.sl.set i (some e), st.ce⟩ | none => .no) → ∃ H1 st', Inv X pins σ0 H1 s ∧ (∀ b, H b = none → H1 b = none) ∧ setN live i d st = .ok () st' ∧ PostG lk st' m fps σ H fp [i] (σ.set i (some v)) H1 := fun es => by
    rw [es] at hx
    cases ha : arg d with
    | none => simp only [ha] at hx; exact hx.elim
    | some e =>
      simp only [ha] at es
      obtain ⟨H1, I1, rt, z⟩ := freezeA (fps := fps) I (RRs.cons r .nil (by simp)) (es := [e]) (by simp only [items, ha])
      have rt1 : RT H1 m v e := by cases rt with | cons h _ => exact h
      have mm := r.mem
      rw [List.append_nil] at z
      exact ⟨H1, _, I1, fun b hb => by rw [z.out b fun hm => by obtain ⟨⟨vs, e⟩, _⟩ := mm b hm; rw [hb] at e; cases e]; exact hb, es, [], fps, by rw [List.append_nil]; exact (R.fz z mm).setsl rt1, .of_fz z, by simp, offs⟩
  cases live with
  | false => exact plain rfl
  | true =>
    cases d with
    | new ds =>
      cases r with
      | tree ho n' =>
        cases ho with
        | new h3 r3 => exact ⟨H, _, I, fun _ h => h, rfl, cell rfl (.own h3 r3.toO (by simp)) n'⟩
        | fro h => cases h
    | own ds =>
      cases r with
      | tree ho n' =>
        obtain ⟨a, vs, g, ea, h3, r3, n3, rfl⟩ := ho.own_inv
        subst ea
        exact ⟨H, _, I, fun _ h => h, rfl, cell rfl (.own h3 r3 n3) n'⟩
    | set _ => cases r with | tree ho _ => cases ho with | fro h => cases h
    | _ => exact plain rfl
theorem RR.ap {H : Hp} {m : List Addr} {fps : List (List Addr)} {v : V} {d : D} {fp : List Addr} (r : RR H m fps v d fp) : ∀ b ∈ fp, ∀ f ∈ fps, b ∉ f := fun b hb => (r.mem b hb).2
theorem ss_asg {c : C} {e' t' : Expr} {t : T} (cx : Cxt X q κ n) (g : GoodE X κ c e') (sg : SG X t' lk t.slots (oTg κ lk t)) (ok : okE t' = true) (hd : notDC e' = true) (hs : swB q e' t' = false) (hw : noSw q t' e' = true) : SS X (.Assign [t'] e' p) lk (oS κ lk (.asg t c)) := by
  intro st m fps σ H hx R pins s' I
  rw [oS] at hx ⊢
  have hsw : swapsWithSole [t'] e' p.line X.env = pure false := by
    show swapsWith e' (some t') p.line X.env = pure false
    rw [swaps_eq I.ok.kind cx.sc hd, hs]
  refine (ws_ps (ps_asg pe_we pg_wg hsw (stores_none cx.sc hw) (by rw [each_plain ok]; rfl)) (WE.imp (g.se lk st m fps σ H hx.fst R) fun v H1 ⟨d, st1, e1, fps1, fp, R1, r1, g1, n1⟩ => ?_)) pins s' I
  have hx1 := hx.snd e1
  refine WG.imp (sg st1 m fps1 σ H1 v d fp hx1.fst R1 r1) fun σ2 H2 ⟨st2, e2, me, fps2, R2, t2, l2, o2⟩ => ?_
  exact ⟨st2, me, fps2, by rw [e1, Res.bind_ok, e2]; rfl, R2, g1.store t2 R1 n1 r1.ap⟩
/-- a comprehension's parts, by the check -/
theorem comp_parts {own : List Nat} {t : T} {it : I} {ifs : Cs} {gs : Gs} {e : Expr} (cx : Cxt X q κ n) (h : chkE q (.comp own t it ifs gs) e = true) : ∃ elt t' it' ifs' gs' scope p, e = .ListComp elt (⟨t', it', ifs', 0⟩ :: gs') scope p ∧ BlkOk X.N X.env.scope scope (ownN q own) ∧ CompOK X q κ n t it ifs gs elt t' it' ifs' gs' scope p ∧ (∀ i ∈ t.slots ++ gs.slots, i ∈ (ownN q own).map (·.2)) ∧ (ownN q own).map (·.2) = own := by
  simp only [chkE] at h
  split at h
  · rename_i elt t' it' ifs' gs' scope hv
    obtain ⟨p, rfl⟩ := vComp_eq hv
    obtain ⟨h1, h2⟩ := ch_and h
    obtain ⟨h2, h3⟩ := ch_and h2
    obtain ⟨h3, h4⟩ := ch_and h3
    obtain ⟨h4, h5⟩ := ch_and h4
    obtain ⟨h5, h6⟩ := ch_and h5
    obtain ⟨h6, h7⟩ := ch_and h6
    obtain ⟨h7, h8⟩ := ch_and h7
    obtain ⟨h8, h9⟩ := ch_and h8
    obtain ⟨h9, h10⟩ := ch_and h9
    have ho := ch_dec h3
    have ok := blkOk_by h2
    rw [← cx.N, ← cx.sc] at ok
    refine ⟨elt, t', it', ifs', gs', scope, p, rfl, ok, ⟨fun lk => good_i it cx h1 lk, fold_ok h6, fun g hg => good_gn gs h10 g hg, fun Y cY hE => ⟨⟨fun lk => good_t t cY h8 lk, h4, good_cs ifs cY h9, by simpa using h7⟩, fun L => good_g gs cY hE h10 [⟨t', it', ifs', 0⟩] rfl⟩⟩, fun i hi => ?_, ho⟩
    rw [ho]
    have := List.all_eq_true.mp h5 i hi
    simpa using this
  · cases h
/-- a name gets a comprehension's list while the block still stands -/
theorem ss_setC {own : List Nat} {t : T} {it : I} {ifs : Cs} {gs : Gs} {e' : Expr} {live : Bool} {i : Nat} {y : Str} {py : Pos} (cx : Cxt X q κ n) (hc : chkE q (.comp own t it ifs gs) e' = true) (hd : notDC e' = true) (hs : swB q e' (.Name y py) = true) (hn : strNameB q i y = true) :
    SS X (.Assign [.Name y py] e' p) lk (oS κ lk (.asg (.nm live i) (.comp own t it ifs gs))) := by
  obtain ⟨elt, t', it', ifs', gs', scope, pc, rfl, ok, cp, hsl, ho⟩ := comp_parts cx hc
  intro st m fps σ H hx R pins s I
  rw [oS] at hx ⊢
  have hsw : swapsWith (.ListComp elt (⟨t', it', ifs', 0⟩ :: gs') scope pc) (some (.Name y py)) p.line X.env = pure true := by rw [swaps_eq I.ok.kind cx.sc hd, hs]
  have hyl : X.env.scope.names.lookup y = some .local := by
    rw [cx.sc]
    simp only [swB, Bool.and_eq_true, decide_eq_true_eq] at hs
    exact hs.1
  have hN : X.N.Nodup := by rw [cx.N]; exact cx.nd
  have hy : X.N[i]? = some y := by
    unfold strNameB at hn
    simp only [Bool.and_eq_true, decide_eq_true_eq] at hn
    rw [cx.N]; exact hn.1
  rw [exec_Assign_Name_used _ _ _ _ hsw]
  refine wpAny_bind (wpAny_standAt (wpAny_bind ?_))
  show wpAny _ X.A (do let _ ← comprehension (.ListComp elt (⟨t', it', ifs', 0⟩ :: gs') scope pc) scope X.env (firstIterPos (⟨t', it', ifs', 0⟩ :: gs') pc) (newList []) false (eval it' X.env) (some (assign (.Name y py) X.env))) _ _ s
  have hxe : XO X (oE κ lk (.comp ((ownN q own).map (·.2)) t it ifs gs) st) := by rw [ho]; exact hx.fst
  refine wpAny_bind (thn (comp_core (Qf := fun _ s' => SP X pins (DE lk ((oE κ lk (.comp own t it ifs gs) st).bind fun d st1 => (oTg κ lk (.nm live i) d st1).bind fun _ st2 => .ok .nx st2) m fps H) .next s') cx ok cp hsl I R hxe fun L C s' mm H' I' q hn f => ?_) fun _ s' hq => wpAny_pure (wpAny_pure hq))
  show wpAny _ _ (assign (.Name y py) X.env (.ref L)) _ _ _
  rw [ho] at q
  obtain ⟨d, st1, e1, fps1, fp, R1, r1, g1, n1⟩ := q
  have hx1 := (hx.snd e1).fst
  rw [oTg] at hx1
  obtain ⟨H2, st2, I2, nn, e2, me, fps2, R2, t2, l2, o2⟩ := nm_ghost (lk := lk) I' hx1 R1 r1
  refine wpAny_assign_Name (store_ok2 (v := V.ref L) I2 hN hy (.inl hyl) rfl (fun s2 I3 ⟨a, sb, ha⟩ => ?_) (.inr hyl))
  obtain ⟨f0, f1, f2, f3, f4, f5⟩ := f
  have haC : C ≠ a := by
    rcases ha with z | z
    · rw [z]; exact f1
    · exact fun e => f4 y a z e.symm
  refine ⟨mm, hn.sameBut sb haC, fun h3 sb3 => ?_⟩
  have f02 : H2 C = none := nn C f0
  refine ⟨_, H2, I3.turned (t' := s2.toks) (fun b o hb e => (sb3.2 b hb).trans e) f02 f1 f3 f4 f5, ⟨st2, me, fps2, ?_, R2, g1.store t2 R1 n1 r1.ap⟩⟩
  rw [e1, Res.bind_ok, oTg, e2]; rfl
/-- a dict comprehension's parts, by the check -/
theorem dcomp_parts {tk : Bool} {own : List Nat} {t : T} {it : I} {ifs : Cs} {ka va : C} {e : Expr} (cx : Cxt X q κ n) (h : chkE q (.dcomp tk own t it ifs ka va) e = true) : ∃ kx vx t' it' ifs' scope p, e = .DictComp kx vx [⟨t', it', ifs', 0⟩] scope p ∧ BlkOk X.N X.env.scope scope (ownN q own) ∧ DCompOK X q κ n t it ifs ka va kx vx t' it' ifs' scope ∧ (∀ i ∈ t.slots, i ∈ (ownN q own).map (·.2)) ∧ (ownN q own).map (·.2) = own := by
  simp only [chkE] at h
  split at h
  · rename_i kx vx t' it' ifs' scope hv
    obtain ⟨p, rfl⟩ := vDC_eq hv
    obtain ⟨h1, h2⟩ := ch_and h
    obtain ⟨h2, h3⟩ := ch_and h2
    obtain ⟨h3, h4⟩ := ch_and h3
    obtain ⟨h4, h5⟩ := ch_and h4
    obtain ⟨h5, h6⟩ := ch_and h5
    obtain ⟨h6, h7⟩ := ch_and h6
    obtain ⟨h7, h8⟩ := ch_and h7
    obtain ⟨h8, h9⟩ := ch_and h8
    obtain ⟨h9, h10⟩ := ch_and h9
    obtain ⟨h10, h11⟩ := ch_and h10
    have ho := ch_dec h3
    have ok := blkOk_by h2
    rw [← cx.N, ← cx.sc] at ok
    refine ⟨kx, vx, t', it', ifs', scope, p, rfl, ok, ⟨fun lk => good_i it cx h1 lk, fold_ok h6, fun Y cY => ⟨⟨fun lk => good_t t cY h8 lk, h4, good_cs ifs cY h9, by simpa using h7⟩, good_c ka cY h10, good_c va cY h11⟩⟩, fun i hi => ?_, ho⟩
    rw [ho]
    have := List.all_eq_true.mp h5 i hi
    simpa using this
  · cases h
/-- a name gets a comprehension's dict while the block still stands -/
theorem ss_setDC {tk : Bool} {own : List Nat} {t : T} {it : I} {ifs : Cs} {ka va : C} {e' : Expr} {live : Bool} {i : Nat} {y : Str} {py : Pos} (cx : Cxt X q κ n) (hc : chkE q (.dcomp tk own t it ifs ka va) e' = true) (hd : notDC e' = true) (hs : swB q e' (.Name y py) = true) (hn : strNameB q i y = true) :
    SS X (.Assign [.Name y py] e' p) lk (oS κ lk (.asg (.nm live i) (.dcomp tk own t it ifs ka va))) := by
  obtain ⟨kx, vx, t', it', ifs', scope, pc, rfl, ok, cp, hsl, ho⟩ := dcomp_parts cx hc
  intro st m fps σ H hx R pins s I
  rw [oS] at hx ⊢
  have hsw : swapsWith (.DictComp kx vx [⟨t', it', ifs', 0⟩] scope pc) (some (.Name y py)) p.line X.env = pure true := by rw [swaps_eq I.ok.kind cx.sc hd, hs]
  have hyl : X.env.scope.names.lookup y = some .local := by
    rw [cx.sc]
    simp only [swB, Bool.and_eq_true, decide_eq_true_eq] at hs
    exact hs.1
  have hN : X.N.Nodup := by rw [cx.N]; exact cx.nd
  have hy : X.N[i]? = some y := by
    unfold strNameB at hn
    simp only [Bool.and_eq_true, decide_eq_true_eq] at hn
    rw [cx.N]; exact hn.1
  rw [exec_Assign_Name_used _ _ _ _ hsw]
  refine wpAny_bind (wpAny_standAt (wpAny_bind ?_))
  show wpAny _ X.A (do let _ ← comprehension (.DictComp kx vx [⟨t', it', ifs', 0⟩] scope pc) scope X.env (firstIterPos [⟨t', it', ifs', 0⟩] pc) newDict false (eval it' X.env) (some (assign (.Name y py) X.env))) _ _ s
  have hxe : XO X (oE κ lk (.dcomp tk ((ownN q own).map (·.2)) t it ifs ka va) st) := by rw [ho]; exact hx.fst
  refine wpAny_bind (thn (dcomp_core (Qf := fun _ s' => SP X pins (DE lk ((oE κ lk (.dcomp tk own t it ifs ka va) st).bind fun d st1 => (oTg κ lk (.nm live i) d st1).bind fun _ st2 => .ok .nx st2) m fps H) .next s') cx ok cp hsl I R hxe fun L C s' mm H' I' q hn f => ?_) fun _ s' hq => wpAny_pure (wpAny_pure hq))
  show wpAny _ _ (assign (.Name y py) X.env (.ref L)) _ _ _
  rw [ho] at q
  obtain ⟨d, st1, e1, fps1, fp, R1, r1, g1, n1⟩ := q
  have hx1 := (hx.snd e1).fst
  rw [oTg] at hx1
  obtain ⟨H2, st2, I2, nn, e2, me, fps2, R2, t2, l2, o2⟩ := nm_ghost (lk := lk) I' hx1 R1 r1
  refine wpAny_assign_Name (store_ok2 (v := V.ref L) I2 hN hy (.inl hyl) rfl (fun s2 I3 ⟨a, sb, ha⟩ => ?_) (.inr hyl))
  obtain ⟨f0, f1, f2, f3, f4, f5⟩ := f
  have haC : C ≠ a := by
    rcases ha with z | z
    · rw [z]; exact f1
    · exact fun e => f4 y a z e.symm
  refine ⟨mm, hn.sameBut sb haC, fun h3 sb3 => ?_⟩
  have f02 : H2 C = none := nn C f0
  refine ⟨_, H2, I3.turned (t' := s2.toks) (fun b o hb e => (sb3.2 b hb).trans e) f02 f1 f3 f4 f5, ⟨st2, me, fps2, ?_, R2, g1.store t2 R1 n1 r1.ap⟩⟩
  rw [e1, Res.bind_ok, oTg, e2]; rfl
theorem setN_lk {live : Bool} {i : Nat} {d : D} {st : S} (h : XO X (setN live i d st)) : lkO d = [] := by
  cases d <;> first | rfl | (cases live <;> exact h.elim)
theorem par_stores {x y : Str} {px py : Pos} {a b : Expr} {k1 p1 k2 p2} (hk : X.env.scope.kind = .function) (hx : X.env.scope.names.lookup x = some .local) (hy : X.env.scope.names.lookup y = some .local) (hxy : x ≠ y) (hl : (py.line == px.line) = true) (h1 : [a, b].all (foldedForSure 8) = false) (h2 : [a, b].all (constantsAlone 8) = false) (oa : okE a = true) (ob : okE b = true) :
    swappedStores [.Tuple [.Name x px, .Name y py] k1 p1] (.Tuple [a, b] k2 p2) X.env = pure (some [x, y]) := by
  have hb : X.env.blockKind = .function := by unfold Env.blockKind; rw [hk]; rfl
  have kx : X.env.kindOf x = some .local := hx
  have ky : X.env.kindOf y = some .local := hy
  have hst : ([a, b].any fun | .Starred .. => true | _ => false) = false := by
    cases a <;> cases b <;> first | rfl | (cases oa; done) | (cases ob; done)
  have hpl : (Expr.Name x px).pos.line = px.line := rfl
  have hyx : (y == x) = false := by simpa using fun e => hxy e.symm
  unfold swappedStores
  simp only [List.length_cons, List.length_nil, hb, hst, h1, h2]
  simp [kx, ky, hpl, hl, List.eraseDups_cons, hyx]
  have hl' : py.line = px.line := by simpa using hl
  rw [if_neg (fun h => h.elim (fun z => by cases a <;> first | (cases z; done) | (cases oa; done)) fun z => by cases b <;> first | (cases z; done) | (cases ob; done))]
  have hfm : ∀ f : Expr → Option Str, f (.Name y py) = some y → List.filterMap f [Expr.Name y py] = [y] := fun f hf => by simp [hf]
  rw [hfm _ (by simp only [ky, hl', and_self, if_true])]
  have hfl : List.filter (fun b => !b == x) [y] = [y] := by simp [hyx]
  rw [hfl]
  rfl
theorem ss_par {a b : C} {a' b' : Expr} {l l' : Bool} {i j : Nat} {x y : Str} {px py : Pos} {k1 p1 k2 p2} (cx : Cxt X q κ n) (ga : GoodE X κ a a') (gb : GoodE X κ b b') (hi : strNameB q i x = true) (hj : strNameB q j y = true) (hij : i ≠ j) (hxy : x ≠ y) (hx : q.sc.names.lookup x = some .local) (hy : q.sc.names.lookup y = some .local) (hl : (py.line == px.line) = true)
    (h1 : [a', b'].all (foldedForSure 8) = false) (h2 : [a', b'].all (constantsAlone 8) = false) : SS X (.Assign [.Tuple [.Name x px, .Name y py] k1 p1] (.Tuple [a', b'] k2 p2) p) lk (oS κ lk (.par l i l' j a b)) := by
  intro st m fps σ H hxo R pins s I
  rw [oS] at hxo ⊢
  have hx' : X.env.scope.names.lookup x = some .local := by rw [cx.sc]; exact hx
  have hy' : X.env.scope.names.lookup y = some .local := by rw [cx.sc]; exact hy
  have ix : X.N[i]? = some x := by
    unfold strNameB at hi
    simp only [Bool.and_eq_true, decide_eq_true_eq] at hi
    rw [cx.N]; exact hi.1
  have jy : X.N[j]? = some y := by
    unfold strNameB at hj
    simp only [Bool.and_eq_true, decide_eq_true_eq] at hj
    rw [cx.N]; exact hj.1
  have hst : starEach [a', b'] X.env = (false, eval a' X.env) :: starEach [b'] X.env := star_plain ga.ok _ _
  have hst2 : starEach [b'] X.env = (false, eval b' X.env) :: starEach [] X.env := star_plain gb.ok _ _
  have args : WA X [a', b'] σ H fun vs H1 => ∃ v w d1 d2 st2 fps2 f1 f2, vs = [v, w] ∧ Rel st2 m fps2 σ H1 ∧ RR H1 m fps2 v d1 f1 ∧ RR H1 m fps2 w d2 f2 ∧ (∀ b ∈ f1, b ∉ f2) ∧ Grd lk fps fps2 H H1 ∧ NF f1 fps H ∧ NF f2 fps H ∧
      ((oE κ lk a st).bind fun x st1 => (oE κ (lkO x ++ lk) b st1).bind fun y st2 => (setN l' j y st2).bind fun _ st3 => (setN l i x st3).bind fun _ st4 => Res.ok Fl.nx st4) = ((setN l' j d2 st2).bind fun _ st3 => (setN l i d1 st3).bind fun _ st4 => .ok .nx st4) := by
    refine wa_pa (pa_cons pe_we (pa_cons pe_we pa_nil hst2) hst) (WE.imp (ga.se lk st m fps σ H hxo.fst R) fun v H1 ⟨d1, st1, e1, fps1, f1, R1, r1, g1, n1⟩ => ?_)
    have hx1 := hxo.snd e1
    refine WE.imp (gb.se (lkO d1 ++ lk) st1 m fps1 σ H1 hx1.fst R1) fun w H2 ⟨d2, st2, e2, fps2, f2, R2, r2, g2, n2⟩ => ?_
    exact ⟨v, w, d1, d2, st2, fps2, f1, f2, rfl, R2, r1.keep R1 g2 fun n hn => List.mem_append_left _ hn, r2, r1.apart n2, g1.trans g2 R1 (fun n hn => List.mem_append_right _ hn) (R.len_le R1), n1, n2.trans g1, by rw [e1, Res.bind_ok, e2, Res.bind_ok]⟩
  refine (ws_ps (ps_par cx.calm (by rw [cx.N]; exact cx.nd) ix jy hij hx' hy' pa_wa (par_stores I.ok.kind hx' hy' hxy hl h1 h2 ga.ok gb.ok) rfl) (WA.ghost args fun vs H1 pins s ⟨v, w, d1, d2, st2, fps2, f1, f2, ev, R2, r1, r2, ap, g, n1, n2, er⟩ I => ?_)) pins s I
  rw [er] at hxo
  obtain ⟨H3, st3, I3, _, e3, me, fps3, R3, t3, l3, o3⟩ := nm_ghost (lk := lk) I hxo.fst R2 r2
  have hx3 := (hxo.snd e3).fst
  have g3 := g.store t3 R2 n2 r2.ap
  have rr1 := RRs.off (me := me) R2 t3 r2.ap (fun b hb => (r2.mem b hb).1) (RRs.cons r1 .nil (by simp)) (fun b hb hm => ap b (by simpa using hm) hb) (fun d hd => by rw [List.mem_singleton.mp hd]; exact setN_lk hx3)
  have r1' : RR H3 (m ++ me) fps3 v d1 f1 := by
    generalize hf : f1 ++ [] = f0 at rr1
    cases rr1 with
    | cons h r _ =>
      cases r
      rw [List.append_nil, List.append_nil] at hf
      rw [hf]; exact h
  obtain ⟨H4, st4, I4, _, e4, me4, fps4, R4, t4, l4, o4⟩ := nm_ghost (lk := lk) I3 hx3 R3 r1'
  refine ⟨H4, I4, v, w, ev, st4, me ++ me4, fps4, by rw [er, e3, Res.bind_ok, e4]; rfl, ?_, g3.store t4 R3 n1 r1'.ap⟩
  rw [List.append_assoc] at R4
  rw [List.set_comm _ _ hij]
  exact R4
end
end OV
/-! text OVZC -/
namespace OV
open PySem PySem.Spec PyProof.Rows L2
variable [Tabled] [Kn]
section
variable {X : Cx} {q : SX} {κ : K} {n : Nat} {lk : List Nat} {p : Pos}
theorem locks_ok {cs : Cs} {k : Nat} : ∀ j ∈ lk, j ∈ (if cs.isNil then lk else k :: lk) := fun j h => by
  cases cs.isNil with
  | true => exact h
  | false => exact List.mem_cons_of_mem _ h
/-- the list at a path, behind the item's run -/
theorem path_at {cs : Cs} {k : Nat} {is : List Int} {st1 : S} {m : List Addr} {fps1 fps2 : List (List Addr)} {σ : L2.St} {H1 H2 : Hp} {a b b' : Addr} {ds0 : List D} (R1 : Rel st1 m fps1 σ H1) (e0 : atL st1.ce k is = some ds0) (hm : m[k]? = some a) (hp : hP H1 a is = some b) (hnil : cs.isNil = true → is = []) (g2 : Grd (if cs.isNil then lk else k :: lk) fps1 fps2 H1 H2) (q2 : hP H2 a is = some b') : b' = b := by
  cases hc : cs.isNil with
  | true =>
    rw [hnil hc] at hp q2
    cases hp; cases q2; rfl
  | false =>
    rw [hc] at g2
    obtain ⟨a1, b1, vs1, g3, f1, t1, t2, t3, t4, t5, t6, t7⟩ := atL_path R1 e0
    rw [hm] at t1; cases t1
    rw [hp] at t3; cases t3
    have := t7 H2 (g2.cell R1 List.mem_cons_self t2)
    rw [q2] at this; cases this; rfl
theorem ss_append {r : Nat} {cs : Cs} {c : C} {o e' : Expr} {p' pc : Pos} (cx : Cxt X q κ n) (g : GoodP X κ q r cs o) (ge : GoodE X κ c e') (hl : (p'.endLine == pc.line) = true) : SS X (.Expr (.Call (.Attribute o "append" p') [e'] [] pc) p) lk (oS κ lk (.append r cs c)) := by
  intro st m fps σ H hx R
  rw [oS] at hx ⊢
  cases hr : root lk st r with
  | none => simp only [hr] at hx; exact hx.elim
  | some k =>
    simp only [hr] at hx ⊢
    obtain ⟨hs, hk⟩ := root_inv hr
    have hpl : starEach [e'] X.env = (false, eval e' X.env) :: starEach [] X.env := star_plain ge.ok _ _
    refine ws_ps (ps_expr (pe_bm (T := "list") (id := "list.append") PySem.F.plainAttrs_list PySem.F.slot_list_append PySem.F.type_list_append (show MtR X "list.append" rAppend from mt_append) pe_we (pa_cons pe_we pa_nil hpl) g.base (by rw [hpl]; rfl) hl hpl (by rfl)) rfl) ?_
    refine WE.imp (path_ok cx g (lk := k :: lk) hs List.mem_cons_self hx.fst R) fun v H1 ⟨is, st1, fps1, a, b, h1, R1, g1, hm, ev, hp, hnil⟩ => ?_
    subst ev
    have hx1 := hx.snd h1
    cases e0 : atL st1.ce k is with
    | none => simp only [e0] at hx1; exact hx1.elim
    | some ds0 =>
      simp only [e0] at hx1
      obtain ⟨a1, b1, vs1, g3, f1, t1, t2, t3, t4, t5, t6, t7⟩ := atL_path R1 e0
      rw [hm] at t1; cases t1
      rw [hp] at t3; cases t3
      refine ⟨.inl ⟨rfl, vs1, rd_sqL (.inl t4)⟩, ?_⟩
      refine WE.imp (ge.se _ st1 m fps1 σ H1 hx1.fst R1) fun y H2 ⟨d, st2, h2, fps2, f2, R2, r2, g2, n2⟩ => ?_
      have hx2 := hx1.snd h2
      cases e5 : itmL d with
      | none => simp only [e5] at hx2; exact hx2.elim
      | some x =>
        cases e1 : atL st2.ce k is with
        | none => simp only [e5, e1] at hx2; exact hx2.elim
        | some ds =>
          simp only [e5, e1] at hx2
          cases e3 : modC st2.ce k is (fun ds => if ds.length < line then some (ds ++ [x]) else none) with
          | none => simp only [e3] at hx2; exact hx2.elim
          | some ce =>
            obtain ⟨a', b', vs, gg, f, es, q1, q2, q3, q4, q5, q6, q7, q8, q9⟩ := modc_ok R2 e1 e3
            rw [hm] at q1; cases q1
            have bb : b' = b := path_at (lk := lk) R1 e0 hm hp (fun h => (hnil h).1) g2 q2
            subst bb
            by_cases hlen : ds.length < line
            · rw [if_pos hlen] at q8
              cases q8
              have bf : b' ∈ f := q7 b' List.mem_cons_self
              have fm := List.mem_of_getElem? q6
              have ro := r2.toL e5
              have bn : b' ∉ f2 := fun z => (r2.mem b' z).2 f fm bf
              have gd : ∀ c ∈ gg, c ∉ f2 := fun c hc z => (r2.mem c z).2 f fm (q7 c (List.mem_cons_of_mem _ hc))
              have kp : ∀ c o, H2 c = some o → OV.imm o = true ∨ c ≠ b' → upd H2 b' (.lst (vs ++ [y])) c = some o := fun c o ec i => by
                rw [upd_ne]
                · exact ec
                · rintro rfl
                  rcases i with i | i
                  · rw [q3] at ec; cases ec; cases i
                  · exact i rfl
              have r1' : ROs (upd H2 b' (.lst (vs ++ [y]))) [y] [x] f2 := by
                have := ROs.cons (ro.mono (H' := upd H2 b' (.lst (vs ++ [y]))) fun c o ec i => kp c o ec (i.imp id fun z w => bn (w ▸ z))) .nil (by simp : ∀ b ∈ f2, b ∉ ([] : List Addr))
                rw [List.append_nil] at this; exact this
              have r2' := (q4.mono (H' := upd H2 b' (.lst (vs ++ [y]))) fun c o ec i => kp c o ec (i.imp id fun z w => q5 (w ▸ z))).append r1' gd
              obtain ⟨f', R3, hf'⟩ := q9 (vs ++ [y]) (gg ++ f2) r2' (fun z => (List.mem_append.mp z).elim q5 bn) (fun c hc => (List.mem_append.mp hc).imp id fun z => (r2.mem c z).2)
              refine ⟨b', vs, y, rfl, rfl, q3, by rw [q4.length]; exact hlen, ⟨st2.sl, ce⟩, [], fps2.set k f', by rw [h1, Res.bind_ok]; simp only [e0, h2, Res.bind_ok, e5, e1, e3], by rw [List.append_nil]; exact R3, ?_⟩
              have gg2 : Grd lk fps fps2 H H2 := (g1.less fun _ h => List.mem_cons_of_mem _ h).trans (g2.less (lk := lk) (locks_ok (cs := cs))) R1 (fun _ h => h) (R.len_le R1)
              refine Grd.mod gg2 R2 hk q6 bf (gx := f2) (fun c hc => ?_) (n2.trans g1)
              rcases hf' c hc with z | z
              · exact .inl z.1
              · exact (List.mem_append.mp z).imp (fun w => q7 c (List.mem_cons_of_mem _ w)) id
            · rw [if_neg hlen] at q8; cases q8
theorem ss_extend {r : Nat} {cs : Cs} {c : C} {o e' : Expr} {p' pc : Pos} (cx : Cxt X q κ n) (g : GoodP X κ q r cs o) (ge : GoodE X κ c e') (hl : (p'.endLine == pc.line) = true) : SS X (.Expr (.Call (.Attribute o "extend" p') [e'] [] pc) p) lk (oS κ lk (.extend r cs c)) := by
  intro st m fps σ H hx R
  rw [oS] at hx ⊢
  cases hr : root lk st r with
  | none => simp only [hr] at hx; exact hx.elim
  | some k =>
    simp only [hr] at hx ⊢
    obtain ⟨hs, hk⟩ := root_inv hr
    have hpl : starEach [e'] X.env = (false, eval e' X.env) :: starEach [] X.env := star_plain ge.ok _ _
    refine ws_ps (ps_expr (pe_bm (T := "list") (id := "list.extend") PySem.F.plainAttrs_list PySem.F.slot_list_extend PySem.F.type_list_extend (show MtR X "list.extend" rExtend from mt_extend) pe_we (pa_cons pe_we pa_nil hpl) g.base (by rw [hpl]; rfl) hl hpl (by rfl)) rfl) ?_
    refine WE.imp (path_ok cx g (lk := k :: lk) hs List.mem_cons_self hx.fst R) fun v H1 ⟨is, st1, fps1, a, b, h1, R1, g1, hm, ev, hp, hnil⟩ => ?_
    subst ev
    have hx1 := hx.snd h1
    cases e0 : atL st1.ce k is with
    | none => simp only [e0] at hx1; exact hx1.elim
    | some ds0 =>
      simp only [e0] at hx1
      obtain ⟨a1, b1, vs1, g3, f1, t1, t2, t3, t4, t5, t6, t7⟩ := atL_path R1 e0
      rw [hm] at t1; cases t1
      rw [hp] at t3; cases t3
      refine ⟨.inl ⟨rfl, vs1, rd_sqL (.inl t4)⟩, ?_⟩
      refine WE.imp (ge.se _ st1 m fps1 σ H1 hx1.fst R1) fun y H2 ⟨d, st2, h2, fps2, f2, R2, r2, g2, n2⟩ => ?_
      have hx2 := hx1.snd h2
      cases d with
      | new xs =>
        cases e1 : atL st2.ce k is with
        | none => simp only [e1] at hx2; exact hx2.elim
        | some ds =>
          simp only [e1] at hx2
          cases e3 : modC st2.ce k is (fun ds => if ds.length + xs.length ≤ line then some (ds ++ xs) else none) with
          | none => simp only [e3] at hx2; exact hx2.elim
          | some ce =>
            obtain ⟨a', b', vs, gg, f, es, q1, q2, q3, q4, q5, q6, q7, q8, q9⟩ := modc_ok R2 e1 e3
            rw [hm] at q1; cases q1
            have bb : b' = b := path_at (lk := lk) R1 e0 hm hp (fun h => (hnil h).1) g2 q2
            subst bb
            by_cases hlen : ds.length + xs.length ≤ line
            · rw [if_pos hlen] at q8
              cases q8
              have bf : b' ∈ f := q7 b' List.mem_cons_self
              cases r2 with
              | tree ho ap =>
                cases ho with
                | fro h => cases h
                | @new ay ws _ hy rw' =>
                  have kp : ∀ c o, H2 c = some o → OV.imm o = true ∨ c ≠ b' → upd H2 b' (.lst (vs ++ ws)) c = some o := fun c o ec i => by
                    rw [upd_ne]
                    · exact ec
                    · rintro rfl
                      rcases i with i | i
                      · rw [q3] at ec; cases ec; cases i
                      · exact i rfl
                  have r2' := (q4.mono (H' := upd H2 b' (.lst (vs ++ ws))) fun c o ec i => kp c o ec (i.imp id fun z w => q5 (w ▸ z))).append (rw'.mono (H' := upd H2 b' (.lst (vs ++ ws))) fun c o ec i => kp c o ec (.inl i)).toO (by simp)
                  rw [List.append_nil] at r2'
                  obtain ⟨f', R3, hf'⟩ := q9 (vs ++ ws) gg r2' q5 (fun c hc => .inl hc)
                  refine ⟨b', ay, vs, ws, rfl, rfl, q3, hy, by rw [q4.length, rw'.length]; exact hlen, ⟨st2.sl, ce⟩, [], fps2.set k f', by rw [h1, Res.bind_ok]; simp only [e0, h2, Res.bind_ok, e1, e3], by rw [List.append_nil]; exact R3, ?_⟩
                  have gg2 : Grd lk fps fps2 H H2 := (g1.less fun _ h => List.mem_cons_of_mem _ h).trans (g2.less (lk := lk) (locks_ok (cs := cs))) R1 (fun _ h => h) (R.len_le R1)
                  refine Grd.mod gg2 R2 hk q6 bf (gx := []) (fun c hc => ?_) NF.nil
                  rcases hf' c hc with z | z
                  · exact .inl z.1
                  · exact .inl (q7 c (List.mem_cons_of_mem _ z))
            · rw [if_neg hlen] at q8; cases q8
      | _ => exact hx2.elim
end
mutual
theorem good_s {κ : K} {n : Nat} : ∀ (a : St) {X : Cx} {q : SX} {s : Stmt}, CxtS X q κ n → chkS q a s = true → ∀ lk, SS X s lk (oS κ lk a)
  | .asg t e, X, q, s, cs, h, lk => by
    simp only [chkS] at h
    split at h
    · rename_i t' e' p hv
      have := vAsg_eq hv
      subst this
      obtain ⟨h1, k2⟩ := ch_and h
      obtain ⟨h2, k3⟩ := ch_and k2
      obtain ⟨h3, h4⟩ := ch_and k3
      clear k2 k3
      have sg := good_t t cs.cx h1 lk
      have ok : okE t' = true := by
        cases t <;> (simp only [chkT] at h1; split at h1 <;> first | cases h1 | skip)
        · rename_i hv; obtain ⟨p, rfl⟩ := vName_eq hv; rfl
        · rename_i hv; obtain ⟨k, p, rfl⟩ := vTup_eq hv; rfl
        · rename_i hv; obtain ⟨p, rfl⟩ := vSub_eq hv; rfl
      cases hs : swB q e' t' with
      | false =>
        rw [hs] at h4
        exact ss_asg cs.cx (good_c e cs.cx h2) sg ok h3 hs h4
      | true =>
        rw [hs, if_pos rfl] at h4
        obtain ⟨h4, h5⟩ := ch_and h4
        cases t with
        | nm live i =>
          cases e with
          | comp own t it ifs gs =>
            simp only [chkT] at h1
            split at h1
            · rename_i x hv'
              obtain ⟨px, rfl⟩ := vName_eq hv'
              exact ss_setC cs.cx h2 h3 hs h1
            · cases h1
          | dcomp tk own t it ifs ka va =>
            simp only [chkT] at h1
            split at h1
            · rename_i x hv'
              obtain ⟨px, rfl⟩ := vName_eq hv'
              exact ss_setDC cs.cx h2 h3 hs h1
            · cases h1
          | _ => cases h5
        | _ => cases h4
    · cases h
  | .ex e, X, q, s, cs, h, lk => by
    simp only [chkS] at h
    split at h
    · rename_i e' hv
      obtain ⟨p, rfl⟩ := vDrop_eq hv
      obtain ⟨h1, h2⟩ := ch_and h
      exact ss_ex (good_c e cs.cx h2) h1
    · cases h
  | .append r cp e, X, q, s, cs, h, lk => by
    simp only [chkS] at h
    split at h
    · rename_i e' hv
      obtain ⟨p, rfl⟩ := vDrop_eq hv
      split at h
      · rename_i o' m a' hv'
        obtain ⟨p', pc, rfl, hl⟩ := vMeth_eq hv'
        obtain ⟨h1, h2⟩ := ch_and h
        obtain ⟨h2, h3⟩ := ch_and h2
        have := ch_dec h1
        subst this
        exact ss_append cs.cx (good_p cp cs.cx h2) (good_c e cs.cx h3) hl
      · cases h
    · cases h
  | .extend r cp e, X, q, s, cs, h, lk => by
    simp only [chkS] at h
    split at h
    · rename_i e' hv
      obtain ⟨p, rfl⟩ := vDrop_eq hv
      split at h
      · rename_i o' m a' hv'
        obtain ⟨p', pc, rfl, hl⟩ := vMeth_eq hv'
        obtain ⟨h1, h2⟩ := ch_and h
        obtain ⟨h2, h3⟩ := ch_and h2
        have := ch_dec h1
        subst this
        exact ss_extend cs.cx (good_p cp cs.cx h2) (good_c e cs.cx h3) hl
      · cases h
    · cases h
  | .remove _ _ _, X, q, s, cs, h, lk => by simp [chkS] at h
  | .par l i l' j a b, X, q, s, cs, h, lk => by
    simp only [chkS] at h
    split at h
    · rename_i x px y py a' b' hv
      obtain ⟨k1, p1, k2, p2, p, rfl⟩ := vPar_eq hv
      obtain ⟨h1, h⟩ := ch_and h
      obtain ⟨h2, h⟩ := ch_and h
      obtain ⟨h3, h⟩ := ch_and h
      obtain ⟨h4, h⟩ := ch_and h
      obtain ⟨h5, h⟩ := ch_and h
      obtain ⟨h6, h⟩ := ch_and h
      obtain ⟨h7, h⟩ := ch_and h
      obtain ⟨h8, h⟩ := ch_and h
      obtain ⟨h9, h⟩ := ch_and h
      obtain ⟨h10, h11⟩ := ch_and h
      exact ss_par cs.cx (good_c a cs.cx h10) (good_c b cs.cx h11) h1 h2 (ch_dec h3) (ch_dec h4) (ch_dec h5) (ch_dec h6) h7 (by cases z : [a', b'].all (foldedForSure 8) with | false => rfl | true => rw [z] at h8; cases h8) (by cases z : [a', b'].all (constantsAlone 8) with | false => rfl | true => rw [z] at h9; cases h9)
    · cases h
  | .iff c a b, X, q, s, cs, h, lk => by
    simp only [chkS] at h
    split at h
    · rename_i c' a' b' hv
      obtain ⟨p, rfl⟩ := vIfS_eq hv
      obtain ⟨h1, h2⟩ := ch_and h
      obtain ⟨h2, h3⟩ := ch_and h2
      exact ss_iff (good_c c cs.cx h1) (good_ss a cs h2 lk) (good_ss b cs h3 lk)
    · cases h
  | .for t it b, X, q, s, cs, h, lk => by
    simp only [chkS] at h
    split at h
    · rename_i t' it' b' hv
      obtain ⟨p, rfl⟩ := vFor_eq hv
      obtain ⟨h1, h2⟩ := ch_and h
      obtain ⟨h2, h3⟩ := ch_and h2
      obtain ⟨h3, h4⟩ := ch_and h3
      exact ss_for cs h1 (good_i it cs.cx h2 lk) (fun lk => good_t t cs.cx h3 lk) fun lk => good_ss b cs h4 lk
    · cases h
  | .whl c b, X, q, s, cs, h, lk => by
    simp only [chkS] at h
    split at h
    · rename_i c' b' hv
      obtain ⟨p, rfl⟩ := vWhl_eq hv
      obtain ⟨h1, h2⟩ := ch_and h
      exact ss_whl cs (good_c c cs.cx h1) (good_ss b cs h2 lk)
    · cases h
  | .ret e, X, q, s, cs, h, lk => by
    simp only [chkS] at h
    split at h
    · rename_i e' hv
      obtain ⟨p, rfl⟩ := vRet_eq hv
      exact ss_ret (good_c e cs.cx h)
    · cases h
  | .retN, X, q, s, cs, h, lk => by
    simp only [chkS] at h
    obtain ⟨p, rfl⟩ := isRetN_eq h
    exact ss_retN
  | .brk, X, q, s, cs, h, lk => by
    simp only [chkS] at h
    obtain ⟨p, rfl⟩ := isBrk_eq h
    exact ss_brk
  | .cnt, X, q, s, cs, h, lk => by
    simp only [chkS] at h
    obtain ⟨p, rfl⟩ := isCnt_eq h
    exact ss_cnt
  | .never, X, q, s, cs, h, lk => fun st m fps σ H hx R => by rw [oS] at hx; exact hx.elim
  | .pass, X, q, s, cs, h, lk => by
    simp only [chkS] at h
    obtain ⟨p, rfl⟩ := isPass_eq h
    exact ss_pass
theorem good_ss {κ : K} {n : Nat} : ∀ (as : Ss) {X : Cx} {q : SX} {ss : List Stmt}, CxtS X q κ n → chkSs q as ss = true → ∀ lk, SSs X ss lk (oSs κ lk as)
  | .nil, X, q, [], cs, h, lk => ss_nil
  | .nil, X, q, _ :: _, cs, h, lk => by simp [chkSs] at h
  | .cons _ _, X, q, [], cs, h, lk => by simp [chkSs] at h
  | .cons a as, X, q, s :: ss, cs, h, lk => by
    simp only [chkSs] at h
    obtain ⟨h1, h2⟩ := ch_and h
    exact ss_cons (good_s a cs h1 lk) (good_ss as cs h2 lk)
end
end OV
/-! text OVEB -/
namespace OV
open PySem PySem.Spec PyProof.Rows L2
/-! Plain parameters are bound by place. -/
theorem zip_lookup {α : Type} : ∀ {ps : List Str} {us : List α} {i : Nat} {x : Str} {u : α}, ps.Nodup → ps[i]? = some x → us[i]? = some u → (ps.zip us).lookup x = some u
  | [], _, _, _, _, _, h, _ => by simp at h
  | _ :: _, [], _, _, _, _, _, h => by simp at h
  | p :: ps, v :: us, 0, x, u, nd, h1, h2 => by
    simp at h1 h2; subst h1; subst h2; simp [List.lookup]
  | p :: ps, v :: us, i + 1, x, u, nd, h1, h2 => by
    have hx : x ∈ ps := List.mem_of_getElem? (by simpa using h1)
    have hne : (x == p) = false := by
      simp only [beq_eq_false_iff_ne]; rintro rfl; exact (List.nodup_cons.mp nd).1 hx
    rw [List.zip_cons_cons, List.lookup_cons, hne]
    exact zip_lookup (i := i) (List.nodup_cons.mp nd).2 (by simpa using h1) (by simpa using h2)
theorem fm_zip {α : Type} {ps : List Str} {us : List α} (nd : ps.Nodup) (hl : us.length = ps.length) : (ps.filterMap fun n => ((ps.zip us).lookup n).map (n, ·)) = ps.zip us := by
  have : ∀ (qs : List Str) (vs : List α) (k : Nat), qs = ps.drop k → vs = us.drop k → (qs.filterMap fun n => ((ps.zip us).lookup n).map (n, ·)) = qs.zip vs := by
    intro qs
    induction qs with
    | nil => intro vs k _ _; rfl
    | cons q qs ih =>
      intro vs k h1 h2
      have hk : k < ps.length := by
        have := congrArg List.length h1
        simp at this; omega
      have hu : k < us.length := by omega
      rw [List.drop_eq_getElem_cons hk] at h1
      rw [List.drop_eq_getElem_cons hu] at h2
      cases h1
      subst h2
      rw [List.filterMap_cons, zip_lookup (i := k) nd (List.getElem?_eq_getElem hk) (List.getElem?_eq_getElem hu)]
      simp only [Option.map_some, List.zip_cons_cons]
      rw [ih _ (k + 1) rfl rfl]
  exact this ps us 0 rfl rfl
theorem missing_none {α : Type} {ps : List Str} {us : List α} (nd : ps.Nodup) (hl : us.length = ps.length) (k : Nat) : ((ps.take k).filter fun n => ((ps.zip us).lookup n).isNone) = [] := by
  rw [List.filter_eq_nil_iff]
  intro x hx
  obtain ⟨i, hi⟩ := List.getElem?_of_mem (List.mem_of_mem_take hx)
  have hu : i < us.length := by rw [hl]; exact (List.getElem?_eq_some_iff.mp hi).1
  rw [zip_lookup (i := i) nd hi (List.getElem?_eq_getElem hu)]
  simp
theorem bind_plain {fd : FuncData} {as : List Arg} (hp : fd.params = ⟨[], as, none, [], [], none, []⟩) (hd : fd.defaults = .none) (nd : (as.map (·.arg)).Nodup) (us : List Value) (hl : us.length = as.length) :
    bindArgs fd ⟨us, []⟩ = pure ((as.map (·.arg)).zip us) := by
  have hl' : us.length = (as.map (·.arg)).length := by rw [List.length_map]; exact hl
  unfold bindArgs
  simp only [hp, hd, List.map_nil, List.nil_append, List.append_nil, seqItems?, notAStandIn]
  generalize as.map (·.arg) = ps at nd hl' ⊢
  have hz : ∀ {α : Type} (x : α) (f : α → Sem (List (Str × Value))), (pure x >>= f : Sem _) = f x := fun x f => rfl
  have hgt : (decide (us.length > ps.length) && (none : Option Arg).isNone) = false := by rw [hl']; simp
  have hm := missing_none nd hl' (α := Value)
  have hf := fm_zip nd hl'
  show (if (decide (us.length > ps.length) && (none : Option Arg).isNone) = true then _ else _) = _
  rw [if_neg (by rw [hgt]; exact Bool.false_ne_true)]
  show (if (!(List.filter (fun n => (List.lookup n (ps.zip us)).isNone) (ps.take _)).isEmpty) = true then _ else _) = _
  rw [hm]
  rw [if_neg (by simp)]
  simp only [Option.getD_none, List.drop_nil, List.zip_nil_right, List.forIn_nil, pure_bind, hf]
  simp
end OV
/-! text OVZD -/
namespace OV
open PySem PySem.Spec PyProof.Rows L2
variable [Tabled]
/-! Defs. -/
/-- the end of a def: cells that came in it go -/
def endF (n : Nat) : Res Fl → FR
  | .ok (.rt (.ref k)) st => if k < n then .ok (.ref k) (st.ce.take n) else .no
  | .ok (.rt (.bor _ _)) _ => .no
  | .ok (.rt (.clo _ _)) _ => .no
  | .ok (.rt d) st => .ok d (st.ce.take n)
  | .ok .nx st => .ok .non (st.ce.take n)
  | .ok _ _ => .no
  | .ex c a st => .ex c a (st.ce.take n)
  | .no => .no
/-- no closure comes out -/
theorem endF_noclo {n : Nat} {r : Res Fl} {d : D} {ce : Ce} (h : endF n r = .ok d ce) : isClo d = false := by
  cases r with
  | no => cases h
  | ex _ _ _ => cases h
  | ok f st =>
    cases f with
    | nx => cases h; rfl
    | bk => cases h
    | ct => cases h
    | rt d' =>
      cases d' with
      | ref k =>
        simp only [endF] at h
        split at h <;> cases h
        rfl
      | clo _ _ => cases h
      | bor _ _ => cases h
      | _ => cases h; rfl
noncomputable def oF (κ : K) (ns : Nat) (body : Ss) (ds : List D) (lk : List Nat) (ce : Ce) : FR :=
  endF ce.length (oSs κ lk body ⟨ds.map some ++ List.replicate (ns - ds.length) none, ce⟩)
/-- a def's text: its name, parameters, slots, body, whether it makes lambdas -/
structure Df where
  ps : List Str
  N : List Str
  body : Ss
  top : Bool := false
/-- a lambda's: parameters, what it catches, slots, body -/
structure Lm where
  ps : List Str
  fr : List Str
  N : List Str
  body : C
noncomputable def oL (κ : K) (l : Lm) (cs ds : List D) (lk : List Nat) (ce : Ce) : FR :=
  endF ce.length ((oE κ lk l.body ⟨ds.map some ++ (cs.map some ++ List.replicate (l.N.length - ds.length - cs.length) none), ce⟩).bind fun d st => .ok (.rt d) st)
/-- the machine with so many levels of calls -/
noncomputable def lev (T : Str → Option Df) (L : Nat → Option Lm) : Nat → K
  | 0 => ⟨fun _ _ _ _ => .no, fun _ _ _ _ _ => .no⟩
  | n + 1 => ⟨fun f ds lk ce => match T f with
      | some d => if ds.length = d.ps.length then oF (lev T L n) d.N.length d.body ds lk ce else .no
      | none => .no, fun j cs ds lk ce => match L j with
      | some l => if ds.length = l.ps.length ∧ cs.length = l.fr.length then oL (lev T L n) l cs ds lk ce else .no
      | none => .no⟩
/-! ### lambdas' texts -/
def plainP (params : Arguments) (ps : List Str) : Bool := match params with
  | ⟨[], as, none, [], [], none, []⟩ => decide (as.map (·.arg) = ps) && decide ps.Nodup
  | _ => false
omit [Tabled] in
theorem plainP_eq {params : Arguments} {ps : List Str} (h : plainP params ps = true) : ∃ as, params = ⟨[], as, none, [], [], none, []⟩ ∧ as.map (·.arg) = ps ∧ ps.Nodup := by
  unfold plainP at h
  split at h
  · rename_i as
    simp only [Bool.and_eq_true, decide_eq_true_eq] at h
    exact ⟨as, rfl, h.1, h.2⟩
  · cases h
omit [Tabled] in
theorem plainP_bind {params : Arguments} {ps : List Str} (h : plainP params ps = true) (qual : Str) (body : Expr) (scope : Scope) (cl : List (Str × Addr)) (pm cdv ctv : Value) (us : List Value) (hl : us.length = ps.length) :
    bindArgs (PySem.W.kla_fn "<lambda>" qual params body scope cl pm cdv ctv) ⟨us, []⟩ = pure (ps.zip us) := by
  obtain ⟨as, rfl, rfl, nd⟩ := plainP_eq h
  exact bind_plain rfl rfl nd us (by simpa using hl)
omit [Tabled] in
theorem plainP_dflt {params : Arguments} {ps : List Str} (h : plainP params ps = true) : params.defaults = [] ∧ params.kw_defaults = [] := by
  unfold plainP at h
  split at h
  · exact ⟨rfl, rfl⟩
  · cases h
def lfrOf (L : Nat → Option Lm) (j : Nat) : List Str := match L j with
  | some l => l.fr
  | none => []
def lokB (L : Nat → Option Lm) (df : List Str) (gi : List (Str × Int)) (j : Nat) (params : Arguments) (body : Expr) (scope : Scope) : Bool := match L j with
  | some l => NdefX.nscB l.N l.ps l.fr scope && (plainP params l.ps && chkE ⟨l.N, scope, fun _ => false, df, gi, false, fun _ => [], fun _ _ _ _ => false⟩ l.body body)
  | none => false
theorem RTs.get [Kn] {H : Hp} {m : List Addr} : ∀ {vs : List V} {ds : List D} {i : Nat} {d : D}, RTs H m vs ds → ds[i]? = some d → ∃ v, vs[i]? = some v ∧ RT H m v d
  | _, _, _, _, .nil, e => by simp at e
  | _, _, 0, _, .cons h _, e => by simp at e; subst e; exact ⟨_, rfl, h⟩
  | _, _, i + 1, d, .cons _ r, e => by
    obtain ⟨v, h1, h2⟩ := RTs.get (i := i) (d := d) r (by simpa using e)
    exact ⟨v, by simpa using h1, h2⟩
/-- the slots at a def's start -/
theorem start_rel [Kn] {ce : Ce} {m : List Addr} {fps : List (List Addr)} {H : Hp} {N : List Str} {vs : List V} {ds : List D} (R : RelC ce m fps H) (r : RTs H m vs ds) : Rel ⟨ds.map some ++ List.replicate (N.length - ds.length) none, ce⟩ m fps (L2.start N vs) H := by
  have hl := r.length
  refine ⟨by unfold L2.start; simp [hl], fun i d e => ?_, R.mlen, R.flen, R.ce, R.dead, R.dis, R.tab⟩
  have e : (ds.map some ++ List.replicate (N.length - ds.length) none)[i]? = some (some d) := e
  by_cases h : i < ds.length
  · rw [List.getElem?_append_left (by simpa using h), List.getElem?_map] at e
    cases q : ds[i]? with
    | none => rw [q] at e; cases e
    | some d' =>
      rw [q] at e; cases e
      obtain ⟨v, h1, h2⟩ := r.get q
      refine ⟨v, ?_, h2⟩
      unfold L2.start
      rw [List.getElem?_append_left (by simp; omega), List.getElem?_map, h1]; rfl
  · rw [List.getElem?_append_right (by simpa using h), List.getElem?_replicate] at e
    split at e <;> cases e
theorem trim_ce {n : Nat} {st : S} : (OV.trim n st).ce = st.ce.take n := by
  unfold OV.trim
  split
  · rename_i h; rw [List.take_of_length_le h]
  · rfl
section
variable {P : Program} {w : World} {K : PySem.W.Frag} {mg : Str → Option Value} {base : Heap}
/-- what the machine is made of -/
structure Mach where
  df : List Str
  gi : List (Str × Int)
  L : Nat → Option Lm
def Mach.sx (M : Mach) (N : List Str) (scope : Scope) (top : Bool) : SX := ⟨N, scope, fun _ => true, M.df, M.gi, top, lfrOf M.L, lokB M.L M.df M.gi⟩
/-- what the written part says of all -/
structure TopOK [Tabled] (P : Program) (w : World) (K : PySem.W.Frag) (mg : Str → Option Value) (M : Mach) : Prop where
  blt : ∀ x ∈ bfNames, mg x = none
  gis : ∀ x i, (x, i) ∈ M.gi → ∃ t, mg x = some (.int i t)
  dfs : ∀ f, M.df.contains f = true → ∃ fa, mg f = some (.ref fa) ∧ PySem.W.keepIn K (.ref fa) = true
  prog : P = Tabled.P
  w : w = Tabled.w
  tok : ∀ j t, Tabled.ok j t ↔ lokB M.L M.df M.gi j t.params t.body t.scope = true ∧ t.fr = lfrOf M.L j
/-- what the written part says of a def, and that its text is the machine's -/
structure DefOK [Tabled] (K : PySem.W.Frag) (mg : Str → Option Value) (base : Heap) (M : Mach) (f : Str) (d : Df) : Prop where
  ok : ∃ (fa : Addr) (fd : FuncData) (name qual : Str) (params : Arguments) (body : List Stmt) (scope : Scope) (dV kV doc pm cdv ct oc : Value) (an od : Option Addr) (osl : Array (Option Value)),
    mg f = some (.ref fa) ∧ PySem.W.keepIn K (.ref fa) = true ∧ fd = PySem.W.fnOf name qual params body scope dV kV doc pm an cdv ct ∧ K.lookup fa = some ⟨oc, od, .func fd, osl⟩ ∧ PySem.W.codeIn K cdv qual = true ∧ FnScope d.N d.ps scope ∧ Binds K fd d.ps [] ∧
      chkSs (M.sx d.N scope d.top) d.body body = true ∧ (d.top = true → ∃ c Pt, LamX.TabB base mg c Pt ∧ cdv = .ref c ∧ (Pt, (envOfC qual scope 0 fa cdv).qual ++ "<lambda>") ∈ Tabled.T ∧ ∀ p ∈ Tabled.T, p.1 = Pt → p.2 = (envOfC qual scope 0 fa cdv).qual ++ "<lambda>")
omit [Tabled] in
theorem lok_ok {M : Mach} {j : Nat} {params : Arguments} {body : Expr} {scope : Scope} (h : lokB M.L M.df M.gi j params body scope = true) : ∃ l, M.L j = some l ∧ NdefX.NScope l.N l.ps l.fr scope ∧ plainP params l.ps = true ∧ chkE ⟨l.N, scope, fun _ => false, M.df, M.gi, false, fun _ => [], fun _ _ _ _ => false⟩ l.body body = true := by
  unfold lokB at h
  split at h
  · rename_i l hl
    simp only [Bool.and_eq_true] at h
    exact ⟨l, hl, NdefX.nscope_by h.1, h.2.1, h.2.2⟩
  · cases h
section
variable [Kn]
/-- the rule -/
theorem fn_g {κ : OV.K} {k : Nat} {M : Mach} {f : Addr} {name qual : Str} {params : Arguments} {body : List Stmt} {scope : Scope} {dV kV doc pm cdv ct oc : Value} {an od : Option Addr} {osl : Array (Option Value)} {N ps : List Str} {b : Ss} {top : Bool}
    (lk : K.lookup f = some ⟨oc, od, .func (PySem.W.fnOf name qual params body scope dV kV doc pm an cdv ct), osl⟩) (hcd : PySem.W.codeIn K cdv qual = true) (Sc : FnScope N ps scope) (tab : FnTab P w K mg base k κ) (ltab : LaTab P w K mg base k κ) (tok : TopOK P w K mg M)
    (chk : chkSs (M.sx N scope top) b body = true) (hlam : top = true → ∃ c Pt, LamX.TabB base mg c Pt ∧ cdv = .ref c ∧ (Pt, (envOfC qual scope 0 f cdv).qual ++ "<lambda>") ∈ Tabled.T ∧ ∀ p ∈ Tabled.T, p.1 = Pt → p.2 = (envOfC qual scope 0 f cdv).qual ++ "<lambda>")
    {κ' : OV.K} {nm : Str} (hκ : ∀ ds lk ce, ds.length = ps.length → κ'.fn nm ds lk ce = oF κ N.length b ds lk ce) :
    FnG P w K mg base (k + 1) f (PySem.W.fnOf name qual params body scope dV kV doc pm an cdv ct) ps (fun vs H Q E => vs.length = ps.length ∧ spF mg κ' nm vs H Q E) := by
  refine ⟨fun vs H Q E h => h.1, fun A outer s H args us vs Q E hr hgu e0 hkn hb r ⟨hl, ds, lk', ce, m, fps, Rc, rt, hno, hok, hex⟩ => ?_⟩
  have KX : K.In s.heap := e0.mod.kin.keeps fun b o e => (e0.bs b o e).1
  have lim : s.heap.NoLimit := e0.mod.nolimit.keeps fun b o e => (e0.bs b o e).1
  have hkind : ∀ y ∈ ps.zip us, scope.names.lookup y.1 = some .local ∨ (scope.names.lookup y.1 = some .cell ∧ ((cellsFrom (s.heap.objs.size + 1) scope.names []).lookup y.1).isSome = true) := fun ⟨n, v⟩ hy => by
    rcases Sc.par n (List.of_mem_zip hy).1 with q | q
    · exact .inl q
    · exact .inr ⟨q, PySem.W.cellsFrom_some _ _ _ (.inl q)⟩
  refine codeAny_call_function hr.depth (KX _ _ lk) rfl Sc.co Sc.gen rfl (PySem.W.codeRec_of KX hcd) (hb _ _ _ _ ?_)
  refine wpAny_newFunctionEnv_cells Sc.kind hkind fun env he s1 x => ?_
  subst he
  refine ⟨lim.keeps x.toInCall.keep, codeAny_func ?_⟩
  have I : Inv (cxOf (L2.CX P w) P w K mg base N qual scope f cdv A outer s H E) [] (L2.start N vs) H s1 := inv_start Sc hr.hd e0 hl r x
  have cs : CxtS (cxOf (L2.CX P w) P w K mg base N qual scope f cdv A outer s H E) (M.sx N scope top) κ k := by
    refine ⟨⟨rfl, Sc.nd, rfl, rfl, rfl, hr.deeper _, ?_, tok.blt, tab, ltab, hkn, fun c v _ z => absurd (show c ∈ ([] : List Addr) from z) (by simp), tok.prog, tok.w, fun ht => ?_, tok.gis, tok.dfs⟩, ?_⟩
    · exact hgu
    · obtain ⟨c, Pt, h1, h2, h3, h4⟩ := hlam ht
      refine ⟨⟨c, Pt, h1, h2, h3, h4⟩, fun k' params' body' scope' hk' => ?_⟩
      have hk' : lokB M.L M.df M.gi k' params' body' scope' = true := hk'
      obtain ⟨l, e1, e2, e3, _⟩ := lok_ok hk'
      refine ⟨(tok.tok _ _).mpr ⟨hk', rfl⟩, (plainP_dflt e3).1, (plainP_dflt e3).2, fun y hy hf => ?_⟩
      show y.1 ∈ lfrOf M.L k'
      unfold lfrOf; rw [e1]; exact e2.free y hy hf
    · exact passes_of rfl
  have hds : ds.length = ps.length := by rw [← rt.length]; exact hl
  rw [hκ ds lk' ce hds] at hno hok hex
  have R := start_rel (N := N) Rc rt
  generalize hst : (⟨ds.map some ++ List.replicate (N.length - ds.length) none, ce⟩ : S) = st0 at R
  have hxo : XO (cxOf (L2.CX P w) P w K mg base N qual scope f cdv A outer s H E) (oSs κ lk' b st0) := by
    unfold oF at hno
    rw [hst] at hno
    cases hr : oSs κ lk' b st0 with
    | ok _ _ => trivial
    | ex _ _ _ => exact xok_any
    | no => rw [hr] at hno; exact (hno rfl).elim
  have run := good_ss b cs chk lk' st0 m fps (L2.start N vs) H hxo R [] s1 I
  refine wpAny_mono run (fun fl s' hs => ?_) fun e s' hs => hs
  have eF : oF κ N.length b ds lk' ce = endF ce.length (oSs κ lk' b st0) := by unfold oF; rw [hst]
  rw [eF] at hno hok
  have hn : ce.length = m.length := Rc.mlen.symm
  rw [hn] at hno hok
  have fin : ∀ {σ' : L2.St} {H' : Hp} {v : V} {u : Value}, Inv (cxOf (L2.CX P w) P w K mg base N qual scope f cdv A outer s H E) [] σ' H' s' → RelV v u → Q v H' → CE outer P w H s Q u s' :=
    fun {σ' H' v u} J rv q => ⟨v, H', J.os, J.bare, J.base, J.hok, rv, q⟩
  have back : ∀ {st' : S} {me : List Addr} {fps' : List (List Addr)} {σ' : L2.St} {H' : Hp} {v : V} {d : D} {fp : List Addr}, Rel st' (m ++ me) fps' σ' H' → Grd lk' fps fps' H H' → endF m.length (oSs κ lk' b st0) = .ok d (st'.ce.take m.length) → RR H' m (fps'.take m.length) v d fp → NF fp fps H → Q v H' := fun {st' me fps' σ' H' v d fp} R' g e rr nf => by
    have Rt := RelC.of R'.trim
    rw [trim_ce] at Rt
    exact hok d _ e v H' _ fp Rt rr (endF_noclo e) (Grd.trim R g) nf
  cases fl with
  | ret u =>
    obtain ⟨v, σ', H', J, rv, d, st', me, fps', fp, σ2, e, R', rr, g, nf⟩ := hs
    refine fin J rv ?_
    have tree : (∀ a ∈ fp, ∀ f ∈ fps', a ∉ f) → ∀ a ∈ fp, ∀ f ∈ fps'.take m.length, a ∉ f := fun h a ha f hf => h a ha f (List.mem_of_mem_take hf)
    have e' : oSs κ lk' b st0 = .ok (.rt d) st' := e
    cases rr with
    | tree ho ap =>
      refine back (d := d) R' g ?_ (.tree ho (tree ap)) nf
      rw [e']
      cases ho with
      | fro h => cases h <;> rfl
      | _ => rfl
    | clo _ => rw [e'] at hno; exact (hno rfl).elim
    | @ref a k hk' =>
      rw [e'] at hno
      by_cases hlt : k < m.length
      · refine back (d := .ref k) R' g (by rw [e']; simp only [endF]; rw [if_pos hlt]) (.ref ?_) NF.nil
        rw [List.getElem?_append_left hlt] at hk'; exact hk'
      · simp only [endF, if_neg hlt] at hno; exact (hno rfl).elim
    | borN _ _ _ _ => rw [e'] at hno; exact (hno rfl).elim
    | borS _ _ _ _ _ => rw [e'] at hno; exact (hno rfl).elim
  | next =>
    obtain ⟨σ', H', J, st', me, fps', e, R', g⟩ := hs
    have e' : oSs κ lk' b st0 = .ok .nx st' := e
    exact fin (v := V.non) (u := Value.none) J rfl (back (d := .non) R' g (by rw [e']; rfl) (.tree (.fro .non) (by simp)) NF.nil)
  | brk =>
    obtain ⟨σ', H', J, st', me, fps', e, R', g⟩ := hs
    have e' : oSs κ lk' b st0 = .ok .bk st' := e
    rw [e'] at hno; exact (hno rfl).elim
  | cont =>
    obtain ⟨σ', H', J, st', me, fps', e, R', g⟩ := hs
    have e' : oSs κ lk' b st0 = .ok .ct st' := e
    rw [e'] at hno; exact (hno rfl).elim
/-- a lambda's body runs -/
theorem la_g {κ : OV.K} {k : Nat} {M : Mach} (tab : FnTab P w K mg base k κ) (ltab : LaTab P w K mg base k κ) (tok : TopOK P w K mg M) {κ' : OV.K} (hκ : ∀ j cs ds lk ce, κ'.la j cs ds lk ce = match M.L j with
      | some l => if ds.length = l.ps.length ∧ cs.length = l.fr.length then oL κ l cs ds lk ce else .no
      | none => .no) : LaG P w K mg base (k + 1) κ' := by
  refine ⟨fun A outer s H a us vs Q E j cs ds lk ce m fps hr hgu e0 hkn hcl r Rc rt ⟨hno, hok, hex⟩ => ?_⟩
  cases hcl with
  | @mk _ c' _ t cl ws _ hla hlc hto cap rfs =>
    obtain ⟨hlk, hfr⟩ := (tok.tok j t).mp hto
    obtain ⟨l, hL, S, hpl, hch⟩ := lok_ok hlk
    have hfr' : t.fr = l.fr := by rw [hfr]; unfold lfrOf; rw [hL]
    have hκ1 := hκ j cs ds lk ce
    simp only [hL] at hκ1
    by_cases hlen : ds.length = l.ps.length ∧ cs.length = l.fr.length
    · rw [if_pos hlen] at hκ1
      rw [hκ1] at hno hok hex
      have lim : s.heap.NoLimit := e0.mod.nolimit.keeps fun b o e => (e0.bs b o e).1
      obtain ⟨⟨pm, ctv, ho⟩, _, _⟩ := e0.hok _ _ hla
      have hvl : vs.length = l.ps.length := by rw [rt.length]; exact hlen.1
      let F : NdefX.NF := ⟨"<lambda>", t.qual, t.params, [], t.scope, cl, c'⟩
      have ca : NdefX.CellsAt F.cl l.fr (ws.map some) s.heap H := by
        refine ⟨by rw [List.length_map, cap.len, hfr'], fun y c0 e => ?_, cap.inj, fun i y e => ?_⟩
        · obtain ⟨v, hv⟩ := cap.all y c0 e
          obtain ⟨⟨u, _, hu⟩, hn, _⟩ := hkn c0 v hv
          exact ⟨hn, _, hu⟩
        · have hi : i < ws.length := by rw [cap.len, hfr']; exact (List.getElem?_eq_some_iff.mp e).1
          obtain ⟨c0, e1, e2⟩ := cap.has i y ws[i] (by rw [hfr']; exact e) (List.getElem?_eq_getElem hi)
          refine ⟨c0, e1, fun v hv => ?_⟩
          rw [List.getElem?_map, List.getElem?_eq_getElem hi] at hv
          cases hv
          exact (hkn c0 _ e2).1
      refine PySem.W.kla_callFunE hr.depth ho rfl S.co S.gen rfl (NdefX.codeO_at e0.hok hlc) ?_
      rw [plainP_bind hpl _ _ _ _ _ _ _ us (by rw [← r.length]; exact hvl)]
      refine wpAny_pure (wpAny_newFunctionEnv S.nocell (fun ⟨n, _⟩ hy => S.par n (List.of_mem_zip hy).1) (fun h₁ hns hsb => ⟨lim.fresh _ hsb, ?_⟩) S.kind)
      show codeAny _ _ (.expr t.body (NdefX.envF F a s.heap.objs.size)) _ _
      have kp : ∀ b o, s.heap.get? b = some o → h₁.get? b = some o := fun b o e => hsb.extBut b o (Nat.ne_of_lt (Heap.lt_size e)) (Heap.get?_push_of_some _ e)
      have I : Inv (NdefX.ncx (L2.CX P w) P w K mg base l.N F a A outer s H E) [] (NdefX.startF l.N vs (ws.map some)) H { s with heap := h₁, toks := s.toks + (l.ps.zip us).length } := NdefX.inv_startN S hr.hd e0 hvl r ca hns kp
      have cx : Cxt (NdefX.ncx (L2.CX P w) P w K mg base l.N F a A outer s H E) ⟨l.N, t.scope, fun _ => false, M.df, M.gi, false, fun _ => [], fun _ _ _ _ => false⟩ κ k := by
        refine ⟨rfl, S.nd, rfl, rfl, rfl, hr.deeper _, ?_, tok.blt, tab, ltab, hkn, fun c v _ z => absurd (show c ∈ ([] : List Addr) from z) (by simp), tok.prog, tok.w, fun z => Bool.noConfusion (show false = true from z), tok.gis, tok.dfs⟩
        exact hgu
      have R : Rel ⟨ds.map some ++ (cs.map some ++ List.replicate (l.N.length - ds.length - cs.length) none), ce⟩ m fps (NdefX.startF l.N vs (ws.map some)) H := by
        have hw : ws.length = cs.length := rfs.length
        refine ⟨?_, fun i d e => ?_, Rc.mlen, Rc.flen, Rc.ce, Rc.dead, Rc.dis, Rc.tab⟩
        · unfold NdefX.startF
          simp only [List.length_append, List.length_map, List.length_replicate, rt.length, hw]
        · have e : (ds.map some ++ (cs.map some ++ List.replicate (l.N.length - ds.length - cs.length) none))[i]? = some (some d) := e
          unfold NdefX.startF
          by_cases h : i < ds.length
          · rw [List.getElem?_append_left (by simpa using h), List.getElem?_map] at e
            cases q : ds[i]? with
            | none => rw [q] at e; cases e
            | some d' =>
              rw [q] at e; cases e
              obtain ⟨v, h1, h2⟩ := rt.get q
              exact ⟨v, by rw [List.getElem?_append_left (by simp [rt.length]; exact h), List.getElem?_map, h1]; rfl, h2⟩
          · rw [List.getElem?_append_right (by simpa using h), List.length_map] at e
            by_cases h2 : i - ds.length < cs.length
            · rw [List.getElem?_append_left (by simpa using h2), List.getElem?_map] at e
              cases q : cs[i - ds.length]? with
              | none => rw [q] at e; cases e
              | some d' =>
                rw [q] at e; cases e
                obtain ⟨v, h1, h3⟩ := rfs.get q
                refine ⟨v, ?_, .fro h3⟩
                have hv := rt.length
                have e0 : (vs.map some).length = ds.length := by rw [List.length_map, hv]
                rw [List.getElem?_append_right (by rw [e0]; omega), e0, List.getElem?_append_left (by rw [List.length_map, hw]; exact h2), List.getElem?_map, h1]; rfl
            · rw [List.getElem?_append_right (by simpa using h2), List.getElem?_replicate] at e
              split at e <;> cases e
      generalize hst : (⟨ds.map some ++ (cs.map some ++ List.replicate (l.N.length - ds.length - cs.length) none), ce⟩ : OV.S) = st0 at R
      have eF : oL κ l cs ds lk ce = endF ce.length ((oE κ lk l.body st0).bind fun d st => .ok (.rt d) st) := by unfold oL; rw [hst]
      rw [eF] at hno hok hex
      have hxo : XO (NdefX.ncx (L2.CX P w) P w K mg base l.N F a A outer s H E) (oE κ lk l.body st0) := by
        cases hr : oE κ lk l.body st0 with
        | ok _ _ => trivial
        | ex _ _ _ => exact xok_any
        | no => rw [hr] at hno; exact (hno rfl).elim
      have run := (good_c l.body cx hch).se lk st0 m fps _ H hxo R [] _ I
      refine PySem.W.kla_codeExpr (wpAny_mono run (fun u s' hs => ?_) fun e s' hs => hs)
      obtain ⟨v, H', J, rv, d, st', e, fps', fp, R', rr, g, nf⟩ := hs
      have hn : ce.length = m.length := Rc.mlen.symm
      rw [hn] at hno hok
      have hce : st'.ce.length = m.length := R'.mlen.symm
      have fin : Q v H' → CE outer P w H s Q u s' := fun q => ⟨v, H', J.os, J.bare, J.base, J.hok, rv, q⟩
      refine fin ?_
      have e2 : ((oE κ lk l.body st0).bind fun d st => (.ok (.rt d) st : Res Fl)) = .ok (.rt d) st' := by rw [e]; rfl
      rw [e2] at hno hok
      have tk : st'.ce.take m.length = st'.ce := List.take_of_length_le (by omega)
      have back : endF m.length (.ok (.rt d) st') = .ok d st'.ce → Q v H' := fun ee => hok d _ ee v H' fps' fp (RelC.of R') rr (endF_noclo ee) g nf
      cases rr with
      | tree ho ap =>
        refine back ?_
        cases ho with
        | fro h => cases h <;> simp only [endF, tk]
        | _ => simp only [endF, tk]
      | clo _ => exact (hno rfl).elim
      | @ref a k hk' =>
        have hlt : k < m.length := (List.getElem?_eq_some_iff.mp hk').1
        refine back ?_
        simp only [endF, tk, if_pos hlt]
      | borN _ _ _ _ => exact (hno rfl).elim
      | borS _ _ _ _ _ => exact (hno rfl).elim
    · rw [if_neg hlen] at hκ1
      rw [hκ1] at hno; exact (hno rfl).elim
end
/-- all defs at a level -/
theorem lev_tab {T : Str → Option Df} {M : Mach} (tok : TopOK P w K mg M) (ok : ∀ f d, T f = some d → DefOK K mg base M f d) : ∀ n, FnTab P w K mg base n (lev T M.L n) ∧ LaTab P w K mg base n (lev T M.L n)
  | 0 => ⟨fun f ds lk ce h => (h rfl).elim, fun kn => ⟨fun A outer s H a us vs Q E j cs ds lk ce m fps _ _ _ _ _ _ _ _ ⟨hno, _⟩ => (hno rfl).elim⟩⟩
  | n + 1 => by
    obtain ⟨ih1, ih2⟩ := lev_tab tok ok n
    refine ⟨fun f ds lk ce h => ?_, fun kn => la_g ih1 ih2 tok fun j cs ds lk ce => rfl⟩
    cases hT : T f with
    | none => simp only [lev, hT] at h; exact (h rfl).elim
    | some d =>
      simp only [lev, hT] at h
      by_cases hl : ds.length = d.ps.length
      · obtain ⟨fa, fd, name, qual, params, body, scope, dV, kV, doc, pm, cdv, ct, oc, an, od, osl, h1, h2, rfl, h4, h5, h6, h7, h8, h9⟩ := (ok f d hT).ok
        refine ⟨fa, _, d.ps, h1, h2, h7, hl, fun kn => fn_g h4 h5 h6 ih1 ih2 tok h8 h9 (κ' := lev T M.L (n + 1)) (nm := f) fun ds lk ce hl => ?_⟩
        simp only [lev, hT]
        rw [if_pos hl]
      · rw [if_neg hl] at h; exact (h rfl).elim
end
end OV
/-! text OVEN -/
namespace OV
open PySem PySem.Spec PyProof.Rows L2 He
/-! The head's facts, the end of a law. -/
/-- a def of the text: the global that holds it, its own name -/
structure Dt where
  g : Str
  n : Str
  args : Arguments
  body : List Stmt
  scope : Scope
def Dt.of (g n : Str) (st : Stmt) : Dt := ⟨g, n, defArgs st, defBody st, defScope st⟩
def Dt.d (t : Dt) : DefD := ⟨(t.g, none), t.n, t.n, t.args, t.body, t.scope, [], []⟩
/-- a def's code object and its table -/
def tabC (K : PySem.W.Frag) (f : Addr) : Option (Addr × Addr) := match K.lookup f with
  | some ⟨_, _, .func fd, _⟩ => (match fd.code with
    | .ref c => (match K.lookup c with
      | some ⟨_, _, .fields vs, _⟩ => (match (vs[11]? : Option Value) with
        | some (.ref P) => some (c, P)
        | _ => none)
      | _ => none)
    | _ => none)
  | _ => none
def isLst : Obj → Bool
  | ⟨.type c, _, _, _⟩ => c == "list"
  | _ => false
def emptyT : Option Obj → Bool
  | some ⟨.none, none, .fields vs, sl⟩ => vs.isEmpty && sl.isEmpty
  | _ => false
theorem emptyT_eq {o : Option Obj} (h : emptyT o = true) : o = some { cls := .none, data := .fields #[] } := by
  unfold emptyT at h
  split at h
  · rename_i vs sl
    simp only [Bool.and_eq_true, Array.isEmpty_iff] at h
    obtain ⟨rfl, rfl⟩ := h
    rfl
  · cases h
def csK (K : PySem.W.Frag) (ls : List (Str × Str)) : List (Option (Addr × Addr)) := ls.map fun x => tabC K (ga K x.1)
def tabsOf (cs : List (Option (Addr × Addr))) : List Addr := cs.filterMap fun o => o.map (·.2)
/-- what is known: no lists, no tables -/
def frX (g : Addr → Option Obj) (n : Nat) (ls : List (Str × Str)) : PySem.W.Frag := (frG g (asD g n)).filter fun p => !isLst p.2 && !((tabsOf (csK (frG g (asD g n)) ls)).contains p.1)
def lamB (g : Addr → Option Obj) (K : PySem.W.Frag) (ls : List (Str × Str)) : Bool := ((csK K ls).all fun o => match o with
  | some (c, P) => PySem.W.codeHdIn K c P && (emptyT (g P) && (K.lookup P).isNone)
  | none => false) && decide ((tabsOf (csK K ls)).Nodup)
theorem look_mem {α : Type} {a : Addr} {o : α} : ∀ {l : List (Addr × α)}, l.lookup a = some o → (a, o) ∈ l
  | [], h => by cases h
  | (b, p) :: l, h => by
    rw [List.lookup_cons] at h
    cases e : a == b with
    | true => rw [e] at h; cases h; rw [beq_iff_eq.mp e]; exact List.mem_cons_self
    | false => rw [e] at h; exact List.mem_cons_of_mem _ (look_mem h)
theorem frX_in {h : Heap} {n : Nat} {ls : List (Str × Str)} : (frX h.get? n ls).In h := fun a o e => by
  have m := look_mem (show List.lookup a (frX h.get? n ls) = some o from e)
  unfold frX at m
  obtain ⟨m, _⟩ := List.mem_filter.mp m
  unfold frG at m
  obtain ⟨b, _, e2⟩ := List.mem_filterMap.mp m
  cases q : h.get? b with
  | none => rw [q] at e2; cases e2
  | some o' => rw [q] at e2; cases e2; exact q
theorem frX_no {g : Addr → Option Obj} {n : Nat} {ls : List (Str × Str)} {a : Addr} {o : Obj} (e : (frX g n ls).lookup a = some o) : isLst o = false := by
  have m := look_mem (show List.lookup a (frX g n ls) = some o from e)
  unfold frX at m
  obtain ⟨_, m⟩ := List.mem_filter.mp m
  simp only [Bool.and_eq_true, Bool.not_eq_true'] at m
  exact m.1
/-- the facts -/
structure Says (fa : List Fa) (fn : List DefD) (ls : List (Str × Str)) (h : Heap) (K : PySem.W.Frag) (cs : List (Addr × Addr)) : Prop where
  kin : K.In h
  says : SaysD fa fn K
  nol : ∀ a o, K.lookup a = some o → isLst o = false
  eqs : csK K ls = cs.map some
  tab : ∀ p ∈ cs, PySem.W.codeHdIn K p.1 p.2 = true ∧ h.get? p.2 = some { cls := .none, data := .fields #[] } ∧ K.lookup p.2 = none
  nd : (cs.map (·.2)).Nodup
def obsX (n : Nat) (fa : List Fa) (fn : List DefD) (ls : List (Str × Str)) (g : Addr → Option Obj) : AlD :=
  ((obsD fa fn (frX g n ls)).1 && lamB g (frX g n ls) ls, (obsD fa fn (frX g n ls)).2)
theorem cs_some : ∀ {l : List (Option (Addr × Addr))}, (∀ o ∈ l, ∃ p, o = some p) → ∃ cs : List (Addr × Addr), l = cs.map some
  | [], _ => ⟨[], rfl⟩
  | o :: l, h => by
    obtain ⟨p, rfl⟩ := h o List.mem_cons_self
    obtain ⟨cs, rfl⟩ := cs_some fun o ho => h o (List.mem_cons_of_mem _ ho)
    exact ⟨p :: cs, rfl⟩
theorem tabsOf_some (cs : List (Addr × Addr)) : tabsOf (cs.map some) = cs.map (·.2) := by
  unfold tabsOf
  induction cs with
  | nil => rfl
  | cons p r ih => simp [ih]
def hookX (n : Nat) (fa : List Fa) (fn : List DefD) (ls : List (Str × Str)) : PySem.W.Hook where
  α := AlD
  obs := fun s => obsX n fa fn ls s.heap.get?
  val := fun _ => valD fn
  says := fun _ h => ∃ K cs, Says fa fn ls h K cs
  of := fun _ s e => by
    have e1 : ((obsD fa fn (frX s.heap.get? n ls)).1 && lamB s.heap.get? (frX s.heap.get? n ls) ls) = true := congrArg (fun z : AlD => z.1) e
    have e2 : (obsX n fa fn ls s.heap.get?).2 = (valD fn).2 := congrArg (fun z : AlD => z.2) e
    have e2 : (obsD fa fn (frX s.heap.get? n ls)).2 = (valD fn).2 := e2
    simp only [Bool.and_eq_true] at e1
    obtain ⟨e1, e3⟩ := e1
    unfold lamB at e3
    simp only [Bool.and_eq_true, decide_eq_true_eq] at e3
    obtain ⟨e3, e4⟩ := e3
    obtain ⟨cs, hcs⟩ := cs_some (l := csK (frX s.heap.get? n ls) ls) fun o ho => by
      have := List.all_eq_true.mp e3 o ho
      cases o with
      | none => cases this
      | some p => exact ⟨p, rfl⟩
    refine ⟨_, cs, frX_in, Prod.ext e1 e2, fun a o h => frX_no h, hcs, fun p hp => ?_, by rw [hcs, tabsOf_some] at e4; exact e4⟩
    have := List.all_eq_true.mp e3 (some p) (by rw [hcs]; exact List.mem_map.mpr ⟨p, hp, rfl⟩)
    simp only [Bool.and_eq_true] at this
    exact ⟨this.1, emptyT_eq this.2.1, by simpa using this.2.2⟩
  keeps := fun _ h h' ⟨K, cs, S⟩ k => ⟨K, cs, PySem.W.Frag.In.keeps S.kin k, S.says, S.nol, S.eqs, fun p hp => ⟨(S.tab p hp).1, k _ _ (S.tab p hp).2.1, (S.tab p hp).2.2⟩, S.nd⟩
def obX (n : Nat) (fa : List Fa) (fn : List DefD) (ls : List (Str × Str)) (s : PySem.W.SharedT) : AlD := obsX n fa fn ls (HandSHeadRun.getT s)
theorem obX_eq {n : Nat} {fa : List Fa} {fn : List DefD} {ls : List (Str × Str)} (s : PySem.W.SharedT) : obX n fa fn ls s = (hookX n fa fn ls).obs s.abs := by
  have e : HandSHeadRun.getT s = s.abs.heap.get? := funext fun a => HandSHeadRun.getT_eq s a
  unfold obX
  rw [e]; rfl

/-! ### the law is called -/
section
variable {P : Program} {w : World} {K : PySem.W.Frag} {mg mb : Str → Option Value}
open LamX in
theorem law_callG {k : Nat} {fa a : Addr} {cs : List (Addr × Addr)} {fd : FuncData} {x : Str} {sp : Sp} {s₁ : Shared} {vs : List Value} {ns : List Int}
    (KX : K.In s₁.heap) (nol : ∀ a o, K.lookup a = some o → isLst o = false) (hns : s₁.heap.Ns mainGlobals mg) (hb : s₁.heap.Ns builtinsNs mb) (hbb : ∀ x : Str, x ≠ "__name__" → mb x = bootBuiltins x) (hlim : s₁.heap.NoLimit) (hg : s₁.gens = #[])
    (hT : ∀ p ∈ cs, s₁.heap.get? p.2 = some { cls := .none, data := .fields #[] }) (nT : ∀ p ∈ cs, K.lookup p.2 = none) (C : ∀ p ∈ cs, PySem.W.CodeHd s₁.heap p.1 p.2)
    (hbm : ∃ (bm : Addr) (ob : Obj), mg "__builtins__" = some (.ref bm) ∧ bm ≠ builtinsNs ∧ s₁.heap.get? bm = some ob ∧ ob.cls = .type "module" ∧ ob.dict = some builtinsNs ∧ ob.data = .plain)
    (ha : s₁.heap.get? a = some { cls := .type "list", data := .seq vs.toArray }) (hi : IntsAre vs ns) (hl : ns.length ≤ sizeLine) (hr : Room k callerA)
    (F : ∀ base : Heap, K.In base → base.Ns mainGlobals mg → (∀ p ∈ cs, TabB base mg p.1 p.2) → ∀ (kn : Kn), (∀ c v, ¬ Kn.kn c v) → FnG P w K mg base k fa fd [x] sp) (hbind : ∀ (s : Shared) (u : Value), BindsTo s fd ⟨[u], []⟩ [(x, u)])
    (hsp : ∀ (H : Hp) (o : Obj), (∀ p ∈ cs, H p.2 = some (.tbl #[])) → H a = some (.frz o (.lst (ns.map V.int))) → sp [.ref a] H (fun v _ => v = .bl true) fun _ _ _ => False) :
    codeAny (model P w) callerA (.call (.ref fa) ⟨[.ref a], []⟩) (fun r s' => r = .ok (.ret (.bool true)) ∧ OldK s₁.heap s'.heap ∧ s'.os = s₁.os ∧ AllBare s'.gens) s₁ := by
  have rv := vals_ints hi
  have isT : ∀ b : Addr, b ∈ cs.map (·.2) → s₁.heap.get? b = some { cls := .none, data := .fields #[] } := fun b hb => by
    obtain ⟨p, hp, e⟩ := List.mem_map.mp hb
    rw [← e]; exact hT p hp
  have memT : ∀ p ∈ cs, p.2 ∈ cs.map (·.2) := fun p hp => List.mem_map.mpr ⟨p, hp, rfl⟩
  have aT : a ∉ cs.map (·.2) := fun z => by
    have q := isT a z
    rw [ha] at q
    cases (congrArg Obj.data (Option.some.inj q) : Data.seq vs.toArray _ = Data.fields #[])
  generalize ho : ({ cls := .type "list", data := .seq vs.toArray } : Obj) = ol at ha
  let H : Hp := fun b => if b = a then some (.frz ol (.lst (ns.map V.int))) else if b ∈ cs.map (·.2) then some (.tbl #[]) else none
  have Ha : H a = some (.frz ol (.lst (ns.map V.int))) := if_pos rfl
  have Ht : ∀ b ∈ cs.map (·.2), H b = some (.tbl #[]) := fun b hb => (if_neg (fun e : b = a => aT (by rw [← e]; exact hb))).trans (if_pos hb)
  have HT : ∀ p ∈ cs, H p.2 = some (.tbl #[]) := fun p hp => Ht _ (memT p hp)
  have Hn : ∀ b, b ≠ a → b ∉ cs.map (·.2) → H b = none := fun b h1 h2 => (if_neg h1).trans (if_neg h2)
  have hok : HOk P w H s₁.heap := fun b u z => by
    by_cases hb : b = a
    · subst hb; rw [Ha] at z; cases z
      exact ⟨ha, by rw [List.length_map]; exact hl, vs, _, rv, by rw [ha, ← ho]⟩
    · by_cases hb2 : b ∈ cs.map (·.2)
      · rw [Ht b hb2] at z; cases z; exact isT b hb2
      · rw [Hn b hb hb2] at z; cases z
  have base_of : ∀ {b : Addr} {o : Obj}, s₁.heap.get? b = some o → H b = none → (hidT s₁.heap H).get? b = some o := fun e n => hidT_get e n
  have noD : ∀ {b : Addr} {o : Obj}, s₁.heap.get? b = some o → (∀ vs n, o.data ≠ .seq vs n) → o.data ≠ .fields #[] → H b = none := fun {b o} e h1 h2 => by
    refine Hn b (fun e' => ?_) fun e' => ?_
    · rw [e', ha, ← ho] at e; cases e; exact h1 _ _ rfl
    · rw [isT b e'] at e; cases e; exact h2 rfl
  have noA : ∀ {b : Addr} {o : Obj} {es : Array DictEntry} {ep : Nat}, s₁.heap.get? b = some o → o.data = .dict es ep → H b = none := fun {b o es ep} e d =>
    noD e (fun vs n z => by rw [d] at z; cases z) fun z => by rw [d] at z; cases z
  have nsK : ∀ {b : Addr} {m : Str → Option Value}, s₁.heap.Ns b m → (hidT s₁.heap H).Ns b m := fun {b m} ⟨o, es, ep, e, d, r⟩ => ⟨o, es, ep, base_of e (noA e d), d, r⟩
  have hKb : K.In (hidT s₁.heap H) := fun b o e => base_of (KX b o e) (Hn b (fun e' => by
    have h1 := KX b o e
    have h2 := nol b o e
    rw [e', ha, ← ho] at h1
    cases h1
    cases h2) fun e' => by
    obtain ⟨p, hp, ep⟩ := List.mem_map.mp e'
    rw [← ep, nT p hp] at e; cases e)
  have hM : L2.Mod K mg (hidT s₁.heap H) := ⟨hKb, nsK hns, ⟨mb, nsK hb, hbb⟩, let ⟨mc, h1, h2⟩ := hlim; ⟨mc, nsK h1, h2⟩⟩
  have TB : ∀ p ∈ cs, TabB (hidT s₁.heap H) mg p.1 p.2 := fun p hp => by
    have hTp := hT p hp
    refine ⟨?_, ?_, fun z => ?_⟩
    · obtain ⟨o, us, file, tf, flags, tg, inF, text, tt, e1, r1, r2, r3, r⟩ := C p hp
      refine ⟨o, us, file, tf, flags, tg, inF, text, tt, base_of e1 (noD e1 (fun vs n z => by rw [r2] at z; cases z) fun z => ?_), r1, r2, r3, r⟩
      rw [r2] at z; cases z; simp at r3
    · obtain ⟨bm, ob, b1, b2, b3, b4, b5, b6⟩ := hbm
      refine ⟨bm, ob, b1, b2, fun q => ?_, fun q => ?_, base_of b3 (noD b3 (fun vs n z => by rw [b6] at z; cases z) fun z => by rw [b6] at z; cases z), b4, b5, b6⟩
      · obtain ⟨o, es, ep, e, hd, _⟩ := hns
        rw [q, e] at b3; cases b3; rw [hd] at b6; cases b6
      · rw [q, hTp] at b3; cases b3; cases b6
    · obtain ⟨o, es, ep, e, hd, _⟩ := hns
      rw [z, hTp] at e; cases e; cases hd
  have e0 : Env0 P w K mg (hidT s₁.heap H) callerA [] s₁ H := ⟨rfl, hM, fun b o e => of_hidT e, Nat.le_of_eq (hidT_size _ _), trivial, fun b hb => absurd (show b ∈ ([] : List Addr) from hb) (by simp), hok, .of_eq hg⟩
  let kn : Kn := ⟨fun _ _ => False⟩
  refine codeAny_mono ((F _ hKb (nsK hns) TB kn fun _ _ z => z).run callerA [] s₁ H ⟨[.ref a], []⟩ [.ref a] [.ref a] _ _ hr rfl e0 (fun _ _ z => z.elim) (hbind s₁ (.ref a)) (.cons rfl .nil) (hsp H ol HT Ha)) fun r s' h => ?_
  cases r with
  | error e =>
    obtain ⟨_, _, _, _, _, _, _, _, _, _, _, _, z⟩ := h
    exact z.elim
  | ok fl =>
    cases fl with
    | next => exact False.elim h
    | brk => exact False.elim h
    | cont => exact False.elim h
    | ret u =>
      obtain ⟨v, H', os, bare, un, hok', r', q⟩ := h
      have q' : v = .bl true := q
      subst q'
      obtain rfl : u = Value.bool true := r'
      have key : ∀ b o, b ∉ cs.map (·.2) → s₁.heap.get? b = some o → s'.heap.get? b = some o := fun b o nb e => by
        by_cases hb : b = a
        · subst hb
          have z2 := un.frzs b ol _ Ha
          obtain ⟨e2, _⟩ := hok' b _ z2
          rw [ha] at e; cases e; exact e2
        · exact un.keep b o e (Hn b hb nb) (fun z => absurd (show b ∈ ([] : List Addr) from z) (by simp)) (by simp)
      have grown : ∀ p ∈ cs, ∃ more : Array Value, s'.heap.get? p.2 = some { cls := .none, data := .fields more } := fun p hp => by
        obtain ⟨more, z⟩ := un.tbls p.2 #[] (HT p hp)
        exact ⟨_, hok' p.2 _ z⟩
      refine ⟨rfl, ⟨fun b o e => ?_, fun b o e => ?_⟩, os, bare⟩
      · by_cases hb : b ∈ cs.map (·.2)
        · obtain ⟨p, hp, ep⟩ := List.mem_map.mp hb
          obtain ⟨more, hm⟩ := grown p hp
          rw [← ep] at e ⊢
          rw [hT p hp] at e
          cases e
          exact .inr (.inl ⟨((C p hp).tab (hT p hp)).isCodeTable, rfl, #[], more, rfl, by rw [Array.empty_append]; exact hm⟩)
        · exact .inl (key b o hb e)
      · by_cases hb : b ∈ cs.map (·.2)
        · obtain ⟨p, hp, ep⟩ := List.mem_map.mp hb
          obtain ⟨more, hm⟩ := grown p hp
          rw [← ep]; exact ⟨_, hm⟩
        · exact ⟨o, key b o hb e⟩
end
end OV
/-! text OVEO -/
namespace OV
open PySem PySem.Spec PyProof.Rows L2 He
/-! A law by the plain machine. -/
def fscB (N ps : List Str) (sc : Scope) : Bool :=
  decide (sc.kind = .function) && (!sc.isCoroutine && (!sc.isGenerator && (decide N.Nodup && (decide (N.take ps.length = ps) && ((ps.all fun x => decide (sc.names.lookup x = some .local) || decide (sc.names.lookup x = some .cell)) && sc.names.all fun y => !decide (y.2 = .free))))))
theorem fscB_ok {N ps : List Str} {sc : Scope} (h : fscB N ps sc = true) : FnScope N ps sc := by
  unfold fscB at h
  simp only [Bool.and_eq_true, Bool.not_eq_true', decide_eq_true_eq, List.all_eq_true, Bool.or_eq_true, decide_eq_false_iff_not] at h
  obtain ⟨h1, h2, h3, h4, h5, h6, h7⟩ := h
  exact ⟨h1, h2, h3, h4, h5, h6, h7⟩
/-- a def's text is the machine's -/
def txtB (M : Mach) (ls : List (Str × Str)) (d : Df) (t : Dt) : Bool := fscB d.N d.ps t.scope && (plainP t.args d.ps && (chkSs (M.sx d.N t.scope d.top) d.body t.body && (!d.top || ls.contains (t.g, t.n))))
def faOf (M : Mach) : List Fa := bfNames.map .free ++ (M.gi.map (fun p => .int p.1 p.2) ++ M.df.map .glo)
def lamQ (n : Str) : Str := (envOfC n ⟨.function, [], false, false, []⟩ 0 0 .none).qual ++ "<lambda>"
def tabsT (ls : List (Str × Str)) (cs : List (Addr × Addr)) : List (Addr × Str) := (cs.zip ls).map fun p => (p.1.2, lamQ p.2.2)
theorem zip_get {α β : Type} {a : List α} {b : List β} {i : Nat} {x : α} {y : β} (h1 : a[i]? = some x) (h2 : b[i]? = some y) : (x, y) ∈ a.zip b := by
  have := List.getElem?_zip_eq_some (i := i) (l₁ := a) (l₂ := b) (z := (x, y))
  exact List.mem_of_getElem? (this.mpr ⟨h1, h2⟩)
theorem mem_zip_get {α β : Type} {a : List α} {b : List β} {p : α × β} (h : p ∈ a.zip b) : ∃ i : Nat, a[i]? = some p.1 ∧ b[i]? = some p.2 := by
  obtain ⟨i, hi⟩ := List.getElem?_of_mem h
  exact ⟨i, List.getElem?_zip_eq_some.mp hi⟩
theorem nd_idx {α : Type} {l : List α} (nd : l.Nodup) {i j : Nat} {x : α} (h1 : l[i]? = some x) (h2 : l[j]? = some x) : i = j := by
  obtain ⟨a, e1⟩ := List.getElem?_eq_some_iff.mp h1
  obtain ⟨b, e2⟩ := List.getElem?_eq_some_iff.mp h2
  have p := List.pairwise_iff_getElem.mp nd
  rcases Nat.lt_trichotomy i j with h | h | h
  · exact absurd (e1.trans e2.symm) (p i j a b h)
  · exact h
  · exact absurd (e2.trans e1.symm) (p j i b a h)
section
variable {l : PySem.W.OpenLaw} {M : Mach} {T : Str → Option Df} {ts : List Dt} {ls : List (Str × Str)} {w : World} {K : PySem.W.Frag} {cs : List (Addr × Addr)} {h base : Heap} {mg : Str → Option Value}
/-- the tables of a law -/
abbrev tabled (P : Program) (w : World) (M : Mach) (ls : List (Str × Str)) (cs : List (Addr × Addr)) : Tabled :=
  ⟨tabsT ls cs, fun j t => lokB M.L M.df M.gi j t.params t.body t.scope = true ∧ t.fr = lfrOf M.L j, P, w⟩
/-- the parts of a def -/
theorem parts {P : Program} (S : Says (faOf M) (ts.map Dt.d) ls h K cs) (G : h.Ns mainGlobals mg) (hdf : M.df = ts.map (·.g)) {d : Df} {t : Dt} {i : Nat} (ht : ts[i]? = some t) (hx : txtB M ls d t = true) :
    ∃ (fd : FuncData) (dV kV doc pm cdv ct oc : Value) (an od : Option Addr) (osl : Array (Option Value)), mg t.g = some (.ref (ga K t.g)) ∧ PySem.W.keepIn K (.ref (ga K t.g)) = true ∧ fd = PySem.W.fnOf t.n t.n t.args t.body t.scope dV kV doc pm an cdv ct ∧ K.lookup (ga K t.g) = some ⟨oc, od, .func fd, osl⟩ ∧ PySem.W.codeIn K cdv t.n = true ∧
      FnScope d.N d.ps t.scope ∧ (∀ (s : Shared) (us : List Value), us.length = d.ps.length → BindsTo s fd ⟨us, []⟩ (d.ps.zip us)) ∧ chkSs (M.sx d.N t.scope d.top) d.body t.body = true ∧
      ((∀ p ∈ cs, LamX.TabB base mg p.1 p.2) → d.top = true → ∃ c Pt, LamX.TabB base mg c Pt ∧ cdv = .ref c ∧ (Pt, lamQ t.n) ∈ (tabled P w M ls cs).T ∧ ∀ p ∈ (tabled P w M ls cs).T, p.1 = Pt → p.2 = lamQ t.n) := by
  unfold txtB at hx
  simp only [Bool.and_eq_true, Bool.or_eq_true, Bool.not_eq_true'] at hx
  obtain ⟨x1, x2, x3, x4⟩ := hx
  obtain ⟨fd, F⟩ := S.says.def_ i (d := t.d) (by rw [List.getElem?_map, ht]; rfl)
  have kp := F.kp
  obtain ⟨oc, od, dV, kV, doc, pm, an, cdv, ct, osl, hfd, lk, hcd, hD, _⟩ := F.ex
  have hdV : dV = .none := by
    rcases hD with ⟨_, e⟩ | ⟨e, _⟩
    · exact e
    · exact absurd rfl e
  subst hdV
  have hg : (Fa.glo t.g).ok K = true := by
    have c1 := (ba (show (((faOf M).all fun f => f.ok K) && (ts.map Dt.d).all fun d => d.ok K) = true from congrArg (fun z : AlD => z.1) S.says)).1
    refine List.all_eq_true.mp c1 _ ?_
    unfold faOf
    refine List.mem_append_right _ (List.mem_append_right _ (List.mem_map.mpr ⟨t.g, ?_, rfl⟩))
    rw [hdf]; exact List.mem_map.mpr ⟨t, List.mem_of_getElem? ht, rfl⟩
  obtain ⟨as, ha1, ha2, ha3⟩ := plainP_eq x2
  have ha1 : t.args = ⟨[], as, none, [], [], none, []⟩ := ha1
  refine ⟨fd, _, kV, doc, pm, cdv, ct, oc, an, od, osl, glo_ok S.kin G hg, kp, hfd, lk, hcd, fscB_ok x1, fun s us hl => ?_, x3, fun TB htop => ?_⟩
  · refine .of_eq ?_
    rw [← ha2]
    exact bind_plain (by rw [hfd]; exact ha1) (by rw [hfd]) (by rw [ha2]; exact ha3) us (by rw [hl, ← ha2, List.length_map])
  · rcases x4 with x4 | x4
    · rw [htop] at x4; cases x4
    · have hm : (t.g, t.n) ∈ ls := by simpa using x4
      obtain ⟨j, hj⟩ := List.getElem?_of_mem hm
      have hc : (csK K ls)[j]? = some (tabC K (ga K t.g)) := by unfold csK; rw [List.getElem?_map, hj]; rfl
      rw [S.eqs, List.getElem?_map] at hc
      cases hcs : cs[j]? with
      | none => rw [hcs] at hc; cases hc
      | some p =>
        rw [hcs] at hc
        have hp : tabC K (ga K t.g) = some p := (Option.some.inj hc).symm
        have hcode : cdv = .ref p.1 := by
          unfold tabC at hp
          have lk' : K.lookup (ga K t.g) = some ⟨oc, od, .func fd, osl⟩ := lk
          rw [lk'] at hp
          simp only at hp
          split at hp
          · rename_i c hc2
            split at hp
            · split at hp
              · cases hp
                rw [hfd] at hc2
                exact hc2
              · cases hp
            · cases hp
          · cases hp
        refine ⟨p.1, p.2, TB p (List.mem_of_getElem? hcs), hcode, List.mem_map.mpr ⟨(p, (t.g, t.n)), zip_get hcs hj, rfl⟩, fun q hq e => ?_⟩
        obtain ⟨z, hz, rfl⟩ := List.mem_map.mp hq
        obtain ⟨i', h1, h2⟩ := mem_zip_get hz
        have e : z.1.2 = p.2 := e
        have hij : i' = j := nd_idx S.nd (x := p.2) (by rw [List.getElem?_map, h1]; simp [e]) (by rw [List.getElem?_map, hcs]; rfl)
        rw [hij, hj] at h2
        show lamQ z.2.2 = lamQ t.n
        rw [← Option.some.inj h2]
theorem top_ok {P : Program} (S : Says (faOf M) (ts.map Dt.d) ls h K cs) (G : h.Ns mainGlobals mg) (hdf : M.df = ts.map (·.g)) : @TopOK (tabled P w M ls cs) P w K mg M := by
  have c1 := (ba (show (((faOf M).all fun f => f.ok K) && (ts.map Dt.d).all fun d => d.ok K) = true from congrArg (fun z : AlD => z.1) S.says)).1
  have fact : ∀ f ∈ faOf M, f.ok K = true := fun f hf => List.all_eq_true.mp c1 f hf
  refine @TopOK.mk (tabled P w M ls cs) _ _ _ _ _ (fun x hx => free_ok S.kin G (fact _ (List.mem_append_left _ (List.mem_map.mpr ⟨x, hx, rfl⟩)))) (fun x i hx => int_ok S.kin G (fact _ (List.mem_append_right _ (List.mem_append_left _ (List.mem_map.mpr ⟨(x, i), hx, rfl⟩))))) (fun f hf => ?_) rfl rfl (fun j t => Iff.rfl)
  rw [hdf] at hf
  obtain ⟨t, ht, rfl⟩ := List.mem_map.mp (show f ∈ ts.map (·.g) by simpa using hf)
  obtain ⟨i, hi⟩ := List.getElem?_of_mem ht
  obtain ⟨fd, F⟩ := S.says.def_ i (d := t.d) (by rw [List.getElem?_map, hi]; rfl)
  exact ⟨ga K t.g, glo_ok S.kin G (fact _ (List.mem_append_right _ (List.mem_append_right _ (List.mem_map.mpr ⟨t.g, by rw [hdf]; exact List.mem_map.mpr ⟨t, ht, rfl⟩, rfl⟩)))), F.kp⟩
end
/-- a law, by the plain machine's run -/
theorem walk_ov {l : PySem.W.OpenLaw} {q : Program} {loose : List Str} {XP : (Str → Option Value) → Heap → Prop} {d : DefRec} (nh : Nat) (M : Mach) (T : Str → Option Df) (ts : List Dt) (ls : List (Str × Str)) (k : Nat) (dl : Df) (il : Nat) (tl : Dt)
    (hn : l.most = some 63) (hdf0 : d.params.defaults = []) (hname : d.name = "law") (hr : Room (k + 1) callerA) (hdf : M.df = ts.map (·.g)) (ok : ∀ f df, T f = some df → ∃ (i : Nat) (t : Dt), ts[i]? = some t ∧ t.g = f ∧ txtB M ls df t = true)
    (hl : T "law" = some dl) (hil : ts[il]? = some tl) (hlg : tl.g = "law") (hlx : txtB M ls dl tl = true) (hps : dl.ps = (["script"] : List Str))
    (res : ∀ ns : List Int, ns.length ≤ 63 → (∀ z ∈ ns, Builtin.Int.intBits z ≤ 1048576) → (lev T M.L (k + 1)).fn "law" [.lst (ns.map .int)] [] [] = .ok (.bl true) []) :
    PySem.W.WalkO q loose XP (hookX nh (faOf M) (ts.map Dt.d) ls).says l.row.toRowW d [] (fun f vs => PySem.call f vs) := by
  refine Att.attach_callB hn hdf0 fun w s₀ s₁ mg mb fa o pm cd doc a vs ns G Y ho hd hcd hmg hobj hints hlen hbits hg => ?_
  obtain ⟨K, cs, S⟩ := Y
  have hmg : mg "law" = some (.ref fa) := by rw [← hname]; exact hmg
  have dok : ∀ base : Heap, (∀ p ∈ cs, LamX.TabB base mg p.1 p.2) → ∀ f df, T f = some df → @DefOK (tabled l.prog w M ls cs) K mg base M f df := fun base TB f df hf => by
    obtain ⟨i, t, h1, rfl, h3⟩ := ok f df hf
    obtain ⟨fd, dV, kV, doc, pm, cdv, ct, oc, an, od, osl, p1, p2, p3, p4, p5, p6, p7, p8, p9⟩ := parts (P := l.prog) (w := w) (base := base) S G.T.g hdf h1 h3
    exact @DefOK.mk (tabled l.prog w M ls cs) _ _ _ _ _ _ ⟨_, fd, _, _, _, _, _, dV, kV, doc, pm, cdv, ct, oc, an, od, osl, p1, p2, p3, p4, p5, p6, fun s us _ hl => by
      rw [List.append_nil] at hl ⊢; exact p7 s us hl, p8, p9 TB⟩
  obtain ⟨fd, dV, kV, doc', pm', cdv, ct, oc, an, od, osl, p1, p2, p3, p4, p5, p6, p7, p8, _⟩ := parts (P := l.prog) (w := w) (base := s₁.heap) S G.T.g hdf hil hlx
  rw [hlg] at p1 p4
  rw [hmg] at p1
  cases p1
  refine law_callG (k := k + 1) (fd := fd) (x := "script") S.kin S.nol G.T.g G.T.b G.T.builtins G.T.nolimit hg (fun p hp => (S.tab p hp).2.1) (fun p hp => (S.tab p hp).2.2) (fun p hp => PySem.W.codeHd_of_K S.kin (S.tab p hp).1) G.T.bmain hobj hints (Nat.le_trans hlen (by rw [sizeLine_eq]; decide)) hr
    (sp := fun vs H Q E => (∃ o, (∀ p ∈ cs, H p.2 = some (.tbl #[])) ∧ H a = some (.frz o (.lst (ns.map V.int)))) ∧ vs = [.ref a] ∧ Q = (fun v _ => v = .bl true) ∧ E = fun _ _ _ => False) (fun base KI NB TB kn hkn => ?_) (fun s u => ?_) (fun H o HT Ha => ⟨⟨o, HT, Ha⟩, rfl, rfl, rfl⟩)
  · obtain ⟨_, _, _, _, _, _, _, _, _, _, _, r1, r2, r3, r4, r5, r6, r7, r8, r9⟩ := parts (P := l.prog) (w := w) (base := base) S G.T.g hdf hil hlx
    rw [hlg] at r4
    rw [p4] at r4
    cases r4
    have lt := @lev_tab (tabled l.prog w M ls cs) l.prog w K mg base T M (top_ok S G.T.g hdf) (dok base TB) k
    subst r3
    have F := @fn_g (tabled l.prog w M ls cs) l.prog w K mg base kn _ k M (ga K "law") tl.n tl.n tl.args tl.body tl.scope _ _ _ _ _ _ _ _ _ _ dl.N dl.ps dl.body dl.top p4 r5 r6 lt.1 lt.2 (top_ok S G.T.g hdf) r8 (r9 TB) (lev T M.L (k + 1)) "law" (fun ds lk ce hl' => by simp only [lev, hl]; rw [if_pos hl'])
    rw [hps] at F
    refine @FnG.mk kn _ _ _ _ _ _ _ _ _ _ (fun vs H Q E h => by rw [h.2.1]; rfl) fun A outer s H args us vs Q E h1 h2 h3 h4 h5 h6 ⟨⟨o, HT, Ha⟩, hv, hQ, hE⟩ => ?_
    subst hv hQ hE
    letI T0 : Tabled := tabled l.prog w M ls cs
    have zints : ∀ z : List Int, RFs H (z.map V.int) (z.map D.int) := fun z => by
      induction z with
      | nil => exact .nil
      | cons a z ih => exact .cons (.int _) ih
    have R0 : RelC [] [] [] H := by
      refine ⟨rfl, fun i d e => by simp at e, rfl, rfl, fun n d e => by simp at e, fun n e => by simp at e, List.Pairwise.nil, fun p hp => ?_⟩
      obtain ⟨z, hz, rfl⟩ := List.mem_map.mp (show p ∈ (cs.zip ls).map fun p => (p.1.2, lamQ p.2.2) from hp)
      obtain ⟨i', h1, h2⟩ := mem_zip_get hz
      exact LamX.TabS.nil (HT _ (List.mem_of_getElem? h1))
    have A0 : RTs H [] [.ref a] [.lst (ns.map D.int)] := .cons (.fro (.lst Ha (zints ns))) .nil
    have e := res ns hlen hbits
    have S0 : spR mg ((lev T M.L (k + 1)).fn "law" [.lst (ns.map D.int)] [] []) [] [] [] H (fun v _ => v = .bl true) fun _ _ _ => False := by
      rw [e]
      refine ⟨fun z => (by cases z), fun d ce' e2 v H' fps' fp _ rr _ _ _ => ?_, fun c a' ce' e2 => (by cases e2)⟩
      cases e2
      exact rr.bl.1
    exact F.run A outer s H args us [.ref a] _ _ h1 h2 h3 h4 h5 h6 ⟨rfl, [.lst (ns.map .int)], [], [], [], [], R0, A0, S0⟩
  · have := p7 s [u] (by rw [hps]; rfl)
    rw [hps] at this
    exact this
theorem tab_ok_of {M : Mach} {ls : List (Str × Str)} {tl : List (Str × Df)} {ts : List Dt} (hl : tl.length = ts.length) (hx : ((tl.zip ts).all fun p => decide (p.1.1 = p.2.g) && txtB M ls p.1.2 p.2) = true) (f : Str) (df : Df) (h : ((tl.find? fun p => decide (p.1 = f)).map (·.2)) = some df) :
    ∃ (i : Nat) (t : Dt), ts[i]? = some t ∧ t.g = f ∧ txtB M ls df t = true := by
  obtain ⟨p, hp, rfl⟩ := Option.map_eq_some_iff.mp h
  have hf := List.find?_some hp
  obtain ⟨i, hi⟩ := List.getElem?_of_mem (List.mem_of_find?_eq_some hp)
  have hlt : i < ts.length := by rw [← hl]; exact (List.getElem?_eq_some_iff.mp hi).1
  have := List.all_eq_true.mp hx _ (zip_get hi (List.getElem?_eq_getElem hlt))
  simp only [Bool.and_eq_true, decide_eq_true_eq] at this hf
  exact ⟨i, ts[i], List.getElem?_eq_getElem hlt, by rw [← this.1]; exact hf, this.2⟩
end OV
/-! text T94 -/
namespace OV
open PySem
def top (i : Nat) : Stmt := PySem.Challenge.pw_ringstell_k94_whole_alike_places_have_th.main.body.getD i (.Pass ⟨0, 0, 0, 0⟩)
def dfs : List Str := ["is_number", "is_index", "all_notes", "note_at", "first_bearer", "bearers", "between_bearers", "bearing_rows", "is_likeness", "moved_places", "shift", "grown_symmetry", "holds_in", "_law_draw", "_law_any", "_law_of", "_law_free_rows", "_law_first", "_law_bearers", "_law_note", "_law_bearing", "_law_mixed", "_law_is_number", "_law_is_symmetry", "_law_drawn_pair", "_law_by", "_law_holds", "_law_saying", "law"]
def gi : List (Str × Int) := [("MOST_PLACES", 40)]
def l_0 : Lm := ⟨["x", "y", "z"], [], ["x", "y", "z"], (.bl true)⟩
def lams : Nat → Option Lm := fun j => match j with
  | 0 => some l_0
  | _ => none
def mach : Mach := ⟨dfs, gi, lams⟩
def c_is_number : Ss := (.cons (.ret (.and (.cons (.callB (.isI .int) (.cons (.var 0) .nil)) (.cons (.not (.callB (.isI .bool) (.cons (.var 0) .nil))) (.cons (.cmp .ge (.var 0) (.int 0)) .nil))))) .nil)
def n_is_number : List Str := ["value"]
def c_is_index : Ss := (.cons (.ret (.and (.cons (.call "is_number" (.cons (.var 0) .nil)) (.cons (.cmp .lt (.var 0) (.var 1)) .nil)))) .nil)
def n_is_index : List Str := ["value", "many"]
def c_all_notes : Ss := (.cons (.asg (.nm false 2) (.lst false (.cons (.tup .nil) .nil))) (.cons (.for (.nm false 3) (.pl (.callB .range1 (.cons (.var 0) .nil))) (.cons (.asg (.nm false 2) (.comp [4, 5] (.nm false 4) (.pl (.var 2)) .nil (.cons (.nm false 5) (.pl (.callB .range1 (.cons (.var 1) .nil))) .nil (.el false (.stup (.var 4) (.cons (.var 5) .nil)))))) .nil)) (.cons (.ret (.var 2)) .nil)))
def n_all_notes : List Str := ["places", "many", "found", "turn", "notes", "x"]
def c_note_at : Ss := (.cons (.ret (.idx (.var 0) (.ite (.cmp .lt (.var 2) (.var 1)) (.var 2) (.bin .sub (.var 2) (.int 1))))) .nil)
def n_note_at : List Str := ["notes", "place", "other"]
def c_first_bearer : Ss := (.cons (.ret (.tup (.cons (.var 1) (.cons (.callB .tuple (.cons (.comp [2] (.nm false 2) (.pl (.callB .range1 (.cons (.callB .len (.cons (.var 0) .nil)) .nil))) (.cons (.cmp .ne (.var 2) (.var 1)) .nil) (.el false (.ite (.cmp .gt (.var 2) (.var 1)) (.idx (.idx (.var 0) (.var 1)) (.var 2)) (.int 0)))) .nil)) .nil)))) .nil)
def n_first_bearer : List Str := ["rows", "place", "other"]
def c_bearers : Ss := (.cons (.asg (.tp (.cons (.nm false 2) (.cons (.nm false 3) .nil))) (.tup (.cons (.comp [6] (.nm false 6) (.pl (.callB .range1 (.cons (.callB .len (.cons (.var 1) .nil)) .nil))) .nil (.el false (.call "first_bearer" (.cons (.var 1) (.cons (.var 6) .nil))))) (.cons (.callB .len (.cons (.var 1) .nil)) .nil)))) (.cons (.for (.nm false 4) (.pl (.callB .range1 (.cons (.bin .sub (.callB .len (.cons (.var 1) .nil)) (.int 1)) .nil))) (.cons (.asg (.nm false 3) (.bin .mul (.var 3) (.var 0))) (.cons (.iff (.cmp .gt (.var 3) (.gint "MOST_PLACES" 40)) (.cons .never .nil) .nil) .nil))) (.cons (.asg (.nm true 5) (.lst false .nil)) (.cons (.for (.nm false 6) (.pl (.callB .range1 (.cons (.callB .len (.cons (.var 1) .nil)) .nil))) (.cons (.extend 5 .nil (.comp [7] (.nm false 7) (.pl (.call "all_notes" (.cons (.bin .sub (.callB .len (.cons (.var 1) .nil)) (.int 1)) (.cons (.var 0) .nil)))) .nil (.el false (.tup (.cons (.var 6) (.cons (.var 7) .nil)))))) .nil)) (.cons (.ret (.callB .tuple (.cons (.bin .add (.var 2) (.comp [8] (.nm false 8) (.pl (.var 5)) (.cons (.cmp .nin (.var 8) (.var 2)) .nil) (.el false (.var 8)))) .nil))) .nil)))))
def n_bearers : List Str := ["many", "rows", "first", "size", "turn", "found", "place", "notes", "one"]
def c_between_bearers : Ss := (.cons (.iff (.cmp .eq (.idx (.var 1) (.int 0)) (.idx (.var 2) (.int 0))) (.cons (.ret (.int 0)) .nil) .nil) (.cons (.ret (.bin .mod (.bin .add (.call "note_at" (.cons (.idx (.var 1) (.int 1)) (.cons (.idx (.var 1) (.int 0)) (.cons (.idx (.var 2) (.int 0)) .nil)))) (.call "note_at" (.cons (.idx (.var 2) (.int 1)) (.cons (.idx (.var 2) (.int 0)) (.cons (.idx (.var 1) (.int 0)) .nil))))) (.var 0))) .nil))
def n_between_bearers : List Str := ["many", "one", "other"]
def c_bearing_rows : Ss := (.cons (.asg (.nm false 2) (.call "bearers" (.cons (.var 0) (.cons (.var 1) .nil)))) (.cons (.asg (.nm true 3) (.lst false .nil)) (.cons (.for (.tp (.cons (.nm false 4) (.cons (.nm false 5) .nil))) (.enum (.var 2)) (.cons (.append 3 .nil (.callB .tuple (.cons (.comp [6, 7] (.tp (.cons (.nm false 6) (.cons (.nm false 7) .nil))) (.enum (.var 2)) .nil (.el false (.ite (.cmp .eq (.var 4) (.var 6)) .non (.call "between_bearers" (.cons (.var 0) (.cons (.var 5) (.cons (.var 7) .nil))))))) .nil))) .nil)) (.cons (.ret (.callB .tuple (.cons (.var 3) .nil))) .nil))))
def n_bearing_rows : List Str := ["many", "rows", "some", "found", "u", "one", "v", "other"]
def c_is_likeness : Ss := (.cons (.for (.nm false 3) (.pl (.tup (.cons (.var 1) (.cons (.var 2) .nil)))) (.cons (.iff (.or (.cons (.not (.callB (.isI .tuple) (.cons (.var 3) .nil))) (.cons (.not (.callB .all (.cons (.comp [7] (.nm false 7) (.pl (.var 3)) .nil (.el false (.call "is_index" (.cons (.var 7) (.cons (.callB .len (.cons (.var 0) .nil)) .nil))))) .nil))) .nil))) (.cons (.ret (.bl false)) .nil) .nil) (.cons (.iff (.cmp .ne (.callB .lenSet (.cons (.var 3) .nil)) (.callB .len (.cons (.var 3) .nil))) (.cons (.ret (.bl false)) .nil) .nil) .nil))) (.cons (.iff (.cmp .ne (.callB .len (.cons (.var 1) .nil)) (.callB .len (.cons (.var 2) .nil))) (.cons (.ret (.bl false)) .nil) .nil) (.cons (.asg (.nm false 4) (.callB .range1 (.cons (.callB .len (.cons (.var 1) .nil)) .nil))) (.cons (.ret (.callB .all (.cons (.comp [5, 6] (.nm false 5) (.pl (.var 4)) .nil (.cons (.nm false 6) (.pl (.var 4)) .nil (.el false (.cmp .eq (.idx (.idx (.var 0) (.idx (.var 1) (.var 5))) (.idx (.var 1) (.var 6))) (.idx (.idx (.var 0) (.idx (.var 2) (.var 5))) (.idx (.var 2) (.var 6))))))) .nil))) .nil))))
def n_is_likeness : List Str := ["rows", "here", "there", "some", "many", "i", "j", "u"]
def c_moved_places : Ss := (.cons (.asg (.nm true 3) (.comp [7] (.nm false 7) (.pl (.callB .range1 (.cons (.var 0) .nil))) (.cons (.cmp .nin (.var 7) (.var 2)) .nil) (.el false (.var 7)))) (.cons (.asg (.nm true 4) (.comp [7] (.nm false 7) (.pl (.callB .range1 (.cons (.var 0) .nil))) .nil (.el false .non))) (.cons (.for (.tp (.cons (.nm false 5) (.cons (.nm false 6) .nil))) (.zip (.var 1) (.var 2)) (.cons (.asg (.ix 4 .nil (.var 5)) (.var 6)) .nil)) (.cons (.for (.nm false 5) (.pl (.callB .range1 (.cons (.var 0) .nil))) (.cons (.iff (.isK none (.idx (.var 4) (.var 5))) (.cons (.asg (.ix 4 .nil (.var 5)) (.pop 3 .nil (.int 0))) .nil) .nil) .nil)) (.cons (.ret (.mv 4)) .nil)))))
def n_moved_places : List Str := ["places", "here", "there", "free", "found", "u", "v", "place"]
def c_shift : Ss := (.cons (.iff (.cmp .inn (.var 4) (.var 2)) (.cons (.asg (.nm false 6) (.call "note_at" (.cons (.idx (.call "first_bearer" (.cons (.var 1) (.cons (.idx (.var 3) (.var 4)) .nil))) (.int 1)) (.cons (.idx (.var 3) (.var 4)) (.cons (.idx (.var 3) (.var 5)) .nil))))) (.cons (.ret (.bin .mod (.bin .sub (.var 6) (.call "note_at" (.cons (.idx (.call "first_bearer" (.cons (.var 1) (.cons (.var 4) .nil))) (.int 1)) (.cons (.var 4) (.cons (.var 5) .nil))))) (.var 0))) .nil)) .nil) (.cons (.iff (.cmp .inn (.var 5) (.var 2)) (.cons (.ret (.bin .mod (.neg (.call "shift" (.cons (.var 0) (.cons (.var 1) (.cons (.var 2) (.cons (.var 3) (.cons (.var 5) (.cons (.var 4) .nil)))))))) (.var 0))) .nil) .nil) (.cons (.ret (.int 0)) .nil)))
def n_shift : List Str := ["many", "rows", "here", "moved", "u", "v", "new"]
def c_grown_symmetry : Ss := (.cons (.asg (.nm false 4) (.call "bearers" (.cons (.var 0) (.cons (.var 1) .nil)))) (.cons (.iff (.not (.call "is_likeness" (.cons (.var 1) (.cons (.var 2) (.cons (.var 3) .nil))))) (.cons .never .nil) .nil) (.cons (.asg (.nm false 5) (.callB .range1 (.cons (.callB .len (.cons (.var 1) .nil)) .nil))) (.cons (.asg (.nm false 6) (.call "moved_places" (.cons (.callB .len (.cons (.var 1) .nil)) (.cons (.var 2) (.cons (.var 3) .nil))))) (.cons (.asg (.nm false 7) (.dcomp true [12, 13] (.tp (.cons (.nm false 12) (.cons (.nm false 13) .nil))) (.enum (.var 4)) .nil (.var 13) (.var 12))) (.cons (.asg (.nm true 8) (.lst false .nil)) (.cons (.for (.tp (.cons (.nm false 9) (.cons (.nm false 10) .nil))) (.pl (.var 4)) (.cons (.asg (.nm false 11) (.dcomp false [14] (.nm false 14) (.pl (.var 5)) (.cons (.cmp .ne (.var 14) (.var 9)) .nil) (.idx (.var 6) (.var 14)) (.bin .mod (.bin .add (.call "note_at" (.cons (.var 10) (.cons (.var 9) (.cons (.var 14) .nil)))) (.call "shift" (.cons (.var 0) (.cons (.var 1) (.cons (.var 2) (.cons (.var 6) (.cons (.var 9) (.cons (.var 14) .nil)))))))) (.var 0)))) (.cons (.append 8 .nil (.idx (.var 7) (.tup (.cons (.idx (.var 6) (.var 9)) (.cons (.callB .tuple (.cons (.comp [14] (.nm false 14) (.pl (.var 5)) (.cons (.cmp .ne (.var 14) (.idx (.var 6) (.var 9))) .nil) (.el false (.idx (.var 11) (.var 14)))) .nil)) .nil))))) .nil))) (.cons (.ret (.callB .tuple (.cons (.var 8) .nil))) .nil))))))))
def n_grown_symmetry : List Str := ["many", "rows", "here", "there", "some", "places", "moved", "known", "found", "place", "notes", "new", "at", "one", "v"]
def c_holds_in : Ss := (.cons (.iff (.cmp .eq (.idx (.var 2) (.int 0)) (.str "lot")) (.cons (.ret (.cmp .inn (.idx (.idx (.var 0) (.idx (.var 1) (.idx (.var 2) (.int 1)))) (.idx (.var 1) (.idx (.var 2) (.int 2)))) (.idx (.var 2) (.int 3)))) .nil) .nil) (.cons (.iff (.cmp .eq (.idx (.var 2) (.int 0)) (.str "not")) (.cons (.ret (.not (.call "holds_in" (.cons (.var 0) (.cons (.var 1) (.cons (.idx (.var 2) (.int 1)) .nil)))))) .nil) .nil) (.cons (.iff (.cmp .eq (.idx (.var 2) (.int 0)) (.str "all")) (.cons (.ret (.callB .all (.cons (.comp [5] (.nm false 5) (.pl (.idx (.var 2) (.int 1))) .nil (.el false (.call "holds_in" (.cons (.var 0) (.cons (.var 1) (.cons (.var 5) .nil)))))) .nil))) .nil) .nil) (.cons (.asg (.nm false 3) (.comp [4] (.nm false 4) (.pl (.callB .range1 (.cons (.callB .len (.cons (.var 0) .nil)) .nil))) (.cons (.cmp .nin (.var 4) (.var 1)) .nil) (.el false (.var 4)))) (.cons (.ret (.callB .any (.cons (.comp [4] (.nm false 4) (.pl (.var 3)) .nil (.el false (.call "holds_in" (.cons (.var 0) (.cons (.stup (.var 1) (.cons (.var 4) .nil)) (.cons (.idx (.var 2) (.int 1)) .nil)))))) .nil))) .nil)))))
def n_holds_in : List Str := ["rows", "chosen", "saying", "others", "place", "part"]
def c__law_draw : Ss := (.cons (.asg (.nm false 2) (.comp [4] (.nm false 4) (.pl (.sl (.var 0) .no (.so (.int 48)))) .nil (.el false (.callB .abs (.cons (.callB .int (.cons (.var 4) .nil)) .nil))))) (.cons (.asg (.nm false 3) (.bin .add (.int 7919) (.bin .mul (.int 104729) (.var 1)))) (.cons (.for (.nm false 4) (.pl (.var 2)) (.cons (.asg (.nm false 3) (.bin .mod (.callB .int (.cons (.bin .add (.bin .add (.bin .mul (.var 3) (.int 48271)) (.bin .mod (.var 4) (.int 2147483549))) (.int 11)) .nil)) (.int 2147483647))) .nil)) (.cons (.ret (.lst true (.cons (.rev (.comp [4] (.nm false 4) (.pl (.var 2)) (.cons (.cmp .ge (.var 4) (.bin .pow (.int 10) (.int 18))) .nil) (.el false (.var 4)))) (.cons (.var 3) .nil)))) .nil))))
def n__law_draw : List Str := ["script", "salt", "cells", "blend", "cell"]
def c__law_any : Ss := (.cons (.whl (.and (.cons (.cmp .ne (.idx (.var 0) (.int 0)) (.lst false .nil)) (.cons (.cmp .eq (.idx (.idx (.var 0) (.int 0)) (.neg (.int 1))) (.int 0)) .nil))) (.cons (.ex (.pop0 0 (.cons (.int 0) .nil))) .nil)) (.cons (.iff (.cmp .ne (.idx (.var 0) (.int 0)) (.lst false .nil)) (.cons (.asg (.nm false 2) (.callB .int (.cons (.pop0 0 (.cons (.int 0) .nil)) .nil))) (.cons (.append 0 (.cons (.int 0) .nil) (.bin .fdiv (.var 2) (.var 1))) (.cons (.ret (.bin .mod (.var 2) (.var 1))) .nil))) .nil) (.cons (.asg (.ix 0 .nil (.int 1)) (.bin .mod (.callB .int (.cons (.bin .add (.bin .mul (.idx (.var 0) (.int 1)) (.int 40693)) (.int 71)) .nil)) (.int 2147483647))) (.cons (.ret (.bin .mod (.callB .int (.cons (.bin .fdiv (.idx (.var 0) (.int 1)) (.int 64)) .nil)) (.var 1))) .nil))))
def n__law_any : List Str := ["deal", "bound", "rest"]
def c__law_of : Ss := (.cons (.ret (.idx (.var 1) (.call "_law_any" (.cons (.var 0) (.cons (.callB .len (.cons (.var 1) .nil)) .nil))))) .nil)
def n__law_of : List Str := ["deal", "some"]
def c__law_free_rows : Ss := (.cons (.asg (.nm true 3) (.comp [7] (.nm false 7) (.pl (.callB .range1 (.cons (.var 2) .nil))) .nil (.el true (.bin .mul (.lst false (.cons .non .nil)) (.var 2))))) (.cons (.for (.nm false 4) (.pl (.callB .range1 (.cons (.var 2) .nil))) (.cons (.for (.nm false 5) (.pl (.callB .range1 (.cons (.var 4) .nil))) (.cons (.asg (.nm false 6) (.call "_law_any" (.cons (.var 0) (.cons (.var 1) .nil)))) (.cons (.asg (.tp (.cons (.ix 3 (.cons (.var 5) .nil) (.var 4)) (.cons (.ix 3 (.cons (.var 4) .nil) (.var 5)) .nil))) (.tup (.cons (.var 6) (.cons (.var 6) .nil)))) .nil))) .nil)) (.cons (.ret (.callB .tuple (.cons (.comp [8] (.nm false 8) (.pl (.fz (.mv 3))) .nil (.el false (.callB .tuple (.cons (.var 8) .nil)))) .nil))) .nil)))
def n__law_free_rows : List Str := ["deal", "many", "places", "rows", "v", "u", "x", "turn", "row"]
def c__law_first : Ss := (.cons (.ret (.tup (.cons (.var 1) (.cons (.callB .tuple (.cons (.comp [2] (.nm false 2) (.pl (.callB .range1 (.cons (.callB .len (.cons (.var 0) .nil)) .nil))) (.cons (.cmp .ne (.var 2) (.var 1)) .nil) (.el false (.ite (.cmp .gt (.var 2) (.var 1)) (.idx (.idx (.var 0) (.var 1)) (.var 2)) (.int 0)))) .nil)) .nil)))) .nil)
def n__law_first : List Str := ["rows", "u", "v"]
def c__law_bearers : Ss := (.cons (.asg (.nm false 2) (.lst false (.cons (.tup .nil) .nil))) (.cons (.for (.nm false 3) (.pl (.callB .range1 (.cons (.bin .sub (.callB .len (.cons (.var 1) .nil)) (.int 1)) .nil))) (.cons (.asg (.nm false 7) (.lst false .nil)) (.cons (.for (.nm false 8) (.pl (.var 2)) (.cons (.asg (.nm false 7) (.bin .add (.var 7) (.comp [9] (.nm false 9) (.pl (.callB .range1 (.cons (.var 0) .nil))) .nil (.el false (.bin .add (.var 8) (.tup (.cons (.var 9) .nil))))))) .nil)) (.cons (.asg (.nm false 2) (.var 7)) .nil)))) (.cons (.asg (.nm false 4) (.comp [6] (.nm false 6) (.pl (.callB .range1 (.cons (.callB .len (.cons (.var 1) .nil)) .nil))) .nil (.el false (.call "_law_first" (.cons (.var 1) (.cons (.var 6) .nil)))))) (.cons (.asg (.nm false 5) (.lst false .nil)) (.cons (.for (.nm false 6) (.pl (.callB .range1 (.cons (.callB .len (.cons (.var 1) .nil)) .nil))) (.cons (.asg (.nm false 5) (.bin .add (.var 5) (.comp [8] (.nm false 8) (.pl (.var 2)) .nil (.el false (.tup (.cons (.var 6) (.cons (.var 8) .nil))))))) .nil)) (.cons (.ret (.bin .add (.var 4) (.comp [8] (.nm false 8) (.pl (.var 5)) (.cons (.cmp .nin (.var 8) (.var 4)) .nil) (.el false (.var 8))))) .nil))))))
def n__law_bearers : List Str := ["many", "rows", "notes", "turn", "first", "every", "u", "longer", "one", "x"]
def c__law_note : Ss := (.cons (.ret (.idx (.idx (.var 0) (.int 1)) (.ite (.cmp .lt (.idx (.var 1) (.int 0)) (.idx (.var 0) (.int 0))) (.idx (.var 1) (.int 0)) (.bin .sub (.idx (.var 1) (.int 0)) (.int 1))))) .nil)
def n__law_note : List Str := ["one", "other"]
def c__law_bearing : Ss := (.cons (.par false 2 true 3 (.call "_law_bearers" (.cons (.var 0) (.cons (.var 1) .nil))) (.lst false .nil)) (.cons (.for (.tp (.cons (.nm false 4) (.cons (.nm false 5) .nil))) (.enum (.var 2)) (.cons (.asg (.nm true 6) (.lst false .nil)) (.cons (.for (.tp (.cons (.nm false 7) (.cons (.nm false 8) .nil))) (.enum (.var 2)) (.cons (.append 6 .nil (.ite (.cmp .eq (.idx (.var 5) (.int 0)) (.idx (.var 8) (.int 0))) (.int 0) (.bin .mod (.callB .int (.cons (.bin .add (.call "_law_note" (.cons (.var 5) (.cons (.var 8) .nil))) (.call "_law_note" (.cons (.var 8) (.cons (.var 5) .nil)))) .nil)) (.var 0)))) .nil)) (.cons (.asg (.ix 6 .nil (.var 4)) .non) (.cons (.append 3 .nil (.callB .tuple (.cons (.var 6) .nil))) .nil))))) (.cons (.ret (.callB .tuple (.cons (.var 3) .nil))) .nil)))
def n__law_bearing : List Str := ["many", "rows", "some", "found", "u", "one", "row", "v", "other"]
def c__law_mixed : Ss := (.cons (.par true 2 true 3 (.callB .list (.cons (.var 1) .nil)) (.lst false .nil)) (.cons (.whl (.cmp .ne (.var 2) (.lst false .nil)) (.cons (.append 3 .nil (.pop 2 .nil (.call "_law_any" (.cons (.var 0) (.cons (.callB .len (.cons (.var 2) .nil)) .nil))))) .nil)) (.cons (.ret (.mv 3)) .nil)))
def n__law_mixed : List Str := ["deal", "some", "left", "found"]
def c__law_is_number : Ss := (.cons (.ret (.and (.cons (.callB (.isI .int) (.cons (.var 0) .nil)) (.cons (.not (.callB (.isI .bool) (.cons (.var 0) .nil))) (.cons (.chain .le .lt (.int 0) (.var 0) (.var 1)) .nil))))) .nil)
def n__law_is_number : List Str := ["value", "many"]
def c__law_is_symmetry : Ss := (.cons (.asg (.nm false 4) (.callB .list (.cons (.callB .range1 (.cons (.callB .len (.cons (.var 0) .nil)) .nil)) .nil))) (.cons (.iff (.or (.cons (.not (.callB (.isI .tuple) (.cons (.var 3) .nil))) (.cons (.cmp .ne (.comp [6] (.nm false 6) (.pl (.var 3)) (.cons (.not (.call "_law_is_number" (.cons (.var 6) (.cons (.callB .len (.cons (.var 0) .nil)) .nil)))) .nil) (.el false (.var 6))) (.lst false .nil)) (.cons (.cmp .ne (.callB .sorted (.cons (.var 3) .nil)) (.var 4)) .nil)))) (.cons (.ret (.bl false)) .nil) .nil) (.cons (.iff (.cmp .ne (.comp [5] (.nm false 5) (.pl (.callB .range1 (.cons (.callB .len (.cons (.var 1) .nil)) .nil))) (.cons (.cmp .ne (.idx (.var 3) (.idx (.var 1) (.var 5))) (.idx (.var 2) (.var 5))) .nil) (.el false (.var 5))) (.lst false .nil)) (.cons (.ret (.bl false)) .nil) .nil) (.cons (.ret (.cmp .eq (.comp [6] (.nm false 6) (.pl (.var 4)) (.cons (.cmp .ne (.comp [7] (.nm false 7) (.pl (.callB .range1 (.cons (.var 6) .nil))) (.cons (.cmp .ne (.idx (.idx (.var 0) (.var 6)) (.var 7)) (.idx (.idx (.var 0) (.idx (.var 3) (.var 6))) (.idx (.var 3) (.var 7)))) .nil) (.el false (.var 7))) (.lst false .nil)) .nil) (.el false (.var 6))) (.lst false .nil))) .nil))))
def n__law_is_symmetry : List Str := ["wide", "here", "there", "value", "many", "i", "u", "v"]
def c__law_drawn_pair : Ss := (.cons (.asg (.tp (.cons (.nm false 2) (.cons (.nm true 3) .nil))) (.otup (.cons (.sl (.call "_law_mixed" (.cons (.var 0) (.cons (.callB .list (.cons (.callB .range1 (.cons (.callB .len (.cons (.var 1) .nil)) .nil)) .nil)) .nil))) .no (.so (.call "_law_any" (.cons (.var 0) (.cons (.bin .add (.callB .len (.cons (.var 1) .nil)) (.int 1)) .nil))))) (.cons (.lst false .nil) .nil)))) (.cons (.for (.tp (.cons (.nm false 4) (.cons (.nm false 5) .nil))) (.enum (.var 2)) (.cons (.asg (.nm false 6) (.comp [7] (.nm false 7) (.pl (.callB .range1 (.cons (.callB .len (.cons (.var 1) .nil)) .nil))) (.cons (.and (.cons (.cmp .nin (.var 7) (.var 3)) (.cons (.cmp .eq (.comp [8] (.nm false 8) (.pl (.callB .range1 (.cons (.var 4) .nil))) (.cons (.cmp .ne (.idx (.idx (.var 1) (.var 5)) (.idx (.var 2) (.var 8))) (.idx (.idx (.var 1) (.var 7)) (.idx (.var 3) (.var 8)))) .nil) (.el false (.var 8))) (.lst false .nil)) .nil))) .nil) (.el false (.var 7)))) (.cons (.iff (.cmp .eq (.var 6) (.lst false .nil)) (.cons (.ret (.tup (.cons (.callB .tuple (.cons (.sl (.var 2) .no (.so (.var 4))) .nil)) (.cons (.callB .tuple (.cons (.var 3) .nil)) .nil)))) .nil) .nil) (.cons (.append 3 .nil (.call "_law_of" (.cons (.var 0) (.cons (.var 6) .nil)))) .nil)))) (.cons (.ret (.tup (.cons (.callB .tuple (.cons (.var 2) .nil)) (.cons (.callB .tuple (.cons (.var 3) .nil)) .nil)))) .nil)))
def n__law_drawn_pair : List Str := ["deal", "rows", "here", "there", "at", "u", "some", "w", "j"]
def c__law_by : Ss := (.cons (.asg (.nm false 2) (.callB .list (.cons (.callB .range1 (.cons (.callB .len (.cons (.var 0) .nil)) .nil)) .nil))) (.cons (.asg (.nm true 3) (.lst false .nil)) (.cons (.for (.nm false 4) (.pl (.var 2)) (.cons (.append 3 .nil (.comp [5] (.nm false 5) (.pl (.var 2)) .nil (.el false (.comp [6] (.nm false 6) (.pl (.var 2)) (.cons (.callV 1 (.cons (.var 4) (.cons (.var 5) (.cons (.var 6) .nil)))) .nil) (.el false (.var 6)))))) .nil)) (.cons (.ret (.tup (.cons (.callB .list (.cons (.var 0) .nil)) (.cons (.mv 3) .nil)))) .nil))))
def n__law_by : List Str := ["turned", "is_right", "many", "table", "x", "y", "z"]
def c__law_holds : Ss := (.cons (.iff (.cmp .eq (.idx (.var 2) (.int 0)) (.str "lot")) (.cons (.ret (.cmp .inn (.idx (.idx (.var 0) (.idx (.var 1) (.idx (.var 2) (.int 1)))) (.idx (.var 1) (.idx (.var 2) (.int 2)))) (.idx (.var 2) (.int 3)))) .nil) .nil) (.cons (.iff (.cmp .eq (.idx (.var 2) (.int 0)) (.str "not")) (.cons (.ret (.not (.call "_law_holds" (.cons (.var 0) (.cons (.var 1) (.cons (.idx (.var 2) (.int 1)) .nil)))))) .nil) .nil) (.cons (.iff (.cmp .eq (.idx (.var 2) (.int 0)) (.str "all")) (.cons (.ret (.cmp .eq (.comp [4] (.nm false 4) (.pl (.idx (.var 2) (.int 1))) (.cons (.not (.call "_law_holds" (.cons (.var 0) (.cons (.var 1) (.cons (.var 4) .nil))))) .nil) (.el false (.var 4))) (.lst false .nil))) .nil) .nil) (.cons (.ret (.cmp .ne (.comp [3] (.nm false 3) (.pl (.callB .range1 (.cons (.callB .len (.cons (.var 0) .nil)) .nil))) (.cons (.and (.cons (.cmp .nin (.var 3) (.var 1)) (.cons (.call "_law_holds" (.cons (.var 0) (.cons (.bin .add (.var 1) (.tup (.cons (.var 3) .nil))) (.cons (.idx (.var 2) (.int 1)) .nil)))) .nil))) .nil) (.el false (.var 3))) (.lst false .nil))) .nil))))
def n__law_holds : List Str := ["rows", "chosen", "saying", "u", "part"]
def c__law_saying : Ss := (.cons (.asg (.nm false 5) (.ite (.cmp .gt (.var 4) (.int 0)) (.call "_law_any" (.cons (.var 0) (.cons (.int 6) .nil))) (.call "_law_any" (.cons (.var 0) (.cons (.int 2) .nil))))) (.cons (.iff (.and (.cons (.cmp .gt (.var 2) (.int 1)) (.cons (.or (.cons (.cmp .lt (.var 5) (.int 2)) (.cons (.cmp .eq (.var 4) (.int 0)) .nil))) .nil))) (.cons (.asg (.tp (.cons (.nm false 6) (.cons (.nm false 7) .nil))) (.sl (.call "_law_mixed" (.cons (.var 0) (.cons (.callB .list (.cons (.callB .range1 (.cons (.var 2) .nil)) .nil)) .nil))) .no (.so (.int 2)))) (.cons (.ret (.tup (.cons (.str "lot") (.cons (.var 6) (.cons (.var 7) (.cons (.callB .tuple (.cons (.comp [8] (.nm false 8) (.pl (.callB .range1 (.cons (.callB .len (.cons (.idx (.var 1) (.int 0)) .nil)) .nil))) (.cons (.cmp .eq (.call "_law_any" (.cons (.var 0) (.cons (.int 2) .nil))) (.int 0)) .nil) (.el false (.var 8))) .nil)) .nil)))))) .nil)) .nil) (.cons (.iff (.or (.cons (.cmp .eq (.var 4) (.int 0)) (.cons (.and (.cons (.cmp .lt (.var 5) (.int 2)) (.cons (.cmp .eq (.var 3) (.int 0)) .nil))) .nil))) (.cons (.ret (.tup (.cons (.str "all") (.cons (.tup .nil) .nil)))) .nil) .nil) (.cons (.iff (.cmp .eq (.var 5) (.int 3)) (.cons (.ret (.tup (.cons (.str "not") (.cons (.call "_law_saying" (.cons (.var 0) (.cons (.var 1) (.cons (.var 2) (.cons (.var 3) (.cons (.bin .sub (.var 4) (.int 1)) .nil)))))) .nil)))) .nil) .nil) (.cons (.iff (.or (.cons (.cmp .gt (.var 5) (.int 3)) (.cons (.cmp .eq (.var 3) (.int 0)) .nil))) (.cons (.ret (.tup (.cons (.str "all") (.cons (.callB .tuple (.cons (.comp [9] (.nm false 9) (.pl (.callB .range1 (.cons (.bin .add (.int 1) (.call "_law_any" (.cons (.var 0) (.cons (.int 2) .nil)))) .nil))) .nil (.el false (.call "_law_saying" (.cons (.var 0) (.cons (.var 1) (.cons (.var 2) (.cons (.var 3) (.cons (.bin .sub (.var 4) (.int 1)) .nil)))))))) .nil)) .nil)))) .nil) .nil) (.cons (.ret (.tup (.cons (.str "some") (.cons (.call "_law_saying" (.cons (.var 0) (.cons (.var 1) (.cons (.bin .add (.var 2) (.int 1)) (.cons (.bin .sub (.var 3) (.int 1)) (.cons (.bin .sub (.var 4) (.int 1)) .nil)))))) .nil)))) .nil))))))
def n__law_saying : List Str := ["deal", "kind", "places", "left", "depth", "form", "u", "v", "x", "turn"]
def c_law : Ss := (.cons (.asg (.nm true 1) (.call "_law_draw" (.cons (.var 0) (.cons (.int 963) .nil)))) (.cons (.asg (.tp (.cons (.nm false 2) (.cons (.nm false 3) .nil))) (.call "_law_of" (.cons (.var 1) (.cons (.lst false (.cons (.tup (.cons (.int 2) (.cons (.int 2) .nil))) (.cons (.tup (.cons (.int 2) (.cons (.int 3) .nil))) (.cons (.tup (.cons (.int 2) (.cons (.int 3) .nil))) (.cons (.tup (.cons (.int 2) (.cons (.int 4) .nil))) (.cons (.tup (.cons (.int 3) (.cons (.int 2) .nil))) (.cons (.tup (.cons (.int 3) (.cons (.int 3) .nil))) (.cons (.tup (.cons (.int 4) (.cons (.int 2) .nil))) (.cons (.tup (.cons (.int 1) (.cons (.int 5) .nil))) .nil))))))))) .nil)))) (.cons (.asg (.nm false 4) (.callL "_law_by" (.callB .list (.cons (.callB .range1 (.cons (.var 2) .nil)) .nil)) 0 [])) (.cons (.asg (.nm false 5) (.call "_law_free_rows" (.cons (.var 1) (.cons (.var 2) (.cons (.var 3) .nil))))) (.cons (.asg (.nm false 6) (.call "bearing_rows" (.cons (.var 2) (.cons (.var 5) .nil)))) (.cons (.iff (.cmp .ne (.callB .repr (.cons (.var 6) .nil)) (.callB .repr (.cons (.call "_law_bearing" (.cons (.var 2) (.cons (.var 5) .nil))) .nil))) (.cons (.ret (.bl false)) .nil) .nil) (.cons (.for (.nm false 7) (.pl (.callB .range1 (.cons (.int 3) .nil))) (.cons (.asg (.tp (.cons (.nm false 8) (.cons (.nm false 9) .nil))) (.call "_law_drawn_pair" (.cons (.var 1) (.cons (.var 5) .nil)))) (.cons (.par false 8 false 9 (.sl (.var 8) .no (.so (.int 3))) (.sl (.var 9) .no (.so (.int 3)))) (.cons (.asg (.nm false 10) (.call "grown_symmetry" (.cons (.var 2) (.cons (.var 5) (.cons (.var 8) (.cons (.var 9) .nil)))))) (.cons (.iff (.or (.cons (.notK (some true) (.call "is_likeness" (.cons (.var 5) (.cons (.var 8) (.cons (.var 9) .nil))))) (.cons (.not (.call "_law_is_symmetry" (.cons (.var 6) (.cons (.var 8) (.cons (.var 9) (.cons (.var 10) .nil)))))) .nil))) (.cons (.ret (.bl false)) .nil) .nil) (.cons (.asg (.nm false 11) (.callB .min2 (.cons (.ite (.cmp .gt (.callB .len (.cons (.var 6) .nil)) (.int 16)) (.int 1) (.int 2)) (.cons (.bin .sub (.int 4) (.callB .len (.cons (.var 8) .nil))) .nil)))) (.cons (.asg (.nm false 12) (.call "_law_saying" (.cons (.var 1) (.cons (.var 4) (.cons (.callB .len (.cons (.var 8) .nil)) (.cons (.var 11) (.cons (.bin .add (.int 2) (.call "_law_any" (.cons (.var 1) (.cons (.int 3) .nil)))) .nil))))))) (.cons (.asg (.nm false 13) (.call "holds_in" (.cons (.var 6) (.cons (.var 8) (.cons (.var 12) .nil))))) (.cons (.iff (.or (.cons (.cmp .ne (.callB .repr (.cons (.var 13) .nil)) (.callB .repr (.cons (.call "_law_holds" (.cons (.var 6) (.cons (.var 8) (.cons (.var 12) .nil)))) .nil))) (.cons (.cmp .ne (.callB .repr (.cons (.call "holds_in" (.cons (.var 6) (.cons (.var 9) (.cons (.var 12) .nil)))) .nil)) (.callB .repr (.cons (.var 13) .nil))) .nil))) (.cons (.ret (.bl false)) .nil) .nil) (.cons (.asg (.nm false 14) (.callB .tuple (.cons (.sl (.call "_law_mixed" (.cons (.var 1) (.cons (.callB .list (.cons (.callB .range1 (.cons (.callB .len (.cons (.var 6) .nil)) .nil)) .nil)) .nil))) .no (.so (.callB .len (.cons (.var 8) .nil)))) .nil))) (.cons (.asg (.nm false 15) (.callB .tuple (.cons (.comp [19] (.nm false 19) (.pl (.var 14)) .nil (.el false (.idx (.var 10) (.var 19)))) .nil))) (.cons (.iff (.cmp .ne (.callB .repr (.cons (.call "holds_in" (.cons (.var 6) (.cons (.var 14) (.cons (.var 12) .nil)))) .nil)) (.callB .repr (.cons (.call "holds_in" (.cons (.var 6) (.cons (.var 15) (.cons (.var 12) .nil)))) .nil))) (.cons (.ret (.bl false)) .nil) .nil) .nil)))))))))))) (.cons (.ret (.bl true)) .nil))))))))
def n_law : List Str := ["script", "deal", "many", "places", "kind", "rows", "wide", "turn", "here", "there", "value", "left", "saying", "due", "some", "moved", "x", "y", "z", "u"]
def d_is_number : Df := ⟨["value"], n_is_number, c_is_number, false⟩
def d_is_index : Df := ⟨["value", "many"], n_is_index, c_is_index, false⟩
def d_all_notes : Df := ⟨["places", "many"], n_all_notes, c_all_notes, false⟩
def d_note_at : Df := ⟨["notes", "place", "other"], n_note_at, c_note_at, false⟩
def d_first_bearer : Df := ⟨["rows", "place"], n_first_bearer, c_first_bearer, false⟩
def d_bearers : Df := ⟨["many", "rows"], n_bearers, c_bearers, false⟩
def d_between_bearers : Df := ⟨["many", "one", "other"], n_between_bearers, c_between_bearers, false⟩
def d_bearing_rows : Df := ⟨["many", "rows"], n_bearing_rows, c_bearing_rows, false⟩
def d_is_likeness : Df := ⟨["rows", "here", "there"], n_is_likeness, c_is_likeness, false⟩
def d_moved_places : Df := ⟨["places", "here", "there"], n_moved_places, c_moved_places, false⟩
def d_shift : Df := ⟨["many", "rows", "here", "moved", "u", "v"], n_shift, c_shift, false⟩
def d_grown_symmetry : Df := ⟨["many", "rows", "here", "there"], n_grown_symmetry, c_grown_symmetry, false⟩
def d_holds_in : Df := ⟨["rows", "chosen", "saying"], n_holds_in, c_holds_in, false⟩
def d__law_draw : Df := ⟨["script", "salt"], n__law_draw, c__law_draw, false⟩
def d__law_any : Df := ⟨["deal", "bound"], n__law_any, c__law_any, false⟩
def d__law_of : Df := ⟨["deal", "some"], n__law_of, c__law_of, false⟩
def d__law_free_rows : Df := ⟨["deal", "many", "places"], n__law_free_rows, c__law_free_rows, false⟩
def d__law_first : Df := ⟨["rows", "u"], n__law_first, c__law_first, false⟩
def d__law_bearers : Df := ⟨["many", "rows"], n__law_bearers, c__law_bearers, false⟩
def d__law_note : Df := ⟨["one", "other"], n__law_note, c__law_note, false⟩
def d__law_bearing : Df := ⟨["many", "rows"], n__law_bearing, c__law_bearing, false⟩
def d__law_mixed : Df := ⟨["deal", "some"], n__law_mixed, c__law_mixed, false⟩
def d__law_is_number : Df := ⟨["value", "many"], n__law_is_number, c__law_is_number, false⟩
def d__law_is_symmetry : Df := ⟨["wide", "here", "there", "value"], n__law_is_symmetry, c__law_is_symmetry, false⟩
def d__law_drawn_pair : Df := ⟨["deal", "rows"], n__law_drawn_pair, c__law_drawn_pair, false⟩
def d__law_by : Df := ⟨["turned", "is_right"], n__law_by, c__law_by, false⟩
def d__law_holds : Df := ⟨["rows", "chosen", "saying"], n__law_holds, c__law_holds, false⟩
def d__law_saying : Df := ⟨["deal", "kind", "places", "left", "depth"], n__law_saying, c__law_saying, false⟩
def d_law : Df := ⟨["script"], n_law, c_law, true⟩
def tabL : List (Str × Df) := [("is_number", d_is_number), ("is_index", d_is_index), ("all_notes", d_all_notes), ("note_at", d_note_at), ("first_bearer", d_first_bearer), ("bearers", d_bearers), ("between_bearers", d_between_bearers), ("bearing_rows", d_bearing_rows), ("is_likeness", d_is_likeness), ("moved_places", d_moved_places), ("shift", d_shift), ("grown_symmetry", d_grown_symmetry), ("holds_in", d_holds_in), ("_law_draw", d__law_draw), ("_law_any", d__law_any), ("_law_of", d__law_of), ("_law_free_rows", d__law_free_rows), ("_law_first", d__law_first), ("_law_bearers", d__law_bearers), ("_law_note", d__law_note), ("_law_bearing", d__law_bearing), ("_law_mixed", d__law_mixed), ("_law_is_number", d__law_is_number), ("_law_is_symmetry", d__law_is_symmetry), ("_law_drawn_pair", d__law_drawn_pair), ("_law_by", d__law_by), ("_law_holds", d__law_holds), ("_law_saying", d__law_saying), ("law", d_law)]
def tab (f : Str) : Option Df := (tabL.find? fun p => decide (p.1 = f)).map (·.2)
theorem k_is_number : chkSs (mach.sx n_is_number (L2.defScope (top 4)) false) c_is_number (L2.defBody (top 4)) = true := by decide +kernel
theorem k_is_index : chkSs (mach.sx n_is_index (L2.defScope (top 5)) false) c_is_index (L2.defBody (top 5)) = true := by decide +kernel
theorem k_all_notes : chkSs (mach.sx n_all_notes (L2.defScope (top 8)) false) c_all_notes (L2.defBody (top 8)) = true := by decide +kernel
theorem k_note_at : chkSs (mach.sx n_note_at (L2.defScope (top 9)) false) c_note_at (L2.defBody (top 9)) = true := by decide +kernel
theorem k_first_bearer : chkSs (mach.sx n_first_bearer (L2.defScope (top 10)) false) c_first_bearer (L2.defBody (top 10)) = true := by decide +kernel
theorem k_bearers : chkSs (mach.sx n_bearers (L2.defScope (top 11)) false) c_bearers (L2.defBody (top 11)) = true := by decide +kernel
theorem k_between_bearers : chkSs (mach.sx n_between_bearers (L2.defScope (top 12)) false) c_between_bearers (L2.defBody (top 12)) = true := by decide +kernel
theorem k_bearing_rows : chkSs (mach.sx n_bearing_rows (L2.defScope (top 13)) false) c_bearing_rows (L2.defBody (top 13)) = true := by decide +kernel
theorem k_is_likeness : chkSs (mach.sx n_is_likeness (L2.defScope (top 14)) false) c_is_likeness (L2.defBody (top 14)) = true := by decide +kernel
theorem k_moved_places : chkSs (mach.sx n_moved_places (L2.defScope (top 15)) false) c_moved_places (L2.defBody (top 15)) = true := by decide +kernel
theorem k_shift : chkSs (mach.sx n_shift (L2.defScope (top 16)) false) c_shift (L2.defBody (top 16)) = true := by decide +kernel
theorem k_grown_symmetry : chkSs (mach.sx n_grown_symmetry (L2.defScope (top 17)) false) c_grown_symmetry (L2.defBody (top 17)) = true := by decide +kernel
theorem k_holds_in : chkSs (mach.sx n_holds_in (L2.defScope (top 19)) false) c_holds_in (L2.defBody (top 19)) = true := by decide +kernel
theorem k__law_draw : chkSs (mach.sx n__law_draw (L2.defScope (top 21)) false) c__law_draw (L2.defBody (top 21)) = true := by decide +kernel
theorem k__law_any : chkSs (mach.sx n__law_any (L2.defScope (top 22)) false) c__law_any (L2.defBody (top 22)) = true := by decide +kernel
theorem k__law_of : chkSs (mach.sx n__law_of (L2.defScope (top 23)) false) c__law_of (L2.defBody (top 23)) = true := by decide +kernel
theorem k__law_free_rows : chkSs (mach.sx n__law_free_rows (L2.defScope (top 24)) false) c__law_free_rows (L2.defBody (top 24)) = true := by decide +kernel
theorem k__law_first : chkSs (mach.sx n__law_first (L2.defScope (top 25)) false) c__law_first (L2.defBody (top 25)) = true := by decide +kernel
theorem k__law_bearers : chkSs (mach.sx n__law_bearers (L2.defScope (top 26)) false) c__law_bearers (L2.defBody (top 26)) = true := by decide +kernel
theorem k__law_note : chkSs (mach.sx n__law_note (L2.defScope (top 27)) false) c__law_note (L2.defBody (top 27)) = true := by decide +kernel
theorem k__law_bearing : chkSs (mach.sx n__law_bearing (L2.defScope (top 28)) false) c__law_bearing (L2.defBody (top 28)) = true := by decide +kernel
theorem k__law_mixed : chkSs (mach.sx n__law_mixed (L2.defScope (top 29)) false) c__law_mixed (L2.defBody (top 29)) = true := by decide +kernel
theorem k__law_is_number : chkSs (mach.sx n__law_is_number (L2.defScope (top 30)) false) c__law_is_number (L2.defBody (top 30)) = true := by decide +kernel
theorem k__law_is_symmetry : chkSs (mach.sx n__law_is_symmetry (L2.defScope (top 31)) false) c__law_is_symmetry (L2.defBody (top 31)) = true := by decide +kernel
theorem k__law_drawn_pair : chkSs (mach.sx n__law_drawn_pair (L2.defScope (top 32)) false) c__law_drawn_pair (L2.defBody (top 32)) = true := by decide +kernel
theorem k__law_by : chkSs (mach.sx n__law_by (L2.defScope (top 33)) false) c__law_by (L2.defBody (top 33)) = true := by decide +kernel
theorem k__law_holds : chkSs (mach.sx n__law_holds (L2.defScope (top 34)) false) c__law_holds (L2.defBody (top 34)) = true := by decide +kernel
theorem k__law_saying : chkSs (mach.sx n__law_saying (L2.defScope (top 35)) false) c__law_saying (L2.defBody (top 35)) = true := by decide +kernel
theorem k_law : chkSs (mach.sx n_law (L2.defScope (top 36)) true) c_law (L2.defBody (top 36)) = true := by decide +kernel
theorem t_is_number : tab "is_number" = some d_is_number := by rfl
theorem t_is_index : tab "is_index" = some d_is_index := by rfl
theorem t_all_notes : tab "all_notes" = some d_all_notes := by rfl
theorem t_note_at : tab "note_at" = some d_note_at := by rfl
theorem t_first_bearer : tab "first_bearer" = some d_first_bearer := by rfl
theorem t_bearers : tab "bearers" = some d_bearers := by rfl
theorem t_between_bearers : tab "between_bearers" = some d_between_bearers := by rfl
theorem t_bearing_rows : tab "bearing_rows" = some d_bearing_rows := by rfl
theorem t_is_likeness : tab "is_likeness" = some d_is_likeness := by rfl
theorem t_moved_places : tab "moved_places" = some d_moved_places := by rfl
theorem t_shift : tab "shift" = some d_shift := by rfl
theorem t_grown_symmetry : tab "grown_symmetry" = some d_grown_symmetry := by rfl
theorem t_holds_in : tab "holds_in" = some d_holds_in := by rfl
theorem t__law_draw : tab "_law_draw" = some d__law_draw := by rfl
theorem t__law_any : tab "_law_any" = some d__law_any := by rfl
theorem t__law_of : tab "_law_of" = some d__law_of := by rfl
theorem t__law_free_rows : tab "_law_free_rows" = some d__law_free_rows := by rfl
theorem t__law_first : tab "_law_first" = some d__law_first := by rfl
theorem t__law_bearers : tab "_law_bearers" = some d__law_bearers := by rfl
theorem t__law_note : tab "_law_note" = some d__law_note := by rfl
theorem t__law_bearing : tab "_law_bearing" = some d__law_bearing := by rfl
theorem t__law_mixed : tab "_law_mixed" = some d__law_mixed := by rfl
theorem t__law_is_number : tab "_law_is_number" = some d__law_is_number := by rfl
theorem t__law_is_symmetry : tab "_law_is_symmetry" = some d__law_is_symmetry := by rfl
theorem t__law_drawn_pair : tab "_law_drawn_pair" = some d__law_drawn_pair := by rfl
theorem t__law_by : tab "_law_by" = some d__law_by := by rfl
theorem t__law_holds : tab "_law_holds" = some d__law_holds := by rfl
theorem t__law_saying : tab "_law_saying" = some d__law_saying := by rfl
theorem t_law : tab "law" = some d_law := by rfl
end OV
/-! text E94 -/
set_option maxHeartbeats 0
namespace OV
open PySem PySem.Spec PyProof.Rows L2 He
def ts : List Dt := [.of "is_number" "is_number" (top 4),
  .of "is_index" "is_index" (top 5),
  .of "all_notes" "all_notes" (top 8),
  .of "note_at" "note_at" (top 9),
  .of "first_bearer" "first_bearer" (top 10),
  .of "bearers" "bearers" (top 11),
  .of "between_bearers" "between_bearers" (top 12),
  .of "bearing_rows" "bearing_rows" (top 13),
  .of "is_likeness" "is_likeness" (top 14),
  .of "moved_places" "moved_places" (top 15),
  .of "shift" "shift" (top 16),
  .of "grown_symmetry" "grown_symmetry" (top 17),
  .of "holds_in" "holds_in" (top 19),
  .of "_law_draw" "_law_draw" (top 21),
  .of "_law_any" "_law_any" (top 22),
  .of "_law_of" "_law_of" (top 23),
  .of "_law_free_rows" "_law_free_rows" (top 24),
  .of "_law_first" "_law_first" (top 25),
  .of "_law_bearers" "_law_bearers" (top 26),
  .of "_law_note" "_law_note" (top 27),
  .of "_law_bearing" "_law_bearing" (top 28),
  .of "_law_mixed" "_law_mixed" (top 29),
  .of "_law_is_number" "_law_is_number" (top 30),
  .of "_law_is_symmetry" "_law_is_symmetry" (top 31),
  .of "_law_drawn_pair" "_law_drawn_pair" (top 32),
  .of "_law_by" "_law_by" (top 33),
  .of "_law_holds" "_law_holds" (top 34),
  .of "_law_saying" "_law_saying" (top 35),
  .of "law" "law" (top 36)]
def ls : List (Str × Str) := [("law", "law")]

def names0 : List PySem.Str := ["RingsError", "Refused", "is_number", "is_index", "MOST_PLACES", "all_notes", "note_at", "first_bearer", "bearers", "between_bearers", "bearing_rows", "is_likeness", "moved_places", "shift", "grown_symmetry", "holds_in", "_law_draw", "_law_any", "_law_of", "_law_free_rows", "_law_first", "_law_bearers", "_law_note", "_law_bearing", "_law_mixed", "_law_is_number", "_law_is_symmetry", "_law_drawn_pair", "_law_by", "_law_holds"]
def names1 : List PySem.Str := ["_law_saying"]
def names : List PySem.Str := names0 ++ names1
theorem x_law : txtB mach ls d_law (.of "law" "law" (top 36)) = true := by decide +kernel
theorem x_all : ((tabL.zip ts).all fun p => decide (p.1.1 = p.2.g) && txtB mach ls p.1.2 p.2) = true := by decide +kernel
theorem tab_ok : ∀ f df, tab f = some df → ∃ (i : Nat) (t : Dt), ts[i]? = some t ∧ t.g = f ∧ txtB mach ls df t = true := tab_ok_of rfl x_all
abbrev Rr : PySem.W.OpenRow := PySem.W.OpenLaw.row PySem.Challenge.rw_ringstell_k94_whole_alike_places_have_th
abbrev hk : PySem.W.Hook := hookX 2 (faOf mach) (ts.map Dt.d) ls
theorem run (w : World) : HandSHeadRun.RunEq Rr (PySem.W.view Rr.prog [36]) hk (obX 2 (faOf mach) (ts.map Dt.d) ls) 4000 names w := by
  intro os
  kernel_rfl
open PySem.W PySem.Calls in
theorem law_of (k : Nat) (hr : Room (k + 1) callerA) (res : ∀ ns : List Int, ns.length ≤ 63 → (∀ z ∈ ns, Builtin.Int.intBits z ≤ 1048576) → (lev tab mach.L (k + 1)).fn "law" [.lst (ns.map .int)] [] [] = .ok (.bl true) []) : PySem.Challenge.rw_ringstell_k94_whole_alike_places_have_th.Holds := by
  w_on; o_law
  refine HandSHeadRun.head_any (r := OpenLaw.row PySem.Challenge.rw_ringstell_k94_whole_alike_places_have_th) (q := view (OpenLaw.row PySem.Challenge.rw_ringstell_k94_whole_alike_places_have_th).prog [36]) (H := hk) (ob := obX 2 (faOf mach) (ts.map Dt.d) ls) (M := 4000) (loose := names) (d := HandSHeadRun.topDef (OpenLaw.row PySem.Challenge.rw_ringstell_k94_whole_alike_places_have_th).prog 36) (kwd := []) obX_eq
    (by kernel_rfl) (fun s => by kernel_rfl) run (by kernel_rfl) (by kernel_rfl) (by kernel_rfl) (by rfl) (by first | assumption | decide +kernel) (by decide +kernel) ⟨rfl, rfl, rfl, rfl, rfl, by decide +kernel⟩ ?hw ?hc
  case hw => w_witness2
  case hc => exact walk_ov (l := PySem.Challenge.rw_ringstell_k94_whole_alike_places_have_th) 2 mach tab ts ls k d_law 28 _ rfl (by kernel_rfl) (by kernel_rfl) hr (by decide +kernel) tab_ok rfl rfl rfl x_law rfl res
end OV
/-! text PLA -/
namespace OV
open PySem (Str PyData NestedKey)
/-! The plain machine, evaluated. -/
theorem lev_fn {T : Str → Option Df} {L : Nat → Option Lm} {f : Str} {d : Df} (h : T f = some d) (n : Nat) (ds : List D) (lk : List Nat) (ce : Ce) (hl : ds.length = d.ps.length) : (lev T L (n + 1)).fn f ds lk ce = oF (lev T L n) d.N.length d.body ds lk ce := by
  simp only [lev, h]; rw [if_pos hl]
/-! ### walks -/
/-- a walk that only adds to what it gathers -/
theorem fol_app {α : Type} {f : D → List α → S → Res (List α)} {h : D → List α} {ce : Ce} : ∀ {ds : List D} {acc : List α} {st : S}, st.ce = ce → (∀ d ∈ ds, ∀ acc st, st.ce = ce → ∃ st', f d acc st = .ok (acc ++ h d) st' ∧ st'.ce = ce) → ∃ st', fol f ds acc st = .ok (acc ++ ds.flatMap h) st' ∧ st'.ce = ce
  | [], acc, st, hc, _ => ⟨st, by simp [fol], hc⟩
  | d :: ds, acc, st, hc, hf => by
    obtain ⟨s1, e1, c1⟩ := hf d List.mem_cons_self acc st hc
    obtain ⟨s2, e2, c2⟩ := fol_app (ds := ds) (acc := acc ++ h d) c1 fun d' hd => hf d' (List.mem_cons_of_mem _ hd)
    exact ⟨s2, by simp only [fol]; rw [e1, Res.bind_ok, e2, List.flatMap_cons, List.append_assoc], c2⟩
/-- .. a bound on its length kept in mind -/
theorem fol_appB {f : D → List D → S → Res (List D)} {h : D → List D} {ce : Ce} : ∀ {ds : List D} {acc : List D} {st : S}, st.ce = ce → (acc ++ ds.flatMap h).length ≤ line → (∀ d ∈ ds, ∀ acc st, st.ce = ce → (acc ++ h d).length ≤ line → ∃ st', f d acc st = .ok (acc ++ h d) st' ∧ st'.ce = ce) →
    ∃ st', fol f ds acc st = .ok (acc ++ ds.flatMap h) st' ∧ st'.ce = ce
  | [], acc, st, hc, _, _ => ⟨st, by simp [fol], hc⟩
  | d :: ds, acc, st, hc, hb, hf => by
    rw [List.flatMap_cons, ← List.append_assoc] at hb
    obtain ⟨s1, e1, c1⟩ := hf d List.mem_cons_self acc st hc (by rw [List.length_append] at hb; omega)
    obtain ⟨s2, e2, c2⟩ := fol_appB (ds := ds) (acc := acc ++ h d) c1 hb fun d' hd => hf d' (List.mem_cons_of_mem _ hd)
    exact ⟨s2, by simp only [fol]; rw [e1, Res.bind_ok, e2, List.flatMap_cons, List.append_assoc], c2⟩
/-- the turns of a for: one state behind another -/
theorem folS_run {f : D → S → Res Fl} {n : Nat} {ds : List D} {I : Nat → S → Prop} {st : S} (h0 : I 0 st) (hs : ∀ i d st, ds[i]? = some d → I i st → ∃ st', (f d st = .ok .nx st' ∨ f d st = .ok .ct st') ∧ I (i + 1) (trim n st')) : ∃ st', folS f n ds st = .ok .nx st' ∧ I ds.length st' := by
  have key : ∀ (es : List D) (k : Nat) (st : S), es = ds.drop k → k ≤ ds.length → I k st → ∃ st', folS f n es st = .ok .nx st' ∧ I ds.length st' := by
    intro es
    induction es with
    | nil =>
      intro k st e hk hi
      have : k = ds.length := by
        have := congrArg List.length e
        simp at this; omega
      subst this
      exact ⟨st, rfl, hi⟩
    | cons d es ih =>
      intro k st e hk hi
      have hlt : k < ds.length := by
        have := congrArg List.length e
        simp at this; omega
      rw [List.drop_eq_getElem_cons hlt] at e
      cases e
      obtain ⟨s1, e1, i1⟩ := hs k _ st (List.getElem?_eq_getElem hlt) hi
      obtain ⟨s2, e2, i2⟩ := ih (k + 1) _ rfl hlt i1
      refine ⟨s2, ?_, i2⟩
      rcases e1 with e1 | e1 <;> (simp only [folS]; rw [e1]; exact e2)
  exact key ds 0 st rfl (Nat.zero_le _) h0
/-- a while that ends -/
theorem whN_mono {c : S → Res Bool} {b : S → Res Fl} {n : Nat} : ∀ {k j : Nat} {st : S}, k ≤ j → whN c b n k st ≠ .no → whN c b n j st = whN c b n k st
  | 0, _, _, _, h => absurd rfl h
  | k + 1, 0, _, h, _ => absurd h (by omega)
  | k + 1, j + 1, st, hj, h => by
    simp only [whN] at h ⊢
    cases hc : c st with
    | ok t st1 =>
      simp only [hc] at h ⊢
      cases t with
      | true =>
        simp only at h ⊢
        cases hb : b st1 with
        | ok f st' =>
          simp only [hb] at h ⊢
          cases f with
          | nx => exact whN_mono (Nat.le_of_succ_le_succ hj) h
          | ct => exact whN_mono (Nat.le_of_succ_le_succ hj) h
          | bk => rfl
          | rt _ => rfl
        | ex _ _ _ => rfl
        | no => rfl
      | false => rfl
    | ex _ _ _ => rfl
    | no => rfl
theorem wh_eq {c : S → Res Bool} {b : S → Res Fl} {n k : Nat} {st : S} {r : Res Fl} (h : whN c b n k st = r) (hr : r ≠ .no) : wh c b n st = r := by
  have hx : ∃ k, whN c b n k st ≠ .no := ⟨k, by rw [h]; exact hr⟩
  unfold wh
  rw [dif_pos hx]
  have hc := Classical.choose_spec hx
  rcases Nat.le_total (Classical.choose hx) k with z | z
  · rw [← h, whN_mono z hc]
  · rw [whN_mono z (by rw [h]; exact hr), h]
theorem wh_stop {c : S → Res Bool} {b : S → Res Fl} {n : Nat} {st st1 : S} (h : c st = .ok false st1) : wh c b n st = .ok .nx st1 :=
  wh_eq (k := 1) (by simp only [whN, h]) (by simp)
theorem wh_turn {c : S → Res Bool} {b : S → Res Fl} {n : Nat} {st st1 st2 : S} {r : Res Fl} (h : c st = .ok true st1) (hb : b st1 = .ok .nx st2 ∨ b st1 = .ok .ct st2) (hr : wh c b n (trim n st2) = r) (hn : r ≠ .no) : wh c b n st = r := by
  have hx : ∃ k, whN c b n k (trim n st2) ≠ .no := by
    unfold wh at hr
    split at hr
    · assumption
    · exact absurd hr.symm hn
  obtain ⟨k, hk⟩ := hx
  have e : whN c b n k (trim n st2) = r := by rw [← hr]; exact (wh_eq rfl hk).symm
  refine wh_eq (k := k + 1) ?_ hn
  simp only [whN, h]
  rcases hb with hb | hb <;> (simp only [hb]; exact e)
theorem trim_self {n : Nat} {st : S} (h : st.ce.length ≤ n) : trim n st = st := by unfold trim; rw [if_pos h]
end OV
/-! text PLB -/
namespace OV
open PySem (Str PyData NestedKey)
section
variable {k : K} {lk : List Nat} {st : S}
@[simp] theorem ev_var (i : Nat) : oE k lk (.var i) st = match st.sl[i]? with
    | some (some d) => .ok d st
    | _ => .no := by rw [oE] <;> rfl
@[simp] theorem ev_int (i : Int) : oE k lk (.int i) st = .ok (.int i) st := by rw [oE] <;> rfl
@[simp] theorem ev_bl (b : Bool) : oE k lk (.bl b) st = .ok (.bl b) st := by rw [oE] <;> rfl
@[simp] theorem ev_non : oE k lk .non st = .ok .non st := by rw [oE] <;> rfl
@[simp] theorem ev_str (x : Str) : oE k lk (.str x) st = .ok (.str x) st := by rw [oE] <;> rfl
@[simp] theorem ev_gint (x : Str) (i : Int) : oE k lk (.gint x i) st = .ok (.int i) st := by rw [oE] <;> rfl
@[simp] theorem ev_bin (o : BO) (a b : C) : oE k lk (.bin o a b) st = (oE k lk a st).bind fun x st1 => (oE k (lkO x ++ lk) b st1).bind fun y st2 => Res.of (opBin st2.ce o x y) st2 := by rw [oE] <;> rfl
@[simp] theorem ev_neg (a : C) : oE k lk (.neg a) st = (oE k lk a st).bind fun x st1 => match x with
    | .int i => .ok (.int (-i)) st1
    | _ => .no := by rw [oE] <;> rfl
@[simp] theorem ev_cmp (o : CO) (a b : C) : oE k lk (.cmp o a b) st = (oE k lk a st).bind fun x st1 => (oE k (lkO x ++ lk) b st1).bind fun y st2 => Res.of ((opCmp st2.ce o x y).map D.bl) st2 := by rw [oE] <;> rfl
@[simp] theorem ev_isK (q : Option Bool) (a : C) : oE k lk (.isK q a) st = (oE k lk a st).bind fun x st1 => Res.of ((isK q x).map D.bl) st1 := by rw [oE] <;> rfl
@[simp] theorem ev_notK (q : Option Bool) (a : C) : oE k lk (.notK q a) st = (oE k lk a st).bind fun x st1 => Res.of ((isK q x).map fun b => D.bl (!b)) st1 := by rw [oE] <;> rfl
@[simp] theorem ev_chain (o o' : CO) (a b c : C) : oE k lk (.chain o o' a b c) st = (oE k lk a st).bind fun x st1 => (oE k (lkO x ++ lk) b st1).bind fun y st2 => match opCmp st2.ce o x y with
    | some true => (oE k (lkO y ++ lk) c st2).bind fun z st3 => Res.of ((opCmp st3.ce o' y z).map D.bl) st3
    | some false => .ok (.bl false) st2
    | none => .no := by rw [oE] <;> rfl
@[simp] theorem ev_not (a : C) : oE k lk (.not a) st = (boolR (oE k lk a st)).bind fun b st1 => .ok (.bl (!b)) st1 := by rw [oE] <;> rfl
@[simp] theorem ev_and (es : Cs) : oE k lk (.and es) st = (oAnd k lk es st).bind fun b st1 => .ok (.bl b) st1 := by rw [oE] <;> rfl
@[simp] theorem ev_or (es : Cs) : oE k lk (.or es) st = (oOr k lk es st).bind fun b st1 => .ok (.bl b) st1 := by rw [oE] <;> rfl
@[simp] theorem ev_ite (c a b : C) : oE k lk (.ite c a b) st = (boolR (oE k lk c st)).bind fun t st1 => match t with
    | true => oE k lk a st1
    | false => oE k lk b st1 := by rw [oE] <;> rfl
@[simp] theorem ev_tup (es : Cs) : oE k lk (.tup es) st = (oEs k lk es st).bind fun ds st1 => match items itm ds with
    | some es => if es.length ≤ line then .ok (.tup es) st1 else .no
    | none => .no := by rw [oE] <;> rfl
@[simp] theorem ev_otup (es : Cs) : oE k lk (.otup es) st = (oEs k lk es st).bind fun ds st1 => match items itmL ds with
    | some es => if es.length ≤ line then .ok (.oto es) st1 else .no
    | none => .no := by rw [oE] <;> rfl
@[simp] theorem ev_stup (a : C) (bs : Cs) : oE k lk (.stup a bs) st = (oE k lk a st).bind fun x st1 => match seqW st1.ce x with
    | some es => (oEs k lk bs st1).bind fun ds st2 => match items itm ds with
      | some fs => if es.length + fs.length ≤ line then .ok (.tup (es ++ fs)) st2 else .no
      | none => .no
    | none => .no := by rw [oE] <;> rfl
@[simp] theorem ev_lstT (es : Cs) : oE k lk (.lst true es) st = (oEs k lk es st).bind fun ds st1 => match items itmL ds with
      | some es => if es.length ≤ line then .ok (.own es) st1 else .no
      | none => .no := by rw [oE] <;> rfl
@[simp] theorem ev_lstF (es : Cs) : oE k lk (.lst false es) st = (oEs k lk es st).bind fun ds st1 => match items itm ds with
      | some es => if es.length ≤ line then .ok (.new es) st1 else .no
      | none => .no := by rw [oE] <;> rfl
@[simp] theorem ev_idx (a i : C) : oE k lk (.idx a i) st = (oE k lk a st).bind fun x st1 => (oE k (lkO x ++ lk) i st1).bind fun y st2 => Res.of (opIdx st2.ce x y) st2 := by rw [oE] <;> rfl
@[simp] theorem ev_sl (a : C) (lo hi : Co) : oE k lk (.sl a lo hi) st = (oE k lk a st).bind fun x st1 => (oCo k (lkO x ++ lk) lo st1).bind fun l st2 => (oCo k (lkO x ++ lk) hi st2).bind fun h st3 => Res.of (opSl st3.ce x l h) st3 := by rw [oE] <;> rfl
@[simp] theorem ev_rev (a : C) : oE k lk (.rev a) st = (oE k lk a st).bind fun x st1 => Res.of (opRev st1.ce x) st1 := by rw [oE] <;> rfl
@[simp] theorem ev_call (f : Str) (es : Cs) : oE k lk (.call f es) st = (argsR (oEs k lk es st)).bind fun ds st1 => (k.fn f ds lk st1.ce).res st1.sl := by rw [oE] <;> rfl
@[simp] theorem ev_callB (f : BF) (es : Cs) : oE k lk (.callB f es) st = (oEs k lk es st).bind fun ds st1 => Res.of (opB st1.ce f ds) st1 := by rw [oE] <;> rfl
@[simp] theorem ev_fz (e : C) : oE k lk (.fz e) st = (oE k lk e st).bind fun x st1 => Res.of (fzD x) st1 := by rw [oE] <;> rfl
@[simp] theorem ev_callV (i : Nat) (es : Cs) : oE k lk (.callV i es) st = match st.sl[i]? with
    | some (some (.clo j cs)) => (argsR (oEs k lk es st)).bind fun ds st1 => (k.la j cs ds lk st1.ce).res st1.sl
    | _ => .no := by rw [oE] <;> rfl
@[simp] theorem ev_callL (f : Str) (e : C) (i : Nat) (js : List Nat) : oE k lk (.callL f e i js) st = (oE k lk e st).bind fun d st1 => match arg d, items capt (js.map fun j => (st1.sl[j]?).getD none) with
    | some d, some cs => (k.fn f [d, .clo i cs] lk st1.ce).res st1.sl
    | _, _ => .no := by rw [oE] <;> rfl
/-- a turn of a comprehension -/
noncomputable def turnC (k : K) (lk : List Nat) (t : T) (ifs : Cs) (gs : Gs) (sl : List (Option D)) (d : D) (acc : List D) (s : S) : Res (List D) :=
  (oTg k lk t d ⟨sl, s.ce⟩).bind fun _ s1 => (oAnd k lk ifs s1).bind fun b s2 => match b with
    | true => oG k lk gs acc s2
    | false => .ok acc s2
theorem ev_comp (own : List Nat) (t : T) (it : I) (ifs : Cs) (gs : Gs) : oE k lk (.comp own t it ifs gs) st = (oI k lk it st).bind fun x st1 => (fol (turnC k (x.2 ++ lk) t ifs gs (wipe st1.sl own)) x.1 [] ⟨wipe st1.sl own, st1.ce⟩).bind fun acc st2 => .ok (if gs.live then .own acc else .new acc) ⟨st1.sl, st2.ce⟩ := by rw [oE] <;> rfl
noncomputable def turnM (k : K) (tk : Bool) (lk : List Nat) (t : T) (ifs : Cs) (ka va : C) (sl : List (Option D)) (d : D) (acc : List (D × D)) (s : S) : Res (List (D × D)) :=
  (oTg k lk t d ⟨sl, s.ce⟩).bind fun _ s1 => (oAnd k lk ifs s1).bind fun b s2 => match b with
    | true => (oE k lk ka s2).bind fun x s3 => match itm x with
      | some x => (oE k lk va s3).bind fun y s4 => match itm y with
        | some y => Res.of (putD tk acc x y) s4
        | none => .no
      | none => .no
    | false => .ok acc s2
theorem ev_dcomp (tk : Bool) (own : List Nat) (t : T) (it : I) (ifs : Cs) (ka va : C) : oE k lk (.dcomp tk own t it ifs ka va) st = (oI k lk it st).bind fun x st1 => (fol (turnM k tk (x.2 ++ lk) t ifs ka va (wipe st1.sl own)) x.1 [] ⟨wipe st1.sl own, st1.ce⟩).bind fun acc st2 => .ok (.dic acc) ⟨st1.sl, st2.ce⟩ := by rw [oE] <;> rfl
theorem ev_pop0 (r : Nat) (p : Cs) : oE k lk (.pop0 r p) st = match root lk st r with
    | some n => (oPth k (n :: lk) n p st).bind fun is st1 => match atL st1.ce n is with
      | some ds => match ds[ds.length - 1]?, modC st1.ce n is (fun ds => some ds.dropLast) with
        | some e, some ce => .ok e ⟨st1.sl, ce⟩
        | _, _ => .no
      | none => .no
    | none => .no := by rw [oE] <;> rfl
theorem ev_pop (r : Nat) (p : Cs) (a : C) : oE k lk (.pop r p a) st = match root lk st r with
    | some n => (oPth k (n :: lk) n p st).bind fun is st1 => match atL st1.ce n is with
      | some _ => (oE k (n :: lk) a st1).bind fun x st2 => match x, atL st2.ce n is with
        | .int i, some ds => match L2.ixN ds.length i with
          | some j => match ds[j]?, modC st2.ce n is (fun ds => some (ds.eraseIdx j)) with
            | some e, some ce => if rgOk i then .ok e ⟨st2.sl, ce⟩ else .no
            | _, _ => .no
          | none => .no
        | _, _ => .no
      | none => .no
    | none => .no := by rw [oE] <;> rfl
theorem ev_mv (i : Nat) : oE k lk (.mv i) st = match root lk st i with
    | some n => match st.ce[n]? with
      | some (some d) => .ok d ⟨st.sl.set i none, st.ce.set n none⟩
      | _ => .no
    | none => .no := by rw [oE] <;> rfl
@[simp] theorem evs_nil : oEs k lk .nil st = .ok [] st := by rw [oEs] <;> rfl
@[simp] theorem evs_cons (e : C) (es : Cs) : oEs k lk (.cons e es) st = (oE k lk e st).bind fun d st1 => (oEs k (lkO d ++ lk) es st1).bind fun ds st2 => .ok (d :: ds) st2 := by rw [oEs] <;> rfl
@[simp] theorem eva_nil : oAnd k lk .nil st = .ok true st := by rw [oAnd] <;> rfl
@[simp] theorem eva_cons (e : C) (es : Cs) : oAnd k lk (.cons e es) st = (boolR (oE k lk e st)).bind fun b st1 => match b with
    | true => oAnd k lk es st1
    | false => .ok false st1 := by rw [oAnd] <;> rfl
@[simp] theorem evo_nil : oOr k lk .nil st = .ok false st := by rw [oOr] <;> rfl
@[simp] theorem evo_cons (e : C) (es : Cs) : oOr k lk (.cons e es) st = (boolR (oE k lk e st)).bind fun b st1 => match b with
    | true => .ok true st1
    | false => oOr k lk es st1 := by rw [oOr] <;> rfl
@[simp] theorem evc_no : oCo k lk .no st = .ok none st := by rw [oCo] <;> rfl
@[simp] theorem evc_so (e : C) : oCo k lk (.so e) st = (oE k lk e st).bind fun d st1 => match d with
    | .int i => .ok (some i) st1
    | _ => .no := by rw [oCo] <;> rfl
@[simp] theorem evi_pl (c : C) : oI k lk (.pl c) st = (oE k lk c st).bind fun d st1 => match seqV st1.ce d with
    | some ds => .ok (ds, lkI d) st1
    | none => .no := by rw [oI] <;> rfl
@[simp] theorem evi_enum (c : C) : oI k lk (.enum c) st = (oE k lk c st).bind fun d st1 => match seqW st1.ce d with
    | some ds => .ok (enumD 0 ds, lkI d) st1
    | none => .no := by rw [oI] <;> rfl
@[simp] theorem evi_zip (a b : C) : oI k lk (.zip a b) st = (oE k lk a st).bind fun x st1 => (oE k (lkO x ++ lk) b st1).bind fun y st2 => match seqW st2.ce x, seqW st2.ce y with
    | some xs, some ys => if isT x = isT y then .ok (zipD xs ys, lkI x ++ lkI y) st2 else .no
    | _, _ => .no := by rw [oI] <;> rfl
@[simp] theorem evt_nm (live : Bool) (i : Nat) (d : D) : oTg k lk (.nm live i) d st = setN live i d st := by rw [oTg] <;> rfl
@[simp] theorem evt_tp_tup (ts : Ts) (ds : List D) : oTg k lk (.tp ts) (.tup ds) st = if ds.length = ts.len then oTgs k lk ts ds st else .no := by rw [oTg]
@[simp] theorem evt_tp_oto (ts : Ts) (ds : List D) : oTg k lk (.tp ts) (.oto ds) st = if ds.length = ts.len then oTgs k lk ts ds st else .no := by rw [oTg]
@[simp] theorem evt_tp_lst (ts : Ts) (ds : List D) : oTg k lk (.tp ts) (.lst ds) st = if ds.length = ts.len then oTgs k lk ts ds st else .no := by rw [oTg]
@[simp] theorem evt_tp_new (ts : Ts) (ds : List D) : oTg k lk (.tp ts) (.new ds) st = if ds.length = ts.len then oTgs k lk ts ds st else .no := by rw [oTg]
@[simp] theorem evts_nil : oTgs k lk .nil [] st = .ok () st := by rw [oTgs] <;> rfl
@[simp] theorem evts_cons (t : T) (ts : Ts) (d : D) (ds : List D) : oTgs k lk (.cons t ts) (d :: ds) st = (oTg k lk t d st).bind fun _ st1 => oTgs k lk ts ds st1 := by rw [oTgs] <;> rfl
@[simp] theorem evg_elF (e : C) (acc : List D) : oG k lk (.el false e) acc st = (oE k lk e st).bind fun d st1 => match itm d with
    | some x => if acc.length < line then .ok (acc ++ [x]) st1 else .no
    | none => .no := by rw [oG] <;> rfl
@[simp] theorem evg_elT (e : C) (acc : List D) : oG k lk (.el true e) acc st = (oE k lk e st).bind fun d st1 => match itmL d with
    | some x => if acc.length < line then .ok (acc ++ [x]) st1 else .no
    | none => .no := by rw [oG] <;> rfl
theorem evg_cons (t : T) (it : I) (ifs : Cs) (gs : Gs) (acc : List D) : oG k lk (.cons t it ifs gs) acc st = (oI k lk it st).bind fun x st1 => fol (turnC k (x.2 ++ lk) t ifs gs (wipe st1.sl (t.slots ++ gs.slots))) x.1 acc st1 := by rw [oG] <;> rfl
@[simp] theorem es_asg (t : T) (e : C) : oS k lk (.asg t e) st = (oE k lk e st).bind fun d st1 => (oTg k lk t d st1).bind fun _ st2 => .ok .nx st2 := by rw [oS] <;> rfl
@[simp] theorem es_par (l l' : Bool) (i j : Nat) (a b : C) : oS k lk (.par l i l' j a b) st = (oE k lk a st).bind fun x st1 => (oE k (lkO x ++ lk) b st1).bind fun y st2 => (setN l' j y st2).bind fun _ st3 => (setN l i x st3).bind fun _ st4 => .ok .nx st4 := by rw [oS] <;> rfl
@[simp] theorem es_ex (e : C) : oS k lk (.ex e) st = (oE k lk e st).bind fun _ st1 => .ok .nx st1 := by rw [oS] <;> rfl
@[simp] theorem es_iff (c : C) (a b : Ss) : oS k lk (.iff c a b) st = (boolR (oE k lk c st)).bind fun t st1 => match t with
    | true => oSs k lk a st1
    | false => oSs k lk b st1 := by rw [oS] <;> rfl
theorem es_for (t : T) (it : I) (b : Ss) : oS k lk (.for t it b) st = (oI k lk it st).bind fun x st1 => folS (fun d s => (oTg k (x.2 ++ lk) t d s).bind fun _ s1 => oSs k (x.2 ++ lk) b s1) st1.ce.length x.1 st1 := by rw [oS] <;> rfl
theorem es_whl (c : C) (b : Ss) : oS k lk (.whl c b) st = wh (fun s => boolR (oE k lk c s)) (fun s => oSs k lk b s) st.ce.length st := by rw [oS] <;> rfl
@[simp] theorem es_ret (e : C) : oS k lk (.ret e) st = (oE k lk e st).bind fun d st1 => .ok (.rt d) st1 := by rw [oS] <;> rfl
@[simp] theorem es_retN : oS k lk .retN st = .ok (.rt .non) st := by rw [oS] <;> rfl
@[simp] theorem es_brk : oS k lk .brk st = .ok .bk st := by rw [oS] <;> rfl
@[simp] theorem es_cnt : oS k lk .cnt st = .ok .ct st := by rw [oS] <;> rfl
@[simp] theorem es_pass : oS k lk .pass st = .ok .nx st := by rw [oS] <;> rfl
@[simp] theorem ess_nil : oSs k lk .nil st = .ok .nx st := by rw [oSs] <;> rfl
@[simp] theorem ess_cons (s : St) (ss : Ss) : oSs k lk (.cons s ss) st = (oS k lk s st).bind fun f st1 => match f with
    | .nx => oSs k lk ss st1
    | f => .ok f st1 := by rw [oSs] <;> rfl
end
/-! ### slots -/
@[simp] theorem boolR_ok1 (b : Bool) (s : S) : boolR (.ok (.bl b) s) = .ok b s := rfl
@[simp] theorem argsR_ok1 (ds : List D) (s : S) : argsR (.ok ds s) = Res.of (items arg ds) s := rfl
@[simp] theorem items_nil {α : Type} (f : α → Option D) : items f [] = some [] := rfl
@[simp] theorem items_cons {α : Type} (f : α → Option D) (d : α) (ds : List α) : items f (d :: ds) = match f d, items f ds with
    | some e, some es => some (e :: es)
    | _, _ => none := rfl
@[simp] theorem setN_false (i : Nat) (d : D) (st : S) : setN false i d st = match arg d with
    | some e => .ok () ⟨st.sl.set i (some e), st.ce⟩
    | none => .no := by cases d <;> rfl
@[simp] theorem wipe_nil (sl : List (Option D)) : wipe sl [] = sl := rfl
@[simp] theorem wipe_cons (sl : List (Option D)) (v : Nat) (vs : List Nat) : wipe sl (v :: vs) = (wipe sl vs).set v none := rfl
end OV
/-! text PLC -/
namespace OV
open PySem (Str PyData NestedKey)
/-! ### a def's end -/
section
variable {n : Nat} {st : S}
@[simp] theorem end_int (i : Int) : endF n (.ok (.rt (.int i)) st) = .ok (.int i) (st.ce.take n) := rfl
@[simp] theorem end_bl (i : Bool) : endF n (.ok (.rt (.bl i)) st) = .ok (.bl i) (st.ce.take n) := rfl
@[simp] theorem end_non : endF n (.ok (.rt .non) st) = .ok .non (st.ce.take n) := rfl
@[simp] theorem end_str (i : Str) : endF n (.ok (.rt (.str i)) st) = .ok (.str i) (st.ce.take n) := rfl
@[simp] theorem end_tup (i : List D) : endF n (.ok (.rt (.tup i)) st) = .ok (.tup i) (st.ce.take n) := rfl
@[simp] theorem end_lst (i : List D) : endF n (.ok (.rt (.lst i)) st) = .ok (.lst i) (st.ce.take n) := rfl
@[simp] theorem end_new (i : List D) : endF n (.ok (.rt (.new i)) st) = .ok (.new i) (st.ce.take n) := rfl
@[simp] theorem end_own (i : List D) : endF n (.ok (.rt (.own i)) st) = .ok (.own i) (st.ce.take n) := rfl
@[simp] theorem end_dic (i : List (D × D)) : endF n (.ok (.rt (.dic i)) st) = .ok (.dic i) (st.ce.take n) := rfl
@[simp] theorem end_nx : endF n (.ok .nx st) = .ok .non (st.ce.take n) := rfl
theorem end_V {d : D} (h : isV d = true) : endF n (.ok (.rt d) st) = .ok d (st.ce.take n) := by cases d <;> first | rfl | cases h
/-! ### freezing -/
theorem fz_V {d : D} (h : isV d = true) : fzD d = some d := by cases d <;> first | rfl | cases h
theorem arg_V {d : D} (h : isV d = true) : arg d = some d := by cases d <;> first | rfl | cases h
theorem itm_V {d : D} (h : isV d = true) : itm d = some d := fz_V h
@[simp] theorem fz_int (i : Int) : fzD (.int i) = some (.int i) := rfl
@[simp] theorem fz_bool (i : Bool) : fzD (.bl i) = some (.bl i) := rfl
@[simp] theorem fz_non : fzD .non = some .non := rfl
@[simp] theorem fz_str (i : Str) : fzD (.str i) = some (.str i) := rfl
@[simp] theorem fz_tup (i : List D) : fzD (.tup i) = some (.tup i) := rfl
@[simp] theorem fz_lst (i : List D) : fzD (.lst i) = some (.lst i) := rfl
@[simp] theorem fz_rng (i j : Int) : fzD (.rng i j) = some (.rng i j) := rfl
@[simp] theorem fz_dic (i : List (D × D)) : fzD (.dic i) = some (.dic i) := rfl
@[simp] theorem fz_new (i : List D) : fzD (.new i) = some (.lst i) := rfl
@[simp] theorem itm_fz (d : D) : itm d = fzD d := rfl
@[simp] theorem arg_int (i : Int) : arg (.int i) = some (.int i) := rfl
@[simp] theorem arg_bl (i : Bool) : arg (.bl i) = some (.bl i) := rfl
@[simp] theorem arg_non : arg .non = some .non := rfl
@[simp] theorem arg_str (i : Str) : arg (.str i) = some (.str i) := rfl
@[simp] theorem arg_tup (i : List D) : arg (.tup i) = some (.tup i) := rfl
@[simp] theorem arg_lst (i : List D) : arg (.lst i) = some (.lst i) := rfl
@[simp] theorem arg_rng (i j : Int) : arg (.rng i j) = some (.rng i j) := rfl
@[simp] theorem arg_dic (i : List (D × D)) : arg (.dic i) = some (.dic i) := rfl
@[simp] theorem arg_new (i : List D) : arg (.new i) = some (.lst i) := rfl
@[simp] theorem arg_ref (i : Nat) : arg (.ref i) = some (.ref i) := rfl
@[simp] theorem arg_clo (i : Nat) (e : List D) : arg (.clo i e) = some (.clo i e) := rfl
@[simp] theorem lkO_int (i : Int) : lkO (.int i) = [] := rfl
@[simp] theorem lkO_bl (i : Bool) : lkO (.bl i) = [] := rfl
@[simp] theorem lkO_non : lkO .non = [] := rfl
@[simp] theorem lkO_str (i : Str) : lkO (.str i) = [] := rfl
@[simp] theorem lkO_tup (i : List D) : lkO (.tup i) = [] := rfl
@[simp] theorem lkO_lst (i : List D) : lkO (.lst i) = [] := rfl
@[simp] theorem lkO_rng (i j : Int) : lkO (.rng i j) = [] := rfl
@[simp] theorem lkO_dic (i : List (D × D)) : lkO (.dic i) = [] := rfl
@[simp] theorem lkO_new (i : List D) : lkO (.new i) = [] := rfl
@[simp] theorem lkO_own (i : List D) : lkO (.own i) = [] := rfl
@[simp] theorem lkO_ref (i : Nat) : lkO (.ref i) = [] := rfl
@[simp] theorem lkO_bor (i : Nat) (ds : List D) : lkO (.bor (some i) ds) = [i] := rfl
theorem lkO_V {d : D} (h : isV d = true) : lkO d = [] := by cases d <;> first | rfl | cases h
@[simp] theorem lkI_tup (i : List D) : lkI (.tup i) = [] := rfl
@[simp] theorem lkI_lst (i : List D) : lkI (.lst i) = [] := rfl
@[simp] theorem lkI_rng (i j : Int) : lkI (.rng i j) = [] := rfl
@[simp] theorem lkI_new (i : List D) : lkI (.new i) = [] := rfl
@[simp] theorem lkI_ref (i : Nat) : lkI (.ref i) = [i] := rfl
/-! ### what is walked -/
variable {ce : Ce}
@[simp] theorem sv_tup (ds : List D) : seqV ce (.tup ds) = some ds := rfl
@[simp] theorem sv_lst (ds : List D) : seqV ce (.lst ds) = some ds := rfl
@[simp] theorem sv_new (ds : List D) : seqV ce (.new ds) = some ds := rfl
theorem sv_rng (lo hi : Int) : seqV ce (.rng lo hi) = some ((List.range (hi - lo).toNat).map fun (i : Nat) => .int (lo + i)) := rfl
@[simp] theorem sw_tup (ds : List D) : seqW ce (.tup ds) = some ds := rfl
@[simp] theorem sw_lst (ds : List D) : seqW ce (.lst ds) = some ds := rfl
@[simp] theorem sw_new (ds : List D) : seqW ce (.new ds) = some ds := rfl
@[simp] theorem sD_tup (ds : List D) : seqD ce (.tup ds) = some ds := rfl
@[simp] theorem sD_lst (ds : List D) : seqD ce (.lst ds) = some ds := rfl
@[simp] theorem sD_new (ds : List D) : seqD ce (.new ds) = some ds := rfl
@[simp] theorem lv_lst (ds : List D) : lsV ce (.lst ds) = some ds := rfl
@[simp] theorem lv_new (ds : List D) : lsV ce (.new ds) = some ds := rfl
@[simp] theorem sl_lst (ds : List D) : seqL ce (.lst ds) = some ds := rfl
@[simp] theorem sl_new (ds : List D) : seqL ce (.new ds) = some ds := rfl
@[simp] theorem sl_ref (i : Nat) : seqL ce (.ref i) = cellL ce i := rfl
/-! ### built-ins -/
@[simp] theorem b_len_tup (ds : List D) : opB ce .len [.tup ds] = some (.int ds.length) := rfl
@[simp] theorem b_len_lst (ds : List D) : opB ce .len [.lst ds] = some (.int ds.length) := rfl
@[simp] theorem b_len_new (ds : List D) : opB ce .len [.new ds] = some (.int ds.length) := rfl
theorem b_range1 {j : Int} (h : rgOk j = true) : opB ce .range1 [.int j] = some (.rng 0 j) := by simp only [opB, h, if_true]
theorem b_range2 {i j : Int} (h : rgOk i = true) (h' : rgOk j = true) : opB ce .range2 [.int i, .int j] = some (.rng i j) := by simp only [opB, h, h', and_self, if_true]
theorem b_list {d : D} {es : List D} (h : seqV ce d = some es) (hl : es.length ≤ line) : opB ce .list [d] = some (.new es) := by simp only [opB, h]; rw [if_pos hl]
theorem b_tuple {d : D} {es : List D} (h : seqV ce d = some es) (hl : es.length ≤ line) : opB ce .tuple [d] = some (.tup es) := by simp only [opB, h]; rw [if_pos hl]
@[simp] theorem b_int (i : Int) : opB ce .int [.int i] = some (.int i) := rfl
@[simp] theorem b_abs (i : Int) : opB ce .abs [.int i] = some (.int (if i < 0 then -i else i)) := rfl
@[simp] theorem b_max2 (i j : Int) : opB ce .max2 [.int i, .int j] = some (.int (if j > i then j else i)) := rfl
@[simp] theorem b_min2 (i j : Int) : opB ce .min2 [.int i, .int j] = some (.int (if j < i then j else i)) := rfl
@[simp] theorem b_isi_int (i : Int) : opB ce (.isI .int) [.int i] = some (.bl true) := rfl
@[simp] theorem b_isb_int (i : Int) : opB ce (.isI .bool) [.int i] = some (.bl false) := rfl
@[simp] theorem b_isi_bl (i : Bool) : opB ce (.isI .int) [.bl i] = some (.bl true) := rfl
@[simp] theorem b_isb_bl (i : Bool) : opB ce (.isI .bool) [.bl i] = some (.bl true) := rfl
@[simp] theorem b_isi_non : opB ce (.isI .int) [.non] = some (.bl false) := rfl
@[simp] theorem b_ist_tup (i : List D) : opB ce (.isI .tuple) [.tup i] = some (.bl true) := rfl
@[simp] theorem b_ist_lst (i : List D) : opB ce (.isI .tuple) [.lst i] = some (.bl false) := rfl
@[simp] theorem b_ist_non : opB ce (.isI .tuple) [.non] = some (.bl false) := rfl
@[simp] theorem b_isl_tup (i : List D) : opB ce (.isI2 .list .tuple) [.tup i] = some (.bl true) := rfl
@[simp] theorem b_isl_lst (i : List D) : opB ce (.isI2 .list .tuple) [.lst i] = some (.bl true) := rfl
theorem blsD_map (l : List Bool) : blsD (l.map .bl) = some l := by
  induction l with
  | nil => rfl
  | cons a l ih => simp only [List.map_cons, blsD, ih]
theorem intsD_map (l : List Int) : intsD (l.map .int) = some l := by
  induction l with
  | nil => rfl
  | cons a l ih => simp only [List.map_cons, intsD, ih]
@[simp] theorem b_all_new (l : List Bool) : opB ce .all [.new (l.map .bl)] = some (.bl (l.all id)) := by simp only [opB, lv_new, blsD_map]
@[simp] theorem b_any_new (l : List Bool) : opB ce .any [.new (l.map .bl)] = some (.bl (l.any id)) := by simp only [opB, lv_new, blsD_map]
/-! ### operators -/
@[simp] theorem o_add (i j : Int) : opBin ce .add (.int i) (.int j) = some (.int (i + j)) := rfl
@[simp] theorem o_sub (i j : Int) : opBin ce .sub (.int i) (.int j) = some (.int (i - j)) := rfl
theorem o_mul {i j : Int} (h : mulOk i j = true) : opBin ce .mul (.int i) (.int j) = some (.int (i * j)) := by simp only [opBin, h, if_true]
theorem o_mod {i j : Int} (h : 0 < j) : opBin ce .mod (.int i) (.int j) = some (.int (i % j)) := by simp only [opBin, h, if_true]
theorem o_fdiv {i j : Int} (h : 0 < j ∧ j.natAbs.log2 < 9000) : opBin ce .fdiv (.int i) (.int j) = some (.int (i / j)) := by simp only [opBin]; rw [if_pos h]
@[simp] theorem c_lt (i j : Int) : opCmp ce .lt (.int i) (.int j) = some (decide (i < j)) := rfl
@[simp] theorem c_le (i j : Int) : opCmp ce .le (.int i) (.int j) = some (decide (i ≤ j)) := rfl
@[simp] theorem c_gt (i j : Int) : opCmp ce .gt (.int i) (.int j) = some (decide (j < i)) := rfl
@[simp] theorem c_ge (i j : Int) : opCmp ce .ge (.int i) (.int j) = some (decide (j ≤ i)) := rfl
@[simp] theorem eqv_int (i j : Int) : PyData.eqv (.int i) (.int j) = decide (i = j) := by
  simp only [PyData.eqv]; rfl
theorem shaped_eq (p : PyData) : PySem.SeqAt.shaped p = (p.canLay0 && decide (p.depth ≤ 64)) := rfl
@[simp] theorem shaped_int (i : Int) : PySem.SeqAt.shaped (.int i) = true := by first | rfl | decide | simp [shaped_eq, PyData.canLay0, PyData.depth]
@[simp] theorem c_eq_int (i j : Int) : opCmp ce .eq (.int i) (.int j) = some (decide (i = j)) := by
  simp [opCmp, eqD, pdc, pd]
@[simp] theorem c_ne_int (i j : Int) : opCmp ce .ne (.int i) (.int j) = some (!decide (i = j)) := by
  simp [opCmp, eqD, pdc, pd]
end
/-! ### comprehensions -/
section
variable {k : K} {lk l : List Nat} {st st1 : S} {α : Type}
theorem turn_yes {t : T} {ifs : Cs} {gs : Gs} {sl : List (Option D)} {d : D} {acc acc' : List D} {s σ s' : S} (h1 : oTg k lk t d ⟨sl, s.ce⟩ = .ok () σ) (h2 : oAnd k lk ifs σ = .ok true σ) (h3 : oG k lk gs acc σ = .ok acc' s') : turnC k lk t ifs gs sl d acc s = .ok acc' s' := by
  unfold turnC; rw [h1, Res.bind_ok, h2, Res.bind_ok]; exact h3
theorem turn_no {t : T} {ifs : Cs} {gs : Gs} {sl : List (Option D)} {d : D} {acc : List D} {s σ : S} (h1 : oTg k lk t d ⟨sl, s.ce⟩ = .ok () σ) (h2 : oAnd k lk ifs σ = .ok false σ) : turnC k lk t ifs gs sl d acc s = .ok acc σ := by
  unfold turnC; rw [h1, Res.bind_ok, h2, Res.bind_ok]
/-- the clauses of a comprehension, from its turns -/
theorem walk_rule {t : T} {ifs : Cs} {gs : Gs} {sl : List (Option D)} {as : List α} {f : α → D} {h : α → List D} {ce : Ce} {acc : List D} {s : S} (hs : s.ce = ce) (hb : (acc ++ as.flatMap h).length ≤ line)
    (turn : ∀ a ∈ as, ∀ acc s, s.ce = ce → (acc ++ h a).length ≤ line → ∃ s', turnC k lk t ifs gs sl (f a) acc s = .ok (acc ++ h a) s' ∧ s'.ce = ce) : ∃ s', fol (turnC k lk t ifs gs sl) (as.map f) acc s = .ok (acc ++ as.flatMap h) s' ∧ s'.ce = ce := by
  induction as generalizing acc s with
  | nil => exact ⟨s, by simp [fol], hs⟩
  | cons a as ih =>
    rw [List.flatMap_cons, ← List.append_assoc] at hb
    obtain ⟨s1, e1, c1⟩ := turn a List.mem_cons_self acc s hs (by rw [List.length_append] at hb; omega)
    obtain ⟨s2, e2, c2⟩ := ih c1 hb fun b hb' => turn b (List.mem_cons_of_mem _ hb')
    exact ⟨s2, by simp only [List.map_cons, fol]; rw [e1, Res.bind_ok, e2, List.flatMap_cons, List.append_assoc], c2⟩
theorem comp_gen {own : List Nat} {t : T} {it : I} {ifs : Cs} {gs : Gs} {as : List α} {f : α → D} {h : α → List D} (hi : oI k lk it st = .ok (as.map f, l) st1) (hb : (as.flatMap h).length ≤ line)
    (turn : ∀ a ∈ as, ∀ acc s, s.ce = st1.ce → (acc ++ h a).length ≤ line → ∃ s', turnC k (l ++ lk) t ifs gs (wipe st1.sl own) (f a) acc s = .ok (acc ++ h a) s' ∧ s'.ce = st1.ce) :
    oE k lk (.comp own t it ifs gs) st = .ok (if gs.live then .own (as.flatMap h) else .new (as.flatMap h)) st1 := by
  obtain ⟨s', e, c⟩ := walk_rule (acc := []) (s := ⟨wipe st1.sl own, st1.ce⟩) rfl (by simpa using hb) turn
  rw [ev_comp, hi, Res.bind_ok]
  simp only [List.nil_append] at e
  rw [e, Res.bind_ok, c]
/-- one clause -/
theorem flatMap_if (as : List α) (p : α → Bool) (g : α → D) : (as.flatMap fun a => if p a then [g a] else []) = (as.filter p).map g := by
  induction as with
  | nil => rfl
  | cons a as ih =>
    rw [List.flatMap_cons, ih, List.filter_cons]
    cases p a <;> simp
theorem comp_one {own : List Nat} {t : T} {it : I} {ifs : Cs} {e : C} {as : List α} {f : α → D} {p : α → Bool} {g : α → D} {σ : α → S} (hi : oI k lk it st = .ok (as.map f, l) st1) (hb : ((as.filter p).map g).length ≤ line)
    (ht : ∀ a ∈ as, oTg k (l ++ lk) t (f a) ⟨wipe st1.sl own, st1.ce⟩ = .ok () (σ a)) (hc : ∀ a ∈ as, (σ a).ce = st1.ce) (hf : ∀ a ∈ as, oAnd k (l ++ lk) ifs (σ a) = .ok (p a) (σ a))
    (he : ∀ a ∈ as, p a = true → ∃ x s', oE k (l ++ lk) e (σ a) = .ok x s' ∧ s'.ce = st1.ce ∧ itm x = some (g a)) :
    oE k lk (.comp own t it ifs (.el false e)) st = .ok (.new ((as.filter p).map g)) st1 := by
  have := comp_gen (own := own) (t := t) (ifs := ifs) (gs := .el false e) (h := fun a => if p a then [g a] else []) hi (by rw [flatMap_if]; exact hb) fun a ha acc s hs hl => by
    cases hp : p a with
    | true =>
      rw [hp, if_pos rfl] at hl
      obtain ⟨x, s', e1, c1, i1⟩ := he a ha hp
      refine ⟨s', turn_yes (by rw [hs]; exact ht a ha) (by rw [hf a ha, hp]) ?_, c1⟩
      rw [evg_elF, e1, Res.bind_ok]
      simp only [i1]
      rw [if_pos (by rw [List.length_append] at hl; simp at hl; omega)]
      rfl
    | false => exact ⟨σ a, by rw [turn_no (by rw [hs]; exact ht a ha) (by rw [hf a ha, hp])]; simp, hc a ha⟩
  rw [this, flatMap_if]; rfl
/-- one name, no condition -/
theorem comp_nm {own : List Nat} {i : Nat} {it : I} {e : C} {as : List α} {f g : α → D} (hi : oI k lk it st = .ok (as.map f, l) st1) (hb : as.length ≤ line) (ha : ∀ a ∈ as, arg (f a) = some (f a))
    (he : ∀ a ∈ as, ∃ x s', oE k (l ++ lk) e ⟨(wipe st1.sl own).set i (some (f a)), st1.ce⟩ = .ok x s' ∧ s'.ce = st1.ce ∧ itm x = some (g a)) :
    oE k lk (.comp own (.nm false i) it .nil (.el false e)) st = .ok (.new (as.map g)) st1 := by
  have := comp_one (own := own) (t := .nm false i) (ifs := .nil) (e := e) (f := f) (p := fun _ => true) (g := g) (σ := fun a => ⟨(wipe st1.sl own).set i (some (f a)), st1.ce⟩) hi (by rw [List.length_map, List.filter_eq_self.mpr (by simp)]; exact hb) (fun a h => by rw [evt_nm, setN_false, ha a h]) (fun _ _ => rfl) (fun _ _ => eva_nil) (fun a h _ => he a h)
  rw [this, List.filter_eq_self.mpr (by simp)]
/-- .. with one -/
theorem comp_if {own : List Nat} {i : Nat} {it : I} {e c : C} {as : List α} {p : α → Bool} {f g : α → D} (hi : oI k lk it st = .ok (as.map f, l) st1) (hb : as.length ≤ line) (ha : ∀ a ∈ as, arg (f a) = some (f a))
    (hp : ∀ a ∈ as, oE k (l ++ lk) c ⟨(wipe st1.sl own).set i (some (f a)), st1.ce⟩ = .ok (.bl (p a)) ⟨(wipe st1.sl own).set i (some (f a)), st1.ce⟩)
    (he : ∀ a ∈ as, p a = true → ∃ x s', oE k (l ++ lk) e ⟨(wipe st1.sl own).set i (some (f a)), st1.ce⟩ = .ok x s' ∧ s'.ce = st1.ce ∧ itm x = some (g a)) :
    oE k lk (.comp own (.nm false i) it (.cons c .nil) (.el false e)) st = .ok (.new ((as.filter p).map g)) st1 :=
  comp_one (own := own) (t := .nm false i) (ifs := .cons c .nil) (e := e) (f := f) (p := p) (g := g) (σ := fun a => ⟨(wipe st1.sl own).set i (some (f a)), st1.ce⟩) hi (by rw [List.length_map]; exact Nat.le_trans (List.length_filter_le _ _) hb) (fun a h => by rw [evt_nm, setN_false, ha a h]) (fun _ _ => rfl) (fun a h => by rw [eva_cons, hp a h, boolR_ok1, Res.bind_ok]; cases p a <;> simp) he
/-- .. that turns things themselves -/
theorem comp_ifV {own : List Nat} {i : Nat} {it : I} {c : C} {as : List D} {p : D → Bool} (hi : oI k lk it st = .ok (as, l) st1) (hb : as.length ≤ line) (ha : ∀ a ∈ as, isV a = true) (hio : i < st1.sl.length)
    (hp : ∀ a ∈ as, oE k (l ++ lk) c ⟨(wipe st1.sl own).set i (some a), st1.ce⟩ = .ok (.bl (p a)) ⟨(wipe st1.sl own).set i (some a), st1.ce⟩) :
    oE k lk (.comp own (.nm false i) it (.cons c .nil) (.el false (.var i))) st = .ok (.new (as.filter p)) st1 := by
  have hw : ∀ (own : List Nat) (sl : List (Option D)), (wipe sl own).length = sl.length := by
    intro own sl
    induction own with
    | nil => rfl
    | cons v vs ih => rw [wipe_cons, List.length_set, ih]
  have := comp_if (own := own) (i := i) (e := .var i) (f := fun d : D => d) (g := fun d : D => d) (p := p) (c := c) (as := as) (by simpa using hi) hb (fun a h => arg_V (ha a h)) hp (fun a h _ => ⟨a, ⟨(wipe st1.sl own).set i (some a), st1.ce⟩, by rw [ev_var, List.getElem?_set_self (by rw [hw]; exact hio)], rfl, itm_V (ha a h)⟩)
  rw [this]; simp
/-- two names -/
theorem comp_two {β : Type} {own : List Nat} {i j : Nat} {it jt : I} {e : C} {as : List α} {bs : α → List β} {f : α → D} {f2 : β → D} {l2 : List Nat} {g : α → β → D} (hi : oI k lk it st = .ok (as.map f, l) st1) (hb : (as.flatMap fun a => (bs a).map (g a)).length ≤ line) (ha : ∀ a ∈ as, arg (f a) = some (f a))
    (hj : ∀ a ∈ as, oI k (l ++ lk) jt ⟨(wipe st1.sl own).set i (some (f a)), st1.ce⟩ = .ok ((bs a).map f2, l2) ⟨(wipe st1.sl own).set i (some (f a)), st1.ce⟩) (hb2 : ∀ a ∈ as, ∀ b ∈ bs a, arg (f2 b) = some (f2 b))
    (he : ∀ a ∈ as, ∀ b ∈ bs a, ∃ x s', oE k (l2 ++ (l ++ lk)) e ⟨(wipe ((wipe st1.sl own).set i (some (f a))) [j]).set j (some (f2 b)), st1.ce⟩ = .ok x s' ∧ s'.ce = st1.ce ∧ itm x = some (g a b)) :
    oE k lk (.comp own (.nm false i) it .nil (.cons (.nm false j) jt .nil (.el false e))) st = .ok (.new (as.flatMap fun a => (bs a).map (g a))) st1 := by
  have := comp_gen (own := own) (t := .nm false i) (it := it) (ifs := .nil) (gs := .cons (.nm false j) jt .nil (.el false e)) (h := fun a => (bs a).map (g a)) hi hb fun a haa acc s hs hl => by
    obtain ⟨s', e1, c1⟩ := walk_rule (k := k) (lk := l2 ++ (l ++ lk)) (t := .nm false j) (ifs := .nil) (gs := .el false e) (sl := wipe ((wipe st1.sl own).set i (some (f a))) [j]) (as := bs a) (f := f2) (h := fun b => [g a b]) (ce := st1.ce) (acc := acc) (s := ⟨(wipe st1.sl own).set i (some (f a)), st1.ce⟩) rfl (by rw [← List.map_eq_flatMap]; exact hl) fun b hbb acc s hs hl => by
      obtain ⟨x, s', e1, c1, i1⟩ := he a haa b hbb
      refine ⟨s', turn_yes (σ := ⟨(wipe ((wipe st1.sl own).set i (some (f a))) [j]).set j (some (f2 b)), st1.ce⟩) (by rw [hs, evt_nm, setN_false, hb2 a haa b hbb]) eva_nil ?_, c1⟩
      rw [evg_elF, e1, Res.bind_ok]
      simp only [i1]
      rw [if_pos (by rw [List.length_append] at hl; simp at hl; omega)]
    refine ⟨s', turn_yes (σ := ⟨(wipe st1.sl own).set i (some (f a)), st1.ce⟩) (by rw [hs, evt_nm, setN_false, ha a haa]) eva_nil ?_, c1⟩
    rw [evg_cons, hj a haa, Res.bind_ok]
    rw [← List.map_eq_flatMap] at e1
    exact e1
  rw [this]; rfl
/-- a pair's names -/
theorem comp_nm2 {own : List Nat} {i j : Nat} {it : I} {e : C} {as : List α} {f1 f2 g : α → D} (hi : oI k lk it st = .ok (as.map (fun a => .tup [f1 a, f2 a]), l) st1) (hb : as.length ≤ line) (ha : ∀ a ∈ as, arg (f1 a) = some (f1 a) ∧ arg (f2 a) = some (f2 a))
    (he : ∀ a ∈ as, ∃ x s', oE k (l ++ lk) e ⟨((wipe st1.sl own).set i (some (f1 a))).set j (some (f2 a)), st1.ce⟩ = .ok x s' ∧ s'.ce = st1.ce ∧ itm x = some (g a)) :
    oE k lk (.comp own (.tp (.cons (.nm false i) (.cons (.nm false j) .nil))) it .nil (.el false e)) st = .ok (.new (as.map g)) st1 := by
  have := comp_one (own := own) (t := .tp (.cons (.nm false i) (.cons (.nm false j) .nil))) (ifs := .nil) (e := e) (f := fun a => .tup [f1 a, f2 a]) (p := fun _ => true) (g := g) (σ := fun a => ⟨((wipe st1.sl own).set i (some (f1 a))).set j (some (f2 a)), st1.ce⟩) hi (by rw [List.length_map, List.filter_eq_self.mpr (by simp)]; exact hb) (fun a h => by
    simp only [evt_tp_tup, evts_cons, evts_nil, evt_nm, setN_false, (ha a h).1, (ha a h).2, Ts.len, List.length_cons, List.length_nil, if_true, Res.bind_ok]) (fun _ _ => rfl) (fun _ _ => eva_nil) (fun a h _ => he a h)
  rw [this, List.filter_eq_self.mpr (by simp)]
theorem enumD_eq (ds : List D) : ∀ i, enumD i ds = (List.range ds.length).map fun u => .tup [.int ((i + u : Nat) : Int), (ds[u]?).getD .non] := by
  induction ds with
  | nil => intro i; rfl
  | cons d ds ih =>
    intro i
    rw [enumD, ih, List.length_cons, List.range_succ_eq_map, List.map_cons, List.map_map]
    congr 1
    apply List.map_congr_left
    intro u hu
    simp [Nat.add_assoc, Nat.add_comm 1 u, Int.add_assoc, Int.add_comm 1]
end
end OV
/-! text PLD -/
namespace OV
open PySem (Str PyData NestedKey)
/-! ### lists of ints as data -/
theorem pds_ints (xs : List Int) : pds (xs.map .int) = some (xs.map .int) := by
  induction xs with
  | nil => rfl
  | cons a l ih => simp only [List.map_cons, pds, pd, ih]
theorem eqvAll_ints : ∀ xs ys : List Int, PyData.eqvAll (xs.map .int) (ys.map .int) = decide (xs = ys)
  | [], [] => rfl
  | [], _ :: _ => by simp [PyData.eqvAll]
  | _ :: _, [] => by simp [PyData.eqvAll]
  | x :: xs, y :: ys => by
    simp only [List.map_cons, PyData.eqvAll, eqv_int, eqvAll_ints xs ys, List.cons.injEq]
    by_cases h : x = y <;> by_cases h' : xs = ys <;> simp [h, h']

theorem canLay0_ints (xs : List Int) : PyData.canLayAll0 (xs.map .int) = true ∧ PyData.depthAll (xs.map .int) = 0 := by
  induction xs with
  | nil => exact ⟨rfl, rfl⟩
  | cons a l ih => simp [PyData.canLayAll0, PyData.canLay0, PyData.depthAll, PyData.depth, ih]
theorem shaped_ints (xs : List Int) : PySem.SeqAt.shaped (.list (xs.map .int)) = true := by
  obtain ⟨h1, h2⟩ := canLay0_ints xs
  simp [shaped_eq, PyData.canLay0, PyData.depth, h1, h2]
theorem ixN_ofNat {n i : Nat} (h : i < n) : L2.ixN n (i : Int) = some i := by
  unfold L2.ixN
  simp
  omega
theorem atI_ofNat {α : Type} {xs : List α} {i : Nat} : L2.atI xs (i : Int) = xs[i]? := by
  unfold L2.atI
  by_cases h : i < xs.length
  · rw [ixN_ofNat h, Option.bind_some]
  · have : L2.ixN xs.length (i : Int) = none := by unfold L2.ixN; simp; omega
    rw [this, List.getElem?_eq_none (by omega)]; rfl
theorem atI_last {α : Type} (zs : List α) (z : α) : L2.atI (zs ++ [z]) (-1) = some z := by
  unfold L2.atI L2.ixN
  have hl : (zs ++ [z]).length = zs.length + 1 := by simp
  have : ((-1 : Int) + ((zs ++ [z]).length : Int)).toNat = zs.length := by rw [hl]; omega
  rw [if_neg (by decide), if_pos (by rw [hl]; omega), this, Option.bind_some]
  simp
/-- the source of draws -/
def deal (xs : List Int) (b : Int) : D := .own [.own (xs.map .int), .int b]
structure GoodD (xs : List Int) (b : Int) : Prop where
  pos : ∀ x ∈ xs, 0 ≤ x
  b0 : 0 ≤ b
  b1 : b < 2147483647
  len : xs.length ≤ 64
section
variable {k : K} {lk : List Nat} {c : Nat} {ce : Ce} {xs : List Int} {b m : Int}
theorem deal_cell (h : ce[c]? = some (some (deal xs b))) : cellL ce c = some [.own (xs.map .int), .int b] := by
  unfold cellL; rw [h]; rfl
theorem deal_0 (h : ce[c]? = some (some (deal xs b))) : opIdx ce (.ref c) (.int 0) = some (.bor (some c) (xs.map .int)) := by
  unfold opIdx
  simp only [deal_cell h]
  rfl
theorem deal_1 (h : ce[c]? = some (some (deal xs b))) : opIdx ce (.ref c) (.int 1) = some (.int b) := by
  unfold opIdx
  simp only [deal_cell h]
  rfl
theorem ne_nil_bor (n : Nat) : opCmp ce .ne (.bor (some n) (xs.map .int)) (.new []) = some (!decide (xs = [])) := by
  have h : eqD ce (.bor (some n) (xs.map .int)) (.new []) = some (decide (xs = [])) := by
    unfold eqD
    have e1 : pdc ce (.bor (some n) (xs.map .int)) = some (.list (xs.map .int)) := by simp only [pdc, pd, pds_ints]
    have e2 : pdc ce (.new []) = some (.list (([] : List Int).map .int)) := by simp [pdc, pd, pds]
    rw [e1, e2]
    simp only [shaped_ints, Bool.and_self, if_true, PyData.eqv]
    rw [eqvAll_ints]
  unfold opCmp
  simp only [h, Option.map_some]
theorem set_cell {α : Type} {l : List (Option α)} {n : Nat} {x y : α} (h : l[n]? = some (some x)) : (l.set n (some y))[n]? = some (some y) := by
  rw [List.getElem?_set_self (List.getElem?_eq_some_iff.mp h).1]
theorem set_same {α : Type} {l : List (Option α)} {n : Nat} {x : α} (h : l[n]? = some (some x)) : l.set n (some x) = l := by
  apply List.ext_getElem?
  intro i
  by_cases hi : n = i
  · subst hi; rw [set_cell h, h]
  · rw [List.getElem?_set_ne hi]
theorem bor_last (n : Option Nat) (zs : List Int) (z : Int) : opIdx ce (.bor n ((zs ++ [z]).map .int)) (.int (-1)) = some (.int z) := by
  unfold opIdx
  rw [List.map_append, List.map_cons, List.map_nil]
  simp only [atI_last]
  rfl
theorem root_of {lk : List Nat} {sl : List (Option D)} {ce : Ce} {i c : Nat} (h : sl[i]? = some (some (.ref c))) (hk : lk.contains c = false) : root lk ⟨sl, ce⟩ i = some c := by
  unfold root; simp only [h, hk]; rfl
theorem atL_nil {ds : List D} (h : ce[c]? = some (some (.own ds))) : atL ce c [] = some ds := by
  unfold atL; rw [h]; rfl
theorem atL_one {ds es : List D} {i : Nat} (h : ce[c]? = some (some (.own ds))) (hi : ds[i]? = some (.own es)) : atL ce c [(i : Int)] = some es := by
  unfold atL; rw [h]
  simp only [atP, atI_ofNat, hi]
theorem modC_nil {ds es : List D} {f : List D → Option (List D)} (h : ce[c]? = some (some (.own ds))) (hf : f ds = some es) : modC ce c [] f = some (ce.set c (some (.own es))) := by
  unfold modC; rw [h]
  simp only [modP, hf]
theorem modC_one {ds es fs : List D} {i : Nat} {f : List D → Option (List D)} (h : ce[c]? = some (some (.own ds))) (hi : ds[i]? = some (.own es)) (hf : f es = some fs) : modC ce c [(i : Int)] f = some (ce.set c (some (.own (ds.set i (.own fs))))) := by
  unfold modC; rw [h]
  have hl : i < ds.length := (List.getElem?_eq_some_iff.mp hi).1
  simp only [modP, ixN_ofNat hl, hi, hf]
theorem oPth_nil (n : Nat) (st : S) : oPth k lk n .nil st = .ok [] st := by rw [oPth]
theorem oPth_int {sl : List (Option D)} {ds es : List D} {i : Nat} (h : ce[c]? = some (some (.own ds))) (hi : ds[i]? = some (.own es)) : oPth k lk c (.cons (.int (i : Int)) .nil) ⟨sl, ce⟩ = .ok [(i : Int)] ⟨sl, ce⟩ := by
  rw [oPth, oPth_nil]
  simp only [Res.bind_ok, ev_int, List.nil_append]
  rw [atL_nil h, atL_one h hi]
/-- the drawn zeros go -/
theorem any_while (hk : lk.contains c = false) : ∀ (n : Nat) (xs : List Int), xs.length = n → ∀ (ce : Ce), ce[c]? = some (some (deal xs b)) → ∃ ys, (∀ y ∈ ys, y ∈ xs) ∧ ys.length ≤ xs.length ∧ (ys = [] ∨ ∃ zs z, ys = zs ++ [z]) ∧
    wh (fun s => boolR (oE k lk (.and (.cons (.cmp .ne (.idx (.var 0) (.int 0)) (.lst false .nil)) (.cons (.cmp .eq (.idx (.idx (.var 0) (.int 0)) (.neg (.int 1))) (.int 0)) .nil))) s)) (fun s => oSs k lk (.cons (.ex (.pop0 0 (.cons (.int 0) .nil))) .nil) s) ce.length ⟨[some (.ref c), some (.int m), none], ce⟩ =
      .ok .nx ⟨[some (.ref c), some (.int m), none], ce.set c (some (deal ys b))⟩ := by
  intro n
  induction n with
  | zero =>
    intro xs hn ce h
    obtain rfl := List.eq_nil_of_length_eq_zero hn
    refine ⟨[], by simp, by simp, .inl rfl, ?_⟩
    rw [set_same h]
    refine wh_stop ?_
    simp [deal_0 h, -List.map_nil, ne_nil_bor]
  | succ n ih =>
    intro xs hn ce h
    obtain ⟨zs, z, rfl⟩ : ∃ zs z, xs = zs ++ [z] := by
      rcases List.eq_nil_or_concat xs with e | ⟨zs, z, e⟩
      · subst e; simp at hn
      · exact ⟨zs, z, by rw [e]; simp⟩
    have hc : boolR (oE k lk (.and (.cons (.cmp .ne (.idx (.var 0) (.int 0)) (.lst false .nil)) (.cons (.cmp .eq (.idx (.idx (.var 0) (.int 0)) (.neg (.int 1))) (.int 0)) .nil))) ⟨[some (.ref c), some (.int m), none], ce⟩) = .ok (decide (z = 0)) ⟨[some (.ref c), some (.int m), none], ce⟩ := by
      by_cases hz : z = 0 <;> simp [deal_0 h, -List.map_append, ne_nil_bor, bor_last, hz]
    by_cases hz : z = 0
    · subst hz
      have hl : (deal (zs ++ [0]) b) = .own [.own ((zs ++ [0]).map .int), .int b] := rfl
      have hat := atL_one (i := 0) (h.trans (by rw [hl])) rfl
      have hmod := modC_one (i := 0) (f := fun ds => some ds.dropLast) (h.trans (by rw [hl])) rfl rfl
      have h' : (ce.set c (some (deal zs b)))[c]? = some (some (deal zs b)) := set_cell h
      obtain ⟨ys, y1, y4, y2, y3⟩ := ih zs (by simpa using hn) _ h'
      refine ⟨ys, fun y hy => List.mem_append_left _ (y1 y hy), by simp; omega, y2, ?_⟩
      refine wh_turn (st1 := ⟨[some (.ref c), some (.int m), none], ce⟩) (st2 := ⟨[some (.ref c), some (.int m), none], ce.set c (some (deal zs b))⟩) (by rw [hc]; simp) (.inl ?_) ?_ (by simp)
      · have hp := oPth_int (k := k) (lk := c :: lk) (sl := [some (.ref c), some (.int m), none]) (i := 0) (h.trans (by rw [hl])) rfl
        simp only [ess_cons, es_ex, ev_pop0]
        rw [root_of rfl hk]
        simp only [Int.ofNat_zero, Int.cast_ofNat_Int] at hp hat hmod ⊢
        rw [hp]
        simp only [Res.bind_ok, hat, hmod]
        simp [deal]
      · rw [trim_self (by simp)]
        have : ce.length = (ce.set c (some (deal zs b))).length := by simp
        rw [this, y3, List.set_set]
    · refine ⟨zs ++ [z], fun y hy => hy, Nat.le_refl _, .inr ⟨zs, z, rfl⟩, ?_⟩
      rw [set_same h]
      refine wh_stop ?_
      rw [hc]; simp [hz]
end
end OV
/-! text PLDA -/
namespace OV
open PySem (Str PyData NestedKey)
/-! ### runs -/
def Run (k : K) (lk : List Nat) (ss : Ss) (st : S) (Q : Fl → S → Prop) : Prop := ∃ f s, oSs k lk ss st = .ok f s ∧ Q f s
def FRun (r : FR) (P : D → Ce → Prop) : Prop := ∃ d ce, r = .ok d ce ∧ P d ce
def Ss.app : Ss → Ss → Ss
  | .nil, b => b
  | .cons s ss, b => .cons s (ss.app b)
@[simp] theorem Ss.app_nil (b : Ss) : Ss.nil.app b = b := rfl
@[simp] theorem Ss.app_cons (s : St) (a b : Ss) : (Ss.cons s a).app b = .cons s (a.app b) := rfl
section
variable {k : K} {lk : List Nat} {st st1 : S} {s : St} {ss a b : Ss} {Q R : Fl → S → Prop} {c e : C} {f : Fl} {d : D} {t : T} {it : I} {ds : List D} {l : List Nat}
theorem ess_app : ∀ (a : Ss) (st : S), oSs k lk (a.app b) st = (oSs k lk a st).bind fun f st1 => match f with
    | .nx => oSs k lk b st1
    | f => .ok f st1
  | .nil, st => by simp
  | .cons s a, st => by
    rw [Ss.app_cons, ess_cons, ess_cons]
    cases oS k lk s st with
    | ok f st1 =>
      cases f with
      | nx => simp only [Res.bind_ok]; exact ess_app a st1
      | rt d => rfl
      | bk => rfl
      | ct => rfl
    | ex _ _ _ => rfl
    | no => rfl
theorem Run.mono (h : Run k lk ss st Q) (hq : ∀ f s, Q f s → R f s) : Run k lk ss st R := by
  obtain ⟨f, s, e, q⟩ := h
  exact ⟨f, s, e, hq _ _ q⟩
theorem run_nil (h : Q .nx st) : Run k lk .nil st Q := ⟨_, _, ess_nil, h⟩
theorem run_nx (h : oS k lk s st = .ok .nx st1) (hr : Run k lk ss st1 Q) : Run k lk (.cons s ss) st Q := by
  obtain ⟨f, s', e, q⟩ := hr
  exact ⟨f, s', by rw [ess_cons, h, Res.bind_ok]; exact e, q⟩
theorem run_brk (h : Q .bk st) : Run k lk (.cons .brk ss) st Q := ⟨_, _, by simp, h⟩
theorem run_cnt (h : Q .ct st) : Run k lk (.cons .cnt ss) st Q := ⟨_, _, by simp, h⟩
theorem run_ret (h : oE k lk e st = .ok d st1) (hq : Q (.rt d) st1) : Run k lk (.cons (.ret e) ss) st Q := ⟨_, _, by rw [ess_cons, es_ret, h, Res.bind_ok, Res.bind_ok], hq⟩
theorem run_pass (hr : Run k lk ss st Q) : Run k lk (.cons .pass ss) st Q := run_nx (by simp) hr
theorem run_asg (h : oE k lk e st = .ok d st1) {st2 : S} (ht : oTg k lk t d st1 = .ok () st2) (hr : Run k lk ss st2 Q) : Run k lk (.cons (.asg t e) ss) st Q :=
  run_nx (by rw [es_asg, h, Res.bind_ok, ht, Res.bind_ok]) hr
theorem run_ex (h : oE k lk e st = .ok d st1) (hr : Run k lk ss st1 Q) : Run k lk (.cons (.ex e) ss) st Q :=
  run_nx (by rw [es_ex, h, Res.bind_ok]) hr
theorem run_if {t : Bool} (h : oE k lk c st = .ok (.bl t) st1) (hr : Run k lk ((if t then a else b).app ss) st1 Q) : Run k lk (.cons (.iff c a b) ss) st Q := by
  obtain ⟨f, s', e, q⟩ := hr
  refine ⟨f, s', ?_, q⟩
  rw [ess_cons, es_iff, h, boolR_ok1, Res.bind_ok]
  rw [ess_app] at e
  cases t <;> exact e
theorem run_app (h : Run k lk a st fun f s => match f with | .nx => Run k lk b s Q | f => Q f s) : Run k lk (a.app b) st Q := by
  obtain ⟨f, s1, e, q⟩ := h
  cases f with
  | nx => obtain ⟨g, s2, e2, q2⟩ := q; exact ⟨g, s2, by rw [ess_app, e]; exact e2, q2⟩
  | rt d => exact ⟨_, _, by rw [ess_app, e]; rfl, q⟩
  | bk => exact ⟨_, _, by rw [ess_app, e]; rfl, q⟩
  | ct => exact ⟨_, _, by rw [ess_app, e]; rfl, q⟩
/-- a for: what holds before turn i -/
theorem run_for {J : Nat → S → Prop} (hi : oI k lk it st = .ok (ds, l) st1) (h0 : J 0 st1)
    (hs : ∀ i d s, ds[i]? = some d → J i s → ∃ s1, oTg k (l ++ lk) t d s = .ok () s1 ∧ Run k (l ++ lk) b s1 fun f s2 => (f = .nx ∨ f = .ct) ∧ J (i + 1) (trim st1.ce.length s2))
    (hr : ∀ s, J ds.length s → Run k lk ss s Q) : Run k lk (.cons (.for t it b) ss) st Q := by
  obtain ⟨s', e, j⟩ := folS_run (f := fun d s => (oTg k (l ++ lk) t d s).bind fun _ s1 => oSs k (l ++ lk) b s1) (n := st1.ce.length) h0 (fun i d s hd hj => by
    obtain ⟨s1, e1, f, s2, e2, hf, j2⟩ := hs i d s hd hj
    refine ⟨s2, ?_, j2⟩
    rcases hf with rfl | rfl
    · exact .inl (by rw [e1, Res.bind_ok, e2])
    · exact .inr (by rw [e1, Res.bind_ok, e2]))
  exact run_nx (by rw [es_for, hi, Res.bind_ok]; exact e) (hr _ j)
/-- .. that may end the def: Z what then holds -/
theorem folS_runR {f : D → S → Res Fl} {n : Nat} {ds : List D} {J : Nat → S → Prop} {Z : D → S → Prop} {st : S} (h0 : J 0 st) (hs : ∀ i d st, ds[i]? = some d → J i st → ∃ g st', f d st = .ok g st' ∧ match g with
      | .nx | .ct => J (i + 1) (trim n st')
      | .rt x => Z x st'
      | .bk => J ds.length (trim n st')) : (∃ st', folS f n ds st = .ok .nx st' ∧ J ds.length st') ∨ ∃ x st', folS f n ds st = .ok (.rt x) st' ∧ Z x st' := by
  have key : ∀ (es : List D) (k : Nat) (st : S), es = ds.drop k → k ≤ ds.length → J k st → (∃ st', folS f n es st = .ok .nx st' ∧ J ds.length st') ∨ ∃ x st', folS f n es st = .ok (.rt x) st' ∧ Z x st' := by
    intro es
    induction es with
    | nil =>
      intro k st e hk hi
      have : k = ds.length := by
        have := congrArg List.length e
        simp at this; omega
      subst this
      exact .inl ⟨st, rfl, hi⟩
    | cons d es ih =>
      intro k st e hk hi
      have hlt : k < ds.length := by
        have := congrArg List.length e
        simp at this; omega
      rw [List.drop_eq_getElem_cons hlt] at e
      cases e
      obtain ⟨g, s1, e1, i1⟩ := hs k _ st (List.getElem?_eq_getElem hlt) hi
      cases g with
      | nx => simp only [folS, e1]; exact ih (k + 1) _ rfl hlt i1
      | ct => simp only [folS, e1]; exact ih (k + 1) _ rfl hlt i1
      | rt x => simp only [folS, e1]; exact .inr ⟨x, s1, rfl, i1⟩
      | bk => simp only [folS, e1]; exact .inl ⟨_, rfl, i1⟩
  exact key ds 0 st rfl (Nat.zero_le _) h0
theorem run_forR {J : Nat → S → Prop} {Z : D → S → Prop} (hi : oI k lk it st = .ok (ds, l) st1) (h0 : J 0 st1)
    (hs : ∀ i d s, ds[i]? = some d → J i s → ∃ s1, oTg k (l ++ lk) t d s = .ok () s1 ∧ Run k (l ++ lk) b s1 fun f s2 => match f with
      | .nx | .ct => J (i + 1) (trim st1.ce.length s2)
      | .rt x => Z x s2
      | .bk => J ds.length (trim st1.ce.length s2))
    (hz : ∀ x s, Z x s → Q (.rt x) s) (hr : ∀ s, J ds.length s → Run k lk ss s Q) : Run k lk (.cons (.for t it b) ss) st Q := by
  rcases folS_runR (f := fun d s => (oTg k (l ++ lk) t d s).bind fun _ s1 => oSs k (l ++ lk) b s1) (n := st1.ce.length) (Z := Z) h0 (fun i d s hd hj => by
    obtain ⟨s1, e1, f, s2, e2, hf⟩ := hs i d s hd hj
    exact ⟨f, s2, by rw [e1, Res.bind_ok, e2], hf⟩) with ⟨s', e, j⟩ | ⟨x, s', e, z⟩
  · exact run_nx (by rw [es_for, hi, Res.bind_ok]; exact e) (hr _ j)
  · exact ⟨_, _, by rw [ess_cons, es_for, hi, Res.bind_ok, e]; rfl, hz _ _ z⟩
/-- a while with a measure -/
theorem run_whl {J : Nat → S → Prop} (m : Nat) (h0 : J m st) (hl : ∀ j s, J j s → s.ce.length = st.ce.length)
    (hs : ∀ j s, J j s → ∃ t s1, oE k lk c s = .ok (.bl t) s1 ∧ match t with
      | true => Run k lk b s1 fun f s2 => (f = .nx ∨ f = .ct) ∧ ∃ j', j' < j ∧ J j' (trim st.ce.length s2)
      | false => Run k lk ss s1 Q) : Run k lk (.cons (.whl c b) ss) st Q := by
  have key : ∀ m s, J m s → ∃ s', wh (fun s => boolR (oE k lk c s)) (fun s => oSs k lk b s) st.ce.length s = .ok .nx s' ∧ Run k lk ss s' Q := by
    intro m
    induction m using Nat.strongRecOn with
    | _ m ih =>
      intro s hj
      obtain ⟨t, s1, e, h⟩ := hs m s hj
      cases t with
      | false => exact ⟨s1, wh_stop (by rw [e]; rfl), h⟩
      | true =>
        obtain ⟨f, s2, e2, hf, j', hlt, hj'⟩ := h
        obtain ⟨s', e3, r⟩ := ih j' hlt _ hj'
        exact ⟨s', wh_turn (by rw [e]; rfl) (by rcases hf with rfl | rfl; exact .inl e2; exact .inr e2) e3 (by simp), r⟩
  obtain ⟨s', e, r⟩ := key m st h0
  exact run_nx (by rw [es_whl]; exact e) r
end
/-- a def's run -/
theorem fn_run {T : Str → Option Df} {L : Nat → Option Lm} {f : Str} {d : Df} {n : Nat} {ds : List D} {lk : List Nat} {ce : Ce} {P : D → Ce → Prop} (h : T f = some d) (hl : ds.length = d.ps.length)
    (hr : Run (lev T L n) lk d.body ⟨ds.map some ++ List.replicate (d.N.length - ds.length) none, ce⟩ fun f s => FRun (endF ce.length (.ok f s)) P) : FRun ((lev T L (n + 1)).fn f ds lk ce) P := by
  obtain ⟨g, s, e, x, ce', e2, p⟩ := hr
  exact ⟨x, ce', by rw [lev_fn h n ds lk ce hl, oF, e]; exact e2, p⟩
theorem FRun.eq {r : FR} {d : D} {ce : Ce} (h : FRun r fun x ce' => x = d ∧ ce' = ce) : r = .ok d ce := by
  obtain ⟨_, _, e, rfl, rfl⟩ := h
  exact e
theorem fr_V {d : D} {n : Nat} {s : S} {P : D → Ce → Prop} (hv : isV d = true) (h : P d (s.ce.take n)) : FRun (endF n (.ok (.rt d) s)) P := ⟨_, _, end_V hv, h⟩
theorem fr_new {ds : List D} {n : Nat} {s : S} {P : D → Ce → Prop} (h : P (.new ds) (s.ce.take n)) : FRun (endF n (.ok (.rt (.new ds)) s)) P := ⟨_, _, rfl, h⟩
theorem fr_own {ds : List D} {n : Nat} {s : S} {P : D → Ce → Prop} (h : P (.own ds) (s.ce.take n)) : FRun (endF n (.ok (.rt (.own ds)) s)) P := ⟨_, _, rfl, h⟩
/-! ### statements -/
section
variable {k : K} {lk : List Nat} {st st1 : S} {ss : Ss} {Q : Fl → S → Prop} {e : C} {d : D} {sl : List (Option D)} {ce : Ce}
theorem run_nm {i : Nat} {x : D} (h : oE k lk e st = .ok d st1) (ha : arg d = some x) (hr : Run k lk ss ⟨st1.sl.set i (some x), st1.ce⟩ Q) : Run k lk (.cons (.asg (.nm false i) e) ss) st Q :=
  run_asg h (by simp [ha]) hr
/-- a new list to keep -/
theorem run_new {i : Nat} {ds : List D} (h : oE k lk e st = .ok d st1) (hd : d = .new ds ∨ d = .own ds) (hr : Run k lk ss ⟨st1.sl.set i (some (.ref st1.ce.length)), st1.ce ++ [some (.own ds)]⟩ Q) : Run k lk (.cons (.asg (.nm true i) e) ss) st Q := by
  rcases hd with rfl | rfl <;> exact run_asg h (by simp [setN]) hr
/-- an item more at a cell's end -/
theorem run_append {i c : Nat} {ds : List D} {x : D} (hs : st.sl[i]? = some (some (.ref c))) (hk : lk.contains c = false) {ds0 : List D} (h0 : st.ce[c]? = some (some (.own ds0))) (h : oE k lk e st = .ok d st1) (hc : st1.ce[c]? = some (some (.own ds))) (hx : itmL d = some x) (hl : ds.length < line)
    (hr : Run k lk ss ⟨st1.sl, st1.ce.set c (some (.own (ds ++ [x])))⟩ Q) : Run k lk (.cons (.append i .nil e) ss) st Q := by
  refine run_nx ?_ hr

  rw [oS, root_of (sl := st.sl) (ce := st.ce) hs hk]
  simp only [oPth_nil, Res.bind_ok, atL_nil h0, Cs.isNil, if_true, h, hx, atL_nil hc]
  rw [modC_nil hc (by rw [if_pos hl])]
/-- .. of a list in a cell -/
theorem run_append1 {i c j : Nat} {ds es : List D} {x : D} (hs : st.sl[i]? = some (some (.ref c))) (hk : lk.contains c = false) {ds0 es0 : List D} (h0 : st.ce[c]? = some (some (.own ds0))) (hj0 : ds0[j]? = some (.own es0)) (h : oE k (c :: lk) e st = .ok d st1) (hc : st1.ce[c]? = some (some (.own ds))) (hj : ds[j]? = some (.own es)) (hx : itmL d = some x) (hl : es.length < line)
    (hr : Run k lk ss ⟨st1.sl, st1.ce.set c (some (.own (ds.set j (.own (es ++ [x])))))⟩ Q) : Run k lk (.cons (.append i (.cons (.int (j : Int)) .nil) e) ss) st Q := by
  refine run_nx ?_ hr
  rw [oS, root_of (sl := st.sl) (ce := st.ce) hs hk]
  simp only [oPth_int (sl := st.sl) h0 hj0, Res.bind_ok, atL_one h0 hj0, Cs.isNil, h, hx, atL_one hc hj]
  simp only [Bool.false_eq_true, if_false, h, Res.bind_ok, hx, atL_one hc hj]
  rw [modC_one hc hj (by rw [if_pos hl])]
/-- items more at a cell's end -/
theorem run_extend {i c : Nat} {ds xs : List D} (hs : st.sl[i]? = some (some (.ref c))) (hk : lk.contains c = false) {ds0 : List D} (h0 : st.ce[c]? = some (some (.own ds0))) (h : oE k lk e st = .ok (.new xs) st1) (hc : st1.ce[c]? = some (some (.own ds))) (hl : ds.length + xs.length ≤ line)
    (hr : Run k lk ss ⟨st1.sl, st1.ce.set c (some (.own (ds ++ xs)))⟩ Q) : Run k lk (.cons (.extend i .nil e) ss) st Q := by
  refine run_nx ?_ hr
  rw [oS, root_of (sl := st.sl) (ce := st.ce) hs hk]
  simp only [oPth_nil, Res.bind_ok, atL_nil h0, Cs.isNil, if_true, h, atL_nil hc]
  rw [modC_nil hc (by rw [if_pos hl])]
/-- an item of a cell's list set -/
theorem run_set {i c j : Nat} {ds : List D} {x : D} {a : C} {ds0 : List D} {st2 : S} (h : oE k lk e st = .ok d st1) (hs : st1.sl[i]? = some (some (.ref c))) (hk : lk.contains c = false) (h0 : st1.ce[c]? = some (some (.own ds0))) (ha : oE k (c :: lk) a st1 = .ok (.int (j : Int)) st2) (hc : st2.ce[c]? = some (some (.own ds))) (hx : itmL d = some x) (hj : j < ds.length)
    (hr : Run k lk ss ⟨st2.sl, st2.ce.set c (some (.own (ds.set j x)))⟩ Q) : Run k lk (.cons (.asg (.ix i .nil a) e) ss) st Q := by
  refine run_asg h (st2 := ⟨st2.sl, st2.ce.set c (some (.own (ds.set j x)))⟩) ?_ hr
  rw [oTg, root_of (sl := st1.sl) (ce := st1.ce) hs hk]
  simp only [oPth_nil, Res.bind_ok, atL_nil h0, ha, hx, atL_nil hc]
  rw [modC_nil (f := putI (j : Int) x) hc (by rw [putI, ixN_ofNat hj])]
theorem mul_nat {a : Nat} (h : a ≤ 1000000000) (j : Int) : mulOk (a : Int) j = true := by
  simp only [mulOk, Bool.or_eq_true, decide_eq_true_eq]
  refine .inl (.inl ⟨?_, ?_⟩)
  · have : (-(2 ^ 64) : Int) < 0 := by decide
    omega
  · have : (1000000000 : Int) < 2 ^ 64 := by decide
    omega
end
end OV
/-! text PLE -/
namespace OV
open PySem (Str PyData NestedKey)
/-! ### the draws -/
def g_any : Df := ⟨["deal", "bound"], ["deal", "bound", "rest"], (.cons (.whl (.and (.cons (.cmp .ne (.idx (.var 0) (.int 0)) (.lst false .nil)) (.cons (.cmp .eq (.idx (.idx (.var 0) (.int 0)) (.neg (.int 1))) (.int 0)) .nil))) (.cons (.ex (.pop0 0 (.cons (.int 0) .nil))) .nil)) (.cons (.iff (.cmp .ne (.idx (.var 0) (.int 0)) (.lst false .nil)) (.cons (.asg (.nm false 2) (.callB .int (.cons (.pop0 0 (.cons (.int 0) .nil)) .nil))) (.cons (.append 0 (.cons (.int 0) .nil) (.bin .fdiv (.var 2) (.var 1))) (.cons (.ret (.bin .mod (.var 2) (.var 1))) .nil))) .nil) (.cons (.asg (.ix 0 .nil (.int 1)) (.bin .mod (.callB .int (.cons (.bin .add (.bin .mul (.idx (.var 0) (.int 1)) (.int 40693)) (.int 71)) .nil)) (.int 2147483647))) (.cons (.ret (.bin .mod (.callB .int (.cons (.bin .fdiv (.idx (.var 0) (.int 1)) (.int 64)) .nil)) (.var 1))) .nil)))), false⟩
/-- the cell c is a source of draws -/
def Dl (c : Nat) (ce : Ce) : Prop := ∃ xs b, ce[c]? = some (some (deal xs b)) ∧ GoodD xs b
/-- the source has been drawn from, and nothing else is changed -/
def Stp (c : Nat) (ce ce' : Ce) : Prop := ∃ xs b, GoodD xs b ∧ ce' = ce.set c (some (deal xs b))
section
variable {c : Nat} {ce ce1 ce2 : Ce}
theorem Stp.refl (h : Dl c ce) : Stp c ce ce := by
  obtain ⟨xs, b, h1, h2⟩ := h
  exact ⟨xs, b, h2, (set_same h1).symm⟩
theorem Stp.trans (h1 : Stp c ce ce1) (h2 : Stp c ce1 ce2) : Stp c ce ce2 := by
  obtain ⟨_, _, _, rfl⟩ := h1
  obtain ⟨xs, b, g, rfl⟩ := h2
  exact ⟨xs, b, g, by rw [List.set_set]⟩
theorem Stp.dl (h : Dl c ce) (h1 : Stp c ce ce1) : Dl c ce1 := by
  obtain ⟨_, _, h, _⟩ := h
  obtain ⟨xs, b, g, rfl⟩ := h1
  exact ⟨xs, b, set_cell h, g⟩
theorem Stp.len (h1 : Stp c ce ce1) : ce1.length = ce.length := by
  obtain ⟨_, _, _, rfl⟩ := h1; simp
theorem Stp.other (h1 : Stp c ce ce1) {i : Nat} (hi : i ≠ c) : ce1[i]? = ce[i]? := by
  obtain ⟨_, _, _, rfl⟩ := h1
  exact List.getElem?_set_ne (Ne.symm hi)
theorem Stp.take (h1 : Stp c ce ce1) : ce1.take ce.length = ce1 := by rw [← h1.len, List.take_length]
/-- .. with cells behind -/
theorem Stp.pre {x : Ce} (hl : c < ce.length) (h1 : Stp c (ce ++ x) ce1) : ∃ ce', ce1 = ce' ++ x ∧ Stp c ce ce' := by
  obtain ⟨xs, b, g, rfl⟩ := h1
  exact ⟨_, List.set_append_left _ _ hl, xs, b, g, rfl⟩
theorem Dl.lt (h : Dl c ce) : c < ce.length := by
  obtain ⟨_, _, h, _⟩ := h
  exact (List.getElem?_eq_some_iff.mp h).1
theorem Dl.app (h : Dl c ce) (x : Ce) : Dl c (ce ++ x) := by
  obtain ⟨xs, b, h1, g⟩ := h
  exact ⟨xs, b, by rw [List.getElem?_append_left (List.getElem?_eq_some_iff.mp h1).1]; exact h1, g⟩
end
theorem log_small {m : Int} (h0 : 0 < m) (h1 : m < 4611686018427387904) : m.natAbs.log2 < 9000 := by
  have : m.natAbs < 2 ^ 62 := by
    have : (2 : Nat) ^ 62 = 4611686018427387904 := by decide
    omega
  have h := (Nat.log2_lt (by omega)).mpr this
  omega
variable {T : Str → Option Df} {L : Nat → Option Lm}
theorem any_run (hT : T "_law_any" = some g_any) {c : Nat} {ce : Ce} {lk : List Nat} {m : Int} (hd : Dl c ce) (hk : lk.contains c = false) (h0 : 0 < m) (h1 : m < 4611686018427387904) (n : Nat) :
    FRun ((lev T L (n + 1)).fn "_law_any" [.ref c, .int m] lk ce) fun d ce' => ∃ v, d = .int v ∧ 0 ≤ v ∧ v < m ∧ Stp c ce ce' := by
  obtain ⟨xs, b, h, g⟩ := hd
  refine fn_run hT rfl ?_
  obtain ⟨ys, y1, y4, y2, y3⟩ := any_while (k := lev T L n) (b := b) (m := m) hk xs.length xs rfl ce h
  have h' : (ce.set c (some (deal ys b)))[c]? = some (some (deal ys b)) := set_cell h
  have hl : (ce.set c (some (deal ys b))).length = ce.length := by simp
  refine run_nx (st1 := ⟨[some (.ref c), some (.int m), none], ce.set c (some (deal ys b))⟩) ?_ ?_
  · rw [es_whl]; exact y3
  generalize hce : ce.set c (some (deal ys b)) = ce' at *
  have hroot : root lk ⟨[some (.ref c), some (.int m), none], ce'⟩ 0 = some c := root_of rfl hk
  rcases y2 with rfl | ⟨zs, z, rfl⟩
  · refine run_if (t := false) (st1 := ⟨[some (.ref c), some (.int m), none], ce'⟩) ?_ ?_
    · simp [deal_0 h', -List.map_nil, ne_nil_bor]
    have hm1 : mulOk b 40693 = true := by
      have := g.b0; have := g.b1
      simp [mulOk]
    let b' : Int := (b * 40693 + 71) % 2147483647
    have hb0 : 0 ≤ b' := Int.emod_nonneg _ (by decide)
    have hb1 : b' < 2147483647 := Int.emod_lt_of_pos _ (by decide)
    have hm : modC ce' c [] (putI 1 (.int b')) = some (ce'.set c (some (deal [] b'))) := modC_nil (h'.trans (by rfl)) (by rfl)
    have h'' : (ce'.set c (some (deal [] b')))[c]? = some (some (deal [] b')) := set_cell h'
    refine run_asg (d := .int b') (st1 := ⟨[some (.ref c), some (.int m), none], ce'⟩) (st2 := ⟨[some (.ref c), some (.int m), none], ce'.set c (some (deal [] b'))⟩) ?_ ?_ ?_
    · simp [deal_1 h', o_mul hm1, o_mod, b']
    · rw [oTg, hroot]
      simp only [oPth_nil, Res.bind_ok, atL_nil (h'.trans (by rfl)), ev_int, itmL, hm]
    · refine run_ret (d := .int (b' / 64 % m)) (st1 := ⟨[some (.ref c), some (.int m), none], ce'.set c (some (deal [] b'))⟩) ?_ ?_
      · simp [deal_1 h'', o_fdiv (i := b') (j := 64) ⟨by decide, by decide⟩, o_mod h0]
      · refine fr_V rfl ⟨_, rfl, Int.emod_nonneg _ (by omega), Int.emod_lt_of_pos _ h0, [], b', ⟨by simp, hb0, hb1, by simp⟩, ?_⟩
        rw [List.take_of_length_le (by simp [hl]), ← hce, List.set_set]
  · refine run_if (t := true) (st1 := ⟨[some (.ref c), some (.int m), none], ce'⟩) ?_ ?_
    · simp [deal_0 h', -List.map_append, ne_nil_bor]
    have hz : 0 ≤ z := g.pos _ (y1 _ (by simp))
    have hh : ce'[c]? = some (some (.own [.own ((zs ++ [z]).map .int), .int b])) := h'
    have hat := atL_one (i := 0) hh rfl
    have hmod := modC_one (i := 0) (f := fun ds => some ds.dropLast) hh rfl rfl
    have hp := oPth_int (k := lev T L n) (lk := c :: lk) (sl := [some (.ref c), some (.int m), none]) (i := 0) hh rfl
    have hlast : ((zs ++ [z]).map D.int)[((zs ++ [z]).map D.int).length - 1]? = some (.int z) := by simp
    have hdl : (ce'.set c (some (deal zs b)))[c]? = some (some (.own [.own (zs.map .int), .int b])) := set_cell hh
    refine run_nm (d := .int z) (st1 := ⟨[some (.ref c), some (.int m), none], ce'.set c (some (deal zs b))⟩) (x := .int z) ?_ rfl ?_
    · simp only [ev_callB, evs_cons, evs_nil, ev_pop0, hroot]
      simp only [Int.ofNat_zero, Int.cast_ofNat_Int] at hp hat hmod ⊢
      rw [hp]
      simp only [Res.bind_ok, hat, hlast, hmod]
      simp [deal]
    have hlz : zs.length < 64 := by have := g.len; simp at y4; omega
    refine run_append1 (j := 0) (ds := [.own (zs.map .int), .int b]) (es := zs.map .int) (ds0 := [.own (zs.map .int), .int b]) (es0 := zs.map .int) (c := c) (d := .int (z / m)) (x := .int (z / m)) (st1 := ⟨[some (.ref c), some (.int m), some (.int z)], ce'.set c (some (deal zs b))⟩) rfl hk hdl rfl ?_ hdl rfl rfl (by simp; exact Nat.lt_of_lt_of_le hlz (by decide)) ?_
    · simp [o_fdiv ⟨h0, log_small h0 h1⟩]
    · refine run_ret (d := .int (z % m)) (st1 := ⟨[some (.ref c), some (.int m), some (.int z)], ce'.set c (some (deal (zs ++ [z / m]) b))⟩) ?_ ?_
      · simp [o_mod h0, deal]
      · refine fr_V rfl ⟨_, rfl, Int.emod_nonneg _ (by omega), Int.emod_lt_of_pos _ h0, zs ++ [z / m], b, ⟨?_, g.b0, g.b1, ?_⟩, ?_⟩
        · intro x hx
          rcases List.mem_append.mp hx with hx | hx
          · exact g.pos _ (y1 _ (List.mem_append_left _ hx))
          · rw [List.mem_singleton.mp hx]; exact Int.ediv_nonneg hz (by omega)
        · simp; omega
        · rw [List.take_of_length_le (by simp [hl]), ← hce, List.set_set]
end OV
/-! text PLF -/
namespace OV
open PySem (Str PyData NestedKey)
theorem cut_to (xs : List D) (n : Nat) : cut xs none (some (n : Int)) = xs.take n := by
  unfold cut
  rw [HT.sIx_none, HT.sIx_nat, List.drop_zero, Nat.sub_zero]
  rcases Nat.le_total n xs.length with h | h
  · rw [Nat.min_eq_left h]
  · rw [Nat.min_eq_right h, List.take_length, List.take_of_length_le h]
theorem cut_from (xs : List D) (n : Nat) : cut xs (some (n : Int)) none = xs.drop n := by
  unfold cut
  rw [HT.sIx_none, HT.sIx_nat]
  rcases Nat.le_total n xs.length with h | h
  · rw [Nat.min_eq_left h, List.take_of_length_le (by simp)]
  · rw [Nat.min_eq_right h, List.drop_of_length_le h, List.drop_of_length_le (by omega)]; simp
section
variable {ce : Ce} {n : Nat} {ds : List D}
@[simp] theorem i_tup : opIdx ce (.tup ds) (.int (n : Int)) = ds[n]? := atI_ofNat
@[simp] theorem i_lst : opIdx ce (.lst ds) (.int (n : Int)) = ds[n]? := atI_ofNat
@[simp] theorem i_new : opIdx ce (.new ds) (.int (n : Int)) = ds[n]? := atI_ofNat
@[simp] theorem i_tup0 : opIdx ce (.tup ds) (.int 0) = ds[0]? := atI_ofNat (i := 0)
@[simp] theorem i_tup1 : opIdx ce (.tup ds) (.int 1) = ds[1]? := atI_ofNat (i := 1)
@[simp] theorem i_tup2 : opIdx ce (.tup ds) (.int 2) = ds[2]? := atI_ofNat (i := 2)
@[simp] theorem i_tup3 : opIdx ce (.tup ds) (.int 3) = ds[3]? := atI_ofNat (i := 3)
@[simp] theorem i_lst0 : opIdx ce (.lst ds) (.int 0) = ds[0]? := atI_ofNat (i := 0)
@[simp] theorem i_lst1 : opIdx ce (.lst ds) (.int 1) = ds[1]? := atI_ofNat (i := 1)
theorem rg_nat (h : n < 4611686018427387904) : rgOk (n : Int) = true := by
  simp [rgOk]; omega
theorem rg_le {i : Int} (h : 0 ≤ i) (h : i < 4611686018427387904) : rgOk i = true := by
  simp [rgOk]; omega
theorem b_range (h : n < 4611686018427387904) : opB ce .range1 [.int (n : Int)] = some (.rng 0 (n : Int)) := b_range1 (rg_nat h)
/-- the numbers below n, as things -/
def rngD (n : Nat) : List D := (List.range n).map fun (i : Nat) => .int (i : Int)
@[simp] theorem sv_range : seqV ce (.rng 0 (n : Int)) = some (rngD n) := by
  simp [rngD, sv_rng]
@[simp] theorem rngD_length : (rngD n).length = n := by simp [rngD]
theorem line_le : 4000000 ≤ line := by decide
end
/-! ### a list shuffled, an item drawn -/
variable {T : Str → Option Df} {L : Nat → Option Lm}
def g_of : Df := ⟨["deal", "some"], ["deal", "some"], (.cons (.ret (.idx (.var 1) (.call "_law_any" (.cons (.var 0) (.cons (.callB .len (.cons (.var 1) .nil)) .nil))))) .nil), false⟩
section
variable {c : Nat} {ce : Ce} {lk : List Nat}
theorem res_ok {r : FR} {P : D → Ce → Prop} (h : FRun r P) (sl : List (Option D)) : ∃ d ce, r.res sl = .ok d ⟨sl, ce⟩ ∧ P d ce := by
  obtain ⟨d, ce, e, p⟩ := h
  exact ⟨d, ce, by rw [e]; rfl, p⟩
theorem of_run (hT : T "_law_any" = some g_any) (hT' : T "_law_of" = some g_of) {ds : List D} (hd : Dl c ce) (hk : lk.contains c = false) (h0 : ds ≠ []) (h1 : ds.length < 4611686018427387904) (hv : ∀ d ∈ ds, isV d = true) (n : Nat) {x : D} (hx : x = .tup ds ∨ x = .lst ds) :
    FRun ((lev T L (n + 2)).fn "_law_of" [.ref c, x] lk ce) fun d ce' => d ∈ ds ∧ Stp c ce ce' := by
  refine fn_run hT' rfl ?_
  have hp : 0 < ds.length := List.length_pos_iff.mpr h0
  obtain ⟨_, ce1, e, v, rfl, v0, v1, hs⟩ := any_run (L := L) hT hd hk (m := (ds.length : Int)) (by omega) (by omega) n
  obtain ⟨i, rfl⟩ := Int.eq_ofNat_of_zero_le v0
  have hi : i < ds.length := by omega
  refine run_ret (d := ds[i]) (st1 := ⟨[some (.ref c), some x], ce1⟩) ?_ (fr_V (hv _ (List.getElem_mem hi)) ⟨List.getElem_mem hi, ?_⟩)
  · rcases hx with rfl | rfl <;> simp [g_of, e, hi]
  · show Stp c ce (ce1.take ce.length)
    rw [hs.take]; exact hs
end
def g_draw : Df := ⟨["script", "salt"], ["script", "salt", "cells", "blend", "cell"], (.cons (.asg (.nm false 2) (.comp [4] (.nm false 4) (.pl (.sl (.var 0) .no (.so (.int 48)))) .nil (.el false (.callB .abs (.cons (.callB .int (.cons (.var 4) .nil)) .nil))))) (.cons (.asg (.nm false 3) (.bin .add (.int 7919) (.bin .mul (.int 104729) (.var 1)))) (.cons (.for (.nm false 4) (.pl (.var 2)) (.cons (.asg (.nm false 3) (.bin .mod (.callB .int (.cons (.bin .add (.bin .add (.bin .mul (.var 3) (.int 48271)) (.bin .mod (.var 4) (.int 2147483549))) (.int 11)) .nil)) (.int 2147483647))) .nil)) (.cons (.ret (.lst true (.cons (.rev (.comp [4] (.nm false 4) (.pl (.var 2)) (.cons (.cmp .ge (.var 4) (.bin .pow (.int 10) (.int 18))) .nil) (.el false (.var 4)))) (.cons (.var 3) .nil)))) .nil)))), false⟩
theorem draw_run (hT : T "_law_draw" = some g_draw) {ce : Ce} {lk : List Nat} (ns : List Int) (s : Int) (s0 : 0 ≤ s) (s1 : s ≤ 20000) (n : Nat) :
    FRun ((lev T L (n + 1)).fn "_law_draw" [.lst (ns.map .int), .int s] lk ce) fun d ce' => ∃ xs b, d = deal xs b ∧ GoodD xs b ∧ ce' = ce := by
  refine fn_run hT rfl ?_
  let cs : List Int := (ns.take 48).map fun i => if i < 0 then -i else i
  have hlen : cs.length ≤ 48 := by simp [cs]; omega
  have hpos : ∀ x ∈ cs, 0 ≤ x := by
    intro x hx
    obtain ⟨y, _, rfl⟩ := List.mem_map.mp hx
    split <;> omega
  have hsl : ([D.lst (ns.map .int), .int s].map some ++ List.replicate (g_draw.N.length - [D.lst (ns.map .int), .int s].length) none) = [some (.lst (ns.map .int)), some (.int s), none, none, none] := rfl
  rw [hsl]
  refine run_nm (d := .new ((ns.take 48).map fun i => .int (if i < 0 then -i else i))) (x := .lst ((ns.take 48).map fun i => .int (if i < 0 then -i else i))) (comp_nm (f := D.int) (l := []) (st1 := ⟨[some (.lst (ns.map .int)), some (.int s), none, none, none], ce⟩) ?_ ?_ (fun _ _ => rfl) ?_) rfl ?_
  · have := cut_to (ns.map .int) 48
    simp [opSl] at this ⊢
    rw [this]
  · exact Nat.le_trans (List.length_take_le _ _) (by decide)
  · intro i _
    exact ⟨_, ⟨[some (.lst (ns.map .int)), some (.int s), none, none, some (.int i)], ce⟩, by simp; rfl, rfl, rfl⟩
  have hcs : ((ns.take 48).map fun i => D.int (if i < 0 then -i else i)) = cs.map .int := by simp [cs, Function.comp_def]
  rw [hcs]
  refine run_nm (d := .int (7919 + 104729 * s)) (x := .int (7919 + 104729 * s)) (st1 := ⟨[some (.lst (ns.map .int)), some (.int s), some (.lst (cs.map .int)), none, none], ce⟩) ?_ rfl ?_
  · simp [o_mul (i := 104729) (j := s) (by simp [mulOk])]
  refine run_for (ds := cs.map .int) (l := []) (st1 := ⟨[some (.lst (ns.map .int)), some (.int s), some (.lst (cs.map .int)), some (.int (7919 + 104729 * s)), none], ce⟩) (J := fun _ st => ∃ b x, st = ⟨[some (.lst (ns.map .int)), some (.int s), some (.lst (cs.map .int)), some (.int b), x], ce⟩ ∧ 0 ≤ b ∧ b < 2147483647) ?_ ⟨_, _, rfl, by omega, by omega⟩ ?_ ?_
  · simp
  · rintro i d st hd ⟨b, x, rfl, b0, b1⟩
    obtain ⟨z, hz, rfl⟩ : ∃ z, z ∈ cs ∧ .int z = d := by
      have := List.mem_of_getElem? hd
      exact List.mem_map.mp this
    refine ⟨⟨[some (.lst (ns.map .int)), some (.int s), some (.lst (cs.map .int)), some (.int b), some (.int z)], ce⟩, by simp, ?_⟩
    refine run_nm (d := .int ((b * 48271 + z % 2147483549 + 11) % 2147483647)) (x := .int ((b * 48271 + z % 2147483549 + 11) % 2147483647)) (st1 := ⟨[some (.lst (ns.map .int)), some (.int s), some (.lst (cs.map .int)), some (.int b), some (.int z)], ce⟩) ?_ rfl ?_
    · simp [o_mul (i := b) (j := 48271) (by simp [mulOk]), o_mod]
    · refine run_nil ⟨.inl rfl, (b * 48271 + z % 2147483549 + 11) % 2147483647, some (.int z), ?_, Int.emod_nonneg _ (by decide), Int.emod_lt_of_pos _ (by decide)⟩
      rw [trim_self (by simp)]; rfl
  · rintro st ⟨b, x, rfl, b0, b1⟩
    have hpow : opBin ce .pow (.int 10) (.int 18) = some (.int 1000000000000000000) := by rfl
    refine run_ret (d := deal (cs.filter fun z => decide (1000000000000000000 ≤ z)).reverse b) (st1 := ⟨[some (.lst (ns.map .int)), some (.int s), some (.lst (cs.map .int)), some (.int b), x], ce⟩) ?_ ?_
    · have hc := comp_if (k := lev T L n) (lk := lk) (l := []) (own := [4]) (i := 4) (it := .pl (.var 2)) (c := .cmp .ge (.var 4) (.bin .pow (.int 10) (.int 18))) (e := .var 4) (as := cs) (f := D.int) (g := D.int) (p := fun z => decide (1000000000000000000 ≤ z)) (st := ⟨[some (.lst (ns.map .int)), some (.int s), some (.lst (cs.map .int)), some (.int b), x], ce⟩) (st1 := ⟨[some (.lst (ns.map .int)), some (.int s), some (.lst (cs.map .int)), some (.int b), x], ce⟩) (by simp) (by exact Nat.le_trans hlen (by decide)) (fun _ _ => rfl) (fun a _ => by simp [hpow]) (fun a _ _ => ⟨.int a, ⟨[some (.lst (ns.map .int)), some (.int s), some (.lst (cs.map .int)), some (.int b), some (.int a)], ce⟩, by simp, rfl, rfl⟩)
      rw [ev_lstT, evs_cons, ev_rev, hc]
      simp [opRev, itmL, isV, deal]
      decide
    · refine ⟨_, _, rfl, _, b, rfl, ⟨?_, b0, b1, ?_⟩, by simp⟩
      · intro x hx
        exact hpos _ (List.mem_filter.mp (List.mem_reverse.mp hx)).1
      · rw [List.length_reverse]
        exact Nat.le_trans (List.length_filter_le _ _) (by omega)
end OV
/-! text PLG -/
namespace OV
open PySem (Str PyData NestedKey)
/-! ### plain data -/
def okP (d : D) : Bool := match pd d with
  | some p => p.canLay0 && decide (p.depth ≤ 60)
  | none => false
def okV (d : D) : Bool := isV d && okP d
theorem okV_V {d : D} (h : okV d = true) : isV d = true := by simp [okV] at h; exact h.1
theorem okV_P {d : D} (h : okV d = true) : okP d = true := by simp [okV] at h; exact h.2
@[simp] theorem okV_int (i : Int) : okV (.int i) = true := by simp [okV, isV, okP, pd, PyData.canLay0, PyData.depth]
@[simp] theorem okV_bl (i : Bool) : okV (.bl i) = true := by simp [okV, isV, okP, pd, PyData.canLay0, PyData.depth]
@[simp] theorem okV_non : okV .non = true := by simp [okV, isV, okP, pd, PyData.canLay0, PyData.depth]
theorem pd_plain {d : D} (h : okP d = true) : ∃ p, pd d = some p ∧ p.canLay0 = true ∧ p.depth ≤ 60 := by
  unfold okP at h
  cases e : pd d with
  | none => simp [e] at h
  | some p => simp [e] at h; exact ⟨p, rfl, h.1, h.2⟩
theorem pds_plain : ∀ {ds : List D}, (∀ d ∈ ds, okP d = true) → ∃ es, pds ds = some es ∧ es.length = ds.length ∧ PyData.canLayAll0 es = true ∧ PyData.depthAll es ≤ 60
  | [], _ => ⟨[], rfl, rfl, rfl, by decide⟩
  | d :: ds, h => by
    obtain ⟨p, e1, c1, d1⟩ := pd_plain (h d List.mem_cons_self)
    obtain ⟨es, e2, l2, c2, d2⟩ := pds_plain (ds := ds) fun x hx => h x (List.mem_cons_of_mem _ hx)
    refine ⟨p :: es, by simp only [pds, e1, e2], by simp [l2], by simp [PyData.canLayAll0, c1, c2], ?_⟩
    simp only [PyData.depthAll]
    omega
theorem shaped_list {es : List PyData} (h1 : PyData.canLayAll0 es = true) (h2 : PyData.depthAll es ≤ 60) : PySem.SeqAt.shaped (.list es) = true := by
  simp [shaped_eq, PyData.canLay0, PyData.depth, h1]; omega
theorem shaped_tup {es : List PyData} (h1 : PyData.canLayAll0 es = true) (h2 : PyData.depthAll es ≤ 60) : PySem.SeqAt.shaped (.tuple es) = true := by
  simp [shaped_eq, PyData.canLay0, PyData.depth, h1]; omega
theorem shaped_plain {p : PyData} (h1 : p.canLay0 = true) (h2 : p.depth ≤ 60) : PySem.SeqAt.shaped p = true := by
  simp [shaped_eq, h1]; omega
section
variable {ce : Ce} {d : D} {ds : List D}
/-- the list that d is -/
inductive IsL (ce : Ce) : D → List D → Prop
  | lst (ds : List D) : IsL ce (.lst ds) ds
  | new (ds : List D) : IsL ce (.new ds) ds
  | own (ds : List D) : IsL ce (.own ds) ds
  | bor (n : Option Nat) (ds : List D) : IsL ce (.bor n ds) ds
  | ref {n : Nat} {ds : List D} : ce[n]? = some (some (.own ds)) → IsL ce (.ref n) ds
theorem cell_own {n : Nat} (h : ce[n]? = some (some (.own ds))) : cellL ce n = some ds := by unfold cellL; rw [h]
theorem isL_pdc (h : IsL ce d ds) : pdc ce d = (pds ds).map .list := by
  cases h with
  | ref h => simp only [pdc, cell_own h]; cases pds ds <;> rfl
  | _ => simp only [pdc, pd]; cases pds ds <;> rfl
theorem isL_seqL (h : IsL ce d ds) : seqL ce d = some ds := by
  cases h with
  | ref h => exact cell_own h
  | _ => rfl
theorem isL_seqD (h : IsL ce d ds) : seqD ce d = some ds := by
  cases h with
  | ref h => exact cell_own h
  | _ => rfl
theorem cons_erase_perm {α : Type} : ∀ {l : List α} {i : Nat} (h : i < l.length), (l[i] :: l.eraseIdx i).Perm l
  | a :: l, 0, _ => List.Perm.refl _
  | a :: l, i + 1, h => by
    have := cons_erase_perm (l := l) (i := i) (by simpa using h)
    exact (List.Perm.swap _ _ _).trans (this.cons a)
theorem all_V (hv : ∀ d ∈ ds, isV d = true) : ds.all isV = true := List.all_eq_true.mpr hv
theorem isL_seqV (h : IsL ce d ds) (hv : ∀ d ∈ ds, isV d = true) : seqV ce d = some ds := by
  cases h with
  | ref h => simp only [seqV, seqL, cell_own h, all_V hv, if_true]
  | own => simp only [seqV, seqL, all_V hv, if_true]
  | bor => simp only [seqV, seqL, all_V hv, if_true]
  | _ => rfl
theorem isL_lsV (h : IsL ce d ds) (hv : ∀ d ∈ ds, isV d = true) : lsV ce d = some ds := by
  cases h with
  | ref h => simp only [lsV, seqL, cell_own h, all_V hv, if_true]
  | own => simp only [lsV, seqL, all_V hv, if_true]
  | bor => simp only [lsV, seqL, all_V hv, if_true]
  | _ => rfl
theorem isL_seqW {ce : Ce} {d : D} {ds : List D} (h : IsL ce d ds) (hv : ∀ d ∈ ds, isV d = true) : seqW ce d = some ds := by
  cases h with
  | ref h => exact isL_lsV (.ref h) hv
  | own => exact isL_lsV (ce := ce) (.own ds) hv
  | bor n _ => exact isL_lsV (ce := ce) (.bor n _) hv
  | _ => rfl
theorem isL_len (h : IsL ce d ds) : opB ce .len [d] = some (.int ds.length) := by
  cases h with
  | ref h => simp only [opB, seqD, seqL, cell_own h]
  | _ => rfl
theorem isL_eq_nil (h : IsL ce d ds) (hv : ∀ d ∈ ds, okP d = true) : opCmp ce .eq d (.new []) = some (decide (ds = [])) := by
  obtain ⟨es, e1, l1, c1, d1⟩ := pds_plain hv
  have e2 : pdc ce (.new []) = some (.list []) := rfl
  simp only [opCmp, eqD, isL_pdc h, e1, Option.map_some, e2]
  rw [shaped_list c1 d1, shaped_list (es := []) rfl (by decide)]
  simp only [Bool.and_self, if_true, PyData.eqv]
  cases es with
  | nil => have := List.eq_nil_of_length_eq_zero l1.symm; subst this; rfl
  | cons e es => cases ds with
    | nil => simp at l1
    | cons => rfl
theorem isL_ne_nil (h : IsL ce d ds) (hv : ∀ d ∈ ds, okP d = true) : opCmp ce .ne d (.new []) = some (!decide (ds = [])) := by
  have := isL_eq_nil h hv
  simp only [opCmp] at this ⊢
  rw [this]; rfl
end
/-! ### a list shuffled -/
def g_mixed : Df := ⟨["deal", "some"], ["deal", "some", "left", "found"], (.cons (.par true 2 true 3 (.callB .list (.cons (.var 1) .nil)) (.lst false .nil)) (.cons (.whl (.cmp .ne (.var 2) (.lst false .nil)) (.cons (.append 3 .nil (.pop 2 .nil (.call "_law_any" (.cons (.var 0) (.cons (.callB .len (.cons (.var 2) .nil)) .nil))))) .nil)) (.cons (.ret (.mv 3)) .nil))), false⟩
section
variable {k : K} {lk : List Nat} {st st1 : S} {ss : Ss} {Q : Fl → S → Prop} {e : C} {d : D}
/-- an item out of a list in a cell -/
theorem ev_pop_run {i c : Nat} {a : C} {ds0 ds : List D} {j : Nat} {x : D} (hs : st.sl[i]? = some (some (.ref c))) (hk : lk.contains c = false) (h0 : st.ce[c]? = some (some (.own ds0))) (ha : oE k (c :: lk) a st = .ok (.int (j : Int)) st1) (h1 : st1.ce[c]? = some (some (.own ds))) (hj : ds[j]? = some x) (hr : j < 4611686018427387904) :
    oE k lk (.pop i .nil a) st = .ok x ⟨st1.sl, st1.ce.set c (some (.own (ds.eraseIdx j)))⟩ := by
  have hl : j < ds.length := (List.getElem?_eq_some_iff.mp hj).1
  rw [ev_pop, root_of (sl := st.sl) (ce := st.ce) hs hk]
  simp only [oPth_nil, Res.bind_ok, atL_nil h0, ha, atL_nil h1, ixN_ofNat hl, hj, rg_nat hr, if_true]
  rw [modC_nil (f := fun ds => some (ds.eraseIdx j)) h1 rfl]
theorem ev_mv_run {i c : Nat} (hs : st.sl[i]? = some (some (.ref c))) (hk : lk.contains c = false) (h0 : st.ce[c]? = some (some d)) : oE k lk (.mv i) st = .ok d ⟨st.sl.set i none, st.ce.set c none⟩ := by
  rw [ev_mv, root_of (sl := st.sl) (ce := st.ce) hs hk]
  simp only [h0]
end
variable {T : Str → Option Df} {L : Nat → Option Lm}
theorem mixed_run (hT : T "_law_any" = some g_any) (hT' : T "_law_mixed" = some g_mixed) {c : Nat} {ce : Ce} {lk : List Nat} {ds : List D} (hd : Dl c ce) (hk : ∀ n ∈ lk, n < ce.length) (hkc : lk.contains c = false) (h1 : ds.length ≤ line) (hv : ∀ d ∈ ds, okV d = true) (n : Nat) :
    FRun ((lev T L (n + 2)).fn "_law_mixed" [.ref c, .lst ds] lk ce) fun d ce' => ∃ es, d = .own es ∧ es.Perm ds ∧ Stp c ce ce' := by
  refine fn_run hT' rfl ?_
  have hline : line ≤ 1152921504606846976 := by decide
  have hcl := hd.lt
  refine run_nx (st1 := ⟨[some (.ref c), some (.lst ds), some (.ref (ce.length + 1)), some (.ref ce.length)], ce ++ [some (.own []), some (.own ds)]⟩) ?_ ?_
  · rw [es_par]
    simp [b_list (ce := ce) (sv_lst ds) h1, setN, g_mixed]
  have hk0 : lk.contains ce.length = false := by
    cases h : lk.contains ce.length with
    | false => rfl
    | true => have := hk _ (List.contains_iff_mem.mp h); omega
  have hk1 : lk.contains (ce.length + 1) = false := by
    cases h : lk.contains (ce.length + 1) with
    | false => rfl
    | true => have := hk _ (List.contains_iff_mem.mp h); omega
  refine run_whl (J := fun j s => ∃ ce1 xs ys, s = ⟨[some (.ref c), some (.lst ds), some (.ref (ce.length + 1)), some (.ref ce.length)], ce1 ++ [some (.own xs), some (.own ys)]⟩ ∧ ys.length = j ∧ (xs ++ ys).Perm ds ∧ Stp c ce ce1) ds.length ⟨ce, [], ds, rfl, rfl, List.Perm.refl _, .refl hd⟩ ?_ ?_
  · rintro j s ⟨ce1, xs, ys, rfl, _, _, hs⟩
    simp [hs.len]
  · rintro j s ⟨ce1, xs, ys, rfl, hj, hp, hs⟩
    have l1 := hs.len
    have g0 : (ce1 ++ [some (.own xs), some (.own ys)])[ce.length]? = some (some (.own xs)) := by rw [List.getElem?_append_right (by omega)]; simp [l1]
    have g1 : (ce1 ++ [some (.own xs), some (.own ys)])[ce.length + 1]? = some (some (.own ys)) := by rw [List.getElem?_append_right (by omega)]; simp [l1]
    have hvy : ∀ d ∈ ys, okV d = true := fun d hd => hv d (hp.subset (List.mem_append_right _ hd))
    let st : S := ⟨[some (.ref c), some (.lst ds), some (.ref (ce.length + 1)), some (.ref ce.length)], ce1 ++ [some (.own xs), some (.own ys)]⟩
    refine ⟨!decide (ys = []), st, ?_, ?_⟩
    · simp [st, isL_ne_nil (.ref g1) (fun d hd => okV_P (hvy d hd))]
    · by_cases hy : ys = []
      · simp only [hy, decide_true, Bool.not_true]
        subst hy
        refine run_ret (ev_mv_run (d := .own xs) rfl hk0 (by simpa using g0)) ?_
        refine fr_own ⟨xs, rfl, by simpa using hp, ?_⟩
        simp [st, List.set_append_right _ _ (Nat.le_of_eq l1), ← l1]
        exact hs
      · simp only [hy, decide_false, Bool.not_false]
        have hl : ys.length ≤ line := by
          have := hp.length_eq; simp at this; omega
        have hpos : 0 < ys.length := List.length_pos_iff.mpr hy
        obtain ⟨_, ce2, e, v, rfl, v0, v1, hs2⟩ := any_run (lk := (ce.length + 1) :: lk) (L := L) hT ((Stp.dl hd hs).app [some (.own xs), some (.own ys)]) (by simp; exact ⟨by omega, by simpa using hkc⟩) (m := (ys.length : Int)) (by omega) (by omega) n
        obtain ⟨i, rfl⟩ := Int.eq_ofNat_of_zero_le v0
        obtain ⟨ce3, rfl, hs3⟩ := hs2.pre (by rw [l1]; exact hcl)
        have l3 := hs3.len
        have hi : i < ys.length := by omega
        have g2 : (ce3 ++ [some (.own xs), some (.own ys)])[ce.length + 1]? = some (some (.own ys)) := by rw [List.getElem?_append_right (by omega)]; simp [l1, l3]
        have sx : ∀ (a b : D), (ce3 ++ [some a, some b]).length = ce.length + 2 := fun a b => by simp [l1, l3]
        have s0 : ∀ (a b x : D), (ce3 ++ [some a, some b]).set ce.length (some x) = ce3 ++ [some x, some b] := fun a b x => by rw [List.set_append_right _ _ (by omega)]; simp [l1, l3]
        have s1 : ∀ (a b x : D), (ce3 ++ [some a, some b]).set (ce.length + 1) (some x) = ce3 ++ [some a, some x] := fun a b x => by rw [List.set_append_right _ _ (by omega)]; simp [l1, l3]
        have g3 : ∀ (a b : D), (ce3 ++ [some a, some b])[ce.length]? = some (some a) := fun a b => by rw [List.getElem?_append_right (by omega)]; simp [l1, l3]
        have hpop := ev_pop_run (k := lev T L (n + 1)) (lk := lk) (st := st) (st1 := ⟨st.sl, ce3 ++ [some (.own xs), some (.own ys)]⟩) (i := 2) (c := ce.length + 1) (a := .call "_law_any" (.cons (.var 0) (.cons (.callB .len (.cons (.var 2) .nil)) .nil))) (j := i) (x := ys[i]) rfl hk1 g1 (by simp [st, isL_len (.ref g1), e]) g2 (List.getElem?_eq_getElem hi) (by omega)
        rw [s1] at hpop
        have hxl : xs.length < line := by have := hp.length_eq; simp at this; omega
        have hyv : isV ys[i] = true := okV_V (hvy _ (List.getElem_mem hi))
        have hit : itmL ys[i] = some ys[i] := by
          revert hyv; cases ys[i] <;> intro h <;> first | rfl | cases h
        refine run_append (c := ce.length) (ds := xs) (ds0 := xs) rfl hk0 g0 hpop (g3 _ _) hit hxl ?_
        refine run_nil ⟨.inl rfl, (ys.eraseIdx i).length, ?_, ce3, xs ++ [ys[i]], ys.eraseIdx i, ?_, rfl, ?_, hs.trans hs3⟩
        · rw [List.length_eraseIdx_of_lt hi]; omega
        · rw [s0, trim_self (by simp [l1, l3])]
        · refine .trans ?_ hp
          rw [List.append_assoc]
          refine List.Perm.append_left _ ?_
          exact cons_erase_perm hi
end OV
/-! text PLH -/
namespace OV
open PySem (Str PyData NestedKey)
variable {T : Str → Option Df} {L : Nat → Option Lm}
def g_is_number : Df := ⟨["value"], ["value"], (.cons (.ret (.and (.cons (.callB (.isI .int) (.cons (.var 0) .nil)) (.cons (.not (.callB (.isI .bool) (.cons (.var 0) .nil))) (.cons (.cmp .ge (.var 0) (.int 0)) .nil))))) .nil), false⟩
def g_is_index : Df := ⟨["value", "many"], ["value", "many"], (.cons (.ret (.and (.cons (.call "is_number" (.cons (.var 0) .nil)) (.cons (.cmp .lt (.var 0) (.var 1)) .nil)))) .nil), false⟩
theorem is_number_ev (hT : T "is_number" = some g_is_number) (i : Int) (lk : List Nat) (ce : Ce) (n : Nat) : (lev T L (n + 1)).fn "is_number" [.int i] lk ce = .ok (.bl (decide (0 ≤ i))) ce := by
  rw [lev_fn hT _ _ _ _ rfl, oF]
  by_cases h : 0 ≤ i <;> simp [g_is_number, h]
theorem is_index_ev (hT : T "is_number" = some g_is_number) (hT' : T "is_index" = some g_is_index) (i m : Int) (lk : List Nat) (ce : Ce) (n : Nat) : (lev T L (n + 2)).fn "is_index" [.int i, .int m] lk ce = .ok (.bl (decide (0 ≤ i ∧ i < m))) ce := by
  rw [lev_fn hT' _ _ _ _ rfl, oF]
  by_cases h : 0 ≤ i <;> by_cases h' : i < m <;> simp [g_is_index, is_number_ev hT, h, h']
end OV
/-! text PLI -/
namespace OV
open PySem (Str PyData NestedKey)
/-! ### values laid out as things -/
structure Enc {α : Type} [DecidableEq α] (E : α → D) (n : Nat) : Prop where
  V : ∀ a, isV (E a) = true
  pdx : ∀ a, ∃ p, pd (E a) = some p ∧ p.canLay0 = true ∧ p.depth ≤ n
  eqx : ∀ a b p q, pd (E a) = some p → pd (E b) = some q → PyData.eqv p q = decide (a = b)
section
variable {α β : Type} [DecidableEq α] [DecidableEq β] {E : α → D} {F : β → D} {n m : Nat} {ce : Ce}
theorem pdc_V {d : D} (h : isV d = true) : pdc ce d = pd d := by cases d <;> first | rfl | cases h
theorem Enc.mono (h : Enc E n) (hm : n ≤ m) : Enc E m := ⟨h.V, fun a => by obtain ⟨p, h1, h2, h3⟩ := h.pdx a; exact ⟨p, h1, h2, Nat.le_trans h3 hm⟩, h.eqx⟩
theorem enc_int : Enc (fun i : Int => D.int i) 0 := ⟨fun _ => rfl, fun i => ⟨.int i, rfl, rfl, Nat.le_refl _⟩, fun a b p q hp hq => by cases hp; cases hq; exact eqv_int a b⟩
theorem enc_nat : Enc (fun i : Nat => D.int (i : Int)) 0 := ⟨fun _ => rfl, fun i => ⟨.int i, rfl, rfl, Nat.le_refl _⟩, fun a b p q hp hq => by
  cases hp; cases hq; rw [eqv_int]; simp [Int.ofNat_inj]⟩
theorem enc_bl : Enc (fun i : Bool => D.bl i) 0 := ⟨fun _ => rfl, fun i => ⟨.bool i, rfl, rfl, Nat.le_refl _⟩, fun a b p q hp hq => by
  cases hp; cases hq; cases a <;> cases b <;> rfl⟩
theorem pds_enc (h : Enc E n) : ∀ xs : List α, ∃ ps, pds (xs.map E) = some ps ∧ PyData.canLayAll0 ps = true ∧ PyData.depthAll ps ≤ n
  | [] => ⟨[], rfl, rfl, Nat.zero_le _⟩
  | x :: xs => by
    obtain ⟨p, h1, h2, h3⟩ := h.pdx x
    obtain ⟨ps, h4, h5, h6⟩ := pds_enc h xs
    exact ⟨p :: ps, by simp only [List.map_cons, pds, h1, h4], by simp [PyData.canLayAll0, h2, h5], by simp only [PyData.depthAll]; omega⟩
theorem eqvAll_enc (h : Enc E n) : ∀ (xs ys : List α) (ps qs : List PyData), pds (xs.map E) = some ps → pds (ys.map E) = some qs → PyData.eqvAll ps qs = decide (xs = ys)
  | [], [], ps, qs, h1, h2 => by cases h1; cases h2; rfl
  | [], y :: ys, ps, qs, h1, h2 => by
    cases h1
    obtain ⟨q, a1, _, _⟩ := h.pdx y
    obtain ⟨qs', b1, _, _⟩ := pds_enc h ys
    simp only [List.map_cons, pds, a1, b1] at h2; cases h2; simp [PyData.eqvAll]
  | x :: xs, [], ps, qs, h1, h2 => by
    cases h2
    obtain ⟨q, a1, _, _⟩ := h.pdx x
    obtain ⟨qs', b1, _, _⟩ := pds_enc h xs
    simp only [List.map_cons, pds, a1, b1] at h1; cases h1; simp [PyData.eqvAll]
  | x :: xs, y :: ys, ps, qs, h1, h2 => by
    obtain ⟨p, a1, _, _⟩ := h.pdx x
    obtain ⟨ps', b1, _, _⟩ := pds_enc h xs
    obtain ⟨q, c1, _, _⟩ := h.pdx y
    obtain ⟨qs', d1, _, _⟩ := pds_enc h ys
    simp only [List.map_cons, pds, a1, b1] at h1; cases h1
    simp only [List.map_cons, pds, c1, d1] at h2; cases h2
    rw [PyData.eqvAll, h.eqx x y p q a1 c1, eqvAll_enc h xs ys ps' qs' b1 d1]
    by_cases e : x = y <;> by_cases e' : xs = ys <;> simp [e, e']
theorem enc_tup (h : Enc E n) : Enc (fun xs : List α => D.tup (xs.map E)) (n + 1) := ⟨fun _ => rfl, fun xs => by
    obtain ⟨ps, h1, h2, h3⟩ := pds_enc h xs
    exact ⟨.tuple ps, by simp only [pd, h1], by simpa [PyData.canLay0] using h2, by simp only [PyData.depth]; omega⟩, fun xs ys p q hp hq => by
    obtain ⟨ps, h1, _, _⟩ := pds_enc h xs
    obtain ⟨qs, h2, _, _⟩ := pds_enc h ys
    simp only [pd, h1] at hp; cases hp
    simp only [pd, h2] at hq; cases hq
    rw [PyData.eqv]; exact eqvAll_enc h xs ys ps qs h1 h2⟩
theorem enc_lst (h : Enc E n) : Enc (fun xs : List α => D.lst (xs.map E)) (n + 1) := ⟨fun _ => rfl, fun xs => by
    obtain ⟨ps, h1, h2, h3⟩ := pds_enc h xs
    exact ⟨.list ps, by simp only [pd, h1], by simpa [PyData.canLay0] using h2, by simp only [PyData.depth]; omega⟩, fun xs ys p q hp hq => by
    obtain ⟨ps, h1, _, _⟩ := pds_enc h xs
    obtain ⟨qs, h2, _, _⟩ := pds_enc h ys
    simp only [pd, h1] at hp; cases hp
    simp only [pd, h2] at hq; cases hq
    rw [PyData.eqv]; exact eqvAll_enc h xs ys ps qs h1 h2⟩
theorem enc_pair (h : Enc E n) (h' : Enc F n) : Enc (fun x : α × β => D.tup [E x.1, F x.2]) (n + 1) := ⟨fun _ => rfl, fun x => by
    obtain ⟨p, h1, h2, h3⟩ := h.pdx x.1
    obtain ⟨q, h4, h5, h6⟩ := h'.pdx x.2
    exact ⟨.tuple [p, q], by simp only [pd, pds, h1, h4], by simp [PyData.canLay0, PyData.canLayAll0, h2, h5], by simp only [PyData.depth, PyData.depthAll]; omega⟩, fun x y p q hp hq => by
    obtain ⟨p1, h1, _, _⟩ := h.pdx x.1
    obtain ⟨p2, h2, _, _⟩ := h'.pdx x.2
    obtain ⟨q1, h3, _, _⟩ := h.pdx y.1
    obtain ⟨q2, h4, _, _⟩ := h'.pdx y.2
    simp only [pd, pds, h1, h2] at hp; cases hp
    simp only [pd, pds, h3, h4] at hq; cases hq
    rw [PyData.eqv, PyData.eqvAll, PyData.eqvAll, PyData.eqvAll, h.eqx _ _ _ _ h1 h3, h'.eqx _ _ _ _ h2 h4]
    obtain ⟨x1, x2⟩ := x
    obtain ⟨y1, y2⟩ := y
    by_cases e : x1 = y1 <;> by_cases e' : x2 = y2 <;> simp [e, e']⟩
/-- perhaps nothing -/
def optD (E : α → D) : Option α → D
  | none => .non
  | some a => E a
theorem enc_opt (h : Enc E n) (hn : ∀ a, pd (E a) ≠ some .none) : Enc (optD E) n := ⟨fun a => by cases a; rfl; exact h.V _, fun a => by
    cases a with
    | none => exact ⟨.none, rfl, rfl, Nat.zero_le _⟩
    | some a => exact h.pdx a, fun a b p q hp hq => by
    cases a with
    | none => cases b with
      | none => cases hp; cases hq; rfl
      | some b =>
        cases hp
        have : q ≠ .none := fun e => hn b (by rw [← e]; exact hq)
        cases q <;> first | rfl | exact absurd rfl this
    | some a => cases b with
      | none =>
        cases hq
        have : p ≠ .none := fun e => hn a (by rw [← e]; exact hp)
        cases p <;> first | rfl | exact absurd rfl this
      | some b => rw [h.eqx a b p q hp hq]; by_cases e : a = b <;> simp [e]⟩
theorem enc_onat : Enc (optD fun i : Nat => D.int (i : Int)) 0 := enc_opt enc_nat fun a e => by cases e
theorem enc_oint : Enc (optD fun i : Int => D.int i) 0 := enc_opt enc_int fun a e => by cases e
theorem Enc.okV (h : Enc E n) (hn : n ≤ 60) (a : α) : okV (E a) = true := by
  obtain ⟨p, h1, h2, h3⟩ := h.pdx a
  simp [OV.okV, h.V a, okP, h1, h2]; omega
theorem enc_eq (h : Enc E n) (hn : n ≤ 60) (a b : α) : opCmp ce .eq (E a) (E b) = some (decide (a = b)) := by
  obtain ⟨p, h1, h2, h3⟩ := h.pdx a
  obtain ⟨q, h4, h5, h6⟩ := h.pdx b
  simp only [opCmp, eqD, pdc_V (h.V a), pdc_V (h.V b), h1, h4]
  rw [shaped_plain h2 (by omega), shaped_plain h5 (by omega)]
  simp only [Bool.and_self, if_true, h.eqx a b p q h1 h4]
theorem enc_ne (h : Enc E n) (hn : n ≤ 60) (a b : α) : opCmp ce .ne (E a) (E b) = some (!decide (a = b)) := by
  have := enc_eq (ce := ce) h hn a b
  simp only [opCmp] at this ⊢
  rw [this]; rfl
/-- lists that are compared, wherever they lie -/
theorem isL_eq (h : Enc E n) (hn : n ≤ 59) {d d' : D} {xs ys : List α} (hd : IsL ce d (xs.map E)) (hd' : IsL ce d' (ys.map E)) : opCmp ce .eq d d' = some (decide (xs = ys)) := by
  obtain ⟨ps, h1, h2, h3⟩ := pds_enc h xs
  obtain ⟨qs, h4, h5, h6⟩ := pds_enc h ys
  simp only [opCmp, eqD, isL_pdc hd, isL_pdc hd', h1, h4, Option.map_some]
  rw [shaped_list h2 (by omega), shaped_list h5 (by omega)]
  simp only [Bool.and_self, if_true, PyData.eqv, eqvAll_enc h xs ys ps qs h1 h4]
theorem isL_ne (h : Enc E n) (hn : n ≤ 59) {d d' : D} {xs ys : List α} (hd : IsL ce d (xs.map E)) (hd' : IsL ce d' (ys.map E)) : opCmp ce .ne d d' = some (!decide (xs = ys)) := by
  have := isL_eq h hn hd hd'
  simp only [opCmp] at this ⊢
  rw [this]; rfl
theorem inDs_enc (h : Enc E n) (a : α) {p : PyData} (hp : pd (E a) = some p) : ∀ (xs : List α) (ps : List PyData), pds (xs.map E) = some ps → inDs p ps = decide (a ∈ xs)
  | [], ps, h1 => by cases h1; simp [inDs]
  | x :: xs, ps, h1 => by
    obtain ⟨q, a1, _, _⟩ := h.pdx x
    obtain ⟨qs, b1, _, _⟩ := pds_enc h xs
    simp only [List.map_cons, pds, a1, b1] at h1; cases h1
    have ih := inDs_enc h a hp xs qs b1
    unfold inDs at ih ⊢
    rw [List.any_cons, ih, h.eqx x a q p a1 hp]
    by_cases e : x = a
    · simp [e]
    · have e' : ¬ a = x := fun h => e h.symm
      simp [e, e']
theorem all_shaped {ps : List PyData} (h1 : PyData.canLayAll0 ps = true) (h2 : PyData.depthAll ps ≤ 60) : ps.all PySem.SeqAt.shaped = true := by
  induction ps with
  | nil => rfl
  | cons p ps ih =>
    simp [PyData.canLayAll0] at h1
    simp only [PyData.depthAll] at h2
    rw [List.all_cons, shaped_plain h1.1 (by omega), ih h1.2 (by omega)]; rfl
theorem enc_in (h : Enc E n) (hn : n ≤ 60) (a : α) {d : D} {xs : List α} (hd : seqD ce d = some (xs.map E)) : opCmp ce .inn (E a) d = some (decide (a ∈ xs)) := by
  obtain ⟨p, h1, h2, h3⟩ := h.pdx a
  obtain ⟨ps, h4, h5, h6⟩ := pds_enc h xs
  simp only [opCmp, inD, pdc_V (h.V a), h1, hd, h4]
  rw [shaped_plain h2 (by omega), all_shaped h5 (by omega)]
  simp only [Bool.and_self, if_true, inDs_enc h a h1 xs ps h4]
theorem enc_nin (h : Enc E n) (hn : n ≤ 60) (a : α) {d : D} {xs : List α} (hd : seqD ce d = some (xs.map E)) : opCmp ce .nin (E a) d = some (!decide (a ∈ xs)) := by
  have := enc_in (ce := ce) h hn a hd
  simp only [opCmp] at this ⊢
  rw [this]; rfl
end
/-! ### repr -/
mutual
/-- numbers, bools and None -/
def leafOk : PyData → Bool
  | .none | .bool _ => true
  | .int i => decide (i.natAbs < 10 ^ 12)
  | .str _ | .dict _ => false
  | .list xs | .tuple xs => leafOks xs
def leafOks : List PyData → Bool
  | [] => true
  | x :: xs => leafOk x && leafOks xs
end
def okS (x : Str) : Prop := ∀ c ∈ x.cps.toList, c < 0x110000
theorem okS_of (s : String) : okS (Str.ofString s) := by
  intro c hc
  rw [Str.ofString_eq_toList] at hc
  simp only [List.mem_map] at hc
  obtain ⟨ch, _, rfl⟩ := hc
  have := ch.valid
  have h2 : ch.toNat = ch.val.toNat := rfl
  rcases this with h | ⟨_, h⟩ <;> omega
theorem okS_app {a b : Str} (ha : okS a) (hb : okS b) : okS (a ++ b) := by
  intro c hc
  have e : (a ++ b).cps.toList = a.cps.toList ++ b.cps.toList := by
    show (a.cps ++ b.cps).toList = _
    simp
  rw [e] at hc
  rcases List.mem_append.mp hc with h | h
  · exact ha c h
  · exact hb c h
theorem okS_join {sep : Str} (hs : okS sep) : ∀ ts : List Str, (∀ t ∈ ts, okS t) → okS (Str.join sep ts)
  | [], _ => by intro c hc; cases hc
  | [x], h => h x List.mem_cons_self
  | x :: y :: r, h => okS_app (okS_app (h x List.mem_cons_self) hs) (okS_join hs (y :: r) fun t ht => h t (List.mem_cons_of_mem _ ht))
theorem okS_from : ∀ (ts : List Str) (k : Nat) (acc : Str), okS acc → (∀ t ∈ ts, okS t) → okS (PySem.textFrom k acc ts)
  | [], _, acc, h, _ => h
  | t :: ts, k, acc, h, ht => okS_from ts (k + 1) _ (okS_app (okS_app h (okS_of _)) (ht t List.mem_cons_self)) fun x hx => ht x (List.mem_cons_of_mem _ hx)
mutual
theorem okS_shown : ∀ p : PyData, leafOk p = true → okS p.shown
  | .none, _ => okS_of _
  | .bool b, _ => by cases b <;> exact okS_of _
  | .int i, _ => okS_of _
  | .str _, h => by simp [leafOk] at h
  | .dict _, h => by simp [leafOk] at h
  | .list xs, h => by
    rw [leafOk] at h
    exact okS_app (okS_from _ _ _ (okS_of _) (okS_showns xs h)) (okS_of _)
  | .tuple xs, h => by
    rw [leafOk] at h
    exact okS_app (okS_app (okS_of _) (okS_join (okS_of _) _ (okS_showns xs h))) (okS_of _)
theorem okS_showns : ∀ ps : List PyData, leafOks ps = true → ∀ t ∈ PyData.shownAll ps, okS t
  | [], _, t, ht => by simp [PyData.shownAll] at ht
  | p :: ps, h, t, ht => by
    simp [leafOks] at h
    simp only [PyData.shownAll, List.mem_cons] at ht
    rcases ht with rfl | ht
    · exact okS_shown p h.1
    · exact okS_showns ps h.2 t ht
end
theorem strOk_shown {p : PyData} (h : leafOk p = true) : PyData.strOk p.shown = true := by
  unfold PyData.strOk
  rw [Array.all_eq_true_iff_forall_mem]
  intro c hc
  have := okS_shown p h c (Array.mem_toList_iff.mpr hc)
  simpa using this
mutual
theorem leaf_show : ∀ p : PyData, leafOk p = true → p.showable = true ∧ p.leavesShort 13 = true
  | .none, _ => ⟨rfl, rfl⟩
  | .bool _, _ => ⟨rfl, rfl⟩
  | .int i, h => by
    simp only [leafOk, decide_eq_true_eq] at h
    refine ⟨?_, ?_⟩
    · simp only [PyData.showable, decide_eq_true_eq]
      by_cases hz : i.natAbs = 0
      · rw [hz]; decide
      · have : i.natAbs < 2 ^ 40 := Nat.lt_of_lt_of_le h (by decide)
        have := (Nat.log2_lt hz).mpr this
        omega
    · simp only [PyData.leavesShort, decide_eq_true_eq]
      exact PyData.shown_int_le h
  | .str _, h => by simp [leafOk] at h
  | .dict _, h => by simp [leafOk] at h
  | .list xs, h => by
    rw [leafOk] at h
    simpa only [PyData.showable, PyData.leavesShort] using leaf_shows xs h
  | .tuple xs, h => by
    rw [leafOk] at h
    simpa only [PyData.showable, PyData.leavesShort] using leaf_shows xs h
theorem leaf_shows : ∀ ps : List PyData, leafOks ps = true → PyData.showableAll ps = true ∧ PyData.leavesShortAll 13 ps = true
  | [], _ => ⟨rfl, rfl⟩
  | p :: ps, h => by
    simp [leafOks] at h
    obtain ⟨a, b⟩ := leaf_show p h.1
    obtain ⟨c, d⟩ := leaf_shows ps h.2
    simp [PyData.showableAll, PyData.leavesShortAll, a, b, c, d]
end
section
variable {ce : Ce}
theorem repr_ev {d : D} {p : PyData} (h : pdc ce d = some p) (hl : leafOk p = true) (hd : p.depth ≤ 60) (hw : p.weight ≤ 2 ^ 20) : opB ce .repr [d] = some (.str p.shown) := by
  obtain ⟨a, b⟩ := leaf_show p hl
  have c : p.shown.length ≤ line := PyData.shown_fits (by decide) (by decide) b hw
  simp only [opB, h, a, hd, c, decide_true, Bool.and_self, if_true]
theorem shaped_shown {p : PyData} (h : leafOk p = true) : PySem.SeqAt.shaped (.str p.shown) = true := by
  simp [shaped_eq, PyData.canLay0, PyData.depth, strOk_shown h]
theorem repr_eq {p : PyData} (h : leafOk p = true) : opCmp ce .eq (.str p.shown) (.str p.shown) = some true := by
  simp only [opCmp, eqD, pdc, pd, shaped_shown h, Bool.and_self, if_true, PyData.eqv, BEq.rfl]
theorem repr_ne {p : PyData} (h : leafOk p = true) : opCmp ce .ne (.str p.shown) (.str p.shown) = some false := by
  have := repr_eq (ce := ce) h
  simp only [opCmp] at this ⊢
  rw [this]; rfl
end
end OV
/-! text PLJ -/
namespace OV
open PySem (Str PyData NestedKey)
/-! ### dicts -/
section
variable {k : K} {lk l : List Nat} {st st1 : S} {α : Type}
theorem hasK_map {as : List α} {kf vf : α → D} {q : α → NestedKey} (hq : ∀ a ∈ as, keyN (kf a) = some (q a)) {x : NestedKey} (hx : x ∉ as.map q) : hasK (as.map fun a => (kf a, vf a)) x = false := by
  unfold hasK
  rw [List.any_eq_false]
  intro p hp
  obtain ⟨a, ha, rfl⟩ := List.mem_map.mp hp
  simp only [hq a ha, decide_eq_true_eq, Option.some.injEq]
  exact fun e => hx (List.mem_map.mpr ⟨a, ha, e⟩)
theorem findK_map {as : List α} {kf vf : α → D} {q : α → NestedKey} (hq : ∀ a ∈ as, keyN (kf a) = some (q a)) (hn : (as.map q).Nodup) {a : α} (ha : a ∈ as) : findK (as.map fun a => (kf a, vf a)) (q a) = some (vf a) := by
  induction as with
  | nil => simp at ha
  | cons b as ih =>
    rw [List.map_cons, List.nodup_cons] at hn
    rw [List.map_cons, findK, hq b List.mem_cons_self]
    rcases List.mem_cons.mp ha with rfl | h
    · rw [if_pos rfl]
    · have hne : ¬ some (q b) = some (q a) := fun e => by
        have e := Option.some.inj e
        exact hn.1 (e ▸ List.mem_map.mpr ⟨a, h, rfl⟩)
      rw [if_neg hne]
      exact ih (fun c hc => hq c (List.mem_cons_of_mem _ hc)) hn.2 h
theorem dcomp_gen {tk : Bool} {own : List Nat} {t : T} {it : I} {ifs : Cs} {ka va : C} {as : List α} {p : α → Bool} {f kf vf : α → D} {q : α → NestedKey} (hi : oI k lk it st = .ok (as.map f, l) st1) (hb : as.length < PySem.sizeLine)
    (ht : ∀ a ∈ as, ∃ σ, oTg k (l ++ lk) t (f a) ⟨wipe st1.sl own, st1.ce⟩ = .ok () σ ∧ σ.ce = st1.ce ∧ oAnd k (l ++ lk) ifs σ = .ok (p a) σ ∧ (p a = true → ∃ x s3 y s4, oE k (l ++ lk) ka σ = .ok x s3 ∧ itm x = some (kf a) ∧ oE k (l ++ lk) va s3 = .ok y s4 ∧ itm y = some (vf a) ∧ s4.ce = st1.ce))
    (hk : ∀ a ∈ as, p a = true → keyB tk (kf a) = some (q a) ∧ keyN (kf a) = some (q a)) (hn : ((as.filter p).map q).Nodup) :
    oE k lk (.dcomp tk own t it ifs ka va) st = .ok (.dic ((as.filter p).map fun a => (kf a, vf a))) st1 := by
  have key : ∀ (bs cs : List α) (s : S), as = cs ++ bs → s.ce = st1.ce → ∃ s', fol (turnM k tk (l ++ lk) t ifs ka va (wipe st1.sl own)) (bs.map f) ((cs.filter p).map fun a => (kf a, vf a)) s = .ok ((as.filter p).map fun a => (kf a, vf a)) s' ∧ s'.ce = st1.ce := by
    intro bs
    induction bs with
    | nil =>
      intro cs s e hs
      rw [List.append_nil] at e
      subst e
      exact ⟨s, rfl, hs⟩
    | cons b bs ih =>
      intro cs s e hs
      have hbm : b ∈ as := by rw [e]; simp
      obtain ⟨σ, h1, h2, h3, h4⟩ := ht b hbm
      rw [List.map_cons, fol]
      have e' : as = (cs ++ [b]) ++ bs := by rw [e]; simp
      cases hp : p b with
      | false =>
        have : turnM k tk (l ++ lk) t ifs ka va (wipe st1.sl own) (f b) ((cs.filter p).map fun a => (kf a, vf a)) s = .ok ((cs.filter p).map fun a => (kf a, vf a)) σ := by
          unfold turnM
          rw [hs, h1, Res.bind_ok, h3, Res.bind_ok, hp]
        rw [this, Res.bind_ok]
        obtain ⟨s', h5, h6⟩ := ih (cs ++ [b]) σ e' h2
        rw [List.filter_append, List.filter_cons_of_neg (by simp [hp]), List.filter_nil, List.append_nil] at h5
        exact ⟨s', h5, h6⟩
      | true =>
        obtain ⟨x, s3, y, s4, a1, a2, a3, a4, a5⟩ := h4 hp
        obtain ⟨k1, k2⟩ := hk b hbm hp
        have hf : (cs ++ [b]).filter p = cs.filter p ++ [b] := by rw [List.filter_append, List.filter_cons_of_pos hp, List.filter_nil]
        have hnot : q b ∉ (cs.filter p).map q := by
          rw [e', List.filter_append, hf, List.map_append, List.map_append, List.nodup_append, List.nodup_append] at hn
          exact fun hm => hn.1.2.2 (q b) hm (q b) (by simp) rfl
        have hput : putD tk ((cs.filter p).map fun a => (kf a, vf a)) (kf b) (vf b) = some (((cs ++ [b]).filter p).map fun a => (kf a, vf a)) := by
          have hle : (cs.filter p).length < PySem.sizeLine := by
            have := List.length_filter_le p cs
            have h2 := congrArg List.length e
            rw [List.length_append] at h2
            omega
          rw [putD, k1]
          simp only
          rw [hasK_map (q := q) (fun a ha => by
            obtain ⟨h1, h2⟩ := List.mem_filter.mp ha
            exact (hk a (by rw [e]; exact List.mem_append_left _ h1) h2).2) hnot]
          simp only [Bool.false_eq_true, if_false, List.length_map]
          rw [if_pos hle, hf, List.map_append]; rfl
        have : turnM k tk (l ++ lk) t ifs ka va (wipe st1.sl own) (f b) ((cs.filter p).map fun a => (kf a, vf a)) s = .ok (((cs ++ [b]).filter p).map fun a => (kf a, vf a)) s4 := by
          unfold turnM
          rw [hs, h1, Res.bind_ok, h3, Res.bind_ok, hp]
          simp only
          rw [a1, Res.bind_ok, a2]
          simp only
          rw [a3, Res.bind_ok, a4]
          simp only
          rw [hput]; rfl
        rw [this, Res.bind_ok]
        exact ih (cs ++ [b]) s4 e' a5
  obtain ⟨s', e, hc⟩ := key as [] ⟨wipe st1.sl own, st1.ce⟩ rfl rfl
  rw [ev_dcomp, hi, Res.bind_ok]
  simp only [List.filter_nil, List.map_nil] at e
  rw [e, Res.bind_ok, hc]
end
end OV
/-! text PLK -/
namespace OV
open PySem (Str PyData NestedKey)
section
variable {k : K} {lk l : List Nat} {st st1 : S} {α : Type}
/-- one name, items that stay alive -/
theorem comp_live {own : List Nat} {i : Nat} {it : I} {e : C} {as : List α} {f g : α → D} (hi : oI k lk it st = .ok (as.map f, l) st1) (hb : as.length ≤ line) (ha : ∀ a ∈ as, arg (f a) = some (f a))
    (he : ∀ a ∈ as, ∃ x s', oE k (l ++ lk) e ⟨(wipe st1.sl own).set i (some (f a)), st1.ce⟩ = .ok x s' ∧ s'.ce = st1.ce ∧ itmL x = some (g a)) :
    oE k lk (.comp own (.nm false i) it .nil (.el true e)) st = .ok (.own (as.map g)) st1 := by
  have := comp_gen (own := own) (t := .nm false i) (ifs := .nil) (gs := .el true e) (h := fun a => [g a]) hi (by rw [← List.map_eq_flatMap, List.length_map]; exact hb) fun a haa acc s hs hl => by
    obtain ⟨x, s', e1, c1, i1⟩ := he a haa
    refine ⟨s', turn_yes (σ := ⟨(wipe st1.sl own).set i (some (f a)), st1.ce⟩) (by rw [hs, evt_nm, setN_false, ha a haa]) eva_nil ?_, c1⟩
    rw [evg_elT, e1, Res.bind_ok]
    simp only [i1]
    rw [if_pos (by rw [List.length_append] at hl; simp at hl; omega)]
  rw [this, ← List.map_eq_flatMap]; rfl
/-- an item of a list in a cell's list set -/
theorem tg_ix1 {r c j i : Nat} {pc ic : C} {ds es : List D} {d x : D} (hs : st.sl[r]? = some (some (.ref c))) (hk : lk.contains c = false) (hp : oE k (c :: lk) pc st = .ok (.int (j : Int)) st) (hi : oE k (c :: lk) ic st = .ok (.int (i : Int)) st) (hc : st.ce[c]? = some (some (.own ds))) (hj : ds[j]? = some (.own es)) (hl : i < es.length) (hx : itmL d = some x) :
    oTg k lk (.ix r (.cons pc .nil) ic) d st = .ok () ⟨st.sl, st.ce.set c (some (.own (ds.set j (.own (es.set i x)))))⟩ := by
  rw [oTg, root_of (sl := st.sl) (ce := st.ce) hs hk]
  have hp' : oPth k (c :: lk) c (.cons pc .nil) st = .ok [(j : Int)] st := by
    rw [oPth, oPth_nil]
    simp only [Res.bind_ok, hp, List.nil_append]
    rw [atL_nil hc, atL_one hc hj]
  simp only [hp', Res.bind_ok, atL_one hc hj, hi, hx]
  rw [modC_one (f := putI (i : Int) x) hc hj (by rw [putI, ixN_ofNat hl])]
theorem map_range_set {β : Type} (m j : Nat) (f : Nat → β) (x : β) : ((List.range m).map f).set j x = (List.range m).map fun u => if u = j then x else f u := by
  apply List.ext_getElem
  · simp
  · intro i h1 h2
    rw [List.getElem_set]
    simp only [List.getElem_map, List.getElem_range]
    by_cases h : j = i
    · subst h; simp
    · rw [if_neg h, if_neg (fun e => h e.symm)]
theorem itmL_V {d : D} (h : isV d = true) : itmL d = some d := by cases d <;> first | rfl | cases h
theorem fzDs_V : ∀ {ds : List D}, (∀ d ∈ ds, isV d = true) → fzDs ds = some ds
  | [], _ => rfl
  | d :: ds, h => by
    simp only [fzDs, fz_V (h d List.mem_cons_self), fzDs_V fun x hx => h x (List.mem_cons_of_mem _ hx)]
theorem fzDs_owns {α : Type} {f : α → List D} : ∀ (as : List α), (∀ a ∈ as, ∀ d ∈ f a, isV d = true) → fzDs (as.map fun a => .own (f a)) = some (as.map fun a => .lst (f a))
  | [], _ => rfl
  | a :: as, h => by
    simp only [List.map_cons, fzDs, fzD, fzDs_V (h a List.mem_cons_self), fzDs_owns as fun x hx => h x (List.mem_cons_of_mem _ hx)]
end
end OV
/-! text PLL -/
namespace OV
open PySem (Str PyData NestedKey)
section
variable {k : K} {lk l : List Nat} {st st1 : S}
/-- a comprehension whose turns change cells -/
theorem comp_eff {own : List Nat} {t : T} {it : I} {ifs : Cs} {e : C} {as : List D} {Inv : Ce → Prop} {P : D → Prop} (hi : oI k lk it st = .ok (as, l) st1) (h0 : Inv st1.ce) (hb : as.length ≤ line)
    (turn : ∀ a ∈ as, ∀ ce, Inv ce → ∃ σ b s2, oTg k (l ++ lk) t a ⟨wipe st1.sl own, ce⟩ = .ok () σ ∧ oAnd k (l ++ lk) ifs σ = .ok b s2 ∧ (b = false → Inv s2.ce) ∧ (b = true → ∃ x s3 y, oE k (l ++ lk) e s2 = .ok x s3 ∧ itm x = some y ∧ P y ∧ Inv s3.ce)) :
    ∃ ys ce', oE k lk (.comp own t it ifs (.el false e)) st = .ok (.new ys) ⟨st1.sl, ce'⟩ ∧ Inv ce' ∧ ys.length ≤ as.length ∧ ∀ y ∈ ys, P y := by
  have key : ∀ (bs : List D) (acc : List D) (s : S), (∀ b ∈ bs, b ∈ as) → acc.length + bs.length ≤ line → Inv s.ce → (∀ y ∈ acc, P y) → ∃ ys s', fol (turnC k (l ++ lk) t ifs (.el false e) (wipe st1.sl own)) bs acc s = .ok ys s' ∧ Inv s'.ce ∧ ys.length ≤ acc.length + bs.length ∧ ∀ y ∈ ys, P y := by
    intro bs
    induction bs with
    | nil => exact fun acc s _ _ hI hP => ⟨acc, s, rfl, hI, Nat.le_refl _, hP⟩
    | cons b bs ih =>
      intro acc s hm hl hI hP
      rw [List.length_cons] at hl
      obtain ⟨σ, c, s2, e1, e2, e3, e4⟩ := turn b (hm b List.mem_cons_self) s.ce hI
      cases c with
      | false =>
        obtain ⟨ys, s', h1, h2, h3, h4⟩ := ih acc s2 (fun x hx => hm x (List.mem_cons_of_mem _ hx)) (by omega) (e3 rfl) hP
        refine ⟨ys, s', ?_, h2, by rw [List.length_cons]; omega, h4⟩
        rw [fol]
        have : turnC k (l ++ lk) t ifs (.el false e) (wipe st1.sl own) b acc s = .ok acc s2 := by
          unfold turnC; rw [e1, Res.bind_ok, e2, Res.bind_ok]
        rw [this, Res.bind_ok]; exact h1
      | true =>
        obtain ⟨x, s3, y, a1, a2, a3, a4⟩ := e4 rfl
        obtain ⟨ys, s', h1, h2, h3, h4⟩ := ih (acc ++ [y]) s3 (fun x hx => hm x (List.mem_cons_of_mem _ hx)) (by rw [List.length_append, List.length_singleton]; omega) a4 (fun z hz => by
          rcases List.mem_append.mp hz with hz | hz
          · exact hP z hz
          · rw [List.mem_singleton.mp hz]; exact a3)
        refine ⟨ys, s', ?_, h2, by rw [List.length_append, List.length_singleton] at h3; rw [List.length_cons]; omega, h4⟩
        rw [fol]
        have : turnC k (l ++ lk) t ifs (.el false e) (wipe st1.sl own) b acc s = .ok (acc ++ [y]) s3 := by
          unfold turnC; rw [e1, Res.bind_ok, e2, Res.bind_ok]
          simp only
          rw [evg_elF, a1, Res.bind_ok]
          simp only [a2]
          rw [if_pos (by omega)]
        rw [this, Res.bind_ok]; exact h1
  obtain ⟨ys, s', h1, h2, h3, h4⟩ := key as [] ⟨wipe st1.sl own, st1.ce⟩ (fun _ h => h) (by simpa using hb) h0 (by simp)
  refine ⟨ys, s'.ce, ?_, h2, by simpa using h3, h4⟩
  rw [ev_comp, hi, Res.bind_ok]
  simp only
  rw [h1, Res.bind_ok]; rfl
end
end OV
/-! text W94A -/
namespace OV
open PySem (Str PyData NestedKey)
noncomputable abbrev ka (n : Nat) : K := lev tab mach.L n
abbrev iD (n : Nat) : D := .int (n : Int)
def nD (xs : List Nat) : List D := xs.map iD
@[simp] theorem nD_length (xs : List Nat) : (nD xs).length = xs.length := by simp [nD]
@[simp] theorem nD_get (xs : List Nat) (i : Nat) : (nD xs)[i]? = xs[i]?.map iD := by simp [nD]
@[simp] theorem nD_get' (xs : List Nat) (i : Nat) (h : i < (nD xs).length) : (nD xs)[i] = iD (xs[i]'(by simpa using h)) := by simp [nD]
theorem rngD_eq (n : Nat) : rngD n = (List.range n).map iD := rfl
def rowD (R : Nat → Nat → Nat) (n u : Nat) : List D := (List.range n).map fun v => if u = v then .non else iD (R u v)
def rowsD (R : Nat → Nat → Nat) (n : Nat) : D := .tup ((List.range n).map fun u => .tup (rowD R n u))
def bD (b : Nat × List Nat) : D := .tup [iD b.1, .tup (nD b.2)]
def noteN (b : Nat × List Nat) (o : Nat) : Nat := (b.2[if o < b.1 then o else o - 1]?).getD 0
theorem nat_le_line {n : Nat} (h : n ≤ 1000) : n ≤ line := Nat.le_trans h (by decide)
theorem note_at_ev (xs : List Nat) (p o : Nat) (h : (if o < p then o else o - 1) < xs.length) (hp : p ≠ o) (lk : List Nat) (ce : Ce) (n : Nat) : (ka (n + 1)).fn "note_at" [.tup (nD xs), iD p, iD o] lk ce = .ok (iD (noteN (p, xs) o)) ce := by
  rw [ka, lev_fn t_note_at _ _ _ _ rfl, oF]
  by_cases ho : o < p
  · rw [if_pos ho] at h
    simp [d_note_at, c_note_at, n_note_at, ho, noteN, h]
  · rw [if_neg ho] at h
    have e : (o : Int) - 1 = ((o - 1 : Nat) : Int) := by omega
    simp [d_note_at, c_note_at, n_note_at, ho, noteN, h, e]
def firstN (R : Nat → Nat → Nat) (n u : Nat) : List Nat := ((List.range n).filter fun v => decide (v ≠ u)).map fun v => if v > u then R u v else 0
theorem firstN_le (R : Nat → Nat → Nat) (m u : Nat) : (firstN R m u).length ≤ m := by
  rw [firstN, List.length_map]
  exact Nat.le_trans (List.length_filter_le _ _) (by simp)
section
variable {R : Nat → Nat → Nat} {n u v : Nat} {ce : Ce}
theorem rowsD_get (h : u < n) : opIdx ce (rowsD R n) (iD u) = some (.tup (rowD R n u)) := by simp [rowsD, h]
theorem rowsD_len : opB ce .len [rowsD R n] = some (iD n) := by simp [rowsD]
theorem row_get (h : v < n) (hn : u ≠ v) : opIdx ce (.tup (rowD R n u)) (iD v) = some (iD (R u v)) := by simp [rowD, h, hn]
theorem row_get_same (h : u < n) : opIdx ce (.tup (rowD R n u)) (iD u) = some .non := by simp [rowD, h]
theorem rowsD_V : arg (rowsD R n) = some (rowsD R n) := rfl
@[simp] theorem lkO_rowsD : lkO (rowsD R n) = [] := rfl
@[simp] theorem arg_rowsD : arg (rowsD R n) = some (rowsD R n) := rfl
@[simp] theorem fz_rowsD : fzD (rowsD R n) = some (rowsD R n) := rfl
@[simp] theorem lkO_bD (b : Nat × List Nat) : lkO (bD b) = [] := rfl
@[simp] theorem arg_bD (b : Nat × List Nat) : arg (bD b) = some (bD b) := rfl
@[simp] theorem fz_bD (b : Nat × List Nat) : fzD (bD b) = some (bD b) := rfl
@[simp] theorem endF_bD (b : Nat × List Nat) (n : Nat) (st : S) : endF n (.ok (.rt (bD b)) st) = .ok (bD b) (st.ce.take n) := rfl
end
theorem first_bearer_ev (R : Nat → Nat → Nat) (m u : Nat) (hu : u < m) (hm : m ≤ 1000) (lk : List Nat) (ce : Ce) (n : Nat) : (ka (n + 1)).fn "first_bearer" [rowsD R m, iD u] lk ce = .ok (bD (u, firstN R m u)) ce := by
  rw [ka, lev_fn t_first_bearer _ _ _ _ rfl, oF]
  have hc := comp_if (k := lev tab mach.L n) (lk := lk) (l := []) (own := [2]) (i := 2) (it := .pl (.callB .range1 (.cons (.callB .len (.cons (.var 0) .nil)) .nil))) (c := .cmp .ne (.var 2) (.var 1)) (e := .ite (.cmp .gt (.var 2) (.var 1)) (.idx (.idx (.var 0) (.var 1)) (.var 2)) (.int 0)) (as := List.range m) (f := iD) (g := fun v => iD (if v > u then R u v else 0)) (p := fun v => decide (v ≠ u)) (st := ⟨[some (rowsD R m), some (iD u), none], ce⟩) (st1 := ⟨[some (rowsD R m), some (iD u), none], ce⟩) (by simp [rowsD_len, b_range (n := m) (by omega), rngD_eq]) (by simpa using nat_le_line hm) (fun _ _ => rfl) (fun a ha => by simp; omega) (fun a ha hp => by
    refine ⟨iD (if a > u then R u a else 0), ⟨[some (rowsD R m), some (iD u), some (iD a)], ce⟩, ?_, rfl, rfl⟩
    by_cases h : u < a
    · have hau : a < m := by simpa using ha
      simp [h, rowsD_get hu, row_get hau (u := u) (by omega)]
    · simp [h])
  have hx : (((List.range m).filter fun v => decide (v ≠ u)).map fun v => iD (if v > u then R u v else 0)) = nD (firstN R m u) := by simp [nD, firstN, Function.comp_def]
  rw [hx] at hc
  have hb := b_tuple (ce := ce) (sv_new (nD (firstN R m u))) (by rw [nD_length]; exact Nat.le_trans (firstN_le R m u) (nat_le_line hm))
  simp only [d_first_bearer, c_first_bearer, n_first_bearer]
  simp [hc, hb, show 2 ≤ line from by decide, bD]
end OV
/-! text W94B -/
namespace OV
open PySem (Str PyData NestedKey)
def allN (k : Nat) : Nat → List (List Nat)
  | 0 => [[]]
  | j + 1 => (allN k j).flatMap fun ns => (List.range k).map fun x => ns ++ [x]
theorem allN_len (k : Nat) : ∀ j, (allN k j).length = k ^ j
  | 0 => rfl
  | j + 1 => by
    rw [allN, List.length_flatMap]
    simp only [List.length_map, List.length_range]
    rw [List.map_const', List.sum_replicate_nat, allN_len k j, Nat.pow_succ]
theorem allN_mem {k : Nat} : ∀ {j : Nat} {a : List Nat}, a ∈ allN k j ↔ a.length = j ∧ ∀ x ∈ a, x < k
  | 0, a => by
    simp only [allN, List.mem_singleton, List.length_eq_zero_iff]
    constructor
    · rintro rfl; simp
    · exact fun h => h.1
  | j + 1, a => by
    simp only [allN, List.mem_flatMap, List.mem_map, List.mem_range]
    constructor
    · rintro ⟨b, hb, x, hx, rfl⟩
      obtain ⟨h1, h2⟩ := allN_mem.mp hb
      refine ⟨by simp [h1], fun y hy => ?_⟩
      rcases List.mem_append.mp hy with h | h
      · exact h2 y h
      · rw [List.mem_singleton.mp h]; exact hx
    · rintro ⟨h1, h2⟩
      rcases List.eq_nil_or_concat a with rfl | ⟨b, x, rfl⟩
      · simp at h1
      · exact ⟨b, allN_mem.mpr ⟨by simpa using h1, fun y hy => h2 y (by simp [hy])⟩, x, h2 x (by simp), by simp⟩
def tD (ns : List Nat) : D := .tup (nD ns)
@[simp] theorem arg_tD (ns : List Nat) : arg (tD ns) = some (tD ns) := rfl
@[simp] theorem fz_tD (ns : List Nat) : fzD (tD ns) = some (tD ns) := rfl
@[simp] theorem lkO_tD (ns : List Nat) : lkO (tD ns) = [] := rfl
theorem nD_app (xs : List Nat) (x : Nat) : nD xs ++ [iD x] = nD (xs ++ [x]) := by simp [nD]
theorem pow_mono {k a b : Nat} (h : a ≤ b) (hk : 0 < k) : k ^ a ≤ k ^ b := Nat.pow_le_pow_right hk h
theorem getElem?_rng {n i : Nat} {d : D} (h : (rngD n)[i]? = some d) : i < n ∧ d = iD i := by
  obtain ⟨h1, h2⟩ := List.getElem?_eq_some_iff.mp h
  refine ⟨by simpa using h1, ?_⟩
  rw [← h2]; simp [rngD]
theorem all_notes_ev (p m : Nat) (hm : 0 < m) (hp : m ^ p ≤ 1000) (hpp : p ≤ 100) (hmm : m ≤ 20) (lk : List Nat) (ce : Ce) (n : Nat) : (ka (n + 1)).fn "all_notes" [iD p, iD m] lk ce = .ok (.lst ((allN m p).map tD)) ce := by
  refine FRun.eq (fn_run t_all_notes rfl ?_)
  simp only [d_all_notes, c_all_notes, n_all_notes]
  refine run_nm (d := .new ((allN m 0).map tD)) (x := .lst ((allN m 0).map tD)) (st1 := ⟨[some (iD p), some (iD m), none, none, none, none], ce⟩) ?_ rfl ?_
  · simp [allN, tD, nD, show 0 ≤ line from by decide, show 1 ≤ line from by decide]
  refine run_for (ds := rngD p) (l := []) (st1 := ⟨[some (iD p), some (iD m), some (.lst ((allN m 0).map tD)), none, none, none], ce⟩) (J := fun i st => ∃ x, st = ⟨[some (iD p), some (iD m), some (.lst ((allN m i).map tD)), x, none, none], ce⟩) ?_ ⟨_, rfl⟩ ?_ ?_
  · simp [b_range (n := p) (by omega)]
  · rintro i d st hd ⟨x, rfl⟩
    obtain ⟨hi, rfl⟩ := getElem?_rng hd
    refine ⟨⟨[some (iD p), some (iD m), some (.lst ((allN m i).map tD)), some (iD i), none, none], ce⟩, by simp, ?_⟩
    have hl : (allN m (i + 1)).length ≤ 1000 := by rw [allN_len]; exact Nat.le_trans (pow_mono (by omega) hm) hp
    have hc := comp_two (k := lev tab mach.L n) (lk := [] ++ lk) (l := []) (l2 := []) (own := [4, 5]) (i := 4) (j := 5) (it := .pl (.var 2)) (jt := .pl (.callB .range1 (.cons (.var 1) .nil))) (e := .stup (.var 4) (.cons (.var 5) .nil)) (as := allN m i) (bs := fun _ => List.range m) (f := tD) (f2 := iD) (g := fun ns x => tD (ns ++ [x])) (st := ⟨[some (iD p), some (iD m), some (.lst ((allN m i).map tD)), some (iD i), none, none], ce⟩) (st1 := ⟨[some (iD p), some (iD m), some (.lst ((allN m i).map tD)), some (iD i), none, none], ce⟩) (by simp) (by
        have : ((allN m i).flatMap fun a => (List.range m).map fun x => tD (a ++ [x])).length = (allN m (i + 1)).length := by
          rw [allN, List.length_flatMap, List.length_flatMap]; simp
        rw [this]; exact nat_le_line hl) (fun _ _ => rfl) (fun a ha => by simp [b_range (n := m) (by omega), rngD_eq]) (fun _ _ _ _ => rfl) (fun a ha b hb => ⟨tD (a ++ [b]), ⟨[some (iD p), some (iD m), some (.lst ((allN m i).map tD)), some (iD i), some (tD a), some (iD b)], ce⟩, by
          have hal : a.length + 1 ≤ line := by
            rw [(allN_mem.mp ha).1]; exact nat_le_line (by omega)
          simp [tD, nD_app, hal, nD], rfl, rfl⟩)
    have hx : ((allN m i).flatMap fun a => (List.range m).map fun x => tD (a ++ [x])) = (allN m (i + 1)).map tD := by
      rw [allN, List.map_flatMap]; simp [Function.comp_def]
    rw [hx] at hc
    refine run_nm hc rfl (run_nil ⟨.inl rfl, some (iD i), ?_⟩)
    rw [trim_self (by simp)]; rfl
  · rintro st ⟨x, rfl⟩
    refine run_ret (d := .lst ((allN m p).map tD)) (by simp; rfl) ?_
    exact fr_V rfl ⟨rfl, by simp⟩
end OV
/-! text W94C -/
namespace OV
open PySem (Str PyData NestedKey)
theorem enc_b : Enc bD 2 := enc_pair (enc_nat.mono (Nat.zero_le _)) (enc_tup enc_nat)
theorem enc_t : Enc tD 1 := enc_tup enc_nat
def firstB (R : Nat → Nat → Nat) (m : Nat) : List (Nat × List Nat) := (List.range m).map fun u => (u, firstN R m u)
def everyB (k m : Nat) : Nat → List (Nat × List Nat) := fun i => (List.range i).flatMap fun u => (allN k (m - 1)).map fun ns => (u, ns)
def bear (R : Nat → Nat → Nat) (k m : Nat) : List (Nat × List Nat) := firstB R m ++ (everyB k m m).filter fun b => !decide (b ∈ firstB R m)
theorem everyB_len (k m i : Nat) : (everyB k m i).length = i * k ^ (m - 1) := by
  unfold everyB
  rw [List.length_flatMap]
  simp only [List.length_map, allN_len]
  rw [List.map_const', List.sum_replicate_nat, List.length_range]
theorem everyB_succ (k m i : Nat) : everyB k m (i + 1) = everyB k m i ++ (allN k (m - 1)).map fun ns => (i, ns) := by
  unfold everyB
  rw [List.range_succ, List.flatMap_append]; simp
theorem nD_V (xs : List Nat) : ∀ d ∈ nD xs, isV d = true := by
  intro d hd
  obtain ⟨x, _, rfl⟩ := List.mem_map.mp hd
  rfl
theorem bD_V (bs : List (Nat × List Nat)) : ∀ d ∈ bs.map bD, isV d = true := by
  intro d hd
  obtain ⟨x, _, rfl⟩ := List.mem_map.mp hd
  rfl
theorem o_catL {ce : Ce} {a b : D} {xs ys : List D} (ha : a = .lst xs ∨ a = .new xs) (hb : b = .lst ys ∨ b = .new ys) (hx : ∀ d ∈ xs, isV d = true) (hy : ∀ d ∈ ys, isV d = true) (hl : xs.length + ys.length ≤ line) : opBin ce .add a b = some (.new (xs ++ ys)) := by
  rcases ha with rfl | rfl <;> rcases hb with rfl | rfl <;> simp only [opBin, seqL, all_V hx, all_V hy, hl, and_self, if_true]
structure Cfg (k m : Nat) : Prop where
  k0 : 0 < k
  m1 : 2 ≤ m
  b : m * k ^ (m - 1) ≤ 40
theorem Cfg.k40 {k m : Nat} (h : Cfg k m) : k ≤ 20 := by
  have h1 := h.m1
  have h2 : k ^ 1 ≤ k ^ (m - 1) := Nat.pow_le_pow_right h.k0 (by omega)
  have h3 : 2 * k ^ (m - 1) ≤ m * k ^ (m - 1) := Nat.mul_le_mul_right _ h1
  have := h.b
  rw [Nat.pow_one] at h2
  omega
theorem Cfg.m40 {k m : Nat} (h : Cfg k m) : m ≤ 40 := by
  have h2 : 0 < k ^ (m - 1) := Nat.pow_pos h.k0
  have h3 : m * 1 ≤ m * k ^ (m - 1) := Nat.mul_le_mul_left _ h2
  have := h.b
  omega
theorem Cfg.p40 {k m : Nat} (h : Cfg k m) : k ^ (m - 1) ≤ 20 := by
  have h1 := h.m1
  have h3 : 2 * k ^ (m - 1) ≤ m * k ^ (m - 1) := Nat.mul_le_mul_right _ h1
  have := h.b
  omega
theorem Cfg.m20 {k m : Nat} (h : Cfg k m) : m ≤ 40 := h.m40
theorem bear_len {R : Nat → Nat → Nat} {k m : Nat} (h : Cfg k m) : (bear R k m).length ≤ 80 := by
  have h1 := h.b
  have h2 := List.length_filter_le (fun b => !decide (b ∈ firstB R m)) (everyB k m m)
  rw [everyB_len] at h2
  have h3 := h.m40
  unfold bear firstB at *
  rw [List.length_append, List.length_map, List.length_range]
  omega
theorem bearers_ev (R : Nat → Nat → Nat) (k m : Nat) (hc : Cfg k m) (lk : List Nat) (ce : Ce) (hlk : ∀ x ∈ lk, x < ce.length) (n : Nat) : (ka (n + 2)).fn "bearers" [iD k, rowsD R m] lk ce = .ok (.tup ((bear R k m).map bD)) ce := by
  have hm := hc.m40
  have hk := hc.k40
  have hm1 := hc.m1
  refine FRun.eq (fn_run t_bearers rfl ?_)
  simp only [d_bearers, c_bearers, n_bearers]
  let sl0 : List (Option D) := [some (iD k), some (rowsD R m), none, none, none, none, none, none, none]
  have hr : ∀ ce, opB ce .range1 [.int (m : Int)] = some (.rng 0 (m : Int)) := fun ce => b_range (by omega)
  have c1 := comp_nm (k := lev tab mach.L (n + 1)) (lk := lk) (l := []) (own := [6]) (i := 6) (it := .pl (.callB .range1 (.cons (.callB .len (.cons (.var 1) .nil)) .nil))) (e := .call "first_bearer" (.cons (.var 1) (.cons (.var 6) .nil))) (as := List.range m) (f := iD) (g := fun u => bD (u, firstN R m u)) (st := ⟨sl0, ce⟩) (st1 := ⟨sl0, ce⟩) (by simp [sl0, rowsD_len, hr, rngD_eq]) (by simpa using nat_le_line (by omega)) (fun _ _ => rfl) (fun a ha => ⟨_, ⟨sl0.set 6 (some (iD a)), ce⟩, by simp [sl0, first_bearer_ev R m a (by simpa using ha) (by omega)]; rfl, rfl, rfl⟩)
  have hx : ((List.range m).map fun u => bD (u, firstN R m u)) = (firstB R m).map bD := by simp [firstB, Function.comp_def]
  rw [hx] at c1
  refine run_asg (d := .tup [.lst ((firstB R m).map bD), iD m]) (st1 := ⟨sl0, ce⟩) (st2 := ⟨[some (iD k), some (rowsD R m), some (.lst ((firstB R m).map bD)), some (iD m), none, none, none, none, none], ce⟩) ?_ ?_ ?_
  · have c1' := c1
    simp only [sl0] at c1'
    simp [sl0, c1', rowsD_len, show 2 ≤ line from by decide]
  · simp [sl0, Ts.len]
  have hs1 : (m : Int) - 1 = ((m - 1 : Nat) : Int) := by omega
  have hr1 : ∀ ce, opB ce .range1 [.int ((m - 1 : Nat) : Int)] = some (.rng 0 ((m - 1 : Nat) : Int)) := fun ce => b_range (by omega)
  refine run_for (ds := rngD (m - 1)) (l := []) (st1 := ⟨[some (iD k), some (rowsD R m), some (.lst ((firstB R m).map bD)), some (iD m), none, none, none, none, none], ce⟩) (J := fun i st => ∃ x, st = ⟨[some (iD k), some (rowsD R m), some (.lst ((firstB R m).map bD)), some (iD (m * k ^ i)), x, none, none, none, none], ce⟩) ?_ ⟨none, by simp⟩ ?_ ?_
  · simp [sl0, rowsD_len, hr1, hs1]
  · rintro i d st hd ⟨x, rfl⟩
    obtain ⟨hi, rfl⟩ := getElem?_rng hd
    have hle : m * k ^ (i + 1) ≤ 40 := Nat.le_trans (Nat.mul_le_mul_left _ (pow_mono (by omega) hc.k0)) hc.b
    have hle0 : m * k ^ i ≤ 40 := Nat.le_trans (Nat.mul_le_mul_left _ (pow_mono (by omega) hc.k0)) hc.b
    refine ⟨⟨[some (iD k), some (rowsD R m), some (.lst ((firstB R m).map bD)), some (iD (m * k ^ i)), some (iD i), none, none, none, none], ce⟩, by simp, ?_⟩
    refine run_nm (d := iD (m * k ^ (i + 1))) (x := iD (m * k ^ (i + 1))) (st1 := ⟨[some (iD k), some (rowsD R m), some (.lst ((firstB R m).map bD)), some (iD (m * k ^ i)), some (iD i), none, none, none, none], ce⟩) ?_ rfl ?_
    · have := o_mul (ce := ce) (mul_nat (a := m * k ^ i) (by omega) (k : Int))
      have e : ((m * k ^ i : Nat) : Int) * (k : Int) = ((m * k ^ (i + 1) : Nat) : Int) := by
        rw [Nat.pow_succ, ← Nat.mul_assoc, Int.natCast_mul (m * k ^ i) k]
      rw [e] at this
      simp [this, -Int.natCast_mul, -Int.natCast_pow]
    · refine run_if (t := false) (st1 := ⟨[some (iD k), some (rowsD R m), some (.lst ((firstB R m).map bD)), some (iD (m * k ^ (i + 1))), some (iD i), none, none, none, none], ce⟩) ?_ (run_nil ⟨.inl rfl, some (iD i), ?_⟩)
      · simp [-Int.natCast_mul, -Int.natCast_pow]; omega
      · rw [trim_self (by simp)]
  rintro st ⟨x, rfl⟩
  generalize iD (m * k ^ (rngD (m - 1)).length) = y
  have hl0 : lk.contains ce.length = false := by
    cases h : lk.contains ce.length with
    | false => rfl
    | true => have := hlk _ (List.contains_iff_mem.mp h); omega
  have g : ∀ d : D, (ce ++ [some d])[ce.length]? = some (some d) := fun d => by simp
  have st_ : ∀ d e : D, (ce ++ [some d]).set ce.length (some e) = ce ++ [some e] := fun d e => by rw [List.set_append_right _ _ (Nat.le_refl _)]; simp
  have hel : ∀ i, i ≤ m → (everyB k m i).length ≤ 40 := fun i hi => by
    rw [everyB_len]; exact Nat.le_trans (Nat.mul_le_mul_right _ hi) hc.b
  refine run_new (ds := []) (d := .new []) (st1 := ⟨[some (iD k), some (rowsD R m), some (.lst ((firstB R m).map bD)), some y, x, none, none, none, none], ce⟩) (by simp) (.inl rfl) ?_
  refine run_for (ds := rngD m) (l := []) (st1 := ⟨[some (iD k), some (rowsD R m), some (.lst ((firstB R m).map bD)), some y, x, some (.ref ce.length), none, none, none], ce ++ [some (.own [])]⟩) (J := fun i st => ∃ w, st = ⟨[some (iD k), some (rowsD R m), some (.lst ((firstB R m).map bD)), some y, x, some (.ref ce.length), w, none, none], ce ++ [some (.own ((everyB k m i).map bD))]⟩) ?_ ⟨none, by simp [everyB]⟩ ?_ ?_
  · simp [rowsD_len, hr]
  · rintro i d st hd ⟨w, rfl⟩
    obtain ⟨hi, rfl⟩ := getElem?_rng hd
    let st2 : S := ⟨[some (iD k), some (rowsD R m), some (.lst ((firstB R m).map bD)), some y, x, some (.ref ce.length), some (iD i), none, none], ce ++ [some (.own ((everyB k m i).map bD))]⟩
    refine ⟨st2, by simp [st2], ?_⟩
    have c2 := comp_nm (k := lev tab mach.L (n + 1)) (lk := [] ++ lk) (l := []) (own := [7]) (i := 7) (it := .pl (.call "all_notes" (.cons (.bin .sub (.callB .len (.cons (.var 1) .nil)) (.int 1)) (.cons (.var 0) .nil)))) (e := .tup (.cons (.var 6) (.cons (.var 7) .nil))) (as := allN k (m - 1)) (f := tD) (g := fun ns => bD (i, ns)) (st := st2) (st1 := st2) (by
        have := fun lk ce => all_notes_ev (m - 1) k hc.k0 (Nat.le_trans hc.p40 (by decide)) (by omega) hk lk ce n
        simp [st2, rowsD_len, hs1, this]) (by rw [allN_len]; exact nat_le_line (Nat.le_trans hc.p40 (by decide))) (fun _ _ => rfl) (fun a ha => ⟨_, ⟨st2.sl.set 7 (some (tD a)), st2.ce⟩, by simp [st2, show 2 ≤ line from by decide]; rfl, rfl, rfl⟩)
    have hx : ((allN k (m - 1)).map fun ns => bD (i, ns)) = (((allN k (m - 1)).map fun ns => (i, ns)).map bD) := by simp [Function.comp_def]
    rw [hx] at c2
    refine run_extend (c := ce.length) rfl hl0 (g _) c2 (g _) ?_ (run_nil ⟨.inl rfl, some (iD i), ?_⟩)
    · have := hel (i + 1) (by omega)
      rw [everyB_succ, List.length_append] at this
      rw [List.length_map, List.length_map]
      exact nat_le_line (by omega)
    · rw [trim_self (by simp [st2, st_]), st_, everyB_succ, List.map_append]
  rintro st ⟨w, rfl⟩
  rw [rngD_length]
  let st3 : S := ⟨[some (iD k), some (rowsD R m), some (.lst ((firstB R m).map bD)), some y, x, some (.ref ce.length), w, none, none], ce ++ [some (.own ((everyB k m m).map bD))]⟩
  have c3 := comp_if (k := lev tab mach.L (n + 1)) (lk := lk) (l := [ce.length]) (own := [8]) (i := 8) (it := .pl (.var 5)) (c := .cmp .nin (.var 8) (.var 2)) (e := .var 8) (as := everyB k m m) (f := bD) (g := bD) (p := fun b => !decide (b ∈ firstB R m)) (st := st3) (st1 := st3) (by
      simp [st3, isL_seqV (.ref (g ((.own ((everyB k m m).map bD))))) (bD_V _)]) (nat_le_line (Nat.le_trans (hel m (Nat.le_refl _)) (by decide))) (fun _ _ => rfl) (fun a ha => by
      simp [st3, enc_nin enc_b (by decide) a (xs := firstB R m) (ce := ce ++ [some (.own ((everyB k m m).map bD))]) (d := .lst ((firstB R m).map bD)) rfl]) (fun a ha _ => ⟨bD a, ⟨st3.sl.set 8 (some (bD a)), st3.ce⟩, by simp [st3], rfl, rfl⟩)
  refine run_ret (d := .tup ((bear R k m).map bD)) (st1 := st3) ?_ (fr_V rfl ⟨rfl, by simp [st3]⟩)
  have hb : opBin (ce ++ [some (.own ((everyB k m m).map bD))]) .add (.lst ((firstB R m).map bD)) (.new (((everyB k m m).filter fun b => !decide (b ∈ firstB R m)).map bD)) = some (.new ((bear R k m).map bD)) := by
    have h1 := bear_len (R := R) hc
    unfold bear at h1 ⊢
    rw [List.length_append] at h1
    rw [o_catL (.inl rfl) (.inr rfl) (bD_V _) (bD_V _) (by rw [List.length_map, List.length_map]; exact nat_le_line (by omega)), List.map_append]
  have ht : opB (ce ++ [some (.own ((everyB k m m).map bD))]) .tuple [.new ((bear R k m).map bD)] = some (.tup ((bear R k m).map bD)) := b_tuple (sv_new _) (by rw [List.length_map]; exact nat_le_line (Nat.le_trans (bear_len hc) (by decide)))
  have c3' := c3
  simp only [st3] at c3' ⊢
  simp [c3', hb, ht]
end OV
/-! text W94D -/
namespace OV
open PySem (Str PyData NestedKey)
abbrev Br := Nat × List Nat
def betw (k : Nat) (a b : Br) : Nat := if a.1 = b.1 then 0 else (noteN a b.1 + noteN b a.1) % k
/-- a bearer -/
structure Bw (k m : Nat) (b : Br) : Prop where
  p : b.1 < m
  l : b.2.length = m - 1
  x : ∀ x ∈ b.2, x < k
theorem bD_0 {ce : Ce} (b : Br) : opIdx ce (bD b) (.int 0) = some (iD b.1) := by simp [bD]
theorem bD_1 {ce : Ce} (b : Br) : opIdx ce (bD b) (.int 1) = some (.tup (nD b.2)) := by simp [bD]
theorem eq_nat {ce : Ce} (a b : Nat) : opCmp ce .eq (.int (a : Int)) (.int (b : Int)) = some (decide (a = b)) := enc_eq enc_nat (by decide) a b
theorem note_ix {m p o : Nat} (hp : p < m) (ho : o < m) (h : p ≠ o) : (if o < p then o else o - 1) < m - 1 := by
  split <;> omega
theorem between_ev {k m : Nat} (hk : 0 < k) {a b : Br} (ha : Bw k m a) (hb : Bw k m b) (lk : List Nat) (ce : Ce) (n : Nat) : (ka (n + 2)).fn "between_bearers" [iD k, bD a, bD b] lk ce = .ok (iD (betw k a b)) ce := by
  rw [ka, lev_fn t_between_bearers _ _ _ _ rfl, oF]
  by_cases h : a.1 = b.1
  · simp [d_between_bearers, c_between_bearers, n_between_bearers, bD_0, eq_nat, h, betw]
  · have e1 := note_at_ev a.2 a.1 b.1 (by rw [ha.l]; exact note_ix ha.p hb.p h) h
    have e2 := note_at_ev b.2 b.1 a.1 (by rw [hb.l]; exact note_ix hb.p ha.p (Ne.symm h)) (Ne.symm h)
    have hm := o_mod (ce := ce) (i := ((noteN a b.1 : Nat) : Int) + (noteN b a.1 : Nat)) (j := (k : Int)) (by omega)
    simp [d_between_bearers, c_between_bearers, n_between_bearers, bD_0, bD_1, Int.ofNat_inj, h, betw, e1, e2, hm]
def gB (S : List Br) (u : Nat) : Br := (S[u]?).getD (0, [])
theorem bear_get {S : List Br} {u : Nat} (h : u < S.length) : ((S.map bD)[u]?).getD .non = bD (gB S u) := by
  simp [gB, h]
def wideW (k : Nat) (S : List Br) (u v : Nat) : Nat := betw k (gB S u) (gB S v)
theorem enum_S (S : List Br) : enumD 0 (S.map bD) = (List.range S.length).map fun u => .tup [iD u, bD (gB S u)] := by
  rw [enumD_eq, List.length_map]
  apply List.map_congr_left
  intro u hu
  rw [bear_get (by simpa using hu), Nat.zero_add]
theorem bearing_rows_ev (R : Nat → Nat → Nat) (k m : Nat) (hc : Cfg k m) (hw : ∀ b ∈ bear R k m, Bw k m b) (lk : List Nat) (ce : Ce) (hlk : ∀ x ∈ lk, x < ce.length) (n : Nat) : (ka (n + 3)).fn "bearing_rows" [iD k, rowsD R m] lk ce = .ok (rowsD (wideW k (bear R k m)) (bear R k m).length) ce := by
  have hl := bear_len (R := R) hc
  have hb := bearers_ev R k m hc lk ce hlk n
  generalize bear R k m = S at *
  refine FRun.eq (fn_run t_bearing_rows rfl ?_)
  simp only [d_bearing_rows, c_bearing_rows, n_bearing_rows]
  have hl0 : lk.contains ce.length = false := by
    cases h : lk.contains ce.length with
    | false => rfl
    | true => have := hlk _ (List.contains_iff_mem.mp h); omega
  have g : ∀ d : D, (ce ++ [some d])[ce.length]? = some (some d) := fun d => by simp
  have st_ : ∀ d e : D, (ce ++ [some d]).set ce.length (some e) = ce ++ [some e] := fun d e => by rw [List.set_append_right _ _ (Nat.le_refl _)]; simp
  have hS : ∀ u, u < S.length → Bw k m (gB S u) := fun u hu => hw _ (by simp [gB, hu])
  refine run_nm (d := .tup (S.map bD)) (x := .tup (S.map bD)) (st1 := ⟨[some (iD k), some (rowsD R m), none, none, none, none, none, none], ce⟩) (by simp [hb]) rfl ?_
  refine run_new (ds := []) (d := .new []) (st1 := ⟨[some (iD k), some (rowsD R m), some (.tup (S.map bD)), none, none, none, none, none], ce⟩) (by simp) (.inl rfl) ?_
  let W := wideW k S
  refine run_for (ds := enumD 0 (S.map bD)) (l := []) (st1 := ⟨[some (iD k), some (rowsD R m), some (.tup (S.map bD)), some (.ref ce.length), none, none, none, none], ce ++ [some (.own [])]⟩) (J := fun i st => ∃ w x, st = ⟨[some (iD k), some (rowsD R m), some (.tup (S.map bD)), some (.ref ce.length), w, x, none, none], ce ++ [some (.own ((List.range i).map fun u => .tup (rowD W S.length u)))]⟩) ?_ ⟨none, none, by simp⟩ ?_ ?_
  · simp
  · rintro i d st hd ⟨w, x, rfl⟩
    rw [enum_S] at hd
    obtain ⟨hi, hd⟩ := List.getElem?_eq_some_iff.mp hd
    simp only [List.length_map, List.length_range] at hi
    simp only [List.getElem_map, List.getElem_range] at hd
    subst hd
    let st2 : OV.S := ⟨[some (iD k), some (rowsD R m), some (.tup (S.map bD)), some (.ref ce.length), some (iD i), some (bD (gB S i)), none, none], ce ++ [some (.own ((List.range i).map fun u => .tup (rowD W S.length u)))]⟩
    refine ⟨st2, by simp [st2, Ts.len], ?_⟩
    have c2 := comp_nm2 (k := lev tab mach.L (n + 2)) (lk := [] ++ lk) (l := []) (own := [6, 7]) (i := 6) (j := 7) (it := .enum (.var 2)) (e := .ite (.cmp .eq (.var 4) (.var 6)) .non (.call "between_bearers" (.cons (.var 0) (.cons (.var 5) (.cons (.var 7) .nil))))) (as := List.range S.length) (f1 := iD) (f2 := fun v => bD (gB S v)) (g := fun v => if i = v then .non else iD (W i v)) (st := st2) (st1 := st2) (by
        rw [← enum_S]; simp [st2]) (by rw [List.length_range]; exact nat_le_line (Nat.le_trans hl (by decide))) (fun _ _ => ⟨rfl, rfl⟩) (fun a ha => ⟨if i = a then .non else iD (W i a), ⟨(st2.sl.set 6 (some (iD a))).set 7 (some (bD (gB S a))), st2.ce⟩, by
          have := fun lk ce => between_ev hc.k0 (hS i hi) (hS a (by simpa using ha)) lk ce n
          by_cases h : i = a
          · simp [st2, Int.ofNat_inj, h]
          · simp [st2, Int.ofNat_inj, h, this, W, wideW], rfl, by split <;> rfl⟩)
    have hrow : ((List.range S.length).map fun v => if i = v then D.non else iD (W i v)) = rowD W S.length i := rfl
    rw [hrow] at c2
    have ht : ∀ ce, opB ce .tuple [.new (rowD W S.length i)] = some (.tup (rowD W S.length i)) := fun ce => b_tuple (sv_new _) (by rw [rowD, List.length_map, List.length_range]; exact nat_le_line (Nat.le_trans hl (by decide)))
    refine run_append (c := ce.length) (d := .tup (rowD W S.length i)) (x := .tup (rowD W S.length i)) (st1 := st2) rfl hl0 (g _) ?_ (g _) rfl ?_ (run_nil ⟨.inl rfl, some (iD i), some (bD (gB S i)), ?_⟩)
    · rw [ev_callB, evs_cons, c2]; simp [ht]
    · rw [List.length_map, List.length_range]; exact Nat.lt_of_lt_of_le (Nat.lt_of_lt_of_le hi hl) (by decide)
    · rw [trim_self (by simp [st2, st_]), st_, List.range_succ, List.map_append]; rfl
  · rintro st ⟨w, x, rfl⟩
    rw [show (enumD 0 (S.map bD)).length = S.length by rw [enum_S]; simp]
    refine run_ret (d := rowsD W S.length) (st1 := ⟨[some (iD k), some (rowsD R m), some (.tup (S.map bD)), some (.ref ce.length), w, x, none, none], ce ++ [some (.own ((List.range S.length).map fun u => .tup (rowD W S.length u)))]⟩) ?_ (fr_V rfl ⟨rfl, by simp⟩)
    have hv : ∀ d ∈ ((List.range S.length).map fun u => D.tup (rowD W S.length u)), isV d = true := fun d hd => by
      obtain ⟨x, _, rfl⟩ := List.mem_map.mp hd
      rfl
    have ht := b_tuple (ce := ce ++ [some (.own ((List.range S.length).map fun u => .tup (rowD W S.length u)))]) (isL_seqV (.ref (g _)) hv) (by rw [List.length_map, List.length_range]; exact nat_le_line (Nat.le_trans hl (by decide)))
    simp [ht, rowsD]
end OV
/-! text W94E -/
namespace OV
open PySem (Str PyData NestedKey)
theorem law_first_ev (R : Nat → Nat → Nat) (m u : Nat) (hu : u < m) (hm : m ≤ 1000) (lk : List Nat) (ce : Ce) (n : Nat) : (ka (n + 1)).fn "_law_first" [rowsD R m, iD u] lk ce = .ok (bD (u, firstN R m u)) ce := by
  rw [ka, lev_fn t__law_first _ _ _ _ rfl, oF]
  have hc := comp_if (k := lev tab mach.L n) (lk := lk) (l := []) (own := [2]) (i := 2) (it := .pl (.callB .range1 (.cons (.callB .len (.cons (.var 0) .nil)) .nil))) (c := .cmp .ne (.var 2) (.var 1)) (e := .ite (.cmp .gt (.var 2) (.var 1)) (.idx (.idx (.var 0) (.var 1)) (.var 2)) (.int 0)) (as := List.range m) (f := iD) (g := fun v => iD (if v > u then R u v else 0)) (p := fun v => decide (v ≠ u)) (st := ⟨[some (rowsD R m), some (iD u), none], ce⟩) (st1 := ⟨[some (rowsD R m), some (iD u), none], ce⟩) (by simp [rowsD_len, b_range (n := m) (by omega), rngD_eq]) (by simpa using nat_le_line hm) (fun _ _ => rfl) (fun a ha => by simp; omega) (fun a ha hp => by
    refine ⟨iD (if a > u then R u a else 0), ⟨[some (rowsD R m), some (iD u), some (iD a)], ce⟩, ?_, rfl, rfl⟩
    by_cases h : u < a
    · have hau : a < m := by simpa using ha
      simp [h, rowsD_get hu, row_get hau (u := u) (by omega)]
    · simp [h])
  have hx : (((List.range m).filter fun v => decide (v ≠ u)).map fun v => iD (if v > u then R u v else 0)) = nD (firstN R m u) := by simp [nD, firstN, Function.comp_def]
  rw [hx] at hc
  have hb := b_tuple (ce := ce) (sv_new (nD (firstN R m u))) (by rw [nD_length]; exact Nat.le_trans (firstN_le R m u) (nat_le_line hm))
  simp only [d__law_first, c__law_first, n__law_first]
  simp [hc, hb, show 2 ≤ line from by decide, bD]

theorem law_note_ev {k m : Nat} {a b : Br} (ha : Bw k m a) (hb : Bw k m b) (h : a.1 ≠ b.1) (lk : List Nat) (ce : Ce) (n : Nat) : (ka (n + 1)).fn "_law_note" [bD a, bD b] lk ce = .ok (iD (noteN a b.1)) ce := by
  rw [ka, lev_fn t__law_note _ _ _ _ rfl, oF]
  have hx := note_ix ha.p hb.p h
  rw [← ha.l] at hx
  by_cases ho : b.1 < a.1
  · rw [if_pos ho] at hx
    simp [d__law_note, c__law_note, n__law_note, bD_0, bD_1, ho, noteN, hx]
  · rw [if_neg ho] at hx
    have e : (b.1 : Int) - 1 = ((b.1 - 1 : Nat) : Int) := by omega
    simp [d__law_note, c__law_note, n__law_note, bD_0, bD_1, ho, noteN, hx, e]
theorem law_bearers_ev (R : Nat → Nat → Nat) (k m : Nat) (hc : Cfg k m) (lk : List Nat) (ce : Ce) (n : Nat) : (ka (n + 2)).fn "_law_bearers" [iD k, rowsD R m] lk ce = .ok (.new ((bear R k m).map bD)) ce := by
  have hm := hc.m40
  have hk := hc.k40
  have hm1 := hc.m1
  have hr : ∀ ce, opB ce .range1 [.int (m : Int)] = some (.rng 0 (m : Int)) := fun ce => b_range (by omega)
  have hs1 : (m : Int) - 1 = ((m - 1 : Nat) : Int) := by omega
  have hr1 : ∀ ce, opB ce .range1 [.int ((m - 1 : Nat) : Int)] = some (.rng 0 ((m - 1 : Nat) : Int)) := fun ce => b_range (by omega)
  have hrk : ∀ ce, opB ce .range1 [.int (k : Int)] = some (.rng 0 (k : Int)) := fun ce => b_range (by omega)
  have hal : ∀ i, i ≤ m - 1 → (allN k i).length ≤ 20 := fun i hi => by
    rw [allN_len]; exact Nat.le_trans (pow_mono hi hc.k0) hc.p40
  refine FRun.eq (fn_run t__law_bearers rfl ?_)
  simp only [d__law_bearers, c__law_bearers, n__law_bearers]
  refine run_nm (d := .new ((allN k 0).map tD)) (x := .lst ((allN k 0).map tD)) (st1 := ⟨[some (iD k), some (rowsD R m), none, none, none, none, none, none, none, none], ce⟩) ?_ rfl ?_
  · simp [allN, tD, nD, show 0 ≤ line from by decide, show 1 ≤ line from by decide]
  refine run_for (ds := rngD (m - 1)) (l := []) (st1 := ⟨[some (iD k), some (rowsD R m), some (.lst ((allN k 0).map tD)), none, none, none, none, none, none, none], ce⟩) (J := fun i st => ∃ x y z, st = ⟨[some (iD k), some (rowsD R m), some (.lst ((allN k i).map tD)), x, none, none, none, y, z, none], ce⟩) ?_ ⟨none, none, none, rfl⟩ ?_ ?_
  · simp [rowsD_len, hr1, hs1]
  · rintro i d st hd ⟨x, y, z, rfl⟩
    obtain ⟨hi, rfl⟩ := getElem?_rng hd
    refine ⟨⟨[some (iD k), some (rowsD R m), some (.lst ((allN k i).map tD)), some (iD i), none, none, none, y, z, none], ce⟩, by simp, ?_⟩
    refine run_nm (d := .new []) (x := .lst []) (st1 := ⟨[some (iD k), some (rowsD R m), some (.lst ((allN k i).map tD)), some (iD i), none, none, none, y, z, none], ce⟩) (by simp) rfl ?_
    let lg : Nat → List (List Nat) := fun j => ((allN k i).take j).flatMap fun ns => (List.range k).map fun x => ns ++ [x]
    have hlg : ∀ j, (lg j).length ≤ 20 := fun j => by
      refine Nat.le_trans ?_ (hal (i + 1) (by omega))
      rw [allN, List.length_flatMap, List.length_flatMap]
      simp only [List.length_map, List.length_range, List.map_const', List.sum_replicate_nat]
      exact Nat.mul_le_mul_right _ (by simp; omega)
    refine run_for (ds := (allN k i).map tD) (l := []) (st1 := ⟨[some (iD k), some (rowsD R m), some (.lst ((allN k i).map tD)), some (iD i), none, none, none, some (.lst []), z, none], ce⟩) (J := fun j st => ∃ z, st = ⟨[some (iD k), some (rowsD R m), some (.lst ((allN k i).map tD)), some (iD i), none, none, none, some (.lst ((lg j).map tD)), z, none], ce⟩) (by simp) ⟨z, by simp [lg]⟩ ?_ ?_
    · rintro j d st hd ⟨z, rfl⟩
      obtain ⟨hj, hd⟩ := List.getElem?_eq_some_iff.mp hd
      simp only [List.length_map] at hj
      simp only [List.getElem_map] at hd
      subst hd
      generalize hns : (allN k i)[j] = ns
      have hnl : ns.length = i := by
        have := allN_mem.mp (List.getElem_mem hj)
        rw [hns] at this
        exact this.1
      let st2 : S := ⟨[some (iD k), some (rowsD R m), some (.lst ((allN k i).map tD)), some (iD i), none, none, none, some (.lst ((lg j).map tD)), some (tD ns), none], ce⟩
      refine ⟨st2, by simp [st2], ?_⟩
      have c2 := comp_nm (k := lev tab mach.L (n + 1)) (lk := [] ++ ([] ++ lk)) (l := []) (own := [9]) (i := 9) (it := .pl (.callB .range1 (.cons (.var 0) .nil))) (e := .bin .add (.var 8) (.tup (.cons (.var 9) .nil))) (as := List.range k) (f := iD) (g := fun x => tD (ns ++ [x])) (st := st2) (st1 := st2) (by simp [st2, hrk, rngD_eq]) (by rw [List.length_range]; exact nat_le_line (by omega)) (fun _ _ => rfl) (fun a ha => ⟨tD (ns ++ [a]), ⟨st2.sl.set 9 (some (iD a)), st2.ce⟩, by
        have : opBin ce .add (tD ns) (.tup [iD a]) = some (tD (ns ++ [a])) := by
          unfold tD
          rw [← nD_app]
          simp only [opBin, nD_length, hnl, List.length_singleton]
          rw [if_pos (nat_le_line (by omega))]
        simp [st2, this, show 1 ≤ line from by decide], rfl, rfl⟩)
      have hlg1 : lg (j + 1) = lg j ++ (List.range k).map fun x => ns ++ [x] := by
        simp only [lg]
        rw [List.take_add_one, List.flatMap_append, List.getElem?_eq_getElem hj, hns]; simp
      have hadd : opBin ce .add (.lst ((lg j).map tD)) (.new ((List.range k).map fun x => tD (ns ++ [x]))) = some (.new ((lg (j + 1)).map tD)) := by
        rw [o_catL (.inl rfl) (.inr rfl) _ _ _, hlg1, List.map_append, List.map_map]; rfl
        · intro d hd; obtain ⟨x, _, rfl⟩ := List.mem_map.mp hd; rfl
        · intro d hd; obtain ⟨x, _, rfl⟩ := List.mem_map.mp hd; rfl
        · have := hlg j
          rw [List.length_map, List.length_map, List.length_range]; exact nat_le_line (by omega)
      refine run_nm (d := .new ((lg (j + 1)).map tD)) (x := .lst ((lg (j + 1)).map tD)) (st1 := st2) ?_ rfl (run_nil ⟨.inl rfl, some (tD ns), ?_⟩)
      · simp only [List.nil_append] at c2
        simp only [st2] at c2
        simp [st2, c2, hadd]
      · rw [trim_self (by simp [st2])]; rfl
    · rintro st ⟨z, rfl⟩
      rw [List.length_map]
      have : lg (allN k i).length = allN k (i + 1) := by simp only [lg, List.take_length, allN]
      rw [this]
      refine run_nm (d := .lst ((allN k (i + 1)).map tD)) (x := .lst ((allN k (i + 1)).map tD)) (st1 := ⟨[some (iD k), some (rowsD R m), some (.lst ((allN k i).map tD)), some (iD i), none, none, none, some (.lst ((allN k (i + 1)).map tD)), z, none], ce⟩) (by simp) rfl (run_nil ⟨.inl rfl, some (iD i), some (.lst ((allN k (i + 1)).map tD)), z, ?_⟩)
      rw [trim_self (by simp)]; rfl
  rintro st ⟨x, y, z, rfl⟩
  rw [rngD_length]
  let N := allN k (m - 1)
  have hN : N.length ≤ 20 := hal _ (Nat.le_refl _)
  let st0 : S := ⟨[some (iD k), some (rowsD R m), some (.lst (N.map tD)), x, none, none, none, y, z, none], ce⟩
  have c1 := comp_nm (k := lev tab mach.L (n + 1)) (lk := lk) (l := []) (own := [6]) (i := 6) (it := .pl (.callB .range1 (.cons (.callB .len (.cons (.var 1) .nil)) .nil))) (e := .call "_law_first" (.cons (.var 1) (.cons (.var 6) .nil))) (as := List.range m) (f := iD) (g := fun u => bD (u, firstN R m u)) (st := st0) (st1 := st0) (by simp [st0, rowsD_len, hr, rngD_eq]) (by simpa using nat_le_line (by omega)) (fun _ _ => rfl) (fun a ha => ⟨_, ⟨st0.sl.set 6 (some (iD a)), ce⟩, by simp [st0, law_first_ev R m a (by simpa using ha) (by omega)]; rfl, rfl, rfl⟩)
  have hx : ((List.range m).map fun u => bD (u, firstN R m u)) = (firstB R m).map bD := by simp [firstB, Function.comp_def]
  rw [hx] at c1
  refine run_nm c1 (x := .lst ((firstB R m).map bD)) rfl ?_
  refine run_nm (d := .new []) (x := .lst []) (st1 := ⟨[some (iD k), some (rowsD R m), some (.lst (N.map tD)), x, some (.lst ((firstB R m).map bD)), none, none, y, z, none], ce⟩) (by simp [st0]) rfl ?_
  have hel : ∀ i, i ≤ m → (everyB k m i).length ≤ 40 := fun i hi => by
    rw [everyB_len]; exact Nat.le_trans (Nat.mul_le_mul_right _ hi) hc.b
  refine run_for (ds := rngD m) (l := []) (st1 := ⟨[some (iD k), some (rowsD R m), some (.lst (N.map tD)), x, some (.lst ((firstB R m).map bD)), some (.lst []), none, y, z, none], ce⟩) (J := fun i st => ∃ w, st = ⟨[some (iD k), some (rowsD R m), some (.lst (N.map tD)), x, some (.lst ((firstB R m).map bD)), some (.lst ((everyB k m i).map bD)), w, y, z, none], ce⟩) ?_ ⟨none, by simp [everyB]⟩ ?_ ?_
  · simp [rowsD_len, hr]
  · rintro i d st hd ⟨w, rfl⟩
    obtain ⟨hi, rfl⟩ := getElem?_rng hd
    let st2 : S := ⟨[some (iD k), some (rowsD R m), some (.lst (N.map tD)), x, some (.lst ((firstB R m).map bD)), some (.lst ((everyB k m i).map bD)), some (iD i), y, z, none], ce⟩
    refine ⟨st2, by simp [st2], ?_⟩
    have c2 := comp_nm (k := lev tab mach.L (n + 1)) (lk := lk) (l := []) (own := [8]) (i := 8) (it := .pl (.var 2)) (e := .tup (.cons (.var 6) (.cons (.var 8) .nil))) (as := N) (f := tD) (g := fun ns => bD (i, ns)) (st := st2) (st1 := st2) (by simp [st2]) (nat_le_line (by omega)) (fun _ _ => rfl) (fun a ha => ⟨_, ⟨st2.sl.set 8 (some (tD a)), st2.ce⟩, by simp [st2, show 2 ≤ line from by decide]; rfl, rfl, rfl⟩)
    have hx : (N.map fun ns => bD (i, ns)) = ((N.map fun ns => (i, ns)).map bD) := by simp [Function.comp_def]
    rw [hx] at c2
    have hadd : opBin ce .add (.lst ((everyB k m i).map bD)) (.new ((N.map fun ns => (i, ns)).map bD)) = some (.new ((everyB k m (i + 1)).map bD)) := by
      have := hel (i + 1) (by omega)
      rw [everyB_succ, List.length_append, List.length_map] at this
      have hNN : (allN k (m - 1)).length = N.length := rfl
      rw [o_catL (.inl rfl) (.inr rfl) (bD_V _) (bD_V _) (by rw [List.length_map, List.length_map, List.length_map]; exact nat_le_line (by omega)), everyB_succ, List.map_append]
    refine run_nm (d := .new ((everyB k m (i + 1)).map bD)) (x := .lst ((everyB k m (i + 1)).map bD)) (st1 := st2) ?_ rfl (run_nil ⟨.inl rfl, some (iD i), ?_⟩)
    · simp only [st2] at c2
      simp [st2, c2, hadd, -List.map_map]
    · rw [trim_self (by simp [st2])]; rfl
  rintro st ⟨w, rfl⟩
  rw [rngD_length]
  let st3 : S := ⟨[some (iD k), some (rowsD R m), some (.lst (N.map tD)), x, some (.lst ((firstB R m).map bD)), some (.lst ((everyB k m m).map bD)), w, y, z, none], ce⟩
  have c3 := comp_if (k := lev tab mach.L (n + 1)) (lk := lk) (l := []) (own := [8]) (i := 8) (it := .pl (.var 5)) (c := .cmp .nin (.var 8) (.var 4)) (e := .var 8) (as := everyB k m m) (f := bD) (g := bD) (p := fun b => !decide (b ∈ firstB R m)) (st := st3) (st1 := st3) (by
      simp [st3]) (nat_le_line (Nat.le_trans (hel m (Nat.le_refl _)) (by decide))) (fun _ _ => rfl) (fun a ha => by
      simp [st3, enc_nin enc_b (by decide) a (xs := firstB R m) (ce := ce) (d := .lst ((firstB R m).map bD)) rfl]) (fun a ha _ => ⟨bD a, ⟨st3.sl.set 8 (some (bD a)), st3.ce⟩, by simp [st3], rfl, rfl⟩)
  refine run_ret (d := .new ((bear R k m).map bD)) (st1 := st3) ?_ (fr_new ⟨rfl, by simp [st3]⟩)
  have hb : opBin ce .add (.lst ((firstB R m).map bD)) (.new (((everyB k m m).filter fun b => !decide (b ∈ firstB R m)).map bD)) = some (.new ((bear R k m).map bD)) := by
    have h1 := bear_len (R := R) hc
    unfold bear at h1 ⊢
    rw [List.length_append] at h1
    rw [o_catL (.inl rfl) (.inr rfl) (bD_V _) (bD_V _) (by rw [List.length_map, List.length_map]; exact nat_le_line (by omega)), List.map_append]
  simp only [st3] at c3 ⊢
  simp [c3, hb]
end OV
/-! text W94F -/
namespace OV
open PySem (Str PyData NestedKey)
theorem row_set (W : Nat → Nat → Nat) (N u : Nat) : ((List.range N).map fun v => iD (W u v)).set u .non = rowD W N u := by
  apply List.ext_getElem
  · simp [rowD]
  · intro v h1 h2
    simp only [rowD, List.length_set, List.length_map, List.length_range] at h1
    rw [List.getElem_set]
    by_cases h : u = v <;> simp [rowD, h]
theorem hl0_of {lk : List Nat} {c n : Nat} (hlk : ∀ x ∈ lk, x < n) (h : n ≤ c) : lk.contains c = false := by
  cases h' : lk.contains c with
  | false => rfl
  | true => have := hlk _ (List.contains_iff_mem.mp h'); omega
theorem law_bearing_ev (R : Nat → Nat → Nat) (k m : Nat) (hc : Cfg k m) (hw : ∀ b ∈ bear R k m, Bw k m b) (lk : List Nat) (ce : Ce) (hlk : ∀ x ∈ lk, x < ce.length) (n : Nat) : (ka (n + 3)).fn "_law_bearing" [iD k, rowsD R m] lk ce = .ok (rowsD (wideW k (bear R k m)) (bear R k m).length) ce := by
  have hl := bear_len (R := R) hc
  have hb := law_bearers_ev R k m hc lk ce n
  generalize bear R k m = S at *
  have hk := hc.k0
  refine FRun.eq (fn_run t__law_bearing rfl ?_)
  simp only [d__law_bearing, c__law_bearing, n__law_bearing]
  have hl0 : lk.contains ce.length = false := hl0_of hlk (Nat.le_refl _)
  have hl1 : lk.contains (ce.length + 1) = false := hl0_of hlk (by omega)
  have g0 : ∀ d : D, (ce ++ [some d])[ce.length]? = some (some d) := fun d => by simp
  have g1 : ∀ a b : D, (ce ++ [some a, some b])[ce.length]? = some (some a) := fun a b => by simp
  have g2 : ∀ a b : D, (ce ++ [some a, some b])[ce.length + 1]? = some (some b) := fun a b => by rw [List.getElem?_append_right (by omega)]; simp
  have s1 : ∀ a b e : D, (ce ++ [some a, some b]).set ce.length (some e) = ce ++ [some e, some b] := fun a b e => by rw [List.set_append_right _ _ (Nat.le_refl _)]; simp
  have s2 : ∀ a b e : D, (ce ++ [some a, some b]).set (ce.length + 1) (some e) = ce ++ [some a, some e] := fun a b e => by rw [List.set_append_right _ _ (by omega)]; simp
  have hS : ∀ u, u < S.length → Bw k m (gB S u) := fun u hu => hw _ (by simp [gB, hu])
  let W := wideW k S
  let rs : Nat → List D := fun i => (List.range i).map fun u => .tup (rowD W S.length u)
  refine run_nx (st1 := ⟨[some (iD k), some (rowsD R m), some (.lst (S.map bD)), some (.ref ce.length), none, none, none, none, none], ce ++ [some (.own [])]⟩) ?_ ?_
  · rw [es_par]
    simp [hb, setN]
  refine run_for (ds := enumD 0 (S.map bD)) (l := []) (st1 := ⟨[some (iD k), some (rowsD R m), some (.lst (S.map bD)), some (.ref ce.length), none, none, none, none, none], ce ++ [some (.own [])]⟩) (J := fun i st => ∃ w x y z, st = ⟨[some (iD k), some (rowsD R m), some (.lst (S.map bD)), some (.ref ce.length), w, x, none, y, z], ce ++ [some (.own (rs i))]⟩) (by simp) ⟨none, none, none, none, by simp [rs]⟩ ?_ ?_
  · rintro i d st hd ⟨w, x, y, z, rfl⟩
    rw [enum_S] at hd
    obtain ⟨hi, hd⟩ := List.getElem?_eq_some_iff.mp hd
    simp only [List.length_map, List.length_range] at hi
    simp only [List.getElem_map, List.getElem_range] at hd
    subst hd
    refine ⟨⟨[some (iD k), some (rowsD R m), some (.lst (S.map bD)), some (.ref ce.length), some (iD i), some (bD (gB S i)), none, y, z], ce ++ [some (.own (rs i))]⟩, by simp [Ts.len], ?_⟩
    refine run_new (ds := []) (d := .new []) (st1 := ⟨[some (iD k), some (rowsD R m), some (.lst (S.map bD)), some (.ref ce.length), some (iD i), some (bD (gB S i)), none, y, z], ce ++ [some (.own (rs i))]⟩) (by simp) (.inl rfl) ?_
    refine run_for (ds := enumD 0 (S.map bD)) (l := []) (st1 := ⟨[some (iD k), some (rowsD R m), some (.lst (S.map bD)), some (.ref ce.length), some (iD i), some (bD (gB S i)), some (.ref (ce.length + 1)), y, z], ce ++ [some (.own (rs i)), some (.own [])]⟩) (J := fun j st => ∃ y z, st = ⟨[some (iD k), some (rowsD R m), some (.lst (S.map bD)), some (.ref ce.length), some (iD i), some (bD (gB S i)), some (.ref (ce.length + 1)), y, z], ce ++ [some (.own (rs i)), some (.own ((List.range j).map fun v => iD (W i v)))]⟩) ?_ ⟨y, z, by simp⟩ ?_ ?_
    · simp
    · rintro j d st hd ⟨y, z, rfl⟩
      rw [enum_S] at hd
      obtain ⟨hj, hd⟩ := List.getElem?_eq_some_iff.mp hd
      simp only [List.length_map, List.length_range] at hj
      simp only [List.getElem_map, List.getElem_range] at hd
      subst hd
      let st2 : OV.S := ⟨[some (iD k), some (rowsD R m), some (.lst (S.map bD)), some (.ref ce.length), some (iD i), some (bD (gB S i)), some (.ref (ce.length + 1)), some (iD j), some (bD (gB S j))], ce ++ [some (.own (rs i)), some (.own ((List.range j).map fun v => iD (W i v)))]⟩
      refine ⟨st2, by simp [st2, Ts.len], ?_⟩
      refine run_append (c := ce.length + 1) (d := iD (W i j)) (x := iD (W i j)) (st1 := st2) rfl hl1 (g2 _ _) ?_ (g2 _ _) rfl ?_ (run_nil ⟨.inl rfl, some (iD j), some (bD (gB S j)), ?_⟩)
      · by_cases h : (gB S i).1 = (gB S j).1
        · simp [st2, bD_0, Int.ofNat_inj, h, W, wideW, betw]
        · have e1 := fun lk ce => law_note_ev (hS i hi) (hS j hj) h lk ce (n + 1)
          have e2 := fun lk ce => law_note_ev (hS j hj) (hS i hi) (Ne.symm h) lk ce (n + 1)
          have hm := fun ce => o_mod (ce := ce) (i := ((noteN (gB S i) (gB S j).1 : Nat) : Int) + (noteN (gB S j) (gB S i).1 : Nat)) (j := (k : Int)) (by omega)
          simp [st2, bD_0, Int.ofNat_inj, h, W, wideW, betw, e1, e2, hm]
      · rw [List.length_map, List.length_range]; exact Nat.lt_of_lt_of_le (Nat.lt_of_lt_of_le hj hl) (by decide)
      · rw [trim_self (by simp [st2, s2]), s2, List.range_succ, List.map_append]; rfl
    rintro st ⟨y, z, rfl⟩
    rw [show (enumD 0 (S.map bD)).length = S.length by rw [enum_S]; simp]
    refine run_set (c := ce.length + 1) (j := i) (d := .non) (x := .non) (st1 := ⟨[some (iD k), some (rowsD R m), some (.lst (S.map bD)), some (.ref ce.length), some (iD i), some (bD (gB S i)), some (.ref (ce.length + 1)), y, z], ce ++ [some (.own (rs i)), some (.own ((List.range S.length).map fun v => iD (W i v)))]⟩) (st2 := ⟨[some (iD k), some (rowsD R m), some (.lst (S.map bD)), some (.ref ce.length), some (iD i), some (bD (gB S i)), some (.ref (ce.length + 1)), y, z], ce ++ [some (.own (rs i)), some (.own ((List.range S.length).map fun v => iD (W i v)))]⟩) (by simp) rfl hl1 (g2 _ _) (by simp) (g2 _ _) rfl (by simpa using hi) ?_
    rw [s2, row_set]
    have hv : ∀ d ∈ rowD W S.length i, isV d = true := fun d hd => by
      obtain ⟨x, _, rfl⟩ := List.mem_map.mp hd
      split <;> rfl
    have ht := b_tuple (isL_seqV (.ref (g2 (.own (rs i)) (.own (rowD W S.length i)))) hv) (by rw [rowD, List.length_map, List.length_range]; exact nat_le_line (Nat.le_trans hl (by decide)))
    refine run_append (c := ce.length) (d := .tup (rowD W S.length i)) (x := .tup (rowD W S.length i)) (st1 := ⟨[some (iD k), some (rowsD R m), some (.lst (S.map bD)), some (.ref ce.length), some (iD i), some (bD (gB S i)), some (.ref (ce.length + 1)), y, z], ce ++ [some (.own (rs i)), some (.own (rowD W S.length i))]⟩) rfl hl0 (g1 _ _) ?_ (g1 _ _) rfl ?_ (run_nil ⟨.inl rfl, some (iD i), some (bD (gB S i)), dang (ce.length + 1) y, dang (ce.length + 1) z, ?_⟩)
    · simp [ht]
    · simp only [rs, List.length_map, List.length_range]; exact Nat.lt_of_lt_of_le (Nat.lt_of_lt_of_le hi hl) (by decide)
    · have e : rs i ++ [.tup (rowD W S.length i)] = rs (i + 1) := by simp only [rs]; rw [List.range_succ, List.map_append]; rfl
      unfold trim
      rw [if_neg (by simp), s1, e]
      simp [dang, rowsD, bD, List.take_append]
      exact List.take_of_length_le (by omega)
  · rintro st ⟨w, x, y, z, rfl⟩
    rw [show (enumD 0 (S.map bD)).length = S.length by rw [enum_S]; simp]
    refine run_ret (d := rowsD W S.length) (st1 := ⟨[some (iD k), some (rowsD R m), some (.lst (S.map bD)), some (.ref ce.length), w, x, none, y, z], ce ++ [some (.own (rs S.length))]⟩) ?_ (fr_V rfl ⟨rfl, by simp⟩)
    have hv : ∀ d ∈ rs S.length, isV d = true := fun d hd => by
      obtain ⟨x, _, rfl⟩ := List.mem_map.mp hd
      rfl
    have ht := b_tuple (ce := ce ++ [some (.own (rs S.length))]) (isL_seqV (.ref (g0 _)) hv) (by simp only [rs, List.length_map, List.length_range]; exact nat_le_line (Nat.le_trans hl (by decide)))
    simp [ht, rowsD, rs]
end OV
/-! text W94G -/
namespace OV
open PySem (Str PyData NestedKey)
theorem intsD_nD (xs : List Nat) : intsD (nD xs) = some (xs.map fun x : Nat => (x : Int)) := by
  rw [← intsD_map]; simp [nD, Function.comp_def]
theorem dedI_aux : ∀ (is acc : List Int), (acc ++ is).Nodup → is.foldl (fun acc x => if acc.any (· == x) then acc else acc ++ [x]) acc = acc ++ is
  | [], acc, _ => by simp
  | i :: is, acc, h => by
    have hn : acc.any (· == i) = false := by
      rw [List.any_eq_false]
      intro x hx
      have := (List.nodup_append.mp h).2.2 x hx i List.mem_cons_self
      simpa using this
    rw [List.foldl_cons, hn]
    simp only [Bool.false_eq_true, if_false]
    rw [dedI_aux is (acc ++ [i]) (by simpa using h), List.append_assoc]; rfl
theorem dedI_nodup {is : List Int} (h : is.Nodup) : dedI is = is := by
  have := dedI_aux is [] (by simpa using h)
  simpa [dedI] using this
theorem nodup_cast {xs : List Nat} (h : xs.Nodup) : (xs.map fun x : Nat => (x : Int)).Nodup := List.Pairwise.map _ (fun a b hab => by simpa [Int.ofNat_inj] using hab) h
theorem lenSet_nD {ce : Ce} {xs : List Nat} (h : xs.Nodup) (hl : xs.length ≤ 1000) : opB ce .lenSet [.tup (nD xs)] = some (iD xs.length) := by
  simp only [opB, sw_tup, intsD_nD, dedI_nodup (nodup_cast h), List.length_map]
  rw [if_pos (by omega)]
def ent (R : Nat → Nat → Nat) (u v : Nat) : Option Nat := if u = v then none else some (R u v)
def entD (R : Nat → Nat → Nat) (u v : Nat) : D := optD (fun i : Nat => D.int (i : Int)) (ent R u v)
theorem rowD_ent (R : Nat → Nat → Nat) (n u : Nat) : rowD R n u = (List.range n).map (entD R u) := by
  apply List.map_congr_left
  intro v _
  unfold entD ent
  split <;> rfl
theorem row_ent {R : Nat → Nat → Nat} {n u v : Nat} (h : v < n) {ce : Ce} : opIdx ce (.tup (rowD R n u)) (iD v) = some (entD R u v) := by
  rw [rowD_ent]; simp [h]
theorem lkO_V' {d : D} (h : isV d = true) : lkO d = [] := lkO_V h
theorem entD_V (R : Nat → Nat → Nat) (u v : Nat) : isV (entD R u v) = true := by unfold entD ent; split <;> rfl
@[simp] theorem lkO_entD (R : Nat → Nat → Nat) (u v : Nat) : lkO (entD R u v) = [] := lkO_V (entD_V R u v)
@[simp] theorem fz_entD (R : Nat → Nat → Nat) (u v : Nat) : fzD (entD R u v) = some (entD R u v) := fz_V (entD_V R u v)
/-- a likeness -/
structure Lk (R : Nat → Nat → Nat) (m : Nat) (here there : List Nat) : Prop where
  h : ∀ x ∈ here, x < m
  t : ∀ x ∈ there, x < m
  hn : here.Nodup
  tn : there.Nodup
  l : here.length = there.length
  e : ∀ i j (hi : i < here.length) (hj : j < here.length), ent R here[i] here[j] = ent R (there[i]'(l ▸ hi)) (there[j]'(l ▸ hj))
  b : here.length ≤ 100
theorem ent_eq {ce : Ce} {R : Nat → Nat → Nat} {u v u' v' : Nat} : opCmp ce .eq (entD R u v) (entD R u' v') = some (decide (ent R u v = ent R u' v')) := enc_eq enc_onat (by decide) _ _
theorem ent_ne {ce : Ce} {R R' : Nat → Nat → Nat} {u v u' v' : Nat} : opCmp ce .ne (entD R u v) (entD R' u' v') = some (!decide (ent R u v = ent R' u' v')) := enc_ne enc_onat (by decide) _ _
theorem blsD_true (n : Nat) : blsD (List.replicate n (.bl true)) = some (List.replicate n true) := by
  have := blsD_map (List.replicate n true)
  rwa [List.map_replicate] at this
theorem b_all_true {ce : Ce} {ds : List D} (h : ∀ d ∈ ds, d = .bl true) : opB ce .all [.new ds] = some (.bl true) := by
  have e : ds = List.replicate ds.length (.bl true) := List.eq_replicate_iff.mpr ⟨rfl, h⟩
  rw [e]
  simp only [opB, lv_new, blsD_true]
  simp
theorem nD_get2 {xs : List Nat} {i : Nat} (h : i < xs.length) {ce : Ce} : opIdx ce (.tup (nD xs)) (iD i) = some (iD xs[i]) := by simp [h]
theorem is_likeness_ev {R : Nat → Nat → Nat} {m : Nat} {here there : List Nat} (h : Lk R m here there) (hm : m ≤ 100) (lk : List Nat) (ce : Ce) (n : Nat) : (ka (n + 3)).fn "is_likeness" [rowsD R m, .tup (nD here), .tup (nD there)] lk ce = .ok (.bl true) ce := by
  refine FRun.eq (fn_run t_is_likeness rfl ?_)
  simp only [d_is_likeness, c_is_likeness, n_is_likeness]
  have hb := h.b
  have hbt : there.length ≤ 100 := by have := h.l; omega
  refine run_for (ds := [.tup (nD here), .tup (nD there)]) (l := []) (st1 := ⟨[some (rowsD R m), some (.tup (nD here)), some (.tup (nD there)), none, none, none, none, none], ce⟩) (J := fun _ st => ∃ x, st = ⟨[some (rowsD R m), some (.tup (nD here)), some (.tup (nD there)), x, none, none, none, none], ce⟩) ?_ ⟨none, rfl⟩ ?_ ?_
  · simp [show 2 ≤ line from by decide]
  · rintro i d st hd ⟨x, rfl⟩
    obtain ⟨xs, rfl, x1, x2, x3⟩ : ∃ xs, d = .tup (nD xs) ∧ (∀ x ∈ xs, x < m) ∧ xs.Nodup ∧ xs.length ≤ 100 := by
      have := List.mem_of_getElem? hd
      simp only [List.mem_cons, List.not_mem_nil, or_false] at this
      rcases this with rfl | rfl
      · exact ⟨here, rfl, h.h, h.hn, hb⟩
      · exact ⟨there, rfl, h.t, h.tn, hbt⟩
    let st2 : S := ⟨[some (rowsD R m), some (.tup (nD here)), some (.tup (nD there)), some (.tup (nD xs)), none, none, none, none], ce⟩
    refine ⟨st2, by simp [st2], ?_⟩
    have c2 := comp_nm (k := lev tab mach.L (n + 2)) (lk := lk) (l := []) (own := [7]) (i := 7) (it := .pl (.var 3)) (e := .call "is_index" (.cons (.var 7) (.cons (.callB .len (.cons (.var 0) .nil)) .nil))) (as := xs) (f := iD) (g := fun _ => .bl true) (st := st2) (st1 := st2) (by simp [st2, nD]) (nat_le_line (by omega)) (fun _ _ => rfl) (fun a ha => ⟨.bl true, ⟨st2.sl.set 7 (some (iD a)), st2.ce⟩, by
      have := is_index_ev (T := tab) (L := mach.L) t_is_number t_is_index (a : Int) (m : Int) lk ce n
      have ham := x1 a ha
      simp [st2, rowsD_len, this, ham], rfl, rfl⟩)
    have hall : ∀ ce, opB ce .all [.new (xs.map fun _ => D.bl true)] = some (.bl true) := fun ce => b_all_true (by simp)
    refine run_if (t := false) (st1 := st2) ?_ (run_if (t := false) (st1 := st2) ?_ (run_nil ⟨.inl rfl, some (.tup (nD xs)), ?_⟩))
    · simp only [st2] at c2
      simp [st2, c2, hall]
    · simp [st2, lenSet_nD x2 (Nat.le_trans x3 (by decide))]
    · rw [trim_self (by simp [st2])]
  rintro st ⟨x, rfl⟩
  refine run_if (t := false) (st1 := ⟨[some (rowsD R m), some (.tup (nD here)), some (.tup (nD there)), x, none, none, none, none], ce⟩) (by simp [h.l]) ?_
  have hr : ∀ ce, opB ce .range1 [.int (here.length : Int)] = some (.rng 0 (here.length : Int)) := fun ce => b_range (by omega)
  refine run_nm (d := .rng 0 (here.length : Int)) (x := .rng 0 (here.length : Int)) (st1 := ⟨[some (rowsD R m), some (.tup (nD here)), some (.tup (nD there)), x, none, none, none, none], ce⟩) (by simp [hr]) rfl ?_
  let st3 : S := ⟨[some (rowsD R m), some (.tup (nD here)), some (.tup (nD there)), x, some (.rng 0 (here.length : Int)), none, none, none], ce⟩
  have c3 := comp_two (k := lev tab mach.L (n + 2)) (lk := lk) (l := []) (l2 := []) (own := [5, 6]) (i := 5) (j := 6) (it := .pl (.var 4)) (jt := .pl (.var 4)) (e := .cmp .eq (.idx (.idx (.var 0) (.idx (.var 1) (.var 5))) (.idx (.var 1) (.var 6))) (.idx (.idx (.var 0) (.idx (.var 2) (.var 5))) (.idx (.var 2) (.var 6)))) (as := List.range here.length) (bs := fun _ => List.range here.length) (f := iD) (f2 := iD) (g := fun _ _ => .bl true) (st := st3) (st1 := st3) (by simp [st3, rngD_eq]) (by
      rw [List.length_flatMap]
      simp only [List.length_map, List.length_range]
      rw [List.map_const', List.sum_replicate_nat, List.length_range]
      exact Nat.le_trans (Nat.mul_le_mul hb hb) (by decide)) (fun _ _ => rfl) (fun a ha => by simp [st3, rngD_eq]) (fun _ _ _ _ => rfl) (fun a ha b hb' => by
      have ha : a < here.length := by simpa using ha
      have hb : b < here.length := by simpa using hb'
      have ha' : a < there.length := by rw [← h.l]; exact ha
      have hb' : b < there.length := by rw [← h.l]; exact hb
      have h1 := h.h _ (List.getElem_mem ha)
      have h2 := h.h _ (List.getElem_mem hb)
      have h3 := h.t _ (List.getElem_mem ha')
      have h4 := h.t _ (List.getElem_mem hb')
      exact ⟨.bl true, ⟨(st3.sl.set 5 (some (iD a))).set 6 (some (iD b)), st3.ce⟩, by
        simp [st3, -i_tup, nD_get2, ha, hb, ha', hb', rowsD_get, row_ent, h1, h2, h3, h4, ent_eq, h.e a b ha hb], rfl, rfl⟩)
  have hall : ∀ ce, opB ce .all [.new ((List.range here.length).flatMap fun _ => (List.range here.length).map fun _ => D.bl true)] = some (.bl true) := fun ce => b_all_true (by simp)
  refine run_ret (d := .bl true) (st1 := st3) ?_ (fr_V rfl ⟨rfl, by simp [st3]⟩)
  show oE _ _ _ st3 = _
  rw [ev_callB, evs_cons, c3]
  simp only [Res.bind_ok, evs_nil]
  rw [hall]; rfl
end OV
/-! text W94H -/
namespace OV
open PySem (Str PyData NestedKey)
def oD : Option Nat → D := optD fun i : Nat => D.int (i : Int)
@[simp] theorem isK_non : isK none .non = some true := rfl
@[simp] theorem isK_int (i : Int) : isK none (.int i) = some false := rfl
theorem oD_V (x : Option Nat) : isV (oD x) = true := by cases x <;> rfl
def vals (f : List (Option Nat)) : List Nat := f.filterMap id
theorem vals_set : ∀ (f : List (Option Nat)) (u x : Nat), f[u]? = some none → (vals (f.set u (some x))).Perm (x :: vals f)
  | [], u, x, h => by simp at h
  | a :: f, 0, x, h => by
    simp at h
    subst h
    simp [vals]
  | a :: f, u + 1, x, h => by
    have ih := vals_set f u x (by simpa using h)
    cases a with
    | none => simpa [vals] using ih
    | some a =>
      simp only [vals, List.set_cons_succ, List.filterMap_cons, id] at ih ⊢
      exact (ih.cons a).trans (List.Perm.swap x a _)
theorem vals_le : ∀ f : List (Option Nat), (vals f).length ≤ f.length := fun f => List.length_filterMap_le _ _
theorem vals_lt : ∀ (f : List (Option Nat)) (u : Nat), f[u]? = some none → (vals f).length < f.length
  | [], u, h => by simp at h
  | a :: f, 0, h => by
    simp at h
    subst h
    have := vals_le f
    show (vals f).length < f.length + 1
    omega
  | a :: f, u + 1, h => by
    have ih := vals_lt f u (by simpa using h)
    cases a with
    | none =>
      show (vals f).length < f.length + 1
      omega
    | some a =>
      show (vals f).length + 1 < f.length + 1
      omega
theorem vals_all : ∀ f : List (Option Nat), (∀ u < f.length, f[u]? ≠ some none) → f = (vals f).map some
  | [], _ => rfl
  | a :: f, h => by
    cases a with
    | none => exact absurd rfl (h 0 (by simp))
    | some a =>
      have ih := vals_all f fun u hu => by have := h (u + 1) (by simp; omega); simpa using this
      simp only [vals, List.filterMap_cons, id, List.map_cons] at ih ⊢
      rw [← ih]
theorem zip_nD : ∀ (xs ys : List Nat), zipD (nD xs) (nD ys) = (xs.zip ys).map fun p => .tup [iD p.1, iD p.2]
  | [], _ => by simp [nD, zipD]
  | _ :: _, [] => by simp [nD, zipD]
  | x :: xs, y :: ys => by
    have := zip_nD xs ys
    simp only [nD, List.map_cons, zipD, List.zip_cons_cons] at this ⊢
    rw [this]
theorem i_ref {ce : Ce} {c u : Nat} {ds : List D} {d : D} (h : ce[c]? = some (some (.own ds))) (hu : ds[u]? = some d) (hv : isV d = true) : opIdx ce (.ref c) (iD u) = some d := by
  have hl : look (some c) d = some d := by
    cases d <;> first | rfl | cases hv
  simp only [opIdx, cell_own h, atI_ofNat, hu, hl]
theorem nodup_get {α : Type} {xs : List α} (h : xs.Nodup) {i j : Nat} (hi : i < xs.length) (hj : j < xs.length) (e : xs[i] = xs[j]) : i = j := by
  rcases Nat.lt_trichotomy i j with l | l | l
  · exact absurd e (List.pairwise_iff_getElem.mp h i j hi hj l)
  · exact l
  · exact absurd e.symm (List.pairwise_iff_getElem.mp h j i hj hi l)
theorem perm_split {m : Nat} {xs : List Nat} (hx : ∀ x ∈ xs, x < m) (hn : xs.Nodup) : (xs ++ (List.range m).filter fun x => !decide (x ∈ xs)).Perm (List.range m) := by
  have h1 : ((List.range m).filter fun x => decide (x ∈ xs)).Perm xs := by
    refine (List.perm_ext_iff_of_nodup (List.Pairwise.filter _ List.nodup_range) hn).mpr fun a => ?_
    simp only [List.mem_filter, List.mem_range, decide_eq_true_eq]
    exact ⟨fun h => h.2, fun h => ⟨hx a h, h⟩⟩
  exact (List.Perm.append_right _ h1.symm).trans (List.filter_append_perm _ _)
theorem moved_ev {m : Nat} {here there : List Nat} (hh : ∀ x ∈ here, x < m) (ht : ∀ x ∈ there, x < m) (hn : here.Nodup) (tn : there.Nodup) (hl : here.length = there.length) (hm : m ≤ 100) (lk : List Nat) (ce : Ce) (hlk : ∀ x ∈ lk, x < ce.length) (n : Nat) :
    ∃ σ : List Nat, σ.Perm (List.range m) ∧ (∀ j (h : j < here.length), σ[here[j]]? = some (there[j]'(hl ▸ h))) ∧ (ka (n + 1)).fn "moved_places" [iD m, .tup (nD here), .tup (nD there)] lk ce = .ok (.own (nD σ)) ce := by
  suffices h : FRun ((ka (n + 1)).fn "moved_places" [iD m, .tup (nD here), .tup (nD there)] lk ce) fun d ce' => ce' = ce ∧ ∃ σ : List Nat, σ.Perm (List.range m) ∧ (∀ j (h : j < here.length), σ[here[j]]? = some (there[j]'(hl ▸ h))) ∧ d = .own (nD σ) by
    obtain ⟨_, _, e, rfl, σ, a, b, rfl⟩ := h
    exact ⟨σ, a, b, e⟩
  refine fn_run t_moved_places rfl ?_
  simp only [d_moved_places, c_moved_places, n_moved_places]
  have hl0 : lk.contains ce.length = false := hl0_of hlk (Nat.le_refl _)
  have hl1 : lk.contains (ce.length + 1) = false := hl0_of hlk (by omega)
  have hl0' : ((ce.length + 1) :: lk).contains ce.length = false := by simp; simpa using hl0
  have g0 : ∀ d : D, (ce ++ [some d])[ce.length]? = some (some d) := fun d => by simp
  have g1 : ∀ a b : D, (ce ++ [some a, some b])[ce.length]? = some (some a) := fun a b => by simp
  have g2 : ∀ a b : D, (ce ++ [some a, some b])[ce.length + 1]? = some (some b) := fun a b => by rw [List.getElem?_append_right (by omega)]; simp
  have s1 : ∀ a b e : D, (ce ++ [some a, some b]).set ce.length (some e) = ce ++ [some e, some b] := fun a b e => by rw [List.set_append_right _ _ (Nat.le_refl _)]; simp
  have s2 : ∀ a b e : D, (ce ++ [some a, some b]).set (ce.length + 1) (some e) = ce ++ [some a, some e] := fun a b e => by rw [List.set_append_right _ _ (by omega)]; simp
  have hr : ∀ ce, opB ce .range1 [.int (m : Int)] = some (.rng 0 (m : Int)) := fun ce => b_range (by omega)
  let st0 : S := ⟨[some (iD m), some (.tup (nD here)), some (.tup (nD there)), none, none, none, none, none], ce⟩
  let fr : List Nat := (List.range m).filter fun x => !decide (x ∈ there)
  have c1 := comp_if (k := lev tab mach.L n) (lk := lk) (l := []) (own := [7]) (i := 7) (it := .pl (.callB .range1 (.cons (.var 0) .nil))) (c := .cmp .nin (.var 7) (.var 2)) (e := .var 7) (as := List.range m) (f := iD) (g := iD) (p := fun x => !decide (x ∈ there)) (st := st0) (st1 := st0) (by simp [st0, hr, rngD_eq]) (by rw [List.length_range]; exact nat_le_line (by omega)) (fun _ _ => rfl) (fun a ha => by
      simp [st0, enc_nin enc_nat (by decide) a (xs := there) (ce := ce) (d := .tup (nD there)) rfl]) (fun a ha _ => ⟨iD a, ⟨st0.sl.set 7 (some (iD a)), st0.ce⟩, by simp [st0], rfl, rfl⟩)
  refine run_new (ds := nD fr) c1 (.inl rfl) ?_
  let st1 : S := ⟨[some (iD m), some (.tup (nD here)), some (.tup (nD there)), some (.ref ce.length), none, none, none, none], ce ++ [some (.own (nD fr))]⟩
  have c2 := comp_nm (k := lev tab mach.L n) (lk := lk) (l := []) (own := [7]) (i := 7) (it := .pl (.callB .range1 (.cons (.var 0) .nil))) (e := .non) (as := List.range m) (f := iD) (g := fun _ => oD none) (st := st1) (st1 := st1) (by simp [st1, hr, rngD_eq]) (by rw [List.length_range]; exact nat_le_line (by omega)) (fun _ _ => rfl) (fun a ha => ⟨.non, ⟨st1.sl.set 7 (some (iD a)), st1.ce⟩, by simp [st1], rfl, rfl⟩)
  have hx : ((List.range m).map fun _ => oD none) = ((List.range m).map fun _ => (none : Option Nat)).map oD := by simp
  rw [hx] at c2
  refine run_new (ds := ((List.range m).map fun _ => (none : Option Nat)).map oD) (st1 := st1) c2 (.inl rfl) ?_
  have hs : (⟨st1.sl.set 4 (some (.ref st1.ce.length)), st1.ce ++ [some (.own (((List.range m).map fun _ => (none : Option Nat)).map oD))]⟩ : S) = ⟨[some (iD m), some (.tup (nD here)), some (.tup (nD there)), some (.ref ce.length), some (.ref (ce.length + 1)), none, none, none], ce ++ [some (.own (nD fr)), some (.own (((List.range m).map fun _ => (none : Option Nat)).map oD))]⟩ := by
    simp [st1]
  rw [hs]
  refine run_for (ds := (here.zip there).map fun p => .tup [iD p.1, iD p.2]) (l := []) (st1 := ⟨[some (iD m), some (.tup (nD here)), some (.tup (nD there)), some (.ref ce.length), some (.ref (ce.length + 1)), none, none, none], ce ++ [some (.own (nD fr)), some (.own (((List.range m).map fun _ => (none : Option Nat)).map oD))]⟩) (J := fun i st => ∃ (f : List (Option Nat)) (x y : Option D), st = ⟨[some (iD m), some (.tup (nD here)), some (.tup (nD there)), some (.ref ce.length), some (.ref (ce.length + 1)), x, y, none], ce ++ [some (.own (nD fr)), some (.own (f.map oD))]⟩ ∧ f.length = m ∧ (∀ j (h : j < here.length), j < i → f[here[j]]? = some (some (there[j]'(hl ▸ h)))) ∧ (∀ u, u < m → u ∉ here.take i → f[u]? = some none) ∧ (vals f).Perm (there.take i)) ?_ ⟨_, none, none, rfl, by simp, by simp, ?_, ?_⟩ ?_ ?_
  · simp [zip_nD, isT, lkI]
  · intro u hu _; simp [hu]
  · simp [vals]
  · rintro i d st hd ⟨f, x, y, rfl, f1, f2, f3, f4⟩
    obtain ⟨hi, hd⟩ := List.getElem?_eq_some_iff.mp hd
    simp only [List.length_map, List.length_zip] at hi
    have hih : i < here.length := by omega
    have hit : i < there.length := by omega
    simp only [List.getElem_map, List.getElem_zip] at hd
    subst hd
    have hhm := hh _ (List.getElem_mem hih)
    let st2 : S := ⟨[some (iD m), some (.tup (nD here)), some (.tup (nD there)), some (.ref ce.length), some (.ref (ce.length + 1)), some (iD here[i]), some (iD there[i]), none], ce ++ [some (.own (nD fr)), some (.own (f.map oD))]⟩
    refine ⟨st2, by simp [st2, Ts.len], ?_⟩
    refine run_set (c := ce.length + 1) (j := here[i]) (d := iD there[i]) (x := iD there[i]) (st1 := st2) (st2 := st2) (by simp [st2]) rfl hl1 (g2 _ _) (by simp [st2]) (g2 _ _) rfl (by simp [f1, hhm]) (run_nil ⟨.inl rfl, f.set here[i] (some there[i]), some (iD here[i]), some (iD there[i]), ?_, by simp [f1], ?_, ?_, ?_⟩)
    · rw [trim_self (by simp [st2, s2]), s2, List.map_set]; rfl
    · intro j hj hji
      by_cases e : j = i
      · subst e
        rw [List.getElem?_set_self (by omega)]
      · have hne : here[i] ≠ here[j] := fun he => e (nodup_get hn hj hih he.symm)
        rw [List.getElem?_set_ne hne]
        exact f2 j hj (by omega)
    · intro u hu hnu
      rw [List.take_add_one, List.getElem?_eq_getElem hih] at hnu
      simp only [Option.toList_some, List.mem_append, List.mem_singleton, not_or] at hnu
      rw [List.getElem?_set_ne (Ne.symm hnu.2)]
      exact f3 u hu hnu.1
    · have hnone : f[here[i]]? = some none := f3 _ hhm fun hmem => by
        obtain ⟨j, hj, he⟩ := List.getElem_of_mem hmem
        rw [List.getElem_take] at he
        simp only [List.length_take] at hj
        have := nodup_get hn (by omega) hih he
        omega
      refine (vals_set f here[i] there[i] hnone).trans ?_
      rw [List.take_add_one, List.getElem?_eq_getElem hit]
      exact ((f4.cons there[i]).trans (List.perm_append_singleton _ _).symm)
  rintro st ⟨f, x, y, rfl, f1, f2, f3, f4⟩
  have hlz : (List.map (fun p => D.tup [iD p.1, iD p.2]) (here.zip there)).length = there.length := by simp; omega
  have f2 : ∀ j (h : j < here.length), f[here[j]]? = some (some (there[j]'(hl ▸ h))) := fun j h => f2 j h (by rw [hlz]; omega)
  rw [hlz, List.take_length] at f4
  have fr_perm : (vals f ++ fr).Perm (List.range m) := (List.Perm.append_right _ f4).trans (perm_split ht tn)
  refine run_for (ds := rngD m) (l := []) (st1 := ⟨[some (iD m), some (.tup (nD here)), some (.tup (nD there)), some (.ref ce.length), some (.ref (ce.length + 1)), x, y, none], ce ++ [some (.own (nD fr)), some (.own (f.map oD))]⟩) (J := fun i st => ∃ (f : List (Option Nat)) (g : List Nat) (x y : Option D), st = ⟨[some (iD m), some (.tup (nD here)), some (.tup (nD there)), some (.ref ce.length), some (.ref (ce.length + 1)), x, y, none], ce ++ [some (.own (nD g)), some (.own (f.map oD))]⟩ ∧ f.length = m ∧ (∀ j (h : j < here.length), f[here[j]]? = some (some (there[j]'(hl ▸ h)))) ∧ (∀ u, u < i → f[u]? ≠ some none) ∧ (vals f ++ g).Perm (List.range m)) ?_ ⟨f, fr, x, y, rfl, f1, f2, by simp, fr_perm⟩ ?_ ?_
  · simp [hr]
  · rintro i d st hd ⟨f, g, x, y, rfl, f1, f2, f3, f4⟩
    obtain ⟨hi, rfl⟩ := getElem?_rng hd
    let st2 : S := ⟨[some (iD m), some (.tup (nD here)), some (.tup (nD there)), some (.ref ce.length), some (.ref (ce.length + 1)), some (iD i), y, none], ce ++ [some (.own (nD g)), some (.own (f.map oD))]⟩
    refine ⟨st2, by simp [st2], ?_⟩
    have hfi : i < f.length := by omega
    obtain ⟨v, hv⟩ : ∃ v, f[i]? = some v := ⟨f[i], List.getElem?_eq_getElem hfi⟩
    have hidx := i_ref (u := i) (g2 (.own (nD g)) (.own (f.map oD))) (by rw [List.getElem?_map, hv]; rfl) (oD_V v)
    cases v with
    | some v =>
      have hidx : opIdx (ce ++ [some (.own (nD g)), some (.own (f.map oD))]) (.ref (ce.length + 1)) (iD i) = some (iD v) := hidx
      refine run_if (t := false) (st1 := st2) ?_ (run_nil ⟨.inl rfl, f, g, some (iD i), y, ?_, f1, f2, ?_, f4⟩)
      · simp [st2, hidx]
      · rw [trim_self (by simp [st2])]
      · intro u hu
        by_cases e : u = i
        · subst e; rw [hv]; simp
        · exact f3 u (by omega)
    | none =>
      have hlen := f4.length_eq
      have hlt := vals_lt f i hv
      rw [List.length_append, List.length_range] at hlen
      obtain ⟨a, g, rfl⟩ : ∃ a g', g = a :: g' := by
        cases g with
        | nil => simp at hlen; omega
        | cons a g => exact ⟨a, g, rfl⟩
      have hidx : opIdx (ce ++ [some (.own (nD (a :: g))), some (.own (f.map oD))]) (.ref (ce.length + 1)) (iD i) = some .non := hidx
      refine run_if (t := true) (st1 := st2) (by simp [st2, hidx]) ?_
      have hpop := ev_pop_run (k := lev tab mach.L n) (lk := [] ++ lk) (i := 3) (c := ce.length) (a := .int 0) (st := st2) (st1 := st2) (ds0 := nD (a :: g)) (ds := nD (a :: g)) (j := 0) (x := iD a) rfl hl0 (g1 _ _) (by simp) (g1 _ _) (by simp) (by decide)
      refine run_set (c := ce.length + 1) (j := i) (d := iD a) (x := iD a) (st1 := ⟨st2.sl, ce ++ [some (.own (nD g)), some (.own (f.map oD))]⟩) (st2 := ⟨st2.sl, ce ++ [some (.own (nD g)), some (.own (f.map oD))]⟩) (ds := f.map oD) ?_ rfl hl1 (g2 _ _) (by simp [st2]) (g2 _ _) rfl (by simp [f1, hi]) (run_nil ⟨.inl rfl, f.set i (some a), g, some (iD i), y, ?_, by simp [f1], ?_, ?_, ?_⟩)
      · rw [hpop]; simp only [st2, s1]; rfl
      · rw [trim_self (by simp [st2, s2]), s2, List.map_set]; rfl
      · intro j hj
        have hne : i ≠ here[j] := fun e => by
          have := f2 j hj
          rw [← e, hv] at this
          cases this
        rw [List.getElem?_set_ne hne]
        exact f2 j hj
      · intro u hu
        by_cases e : u = i
        · subst e; rw [List.getElem?_set_self hfi]; simp
        · rw [List.getElem?_set_ne (Ne.symm e)]; exact f3 u (by omega)
      · refine .trans ?_ f4
        have := (vals_set f i a hv).append_right g
        exact this.trans (List.perm_middle.symm)
  rintro st ⟨f, g, x, y, rfl, f1, f2, f3, f4⟩
  rw [rngD_length] at f3
  have hf := vals_all f (by rw [f1]; exact f3)
  have hlen := f4.length_eq
  have hvl : (vals f).length = m := by rw [← f1]; conv => rhs; rw [hf, List.length_map]
  rw [List.length_append, List.length_range, hvl] at hlen
  have hg : g = [] := List.eq_nil_of_length_eq_zero (by omega)
  subst hg
  rw [List.append_nil] at f4
  have hfo : f.map oD = nD (vals f) := by
    conv => lhs; rw [hf]
    simp [nD, oD, optD, Function.comp_def]
  refine run_ret (ev_mv_run (d := .own (f.map oD)) rfl hl1 (g2 _ _)) (fr_own ⟨?_, vals f, f4, ?_, by rw [hfo]⟩)
  · show (List.set _ _ _).take _ = _
    rw [List.set_append_right _ _ (by omega)]; simp
  · intro j hj
    have := f2 j hj
    rw [hf, List.getElem?_map] at this
    simpa using this
end OV
/-! text W94I -/
namespace OV
open PySem (Str PyData NestedKey)
def others (m u : Nat) : List Nat := (List.range m).filter fun v => decide (v ≠ u)
theorem others_all (m u : Nat) (h : m ≤ u) : others m u = List.range m := by
  unfold others
  rw [List.filter_eq_self]
  intro v hv
  have := List.mem_range.mp hv
  simp; omega
theorem others_eq : ∀ (m u : Nat), u < m → others m u = (List.range (m - 1)).map fun j => if j < u then j else j + 1
  | 0, u, h => absurd h (by omega)
  | m + 1, u, h => by
    have e : others (m + 1) u = others m u ++ if m = u then [] else [m] := by
      unfold others
      rw [List.range_succ, List.filter_append]
      by_cases e : m = u <;> simp [e]
    rw [e]
    by_cases hu : m = u
    · subst hu
      rw [others_all m m (Nat.le_refl _), if_pos rfl, List.append_nil, Nat.add_sub_cancel]
      apply List.ext_getElem (by simp)
      intro i h1 h2
      simp at h1
      simp [h1]
    · rw [others_eq m u (by omega), if_neg hu, Nat.add_sub_cancel]
      obtain ⟨m', rfl⟩ : ∃ m', m = m' + 1 := ⟨m - 1, by omega⟩
      rw [Nat.add_sub_cancel, List.range_succ, List.map_append, List.map_cons, List.map_nil, if_neg (by omega)]
theorem others_len (m u : Nat) (h : u < m) : (others m u).length = m - 1 := by rw [others_eq m u h]; simp
theorem others_get {m u v : Nat} (hu : u < m) (hv : v < m) (h : u ≠ v) : (others m u)[if v < u then v else v - 1]? = some v := by
  rw [others_eq m u hu, List.getElem?_map]
  by_cases hl : v < u
  · rw [if_pos hl, List.getElem?_range (by omega)]; simp [hl]
  · rw [if_neg hl, List.getElem?_range (by omega)]
    simp only [Option.map_some, Option.some.injEq]
    rw [if_neg (by omega)]; omega
theorem mem_others {m u v : Nat} : v ∈ others m u ↔ v < m ∧ v ≠ u := by simp [others]
def FN (R : Nat → Nat → Nat) (u v : Nat) : Nat := if v > u then R u v else 0
theorem firstN_eq (R : Nat → Nat → Nat) (m u : Nat) : firstN R m u = (others m u).map (FN R u) := rfl
theorem firstN_len {R : Nat → Nat → Nat} {m u : Nat} (h : u < m) : (firstN R m u).length = m - 1 := by rw [firstN_eq, List.length_map, others_len m u h]
theorem note_first {R : Nat → Nat → Nat} {m u v : Nat} (hu : u < m) (hv : v < m) (h : u ≠ v) : noteN (u, firstN R m u) v = FN R u v := by
  unfold noteN
  simp only
  rw [firstN_eq, List.getElem?_map, others_get hu hv h]; rfl
/-- notes made from a function -/
theorem note_map {m u v : Nat} {g : Nat → Nat} (hu : u < m) (hv : v < m) (h : u ≠ v) : noteN (u, (others m u).map g) v = g v := by
  unfold noteN
  simp only
  rw [List.getElem?_map, others_get hu hv h]; rfl
theorem note_others {m u : Nat} {ns : List Nat} (hu : u < m) (hl : ns.length = m - 1) : (others m u).map (fun v => noteN (u, ns) v) = ns := by
  apply List.ext_getElem?
  intro i
  rw [List.getElem?_map, others_eq m u hu, List.getElem?_map]
  by_cases hi : i < m - 1
  · rw [List.getElem?_range hi]
    simp only [Option.map_some, noteN]
    have : (if (if i < u then i else i + 1) < u then (if i < u then i else i + 1) else (if i < u then i else i + 1) - 1) = i := by
      by_cases h1 : i < u
      · rw [if_pos h1, if_pos h1]
      · rw [if_neg h1, if_neg (by omega)]; omega
    rw [this]
    have : i < ns.length := by omega
    rw [List.getElem?_eq_getElem this]; rfl
  · rw [List.getElem?_eq_none (by simp; omega), List.getElem?_eq_none (by omega)]; rfl
def gσ (σ : List Nat) (u : Nat) : Nat := (σ[u]?).getD 0
/-- what is added to a note -/
def shI (R : Nat → Nat → Nat) (k : Nat) (here σ : List Nat) (u v : Nat) : Int :=
  if u ∈ here then ((FN R (gσ σ u) (gσ σ v) : Int) - FN R u v) % k
  else if v ∈ here then -(((FN R (gσ σ v) (gσ σ u) : Int) - FN R v u) % k) % k
  else 0
structure Sg (m : Nat) (σ : List Nat) : Prop where
  p : σ.Perm (List.range m)
section
variable {m : Nat} {σ : List Nat} (h : Sg m σ)
include h
theorem Sg.len : σ.length = m := by have := h.p.length_eq; simpa using this
theorem Sg.lt {u : Nat} (hu : u < m) : gσ σ u < m := by
  have hl : u < σ.length := by rw [h.len]; exact hu
  have := h.p.subset (List.getElem_mem hl)
  simp only [gσ, List.getElem?_eq_getElem hl, Option.getD_some]
  simpa using this
theorem Sg.inj {u v : Nat} (hu : u < m) (hv : v < m) (e : gσ σ u = gσ σ v) : u = v := by
  have hl : u < σ.length := by rw [h.len]; exact hu
  have hl2 : v < σ.length := by rw [h.len]; exact hv
  simp only [gσ, List.getElem?_eq_getElem hl, List.getElem?_eq_getElem hl2, Option.getD_some] at e
  exact nodup_get (h.p.nodup_iff.mpr List.nodup_range) hl hl2 e
theorem Sg.get {u : Nat} (hu : u < m) {ce : Ce} : opIdx ce (.lst (nD σ)) (iD u) = some (iD (gσ σ u)) := by
  have hl : u < σ.length := by rw [h.len]; exact hu
  simp [gσ, hl]
end
theorem enc_n : Enc iD 0 := enc_nat
theorem in_nD {ce : Ce} {u : Nat} {xs : List Nat} : opCmp ce .inn (iD u) (.tup (nD xs)) = some (decide (u ∈ xs)) := enc_in enc_n (by decide) u rfl
theorem nin_nD {ce : Ce} {u : Nat} {xs : List Nat} : opCmp ce .nin (iD u) (.tup (nD xs)) = some (!decide (u ∈ xs)) := enc_nin enc_n (by decide) u rfl
theorem shift_ev1 {R : Nat → Nat → Nat} {k m : Nat} {here σ : List Nat} (hk : 0 < k) (hm : m ≤ 100) (hs : Sg m σ) {u v : Nat} (hu : u < m) (hv : v < m) (hne : u ≠ v) (hin : u ∈ here) (lk : List Nat) (ce : Ce) (n : Nat) : (ka (n + 2)).fn "shift" [iD k, rowsD R m, .tup (nD here), .lst (nD σ), iD u, iD v] lk ce = .ok (.int (shI R k here σ u v)) ce := by
  rw [ka, lev_fn t_shift _ _ _ _ rfl, oF]
  have hσu := hs.lt hu
  have hσv := hs.lt hv
  have hσ : gσ σ u ≠ gσ σ v := fun e => hne (hs.inj hu hv e)
  have f1 := fun lk ce => first_bearer_ev R m (gσ σ u) hσu (by omega) lk ce n
  have f2 := fun lk ce => first_bearer_ev R m u hu (by omega) lk ce n
  have n1 := fun lk ce => note_at_ev (firstN R m (gσ σ u)) (gσ σ u) (gσ σ v) (by rw [firstN_len hσu]; exact note_ix hσu hσv hσ) hσ lk ce n
  have n2 := fun lk ce => note_at_ev (firstN R m u) u v (by rw [firstN_len hu]; exact note_ix hu hv hne) hne lk ce n
  rw [note_first hσu hσv hσ] at n1
  rw [note_first hu hv hne] at n2
  have hmod := fun i => o_mod (ce := ce) (i := i) (j := (k : Int)) (by omega)
  simp [d_shift, c_shift, n_shift, in_nD, hin, hs.get hu, hs.get hv, f1, f2, bD_1, n1, n2, hmod, shI, -i_lst]
theorem shift_ev {R : Nat → Nat → Nat} {k m : Nat} {here σ : List Nat} (hk : 0 < k) (hm : m ≤ 100) (hs : Sg m σ) {u v : Nat} (hu : u < m) (hv : v < m) (hne : u ≠ v) (lk : List Nat) (ce : Ce) (n : Nat) : (ka (n + 3)).fn "shift" [iD k, rowsD R m, .tup (nD here), .lst (nD σ), iD u, iD v] lk ce = .ok (.int (shI R k here σ u v)) ce := by
  by_cases hin : u ∈ here
  · exact shift_ev1 hk hm hs hu hv hne hin lk ce (n + 1)
  rw [ka, lev_fn t_shift _ _ _ _ rfl, oF]
  have hmod := fun i => o_mod (ce := ce) (i := i) (j := (k : Int)) (by omega)
  by_cases hin2 : v ∈ here
  · have s1 := fun lk ce => shift_ev1 (R := R) hk hm hs hv hu (Ne.symm hne) hin2 lk ce n
    have e : shI R k here σ u v = -(shI R k here σ v u) % k := by simp [shI, hin, hin2]
    rw [e]
    simp [d_shift, c_shift, n_shift, in_nD, hin, hin2, s1, hmod]
  · simp [d_shift, c_shift, n_shift, in_nD, hin, hin2, shI]
theorem fzDs_nD : ∀ xs : List Nat, fzDs (nD xs) = some (nD xs)
  | [] => rfl
  | x :: xs => by
    have := fzDs_nD xs
    simp only [nD, List.map_cons, fzDs, fz_int] at this ⊢
    rw [this]
theorem arg_own_nD (xs : List Nat) : arg (.own (nD xs)) = some (.lst (nD xs)) := by
  simp only [arg, fzD, fzDs_nD]
end OV
/-! text W94J -/
namespace OV
open PySem (Str PyData NestedKey)
/-! ### bearers as keys -/
def numK (xs : List Nat) : List NestedKey := xs.map fun x : Nat => NestedKey.num (x : Int)
def kQ (b : Br) : NestedKey := .tup [.num (b.1 : Int), .tup (numK b.2)]
theorem keysN_nD : ∀ xs : List Nat, keysN (nD xs) = some (numK xs)
  | [] => rfl
  | x :: xs => by
    have := keysN_nD xs
    simp only [nD, numK, List.map_cons, keysN, keyN] at this ⊢
    rw [this]
theorem keysN_bD (b : Br) : keysN [iD b.1, .tup (nD b.2)] = some [.num (b.1 : Int), .tup (numK b.2)] := by
  simp only [keysN, keyN, keysN_nD]
theorem keyN_bD (b : Br) : keyN (bD b) = some (kQ b) := by
  rw [bD, keyN, keysN_bD]; rfl
theorem depth_num : ∀ xs : List Nat, NestedKey.depthAll (numK xs) = 0
  | [] => rfl
  | x :: xs => by
    have := depth_num xs
    simp only [numK, List.map_cons, NestedKey.depthAll, NestedKey.depth] at this ⊢
    rw [this]; rfl
theorem keyB_bD (b : Br) : keyB true (bD b) = some (kQ b) := by
  rw [bD, keyB, if_pos rfl, keysN_bD]
  simp only
  rw [if_pos]
  · rfl
  · simp only [NestedKey.depth, NestedKey.depthAll, depth_num]; decide
theorem numK_inj : ∀ {xs ys : List Nat}, numK xs = numK ys → xs = ys
  | [], [], _ => rfl
  | [], _ :: _, h => by cases h
  | _ :: _, [], h => by cases h
  | x :: xs, y :: ys, h => by
    simp only [numK, List.map_cons, List.cons.injEq, NestedKey.num.injEq] at h
    rw [numK_inj (xs := xs) (ys := ys) h.2]
    have : x = y := by omega
    rw [this]
theorem kQ_inj {a b : Br} (h : kQ a = kQ b) : a = b := by
  obtain ⟨a1, a2⟩ := a
  obtain ⟨b1, b2⟩ := b
  simp only [kQ, NestedKey.tup.injEq, List.cons.injEq, NestedKey.num.injEq, and_true] at h
  have h1 : a1 = b1 := by omega
  rw [h1, numK_inj h.2]
/-! ### all bearers are there, once -/
theorem allN_nodup (k : Nat) : ∀ j, (allN k j).Nodup
  | 0 => by simp [allN]
  | j + 1 => by
    rw [allN]
    refine List.pairwise_flatMap.mpr ⟨fun a ha => ?_, (allN_nodup k j).imp fun {a b} hab x hx y hy => ?_⟩
    · exact List.Pairwise.map _ (fun x y hxy e => hxy (by simpa using e)) List.nodup_range
    · obtain ⟨x', _, rfl⟩ := List.mem_map.mp hx
      obtain ⟨y', _, rfl⟩ := List.mem_map.mp hy
      intro e
      exact hab (List.append_inj_left' e rfl)
theorem everyB_nodup (k m i : Nat) : (everyB k m i).Nodup := by
  unfold everyB
  refine List.pairwise_flatMap.mpr ⟨fun a ha => ?_, List.nodup_range.imp fun {a b} hab x hx y hy => ?_⟩
  · exact List.Pairwise.map _ (fun x y hxy e => hxy (Prod.mk.inj e).2) (allN_nodup k (m - 1))
  · obtain ⟨x', _, rfl⟩ := List.mem_map.mp hx
    obtain ⟨y', _, rfl⟩ := List.mem_map.mp hy
    exact fun e => hab (Prod.mk.inj e).1
theorem mem_everyB {k m : Nat} {b : Br} : b ∈ everyB k m m ↔ Bw k m b := by
  unfold everyB
  simp only [List.mem_flatMap, List.mem_range, List.mem_map]
  constructor
  · rintro ⟨u, hu, ns, hns, rfl⟩
    exact ⟨hu, (allN_mem.mp hns).1, (allN_mem.mp hns).2⟩
  · rintro ⟨h1, h2, h3⟩
    exact ⟨b.1, h1, b.2, allN_mem.mpr ⟨h2, h3⟩, rfl⟩
/-- values between places -/
structure Rw (R : Nat → Nat → Nat) (k m : Nat) : Prop where
  lt : ∀ u v, u < m → v < m → u ≠ v → R u v < k
  sym : ∀ u v, u < m → v < m → u ≠ v → R u v = R v u
section
variable {R : Nat → Nat → Nat} {k m : Nat} (hk : 0 < k) (hR : Rw R k m)
include hk hR
theorem FN_lt {u v : Nat} (hu : u < m) (hv : v < m) : FN R u v < k := by
  unfold FN
  split
  · exact hR.lt u v hu hv (by omega)
  · exact hk
theorem first_Bw {u : Nat} (hu : u < m) : Bw k m (u, firstN R m u) := ⟨hu, firstN_len hu, fun x hx => by
  rw [firstN_eq] at hx
  obtain ⟨v, hv, rfl⟩ := List.mem_map.mp hx
  exact FN_lt hk hR hu (mem_others.mp hv).1⟩
theorem mem_bear {b : Br} : b ∈ bear R k m ↔ Bw k m b := by
  unfold bear
  rw [List.mem_append, List.mem_filter, mem_everyB]
  constructor
  · rintro (h | h)
    · obtain ⟨u, hu, rfl⟩ := List.mem_map.mp h
      exact first_Bw hk hR (by simpa using hu)
    · exact h.1
  · intro h
    by_cases hf : b ∈ firstB R m
    · exact .inl hf
    · exact .inr ⟨h, by simpa using hf⟩
omit hk hR in
theorem bear_nodup : (bear R k m).Nodup := by
  unfold bear
  refine List.nodup_append.mpr ⟨?_, List.Pairwise.filter _ (everyB_nodup k m m), fun a ha b hb e => ?_⟩
  · unfold firstB
    exact List.Pairwise.map _ (fun x y hxy e => hxy (Prod.mk.inj e).1) List.nodup_range
  · subst e
    have := (List.mem_filter.mp hb).2
    simp at this
    exact this ha
omit hk hR in
theorem gB_mem {S : List Br} {u : Nat} (h : u < S.length) : gB S u ∈ S := by simp [gB, h]
omit hk hR in
theorem gB_inj {S : List Br} (hn : S.Nodup) {u v : Nat} (hu : u < S.length) (hv : v < S.length) (e : gB S u = gB S v) : u = v := by
  simp [gB, hu, hv] at e
  exact nodup_get hn hu hv e
omit hk hR in
theorem gB_first {u : Nat} (hu : u < m) : gB (bear R k m) u = (u, firstN R m u) := by
  unfold gB bear firstB
  rw [List.getElem?_append_left (by simpa using hu)]
  simp [hu]
end
/-! ### the first that fits -/
def fnd (N : Nat) (p : Nat → Bool) : Nat := ((List.range N).find? p).getD 0
theorem fnd_spec {N : Nat} {p : Nat → Bool} (h : ∃ u, u < N ∧ p u = true) : fnd N p < N ∧ p (fnd N p) = true := by
  obtain ⟨u, hu, hp⟩ := h
  cases e : (List.range N).find? p with
  | none =>
    have := List.find?_eq_none.mp e u (by simpa using hu)
    exact absurd hp this
  | some v =>
    have h1 := List.find?_some e
    have h2 := List.mem_of_find?_eq_some e
    simp only [fnd, e, Option.getD_some]
    exact ⟨by simpa using h2, h1⟩
def idx (S : List Br) (b : Br) : Nat := fnd S.length fun u => decide (gB S u = b)
theorem idx_spec {S : List Br} {b : Br} (h : b ∈ S) : idx S b < S.length ∧ gB S (idx S b) = b := by
  obtain ⟨u, hu, e⟩ := List.getElem_of_mem h
  have := fnd_spec (N := S.length) (p := fun u => decide (gB S u = b)) ⟨u, hu, by simp [gB, hu, e]⟩
  exact ⟨this.1, of_decide_eq_true this.2⟩
def inv (m : Nat) (σ : List Nat) (w : Nat) : Nat := fnd m fun v => decide (gσ σ v = w)
theorem inv_gσ {m : Nat} {σ : List Nat} (h : Sg m σ) {v : Nat} (hv : v < m) : inv m σ (gσ σ v) = v := by
  have := fnd_spec (N := m) (p := fun u => decide (gσ σ u = gσ σ v)) ⟨v, hv, by simp⟩
  exact h.inj this.1 hv (of_decide_eq_true this.2)
theorem gσ_inv {m : Nat} {σ : List Nat} (h : Sg m σ) {w : Nat} (hw : w < m) : inv m σ w < m ∧ gσ σ (inv m σ w) = w := by
  have hm : w ∈ σ := h.p.symm.subset (by simpa using hw)
  obtain ⟨u, hu, e⟩ := List.getElem_of_mem hm
  have := fnd_spec (N := m) (p := fun u => decide (gσ σ u = w)) ⟨u, by rw [← h.len]; exact hu, by simp [gσ, hu, e]⟩
  exact ⟨this.1, of_decide_eq_true this.2⟩
/-! ### a bearer moved -/
def nw (R : Nat → Nat → Nat) (k : Nat) (here σ : List Nat) (b : Br) (v : Nat) : Nat := (((noteN b v : Int) + shI R k here σ b.1 v) % k).toNat
def mvB (R : Nat → Nat → Nat) (k m : Nat) (here σ : List Nat) (b : Br) : Br := (gσ σ b.1, (others m (gσ σ b.1)).map fun w => nw R k here σ b (inv m σ w))
theorem nw_lt {R : Nat → Nat → Nat} {k : Nat} {here σ : List Nat} {b : Br} {v : Nat} (hk : 0 < k) : nw R k here σ b v < k := by
  unfold nw
  have h1 := Int.emod_nonneg ((noteN b v : Int) + shI R k here σ b.1 v) (b := (k : Int)) (by omega)
  have h2 := Int.emod_lt_of_pos ((noteN b v : Int) + shI R k here σ b.1 v) (b := (k : Int)) (by omega)
  omega
theorem nw_int {R : Nat → Nat → Nat} {k : Nat} {here σ : List Nat} {b : Br} {v : Nat} (hk : 0 < k) : ((noteN b v : Int) + shI R k here σ b.1 v) % k = (nw R k here σ b v : Int) := by
  unfold nw
  have h1 := Int.emod_nonneg ((noteN b v : Int) + shI R k here σ b.1 v) (b := (k : Int)) (by omega)
  omega
theorem mvB_Bw {R : Nat → Nat → Nat} {k m : Nat} {here σ : List Nat} {b : Br} (hk : 0 < k) (hs : Sg m σ) (hb : Bw k m b) : Bw k m (mvB R k m here σ b) := ⟨hs.lt hb.p, by simp only [mvB, List.length_map]; exact others_len m _ (hs.lt hb.p), fun x hx => by
  obtain ⟨w, _, rfl⟩ := List.mem_map.mp hx
  exact nw_lt hk⟩
end OV
/-! text W94K -/
namespace OV
open PySem (Str PyData NestedKey)
def valN (R : Nat → Nat → Nat) (k m : Nat) (here σ : List Nat) : List Nat := (List.range (bear R k m).length).map fun u => idx (bear R k m) (mvB R k m here σ (gB (bear R k m) u))
theorem numK1 (x y : Nat) (h : NestedKey.num (x : Int) = NestedKey.num (y : Int)) : x = y := by
  have := NestedKey.num.inj h
  omega
theorem grown_ev {R : Nat → Nat → Nat} {k m : Nat} {here there : List Nat} (hc : Cfg k m) (hR : Rw R k m) (h : Lk R m here there) (lk : List Nat) (ce : Ce) (hlk : ∀ x ∈ lk, x < ce.length) (n : Nat) :
    ∃ σ, Sg m σ ∧ (∀ j (hj : j < here.length), gσ σ here[j] = there[j]'(h.l ▸ hj)) ∧ (ka (n + 4)).fn "grown_symmetry" [iD k, rowsD R m, .tup (nD here), .tup (nD there)] lk ce = .ok (.tup (nD (valN R k m here σ))) ce := by
  have hm := hc.m40
  have hk := hc.k0
  have hb := bearers_ev R k m hc lk ce hlk (n + 1)
  have hlike := is_likeness_ev h (by omega) lk ce n
  have hl := bear_len (R := R) hc
  obtain ⟨σ, p1, p2, hmv⟩ := moved_ev h.h h.t h.hn h.tn h.l (by omega : m ≤ 100) lk ce hlk (n + 2)
  have hs : Sg m σ := ⟨p1⟩
  refine ⟨σ, hs, fun j hj => by simp [gσ, p2 j hj], ?_⟩
  have hw : ∀ b ∈ bear R k m, Bw k m b := fun b hb => (mem_bear hk hR).mp hb
  have hcl : ∀ b ∈ bear R k m, mvB R k m here σ b ∈ bear R k m := fun b hb => (mem_bear hk hR).mpr (mvB_Bw hk hs (hw b hb))
  have hnd := bear_nodup (R := R) (k := k) (m := m)
  unfold valN
  generalize bear R k m = S at *
  refine FRun.eq (fn_run t_grown_symmetry rfl ?_)
  simp only [d_grown_symmetry, c_grown_symmetry, n_grown_symmetry]
  have hl0 : lk.contains ce.length = false := hl0_of hlk (Nat.le_refl _)
  have g : ∀ d : D, (ce ++ [some d])[ce.length]? = some (some d) := fun d => by simp
  have st_ : ∀ d e : D, (ce ++ [some d]).set ce.length (some e) = ce ++ [some e] := fun d e => by rw [List.set_append_right _ _ (Nat.le_refl _)]; simp
  have hr : ∀ ce, opB ce .range1 [.int (m : Int)] = some (.rng 0 (m : Int)) := fun ce => b_range (by omega)
  let known : D := .dic ((List.range S.length).map fun u => (bD (gB S u), iD u))
  let tl : List (Option D) := [none, none, none, none, none, none, none]
  refine run_nm (d := .tup (S.map bD)) (x := .tup (S.map bD)) (st1 := ⟨[some (iD k), some (rowsD R m), some (.tup (nD here)), some (.tup (nD there)), none, none, none, none, none, none, none, none, none, none, none], ce⟩) (by simp [hb]) rfl ?_
  refine run_if (t := false) (st1 := ⟨[some (iD k), some (rowsD R m), some (.tup (nD here)), some (.tup (nD there)), some (.tup (S.map bD)), none, none, none, none, none, none, none, none, none, none], ce⟩) (by simp [hlike]) ?_
  refine run_nm (d := .rng 0 (m : Int)) (x := .rng 0 (m : Int)) (st1 := ⟨[some (iD k), some (rowsD R m), some (.tup (nD here)), some (.tup (nD there)), some (.tup (S.map bD)), none, none, none, none, none, none, none, none, none, none], ce⟩) (by simp [rowsD_len, hr]) rfl ?_
  refine run_nm (d := .own (nD σ)) (x := .lst (nD σ)) (st1 := ⟨[some (iD k), some (rowsD R m), some (.tup (nD here)), some (.tup (nD there)), some (.tup (S.map bD)), some (.rng 0 (m : Int)), none, none, none, none, none, none, none, none, none], ce⟩) (by simp [rowsD_len, hmv]) (arg_own_nD σ) ?_
  let st1 : OV.S := ⟨[some (iD k), some (rowsD R m), some (.tup (nD here)), some (.tup (nD there)), some (.tup (S.map bD)), some (.rng 0 (m : Int)), some (.lst (nD σ)), none, none, none, none, none, none, none, none], ce⟩
  have c1 := dcomp_gen (k := lev tab mach.L (n + 3)) (lk := lk) (l := []) (tk := true) (own := [12, 13]) (t := .tp (.cons (.nm false 12) (.cons (.nm false 13) .nil))) (it := .enum (.var 4)) (ifs := .nil) (ka := .var 13) (va := .var 12) (as := List.range S.length) (p := fun _ => true) (f := fun u => .tup [iD u, bD (gB S u)]) (kf := fun u => bD (gB S u)) (vf := iD) (q := fun u => kQ (gB S u)) (st := st1) (st1 := st1) (by rw [← enum_S]; simp [st1]) (by rw [List.length_range]; exact Nat.lt_of_le_of_lt hl (by decide)) (fun u hu => ⟨⟨(st1.sl.set 12 (some (iD u))).set 13 (some (bD (gB S u))), ce⟩, by simp [st1, Ts.len], rfl, by simp, fun _ => ⟨bD (gB S u), ⟨(st1.sl.set 12 (some (iD u))).set 13 (some (bD (gB S u))), ce⟩, iD u, ⟨(st1.sl.set 12 (some (iD u))).set 13 (some (bD (gB S u))), ce⟩, by simp [st1], rfl, by simp [st1], rfl, rfl⟩⟩) (fun u hu _ => ⟨keyB_bD _, keyN_bD _⟩) (by
      rw [List.filter_eq_self.mpr (by simp)]
      refine List.pairwise_map.mpr (List.Pairwise.imp_of_mem (fun {a b} ha hb hab e => hab ?_) List.nodup_range)
      exact gB_inj hnd (by simpa using ha) (by simpa using hb) (kQ_inj e))
  rw [List.filter_eq_self.mpr (by simp)] at c1
  refine run_nm (d := known) (x := known) (st1 := st1) c1 rfl ?_
  refine run_new (ds := []) (d := .new []) (st1 := ⟨st1.sl.set 7 (some known), ce⟩) (by simp [st1]) (.inl rfl) ?_
  let vs : Nat → List Nat := fun i => (List.range i).map fun u => idx S (mvB R k m here σ (gB S u))
  refine run_for (ds := S.map bD) (l := []) (st1 := ⟨[some (iD k), some (rowsD R m), some (.tup (nD here)), some (.tup (nD there)), some (.tup (S.map bD)), some (.rng 0 (m : Int)), some (.lst (nD σ)), some known, some (.ref ce.length), none, none, none, none, none, none], ce ++ [some (.own [])]⟩) (J := fun i st => ∃ x y z, st = ⟨[some (iD k), some (rowsD R m), some (.tup (nD here)), some (.tup (nD there)), some (.tup (S.map bD)), some (.rng 0 (m : Int)), some (.lst (nD σ)), some known, some (.ref ce.length), x, y, z, none, none, none], ce ++ [some (.own (nD (vs i)))]⟩) ?_ ⟨none, none, none, by simp [vs, nD]⟩ ?_ ?_
  · simp [st1]
  · rintro i d st hd ⟨x, y, z, rfl⟩
    obtain ⟨hi, hd⟩ := List.getElem?_eq_some_iff.mp hd
    simp only [List.length_map] at hi
    have hd : d = bD (gB S i) := by rw [← hd]; simp [gB, hi]
    subst hd
    generalize hbb : gB S i = b
    have hbS : b ∈ S := by rw [← hbb]; exact gB_mem hi
    have hB := hw b hbS
    let st2 : OV.S := ⟨[some (iD k), some (rowsD R m), some (.tup (nD here)), some (.tup (nD there)), some (.tup (S.map bD)), some (.rng 0 (m : Int)), some (.lst (nD σ)), some known, some (.ref ce.length), some (iD b.1), some (.tup (nD b.2)), z, none, none, none], ce ++ [some (.own (nD (vs i)))]⟩
    refine ⟨st2, by simp [st2, Ts.len, bD], ?_⟩
    have hmod := fun ce i => o_mod (ce := ce) (i := i) (j := (k : Int)) (by omega)
    have c2 := dcomp_gen (k := lev tab mach.L (n + 3)) (lk := [] ++ lk) (l := []) (tk := false) (own := [14]) (t := .nm false 14) (it := .pl (.var 5)) (ifs := .cons (.cmp .ne (.var 14) (.var 9)) .nil) (ka := .idx (.var 6) (.var 14)) (va := .bin .mod (.bin .add (.call "note_at" (.cons (.var 10) (.cons (.var 9) (.cons (.var 14) .nil)))) (.call "shift" (.cons (.var 0) (.cons (.var 1) (.cons (.var 2) (.cons (.var 6) (.cons (.var 9) (.cons (.var 14) .nil)))))))) (.var 0)) (as := List.range m) (p := fun v => decide (v ≠ b.1)) (f := iD) (kf := fun v => iD (gσ σ v)) (vf := fun v => iD (nw R k here σ b v)) (q := fun v => NestedKey.num (gσ σ v : Nat)) (st := st2) (st1 := st2) (by simp [st2, rngD_eq]) (by rw [List.length_range]; exact Nat.lt_of_le_of_lt hm (by decide)) (fun v hv => ⟨⟨st2.sl.set 14 (some (iD v)), st2.ce⟩, by simp [st2], rfl, by
        by_cases e : v = b.1 <;> simp [st2, Int.ofNat_inj, e], fun hp => ⟨iD (gσ σ v), ⟨st2.sl.set 14 (some (iD v)), st2.ce⟩, iD (nw R k here σ b v), ⟨st2.sl.set 14 (some (iD v)), st2.ce⟩, by
        have := hs.get (ce := st2.ce) (List.mem_range.mp hv)
        simp [st2, -i_lst] at this ⊢
        rw [this]; rfl, rfl, by
        have hv' := List.mem_range.mp hv
        have hne : b.1 ≠ v := by simp at hp; omega
        have n1 := fun lk ce => note_at_ev b.2 b.1 v (by rw [hB.l]; exact note_ix hB.p hv' hne) hne lk ce (n + 2)
        have n2 := fun lk ce => shift_ev (R := R) (here := here) hk (by omega) hs hB.p hv' hne lk ce n
        have e : ((noteN b v : Nat) : Int) + shI R k here σ b.1 v = ((noteN (b.1, b.2) v : Nat) : Int) + shI R k here σ b.1 v := rfl
        have n3 := nw_int (R := R) (here := here) (σ := σ) (b := b) (v := v) hk
        simp [st2, n1, n2, hmod, n3], rfl, rfl⟩⟩) (fun v hv _ => ⟨rfl, rfl⟩) (by
        refine List.pairwise_map.mpr (List.Pairwise.imp_of_mem (fun {a c} ha hc hac e => hac ?_) (List.Pairwise.filter _ List.nodup_range))
        have ha' := List.mem_range.mp (List.mem_filter.mp ha).1
        have hc' := List.mem_range.mp (List.mem_filter.mp hc).1
        exact hs.inj ha' hc' (numK1 _ _ e))
    let newD : D := .dic (((List.range m).filter fun v => decide (v ≠ b.1)).map fun v => (iD (gσ σ v), iD (nw R k here σ b v)))
    refine run_nm (d := newD) (x := newD) (st1 := st2) c2 rfl ?_
    let st3 : OV.S := ⟨[some (iD k), some (rowsD R m), some (.tup (nD here)), some (.tup (nD there)), some (.tup (S.map bD)), some (.rng 0 (m : Int)), some (.lst (nD σ)), some known, some (.ref ce.length), some (iD b.1), some (.tup (nD b.2)), some newD, none, none, none], ce ++ [some (.own (nD (vs i)))]⟩
    have hst3 : (⟨st2.sl.set 11 (some newD), st2.ce⟩ : OV.S) = st3 := by simp [st2, st3]
    rw [hst3]
    have hgb := hs.get (ce := st3.ce) hB.p
    have hlook : ∀ w, w < m → w ≠ gσ σ b.1 → opIdx st3.ce newD (iD w) = some (iD (nw R k here σ b (inv m σ w))) := fun w hw hne => by
      obtain ⟨h1, h2⟩ := gσ_inv hs hw
      have hv : inv m σ w ∈ (List.range m).filter fun v => decide (v ≠ b.1) := List.mem_filter.mpr ⟨by simpa using h1, by
        refine decide_eq_true fun e => hne ?_
        rw [← h2, e]⟩
      have := findK_map (as := (List.range m).filter fun v => decide (v ≠ b.1)) (kf := fun v => iD (gσ σ v)) (vf := fun v => iD (nw R k here σ b v)) (q := fun v => NestedKey.num (gσ σ v : Nat)) (fun _ _ => rfl) (by
        refine List.pairwise_map.mpr (List.Pairwise.imp_of_mem (fun {a c} ha hc hac e => hac ?_) (List.Pairwise.filter _ List.nodup_range))
        have ha' := List.mem_range.mp (List.mem_filter.mp ha).1
        have hc' := List.mem_range.mp (List.mem_filter.mp hc).1
        exact hs.inj ha' hc' (numK1 _ _ e)) hv
      simp only [h2] at this
      exact this
    have c3 := comp_if (k := lev tab mach.L (n + 3)) (lk := [] ++ lk) (l := []) (own := [14]) (i := 14) (it := .pl (.var 5)) (c := .cmp .ne (.var 14) (.idx (.var 6) (.var 9))) (e := .idx (.var 11) (.var 14)) (as := List.range m) (f := iD) (g := fun w => iD (nw R k here σ b (inv m σ w))) (p := fun w => decide (w ≠ gσ σ b.1)) (st := st3) (st1 := st3) (by simp [st3, rngD_eq]) (by rw [List.length_range]; exact nat_le_line (by omega)) (fun _ _ => rfl) (fun w hw => by
        simp [st3, -i_lst] at hgb ⊢
        rw [hgb]
        by_cases e : w = gσ σ b.1 <;> simp [Int.ofNat_inj, e]) (fun w hw hp => ⟨iD (nw R k here σ b (inv m σ w)), ⟨st3.sl.set 14 (some (iD w)), st3.ce⟩, by
        have := hlook w (List.mem_range.mp hw) (by simpa using hp)
        simp [st3] at this ⊢
        rw [this]; rfl, rfl, rfl⟩)
    have hx : (((List.range m).filter fun w => decide (w ≠ gσ σ b.1)).map fun w => iD (nw R k here σ b (inv m σ w))) = nD (mvB R k m here σ b).2 := by
      simp only [nD, mvB, List.map_map]; rfl
    rw [hx] at c3
    have hml : (nD (mvB R k m here σ b).2).length ≤ line := by
      rw [nD_length, (mvB_Bw hk hs hB).l]; exact nat_le_line (by omega)
    have ht := fun ce => b_tuple (ce := ce) (sv_new (nD (mvB R k m here σ b).2)) hml
    have hmem := hcl b hbS
    obtain ⟨i1, i2⟩ := idx_spec hmem
    have hkn : ∀ ce, opIdx ce known (bD (mvB R k m here σ b)) = some (iD (idx S (mvB R k m here σ b))) := fun ce => by
      have := findK_map (as := List.range S.length) (kf := fun u => bD (gB S u)) (vf := iD) (q := fun u => kQ (gB S u)) (fun u _ => keyN_bD _) (by
        refine List.pairwise_map.mpr (List.Pairwise.imp_of_mem (fun {a b} ha hb hab e => hab ?_) List.nodup_range)
        exact gB_inj hnd (by simpa using ha) (by simpa using hb) (kQ_inj e)) (a := idx S (mvB R k m here σ b)) (by simpa using i1)
      rw [i2] at this
      show lookD _ (bD _) = _
      have hk1 : keyB true (bD (mvB R k m here σ b)) = some (kQ (mvB R k m here σ b)) := keyB_bD _
      unfold lookD
      show (match keyB true (bD (mvB R k m here σ b)) with | some q => findK _ q | none => none) = _
      rw [hk1]; exact this
    refine run_append (c := ce.length) (d := iD (idx S (mvB R k m here σ b))) (x := iD (idx S (mvB R k m here σ b))) (st1 := st3) rfl hl0 (g _) ?_ (g _) rfl ?_ (run_nil ⟨.inl rfl, some (iD b.1), some (.tup (nD b.2)), some newD, ?_⟩)
    · have e1 : oE (lev tab mach.L (n + 3)) lk (.idx (.var 6) (.var 9)) st3 = .ok (iD (gσ σ b.1)) st3 := by
        simp [st3, -i_lst] at hgb ⊢
        rw [hgb]; rfl
      have e2 : oE (lev tab mach.L (n + 3)) lk (.tup (.cons (.idx (.var 6) (.var 9)) (.cons (.callB .tuple (.cons (.comp [14] (.nm false 14) (.pl (.var 5)) (.cons (.cmp .ne (.var 14) (.idx (.var 6) (.var 9))) .nil) (.el false (.idx (.var 11) (.var 14)))) .nil)) .nil))) st3 = .ok (bD (mvB R k m here σ b)) st3 := by
        rw [ev_tup, evs_cons, e1, Res.bind_ok, evs_cons, ev_callB, evs_cons]
        simp only [List.nil_append, lkO_int] at c3 ⊢
        rw [c3]
        simp [ht, show 2 ≤ line from by decide, bD]
        rfl
      have e3 : oE (lev tab mach.L (n + 3)) lk (.var 7) st3 = .ok known st3 := by simp [st3]
      rw [ev_idx, List.nil_append, e3, Res.bind_ok]
      show Res.bind (oE _ lk _ st3) _ = _
      rw [e2, Res.bind_ok, hkn]; rfl
    · rw [nD_length]; simp only [vs, List.length_map, List.length_range]
      exact Nat.lt_of_lt_of_le (Nat.lt_of_lt_of_le hi hl) (by decide)
    · have e : nD (vs i) ++ [iD (idx S (mvB R k m here σ b))] = nD (vs (i + 1)) := by
        rw [nD_app]; simp only [vs, List.range_succ, List.map_append, List.map_cons, List.map_nil, hbb]
      rw [trim_self (by simp [st3, st_]), st_, e]
  · rintro st ⟨x, y, z, rfl⟩
    rw [List.length_map]
    have ht := b_tuple (ce := ce ++ [some (.own (nD (vs S.length)))]) (isL_seqV (.ref (g _)) (nD_V _)) (by rw [nD_length]; simp only [vs, List.length_map, List.length_range]; exact nat_le_line (by omega))
    refine run_ret (d := .tup (nD (vs S.length))) (st1 := ⟨[some (iD k), some (rowsD R m), some (.tup (nD here)), some (.tup (nD there)), some (.tup (S.map bD)), some (.rng 0 (m : Int)), some (.lst (nD σ)), some known, some (.ref ce.length), x, y, z, none, none, none], ce ++ [some (.own (nD (vs S.length)))]⟩) ?_ (fr_V rfl ⟨rfl, by simp⟩)
    simp [ht]
end OV
/-! text W94L -/
namespace OV
open PySem (Str PyData NestedKey)
theorem insI_permN (i : Int) : ∀ xs : List Int, (insI i xs).Perm (i :: xs)
  | [] => List.Perm.refl _
  | j :: js => by
    unfold insI
    split
    · exact List.Perm.refl _
    · exact ((insI_permN i js).cons j).trans (List.Perm.swap i j js)
theorem srtI_permN : ∀ xs : List Int, (srtI xs).Perm xs
  | [] => List.Perm.refl _
  | i :: xs => (insI_permN i (srtI xs)).trans ((srtI_permN xs).cons i)
theorem insI_sortedN {i : Int} : ∀ {xs : List Int}, xs.Pairwise (· ≤ ·) → (insI i xs).Pairwise (· ≤ ·)
  | [], _ => by simp [insI]
  | j :: js, h => by
    unfold insI
    have h' := List.pairwise_cons.mp h
    split
    · rename_i hij
      refine List.pairwise_cons.mpr ⟨fun a ha => ?_, h⟩
      rcases List.mem_cons.mp ha with rfl | ha
      · exact hij
      · have := h'.1 a ha; omega
    · refine List.pairwise_cons.mpr ⟨fun a ha => ?_, insI_sortedN h'.2⟩
      rcases List.mem_cons.mp ((insI_permN i js).subset ha) with rfl | ha
      · omega
      · exact h'.1 a ha
theorem srtI_sortedN : ∀ xs : List Int, (srtI xs).Pairwise (· ≤ ·)
  | [] => List.Pairwise.nil
  | i :: xs => insI_sortedN (srtI_sortedN xs)
theorem srtI_eq {xs ys : List Int} (h : xs.Perm ys) (hs : ys.Pairwise (· ≤ ·)) : srtI xs = ys :=
  List.Perm.eq_of_pairwise (fun a b _ _ h1 h2 => by omega) (srtI_sortedN xs) hs ((srtI_permN xs).trans h)
theorem srt_nD {ce : Ce} {xs : List Nat} {n : Nat} (h : xs.Perm (List.range n)) : opB ce .sorted [.tup (nD xs)] = some (.new (rngD n)) := by
  simp only [opB, sw_tup, intsD_nD]
  rw [srtI_eq (ys := (List.range n).map fun x : Nat => (x : Int)) (h.map _)]
  · rw [List.map_map]; rfl
  · refine List.pairwise_map.mpr (List.Pairwise.imp (fun {a b} hab => ?_) (List.pairwise_lt_range))
    omega
theorem law_is_number_ev {i m : Nat} (h : i < m) (lk : List Nat) (ce : Ce) (n : Nat) : (ka (n + 1)).fn "_law_is_number" [iD i, iD m] lk ce = .ok (.bl true) ce := by
  rw [ka, lev_fn t__law_is_number _ _ _ _ rfl, oF]
  have h' : (0 : Int) ≤ i := by omega
  simp [d__law_is_number, c__law_is_number, n__law_is_number, h, h']
/-- no item that fits -/
theorem comp_none {k : K} {lk l : List Nat} {st st1 : S} {α : Type} {own : List Nat} {i : Nat} {it : I} {e c : C} {as : List α} {f : α → D} (hi : oI k lk it st = .ok (as.map f, l) st1) (hb : as.length ≤ line) (ha : ∀ a ∈ as, arg (f a) = some (f a))
    (hp : ∀ a ∈ as, oE k (l ++ lk) c ⟨(wipe st1.sl own).set i (some (f a)), st1.ce⟩ = .ok (.bl false) ⟨(wipe st1.sl own).set i (some (f a)), st1.ce⟩) :
    oE k lk (.comp own (.nm false i) it (.cons c .nil) (.el false e)) st = .ok (.new []) st1 := by
  have := comp_if (own := own) (i := i) (it := it) (e := e) (c := c) (as := as) (p := fun _ => false) (f := f) (g := fun _ => D.non) hi hb ha hp (fun _ _ h => by cases h)
  rw [this]; simp
theorem nil_eq {ce : Ce} : opCmp ce .eq (.new []) (.new []) = some true := isL_eq_nil (.new []) (by simp)
theorem nil_ne {ce : Ce} : opCmp ce .ne (.new []) (.new []) = some false := isL_ne_nil (.new []) (by simp)
theorem rng_ne {ce : Ce} (n : Nat) : opCmp ce .ne (.new (rngD n)) (.lst (rngD n)) = some false := by
  have := isL_ne (ce := ce) enc_n (by decide) (xs := List.range n) (ys := List.range n) (.new _) (.lst _)
  rw [rngD_eq, this]; simp
theorem is_symmetry_ev {W : Nat → Nat → Nat} {N : Nat} {here there val : List Nat} (hN : N ≤ 1000) (hp : val.Perm (List.range N)) (hh : ∀ x ∈ here, x < N) (hl : here.length = there.length) (hb : here.length ≤ 1000) (hv : ∀ j (hj : j < here.length), val[here[j]]? = some (there[j]'(hl ▸ hj)))
    (hw : ∀ u v, u < N → v < N → ent W u v = ent W (gσ val u) (gσ val v)) (lk : List Nat) (ce : Ce) (n : Nat) : (ka (n + 2)).fn "_law_is_symmetry" [rowsD W N, .tup (nD here), .tup (nD there), .tup (nD val)] lk ce = .ok (.bl true) ce := by
  have hs : Sg N val := ⟨hp⟩
  refine FRun.eq (fn_run t__law_is_symmetry rfl ?_)
  simp only [d__law_is_symmetry, c__law_is_symmetry, n__law_is_symmetry]
  have hr : ∀ ce, opB ce .range1 [.int (N : Int)] = some (.rng 0 (N : Int)) := fun ce => b_range (by omega)
  have hli : ∀ ce, opB ce .list [.rng 0 (N : Int)] = some (.new (rngD N)) := fun ce => b_list sv_range (by rw [rngD_length]; exact nat_le_line hN)
  refine run_nm (d := .new (rngD N)) (x := .lst (rngD N)) (st1 := ⟨[some (rowsD W N), some (.tup (nD here)), some (.tup (nD there)), some (.tup (nD val)), none, none, none, none], ce⟩) (by simp [rowsD_len, hr, hli]) rfl ?_
  let st1 : S := ⟨[some (rowsD W N), some (.tup (nD here)), some (.tup (nD there)), some (.tup (nD val)), some (.lst (rngD N)), none, none, none], ce⟩
  show Run _ _ _ st1 _
  have hvl : val.length = N := hs.len
  have hvN : ∀ x ∈ val, x < N := fun x hx => by simpa using hp.subset hx
  have c1 := comp_none (k := lev tab mach.L (n + 1)) (lk := lk) (l := []) (own := [6]) (i := 6) (it := .pl (.var 3)) (c := .not (.call "_law_is_number" (.cons (.var 6) (.cons (.callB .len (.cons (.var 0) .nil)) .nil)))) (e := .var 6) (as := val) (f := iD) (st := st1) (st1 := st1) (by simp [st1, nD]) (nat_le_line (by omega)) (fun _ _ => rfl) (fun a ha => by
      have := fun lk ce => law_is_number_ev (hvN a ha) lk ce n
      simp [st1, rowsD_len, this])
  have hsrt := fun ce => srt_nD (ce := ce) hp
  refine run_if (t := false) (st1 := st1) ?_ ?_
  · rw [ev_or, evo_cons]
    have e0 : oE (lev tab mach.L (n + 1)) lk (.not (.callB (.isI .tuple) (.cons (.var 3) .nil))) st1 = .ok (.bl false) st1 := by simp [st1]
    rw [e0, boolR_ok1, Res.bind_ok]
    simp only
    rw [evo_cons, ev_cmp, c1, Res.bind_ok]
    have e1 : oE (lev tab mach.L (n + 1)) lk (.cmp .ne (.callB .sorted (.cons (.var 3) .nil)) (.var 4)) st1 = .ok (.bl false) st1 := by simp [st1, hsrt, rng_ne]
    simp only [lkO_new, List.nil_append, ev_lstF, evs_nil, Res.bind_ok, items_nil, List.length_nil, Nat.zero_le, if_true, nil_ne, Option.map_some, Res.of_some, boolR_ok1]
    rw [evo_cons, e1, boolR_ok1, Res.bind_ok]
    simp
  show Run _ _ _ st1 _
  have hrh : ∀ ce, opB ce .range1 [.int (here.length : Int)] = some (.rng 0 (here.length : Int)) := fun ce => b_range (by omega)
  have c2 := comp_none (k := lev tab mach.L (n + 1)) (lk := lk) (l := []) (own := [5]) (i := 5) (it := .pl (.callB .range1 (.cons (.callB .len (.cons (.var 1) .nil)) .nil))) (c := .cmp .ne (.idx (.var 3) (.idx (.var 1) (.var 5))) (.idx (.var 2) (.var 5))) (e := .var 5) (as := List.range here.length) (f := iD) (st := st1) (st1 := st1) (by simp [st1, hrh, rngD_eq]) (by rw [List.length_range]; exact nat_le_line hb) (fun _ _ => rfl) (fun a ha => by
      have ha := List.mem_range.mp ha
      have ha' : a < there.length := by omega
      have := hv a ha
      simp [st1, ha, ha', this])
  refine run_if (t := false) (st1 := st1) ?_ ?_
  · rw [ev_cmp, c2, Res.bind_ok]
    simp [nil_ne]
  show Run _ _ _ st1 _
  have c3 := comp_none (k := lev tab mach.L (n + 1)) (lk := lk) (l := []) (own := [6]) (i := 6) (it := .pl (.var 4)) (c := .cmp .ne (.comp [7] (.nm false 7) (.pl (.callB .range1 (.cons (.var 6) .nil))) (.cons (.cmp .ne (.idx (.idx (.var 0) (.var 6)) (.var 7)) (.idx (.idx (.var 0) (.idx (.var 3) (.var 6))) (.idx (.var 3) (.var 7)))) .nil) (.el false (.var 7))) (.lst false .nil)) (e := .var 6) (as := List.range N) (f := iD) (st := st1) (st1 := st1) (by simp [st1, rngD_eq]) (by rw [List.length_range]; exact nat_le_line hN) (fun _ _ => rfl) (fun u hu => by
      have hu := List.mem_range.mp hu
      let st2 : S := ⟨[some (rowsD W N), some (.tup (nD here)), some (.tup (nD there)), some (.tup (nD val)), some (.lst (rngD N)), none, some (iD u), none], ce⟩
      have hst : (⟨(wipe st1.sl [6]).set 6 (some (iD u)), st1.ce⟩ : S) = st2 := by simp [st1, st2]
      rw [hst]
      have hru : ∀ ce, opB ce .range1 [.int (u : Int)] = some (.rng 0 (u : Int)) := fun ce => b_range (by omega)
      have c4 := comp_none (k := lev tab mach.L (n + 1)) (lk := [] ++ lk) (l := []) (own := [7]) (i := 7) (it := .pl (.callB .range1 (.cons (.var 6) .nil))) (c := .cmp .ne (.idx (.idx (.var 0) (.var 6)) (.var 7)) (.idx (.idx (.var 0) (.idx (.var 3) (.var 6))) (.idx (.var 3) (.var 7)))) (e := .var 7) (as := List.range u) (f := iD) (st := st2) (st1 := st2) (by simp [st2, hru, rngD_eq]) (by rw [List.length_range]; exact nat_le_line (by omega)) (fun _ _ => rfl) (fun v hv => by
        have hv := List.mem_range.mp hv
        have hvN : v < N := by omega
        have hgu : ∀ ce, opIdx ce (.tup (nD val)) (iD u) = some (iD (gσ val u)) := fun ce => by
          have hl : u < val.length := by rw [hvl]; exact hu
          simp [gσ, hl]
        have hgv : ∀ ce, opIdx ce (.tup (nD val)) (iD v) = some (iD (gσ val v)) := fun ce => by
          have hl : v < val.length := by rw [hvl]; exact hvN
          simp [gσ, hl]
        have h1 := hs.lt hu
        have h2 := hs.lt hvN
        have := hw u v hu hvN
        simp [st2, -i_tup, rowsD_get hu, row_ent hvN, hgu, hgv, rowsD_get h1, row_ent h2, ent_ne, this])
      rw [ev_cmp, c4, Res.bind_ok]
      simp [nil_ne])
  refine run_ret (d := .bl true) (st1 := st1) ?_ (fr_V rfl ⟨rfl, by simp [st1]⟩)
  rw [ev_cmp, c3, Res.bind_ok]
  simp [nil_eq]
end OV
/-! text W94M -/
namespace OV
open PySem (Str PyData NestedKey)
theorem t_any : tab "_law_any" = some g_any := by rfl
theorem t_of : tab "_law_of" = some g_of := by rfl
theorem t_mixed : tab "_law_mixed" = some g_mixed := by rfl
theorem t_draw : tab "_law_draw" = some g_draw := by rfl
def rowO (G : Nat → Nat → Option Nat) (m u : Nat) : List D := (List.range m).map fun v => oD (G u v)
def rowsO (G : Nat → Nat → Option Nat) (m : Nat) : List D := (List.range m).map fun u => .own (rowO G m u)
def updG (G : Nat → Nat → Option Nat) (a b x : Nat) : Nat → Nat → Option Nat := fun u v => if u = a ∧ v = b then some x else G u v
theorem rowsO_set (G : Nat → Nat → Option Nat) (m a b x : Nat) : (rowsO G m).set a (.own ((rowO G m a).set b (iD x))) = rowsO (updG G a b x) m := by
  unfold rowsO
  rw [map_range_set]
  apply List.map_congr_left
  intro u hu
  by_cases h : u = a
  · subst h
    rw [if_pos rfl]
    unfold rowO
    rw [map_range_set]
    congr 1
    apply List.map_congr_left
    intro v hv
    by_cases h : v = b <;> simp [updG, h, oD, optD]
  · rw [if_neg h]
    unfold rowO
    congr 1
    apply List.map_congr_left
    intro v hv
    simp [updG, h]
theorem rowsO_get {G : Nat → Nat → Option Nat} {m a : Nat} (h : a < m) : (rowsO G m)[a]? = some (.own (rowO G m a)) := by simp [rowsO, h]
theorem free_rows_run {c : Nat} {ce : Ce} {lk : List Nat} {k m : Nat} (hd : Dl c ce) (hlk : ∀ x ∈ lk, x < ce.length) (hkc : lk.contains c = false) (hk : 0 < k) (hk2 : k ≤ 1000) (hm : m ≤ 100) (n : Nat) :
    FRun ((ka (n + 2)).fn "_law_free_rows" [.ref c, iD k, iD m] lk ce) fun d ce' => ∃ R, Rw R k m ∧ d = rowsD R m ∧ Stp c ce ce' := by
  refine fn_run t__law_free_rows rfl ?_
  simp only [d__law_free_rows, c__law_free_rows, n__law_free_rows]
  have hcl := hd.lt
  have hl0 : lk.contains ce.length = false := hl0_of hlk (Nat.le_refl _)
  have hr : ∀ (m : Nat), m ≤ 100 → ∀ ce, opB ce .range1 [.int (m : Int)] = some (.rng 0 (m : Int)) := fun m hm ce => b_range (by omega)
  let st0 : S := ⟨[some (.ref c), some (iD k), some (iD m), none, none, none, none, none, none], ce⟩
  have hmul : ∀ ce, opBin ce .mul (.new [.non]) (.int (m : Int)) = some (.new (rowO (fun _ _ => none) m 0)) := fun ce => by
    have h1 : rowO (fun _ _ => none) m 0 = (List.replicate m [D.non]).flatten := by
      unfold rowO
      rw [List.flatten_replicate_singleton, List.map_const', List.length_range]; rfl
    rw [h1]
    simp only [opBin, seqL]
    rw [if_pos ⟨rfl, by have : (100 : Int) < 2 ^ 62 := by decide
                        omega, by have : (-(2 ^ 62) : Int) < 0 := by decide
                                  omega, by simp; exact nat_le_line (by omega)⟩]
    simp
  have c1 := comp_live (k := lev tab mach.L (n + 1)) (lk := lk) (l := []) (own := [7]) (i := 7) (it := .pl (.callB .range1 (.cons (.var 2) .nil))) (e := .bin .mul (.lst false (.cons .non .nil)) (.var 2)) (as := List.range m) (f := iD) (g := fun _ => .own (rowO (fun _ _ => none) m 0)) (st := st0) (st1 := st0) (by simp [st0, hr m hm, rngD_eq]) (by rw [List.length_range]; exact nat_le_line (by omega)) (fun _ _ => rfl) (fun a ha => ⟨.new (rowO (fun _ _ => none) m 0), ⟨st0.sl.set 7 (some (iD a)), ce⟩, by simp [st0, hmul, show 1 ≤ line from by decide], rfl, rfl⟩)
  have hx : ((List.range m).map fun _ => D.own (rowO (fun _ _ => none) m 0)) = rowsO (fun _ _ => none) m := rfl
  rw [hx] at c1
  refine run_new (ds := rowsO (fun _ _ => none) m) c1 (.inr rfl) ?_
  let J : Nat → Nat → S → Prop := fun V U st => ∃ ce' G v u x, st = ⟨[some (.ref c), some (iD k), some (iD m), some (.ref ce.length), v, u, x, none, none], ce' ++ [some (.own (rowsO G m))]⟩ ∧ Stp c ce ce' ∧ (∀ u, G u u = none) ∧ ∀ u v, u < v → v < m → (v < V ∨ (v = V ∧ u < U)) → ∃ x, x < k ∧ G u v = some x ∧ G v u = some x
  refine run_for (ds := rngD m) (l := []) (st1 := ⟨[some (.ref c), some (iD k), some (iD m), some (.ref ce.length), none, none, none, none, none], ce ++ [some (.own (rowsO (fun _ _ => none) m))]⟩) (J := fun i st => J i 0 st) (by simp [st0, hr m hm]) ⟨ce, _, none, none, none, rfl, .refl hd, fun _ => rfl, fun u v _ _ h => by omega⟩ ?_ ?_
  · rintro V d st hdd ⟨ce1, G, v, u, x, rfl, hs, hG0, hG⟩
    obtain ⟨hV, rfl⟩ := getElem?_rng hdd
    have l1 := hs.len
    refine ⟨⟨[some (.ref c), some (iD k), some (iD m), some (.ref ce.length), some (iD V), u, x, none, none], ce1 ++ [some (.own (rowsO G m))]⟩, by simp, ?_⟩
    refine run_for (ds := rngD V) (l := []) (st1 := ⟨[some (.ref c), some (iD k), some (iD m), some (.ref ce.length), some (iD V), u, x, none, none], ce1 ++ [some (.own (rowsO G m))]⟩) (J := fun i st => J V i st ∧ st.sl[4]? = some (some (iD V))) (by simp [hr V (by omega)]) ⟨⟨ce1, G, _, _, _, rfl, hs, hG0, hG⟩, rfl⟩ ?_ ?_
    · rintro U d st hdd ⟨⟨ce2, G, v, u, x, rfl, hs, hG0, hG⟩, hv4⟩
      obtain ⟨hU, rfl⟩ := getElem?_rng hdd
      have hv : v = some (iD V) := by simpa using hv4
      subst hv
      have l2 := hs.len
      refine ⟨⟨[some (.ref c), some (iD k), some (iD m), some (.ref ce.length), some (iD V), some (iD U), x, none, none], ce2 ++ [some (.own (rowsO G m))]⟩, by simp, ?_⟩
      obtain ⟨_, ce3, e, w, rfl, w0, w1, hs3⟩ := any_run (lk := lk) (L := mach.L) t_any ((Stp.dl hd hs).app [some (.own (rowsO G m))]) hkc (m := (k : Int)) (by omega) (by omega) n
      obtain ⟨y, rfl⟩ := Int.eq_ofNat_of_zero_le w0
      obtain ⟨ce4, rfl, hs4⟩ := hs3.pre (by omega)
      have l4 := hs4.len
      refine run_nm (d := iD y) (x := iD y) (st1 := ⟨[some (.ref c), some (iD k), some (iD m), some (.ref ce.length), some (iD V), some (iD U), x, none, none], ce4 ++ [some (.own (rowsO G m))]⟩) (by simp [e]) rfl ?_
      have g : ∀ d : D, (ce4 ++ [some d])[ce.length]? = some (some d) := fun d => by rw [← l2, ← l4]; simp
      have s_ : ∀ d e : D, (ce4 ++ [some d]).set ce.length (some e) = ce4 ++ [some e] := fun d e => by rw [List.set_append_right _ _ (by omega)]; simp [l2, l4]
      let sl : List (Option D) := [some (.ref c), some (iD k), some (iD m), some (.ref ce.length), some (iD V), some (iD U), some (iD y), none, none]
      have hUm : U < m := by omega
      have t1 := tg_ix1 (k := lev tab mach.L (n + 1)) (lk := lk) (st := ⟨sl, ce4 ++ [some (.own (rowsO G m))]⟩) (r := 3) (c := ce.length) (j := U) (i := V) (pc := .var 5) (ic := .var 4) (d := iD y) (x := iD y) (ds := rowsO G m) (es := rowO G m U) rfl hl0 (by simp [sl]) (by simp [sl]) (g _) (rowsO_get hUm) (by simp [rowO, hV]) rfl
      rw [s_, rowsO_set] at t1
      have t2 := tg_ix1 (k := lev tab mach.L (n + 1)) (lk := lk) (st := ⟨sl, ce4 ++ [some (.own (rowsO (updG G U V y) m))]⟩) (r := 3) (c := ce.length) (j := V) (i := U) (pc := .var 4) (ic := .var 5) (d := iD y) (x := iD y) (ds := rowsO (updG G U V y) m) (es := rowO (updG G U V y) m V) rfl hl0 (by simp [sl]) (by simp [sl]) (g _) (rowsO_get hV) (by simp [rowO, hUm]) rfl
      rw [s_, rowsO_set] at t2
      refine run_asg (d := .tup [iD y, iD y]) (st1 := ⟨sl, ce4 ++ [some (.own (rowsO G m))]⟩) (st2 := ⟨sl, ce4 ++ [some (.own (rowsO (updG (updG G U V y) V U y) m))]⟩) (by simp [sl, show 2 ≤ line from by decide]) ?_ (run_nil ⟨.inl rfl, ⟨ce4, updG (updG G U V y) V U y, some (iD V), some (iD U), some (iD y), ?_, hs.trans hs4, ?_, ?_⟩, ?_⟩)
      · rw [evt_tp_tup, if_pos (by rfl), evts_cons]
        show Res.bind (oTg _ lk _ _ _) _ = _
        rw [t1, Res.bind_ok, evts_cons]
        show Res.bind (oTg _ lk _ _ _) _ = _
        rw [t2, Res.bind_ok, evts_nil]
      · rw [trim_self (by simp [l1, l2, l4])]
      · intro a
        have h1 : ¬ (a = V ∧ a = U) := by omega
        have h2 : ¬ (a = U ∧ a = V) := by omega
        simp only [updG, h1, h2, if_false]
        exact hG0 a
      · intro a b hab hb hor
        by_cases he : a = U ∧ b = V
        · obtain ⟨rfl, rfl⟩ := he
          have : ¬ (a = b ∧ b = a) := by omega
          exact ⟨y, by omega, by simp [updG], by simp [updG]⟩
        · obtain ⟨z, z1, z2, z3⟩ := hG a b hab hb (by omega)
          have h1 : ¬ (a = V ∧ b = U) := by omega
          have h2 : ¬ (b = V ∧ a = U) := fun h => he ⟨h.2, h.1⟩
          have h3 : ¬ (b = U ∧ a = V) := by omega
          exact ⟨z, z1, by simp [updG, he, h1, z2], by simp [updG, h2, h3, z3]⟩
      · rw [trim_self (by simp [l1, l2, l4])]; rfl
    · rintro st ⟨⟨ce2, G, v, u, x, rfl, hs, hG0, hG⟩, hv4⟩
      have l2 := hs.len
      rw [rngD_length] at hG
      refine run_nil ⟨.inl rfl, ce2, G, v, u, x, ?_, hs, hG0, fun a b hab hb hor => hG a b hab hb (by omega)⟩
      rw [trim_self (by simp [l2])]
  · rintro st ⟨ce1, G, v, u, x, rfl, hs, hG0, hG⟩
    have l1 := hs.len
    rw [rngD_length] at hG
    let R : Nat → Nat → Nat := fun u v => (G u v).getD 0
    have hval : ∀ u v, u < m → v < m → u ≠ v → ∃ x, x < k ∧ G u v = some x ∧ G v u = some x := fun u v hu hv h => by
      rcases Nat.lt_or_ge u v with hl | hl
      · exact hG u v hl hv (.inl hv)
      · obtain ⟨x, h1, h2, h3⟩ := hG v u (by omega) hu (.inl hu)
        exact ⟨x, h1, h3, h2⟩
    have hrow : ∀ u, u < m → rowO G m u = rowD R m u := fun u hu => by
      unfold rowO rowD
      apply List.map_congr_left
      intro v hv
      by_cases h : u = v
      · subst h; rw [hG0, if_pos rfl]; rfl
      · obtain ⟨x, _, h2, _⟩ := hval u v hu (List.mem_range.mp hv) h
        rw [if_neg h, h2]; simp [oD, optD, R, h2]
    have g : (ce1 ++ [some (.own (rowsO G m))])[ce.length]? = some (some (.own (rowsO G m))) := by rw [← l1]; simp
    have hfz : fzD (.own (rowsO G m)) = some (.lst ((List.range m).map fun u => .lst (rowO G m u))) := by
      have := fzDs_owns (f := rowO G m) (List.range m) fun a _ d hd => by
        obtain ⟨v, _, rfl⟩ := List.mem_map.mp hd
        exact oD_V _
      simp only [fzD, rowsO, this]
    let st4 : S := ⟨[some (.ref c), some (iD k), some (iD m), none, v, u, x, none, none], (ce1 ++ [some (D.own (rowsO G m))]).set ce.length none⟩
    have hmv := ev_mv_run (k := lev tab mach.L (n + 1)) (lk := lk) (st := ⟨[some (.ref c), some (iD k), some (iD m), some (.ref ce.length), v, u, x, none, none], ce1 ++ [some (.own (rowsO G m))]⟩) (i := 3) (c := ce.length) rfl hl0 g
    have htup : ∀ ce u, u < m → opB ce .tuple [.lst (rowO G m u)] = some (.tup (rowD R m u)) := fun ce u hu => by
      rw [hrow u hu]; exact b_tuple (sv_lst _) (by rw [rowD, List.length_map, List.length_range]; exact nat_le_line (by omega))
    have c2 := comp_nm (k := lev tab mach.L (n + 1)) (lk := lk) (l := []) (own := [8]) (i := 8) (it := .pl (.fz (.mv 3))) (e := .callB .tuple (.cons (.var 8) .nil)) (as := List.range m) (f := fun u => .lst (rowO G m u)) (g := fun u => .tup (rowD R m u)) (st := ⟨[some (.ref c), some (iD k), some (iD m), some (.ref ce.length), v, u, x, none, none], ce1 ++ [some (.own (rowsO G m))]⟩) (st1 := st4) (by
      rw [evi_pl, ev_fz, hmv]; simp [hfz, st4]) (by rw [List.length_range]; exact nat_le_line (by omega)) (fun _ _ => rfl) (fun a ha => ⟨.tup (rowD R m a), ⟨st4.sl.set 8 (some (.lst (rowO G m a))), st4.ce⟩, by simp [st4, htup _ a (List.mem_range.mp ha)], rfl, rfl⟩)
    have ht := fun ce => b_tuple (ce := ce) (sv_new ((List.range m).map fun u => D.tup (rowD R m u))) (by rw [List.length_map, List.length_range]; exact nat_le_line (by omega))
    refine run_ret (d := rowsD R m) (st1 := st4) ?_ (fr_V rfl ⟨R, ⟨fun u v hu hv h => ?_, fun u v hu hv h => ?_⟩, rfl, ?_⟩)
    · rw [ev_callB, evs_cons, c2]; simp [ht, rowsD]
    · obtain ⟨x, h1, h2, _⟩ := hval u v hu hv h
      simp [R, h2, h1]
    · obtain ⟨x, h1, h2, h3⟩ := hval u v hu hv h
      simp [R, h2, h3]
    · show Stp c ce (List.take ce.length (List.set _ ce.length none))
      rw [List.set_append_right _ _ (by omega), ← l1]; simpa using hs
end OV
/-! text W94N -/
namespace OV
open PySem (Str PyData NestedKey)
theorem la_ev (a b c : D) (lk : List Nat) (ce : Ce) (n : Nat) : (ka (n + 1)).la 0 [] [a, b, c] lk ce = .ok (.bl true) ce := by
  have h : mach.L 0 = some l_0 := rfl
  simp only [ka, lev, h]
  rw [if_pos ⟨rfl, rfl⟩, oL]
  simp [l_0]
theorem law_by_ev {k : Nat} (hk : k ≤ 100) (lk : List Nat) (ce : Ce) (hlk : ∀ x ∈ lk, x < ce.length) (n : Nat) : FRun ((ka (n + 2)).fn "_law_by" [.lst (rngD k), .clo 0 []] lk ce) fun d ce' => ce' = ce ∧ ∃ t, isV t = true ∧ d = .tup [.lst (rngD k), t] := by
  refine fn_run t__law_by rfl ?_
  simp only [d__law_by, c__law_by, n__law_by]
  have hl0 : lk.contains ce.length = false := hl0_of hlk (Nat.le_refl _)
  have g : ∀ d : D, (ce ++ [some d])[ce.length]? = some (some d) := fun d => by simp
  have st_ : ∀ d e : D, (ce ++ [some d]).set ce.length (some e) = ce ++ [some e] := fun d e => by rw [List.set_append_right _ _ (Nat.le_refl _)]; simp
  have hr : ∀ ce, opB ce .range1 [.int (k : Int)] = some (.rng 0 (k : Int)) := fun ce => b_range (by omega)
  have hli : ∀ ce, opB ce .list [.rng 0 (k : Int)] = some (.new (rngD k)) := fun ce => b_list sv_range (by rw [rngD_length]; exact nat_le_line (by omega))
  refine run_nm (d := .new (rngD k)) (x := .lst (rngD k)) (st1 := ⟨[some (.lst (rngD k)), some (.clo 0 []), none, none, none, none, none], ce⟩) (by simp [hr, hli]) rfl ?_
  refine run_new (ds := []) (d := .new []) (st1 := ⟨[some (.lst (rngD k)), some (.clo 0 []), some (.lst (rngD k)), none, none, none, none], ce⟩) (by simp) (.inl rfl) ?_
  let row : List D := (List.range k).map fun _ => .lst (rngD k)
  let rs : Nat → List D := fun i => (List.range i).map fun _ => .own row
  refine run_for (ds := rngD k) (l := []) (st1 := ⟨[some (.lst (rngD k)), some (.clo 0 []), some (.lst (rngD k)), some (.ref ce.length), none, none, none], ce ++ [some (.own [])]⟩) (J := fun i st => ∃ x, st = ⟨[some (.lst (rngD k)), some (.clo 0 []), some (.lst (rngD k)), some (.ref ce.length), x, none, none], ce ++ [some (.own (rs i))]⟩) (by simp) ⟨none, by simp [rs]⟩ ?_ ?_
  · rintro i d st hd ⟨x, rfl⟩
    obtain ⟨hi, rfl⟩ := getElem?_rng hd
    let st2 : S := ⟨[some (.lst (rngD k)), some (.clo 0 []), some (.lst (rngD k)), some (.ref ce.length), some (iD i), none, none], ce ++ [some (.own (rs i))]⟩
    refine ⟨st2, by simp [st2], ?_⟩
    have c1 := comp_nm (k := lev tab mach.L (n + 1)) (lk := [] ++ lk) (l := []) (own := [5]) (i := 5) (it := .pl (.var 2)) (e := .comp [6] (.nm false 6) (.pl (.var 2)) (.cons (.callV 1 (.cons (.var 4) (.cons (.var 5) (.cons (.var 6) .nil)))) .nil) (.el false (.var 6))) (as := List.range k) (f := iD) (g := fun _ => .lst (rngD k)) (st := st2) (st1 := st2) (by simp [st2, rngD_eq]) (by rw [List.length_range]; exact nat_le_line (by omega)) (fun _ _ => rfl) (fun a ha => by
      let st3 : S := ⟨[some (.lst (rngD k)), some (.clo 0 []), some (.lst (rngD k)), some (.ref ce.length), some (iD i), some (iD a), none], ce ++ [some (.own (rs i))]⟩
      have hst : (⟨(wipe st2.sl [5]).set 5 (some (iD a)), st2.ce⟩ : S) = st3 := by simp [st2, st3]
      rw [hst]
      have c2 := comp_if (k := lev tab mach.L (n + 1)) (lk := [] ++ ([] ++ lk)) (l := []) (own := [6]) (i := 6) (it := .pl (.var 2)) (c := .callV 1 (.cons (.var 4) (.cons (.var 5) (.cons (.var 6) .nil)))) (e := .var 6) (as := List.range k) (f := iD) (g := iD) (p := fun _ => true) (st := st3) (st1 := st3) (by simp [st3, rngD_eq]) (by rw [List.length_range]; exact nat_le_line (by omega)) (fun _ _ => rfl) (fun b hb => by
        have := fun a b c lk ce => la_ev a b c lk ce n
        simp [st3, this]) (fun b hb _ => ⟨iD b, ⟨st3.sl.set 6 (some (iD b)), st3.ce⟩, by simp [st3], rfl, rfl⟩)
      rw [List.filter_eq_self.mpr (by simp), ← rngD_eq] at c2
      exact ⟨_, _, c2, rfl, rfl⟩)
    refine run_append (c := ce.length) (d := .new row) (x := .own row) (st1 := st2) rfl hl0 (g _) c1 (g _) rfl ?_ (run_nil ⟨.inl rfl, some (iD i), ?_⟩)
    · simp only [rs, List.length_map, List.length_range]; exact Nat.lt_of_lt_of_le hi (nat_le_line (by omega))
    · have e : rs i ++ [.own row] = rs (i + 1) := by simp only [rs]; rw [List.range_succ, List.map_append]; rfl
      rw [trim_self (by simp [st2, st_]), st_, e]
  · rintro st ⟨x, rfl⟩
    have hmv := ev_mv_run (k := lev tab mach.L (n + 1)) (lk := lk) (st := ⟨[some (.lst (rngD k)), some (.clo 0 []), some (.lst (rngD k)), some (.ref ce.length), x, none, none], ce ++ [some (.own (rs (rngD k).length))]⟩) (i := 3) (c := ce.length) rfl hl0 (g _)
    have hli2 : ∀ ce, opB ce .list [.lst (rngD k)] = some (.new (rngD k)) := fun ce => b_list (sv_lst _) (by rw [rngD_length]; exact nat_le_line (by omega))
    have hfz : fzD (.own (rs (rngD k).length)) = some (.lst ((List.range (rngD k).length).map fun _ => .lst row)) := by
      have := fzDs_owns (f := fun _ : Nat => row) (List.range (rngD k).length) fun a _ d hd => by
        obtain ⟨v, _, rfl⟩ := List.mem_map.mp hd
        rfl
      simp only [fzD, rs, this]
    refine run_ret (d := .tup [.lst (rngD k), .lst ((List.range (rngD k).length).map fun _ => .lst row)]) (st1 := ⟨[some (.lst (rngD k)), some (.clo 0 []), some (.lst (rngD k)), none, x, none, none], (ce ++ [some (D.own (rs (rngD k).length))]).set ce.length none⟩) ?_ (fr_V rfl ⟨?_, _, rfl, rfl⟩)
    · rw [ev_tup, evs_cons]
      simp only [ev_callB, evs_cons, evs_nil, ev_var, List.getElem?_cons_zero, Res.bind_ok, hli2, Res.of_some, lkO_lst, lkO_new, List.nil_append]
      rw [hmv]
      simp only [Res.bind_ok, items_cons, items_nil, itm_fz, fz_new, hfz]
      have h2 : 2 ≤ line := by decide
      exact (if_pos (show [D.lst (rngD k), D.lst ((List.range (rngD k).length).map fun _ => D.lst row)].length ≤ line from h2)).trans rfl
    · show (List.set _ _ _).take _ = _
      rw [List.set_append_right _ _ (Nat.le_refl _)]; simp
end OV
/-! text W94O -/
namespace OV
open PySem (Str PyData NestedKey)
theorem of_nD {xs : List Nat} {d : D} (h : d ∈ nD xs) : ∃ x, x ∈ xs ∧ d = iD x := by
  obtain ⟨x, h1, h2⟩ := List.mem_map.mp h
  exact ⟨x, h1, h2.symm⟩
theorem nD_take (xs : List Nat) (n : Nat) : (nD xs).take n = nD (xs.take n) := by simp [nD]
theorem enum_nD (xs : List Nat) : enumD 0 (nD xs) = (List.range xs.length).map fun u => .tup [iD u, iD (gσ xs u)] := by
  rw [enumD_eq, nD_length]
  apply List.map_congr_left
  intro u hu
  have := List.mem_range.mp hu
  simp [gσ, this]
theorem ent_sym {R : Nat → Nat → Nat} {k m u v : Nat} (hR : Rw R k m) (hu : u < m) (hv : v < m) : ent R u v = ent R v u := by
  unfold ent
  by_cases h : u = v
  · rw [if_pos h, if_pos h.symm]
  · rw [if_neg h, if_neg (Ne.symm h), hR.sym u v hu hv h]
/-- what is kept while the pair is drawn -/
structure Pr (R : Nat → Nat → Nat) (m : Nat) (here th : List Nat) : Prop where
  t : ∀ x ∈ th, x < m
  tn : th.Nodup
  l : th.length ≤ here.length
  e : ∀ i j, i < th.length → j < th.length → ent R (gσ here i) (gσ here j) = ent R (gσ th i) (gσ th j)
theorem gσ_get {xs : List Nat} {i : Nat} (h : i < xs.length) : gσ xs i = xs[i] := by simp [gσ, h]
theorem Pr.lk {R : Nat → Nat → Nat} {m : Nat} {here th : List Nat} (h : Pr R m here th) (hh : ∀ x ∈ here, x < m) (hn : here.Nodup) (hb : here.length ≤ 100) (c : Nat) (hc : c ≤ th.length) : Lk R m (here.take c) (th.take c) := by
  have hl := h.l
  refine ⟨fun x hx => hh x (List.mem_of_mem_take hx), fun x hx => h.t x (List.mem_of_mem_take hx), hn.sublist (List.take_sublist _ _), h.tn.sublist (List.take_sublist _ _), by simp; omega, fun i j hi hj => ?_, by simp; omega⟩
  simp only [List.length_take] at hi hj
  have := h.e i j (by omega) (by omega)
  rw [gσ_get (by omega), gσ_get (by omega), gσ_get (by omega), gσ_get (by omega)] at this
  simpa using this
theorem Pr.snoc {R : Nat → Nat → Nat} {k m : Nat} {here th : List Nat} (hR : Rw R k m) (h : Pr R m here th) (hh : ∀ x ∈ here, x < m) (hl : th.length < here.length) {w : Nat} (hw : w < m) (hn : w ∉ th) (he : ∀ j, j < th.length → ent R (gσ here th.length) (gσ here j) = ent R w (gσ th j)) : Pr R m here (th ++ [w]) := by
  have ga : ∀ i, i < th.length → gσ (th ++ [w]) i = gσ th i := fun i hi => by simp [gσ, List.getElem?_append_left hi]
  have gb : gσ (th ++ [w]) th.length = w := by simp [gσ]
  have hhm : ∀ i, i < here.length → gσ here i < m := fun i hi => by rw [gσ_get hi]; exact hh _ (List.getElem_mem hi)
  have htm : ∀ i, i < th.length → gσ th i < m := fun i hi => by rw [gσ_get hi]; exact h.t _ (List.getElem_mem hi)
  refine ⟨fun x hx => ?_, List.nodup_append.mpr ⟨h.tn, by simp, fun a ha b hb e => ?_⟩, by simp; omega, fun i j hi hj => ?_⟩
  · rcases List.mem_append.mp hx with hx | hx
    · exact h.t x hx
    · rw [List.mem_singleton.mp hx]; exact hw
  · rw [List.mem_singleton.mp hb] at e
    exact hn (e ▸ ha)
  · simp only [List.length_append, List.length_singleton] at hi hj
    by_cases h1 : i < th.length
    · by_cases h2 : j < th.length
      · rw [ga i h1, ga j h2]; exact h.e i j h1 h2
      · have : j = th.length := by omega
        subst this
        rw [ga i h1, gb, ent_sym hR (hhm i (by omega)) (hhm _ hl), ent_sym hR (htm i h1) hw]
        exact he i h1
    · have : i = th.length := by omega
      subst this
      by_cases h2 : j < th.length
      · rw [ga j h2, gb]; exact he j h2
      · have : j = th.length := by omega
        subst this
        rw [gb]; simp [ent]
theorem drawn_pair_run {R : Nat → Nat → Nat} {k m : Nat} {c : Nat} {ce : Ce} {lk : List Nat} (hR : Rw R k m) (hd : Dl c ce) (hlk : ∀ x ∈ lk, x < ce.length) (hkc : lk.contains c = false) (hm : m ≤ 100) (n : Nat) :
    FRun ((ka (n + 3)).fn "_law_drawn_pair" [.ref c, rowsD R m] lk ce) fun d ce' => ∃ here there, Lk R m here there ∧ d = .tup [.tup (nD here), .tup (nD there)] ∧ Stp c ce ce' := by
  refine fn_run t__law_drawn_pair rfl ?_
  simp only [d__law_drawn_pair, c__law_drawn_pair, n__law_drawn_pair]
  have hcl := hd.lt
  have hl0 : lk.contains ce.length = false := hl0_of hlk (Nat.le_refl _)
  have hr : ∀ (m : Nat), m ≤ 101 → ∀ ce, opB ce .range1 [.int (m : Int)] = some (.rng 0 (m : Int)) := fun m hm ce => b_range (by omega)
  have hli : ∀ ce, opB ce .list [.rng 0 (m : Int)] = some (.new (rngD m)) := fun ce => b_list sv_range (by rw [rngD_length]; exact nat_le_line (by omega))
  obtain ⟨_, ce1, e1, es, rfl, hes, hs1⟩ := mixed_run (L := mach.L) t_any t_mixed hd hlk hkc (ds := rngD m) (by rw [rngD_length]; exact nat_le_line (by omega)) (fun d hd => by
    obtain ⟨x, _, rfl⟩ := List.mem_map.mp hd
    simp) n
  obtain ⟨ord, ho1, rfl⟩ : ∃ ord : List Nat, ord.Perm (List.range m) ∧ es = nD ord := by
    refine ⟨es.map fun d => match d with | .int i => i.toNat | _ => 0, ?_, ?_⟩
    · have := hes.map fun d => match d with | .int i => i.toNat | _ => 0
      rw [rngD_eq, List.map_map] at this
      simpa [Function.comp_def] using this
    · rw [nD, List.map_map]
      conv => lhs; rw [← List.map_id es]
      apply List.map_congr_left
      intro d hdd
      obtain ⟨x, _, rfl⟩ := List.mem_map.mp (hes.subset hdd)
      simp
  obtain ⟨_, ce2, e2, w, rfl, w0, w1, hs2⟩ := any_run (lk := lk) (L := mach.L) t_any (Stp.dl hd hs1) hkc (m := (m : Int) + 1) (by omega) (by omega) (n + 1)
  obtain ⟨cut, rfl⟩ := Int.eq_ofNat_of_zero_le w0
  have hs12 := hs1.trans hs2
  have l2 := hs12.len
  let here := ord.take cut
  have hh : ∀ x ∈ here, x < m := fun x hx => by simpa using ho1.subset (List.mem_of_mem_take hx)
  have hon : ord.Nodup := ho1.nodup_iff.mpr List.nodup_range
  have hn : here.Nodup := hon.sublist (List.take_sublist _ _)
  have hlen : here.length ≤ m := by
    have := ho1.length_eq
    simp only [List.length_range] at this
    simp [here]; omega
  let st1 : S := ⟨[some (.ref c), some (rowsD R m), some (.lst (nD here)), some (.ref ce.length), none, none, none, none, none], ce2 ++ [some (.own [])]⟩
  refine run_asg (d := .oto [.own (nD here), .own []]) (st1 := ⟨[some (.ref c), some (rowsD R m), none, none, none, none, none, none, none], ce2⟩) (st2 := st1) ?_ ?_ ?_
  · have hcut : ∀ ce, opSl ce (.own (nD ord)) none (some (cut : Int)) = some (.new (nD here)) := fun ce => by
      simp only [opSl, seqL, all_V (nD_V ord), if_true, cut_to, nD_take]; rfl
    simp [rowsD_len, hr m (by omega), hli, e1, e2, hcut, itmL, show 2 ≤ line from by decide]
  · rw [evt_tp_oto, if_pos (by rfl), evts_cons, evt_nm, setN_false, arg_own_nD]
    simp [setN, st1, l2]
  refine run_forR (ds := (List.range here.length).map fun u => .tup [iD u, iD (gσ here u)]) (l := []) (st1 := st1) (Z := fun d s => ∃ a b, Lk R m a b ∧ d = .tup [.tup (nD a), .tup (nD b)] ∧ Stp c ce (s.ce.take ce.length)) (J := fun i st => ∃ ce' th x y z, st = ⟨[some (.ref c), some (rowsD R m), some (.lst (nD here)), some (.ref ce.length), x, y, z, none, none], ce' ++ [some (.own (nD th))]⟩ ∧ Stp c ce ce' ∧ th.length = i ∧ Pr R m here th) (by rw [← enum_nD]; simp [st1]) ⟨ce2, [], none, none, none, rfl, hs12, rfl, ⟨by simp, by simp, by simp, by simp⟩⟩ ?_ ?_ ?_
  · rintro i d st hdd ⟨ce3, th, x, y, z, rfl, hs3, ht, hp⟩
    obtain ⟨hi, hdd⟩ := List.getElem?_eq_some_iff.mp hdd
    simp only [List.length_map, List.length_range] at hi
    simp only [List.getElem_map, List.getElem_range] at hdd
    subst hdd
    have l3 := hs3.len
    let u := gσ here i
    have hum : u < m := by simp only [u]; rw [gσ_get hi]; exact hh _ (List.getElem_mem hi)
    let st2 : S := ⟨[some (.ref c), some (rowsD R m), some (.lst (nD here)), some (.ref ce.length), some (iD i), some (iD u), z, none, none], ce3 ++ [some (.own (nD th))]⟩
    refine ⟨st2, by simp [st2, u, Ts.len], ?_⟩
    have g : (ce3 ++ [some (.own (nD th))])[ce.length]? = some (some (.own (nD th))) := by rw [← l3]; simp
    let pj : Nat → Nat → Bool := fun w j => !decide (ent R u (gσ here j) = ent R w (gσ th j))
    let pw : Nat → Bool := fun w => !decide (w ∈ th) && decide (((List.range i).filter (pj w)).map iD = [])
    have c1 := comp_if (k := lev tab mach.L (n + 2)) (lk := lk) (l := []) (own := [7]) (i := 7) (it := .pl (.callB .range1 (.cons (.callB .len (.cons (.var 1) .nil)) .nil))) (c := .and (.cons (.cmp .nin (.var 7) (.var 3)) (.cons (.cmp .eq (.comp [8] (.nm false 8) (.pl (.callB .range1 (.cons (.var 4) .nil))) (.cons (.cmp .ne (.idx (.idx (.var 1) (.var 5)) (.idx (.var 2) (.var 8))) (.idx (.idx (.var 1) (.var 7)) (.idx (.var 3) (.var 8)))) .nil) (.el false (.var 8))) (.lst false .nil)) .nil))) (e := .var 7) (as := List.range m) (f := iD) (g := iD) (p := pw) (st := st2) (st1 := st2) (by simp [st2, rowsD_len, hr m (by omega), rngD_eq]) (by rw [List.length_range]; exact nat_le_line (by omega)) (fun _ _ => rfl) (fun w hw => by
      have hw := List.mem_range.mp hw
      let st3 : S := ⟨[some (.ref c), some (rowsD R m), some (.lst (nD here)), some (.ref ce.length), some (iD i), some (iD u), z, some (iD w), none], ce3 ++ [some (.own (nD th))]⟩
      have hst : (⟨(wipe st2.sl [7]).set 7 (some (iD w)), st2.ce⟩ : S) = st3 := by simp [st2, st3]
      rw [hst]
      have hnin : opCmp (ce3 ++ [some (.own (nD th))]) .nin (iD w) (.ref ce.length) = some (!decide (w ∈ th)) := enc_nin enc_n (by decide) w (isL_seqD (.ref g))
      have c2 := comp_if (k := lev tab mach.L (n + 2)) (lk := [] ++ lk) (l := []) (own := [8]) (i := 8) (it := .pl (.callB .range1 (.cons (.var 4) .nil))) (c := .cmp .ne (.idx (.idx (.var 1) (.var 5)) (.idx (.var 2) (.var 8))) (.idx (.idx (.var 1) (.var 7)) (.idx (.var 3) (.var 8)))) (e := .var 8) (as := List.range i) (f := iD) (g := iD) (p := pj w) (st := st3) (st1 := st3) (by simp [st3, hr i (by omega), rngD_eq]) (by rw [List.length_range]; exact nat_le_line (by omega)) (fun _ _ => rfl) (fun j hj => by
        have hj := List.mem_range.mp hj
        have h1 : ∀ ce, opIdx ce (.lst (nD here)) (iD j) = some (iD (gσ here j)) := fun ce => by
          have : j < here.length := by omega
          simp [gσ, this]
        have h2 : opIdx (ce3 ++ [some (.own (nD th))]) (.ref ce.length) (iD j) = some (iD (gσ th j)) := i_ref g (by
          have : j < th.length := by omega
          simp [gσ, this]) rfl
        have h3 : gσ here j < m := by rw [gσ_get (by omega)]; exact hh _ (List.getElem_mem _)
        have h4 : gσ th j < m := by rw [gσ_get (by omega)]; exact hp.t _ (List.getElem_mem _)
        simp [st3, -i_lst, rowsD_get hum, h1, row_ent h3, rowsD_get hw, h2, row_ent h4, ent_ne, pj]) (fun j hj _ => ⟨iD j, ⟨st3.sl.set 8 (some (iD j)), st3.ce⟩, by simp [st3], rfl, rfl⟩)
      have hq : opCmp (ce3 ++ [some (.own (nD th))]) .eq (.new (((List.range i).filter (pj w)).map iD)) (.new []) = some (decide (((List.range i).filter (pj w)).map iD = [])) := isL_eq_nil (.new _) fun d hd => by
        obtain ⟨x, _, rfl⟩ := List.mem_map.mp hd
        exact okV_P (by simp)
      have e0 : oE (lev tab mach.L (n + 2)) lk (.cmp .nin (.var 7) (.var 3)) st3 = .ok (.bl (!decide (w ∈ th))) st3 := by
        simp only [ev_cmp, ev_var]
        show Res.of (Option.map D.bl (opCmp (ce3 ++ [some (.own (nD th))]) .nin (iD w) (.ref ce.length))) st3 = _
        rw [hnin]; rfl
      have e5 : oE (lev tab mach.L (n + 2)) lk (.cmp .eq (.comp [8] (.nm false 8) (.pl (.callB .range1 (.cons (.var 4) .nil))) (.cons (.cmp .ne (.idx (.idx (.var 1) (.var 5)) (.idx (.var 2) (.var 8))) (.idx (.idx (.var 1) (.var 7)) (.idx (.var 3) (.var 8)))) .nil) (.el false (.var 8))) (.lst false .nil)) st3 = .ok (.bl (decide (((List.range i).filter (pj w)).map iD = []))) st3 := by
        rw [ev_cmp]
        simp only [List.nil_append] at c2
        rw [c2, Res.bind_ok]
        rw [ev_lstF, evs_nil, Res.bind_ok]
        simp only [items_nil, List.length_nil, Nat.zero_le, if_true, Res.bind_ok]
        rw [hq]; rfl
      rw [List.nil_append, ev_and, eva_cons, e0, boolR_ok1, Res.bind_ok]
      by_cases hwt : w ∈ th
      · simp [hwt, pw]
      · simp only [hwt, decide_false, Bool.not_false]
        rw [eva_cons, e5, boolR_ok1, Res.bind_ok]
        simp only [pw, hwt, decide_false, Bool.not_false, Bool.true_and]
        cases decide (((List.range i).filter (pj w)).map iD = []) <;> simp) (fun w hw _ => ⟨iD w, ⟨st2.sl.set 7 (some (iD w)), st2.ce⟩, by simp [st2], rfl, rfl⟩)
    let ws := (List.range m).filter pw
    have hwsm : ∀ w ∈ ws, w < m ∧ w ∉ th ∧ ∀ j, j < i → ent R u (gσ here j) = ent R w (gσ th j) := fun w hw => by
      obtain ⟨h1, h2⟩ := List.mem_filter.mp hw
      simp only [pw, Bool.and_eq_true, Bool.not_eq_true', decide_eq_false_iff_not, decide_eq_true_eq, List.map_eq_nil_iff, List.filter_eq_nil_iff] at h2
      refine ⟨List.mem_range.mp h1, h2.1, fun j hj => ?_⟩
      have := h2.2 j (List.mem_range.mpr hj)
      simpa [pj] using this
    have hwl : ws.length ≤ 100 := Nat.le_trans (List.length_filter_le _ _) (by simpa using hm)
    refine run_nm (d := .new (nD ws)) (x := .lst (nD ws)) (st1 := st2) c1 rfl ?_
    let st4 : S := ⟨[some (.ref c), some (rowsD R m), some (.lst (nD here)), some (.ref ce.length), some (iD i), some (iD u), some (.lst (nD ws)), none, none], ce3 ++ [some (.own (nD th))]⟩
    have hst4 : (⟨st2.sl.set 6 (some (.lst (nD ws))), st2.ce⟩ : S) = st4 := by simp [st2, st4]
    rw [hst4]
    have hnP : ∀ xs : List Nat, ∀ d ∈ nD xs, okP d = true := fun xs d hd => by
      obtain ⟨x, _, rfl⟩ := List.mem_map.mp hd
      exact okV_P (by simp)
    have hwnil : ∀ ce, opCmp ce .eq (.lst (nD ws)) (.new []) = some (decide (nD ws = [])) := fun ce => isL_eq_nil (.lst _) (hnP ws)
    have hnil : (nD ws = []) = (ws = []) := by simp [nD]
    simp only [hnil] at hwnil
    by_cases hw0 : ws = []
    · refine run_if (t := true) (st1 := st4) (by simp [st4, hwnil]; exact hw0) ?_
      have t1 : ∀ ce, opB ce .tuple [.new (nD (here.take i))] = some (.tup (nD (here.take i))) := fun ce => b_tuple (sv_new _) (by rw [nD_length]; exact nat_le_line (by simp; omega))
      have t2 := b_tuple (isL_seqV (.ref g) (nD_V th)) (by rw [nD_length]; exact nat_le_line (by omega))
      have hsl : ∀ ce, opSl ce (.lst (nD here)) none (some (i : Int)) = some (.new (nD (here.take i))) := fun ce => by
        simp only [opSl, cut_to, nD_take]
      refine run_ret (d := .tup [.tup (nD (here.take i)), .tup (nD th)]) (st1 := st4) ?_ ?_
      · simp [st4, t1, t2, hsl, show 2 ≤ line from by decide]
      · refine ⟨here.take i, th, ?_, rfl, ?_⟩
        · have := hp.lk hh hn (by omega) i (by omega)
          rwa [show th.take i = th from by rw [← ht, List.take_length]] at this
        · simp only [st4]
          rw [List.take_append_of_le_length (by omega), ← l3, List.take_length]; exact hs3
    · refine run_if (t := false) (st1 := st4) (by simp [st4, hwnil, hw0]) ?_
      obtain ⟨dw, ce5, e5, hdw, hs5⟩ := of_run (L := mach.L) (lk := lk) t_any t_of (ds := nD ws) (c := c) (ce := ce3 ++ [some (.own (nD th))]) ((Stp.dl hd hs3).app _) hkc (by simpa [nD] using hw0) (by rw [nD_length]; omega) (nD_V ws) n (.inr rfl)
      obtain ⟨w, hw, rfl⟩ := of_nD hdw
      obtain ⟨ce6, rfl, hs6⟩ := hs5.pre (by omega)
      have l6 := hs6.len
      obtain ⟨w1, w2, w3⟩ := hwsm w hw
      have g6 : (ce6 ++ [some (.own (nD th))])[ce.length]? = some (some (.own (nD th))) := by rw [← l3, ← l6]; simp
      refine run_append (c := ce.length) (d := iD w) (x := iD w) (st1 := ⟨st4.sl, ce6 ++ [some (.own (nD th))]⟩) rfl hl0 g ?_ g6 rfl ?_ (run_nil ⟨ce6, th ++ [w], some (iD i), some (iD u), some (.lst (nD ws)), ?_, hs3.trans hs6, by simp [ht], ?_⟩)
      · simp [st4, e5]
      · rw [nD_length]; exact Nat.lt_of_le_of_lt (m := 100) (by omega) (by decide)
      · have : (ce6 ++ [some (D.own (nD th))]).set ce.length (some (.own (nD th ++ [iD w]))) = ce6 ++ [some (.own (nD (th ++ [w])))] := by
          rw [List.set_append_right _ _ (by omega), nD_app]; simp [l3, l6]
        rw [this, trim_self (by simp [st1, l2, l3, l6])]
      · exact hp.snoc hR hh (by omega) w1 w2 fun j hj => by rw [ht]; exact w3 j (by omega)
  · rintro x s ⟨a, b, h1, rfl, h3⟩
    exact fr_V rfl ⟨a, b, h1, rfl, h3⟩
  · rintro st ⟨ce3, th, x, y, z, rfl, hs3, ht, hp⟩
    have l3 := hs3.len
    rw [List.length_map, List.length_range] at ht
    have g : (ce3 ++ [some (.own (nD th))])[ce.length]? = some (some (.own (nD th))) := by rw [← l3]; simp
    have t1 : ∀ ce, opB ce .tuple [.lst (nD here)] = some (.tup (nD here)) := fun ce => b_tuple (sv_lst _) (by rw [nD_length]; exact nat_le_line (by omega))
    have t2 := b_tuple (isL_seqV (.ref g) (nD_V th)) (by rw [nD_length]; exact nat_le_line (by omega))
    refine run_ret (d := .tup [.tup (nD here), .tup (nD th)]) (st1 := ⟨[some (.ref c), some (rowsD R m), some (.lst (nD here)), some (.ref ce.length), x, y, z, none, none], ce3 ++ [some (.own (nD th))]⟩) (by simp [t1, t2, show 2 ≤ line from by decide]) (fr_V rfl ⟨here, th, ?_, rfl, ?_⟩)
    · have := hp.lk hh hn (by omega) here.length (by omega)
      rwa [List.take_length, show th.take here.length = th from by rw [← ht, List.take_length]] at this
    · rw [List.take_append_of_le_length (by omega), ← l3, List.take_length]; exact hs3
end OV
/-! text W94P -/
namespace OV
open PySem (Str PyData NestedKey)
/-! ### sayings -/
inductive Say where
  | lot (u v : Nat) (xs : List Nat) | neg (s : Say) | all (ss : List Say) | som (s : Say)
mutual
def sD : Say → D
  | .lot u v xs => .tup [.str "lot", iD u, iD v, .tup (nD xs)]
  | .neg s => .tup [.str "not", sD s]
  | .all ss => .tup [.str "all", .tup (sDs ss)]
  | .som s => .tup [.str "some", sD s]
def sDs : List Say → List D
  | [] => []
  | s :: ss => sD s :: sDs ss
end
theorem sDs_map : ∀ ss : List Say, sDs ss = ss.map sD
  | [] => rfl
  | s :: ss => by rw [sDs, sDs_map ss]; rfl
def OkS : Nat → Nat → Say → Prop
  | 0, _, _ => False
  | _ + 1, p, .lot u v _ => u < p ∧ v < p
  | n + 1, p, .neg s => OkS n p s
  | n + 1, p, .all ss => (∀ s ∈ ss, OkS n p s) ∧ ss.length ≤ 100
  | n + 1, p, .som s => OkS n (p + 1) s
theorem sD_V (s : Say) : isV (sD s) = true := by cases s <;> (rw [sD]; rfl)
def hS (W : Nat → Nat → Nat) (N : Nat) : Nat → List Nat → Say → Bool
  | 0, _, _ => false
  | _ + 1, ch, .lot u v xs => decide (ent W (gσ ch u) (gσ ch v) ∈ xs.map some)
  | n + 1, ch, .neg s => !hS W N n ch s
  | n + 1, ch, .all ss => ss.all (hS W N n ch)
  | n + 1, ch, .som s => ((List.range N).filter fun q => !decide (q ∈ ch)).any fun q => hS W N n (ch ++ [q]) s
theorem strOkS (s : String) : PyData.strOk (Str.ofString s) = true := by
  unfold PyData.strOk
  rw [Array.all_eq_true_iff_forall_mem]
  intro c hc
  have := okS_of s c (Array.mem_toList_iff.mpr hc)
  simpa using this
theorem str_eq {ce : Ce} (a b : String) : opCmp ce .eq (.str a) (.str b) = some (decide (Str.ofString a = Str.ofString b)) := by
  have h : ∀ s : String, PySem.SeqAt.shaped (.str (Str.ofString s)) = true := fun s => by simp [shaped_eq, PyData.canLay0, PyData.depth, strOkS]
  simp only [opCmp, eqD, pdc, pd]
  rw [h a, h b]
  simp only [Bool.and_self, if_true, PyData.eqv]
  congr 1
theorem okP_sD : ∀ (n p : Nat) (s : Say), OkS n p s → ∃ q, pd (sD s) = some q ∧ q.canLay0 = true ∧ q.depth ≤ 2 * n + 1
  | 0, p, s, h => by cases h
  | n + 1, p, .lot u v xs, h => by
    obtain ⟨ps, h1, h2, h3⟩ := pds_enc enc_n xs
    refine ⟨.tuple [.str "lot", .int u, .int v, .tuple ps], ?_, ?_, ?_⟩
    · rw [sD]; simp only [pd, pds, nD, h1]
    · simp [PyData.canLay0, PyData.canLayAll0, strOkS, h2]
    · simp [PyData.depth, PyData.depthAll]; omega
  | n + 1, p, .neg s, h => by
    obtain ⟨q, h1, h2, h3⟩ := okP_sD n p s h
    refine ⟨.tuple [.str "not", q], ?_, ?_, ?_⟩
    · rw [sD]; simp only [pd, pds, h1]
    · simp [PyData.canLay0, PyData.canLayAll0, strOkS, h2]
    · simp [PyData.depth, PyData.depthAll]; omega
  | n + 1, p, .som s, h => by
    obtain ⟨q, h1, h2, h3⟩ := okP_sD n (p + 1) s h
    refine ⟨.tuple [.str "some", q], ?_, ?_, ?_⟩
    · rw [sD]; simp only [pd, pds, h1]
    · simp [PyData.canLay0, PyData.canLayAll0, strOkS, h2]
    · simp [PyData.depth, PyData.depthAll]; omega
  | n + 1, p, .all ss, h => by
    have key : ∀ ss : List Say, (∀ s ∈ ss, OkS n p s) → ∃ qs, pds (sDs ss) = some qs ∧ PyData.canLayAll0 qs = true ∧ PyData.depthAll qs ≤ 2 * n + 1 := by
      intro ss
      induction ss with
      | nil => exact fun _ => ⟨[], rfl, rfl, Nat.zero_le _⟩
      | cons s ss ih =>
        intro h
        obtain ⟨q, h1, h2, h3⟩ := okP_sD n p s (h s List.mem_cons_self)
        obtain ⟨qs, h4, h5, h6⟩ := ih fun t ht => h t (List.mem_cons_of_mem _ ht)
        exact ⟨q :: qs, by simp only [sDs, pds, h1, h4], by simp [PyData.canLayAll0, h2, h5], by simp only [PyData.depthAll]; omega⟩
    obtain ⟨qs, h1, h2, h3⟩ := key ss h.1
    refine ⟨.tuple [.str "all", .tuple qs], ?_, ?_, ?_⟩
    · rw [sD]; simp only [pd, pds, h1]
    · simp [PyData.canLay0, PyData.canLayAll0, strOkS, h2]
    · simp [PyData.depth, PyData.depthAll]; omega
theorem okP_of {n p : Nat} {s : Say} (h : OkS n p s) (hn : n ≤ 25) : okP (sD s) = true := by
  obtain ⟨q, h1, h2, h3⟩ := okP_sD n p s h
  simp [okP, h1, h2]; omega
theorem in_ent {ce : Ce} {W : Nat → Nat → Nat} {u v : Nat} {xs : List Nat} : opCmp ce .inn (entD W u v) (.tup (nD xs)) = some (decide (ent W u v ∈ xs.map some)) := by
  refine (enc_in enc_onat (by decide) (ent W u v) (xs := xs.map some) ?_).trans (by congr)
  simp [nD, optD, seqD, Function.comp_def]
structure Chs (N : Nat) (ch : List Nat) : Prop where
  lt : ∀ x ∈ ch, x < N
  nd : ch.Nodup
theorem gσ_lt {N : Nat} {ch : List Nat} (h : ∀ x ∈ ch, x < N) {u : Nat} (hu : u < ch.length) : gσ ch u < N := by
  rw [gσ_get hu]; exact h _ (List.getElem_mem hu)
theorem gσ_ix {ce : Ce} {ch : List Nat} {u : Nat} (hu : u < ch.length) : opIdx ce (.tup (nD ch)) (iD u) = some (iD (gσ ch u)) := by simp [gσ, hu]
section
variable {W : Nat → Nat → Nat} {N : Nat}
theorem lot_not : decide (Str.ofString "not" = Str.ofString "lot") = false := by decide
theorem holds_in_ev (hN : N ≤ 1000) (l : Nat) : ∀ (n p : Nat) (s : Say), OkS n p s → ∀ (ch : List Nat), ch.length = p → (∀ x ∈ ch, x < N) → ch.length + n ≤ 1000 → ∀ (lk : List Nat) (ce : Ce), (ka (l + n)).fn "holds_in" [rowsD W N, .tup (nD ch), sD s] lk ce = .ok (.bl (hS W N n ch s)) ce
  | 0, _, _, h, _, _, _, _, _, _ => by cases h
  | n + 1, p, .lot u v xs, h, ch, hl, hch, hb, lk, ce => by
    obtain ⟨h1, h2⟩ := h
    show (ka ((l + n) + 1)).fn _ _ _ _ = _
    rw [ka, lev_fn t_holds_in _ _ _ _ rfl, oF, sD]
    simp [d_holds_in, c_holds_in, n_holds_in, str_eq, -i_tup, gσ_ix (hl ▸ h1 : u < ch.length), gσ_ix (hl ▸ h2 : v < ch.length), rowsD_get (gσ_lt hch (hl ▸ h1)), row_ent (gσ_lt hch (hl ▸ h2)), in_ent, hS]
  | n + 1, p, .neg s, h, ch, hl, hch, hb, lk, ce => by
    have ih := holds_in_ev hN l n p s h ch hl hch (by omega)
    show (ka ((l + n) + 1)).fn _ _ _ _ = _
    rw [ka, lev_fn t_holds_in _ _ _ _ rfl, oF, sD]
    have hq : Str.ofString "not" ≠ Str.ofString "lot" := by decide
    simp [d_holds_in, c_holds_in, n_holds_in, str_eq, hq, arg_V (sD_V s), ih, hS]
  | n + 1, p, .all ss, h, ch, hl, hch, hb, lk, ce => by
    have hq : Str.ofString "all" ≠ Str.ofString "lot" := by decide
    have hq2 : Str.ofString "all" ≠ Str.ofString "not" := by decide
    show (ka ((l + n) + 1)).fn _ _ _ _ = _
    refine FRun.eq (fn_run t_holds_in rfl ?_)
    simp only [d_holds_in, c_holds_in, n_holds_in, sD, sDs_map]
    let st1 : S := ⟨[some (rowsD W N), some (.tup (nD ch)), some (.tup [.str "all", .tup (ss.map sD)]), none, none, none], ce⟩
    have c1 := comp_nm (k := lev tab mach.L (l + n)) (lk := lk) (l := []) (own := [5]) (i := 5) (it := .pl (.idx (.var 2) (.int 1))) (e := .call "holds_in" (.cons (.var 0) (.cons (.var 1) (.cons (.var 5) .nil)))) (as := ss) (f := sD) (g := fun s => .bl (hS W N n ch s)) (st := st1) (st1 := st1) (by simp [st1]) (nat_le_line (Nat.le_trans h.2 (by decide))) (fun s _ => arg_V (sD_V s)) (fun s hs => ⟨_, ⟨st1.sl.set 5 (some (sD s)), ce⟩, by
      have ih := fun lk ce => holds_in_ev hN l n p s (h.1 s hs) ch hl hch (by omega) lk ce
      simp [st1, arg_V (sD_V s), lkO_V (sD_V s), ih]; rfl, rfl, rfl⟩)
    have hall : ∀ ce, opB ce .all [.new (ss.map fun s => .bl (hS W N n ch s))] = some (.bl (ss.all (hS W N n ch))) := fun ce => by
      have := b_all_new (ce := ce) (ss.map (hS W N n ch))
      rw [List.map_map] at this
      refine this.trans ?_
      simp [List.all_map, Function.comp_def]
    refine run_if (t := false) (st1 := st1) (by simp [st1, str_eq, hq]) (run_if (t := false) (st1 := st1) (by simp [st1, str_eq, hq2]) (run_if (t := true) (st1 := st1) (by simp [st1, str_eq]) ?_))
    refine run_ret (d := .bl (hS W N (n + 1) ch (.all ss))) (st1 := st1) ?_ (fr_V rfl ⟨rfl, by simp [st1]⟩)
    rw [ev_callB, evs_cons, c1]
    simp [hall, hS]
  | n + 1, p, .som s, h, ch, hl, hch, hb, lk, ce => by
    have hq : Str.ofString "some" ≠ Str.ofString "lot" := by decide
    have hq2 : Str.ofString "some" ≠ Str.ofString "not" := by decide
    have hq3 : Str.ofString "some" ≠ Str.ofString "all" := by decide
    show (ka ((l + n) + 1)).fn _ _ _ _ = _
    refine FRun.eq (fn_run t_holds_in rfl ?_)
    simp only [d_holds_in, c_holds_in, n_holds_in, sD]
    let st1 : S := ⟨[some (rowsD W N), some (.tup (nD ch)), some (.tup [.str "some", sD s]), none, none, none], ce⟩
    have hr : ∀ ce, opB ce .range1 [.int (N : Int)] = some (.rng 0 (N : Int)) := fun ce => b_range (by omega)
    refine run_if (t := false) (st1 := st1) (by simp [st1, str_eq, hq]) (run_if (t := false) (st1 := st1) (by simp [st1, str_eq, hq2]) (run_if (t := false) (st1 := st1) (by simp [st1, str_eq, hq3]) ?_))
    let oth := (List.range N).filter fun q => !decide (q ∈ ch)
    have c1 := comp_if (k := lev tab mach.L (l + n)) (lk := lk) (l := []) (own := [4]) (i := 4) (it := .pl (.callB .range1 (.cons (.callB .len (.cons (.var 0) .nil)) .nil))) (c := .cmp .nin (.var 4) (.var 1)) (e := .var 4) (as := List.range N) (f := iD) (g := iD) (p := fun q => !decide (q ∈ ch)) (st := st1) (st1 := st1) (by simp [st1, rowsD_len, hr, rngD_eq]) (by rw [List.length_range]; exact nat_le_line hN) (fun _ _ => rfl) (fun q hq => by simp [st1, nin_nD]) (fun q hq _ => ⟨iD q, ⟨st1.sl.set 4 (some (iD q)), st1.ce⟩, by simp [st1], rfl, rfl⟩)
    refine run_nm (d := .new (nD oth)) (x := .lst (nD oth)) (st1 := st1) c1 rfl ?_
    let st2 : S := ⟨[some (rowsD W N), some (.tup (nD ch)), some (.tup [.str "some", sD s]), some (.lst (nD oth)), none, none], ce⟩
    have hst : (⟨st1.sl.set 3 (some (.lst (nD oth))), st1.ce⟩ : S) = st2 := by simp [st1, st2]
    rw [hst]
    have hoth : oth.length ≤ 1000 := Nat.le_trans (List.length_filter_le _ _) (by simpa using hN)
    have c2 := comp_nm (k := lev tab mach.L (l + n)) (lk := lk) (l := []) (own := [4]) (i := 4) (it := .pl (.var 3)) (e := .call "holds_in" (.cons (.var 0) (.cons (.stup (.var 1) (.cons (.var 4) .nil)) (.cons (.idx (.var 2) (.int 1)) .nil)))) (as := oth) (f := iD) (g := fun q => .bl (hS W N n (ch ++ [q]) s)) (st := st2) (st1 := st2) (by simp [st2, nD]) (nat_le_line hoth) (fun _ _ => rfl) (fun q hq => ⟨_, ⟨st2.sl.set 4 (some (iD q)), ce⟩, by
      have hqN : q < N := List.mem_range.mp (List.mem_filter.mp hq).1
      have ih := fun lk ce => holds_in_ev hN l n (p + 1) s h (ch ++ [q]) (by simp [hl]) (fun x hx => by
        rcases List.mem_append.mp hx with hx | hx
        · exact hch x hx
        · rw [List.mem_singleton.mp hx]; exact hqN) (by simp; omega) lk ce
      simp [st2, nD_app, arg_V (sD_V s), lkO_V (sD_V s), ih, nat_le_line (show ch.length + 1 ≤ 1000 by omega)]; rfl, rfl, rfl⟩)
    have hany : ∀ ce, opB ce .any [.new (oth.map fun q => .bl (hS W N n (ch ++ [q]) s))] = some (.bl (oth.any fun q => hS W N n (ch ++ [q]) s)) := fun ce => by
      have := b_any_new (ce := ce) (oth.map fun q => hS W N n (ch ++ [q]) s)
      rw [List.map_map] at this
      refine this.trans ?_
      simp [List.any_map, Function.comp_def]
    refine run_ret (d := .bl (hS W N (n + 1) ch (.som s))) (st1 := st2) ?_ (fr_V rfl ⟨rfl, by simp [st2]⟩)
    rw [ev_callB, evs_cons, c2]
    simp only [Res.bind_ok, evs_nil, hany, Res.of_some]; rfl
end
end OV
/-! text W94Q -/
namespace OV
open PySem (Str PyData NestedKey)
section
variable {W : Nat → Nat → Nat} {N : Nat}
theorem law_holds_ev (hN : N ≤ 1000) (l : Nat) : ∀ (n p : Nat) (s : Say), OkS n p s → n ≤ 25 → ∀ (ch : List Nat), ch.length = p → (∀ x ∈ ch, x < N) → ch.length + n ≤ 1000 → ∀ (lk : List Nat) (ce : Ce), (ka (l + n)).fn "_law_holds" [rowsD W N, .tup (nD ch), sD s] lk ce = .ok (.bl (hS W N n ch s)) ce
  | 0, _, _, h, _, _, _, _, _, _, _ => by cases h
  | n + 1, p, .lot u v xs, h, _, ch, hl, hch, hb, lk, ce => by
    obtain ⟨h1, h2⟩ := h
    show (ka ((l + n) + 1)).fn _ _ _ _ = _
    rw [ka, lev_fn t__law_holds _ _ _ _ rfl, oF, sD]
    simp [d__law_holds, c__law_holds, n__law_holds, str_eq, -i_tup, gσ_ix (hl ▸ h1 : u < ch.length), gσ_ix (hl ▸ h2 : v < ch.length), rowsD_get (gσ_lt hch (hl ▸ h1)), row_ent (gσ_lt hch (hl ▸ h2)), in_ent, hS]
  | n + 1, p, .neg s, h, hn, ch, hl, hch, hb, lk, ce => by
    have ih := law_holds_ev hN l n p s h (by omega) ch hl hch (by omega)
    show (ka ((l + n) + 1)).fn _ _ _ _ = _
    rw [ka, lev_fn t__law_holds _ _ _ _ rfl, oF, sD]
    have hq : Str.ofString "not" ≠ Str.ofString "lot" := by decide
    simp [d__law_holds, c__law_holds, n__law_holds, str_eq, hq, arg_V (sD_V s), ih, hS]
  | n + 1, p, .all ss, h, hn, ch, hl, hch, hb, lk, ce => by
    have hq : Str.ofString "all" ≠ Str.ofString "lot" := by decide
    have hq2 : Str.ofString "all" ≠ Str.ofString "not" := by decide
    show (ka ((l + n) + 1)).fn _ _ _ _ = _
    refine FRun.eq (fn_run t__law_holds rfl ?_)
    simp only [d__law_holds, c__law_holds, n__law_holds, sD, sDs_map]
    let st1 : S := ⟨[some (rowsD W N), some (.tup (nD ch)), some (.tup [.str "all", .tup (ss.map sD)]), none, none], ce⟩
    have c1 := comp_if (k := lev tab mach.L (l + n)) (lk := lk) (l := []) (own := [4]) (i := 4) (it := .pl (.idx (.var 2) (.int 1))) (c := .not (.call "_law_holds" (.cons (.var 0) (.cons (.var 1) (.cons (.var 4) .nil))))) (e := .var 4) (as := ss) (f := sD) (g := sD) (p := fun s => !hS W N n ch s) (st := st1) (st1 := st1) (by simp [st1]) (nat_le_line (Nat.le_trans h.2 (by decide))) (fun s _ => arg_V (sD_V s)) (fun s hs => by
      have ih := fun lk ce => law_holds_ev hN l n p s (h.1 s hs) (by omega) ch hl hch (by omega) lk ce
      simp [st1, arg_V (sD_V s), lkO_V (sD_V s), ih]) (fun s hs _ => ⟨sD s, ⟨st1.sl.set 4 (some (sD s)), st1.ce⟩, by simp [st1], rfl, fz_V (sD_V s)⟩)
    refine run_if (t := false) (st1 := st1) (by simp [st1, str_eq, hq]) (run_if (t := false) (st1 := st1) (by simp [st1, str_eq, hq2]) (run_if (t := true) (st1 := st1) (by simp [st1, str_eq]) ?_))
    refine run_ret (d := .bl (hS W N (n + 1) ch (.all ss))) (st1 := st1) ?_ (fr_V rfl ⟨rfl, by simp [st1]⟩)
    have hq : ∀ ce, opCmp ce .eq (.new ((ss.filter fun s => !hS W N n ch s).map sD)) (.new []) = some (hS W N (n + 1) ch (.all ss)) := fun ce => by
      refine (isL_eq_nil (.new _) fun d hd => ?_).trans ?_
      · obtain ⟨s, hs, rfl⟩ := List.mem_map.mp hd
        exact okP_of (h.1 s (List.mem_filter.mp hs).1) (by omega)
      · simp only [hS]
        congr 1
        rw [Bool.eq_iff_iff]
        simp [List.filter_eq_nil_iff]
    rw [ev_cmp, c1]
    simp [hq]
  | n + 1, p, .som s, h, hn, ch, hl, hch, hb, lk, ce => by
    have hq : Str.ofString "some" ≠ Str.ofString "lot" := by decide
    have hq2 : Str.ofString "some" ≠ Str.ofString "not" := by decide
    have hq3 : Str.ofString "some" ≠ Str.ofString "all" := by decide
    show (ka ((l + n) + 1)).fn _ _ _ _ = _
    refine FRun.eq (fn_run t__law_holds rfl ?_)
    simp only [d__law_holds, c__law_holds, n__law_holds, sD]
    let st1 : S := ⟨[some (rowsD W N), some (.tup (nD ch)), some (.tup [.str "some", sD s]), none, none], ce⟩
    have hr : ∀ ce, opB ce .range1 [.int (N : Int)] = some (.rng 0 (N : Int)) := fun ce => b_range (by omega)
    refine run_if (t := false) (st1 := st1) (by simp [st1, str_eq, hq]) (run_if (t := false) (st1 := st1) (by simp [st1, str_eq, hq2]) (run_if (t := false) (st1 := st1) (by simp [st1, str_eq, hq3]) ?_))
    have c1 := comp_if (k := lev tab mach.L (l + n)) (lk := lk) (l := []) (own := [3]) (i := 3) (it := .pl (.callB .range1 (.cons (.callB .len (.cons (.var 0) .nil)) .nil))) (c := .and (.cons (.cmp .nin (.var 3) (.var 1)) (.cons (.call "_law_holds" (.cons (.var 0) (.cons (.bin .add (.var 1) (.tup (.cons (.var 3) .nil))) (.cons (.idx (.var 2) (.int 1)) .nil)))) .nil))) (e := .var 3) (as := List.range N) (f := iD) (g := iD) (p := fun q => !decide (q ∈ ch) && hS W N n (ch ++ [q]) s) (st := st1) (st1 := st1) (by simp [st1, rowsD_len, hr, rngD_eq]) (by rw [List.length_range]; exact nat_le_line hN) (fun _ _ => rfl) (fun q hq => by
      have hqN : q < N := List.mem_range.mp hq
      have ih := fun lk ce => law_holds_ev hN l n (p + 1) s h (by omega) (ch ++ [q]) (by simp [hl]) (fun x hx => by
        rcases List.mem_append.mp hx with hx | hx
        · exact hch x hx
        · rw [List.mem_singleton.mp hx]; exact hqN) (by simp; omega) lk ce
      have hadd : ∀ ce, opBin ce .add (.tup (nD ch)) (.tup [iD q]) = some (.tup (nD (ch ++ [q]))) := fun ce => by
        simp only [opBin, nD_length, List.length_singleton]
        rw [if_pos (nat_le_line (by omega)), nD_app]
      by_cases hqc : q ∈ ch
      · simp [st1, nin_nD, hqc]
      · cases hh : hS W N n (ch ++ [q]) s <;> simp [st1, nin_nD, hqc, hadd, arg_V (sD_V s), lkO_V (sD_V s), ih, hh, show 1 ≤ line from by decide]) (fun q hq _ => ⟨iD q, ⟨st1.sl.set 3 (some (iD q)), st1.ce⟩, by simp [st1], rfl, rfl⟩)
    refine run_ret (d := .bl (hS W N (n + 1) ch (.som s))) (st1 := st1) ?_ (fr_V rfl ⟨rfl, by simp [st1]⟩)
    have hq : ∀ ce, opCmp ce .ne (.new (((List.range N).filter fun q => !decide (q ∈ ch) && hS W N n (ch ++ [q]) s).map iD)) (.new []) = some (hS W N (n + 1) ch (.som s)) := fun ce => by
      refine (isL_ne_nil (.new _) fun d hd => ?_).trans ?_
      · obtain ⟨s, hs, rfl⟩ := List.mem_map.mp hd
        exact okV_P (by simp)
      · simp only [hS]
        refine congrArg some ?_
        rw [Bool.eq_iff_iff, List.any_eq_true]
        simp only [Bool.not_eq_true', decide_eq_false_iff_not, List.map_eq_nil_iff]
        constructor
        · intro h
          obtain ⟨q, hq⟩ := List.exists_mem_of_ne_nil _ h
          obtain ⟨h1, h2⟩ := List.mem_filter.mp hq
          rw [Bool.and_eq_true] at h2
          exact ⟨q, List.mem_filter.mpr ⟨h1, h2.1⟩, h2.2⟩
        · rintro ⟨q, hq, h3⟩ h
          obtain ⟨h1, h2⟩ := List.mem_filter.mp hq
          have : q ∈ (List.range N).filter fun q => !decide (q ∈ ch) && hS W N n (ch ++ [q]) s := List.mem_filter.mpr ⟨h1, by rw [h2, h3]; rfl⟩
          rw [h] at this
          cases this
    rw [ev_cmp, c1]
    simp [hq]
/-! ### what an automorphism leaves as it is -/
theorem hS_auto {τ : List Nat} (hs : Sg N τ) (hw : ∀ u v, u < N → v < N → ent W u v = ent W (gσ τ u) (gσ τ v)) : ∀ (n p : Nat) (s : Say), OkS n p s → ∀ (ch : List Nat), ch.length = p → (∀ x ∈ ch, x < N) → hS W N n (ch.map (gσ τ)) s = hS W N n ch s
  | 0, _, _, h, _, _, _ => by cases h
  | n + 1, p, .lot u v xs, h, ch, hl, hch => by
    obtain ⟨h1, h2⟩ := h
    have e : ∀ u, u < ch.length → gσ (ch.map (gσ τ)) u = gσ τ (gσ ch u) := fun u hu => by simp [gσ, hu]
    simp only [hS, e u (hl ▸ h1), e v (hl ▸ h2)]
    rw [← hw _ _ (gσ_lt hch (hl ▸ h1)) (gσ_lt hch (hl ▸ h2))]
  | n + 1, p, .neg s, h, ch, hl, hch => by
    simp only [hS, hS_auto hs hw n p s h ch hl hch]
  | n + 1, p, .all ss, h, ch, hl, hch => by
    simp only [hS]
    rw [Bool.eq_iff_iff, List.all_eq_true, List.all_eq_true]
    exact ⟨fun H s hm => by rw [← hS_auto hs hw n p s (h.1 s hm) ch hl hch]; exact H s hm, fun H s hm => by rw [hS_auto hs hw n p s (h.1 s hm) ch hl hch]; exact H s hm⟩
  | n + 1, p, .som s, h, ch, hl, hch => by
    have key : ∀ q, q < N → hS W N n (ch.map (gσ τ) ++ [gσ τ q]) s = hS W N n (ch ++ [q]) s := fun q hq => by
      have := hS_auto hs hw n (p + 1) s h (ch ++ [q]) (by simp [hl]) fun x hx => by
        rcases List.mem_append.mp hx with hx | hx
        · exact hch x hx
        · rw [List.mem_singleton.mp hx]; exact hq
      simpa using this
    have hmem : ∀ q, q < N → (gσ τ q ∈ ch.map (gσ τ) ↔ q ∈ ch) := fun q hq => by
      constructor
      · intro h
        obtain ⟨x, hx, e⟩ := List.mem_map.mp h
        rw [← hs.inj (hch x hx) hq e]; exact hx
      · exact fun h => List.mem_map.mpr ⟨q, h, rfl⟩
    simp only [hS]
    rw [Bool.eq_iff_iff, List.any_eq_true, List.any_eq_true]
    constructor
    · rintro ⟨q, hq, h⟩
      obtain ⟨h1, h2⟩ := List.mem_filter.mp hq
      obtain ⟨i1, i2⟩ := gσ_inv hs (List.mem_range.mp h1)
      refine ⟨inv N τ q, List.mem_filter.mpr ⟨List.mem_range.mpr i1, ?_⟩, ?_⟩
      · have := hmem _ i1
        rw [i2] at this
        simpa [this] using h2
      · rw [← key _ i1, i2]; exact h
    · rintro ⟨q, hq, h⟩
      obtain ⟨h1, h2⟩ := List.mem_filter.mp hq
      have hqN := List.mem_range.mp h1
      refine ⟨gσ τ q, List.mem_filter.mpr ⟨List.mem_range.mpr (hs.lt hqN), ?_⟩, ?_⟩
      · have h2 : q ∉ ch := by simpa using h2
        have h3 : gσ τ q ∉ ch.map (gσ τ) := fun h => h2 ((hmem q hqN).mp h)
        simp only [h3, decide_false, Bool.not_false]
      · rw [key q hqN]; exact h
end
end OV
/-! text W94R -/
namespace OV
open PySem (Str PyData NestedKey)
theorem perm_nD {m : Nat} {es : List D} (h : es.Perm (rngD m)) : ∃ ord : List Nat, ord.Perm (List.range m) ∧ es = nD ord := by
  refine ⟨es.map fun d => match d with | .int i => i.toNat | _ => 0, ?_, ?_⟩
  · have := h.map fun d => match d with | .int i => i.toNat | _ => 0
    rw [rngD_eq, List.map_map] at this
    simpa [Function.comp_def] using this
  · rw [nD, List.map_map]
    conv => lhs; rw [← List.map_id es]
    apply List.map_congr_left
    intro d hdd
    obtain ⟨x, _, rfl⟩ := List.mem_map.mp (h.subset hdd)
    simp
theorem mixed_nD {c : Nat} {ce : Ce} {lk : List Nat} {m : Nat} (hd : Dl c ce) (hlk : ∀ x ∈ lk, x < ce.length) (hkc : lk.contains c = false) (hm : m ≤ 1000) (n : Nat) :
    ∃ ord ce', ord.Perm (List.range m) ∧ Stp c ce ce' ∧ (lev tab mach.L (n + 2)).fn "_law_mixed" [.ref c, .lst (rngD m)] lk ce = .ok (.own (nD ord)) ce' := by
  obtain ⟨_, ce1, e1, es, rfl, hes, hs1⟩ := mixed_run (L := mach.L) t_any t_mixed hd hlk hkc (ds := rngD m) (by rw [rngD_length]; exact nat_le_line hm) (fun d hd => by
    obtain ⟨x, _, rfl⟩ := List.mem_map.mp hd
    simp) n
  obtain ⟨ord, h1, rfl⟩ := perm_nD hes
  exact ⟨ord, ce1, h1, hs1, e1⟩
theorem any_nat {c : Nat} {ce : Ce} {lk : List Nat} {m : Nat} (hd : Dl c ce) (hkc : lk.contains c = false) (h0 : 0 < m) (hm : m ≤ 100000) (n : Nat) :
    ∃ v ce', v < m ∧ Stp c ce ce' ∧ (lev tab mach.L (n + 1)).fn "_law_any" [.ref c, .int (m : Int)] lk ce = .ok (iD v) ce' := by
  obtain ⟨_, ce2, e2, w, rfl, w0, w1, hs2⟩ := any_run (lk := lk) (L := mach.L) t_any hd hkc (m := (m : Int)) (by omega) (by omega) n
  obtain ⟨v, rfl⟩ := Int.eq_ofNat_of_zero_le w0
  exact ⟨v, ce2, by omega, hs2, e2⟩
theorem sl_own {ce : Ce} {xs : List Nat} {n : Nat} : opSl ce (.own (nD xs)) none (some (n : Int)) = some (.new (nD (xs.take n))) := by
  simp only [opSl, seqL, all_V (nD_V xs), if_true, cut_to, nD_take]
theorem line2 : 2 ≤ line := by decide
theorem line4 : 4 ≤ line := by decide
theorem bl_and {k : K} {lk : List Nat} {st : S} {a b : C} {p q : Bool} (ha : oE k lk a st = .ok (.bl p) st) (hb : oE k lk b st = .ok (.bl q) st) : oE k lk (.and (.cons a (.cons b .nil))) st = .ok (.bl (p && q)) st := by
  rw [ev_and, eva_cons, ha, boolR_ok1, Res.bind_ok]
  cases p
  · rfl
  · simp only
    rw [eva_cons, hb, boolR_ok1, Res.bind_ok]
    cases q <;> simp
theorem bl_or {k : K} {lk : List Nat} {st : S} {a b : C} {p q : Bool} (ha : oE k lk a st = .ok (.bl p) st) (hb : oE k lk b st = .ok (.bl q) st) : oE k lk (.or (.cons a (.cons b .nil))) st = .ok (.bl (p || q)) st := by
  rw [ev_or, evo_cons, ha, boolR_ok1, Res.bind_ok]
  cases p
  · simp only
    rw [evo_cons, hb, boolR_ok1, Res.bind_ok]
    cases q <;> simp
  · rfl
theorem sD_list {Q : Say → Prop} : ∀ {ys : List D}, (∀ y ∈ ys, ∃ s, Q s ∧ y = sD s) → ∃ ss : List Say, (∀ s ∈ ss, Q s) ∧ ys = ss.map sD
  | [], _ => ⟨[], by simp, rfl⟩
  | y :: ys, h => by
    obtain ⟨s, h1, rfl⟩ := h y List.mem_cons_self
    obtain ⟨ss, h2, rfl⟩ := sD_list (ys := ys) fun z hz => h z (List.mem_cons_of_mem _ hz)
    exact ⟨s :: ss, fun t ht => by
      rcases List.mem_cons.mp ht with rfl | ht
      · exact h1
      · exact h2 t ht, rfl⟩
theorem nD_list : ∀ {ys : List D}, (∀ y ∈ ys, ∃ x : Nat, y = iD x) → ∃ xs : List Nat, ys = nD xs
  | [], _ => ⟨[], rfl⟩
  | y :: ys, h => by
    obtain ⟨x, rfl⟩ := h y List.mem_cons_self
    obtain ⟨xs, rfl⟩ := nD_list (ys := ys) fun z hz => h z (List.mem_cons_of_mem _ hz)
    exact ⟨x :: xs, rfl⟩
theorem saying_step {k : Nat} (hk : k ≤ 100) {t : D} (hT : isV t = true) {c : Nat} {lk : List Nat} (hkc : lk.contains c = false) (l dp p left : Nat) {ce : Ce} (hd : Dl c ce) (hlk : ∀ x ∈ lk, x < ce.length) (hpd : p + dp ≤ 100)
    (H : ∀ dp', dp = dp' + 1 → ∀ (p left : Nat) (ce : Ce), p + dp' ≤ 100 → Dl c ce → (∀ x ∈ lk, x < ce.length) → FRun ((ka (l + dp + 2)).fn "_law_saying" [.ref c, .tup [.lst (rngD k), t], iD p, iD left, iD dp'] lk ce) fun d ce' => ∃ s, OkS (dp' + 1) p s ∧ d = sD s ∧ Stp c ce ce') :
    FRun ((ka (l + dp + 3)).fn "_law_saying" [.ref c, .tup [.lst (rngD k), t], iD p, iD left, iD dp] lk ce) fun d ce' => ∃ s, OkS (dp + 1) p s ∧ d = sD s ∧ Stp c ce ce' := by
  refine fn_run t__law_saying rfl ?_
  simp only [d__law_saying, c__law_saying, n__law_saying]
  let kd : D := .tup [.lst (rngD k), t]
  let st0 : S := ⟨[some (.ref c), some kd, some (iD p), some (iD left), some (iD dp), none, none, none, none, none], ce⟩
  obtain ⟨f, ce1, hs1, e1⟩ : ∃ f ce1, Stp c ce ce1 ∧ oE (lev tab mach.L (l + dp + 2)) lk (.ite (.cmp .gt (.var 4) (.int 0)) (.call "_law_any" (.cons (.var 0) (.cons (.int 6) .nil))) (.call "_law_any" (.cons (.var 0) (.cons (.int 2) .nil)))) st0 = .ok (iD f) ⟨st0.sl, ce1⟩ := by
    by_cases h : dp = 0
    · obtain ⟨v, ce1, _, hs, e⟩ := any_nat (m := 2) hd hkc (by decide) (by decide) (l + dp + 1)
      refine ⟨v, ce1, hs, ?_⟩
      subst h
      simp at e
      simp [st0, e]
    · obtain ⟨v, ce1, _, hs, e⟩ := any_nat (m := 6) hd hkc (by decide) (by decide) (l + dp + 1)
      refine ⟨v, ce1, hs, ?_⟩
      have h' : (0 : Int) < dp := by omega
      simp at e
      simp [st0, h', e, show 0 < dp from by omega]
  refine run_nm e1 (x := iD f) rfl ?_
  have hd1 := Stp.dl hd hs1
  have l1 := hs1.len
  have hlk1 : ∀ x ∈ lk, x < ce1.length := by rw [l1]; exact hlk
  let st1 : S := ⟨[some (.ref c), some kd, some (iD p), some (iD left), some (iD dp), some (iD f), none, none, none, none], ce1⟩
  show Run _ _ _ st1 _
  have b1 : oE (lev tab mach.L (l + dp + 2)) lk (.cmp .gt (.var 2) (.int 1)) st1 = .ok (.bl (decide (1 < p))) st1 := by
    have i1 : ((1 : Int) < (p : Int)) = (1 < p) := propext (by omega)
    simp [st1, i1]
  have b2 : oE (lev tab mach.L (l + dp + 2)) lk (.cmp .lt (.var 5) (.int 2)) st1 = .ok (.bl (decide (f < 2))) st1 := by
    have i1 : ((f : Int) < 2) = (f < 2) := propext (by omega)
    simp [st1, i1]
  have b3 : oE (lev tab mach.L (l + dp + 2)) lk (.cmp .eq (.var 4) (.int 0)) st1 = .ok (.bl (decide (dp = 0))) st1 := by
    have i1 : ((dp : Int) = 0) = (dp = 0) := propext (by omega)
    simp [st1, i1]
  have b4 : oE (lev tab mach.L (l + dp + 2)) lk (.cmp .eq (.var 3) (.int 0)) st1 = .ok (.bl (decide (left = 0))) st1 := by
    have i1 : ((left : Int) = 0) = (left = 0) := propext (by omega)
    simp [st1, i1]
  have b5 : oE (lev tab mach.L (l + dp + 2)) lk (.cmp .eq (.var 5) (.int 3)) st1 = .ok (.bl (decide (f = 3))) st1 := by
    have i1 : ((f : Int) = 3) = (f = 3) := propext (by omega)
    simp [st1, i1]
  have b6 : oE (lev tab mach.L (l + dp + 2)) lk (.cmp .gt (.var 5) (.int 3)) st1 = .ok (.bl (decide (3 < f))) st1 := by
    have i1 : ((3 : Int) < (f : Int)) = (3 < f) := propext (by omega)
    simp [st1, i1]
  have htk : ∀ (s1 : Ce), Stp c ce s1 → s1.take ce.length = s1 := fun s1 h => h.take
  refine run_if (bl_and b1 (bl_or b2 b3)) ?_
  by_cases hc1 : 1 < p ∧ (f < 2 ∨ dp = 0)
  · have hb : (decide (1 < p) && (decide (f < 2) || decide (dp = 0))) = true := by simp [hc1]
    rw [hb]
    obtain ⟨ord, ce2, ho, hs2, e2⟩ := mixed_nD hd1 hlk1 hkc (show p ≤ 1000 by omega) (l + dp)
    have hs12 := hs1.trans hs2
    have hd2 := Stp.dl hd hs12
    obtain ⟨u, v, r, rfl⟩ : ∃ u v r, ord = u :: v :: r := by
      have hl := ho.length_eq
      rw [List.length_range] at hl
      match ord, hl with
      | [], hl => simp at hl; omega
      | [_], hl => simp at hl; omega
      | u :: v :: r, _ => exact ⟨u, v, r, rfl⟩
    have hu : u < p := by simpa using ho.subset (show u ∈ u :: v :: r by simp)
    have hv : v < p := by simpa using ho.subset (show v ∈ u :: v :: r by simp)
    have hrp : ∀ ce, opB ce .range1 [.int (p : Int)] = some (.rng 0 (p : Int)) := fun ce => b_range (by omega)
    have hrk : ∀ ce, opB ce .range1 [.int (k : Int)] = some (.rng 0 (k : Int)) := fun ce => b_range (by omega)
    have hli : ∀ ce, opB ce .list [.rng 0 (p : Int)] = some (.new (rngD p)) := fun ce => b_list sv_range (by rw [rngD_length]; exact nat_le_line (by omega))
    have hsl : ∀ ce, opSl ce (.own (nD (u :: v :: r))) none (some 2) = some (.new [iD u, iD v]) := fun ce => sl_own (n := 2)
    let st2 : S := ⟨[some (.ref c), some kd, some (iD p), some (iD left), some (iD dp), some (iD f), some (iD u), some (iD v), none, none], ce2⟩
    refine run_asg (d := .new [iD u, iD v]) (st1 := ⟨st1.sl, ce2⟩) (st2 := st2) ?_ ?_ ?_
    · simp [st1, hrp, hli, e2, hsl]
    · simp [st1, st2, Ts.len]
    obtain ⟨ys, ce3, e3, hI, hyl, hys⟩ := comp_eff (k := lev tab mach.L (l + dp + 2)) (lk := lk) (l := []) (st := st2) (st1 := st2) (own := [8]) (t := .nm false 8) (it := .pl (.callB .range1 (.cons (.callB .len (.cons (.idx (.var 1) (.int 0)) .nil)) .nil))) (ifs := .cons (.cmp .eq (.call "_law_any" (.cons (.var 0) (.cons (.int 2) .nil))) (.int 0)) .nil) (e := .var 8) (as := rngD k) (Inv := fun ce' => Stp c ce ce') (P := fun y => ∃ x : Nat, y = iD x) (by
        simp [st2, kd, hrk]) hs12 (by rw [rngD_length]; exact nat_le_line (by omega)) (fun a ha ce3 hs3 => by
        obtain ⟨j, hj, rfl⟩ := of_nD (xs := List.range k) ha
        obtain ⟨w, ce4, hw, hs4, e4⟩ := any_nat (m := 2) (lk := lk) (Stp.dl hd hs3) hkc (by decide) (by decide) (l + dp + 1)
        have i1 : ((w : Int) = 0) = (w = 0) := propext (by omega)
        simp at e4
        refine ⟨⟨st2.sl.set 8 (some (iD j)), ce3⟩, decide (w = 0), ⟨st2.sl.set 8 (some (iD j)), ce4⟩, by simp [st2], ?_, fun _ => hs3.trans hs4, fun _ => ⟨iD j, ⟨st2.sl.set 8 (some (iD j)), ce4⟩, iD j, by simp [st2], rfl, ⟨j, rfl⟩, hs3.trans hs4⟩⟩
        by_cases hw0 : w = 0 <;> simp [st2, e4, i1, hw0])
    obtain ⟨xs, rfl⟩ := nD_list hys
    have ht := fun ce => b_tuple (ce := ce) (sv_new (nD xs)) (by rw [rngD_length] at hyl; exact nat_le_line (by omega))
    refine run_ret (d := sD (.lot u v xs)) (st1 := ⟨st2.sl, ce3⟩) ?_ (fr_V (sD_V _) ⟨.lot u v xs, ⟨hu, hv⟩, rfl, ?_⟩)
    · have a1 : oE (lev tab mach.L (l + dp + 2)) lk (.var 6) st2 = .ok (iD u) st2 := by simp [st2]
      have a2 : oE (lev tab mach.L (l + dp + 2)) lk (.var 7) st2 = .ok (iD v) st2 := by simp [st2]
      rw [ev_tup, evs_cons, ev_str, Res.bind_ok, evs_cons]
      simp only [lkO_str, List.nil_append]
      rw [a1, Res.bind_ok, evs_cons]
      simp only [lkO_int, List.nil_append]
      rw [a2, Res.bind_ok, evs_cons, ev_callB, evs_cons]
      simp only [lkO_int, List.nil_append]
      rw [e3]
      simp [ht, line4, sD]
    · show Stp c ce (ce3.take ce.length)
      rw [htk _ hI]; exact hI
  have hb : (decide (1 < p) && (decide (f < 2) || decide (dp = 0))) = false := by
    cases h : (decide (1 < p) && (decide (f < 2) || decide (dp = 0))) with
    | false => rfl
    | true => simp at h; exact absurd h hc1
  rw [hb]
  refine run_if (bl_or b3 (bl_and b2 b4)) ?_
  by_cases hc2 : dp = 0 ∨ (f < 2 ∧ left = 0)
  · have hb : (decide (dp = 0) || (decide (f < 2) && decide (left = 0))) = true := by simp [hc2]
    rw [hb]
    refine run_ret (d := sD (.all [])) (st1 := st1) ?_ (fr_V (sD_V _) ⟨.all [], ⟨by simp, by decide⟩, rfl, ?_⟩)
    · simp [st1, sD, sDs, line2]
    · rw [htk _ hs1]; exact hs1
  have hb : (decide (dp = 0) || (decide (f < 2) && decide (left = 0))) = false := by
    cases h : (decide (dp = 0) || (decide (f < 2) && decide (left = 0))) with
    | false => rfl
    | true => simp at h; exact absurd h hc2
  rw [hb]
  obtain ⟨dp', rfl⟩ : ∃ dp', dp = dp' + 1 := ⟨dp - 1, by omega⟩
  have hsub : ((dp' + 1 : Nat) : Int) - 1 = (dp' : Int) := by omega
  have H := H dp' rfl
  refine run_if b5 ?_
  by_cases hc3 : f = 3
  · simp only [hc3, decide_true, if_true]
    obtain ⟨_, ce2, e2, s, hs, rfl, hs2⟩ := H p left ce1 (by omega) hd1 hlk1
    refine run_ret (d := sD (.neg s)) (st1 := ⟨st1.sl, ce2⟩) ?_ (fr_V (sD_V _) ⟨.neg s, hs, rfl, ?_⟩)
    · have e2' : (lev tab mach.L (l + (dp' + 1) + 2)).fn "_law_saying" [.ref c, kd, iD p, iD left, iD dp'] lk ce1 = .ok (sD s) ce2 := e2
      have hkd : arg kd = some kd := rfl
      have hkl : lkO kd = [] := rfl
      simp [st1, -Int.natCast_add, hsub, hkd, hkl, e2', fz_V (sD_V s), lkO_V (sD_V s), line2, sD]
    · show Stp c ce (ce2.take ce.length)
      rw [htk _ (hs1.trans hs2)]; exact hs1.trans hs2
  simp only [hc3, decide_false, Bool.false_eq_true, if_false]
  refine run_if (bl_or b6 b4) ?_
  by_cases hc4 : 3 < f ∨ left = 0
  · have hb : (decide (3 < f) || decide (left = 0)) = true := by simp [hc4]
    rw [hb]
    obtain ⟨v, ce2, hv, hs2, e2⟩ := any_nat (m := 2) (lk := lk) hd1 hkc (by decide) (by decide) (l + (dp' + 1) + 1)
    have hs12 := hs1.trans hs2
    have h1v : (1 : Int) + (v : Int) = ((1 + v : Nat) : Int) := by omega
    have hr : ∀ ce, opB ce .range1 [.int ((1 + v : Nat) : Int)] = some (.rng 0 ((1 + v : Nat) : Int)) := fun ce => b_range (by omega)
    have hkd : arg kd = some kd := rfl
    have hkl : lkO kd = [] := rfl
    obtain ⟨ys, ce3, e3, hI, hyl, hys⟩ := comp_eff (k := lev tab mach.L (l + (dp' + 1) + 2)) (lk := lk) (l := []) (st := st1) (st1 := ⟨st1.sl, ce2⟩) (own := [9]) (t := .nm false 9) (it := .pl (.callB .range1 (.cons (.bin .add (.int 1) (.call "_law_any" (.cons (.var 0) (.cons (.int 2) .nil)))) .nil))) (ifs := .nil) (e := .call "_law_saying" (.cons (.var 0) (.cons (.var 1) (.cons (.var 2) (.cons (.var 3) (.cons (.bin .sub (.var 4) (.int 1)) .nil)))))) (as := rngD (1 + v)) (Inv := fun ce' => Stp c ce ce') (P := fun y => ∃ s, OkS (dp' + 1) p s ∧ y = sD s) (by
        simp at e2
        simp [st1, e2, -Int.natCast_add, h1v, hr]) hs12 (by rw [rngD_length]; exact nat_le_line (by omega)) (fun a ha ce3 hs3 => by
        obtain ⟨j, hj, rfl⟩ := of_nD (xs := List.range (1 + v)) ha
        obtain ⟨_, ce4, e4, s, hs, rfl, hs4⟩ := H p left ce3 (by omega) (Stp.dl hd hs3) (by rw [hs3.len]; exact hlk)
        have e4' : (lev tab mach.L (l + (dp' + 1) + 2)).fn "_law_saying" [.ref c, kd, iD p, iD left, iD dp'] lk ce3 = .ok (sD s) ce4 := e4
        refine ⟨⟨st1.sl.set 9 (some (iD j)), ce3⟩, true, ⟨st1.sl.set 9 (some (iD j)), ce3⟩, by simp [st1], by simp, (fun h => by cases h), fun _ => ⟨sD s, ⟨st1.sl.set 9 (some (iD j)), ce4⟩, sD s, ?_, fz_V (sD_V s), ⟨s, hs, rfl⟩, hs3.trans hs4⟩⟩
        simp [st1, -Int.natCast_add, hsub, hkd, hkl, e4'])
    obtain ⟨ss, hss, rfl⟩ := sD_list hys
    have ht := fun ce => b_tuple (ce := ce) (sv_new (ss.map sD)) (by rw [rngD_length] at hyl; exact nat_le_line (by omega))
    refine run_ret (d := sD (.all ss)) (st1 := ⟨st1.sl, ce3⟩) ?_ (fr_V (sD_V _) ⟨.all ss, ⟨hss, by rw [rngD_length, List.length_map] at hyl; omega⟩, rfl, ?_⟩)
    · rw [ev_tup, evs_cons, ev_str, Res.bind_ok, evs_cons, ev_callB, evs_cons]
      simp only [lkO_str, List.nil_append]
      rw [e3]
      simp [ht, line2, sD, sDs_map]
    · show Stp c ce (ce3.take ce.length)
      rw [htk _ hI]; exact hI
  have hb : (decide (3 < f) || decide (left = 0)) = false := by
    cases h : (decide (3 < f) || decide (left = 0)) with
    | false => rfl
    | true => simp at h; exact absurd h hc4
  rw [hb]
  obtain ⟨left', rfl⟩ : ∃ left', left = left' + 1 := ⟨left - 1, by omega⟩
  have hsub2 : ((left' + 1 : Nat) : Int) - 1 = (left' : Int) := by omega
  have hadd : (p : Int) + 1 = ((p + 1 : Nat) : Int) := by omega
  obtain ⟨_, ce2, e2, s, hs, rfl, hs2⟩ := H (p + 1) left' ce1 (by omega) hd1 hlk1
  refine run_ret (d := sD (.som s)) (st1 := ⟨st1.sl, ce2⟩) ?_ (fr_V (sD_V _) ⟨.som s, hs, rfl, ?_⟩)
  · have e2' : (lev tab mach.L (l + (dp' + 1) + 2)).fn "_law_saying" [.ref c, kd, iD (p + 1), iD left', iD dp'] lk ce1 = .ok (sD s) ce2 := e2
    have hkd : arg kd = some kd := rfl
    have hkl : lkO kd = [] := rfl
    simp [st1, -Int.natCast_add, hsub, hsub2, hadd, hkd, hkl, e2', fz_V (sD_V s), lkO_V (sD_V s), line2, sD]
  · show Stp c ce (ce2.take ce.length)
    rw [htk _ (hs1.trans hs2)]; exact hs1.trans hs2
theorem saying_run {k : Nat} (hk : k ≤ 100) {t : D} (hT : isV t = true) {c : Nat} {lk : List Nat} (hkc : lk.contains c = false) : ∀ (dp l p left : Nat) (ce : Ce), p + dp ≤ 100 → Dl c ce → (∀ x ∈ lk, x < ce.length) →
    FRun ((ka (l + dp + 3)).fn "_law_saying" [.ref c, .tup [.lst (rngD k), t], iD p, iD left, iD dp] lk ce) fun d ce' => ∃ s, OkS (dp + 1) p s ∧ d = sD s ∧ Stp c ce ce'
  | 0, l, p, left, ce, hpd, hd, hlk => saying_step hk hT hkc l 0 p left hd hlk hpd fun _ h => by cases h
  | dp + 1, l, p, left, ce, hpd, hd, hlk => saying_step hk hT hkc l (dp + 1) p left hd hlk hpd fun dp' h p left ce hpd hd hlk => by
    cases h
    exact saying_run hk hT hkc dp l p left ce hpd hd hlk
end OV
/-! text W94S -/
namespace OV
open PySem (Str PyData NestedKey)
theorem perm_of_nodup {m : Nat} {xs : List Nat} (hx : ∀ x ∈ xs, x < m) (hn : xs.Nodup) (hl : xs.length = m) : xs.Perm (List.range m) := by
  have h := perm_split hx hn
  have h2 := h.length_eq
  rw [List.length_append, List.length_range] at h2
  have h3 : ((List.range m).filter fun x => !decide (x ∈ xs)) = [] := List.eq_nil_of_length_eq_zero (by omega)
  rwa [h3, List.append_nil] at h
section
variable {R : Nat → Nat → Nat} {k m : Nat} {here there σ : List Nat}
theorem FN_sum (hR : Rw R k m) {u v : Nat} (hu : u < m) (hv : v < m) (h : u ≠ v) : FN R u v + FN R v u = R u v := by
  unfold FN
  rcases Nat.lt_or_gt_of_ne h with hl | hl
  · rw [if_pos hl, if_neg (by omega)]; omega
  · rw [if_neg (by omega), if_pos hl, hR.sym u v hu hv h]; omega
theorem emod_sum0 (x k : Int) : (x % k + -(x % k) % k) % k = 0 := by
  generalize x % k = y
  rw [Int.add_emod, Int.emod_emod_of_dvd (-y) (Int.dvd_refl k), ← Int.add_emod, Int.add_right_neg]
  exact Int.zero_emod k
theorem shI_sum (hR : Rw R k m) (hL : Lk R m here there) (hs : Sg m σ) (hσ : ∀ j (hj : j < here.length), gσ σ here[j] = there[j]'(hL.l ▸ hj)) {p q : Nat} (hp : p < m) (hq : q < m) (h : p ≠ q) : (shI R k here σ p q + shI R k here σ q p) % k = 0 := by
  by_cases h1 : p ∈ here
  · by_cases h2 : q ∈ here
    · have e : R p q = R (gσ σ p) (gσ σ q) := by
        obtain ⟨i, hi, rfl⟩ := List.getElem_of_mem h1
        obtain ⟨j, hj, rfl⟩ := List.getElem_of_mem h2
        have := hL.e i j hi hj
        rw [hσ i hi, hσ j hj]
        have hne : there[i]'(hL.l ▸ hi) ≠ there[j]'(hL.l ▸ hj) := fun e => by
          have := nodup_get hL.tn _ _ e
          subst this
          exact h rfl
        unfold ent at this
        rw [if_neg h, if_neg hne] at this
        exact Option.some.inj this
      have a1 := FN_sum hR hp hq h
      have a2 := FN_sum hR (hs.lt hp) (hs.lt hq) (fun e => h (hs.inj hp hq e))
      have : ((FN R (gσ σ p) (gσ σ q) : Int) - FN R p q) + ((FN R (gσ σ q) (gσ σ p) : Int) - FN R q p) = 0 := by omega
      simp only [shI, h1, h2, if_true]
      rw [← Int.add_emod, this]; exact Int.zero_emod _
    · simp only [shI, h1, h2, if_true, if_false]
      exact emod_sum0 _ _
  · by_cases h2 : q ∈ here
    · simp only [shI, h1, h2, if_true, if_false]
      rw [Int.add_comm]
      exact emod_sum0 _ _
    · simp only [shI, h1, h2, if_false]; simp
theorem note_mv (hs : Sg m σ) {b : Br} (hb : Bw k m b) {q : Nat} (hq : q < m) (h : b.1 ≠ q) : noteN (mvB R k m here σ b) (gσ σ q) = nw R k here σ b q := by
  unfold mvB
  rw [note_map (hs.lt hb.p) (hs.lt hq) (fun e => h (hs.inj hb.p hq e)), inv_gσ hs hq]
theorem betw_mv (hk : 0 < k) (hR : Rw R k m) (hL : Lk R m here there) (hs : Sg m σ) (hσ : ∀ j (hj : j < here.length), gσ σ here[j] = there[j]'(hL.l ▸ hj)) {a b : Br} (ha : Bw k m a) (hb : Bw k m b) : betw k (mvB R k m here σ a) (mvB R k m here σ b) = betw k a b := by
  unfold betw
  have e1 : (mvB R k m here σ a).1 = gσ σ a.1 := rfl
  have e2 : (mvB R k m here σ b).1 = gσ σ b.1 := rfl
  by_cases h : a.1 = b.1
  · rw [if_pos h, if_pos (by rw [e1, e2, h])]
  · rw [if_neg h, if_neg (fun e => h (hs.inj ha.p hb.p (by rw [e1, e2] at e; exact e))), e1, e2, note_mv hs ha hb.p h, note_mv hs hb ha.p (Ne.symm h)]
    have n1 := nw_int (R := R) (here := here) (σ := σ) (b := a) (v := b.1) hk
    have n2 := nw_int (R := R) (here := here) (σ := σ) (b := b) (v := a.1) hk
    have s0 := shI_sum hR hL hs hσ ha.p hb.p h
    have key : ((nw R k here σ a b.1 : Int) + nw R k here σ b a.1) % k = ((noteN a b.1 : Int) + noteN b a.1) % k := by
      rw [← n1, ← n2, ← Int.add_emod]
      have : (noteN a b.1 : Int) + shI R k here σ a.1 b.1 + ((noteN b a.1 : Int) + shI R k here σ b.1 a.1) = ((noteN a b.1 : Int) + noteN b a.1) + (shI R k here σ a.1 b.1 + shI R k here σ b.1 a.1) := by omega
      rw [this, Int.add_emod, s0, Int.add_zero, Int.emod_emod_of_dvd _ (Int.dvd_refl _)]
    have c1 : (((nw R k here σ a b.1 + nw R k here σ b a.1) % k : Nat) : Int) = ((nw R k here σ a b.1 : Int) + nw R k here σ b a.1) % k := by simp
    have c2 : (((noteN a b.1 + noteN b a.1) % k : Nat) : Int) = ((noteN a b.1 : Int) + noteN b a.1) % k := by simp
    rw [← c1, ← c2] at key
    exact Int.ofNat_inj.mp key
theorem noteN_lt {b : Br} (hb : Bw k m b) {v : Nat} (hv : v < m) (h : b.1 ≠ v) : noteN b v < k := by
  have hx := note_ix hb.p hv h
  rw [← hb.l] at hx
  unfold noteN
  rw [List.getElem?_eq_getElem hx]
  exact hb.x _ (List.getElem_mem hx)
theorem emod_cancel {k : Int} {a b s : Int} (h : (a + s) % k = (b + s) % k) : a % k = b % k := by
  have h1 := Int.emod_emod_of_dvd (a + s) (Int.dvd_refl k)
  have : (a + s - s) % k = (b + s - s) % k := by rw [Int.sub_emod, h, ← Int.sub_emod]
  rwa [Int.add_sub_cancel, Int.add_sub_cancel] at this
theorem mvB_inj (hk : 0 < k) (hs : Sg m σ) {a b : Br} (ha : Bw k m a) (hb : Bw k m b) (h : mvB R k m here σ a = mvB R k m here σ b) : a = b := by
  have h1 : gσ σ a.1 = gσ σ b.1 := congrArg Prod.fst h
  have h1 : a.1 = b.1 := hs.inj ha.p hb.p h1
  have h2 : ∀ v, v < m → a.1 ≠ v → noteN a v = noteN b v := fun v hv hne => by
    have e1 := note_mv (R := R) (here := here) hs ha hv hne
    have e2 := note_mv (R := R) (here := here) hs hb hv (h1 ▸ hne)
    rw [h, e2] at e1
    have n1 := nw_int (R := R) (here := here) (σ := σ) (b := a) (v := v) hk
    have n2 := nw_int (R := R) (here := here) (σ := σ) (b := b) (v := v) hk
    rw [← e1, ← n2, ← h1] at n1
    have := emod_cancel n1
    have l1 := noteN_lt ha hv hne
    have l2 := noteN_lt hb hv (h1 ▸ hne)
    rw [Int.emod_eq_of_lt (by omega) (by omega), Int.emod_eq_of_lt (by omega) (by omega)] at this
    omega
  obtain ⟨a1, a2⟩ := a
  obtain ⟨b1, b2⟩ := b
  simp only at h1
  subst h1
  have e1 := note_others ha.p ha.l
  have e2 := note_others hb.p hb.l
  have : (others m a1).map (fun v => noteN (a1, a2) v) = (others m a1).map (fun v => noteN (a1, b2) v) := List.map_congr_left fun v hv => by
    obtain ⟨h3, h4⟩ := mem_others.mp hv
    exact h2 v h3 (Ne.symm h4)
  rw [e1, e2] at this
  exact Prod.ext rfl this
theorem mvB_first (hk : 0 < k) (hR : Rw R k m) (hs : Sg m σ) {u : Nat} (hu : u < m) (hh : u ∈ here) : mvB R k m here σ (u, firstN R m u) = (gσ σ u, firstN R m (gσ σ u)) := by
  unfold mvB
  refine Prod.ext rfl ?_
  simp only
  rw [firstN_eq R m (gσ σ u)]
  refine List.map_congr_left fun w hw => ?_
  obtain ⟨h1, h2⟩ := mem_others.mp hw
  obtain ⟨i1, i2⟩ := gσ_inv hs h1
  have hne : u ≠ inv m σ w := fun e => h2 (by rw [← i2, ← e])
  have n1 := nw_int (R := R) (here := here) (σ := σ) (b := (u, firstN R m u)) (v := inv m σ w) hk
  rw [note_first hu i1 hne] at n1
  simp only [shI, hh, if_true, i2] at n1
  rw [Int.add_emod, Int.emod_emod_of_dvd _ (Int.dvd_refl _), ← Int.add_emod] at n1
  have : (FN R u (inv m σ w) : Int) + ((FN R (gσ σ u) w : Int) - FN R u (inv m σ w)) = FN R (gσ σ u) w := by omega
  rw [this] at n1
  have l1 := FN_lt hk hR (hs.lt hu) h1
  rw [Int.emod_eq_of_lt (by omega) (by omega)] at n1
  omega
end
/-! ### the grown symmetry -/
section
variable {R : Nat → Nat → Nat} {k m : Nat} {here there σ : List Nat}
theorem val_get {u : Nat} (hu : u < (bear R k m).length) : gσ (valN R k m here σ) u = idx (bear R k m) (mvB R k m here σ (gB (bear R k m) u)) := by
  unfold valN gσ
  rw [List.getElem?_map, List.getElem?_range hu]; rfl
theorem val_len : (valN R k m here σ).length = (bear R k m).length := by simp [valN]
theorem val_spec (hk : 0 < k) (hR : Rw R k m) (hs : Sg m σ) {u : Nat} (hu : u < (bear R k m).length) : gσ (valN R k m here σ) u < (bear R k m).length ∧ gB (bear R k m) (gσ (valN R k m here σ) u) = mvB R k m here σ (gB (bear R k m) u) := by
  rw [val_get hu]
  exact idx_spec ((mem_bear hk hR).mpr (mvB_Bw hk hs ((mem_bear hk hR).mp (gB_mem hu))))
theorem val_sg (hk : 0 < k) (hR : Rw R k m) (hs : Sg m σ) : Sg (bear R k m).length (valN R k m here σ) := by
  refine ⟨perm_of_nodup (fun x hx => ?_) ?_ val_len⟩
  · obtain ⟨u, hu, rfl⟩ := List.getElem_of_mem hx
    have := (val_spec (here := here) hk hR hs (u := u) (by rw [← val_len (here := here) (σ := σ)]; exact hu)).1
    rwa [gσ_get hu] at this
  · refine List.pairwise_map.mpr (List.Pairwise.imp_of_mem (fun {u v} hu hv huv e => huv ?_) List.nodup_range)
    have hu := List.mem_range.mp hu
    have hv := List.mem_range.mp hv
    have a := (val_spec (here := here) hk hR hs hu).2
    have b := (val_spec (here := here) hk hR hs hv).2
    rw [val_get hu] at a
    rw [val_get hv, ← e, a] at b
    exact gB_inj bear_nodup hu hv (mvB_inj hk hs ((mem_bear hk hR).mp (gB_mem hu)) ((mem_bear hk hR).mp (gB_mem hv)) b)
theorem val_ent (hk : 0 < k) (hR : Rw R k m) (hL : Lk R m here there) (hs : Sg m σ) (hσ : ∀ j (hj : j < here.length), gσ σ here[j] = there[j]'(hL.l ▸ hj)) : ∀ u v, u < (bear R k m).length → v < (bear R k m).length → ent (wideW k (bear R k m)) u v = ent (wideW k (bear R k m)) (gσ (valN R k m here σ) u) (gσ (valN R k m here σ) v) := by
  intro u v hu hv
  have hv' := val_sg (here := here) hk hR hs
  unfold ent
  by_cases h : u = v
  · rw [if_pos h, if_pos (by rw [h])]
  · rw [if_neg h, if_neg (fun e => h (hv'.inj hu hv e))]
    unfold wideW
    rw [(val_spec (here := here) hk hR hs hu).2, (val_spec (here := here) hk hR hs hv).2, betw_mv hk hR hL hs hσ ((mem_bear hk hR).mp (gB_mem hu)) ((mem_bear hk hR).mp (gB_mem hv))]
theorem bear_ge : m ≤ (bear R k m).length := by
  unfold bear firstB
  rw [List.length_append, List.length_map, List.length_range]; omega
theorem val_here (hk : 0 < k) (hR : Rw R k m) (hL : Lk R m here there) (hs : Sg m σ) (hσ : ∀ j (hj : j < here.length), gσ σ here[j] = there[j]'(hL.l ▸ hj)) : ∀ j (hj : j < here.length), gσ (valN R k m here σ) here[j] = there[j]'(hL.l ▸ hj) := by
  intro j hj
  have hu := hL.h _ (List.getElem_mem hj)
  have hul : here[j] < (bear R k m).length := Nat.lt_of_lt_of_le hu bear_ge
  obtain ⟨h1, h2⟩ := val_spec (here := here) hk hR hs hul
  rw [gB_first hu, mvB_first hk hR hs hu (List.getElem_mem hj), ← gB_first (k := k) (hs.lt hu)] at h2
  rw [gB_inj bear_nodup h1 (Nat.lt_of_lt_of_le (hs.lt hu) bear_ge) h2, hσ j hj]
end
end OV
/-! text W94T -/
namespace OV
open PySem (Str PyData NestedKey)
/-! ### what repr tells -/
theorem weight_le {n w : Nat} : ∀ {ds : List D}, (∀ d ∈ ds, ∃ p, pd d = some p ∧ leafOk p = true ∧ p.depth ≤ n ∧ p.weight ≤ w) → ∃ ps, pds ds = some ps ∧ leafOks ps = true ∧ PyData.depthAll ps ≤ n ∧ PyData.weightAll ps ≤ ds.length * (w + 1)
  | [], _ => ⟨[], rfl, rfl, Nat.zero_le _, Nat.zero_le _⟩
  | d :: ds, h => by
    obtain ⟨p, h1, h2, h3, h4⟩ := h d List.mem_cons_self
    obtain ⟨ps, h5, h6, h7, h8⟩ := weight_le (ds := ds) fun x hx => h x (List.mem_cons_of_mem _ hx)
    refine ⟨p :: ps, by simp only [pds, h1, h5], by simp [leafOks, h2, h6], by simp only [PyData.depthAll]; omega, ?_⟩
    simp only [PyData.weightAll, List.length_cons, Nat.add_mul]
    omega
theorem pd_rows {W : Nat → Nat → Nat} {N : Nat} (hN : N ≤ 80) (hW : ∀ u v, W u v < 1000) : ∃ p, pd (rowsD W N) = some p ∧ leafOk p = true ∧ p.depth ≤ 60 ∧ p.weight ≤ 2 ^ 20 := by
  have hrow : ∀ u, ∃ p, pd (.tup (rowD W N u)) = some p ∧ leafOk p = true ∧ p.depth ≤ 1 ∧ p.weight ≤ 880 := fun u => by
    obtain ⟨ps, h1, h2, h3, h4⟩ := weight_le (n := 0) (w := 10) (ds := rowD W N u) fun d hd => by
      obtain ⟨v, _, rfl⟩ := List.mem_map.mp hd
      split
      · exact ⟨.none, rfl, rfl, Nat.zero_le _, Nat.zero_le _⟩
      · refine ⟨.int (W u v), rfl, ?_, Nat.zero_le _, ?_⟩
        · have := hW u v
          simp only [leafOk, decide_eq_true_eq, Int.natAbs_natCast]
          exact Nat.lt_of_lt_of_le this (by decide)
        · simp only [PyData.weight]
          split
          · exact Nat.zero_le _
          · rename_i h
            have h0 : W u v ≠ 0 := by
              intro e
              rw [e] at h
              exact h rfl
            have := (Nat.log2_lt h0).mpr (show W u v < 2 ^ 10 from Nat.lt_of_lt_of_le (hW u v) (by decide))
            simp only [Int.natAbs_natCast]; omega
    refine ⟨.tuple ps, by simp only [pd, h1], by simpa [leafOk] using h2, by simp only [PyData.depth]; omega, ?_⟩
    simp only [PyData.weight]
    have : (rowD W N u).length = N := by simp [rowD]
    rw [this] at h4
    omega
  obtain ⟨ps, h1, h2, h3, h4⟩ := weight_le (n := 1) (w := 880) (ds := (List.range N).map fun u => D.tup (rowD W N u)) fun d hd => by
    obtain ⟨u, _, rfl⟩ := List.mem_map.mp hd
    exact hrow u
  refine ⟨.tuple ps, by simp only [rowsD, pd, h1], by simpa [leafOk] using h2, by simp only [PyData.depth]; omega, ?_⟩
  simp only [PyData.weight]
  rw [List.length_map, List.length_range] at h4
  have : (2 : Nat) ^ 20 = 1048576 := by decide
  omega
theorem repr_bl {ce : Ce} (b : Bool) : opB ce .repr [.bl b] = some (.str (PyData.bool b).shown) := repr_ev (p := .bool b) rfl rfl (Nat.zero_le _) (Nat.zero_le _)
theorem ne_bl {ce : Ce} (b : Bool) : opCmp ce .ne (.str (PyData.bool b).shown) (.str (PyData.bool b).shown) = some false := repr_ne rfl
theorem Lk.take {R : Nat → Nat → Nat} {m : Nat} {here there : List Nat} (h : Lk R m here there) (c : Nat) : Lk R m (here.take c) (there.take c) := by
  have hl := h.l
  refine ⟨fun x hx => h.h x (List.mem_of_mem_take hx), fun x hx => h.t x (List.mem_of_mem_take hx), h.hn.sublist (List.take_sublist _ _), h.tn.sublist (List.take_sublist _ _), by simp; omega, fun i j hi hj => ?_, by have := h.b; simp; omega⟩
  simp only [List.length_take] at hi hj
  have := h.e i j (by omega) (by omega)
  simpa using this
theorem betw_lt {k : Nat} (hk : 0 < k) (a b : Br) : betw k a b < k := by
  unfold betw
  split
  · exact hk
  · exact Nat.mod_lt _ hk
theorem saying_at {k : Nat} (hk : k ≤ 100) {t : D} (hT : isV t = true) {c : Nat} {lk : List Nat} (hkc : lk.contains c = false) (X dp p left : Nat) (hX : dp + 3 ≤ X) (ce : Ce) (hpd : p + dp ≤ 100) (hd : Dl c ce) (hlk : ∀ x ∈ lk, x < ce.length) :
    FRun ((ka X).fn "_law_saying" [.ref c, .tup [.lst (rngD k), t], iD p, iD left, iD dp] lk ce) fun d ce' => ∃ s, OkS (dp + 1) p s ∧ d = sD s ∧ Stp c ce ce' := by
  obtain ⟨l, rfl⟩ : ∃ l, X = l + dp + 3 := ⟨X - dp - 3, by omega⟩
  exact saying_run hk hT hkc dp l p left ce hpd hd hlk
theorem holds_at {W : Nat → Nat → Nat} {N : Nat} (hN : N ≤ 900) (X n p : Nat) (hX : n ≤ X) (hn : n ≤ 25) (s : Say) (h : OkS n p s) (ch : List Nat) (hl : ch.length = p) (hp : p ≤ 100) (hch : ∀ x ∈ ch, x < N) (lk : List Nat) (ce : Ce) :
    (ka X).fn "holds_in" [rowsD W N, .tup (nD ch), sD s] lk ce = .ok (.bl (hS W N n ch s)) ce ∧ (ka X).fn "_law_holds" [rowsD W N, .tup (nD ch), sD s] lk ce = .ok (.bl (hS W N n ch s)) ce := by
  obtain ⟨l, rfl⟩ : ∃ l, X = l + n := ⟨X - n, by omega⟩
  exact ⟨holds_in_ev (by omega) l n p s h ch hl hch (by omega) lk ce, law_holds_ev (by omega) l n p s h hn ch hl hch (by omega) lk ce⟩
/-- the sizes that are drawn -/
def cfgs : List D := [.tup [.int 2, .int 2], .tup [.int 2, .int 3], .tup [.int 2, .int 3], .tup [.int 2, .int 4], .tup [.int 3, .int 2], .tup [.int 3, .int 3], .tup [.int 4, .int 2], .tup [.int 1, .int 5]]
theorem cfgs_ok {d : D} (h : d ∈ cfgs) : ∃ k m : Nat, Cfg k m ∧ d = .tup [iD k, iD m] := by
  simp only [cfgs, List.mem_cons, List.not_mem_nil, or_false] at h
  rcases h with rfl | rfl | rfl | rfl | rfl | rfl | rfl | rfl
  · exact ⟨2, 2, ⟨by decide, by decide, by decide⟩, rfl⟩
  · exact ⟨2, 3, ⟨by decide, by decide, by decide⟩, rfl⟩
  · exact ⟨2, 3, ⟨by decide, by decide, by decide⟩, rfl⟩
  · exact ⟨2, 4, ⟨by decide, by decide, by decide⟩, rfl⟩
  · exact ⟨3, 2, ⟨by decide, by decide, by decide⟩, rfl⟩
  · exact ⟨3, 3, ⟨by decide, by decide, by decide⟩, rfl⟩
  · exact ⟨4, 2, ⟨by decide, by decide, by decide⟩, rfl⟩
  · exact ⟨1, 5, ⟨by decide, by decide, by decide⟩, rfl⟩
theorem line8 : 8 ≤ line := by decide
theorem law_run (ns : List Int) : FRun ((ka 21).fn "law" [.lst (ns.map .int)] [] []) fun d ce' => d = .bl true ∧ ce' = [] := by
  refine fn_run t_law rfl ?_
  simp only [d_law, c_law, n_law]
  obtain ⟨_, _, e1, xs, b, rfl, hg, rfl⟩ := draw_run (L := mach.L) t_draw (ce := []) (lk := []) ns 963 (by decide) (by decide) 19
  let sc : D := .lst (ns.map .int)
  refine run_new (d := deal xs b) (ds := [.own (xs.map .int), .int b]) (st1 := ⟨[some sc, none, none, none, none, none, none, none, none, none, none, none, none, none, none, none, none, none, none, none], []⟩) ?_ (.inr rfl) ?_
  · simp [e1, sc]
  let ce1 : Ce := [some (deal xs b)]
  have hd1 : Dl 0 ce1 := ⟨xs, b, rfl, hg⟩
  show Run _ _ _ (⟨[some sc, some (.ref 0), none, none, none, none, none, none, none, none, none, none, none, none, none, none, none, none, none, none], ce1⟩ : S) _
  obtain ⟨dc, ce2, e2, hdc, hs2⟩ := of_run (L := mach.L) (lk := []) t_any t_of (ds := cfgs) hd1 rfl (by simp [cfgs]) (by decide) (fun d hd => by
    obtain ⟨k, m, _, rfl⟩ := cfgs_ok hd
    rfl) 18 (.inr rfl)
  obtain ⟨k, m, hc, rfl⟩ := cfgs_ok hdc
  have hk := hc.k0
  have hk20 := hc.k40
  have hm40 := hc.m40
  refine run_asg (d := .tup [iD k, iD m]) (st1 := ⟨[some sc, some (.ref 0), none, none, none, none, none, none, none, none, none, none, none, none, none, none, none, none, none, none], ce2⟩) (st2 := ⟨[some sc, some (.ref 0), some (iD k), some (iD m), none, none, none, none, none, none, none, none, none, none, none, none, none, none, none, none], ce2⟩) ?_ ?_ ?_
  · have e2' : (lev tab mach.L 20).fn "_law_of" [.ref 0, .lst cfgs] [] ce1 = .ok (.tup [iD k, iD m]) ce2 := e2
    simp only [cfgs] at e2'
    simp [line2, line8, e2']
  · simp [Ts.len]
  have hrk : ∀ ce, opB ce .range1 [.int (k : Int)] = some (.rng 0 (k : Int)) := fun ce => b_range (by omega)
  have hlk : ∀ ce, opB ce .list [.rng 0 (k : Int)] = some (.new (rngD k)) := fun ce => b_list sv_range (by rw [rngD_length]; exact nat_le_line (by omega))
  obtain ⟨_, ce2', e3, hce, t, hT, rfl⟩ := law_by_ev (show k ≤ 100 by omega) [] ce2 (by simp) 18
  rw [hce] at e3
  let kd : D := .tup [.lst (rngD k), t]
  refine run_nm (d := kd) (x := kd) (st1 := ⟨[some sc, some (.ref 0), some (iD k), some (iD m), none, none, none, none, none, none, none, none, none, none, none, none, none, none, none, none], ce2⟩) ?_ rfl ?_
  · have e3' : (lev tab mach.L 20).fn "_law_by" [.lst (rngD k), .clo 0 []] [] ce2 = .ok kd ce2 := e3
    simp [hrk, hlk, e3']
  have hd2 := Stp.dl hd1 hs2
  obtain ⟨_, ce3, e4, R, hR, rfl, hs3⟩ := free_rows_run (k := k) (m := m) (lk := []) hd2 (by simp) rfl hk (by omega) (by omega) 18
  have hd3 := Stp.dl hd2 hs3
  have hs23 := hs2.trans hs3
  refine run_nm (d := rowsD R m) (x := rowsD R m) (st1 := ⟨[some sc, some (.ref 0), some (iD k), some (iD m), some kd, none, none, none, none, none, none, none, none, none, none, none, none, none, none, none], ce3⟩) ?_ rfl ?_
  · have e4' : (lev tab mach.L 20).fn "_law_free_rows" [.ref 0, iD k, iD m] [] ce2 = .ok (rowsD R m) ce3 := e4
    simp [e4']
  have hw : ∀ b ∈ bear R k m, Bw k m b := fun b hb => (mem_bear hk hR).mp hb
  have hN := bear_len (R := R) hc
  let W := wideW k (bear R k m)
  let N := (bear R k m).length
  have e5 : ∀ ce, (lev tab mach.L 20).fn "bearing_rows" [iD k, rowsD R m] [] ce = .ok (rowsD W N) ce := fun ce => bearing_rows_ev R k m hc hw [] ce (by simp) 17
  have e6 : ∀ ce, (lev tab mach.L 20).fn "_law_bearing" [iD k, rowsD R m] [] ce = .ok (rowsD W N) ce := fun ce => law_bearing_ev R k m hc hw [] ce (by simp) 17
  refine run_nm (d := rowsD W N) (x := rowsD W N) (st1 := ⟨[some sc, some (.ref 0), some (iD k), some (iD m), some kd, some (rowsD R m), none, none, none, none, none, none, none, none, none, none, none, none, none, none], ce3⟩) (by simp [e5]) rfl ?_
  obtain ⟨pw, w1, w2, w3, w4⟩ := pd_rows (W := W) (N := N) hN fun u v => Nat.lt_trans (betw_lt hk _ _) (by omega)
  have hrep : ∀ ce, opB ce .repr [rowsD W N] = some (.str pw.shown) := fun ce => repr_ev (by rw [pdc_V rfl]; exact w1) w2 w3 w4
  have hrne : ∀ ce, opCmp ce .ne (.str pw.shown) (.str pw.shown) = some false := fun ce => repr_ne w2
  refine run_if (t := false) (st1 := ⟨[some sc, some (.ref 0), some (iD k), some (iD m), some kd, some (rowsD R m), some (rowsD W N), none, none, none, none, none, none, none, none, none, none, none, none, none], ce3⟩) (by simp [hrep, e6, hrne]) ?_
  have h3 : ∀ ce, opB ce .range1 [.int (3 : Int)] = some (.rng 0 3) := fun ce => b_range (n := 3) (by decide)
  have hs3' : ∀ ce, seqV ce (.rng 0 3) = some (rngD 3) := fun ce => sv_range (n := 3)
  have hl3 : ce3.length = 1 := by rw [hs3.len, hs2.len]; rfl
  refine run_for (ds := rngD 3) (l := []) (st1 := ⟨[some sc, some (.ref 0), some (iD k), some (iD m), some kd, some (rowsD R m), some (rowsD W N), none, none, none, none, none, none, none, none, none, none, none, none, none], ce3⟩) (J := fun _ st => ∃ ce w7 w8 w9 w10 w11 w12 w13 w14 w15, Dl 0 ce ∧ ce.length = 1 ∧ st = ⟨[some sc, some (.ref 0), some (iD k), some (iD m), some kd, some (rowsD R m), some (rowsD W N), w7, w8, w9, w10, w11, w12, w13, w14, w15, none, none, none, none], ce⟩) ?_ ⟨ce3, none, none, none, none, none, none, none, none, none, hd3, hl3, rfl⟩ ?_ ?_
  · simp [h3, hs3']
  · rintro i d st hdd ⟨ce, w7, w8, w9, w10, w11, w12, w13, w14, w15, hd, hl, rfl⟩
    let mk : Option D → Option D → Option D → Option D → Option D → Option D → Option D → Option D → Ce → S := fun w8 w9 w10 w11 w12 w13 w14 w15 ce => ⟨[some sc, some (.ref 0), some (iD k), some (iD m), some kd, some (rowsD R m), some (rowsD W N), some d, w8, w9, w10, w11, w12, w13, w14, w15, none, none, none, none], ce⟩
    obtain ⟨j, hj, rfl⟩ : ∃ j, j < 3 ∧ d = iD j := by
      obtain ⟨h1, h2⟩ := getElem?_rng hdd
      exact ⟨i, h1, h2⟩
    refine ⟨mk w8 w9 w10 w11 w12 w13 w14 w15 ce, by simp [mk], ?_⟩
    -- the pair
    obtain ⟨_, ce4, e7, here0, there0, hL0, rfl, hs4⟩ := drawn_pair_run (lk := []) hR hd (by simp) rfl (show m ≤ 100 by omega) 17
    have hd4 := Stp.dl hd hs4
    have hl4 : ce4.length = 1 := by rw [hs4.len]; exact hl
    refine run_asg (d := .tup [.tup (nD here0), .tup (nD there0)]) (st1 := mk w8 w9 w10 w11 w12 w13 w14 w15 ce4) (st2 := mk (some (.tup (nD here0))) (some (.tup (nD there0))) w10 w11 w12 w13 w14 w15 ce4) ?_ ?_ ?_
    · have e7' : (lev tab mach.L 20).fn "_law_drawn_pair" [.ref 0, rowsD R m] [] ce = .ok (.tup [.tup (nD here0), .tup (nD there0)]) ce4 := e7
      simp [mk, e7']
    · simp [mk, Ts.len]
    have hsl : ∀ ce xs, opSl ce (.tup (nD xs)) none (some 3) = some (.tup (nD (xs.take 3))) := fun ce xs => by
      have := cut_to (nD xs) 3
      rw [nD_take] at this
      exact congrArg (fun x => some (D.tup x)) this
    generalize hhe : here0.take 3 = here at *
    generalize hth : there0.take 3 = there at *
    have hL : Lk R m here there := by rw [← hhe, ← hth]; exact hL0.take 3
    have hlen : here.length ≤ 3 := by rw [← hhe]; simp; omega
    refine run_nx (st1 := mk (some (.tup (nD here))) (some (.tup (nD there))) w10 w11 w12 w13 w14 w15 ce4) ?_ ?_
    · rw [es_par]
      simp [mk, hsl, hhe, hth]
    -- the symmetry
    obtain ⟨σ, hs, hσ, e8⟩ := grown_ev hc hR hL [] ce4 (by simp) 16
    let val := valN R k m here σ
    have hvs : Sg N val := val_sg hk hR hs
    have hvh := val_here hk hR hL hs hσ
    have hve := val_ent hk hR hL hs hσ
    have hmN : m ≤ N := bear_ge
    refine run_nm (d := .tup (nD val)) (x := .tup (nD val)) (st1 := mk (some (.tup (nD here))) (some (.tup (nD there))) w10 w11 w12 w13 w14 w15 ce4) ?_ rfl ?_
    · have e8' : (lev tab mach.L 20).fn "grown_symmetry" [iD k, rowsD R m, .tup (nD here), .tup (nD there)] [] ce4 = .ok (.tup (nD val)) ce4 := e8
      simp [mk, e8']
    show Run _ _ _ (mk (some (.tup (nD here))) (some (.tup (nD there))) (some (.tup (nD val))) w11 w12 w13 w14 w15 ce4) _
    have e9 : (lev tab mach.L 20).fn "is_likeness" [rowsD R m, .tup (nD here), .tup (nD there)] [] ce4 = .ok (.bl true) ce4 := is_likeness_ev hL (by omega) [] ce4 17
    have hhN : ∀ x ∈ here, x < N := fun x hx => Nat.lt_of_lt_of_le (hL.h x hx) hmN
    have hvget : ∀ u, u < N → val[u]? = some (gσ val u) := fun u hu => by
      have : u < val.length := by rw [hvs.len]; exact hu
      simp [gσ, this]
    have e10 : (lev tab mach.L 20).fn "_law_is_symmetry" [rowsD W N, .tup (nD here), .tup (nD there), .tup (nD val)] [] ce4 = .ok (.bl true) ce4 :=
      is_symmetry_ev (by omega) hvs.p hhN hL.l (by omega) (fun j hj => by rw [hvget _ (hhN _ (List.getElem_mem hj)), hvh j hj]) hve [] ce4 18
    refine run_if (t := false) (st1 := mk (some (.tup (nD here))) (some (.tup (nD there))) (some (.tup (nD val))) w11 w12 w13 w14 w15 ce4) ?_ ?_
    · simp [mk, e9, e10, isK]
    -- what may be left
    obtain ⟨left, hleft⟩ : ∃ left : Nat, oE (lev tab mach.L 20) [] (.callB .min2 (.cons (.ite (.cmp .gt (.callB .len (.cons (.var 6) .nil)) (.int 16)) (.int 1) (.int 2)) (.cons (.bin .sub (.int 4) (.callB .len (.cons (.var 8) .nil))) .nil))) (mk (some (.tup (nD here))) (some (.tup (nD there))) (some (.tup (nD val))) w11 w12 w13 w14 w15 ce4) = .ok (iD left) (mk (some (.tup (nD here))) (some (.tup (nD there))) (some (.tup (nD val))) w11 w12 w13 w14 w15 ce4) := by
      have h4 : (4 : Int) - (here.length : Int) = ((4 - here.length : Nat) : Int) := by omega
      by_cases hN16 : 16 < N
      · have i1 : (16 : Int) < (N : Int) := by omega
        refine ⟨if ((4 - here.length : Nat) : Int) < 1 then 4 - here.length else 1, ?_⟩
        simp only [ev_callB, evs_cons, ev_ite, ev_cmp, evs_nil, ev_var, ev_int, ev_bin, mk, List.getElem?_cons_succ, List.getElem?_cons_zero, Res.bind_ok, rowsD_len, Res.of_some, lkO_rowsD, lkO_int, lkO_tup, List.nil_append, c_gt, i1, decide_true, Option.map_some, boolR_ok1, b_len_tup, nD_length, o_sub, h4, b_min2]
        split <;> rfl
      · have i1 : ¬ (16 : Int) < (N : Int) := by omega
        refine ⟨if ((4 - here.length : Nat) : Int) < 2 then 4 - here.length else 2, ?_⟩
        simp only [ev_callB, evs_cons, ev_ite, ev_cmp, evs_nil, ev_var, ev_int, ev_bin, mk, List.getElem?_cons_succ, List.getElem?_cons_zero, Res.bind_ok, rowsD_len, Res.of_some, lkO_rowsD, lkO_int, lkO_tup, List.nil_append, c_gt, i1, decide_false, Option.map_some, boolR_ok1, b_len_tup, nD_length, o_sub, h4, b_min2]
        split <;> rfl
    refine run_nm hleft rfl ?_
    show Run _ _ _ (mk (some (.tup (nD here))) (some (.tup (nD there))) (some (.tup (nD val))) (some (iD left)) w12 w13 w14 w15 ce4) _
    -- a saying
    obtain ⟨dv, ce5, hdv, hs5, e11⟩ := any_nat (m := 3) (lk := []) hd4 rfl (by decide) (by decide) 19
    have hd5 := Stp.dl hd4 hs5
    obtain ⟨_, ce6, e12, say, hsay, rfl, hs6⟩ := saying_at (show k ≤ 100 by omega) hT (lk := []) rfl 20 (2 + dv) here.length left (by omega) ce5 (by omega) hd5 (by simp)
    have hd6 := Stp.dl hd5 hs6
    have hl6 : ce6.length = 1 := by rw [hs6.len, hs5.len]; exact hl4
    refine run_nm (d := sD say) (x := sD say) (st1 := mk (some (.tup (nD here))) (some (.tup (nD there))) (some (.tup (nD val))) (some (iD left)) w12 w13 w14 w15 ce6) ?_ (arg_V (sD_V _)) ?_
    · have e12' : (lev tab mach.L 20).fn "_law_saying" [.ref 0, kd, iD here.length, iD left, iD (2 + dv)] [] ce5 = .ok (sD say) ce6 := e12
      have h2 : (2 : Int) + (dv : Int) = ((2 + dv : Nat) : Int) := by omega
      have hkd : arg kd = some kd := rfl
      have hkl : lkO kd = [] := rfl
      simp at e11
      simp [mk, hkd, hkl, e11, -Int.natCast_add, h2, e12']
    show Run _ _ _ (mk (some (.tup (nD here))) (some (.tup (nD there))) (some (.tup (nD val))) (some (iD left)) (some (sD say)) w13 w14 w15 ce6) _
    -- it holds alike
    have hold := fun ch (hl : ch.length = here.length) hch ce => holds_at (W := W) (N := N) (by omega) 20 (2 + dv + 1) here.length (by omega) (by omega) say hsay ch hl (by omega) hch [] ce
    have h1 := fun ce => (hold here rfl hhN ce).1
    have h1' := fun ce => (hold here rfl hhN ce).2
    have hthere : there = here.map (gσ val) := by
      apply List.ext_getElem
      · rw [List.length_map]; exact hL.l.symm
      · intro i a1 a2
        rw [List.getElem_map, hvh i (by rw [hL.l]; exact a1)]
    have hthN : ∀ x ∈ there, x < N := fun x hx => Nat.lt_of_lt_of_le (hL.t x hx) hmN
    have h2 := fun ce => (hold there hL.l.symm hthN ce).1
    have hau : hS W N (2 + dv + 1) there say = hS W N (2 + dv + 1) here say := by
      rw [hthere]; exact hS_auto hvs hve _ _ say hsay here rfl hhN
    rw [hau] at h2
    generalize hS W N (2 + dv + 1) here say = bb at *
    have hsa := arg_V (sD_V say)
    have hsk := lkO_V (sD_V say)
    refine run_nm (d := .bl bb) (x := .bl bb) (st1 := mk (some (.tup (nD here))) (some (.tup (nD there))) (some (.tup (nD val))) (some (iD left)) (some (sD say)) w13 w14 w15 ce6) (by simp [mk, hsa, hsk, h1]) rfl ?_
    show Run _ _ _ (mk (some (.tup (nD here))) (some (.tup (nD there))) (some (.tup (nD val))) (some (iD left)) (some (sD say)) (some (.bl bb)) w14 w15 ce6) _
    refine run_if (t := false) (st1 := mk (some (.tup (nD here))) (some (.tup (nD there))) (some (.tup (nD val))) (some (iD left)) (some (sD say)) (some (.bl bb)) w14 w15 ce6) ?_ ?_
    · simp [mk, hsa, hsk, h1', h2, repr_bl, ne_bl]
    -- other places
    obtain ⟨ord, ce7, ho, hs7, e13⟩ := mixed_nD (m := N) (lk := []) hd6 (by simp) rfl (by omega) 18
    have hd7 := Stp.dl hd6 hs7
    have hl7 : ce7.length = 1 := by rw [hs7.len]; exact hl6
    have hrN : ∀ ce, opB ce .range1 [.int (N : Int)] = some (.rng 0 (N : Int)) := fun ce => b_range (by omega)
    have hlN : ∀ ce, opB ce .list [.rng 0 (N : Int)] = some (.new (rngD N)) := fun ce => b_list sv_range (by rw [rngD_length]; exact nat_le_line (by omega))
    let so := ord.take here.length
    have hsol : so.length = here.length := by
      have h := ho.length_eq
      rw [List.length_range] at h
      have : here.length ≤ N := by
        have := perm_split hhN hL.hn
        have := this.length_eq
        rw [List.length_append, List.length_range] at this
        omega
      simp only [so, List.length_take]; omega
    have hsoN : ∀ x ∈ so, x < N := fun x hx => by simpa using ho.subset (List.mem_of_mem_take hx)
    have ht1 : ∀ ce, opB ce .tuple [.new (nD so)] = some (.tup (nD so)) := fun ce => b_tuple (sv_new _) (by rw [nD_length]; exact nat_le_line (by omega))
    refine run_nm (d := .tup (nD so)) (x := .tup (nD so)) (st1 := mk (some (.tup (nD here))) (some (.tup (nD there))) (some (.tup (nD val))) (some (iD left)) (some (sD say)) (some (.bl bb)) w14 w15 ce7) ?_ rfl ?_
    · have e13' : (lev tab mach.L 20).fn "_law_mixed" [.ref 0, .lst (rngD N)] [] ce6 = .ok (.own (nD ord)) ce7 := e13
      simp [mk, rowsD_len, hrN, hlN, e13', sl_own]
      rw [ht1]; rfl
    show Run _ _ _ (mk (some (.tup (nD here))) (some (.tup (nD there))) (some (.tup (nD val))) (some (iD left)) (some (sD say)) (some (.bl bb)) (some (.tup (nD so))) w15 ce7) _
    have c1 := comp_nm (k := lev tab mach.L 20) (lk := []) (l := []) (own := [19]) (i := 19) (it := .pl (.var 14)) (e := .idx (.var 10) (.var 19)) (as := so) (f := iD) (g := fun u => iD (gσ val u)) (st := mk (some (.tup (nD here))) (some (.tup (nD there))) (some (.tup (nD val))) (some (iD left)) (some (sD say)) (some (.bl bb)) (some (.tup (nD so))) w15 ce7) (st1 := mk (some (.tup (nD here))) (some (.tup (nD there))) (some (.tup (nD val))) (some (iD left)) (some (sD say)) (some (.bl bb)) (some (.tup (nD so))) w15 ce7) (by simp [mk, nD]) (nat_le_line (by omega)) (fun _ _ => rfl) (fun u hu => ⟨iD (gσ val u), ⟨(mk (some (.tup (nD here))) (some (.tup (nD there))) (some (.tup (nD val))) (some (iD left)) (some (sD say)) (some (.bl bb)) (some (.tup (nD so))) w15 ce7).sl.set 19 (some (iD u)), ce7⟩, by
      have := hvget u (hsoN u hu)
      simp [mk, this], rfl, rfl⟩)
    have hx : (so.map fun u => iD (gσ val u)) = nD (so.map (gσ val)) := by simp [nD, Function.comp_def]
    rw [hx] at c1
    have ht2 : ∀ ce, opB ce .tuple [.new (nD (so.map (gσ val)))] = some (.tup (nD (so.map (gσ val)))) := fun ce => b_tuple (sv_new _) (by rw [nD_length, List.length_map]; exact nat_le_line (by omega))
    refine run_nm (d := .tup (nD (so.map (gσ val)))) (x := .tup (nD (so.map (gσ val)))) (st1 := mk (some (.tup (nD here))) (some (.tup (nD there))) (some (.tup (nD val))) (some (iD left)) (some (sD say)) (some (.bl bb)) (some (.tup (nD so))) w15 ce7) ?_ rfl ?_
    · show oE _ [] (.callB .tuple _) _ = _
      rw [ev_callB, evs_cons, c1]; simp [ht2]
    show Run _ _ _ (mk (some (.tup (nD here))) (some (.tup (nD there))) (some (.tup (nD val))) (some (iD left)) (some (sD say)) (some (.bl bb)) (some (.tup (nD so))) (some (.tup (nD (so.map (gσ val))))) ce7) _
    have h3 := fun ce => (hold so hsol hsoN ce).1
    have h4 := fun ce => (hold (so.map (gσ val)) (by rw [List.length_map]; exact hsol) (fun x hx => by
      obtain ⟨u, hu, rfl⟩ := List.mem_map.mp hx
      exact hvs.lt (hsoN u hu)) ce).1
    have hau2 : hS W N (2 + dv + 1) (so.map (gσ val)) say = hS W N (2 + dv + 1) so say := hS_auto hvs hve _ _ say hsay so hsol hsoN
    rw [hau2] at h4
    generalize hS W N (2 + dv + 1) so say = bc at *
    refine run_if (t := false) (st1 := mk (some (.tup (nD here))) (some (.tup (nD there))) (some (.tup (nD val))) (some (iD left)) (some (sD say)) (some (.bl bb)) (some (.tup (nD so))) (some (.tup (nD (so.map (gσ val))))) ce7) ?_ (run_nil ⟨.inl rfl, ce7, some (iD j), some (.tup (nD here)), some (.tup (nD there)), some (.tup (nD val)), some (iD left), some (sD say), some (.bl bb), some (.tup (nD so)), some (.tup (nD (so.map (gσ val)))), hd7, hl7, ?_⟩)
    · simp [mk, hsa, hsk, h3, h4, repr_bl, ne_bl]
    · rw [trim_self (by simp [mk, hl3, hl7])]
  · rintro st ⟨ce, w7, w8, w9, w10, w11, w12, w13, w14, w15, hd, hl, rfl⟩
    exact run_ret (d := .bl true) (st1 := ⟨[some sc, some (.ref 0), some (iD k), some (iD m), some kd, some (rowsD R m), some (rowsD W N), w7, w8, w9, w10, w11, w12, w13, w14, w15, none, none, none, none], ce⟩) (by simp) (fr_V rfl ⟨rfl, by simp⟩)
end OV
/-! text F94 -/
theorem PySem.Challenge.cw_ringstell_k94_whole_alike_places_have_th_holds : PySem.Challenge.rw_ringstell_k94_whole_alike_places_have_th.Holds := by
  refine OV.law_of 20 ⟨rfl, by decide, by decide⟩ fun ns _ _ => ?_
  obtain ⟨_, _, e, rfl, rfl⟩ := OV.law_run ns
  exact e
